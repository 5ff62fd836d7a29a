/- The engine, part Z: the rules in short: what they ask beside is found by itself. -/
import Derived.Test.YtffkjjakceojfaaDoorEngG
import Derived.Test.YtffkjjakceojfaaDoorEngH
import Derived.Test.YtffkjjakceojfaaDoorEngI
namespace Go.Proofs.YtffkjjakceojfaaDoor
open Go
set_option linter.unusedVariables false
set_option linter.unusedSimpArgs false

/-- A list's length, found by instance. -/
class Len (l : List Value) (n : outParam Nat) : Prop where h : l.length = n
theorem Len.of {l : List Value} {n : Nat} (h : l.length = n) : Len l n := ⟨h⟩
instance {d : Dig} : Len (dc d) 16 := ⟨dc_length d⟩
instance : Len zD 16 := ⟨zD_length⟩
instance {α : Type} {V : α → Value} {m : Nat} {f : Nat → α} : Len (fnc V m f) m := ⟨fnc_length⟩
class One (l : List Value) : Prop where h : ∀ v ∈ l, v.oneCell' = true
theorem One.of {l : List Value} (h : ∀ v ∈ l, v.oneCell' = true) : One l := ⟨h⟩
class One1 (v : Value) : Prop where h : v.oneCell' = true
theorem len_L {l : List Value} {n : Nat} [Len l n] : l.length = n := Len.h
theorem drop_L {q r : List Value} {m k : Nat} [h : Len q m] (hk : m ≤ k) : List.drop k (q ++ r) = List.drop (k - m) r := drop_q h.h hk
theorem drop_L' {q : List Value} {m k : Nat} [h : Len q m] (hk : m ≤ k) : List.drop k q = [] := drop_q' h.h hk
theorem take_L {q r : List Value} {m k : Nat} [h : Len q m] (hk : m ≤ k) : List.take k (q ++ r) = q ++ List.take (k - m) r := take_q h.h hk
theorem take_L' {q : List Value} {m k : Nat} [h : Len q m] (hk : m ≤ k) : List.take k q = q := take_q' h.h hk
theorem get_L {q r : List Value} {m k : Nat} [h : Len q m] (hk : m ≤ k) : (q ++ r)[k]? = r[k - m]? := get_q h.h hk

section
variable {P : Program} {w0 : World} {F0 : Nat → Prop} {L : List Res} {Q : Exit → Act → World → Prop} {n : Nat} {env : Env} {ops : Array Oper} {rest : List Oper}
variable {d : Option Tmp} {t : Tmp} {op : Op} {ty : TypeId} {pos : String} {af : Array Edge} {gd : Option (Nat × Bool)} {v : Value}

theorem gp (h : Runs P w0 F0 L n env ⟨some t, op, ty, pos, af, gd⟩ v) (k : Gl P w0 F0 L ops Q rest n ((t, v) :: env)) (hw : Wt ops n env ⟨some t, op, ty, pos, af, gd⟩ true := by exact wt0 rfl) : Gl P w0 F0 L ops Q (⟨some t, op, ty, pos, af, gd⟩ :: rest) n env := gl_pure hw h k
theorem gq (h : Runs P w0 F0 L n env ⟨some t, op, ty, pos, af, gd⟩ v) (k : Gl P w0 F0 L ops Q rest n ((t, v) :: env)) (hw : Wt ops n env ⟨some t, op, ty, pos, af, gd⟩ true := by exact wtgT rfl rfl rfl rfl) : Gl P w0 F0 L ops Q (⟨some t, op, ty, pos, af, gd⟩ :: rest) n env := gl_pure hw h k
theorem gn (k : Gl P w0 F0 L ops Q rest n ((t, undef) :: env)) (hw : Wt ops n env ⟨some t, op, ty, pos, af, gd⟩ false := by first | exact wtgF rfl rfl rfl rfl rfl | exact wtu rfl rfl rfl rfl) : Gl P w0 F0 L ops Q (⟨some t, op, ty, pos, af, gd⟩ :: rest) n env := gl_passD hw k
theorem sp {C : Env → Prop} (h : Runs P w0 F0 L n env ⟨some t, op, ty, pos, af, gd⟩ v) (k : Gs P w0 F0 L ops rest n ((t, v) :: env) C) (hw : Wt ops n env ⟨some t, op, ty, pos, af, gd⟩ true := by exact wt0 rfl) : Gs P w0 F0 L ops (⟨some t, op, ty, pos, af, gd⟩ :: rest) n env C := gs_pure hw h k
theorem sq {C : Env → Prop} (h : Runs P w0 F0 L n env ⟨some t, op, ty, pos, af, gd⟩ v) (k : Gs P w0 F0 L ops rest n ((t, v) :: env) C) (hw : Wt ops n env ⟨some t, op, ty, pos, af, gd⟩ true := by exact wtgT rfl rfl rfl rfl) : Gs P w0 F0 L ops (⟨some t, op, ty, pos, af, gd⟩ :: rest) n env C := gs_pure hw h k
theorem sn {C : Env → Prop} (k : Gs P w0 F0 L ops rest n ((t, undef) :: env) C) (hw : Wt ops n env ⟨some t, op, ty, pos, af, gd⟩ false := by first | exact wtgF rfl rfl rfl rfl rfl | exact wtu rfl rfl rfl rfl) : Gs P w0 F0 L ops (⟨some t, op, ty, pos, af, gd⟩ :: rest) n env C := gs_passD hw k
theorem gsr {id : Nat} {l : List Oper} {y : Code} (h : Gl P w0 F0 L l.toArray (Exit.then (y.wp P Q) Q) l n env) : Gc P w0 F0 L (.seq (.region id l.toArray false) y) Q n env := gc_seq (gc_region h)
theorem gnt {y : Code} {Q' : Exit → Act → World → Prop} (h : Gc P w0 F0 L y Q n env) : Gl P w0 F0 L ops (Exit.then (y.wp P Q) Q') [] n env := gl_nil (gx_then h)
theorem zmv {x : Operand} (hx : ev n env x = v := by conv => lhs; whnf) : Runs P w0 F0 L n env ⟨d, .move x, ty, pos, af, gd⟩ v := r_move hx
theorem zas {x : Operand} (hx : ev n env x = v := by conv => lhs; whnf) : Runs P w0 F0 L n env ⟨d, .assign x, ty, pos, af, gd⟩ v := r_assign hx
theorem zpk {c x y : Operand} {b : Bool} (hc : ev n env c = .bool b := by exact rfl) (hv : (bif b then ev n env x else ev n env y) = v := by conv => lhs; whnf) : Runs P w0 F0 L n env ⟨d, .pick c x y, ty, pos, af, gd⟩ v := r_pick hc hv
theorem znc {x : Operand} {a : Addr} (hx : ev n env x = .pointer (some a) := by exact rfl) : Runs P w0 F0 L n env ⟨d, .nilCheck x, ty, pos, af, gd⟩ (.pointer (some a)) := r_nilCheck hx
theorem znt {x : Operand} {T : TypeId} {b : Bool} (hx : ev n env x = .bool b := by exact rfl) : Runs P w0 F0 L n env ⟨d, .unOp .not T x, ty, pos, af, gd⟩ (.bool (!b)) := r_not hx
theorem zex {x : Operand} {i : Nat} {vs : Array Value} (hx : ev n env x = .tuple vs := by exact rfl) (hv : vs[i]? = some v := by exact rfl) : Runs P w0 F0 L n env ⟨d, .extract x i, ty, pos, af, gd⟩ v := r_extract hx hv
def notIf : TypeDesc → Bool | .interface _ => false | _ => true
theorem zmi {x : Operand} {T : TypeId} {dsc : TypeDesc} [UNT P T dsc] (hx : ev n env x = v := by conv => lhs; whnf) (hn : notIf dsc = true := by exact rfl) : Runs P w0 F0 L n env ⟨d, .makeInterface T x, ty, pos, af, gd⟩ (.iface T v) := fun w _ => by
  simp only [execOp, hx, Instr.makeInterface, Sem.run_bind, run_underlying (UNT.h (P := P) (T := T)), Result.andThen_ok]
  cases dsc <;> simp_all [notIf]
theorem zmf {f : Fn} {cs : List Operand} {us : List Value} (hc : cs.map (ev n env) = us := by exact rfl) : Runs P w0 F0 L n env ⟨d, .makeFunc f #[] cs.toArray, ty, pos, af, gd⟩ (.func f #[] us.toArray) := r_makeF hc
theorem zad {x y : Operand} {T T' : TypeId} {k : IntKind} {i j m : Int} (hx : ev n env x = .int k i := by exact rfl) (hy : ev n env y = .int k j := by exact rfl) (h : k.wrap (i + j) = m := by first | exact wrap_i64 (by omega) (by omega) | exact rfl) : Runs P w0 F0 L n env ⟨d, .binOp .add T x y T', ty, pos, af, gd⟩ (.int k m) := r_arith (op := .add) hx hy h
theorem zsb {x y : Operand} {T T' : TypeId} {k : IntKind} {i j m : Int} (hx : ev n env x = .int k i := by exact rfl) (hy : ev n env y = .int k j := by exact rfl) (h : k.wrap (i - j) = m := by first | exact wrap_i64 (by omega) (by omega) | exact rfl) : Runs P w0 F0 L n env ⟨d, .binOp .sub T x y T', ty, pos, af, gd⟩ (.int k m) := r_arith (op := .sub) hx hy h
theorem zml {x y : Operand} {T T' : TypeId} {k : IntKind} {i j m : Int} (hx : ev n env x = .int k i := by exact rfl) (hy : ev n env y = .int k j := by exact rfl) (h : k.wrap (i * j) = m := by first | exact wrap_i64 (by omega) (by omega) | exact rfl) : Runs P w0 F0 L n env ⟨d, .binOp .mul T x y T', ty, pos, af, gd⟩ (.int k m) := r_arith (op := .mul) hx hy h
theorem zlt {x y : Operand} {T T' : TypeId} {k : IntKind} {i j : Int} (hx : ev n env x = .int k i := by exact rfl) (hy : ev n env y = .int k j := by exact rfl) : Runs P w0 F0 L n env ⟨d, .binOp .lss T x y T', ty, pos, af, gd⟩ (.bool (decide (i < j))) := r_lss hx hy
theorem zle {x y : Operand} {T T' : TypeId} {k : IntKind} {i j : Int} (hx : ev n env x = .int k i := by exact rfl) (hy : ev n env y = .int k j := by exact rfl) : Runs P w0 F0 L n env ⟨d, .binOp .leq T x y T', ty, pos, af, gd⟩ (.bool (decide (i ≤ j))) := r_leq hx hy
theorem zgt {x y : Operand} {T T' : TypeId} {k : IntKind} {i j : Int} (hx : ev n env x = .int k i := by exact rfl) (hy : ev n env y = .int k j := by exact rfl) : Runs P w0 F0 L n env ⟨d, .binOp .gtr T x y T', ty, pos, af, gd⟩ (.bool (decide (j < i))) := r_gtr hx hy
theorem zge {x y : Operand} {T T' : TypeId} {k : IntKind} {i j : Int} (hx : ev n env x = .int k i := by exact rfl) (hy : ev n env y = .int k j := by exact rfl) : Runs P w0 F0 L n env ⟨d, .binOp .geq T x y T', ty, pos, af, gd⟩ (.bool (decide (j ≤ i))) := r_geq hx hy
theorem zei {x y : Operand} {T T' : TypeId} {k : IntKind} {i j : Int} (hx : ev n env x = .int k i := by exact rfl) (hy : ev n env y = .int k j := by exact rfl) : Runs P w0 F0 L n env ⟨d, .binOp .eql T x y T', ty, pos, af, gd⟩ (.bool (decide (i = j))) := r_eql_int hx hy
theorem zni {x y : Operand} {T T' : TypeId} {k : IntKind} {i j : Int} (hx : ev n env x = .int k i := by exact rfl) (hy : ev n env y = .int k j := by exact rfl) : Runs P w0 F0 L n env ⟨d, .binOp .neq T x y T', ty, pos, af, gd⟩ (.bool (!decide (i = j))) := r_neq_int hx hy
theorem zbt {b : BinOp} {x y : Operand} {T T' : TypeId} {k : IntKind} {i j : Int} (hop : (match b with | .and | .or | .xor | .andNot => true | _ => false) = true := by exact rfl) (hx : ev n env x = .int k i := by exact rfl) (hy : ev n env y = .int k j := by exact rfl) : Runs P w0 F0 L n env ⟨d, .binOp b T x y T', ty, pos, af, gd⟩ (.int k (bitop b k i j)) := r_bits hop hx hy
theorem zhl {x y : Operand} {T T' : TypeId} {k k' : IntKind} {i j : Int} (hx : ev n env x = .int k i := by exact rfl) (hy : ev n env y = .int k' j := by exact rfl) (hj : 0 ≤ j := by omega) : Runs P w0 F0 L n env ⟨d, .binOp .shl T x y T', ty, pos, af, gd⟩ (.int k (k.wrap (i * 2 ^ (min j.toNat k.bits)))) := r_shl hx hy hj
theorem zhr {x y : Operand} {T T' : TypeId} {k k' : IntKind} {i j : Int} (hx : ev n env x = .int k i := by exact rfl) (hy : ev n env y = .int k' j := by exact rfl) (hj : 0 ≤ j := by omega) : Runs P w0 F0 L n env ⟨d, .binOp .shr T x y T', ty, pos, af, gd⟩ (.int k (i.fdiv (2 ^ (min j.toNat k.bits)))) := r_shr hx hy hj
theorem zqu {x y : Operand} {T T' : TypeId} {k : IntKind} {i j : Int} (hx : ev n env x = .int k i := by exact rfl) (hy : ev n env y = .int k j := by exact rfl) (hj : j ≠ 0 := by omega) : Runs P w0 F0 L n env ⟨d, .binOp .quo T x y T', ty, pos, af, gd⟩ (.int k (k.wrap (i.tdiv j))) := r_quo hx hy hj
theorem zrm {x y : Operand} {T T' : TypeId} {k : IntKind} {i j : Int} (hx : ev n env x = .int k i := by exact rfl) (hy : ev n env y = .int k j := by exact rfl) (hj : j ≠ 0 := by omega) : Runs P w0 F0 L n env ⟨d, .binOp .rem T x y T', ty, pos, af, gd⟩ (.int k (i.tmod j)) := r_rem hx hy hj
theorem zci {S T : TypeId} {x : Operand} {k k' : IntKind} {i : Int} {ds : TypeDesc} [UNT P S ds] [UNT P T (.int k')] (hx : ev n env x = .int k i := by exact rfl) : Runs P w0 F0 L n env ⟨d, .convert S T x, ty, pos, af, gd⟩ (.int k' (k'.wrap i)) := r_conv_int hx UNT.h UNT.h
theorem zln {x : Operand} {T e : TypeId} {a : Option Addr} {m c : Nat} [SLT P T e] (hx : ev n env x = .slice a m c := by exact rfl) : Runs P w0 F0 L n env ⟨d, .call ⟨.builtin .len, #[x], #[T]⟩, ty, pos, af, gd⟩ (.int .i64 m) := r_len_slice hx SLT.h
theorem zls {x : Operand} {T : TypeId} {s : ByteArray} [UNT P T .string] (hx : ev n env x = .string s := by exact rfl) : Runs P w0 F0 L n env ⟨d, .call ⟨.builtin .len, #[x], #[T]⟩, ty, pos, af, gd⟩ (.int .i64 s.size) := r_len_string hx UNT.h
theorem zfa {x : Operand} {s f g o k : Nat} [FO P s f k] (hx : ev n env x = .pointer (some ⟨g, o, none⟩) := by exact rfl) : Runs P w0 F0 L n env ⟨d, .fieldAddr s x f, ty, pos, af, gd⟩ (.pointer (some ⟨g, o + k, none⟩)) := r_fieldAddr hx FO.h
theorem zia {x y : Operand} {T e g o m c s : Nat} {k : IntKind} {i : Int} [SLT P T e] [SZ P e s] (hx : ev n env x = .slice (some ⟨g, o, none⟩) m c := by exact rfl) (hy : ev n env y = .int k i := by exact rfl) (h0 : 0 ≤ i := by omega) (hm : i < m := by omega) : Runs P w0 F0 L n env ⟨d, .indexAddr T x y, ty, pos, af, gd⟩ (.pointer (some ⟨g, o + i.toNat * s, none⟩)) := r_indexAddr_slice hx hy SLT.h SZ.h h0 hm
theorem zib {x y : Operand} {T e g o m s : Nat} {k : IntKind} {i : Int} [ART P T m e] [SZ P e s] (hx : ev n env x = .pointer (some ⟨g, o, none⟩) := by exact rfl) (hy : ev n env y = .int k i := by exact rfl) (h0 : 0 ≤ i := by omega) (hm : i < m := by omega) : Runs P w0 F0 L n env ⟨d, .indexAddr T x y, ty, pos, af, gd⟩ (.pointer (some ⟨g, o + i.toNat * s, none⟩)) := r_indexAddr_arr hx hy ART.h SZ.h h0 hm
theorem zl {x : Operand} {T g o T' : Nat} {cs : List Value} {L' : List Res} [RO P T] (hx : ev n env x = .pointer (some ⟨g, o, none⟩) := by exact rfl) (hp : Pick L (blk g T' cs) L' := by repeat (first | exact Pick.here | apply Pick.there)) (hv : cs[o]? = some v := by first | exact rfl | (simp only [List.getElem?_cons_succ, List.getElem?_cons_zero, List.cons_append, List.append_assoc, get_dc, get_L, Nat.reduceLeDiff, Nat.reduceSub, Nat.reduceAdd, Nat.le_refl]; exact rfl)) : Runs P w0 F0 L n env ⟨d, .load T x, ty, pos, af, gd⟩ v := r_ld1 hx RO.h hp hv
theorem zL {x : Operand} {T g o T' m : Nat} {cs sg : List Value} {L' : List Res} [RA P T] [SZ P T m] (hx : ev n env x = .pointer (some ⟨g, o, none⟩) := by exact rfl) (hp : Pick L (blk g T' cs) L' := by repeat (first | exact Pick.here | apply Pick.there)) (hg : (cs.drop o).take m = sg := by (simp only [List.drop_succ_cons, List.drop_zero, List.take_succ_cons, List.take_zero, List.cons_append, List.nil_append, List.append_assoc, drop_dc, drop_dc', take_dc, take_dc', drop_L, drop_L', take_L, take_L', Nat.reduceLeDiff, Nat.reduceSub, Nat.reduceAdd, Nat.le_refl, List.length_cons, List.length_append, List.length_nil, dc_length, len_L, List.drop_nil, List.take_nil, List.append_nil, List.length_map, List.length_replicate]; first | done | exact rfl)) (hl : sg.length = m := by first | exact rfl | (simp only [List.drop_succ_cons, List.drop_zero, List.take_succ_cons, List.take_zero, List.cons_append, List.nil_append, List.append_assoc, drop_dc, drop_dc', take_dc, take_dc', drop_L, drop_L', take_L, take_L', Nat.reduceLeDiff, Nat.reduceSub, Nat.reduceAdd, Nat.le_refl, List.length_cons, List.length_append, List.length_nil, dc_length, len_L, List.drop_nil, List.take_nil, List.append_nil, List.length_map, List.length_replicate]; first | done | omega)) : Runs P w0 F0 L n env ⟨d, .load T x, ty, pos, af, gd⟩ (.agg sg.toArray) := r_ldN hx RA.h SZ.h hp hg hl
theorem zLa {x : Operand} {T g T' m : Nat} {cs : List Value} {L' : List Res} [RA P T] [SZ P T m] (hx : ev n env x = .pointer (some ⟨g, 0, none⟩) := by exact rfl) (hp : Pick L (blk g T' cs) L' := by repeat (first | exact Pick.here | apply Pick.there)) (hl : cs.length = m := by first | exact rfl | (simp only [List.drop_succ_cons, List.drop_zero, List.take_succ_cons, List.take_zero, List.cons_append, List.nil_append, List.append_assoc, drop_dc, drop_dc', take_dc, take_dc', drop_L, drop_L', take_L, take_L', Nat.reduceLeDiff, Nat.reduceSub, Nat.reduceAdd, Nat.le_refl, List.length_cons, List.length_append, List.length_nil, dc_length, len_L, List.drop_nil, List.take_nil, List.append_nil, List.length_map, List.length_replicate]; first | done | omega)) : Runs P w0 F0 L n env ⟨d, .load T x, ty, pos, af, gd⟩ (.agg cs.toArray) := r_ldN hx RA.h SZ.h hp (seg_all hl) hl
theorem zr {x : Operand} {T g o i e size m c : Nat} {xs : List Value} {L' : List Res} [RO P T] (hx : ev n env x = .pointer (some ⟨g, o + i, none⟩) := by exact rfl) (hp : Pick L (rowR e size (some ⟨g, o, none⟩) m c xs) L' := by repeat (first | exact Pick.here | apply Pick.there)) (hv : xs[i]? = some v := by first | exact rfl | (simp only [List.getElem?_cons_succ, List.getElem?_cons_zero, List.cons_append, List.append_assoc, get_dc, get_L, Nat.reduceLeDiff, Nat.reduceSub, Nat.reduceAdd, Nat.le_refl]; exact rfl)) : Runs P w0 F0 L n env ⟨d, .load T x, ty, pos, af, gd⟩ v := r_ld1r hx RO.h hp hv
theorem zwa {x y : Operand} {T T' : TypeId} {a b : UInt32} (hx : ev n env x = W32 a := by exact rfl) (hy : ev n env y = W32 b := by exact rfl) : Runs P w0 F0 L n env ⟨d, .binOp .add T x y T', ty, pos, af, gd⟩ (W32 (a + b)) := r_addw hx hy
theorem zwm {x y : Operand} {T T' : TypeId} {a b : UInt32} (hx : ev n env x = W32 a := by exact rfl) (hy : ev n env y = W32 b := by exact rfl) : Runs P w0 F0 L n env ⟨d, .binOp .mul T x y T', ty, pos, af, gd⟩ (W32 (a * b)) := r_mulw hx hy
theorem zwn {x y : Operand} {T T' : TypeId} {a b : UInt32} (hx : ev n env x = W32 a := by exact rfl) (hy : ev n env y = W32 b := by exact rfl) : Runs P w0 F0 L n env ⟨d, .binOp .and T x y T', ty, pos, af, gd⟩ (W32 (a &&& b)) := r_andw hx hy
theorem zwo {x y : Operand} {T T' : TypeId} {a b : UInt32} (hx : ev n env x = W32 a := by exact rfl) (hy : ev n env y = W32 b := by exact rfl) : Runs P w0 F0 L n env ⟨d, .binOp .or T x y T', ty, pos, af, gd⟩ (W32 (a ||| b)) := r_orw hx hy
theorem zwx {x y : Operand} {T T' : TypeId} {a b : UInt32} (hx : ev n env x = W32 a := by exact rfl) (hy : ev n env y = W32 b := by exact rfl) : Runs P w0 F0 L n env ⟨d, .binOp .xor T x y T', ty, pos, af, gd⟩ (W32 (a ^^^ b)) := r_xorw hx hy
theorem zwc {T : TypeId} {x : Operand} {a : UInt32} (hx : ev n env x = W32 a := by exact rfl) : Runs P w0 F0 L n env ⟨d, .unOp .xor T x, ty, pos, af, gd⟩ (W32 (~~~a)) := r_notw hx
theorem zed {x y : Operand} {T T' e : TypeId} {a b : Dig} [ART P T 16 e] [UNT P e (.int .u8)] [SZ P e 1] (hx : ev n env x = .agg (dc a).toArray := by exact rfl) (hy : ev n env y = .agg (dc b).toArray := by exact rfl) (hg : P.eqGuardType P.depth T = false := by kernel_rfl) : Runs P w0 F0 L n env ⟨d, .binOp .eql T x y T', ty, pos, af, gd⟩ (.bool (decide (a = b))) := r_eql_dig hx hy ART.h UNT.h SZ.h hg
theorem znd {x y : Operand} {T T' e : TypeId} {a b : Dig} [ART P T 16 e] [UNT P e (.int .u8)] [SZ P e 1] (hx : ev n env x = .agg (dc a).toArray := by exact rfl) (hy : ev n env y = .agg (dc b).toArray := by exact rfl) (hg : P.eqGuardType P.depth T = false := by kernel_rfl) : Runs P w0 F0 L n env ⟨d, .binOp .neq T x y T', ty, pos, af, gd⟩ (.bool (!decide (a = b))) := r_neq_dig hx hy ART.h UNT.h SZ.h hg
theorem zeb {x y : Operand} {T T' : TypeId} {a b : Bool} [UNT P T .bool] (hx : ev n env x = .bool a := by exact rfl) (hy : ev n env y = .bool b := by exact rfl) : Runs P w0 F0 L n env ⟨d, .binOp .eql T x y T', ty, pos, af, gd⟩ (.bool (a == b)) := r_eql_bool hx hy UNT.h
theorem zes {x y : Operand} {T T' : TypeId} {a b : List UInt8} (hx : ev n env x = .string (str a) := by exact rfl) (hy : ev n env y = .string (str b) := by exact rfl) : Runs P w0 F0 L n env ⟨d, .binOp .eql T x y T', ty, pos, af, gd⟩ (.bool (decide (a = b))) := r_eql_str hx hy
theorem zns {x y : Operand} {T T' : TypeId} {a b : List UInt8} (hx : ev n env x = .string (str a) := by exact rfl) (hy : ev n env y = .string (str b) := by exact rfl) : Runs P w0 F0 L n env ⟨d, .binOp .neq T x y T', ty, pos, af, gd⟩ (.bool (!decide (a = b))) := r_neq_str hx hy
theorem zen {x : Operand} {T T' e : TypeId} {a : Option Addr} {m c : Nat} [SLT P T e] (hx : ev n env x = .slice a m c := by exact rfl) : Runs P w0 F0 L n env ⟨d, .binOp .eql T x (.const (.slice none 0 0)) T', ty, pos, af, gd⟩ (.bool a.isNone) := r_eqnil_sl hx SLT.h
theorem cells_one {v : Value} [h : One1 v] : v.cells.toList = [v] := by have := h.h; cases v <;> first | rfl | (simp [Value.oneCell'] at this)
theorem fillL_cons {place : Nat → Option (Nat × Nat)} {cs cs' new out : List Value} {i o s : Nat} {u u' : Value} {r : List (Nat × Value)} (hp : place i = some (o, s)) (h0 : u = u') (hv : u'.cells.toList = new) (hl : new.length = s) (hle : o + s ≤ cs.length) (hu : updL cs o new = cs') (k : fillL place cs' r = some out) : fillL place cs ((i, u) :: r) = some out := by
  subst h0
  simp only [fillL, hp]
  rw [hv, if_pos ⟨hl, by rw [hl]; exact hle⟩, hu]; exact k
theorem zbu {T : TypeId} {parts : Array (Nat × Operand)} {zs cs : List Value} {pl : List (Nat × Nat)} [ZC P T zs] [PLT P T pl] (hf : fillL (pl[·]?) zs (parts.toList.map fun p => (p.1, ev n env p.2)) = some cs := by first | exact rfl | ((repeat (apply fillL_cons rfl (by conv => lhs; whnf) (by first | (simp only [Value.cells, List.toList_toArray]; first | done | exact rfl) | exact cells_one) (by first | exact rfl | (simp only [List.drop_succ_cons, List.drop_zero, List.take_succ_cons, List.take_zero, List.cons_append, List.nil_append, List.append_assoc, drop_dc, drop_dc', take_dc, take_dc', drop_L, drop_L', take_L, take_L', Nat.reduceLeDiff, Nat.reduceSub, Nat.reduceAdd, Nat.le_refl, List.length_cons, List.length_append, List.length_nil, dc_length, len_L, List.drop_nil, List.take_nil, List.append_nil, List.length_map, List.length_replicate]; first | done | omega)) (by first | exact rfl | (simp only [List.drop_succ_cons, List.drop_zero, List.take_succ_cons, List.take_zero, List.cons_append, List.nil_append, List.append_assoc, drop_dc, drop_dc', take_dc, take_dc', drop_L, drop_L', take_L, take_L', Nat.reduceLeDiff, Nat.reduceSub, Nat.reduceAdd, Nat.le_refl, List.length_cons, List.length_append, List.length_nil, dc_length, len_L, List.drop_nil, List.take_nil, List.append_nil, List.length_map, List.length_replicate]; first | done | omega)) (by (simp only [updL, List.drop_succ_cons, List.drop_zero, List.take_succ_cons, List.take_zero, List.cons_append, List.nil_append, List.append_assoc, drop_dc, drop_dc', take_dc, take_dc', drop_L, drop_L', take_L, take_L', Nat.reduceLeDiff, Nat.reduceSub, Nat.reduceAdd, Nat.le_refl, List.length_cons, List.length_append, List.length_nil, dc_length, len_L, List.drop_nil, List.take_nil, List.append_nil, List.length_map, List.length_replicate]; first | done | exact rfl)))); exact rfl)) : Runs P w0 F0 L n env ⟨d, .build T parts, ty, pos, af, gd⟩ (.agg cs.toArray) := r_build ZC.h PLT.h hf
theorem zba {T e m s : Nat} {parts : Array (Nat × Operand)} {zs cs : List Value} [ZC P T zs] [ART P T m e] [SZ P e s] (hf : fillL (fun i => some (i * s, s)) zs (parts.toList.map fun p => (p.1, ev n env p.2)) = some cs := by first | exact rfl | ((repeat (apply fillL_cons rfl (by conv => lhs; whnf) (by first | (simp only [Value.cells, List.toList_toArray]; first | done | exact rfl) | exact cells_one) (by first | exact rfl | (simp only [List.drop_succ_cons, List.drop_zero, List.take_succ_cons, List.take_zero, List.cons_append, List.nil_append, List.append_assoc, drop_dc, drop_dc', take_dc, take_dc', drop_L, drop_L', take_L, take_L', Nat.reduceLeDiff, Nat.reduceSub, Nat.reduceAdd, Nat.le_refl, List.length_cons, List.length_append, List.length_nil, dc_length, len_L, List.drop_nil, List.take_nil, List.append_nil, List.length_map, List.length_replicate]; first | done | omega)) (by first | exact rfl | (simp only [List.drop_succ_cons, List.drop_zero, List.take_succ_cons, List.take_zero, List.cons_append, List.nil_append, List.append_assoc, drop_dc, drop_dc', take_dc, take_dc', drop_L, drop_L', take_L, take_L', Nat.reduceLeDiff, Nat.reduceSub, Nat.reduceAdd, Nat.le_refl, List.length_cons, List.length_append, List.length_nil, dc_length, len_L, List.drop_nil, List.take_nil, List.append_nil, List.length_map, List.length_replicate]; first | done | omega)) (by (simp only [updL, List.drop_succ_cons, List.drop_zero, List.take_succ_cons, List.take_zero, List.cons_append, List.nil_append, List.append_assoc, drop_dc, drop_dc', take_dc, take_dc', drop_L, drop_L', take_L, take_L', Nat.reduceLeDiff, Nat.reduceSub, Nat.reduceAdd, Nat.le_refl, List.length_cons, List.length_append, List.length_nil, dc_length, len_L, List.drop_nil, List.take_nil, List.append_nil, List.length_map, List.length_replicate]; first | done | exact rfl)))); exact rfl)) : Runs P w0 F0 L n env ⟨d, .build T parts, ty, pos, af, gd⟩ (.agg cs.toArray) := r_buildA ZC.h ART.h SZ.h hf
theorem zal {T : TypeId} {cs : List Value} [ZC P T cs] (k : ∀ b, Gl P w0 F0 (blk b T cs :: L) ops Q rest n ((t, .pointer (some ⟨b, 0, none⟩)) :: env)) (hw : Wt ops n env ⟨some t, .alloc T, ty, pos, af, gd⟩ true := by first | exact wt0 rfl | exact wtgT rfl rfl rfl rfl) : Gl P w0 F0 L ops Q (⟨some t, .alloc T, ty, pos, af, gd⟩ :: rest) n env := gl_alloc hw ZC.h k
theorem zbN {T : TypeId} {x : Operand} {cs : List Value} (k : ∀ b, Gl P w0 F0 (blk b T cs :: L) ops Q rest n ((t, .pointer (some ⟨b, 0, none⟩)) :: env)) (hx : ev n env x = .agg cs.toArray := by exact rfl) (hw : Wt ops n env ⟨some t, .box T x, ty, pos, af, gd⟩ true := by first | exact wt0 rfl | exact wtgT rfl rfl rfl rfl) : Gl P w0 F0 L ops Q (⟨some t, .box T x, ty, pos, af, gd⟩ :: rest) n env := gl_boxN hw hx k
theorem zb1 {T : TypeId} {x : Operand} (k : ∀ b, Gl P w0 F0 (blk b T [v] :: L) ops Q rest n ((t, .pointer (some ⟨b, 0, none⟩)) :: env)) (hx : ev n env x = v := by conv => lhs; whnf) (h1 : v.oneCell' = true := by first | exact rfl | exact One1.h) (hw : Wt ops n env ⟨some t, .box T x, ty, pos, af, gd⟩ true := by first | exact wt0 rfl | exact wtgT rfl rfl rfl rfl) : Gl P w0 F0 L ops Q (⟨some t, .box T x, ty, pos, af, gd⟩ :: rest) n env := gl_box1 hw hx h1 k
theorem zs1 {T : TypeId} {x y : Operand} {g o T' : Nat} {cs cs' : List Value} {L' : List Res} [SZ P T 1] (k : Gl P w0 F0 (blk g T' cs' :: L') ops Q rest n env) (hx : ev n env x = .pointer (some ⟨g, o, none⟩) := by exact rfl) (hy : ev n env y = v := by conv => lhs; whnf) (h1 : v.oneCell' = true := by first | exact rfl | exact One1.h) (hp : Pick L (blk g T' cs) L' := by repeat (first | exact Pick.here | apply Pick.there)) (hl : o + 1 ≤ cs.length := by first | exact rfl | (simp only [List.drop_succ_cons, List.drop_zero, List.take_succ_cons, List.take_zero, List.cons_append, List.nil_append, List.append_assoc, drop_dc, drop_dc', take_dc, take_dc', drop_L, drop_L', take_L, take_L', Nat.reduceLeDiff, Nat.reduceSub, Nat.reduceAdd, Nat.le_refl, List.length_cons, List.length_append, List.length_nil, dc_length, len_L, List.drop_nil, List.take_nil, List.append_nil, List.length_map, List.length_replicate]; first | done | omega)) (hu : updL cs o [v] = cs' := by (simp only [updL, List.drop_succ_cons, List.drop_zero, List.take_succ_cons, List.take_zero, List.cons_append, List.nil_append, List.append_assoc, drop_dc, drop_dc', take_dc, take_dc', drop_L, drop_L', take_L, take_L', Nat.reduceLeDiff, Nat.reduceSub, Nat.reduceAdd, Nat.le_refl, List.length_cons, List.length_append, List.length_nil, dc_length, len_L, List.drop_nil, List.take_nil, List.append_nil, List.length_map, List.length_replicate]; first | done | exact rfl)) (hw : Wt ops n env ⟨none, .store T x y, ty, pos, af, gd⟩ true := by first | exact wt0 rfl | exact wtgT rfl rfl rfl rfl) : Gl P w0 F0 L ops Q (⟨none, .store T x y, ty, pos, af, gd⟩ :: rest) n env := gl_store1 hw hx hy h1 SZ.h hp hl hu k
theorem zsN {T : TypeId} {x y : Operand} {g o T' m : Nat} {cs new cs' : List Value} {L' : List Res} [SZ P T m] (k : Gl P w0 F0 (blk g T' cs' :: L') ops Q rest n env) (hx : ev n env x = .pointer (some ⟨g, o, none⟩) := by exact rfl) (hy : ev n env y = .agg new.toArray := by exact rfl) (hm : new.length = m := by first | exact rfl | (simp only [List.drop_succ_cons, List.drop_zero, List.take_succ_cons, List.take_zero, List.cons_append, List.nil_append, List.append_assoc, drop_dc, drop_dc', take_dc, take_dc', drop_L, drop_L', take_L, take_L', Nat.reduceLeDiff, Nat.reduceSub, Nat.reduceAdd, Nat.le_refl, List.length_cons, List.length_append, List.length_nil, dc_length, len_L, List.drop_nil, List.take_nil, List.append_nil, List.length_map, List.length_replicate]; first | done | omega)) (hp : Pick L (blk g T' cs) L' := by repeat (first | exact Pick.here | apply Pick.there)) (hl : o + m ≤ cs.length := by first | exact rfl | (simp only [List.drop_succ_cons, List.drop_zero, List.take_succ_cons, List.take_zero, List.cons_append, List.nil_append, List.append_assoc, drop_dc, drop_dc', take_dc, take_dc', drop_L, drop_L', take_L, take_L', Nat.reduceLeDiff, Nat.reduceSub, Nat.reduceAdd, Nat.le_refl, List.length_cons, List.length_append, List.length_nil, dc_length, len_L, List.drop_nil, List.take_nil, List.append_nil, List.length_map, List.length_replicate]; first | done | omega)) (h1 : ∀ u ∈ new, u.oneCell' = true := by repeat (first | exact all_nil' | exact dc_one _ | exact One.h | refine all_cons' rfl ?_ | refine all_cons' One1.h ?_ | refine all_app' (dc_one _) ?_ | refine all_app' One.h ?_)) (hu : updL cs o new = cs' := by (simp only [updL, List.drop_succ_cons, List.drop_zero, List.take_succ_cons, List.take_zero, List.cons_append, List.nil_append, List.append_assoc, drop_dc, drop_dc', take_dc, take_dc', drop_L, drop_L', take_L, take_L', Nat.reduceLeDiff, Nat.reduceSub, Nat.reduceAdd, Nat.le_refl, List.length_cons, List.length_append, List.length_nil, dc_length, len_L, List.drop_nil, List.take_nil, List.append_nil, List.length_map, List.length_replicate]; first | done | exact rfl)) (hw : Wt ops n env ⟨none, .store T x y, ty, pos, af, gd⟩ true := by first | exact wt0 rfl | exact wtgT rfl rfl rfl rfl) : Gl P w0 F0 L ops Q (⟨none, .store T x y, ty, pos, af, gd⟩ :: rest) n env := gl_storeN hw hx hy SZ.h hm hp hl h1 hu k
theorem zsA {T : TypeId} {x y : Operand} {g T' m : Nat} {cs new : List Value} {L' : List Res} [SZ P T m] (hm : new.length = m) (h1 : ∀ u ∈ new, u.oneCell' = true) (k : Gl P w0 F0 (blk g T' new :: L') ops Q rest n env) (hx : ev n env x = .pointer (some ⟨g, 0, none⟩) := by exact rfl) (hy : ev n env y = .agg new.toArray := by exact rfl) (hp : Pick L (blk g T' cs) L' := by repeat (first | exact Pick.here | apply Pick.there)) (hl : cs.length = m := by first | exact rfl | (simp only [List.drop_succ_cons, List.drop_zero, List.take_succ_cons, List.take_zero, List.cons_append, List.nil_append, List.append_assoc, drop_dc, drop_dc', take_dc, take_dc', drop_L, drop_L', take_L, take_L', Nat.reduceLeDiff, Nat.reduceSub, Nat.reduceAdd, Nat.le_refl, List.length_cons, List.length_append, List.length_nil, dc_length, len_L, List.drop_nil, List.take_nil, List.append_nil, List.length_map, List.length_replicate]; first | done | omega)) (hw : Wt ops n env ⟨none, .store T x y, ty, pos, af, gd⟩ true := by first | exact wt0 rfl | exact wtgT rfl rfl rfl rfl) : Gl P w0 F0 L ops Q (⟨none, .store T x y, ty, pos, af, gd⟩ :: rest) n env := gl_storeN hw hx hy SZ.h hm hp (by omega) h1 (updL_all (by omega)) k
theorem ze0 {T e s : Nat} [SLT P T e] [SZ P e s] (k : ∀ b, Gl P w0 F0 (rowR e s (some ⟨b, 0, none⟩) 0 0 [] :: L) ops Q rest n ((t, .slice (some ⟨b, 0, none⟩) 0 0) :: env)) (hw : Wt ops n env ⟨some t, .buildSlice T 0 #[], ty, pos, af, gd⟩ true := by first | exact wt0 rfl | exact wtgT rfl rfl rfl rfl) : Gl P w0 F0 L ops Q (⟨some t, .buildSlice T 0 #[], ty, pos, af, gd⟩ :: rest) n env := gl_bslice0 hw SLT.h SZ.h k
theorem ze1 {T e : Nat} {x : Operand} {z : List Value} [SLT P T e] [SZ P e 1] [ZC P e z] (k : ∀ b, Gl P w0 F0 (rowR e 1 (some ⟨b, 0, none⟩) 1 1 [v] :: L) ops Q rest n ((t, .slice (some ⟨b, 0, none⟩) 1 1) :: env)) (hx : ev n env x = v := by conv => lhs; whnf) (h1 : v.oneCell' = true := by first | exact rfl | exact One1.h) (hw : Wt ops n env ⟨some t, .buildSlice T 1 #[(0, x)], ty, pos, af, gd⟩ true := by first | exact wt0 rfl | exact wtgT rfl rfl rfl rfl) : Gl P w0 F0 L ops Q (⟨some t, .buildSlice T 1 #[(0, x)], ty, pos, af, gd⟩ :: rest) n env := gl_bsl1 hw SLT.h SZ.h ZC.h hx h1 k
theorem zeN {T e s : Nat} {x : Operand} {cs z : List Value} [SLT P T e] [SZ P e s] [ZC P e z] (k : ∀ b, Gl P w0 F0 (rowR e s (some ⟨b, 0, none⟩) 1 1 cs :: L) ops Q rest n ((t, .slice (some ⟨b, 0, none⟩) 1 1) :: env)) (hx : ev n env x = .agg cs.toArray := by exact rfl) (hl : cs.length = s := by first | exact rfl | (simp only [List.drop_succ_cons, List.drop_zero, List.take_succ_cons, List.take_zero, List.cons_append, List.nil_append, List.append_assoc, drop_dc, drop_dc', take_dc, take_dc', drop_L, drop_L', take_L, take_L', Nat.reduceLeDiff, Nat.reduceSub, Nat.reduceAdd, Nat.le_refl, List.length_cons, List.length_append, List.length_nil, dc_length, len_L, List.drop_nil, List.take_nil, List.append_nil, List.length_map, List.length_replicate]; first | done | omega)) (hb : Nat.ble (1 * s) 16777216 = true := by exact rfl) (hp : Nat.blt 0 (1 * s) = true := by exact rfl) (hw : Wt ops n env ⟨some t, .buildSlice T 1 #[(0, x)], ty, pos, af, gd⟩ true := by first | exact wt0 rfl | exact wtgT rfl rfl rfl rfl) : Gl P w0 F0 L ops Q (⟨some t, .buildSlice T 1 #[(0, x)], ty, pos, af, gd⟩ :: rest) n env := gl_bslN hw SLT.h SZ.h ZC.h hx hl hb hp k
theorem zap {T : Nat} {x y : Operand} {e size bytes m c j c2 : Nat} {a a2 : Option Addr} {xs news : List Value} {L' : List Res} [ELT P T e size bytes] (hr : ∀ w, St w0 F0 L w → RdRow w (fun _ => True) size a2 j news) (h1 : ∀ u ∈ news, u.oneCell' = true) (hb : (m + j) * bytes ≤ 140737488355328) (k : ∀ a' c', Gl P w0 F0 (rowR e size a' (m + j) c' (xs ++ news) :: L') ops Q rest n ((t, .slice a' (m + j) c') :: env)) (hx : ev n env x = .slice a m c := by exact rfl) (hy : ev n env y = .slice a2 j c2 := by exact rfl) (hp : Pick L (rowR e size a m c xs) L' := by repeat (first | exact Pick.here | apply Pick.there)) (h63 : m + j ≤ maxLen := by simp only [maxLen]; omega) (hw : Wt ops n env ⟨some t, .call ⟨.builtin .append, #[x, y], #[T, T]⟩, ty, pos, af, gd⟩ true := by first | exact wt0 rfl | exact wtgT rfl rfl rfl rfl) : Gl P w0 F0 L ops Q (⟨some t, .call ⟨.builtin .append, #[x, y], #[T, T]⟩, ty, pos, af, gd⟩ :: rest) n env := gl_append hw hx hy hp ELT.h hr h1 h63 hb k
theorem zc {f : FuncId} {xs : List Operand} {ts : Array TypeId} {vs : List Value} {L' M : List Res} {α : Type} {V : α → Value} {N : α → List Res} [CLT P f] (k : ∀ x, Gl P w0 F0 (N x ++ L') ops Q rest n ((t, V x) :: env)) (hv : xs.map (ev n env) = vs := by exact rfl) (hs : Sel L M L' := by repeat (first | exact Sel.nil | (apply Sel.cons; · (repeat (first | exact Pick.here | apply Pick.there))))) (c : ∀ w F1 F2, stars M w F1 → stars L' w F2 → (∀ k, F1 k → ¬ F2 k) → Stp w0 F0 w (fun k => F1 k ∨ F2 k) → Calls P f vs.toArray w (Post w F1 V N)) (hw : Wt ops n env ⟨some t, .call ⟨.value (.func f), xs.toArray, ts⟩, ty, pos, af, gd⟩ true := by first | exact wt0 rfl | exact wtgT rfl rfl rfl rfl) : Gl P w0 F0 L ops Q (⟨some t, .call ⟨.value (.func f), xs.toArray, ts⟩, ty, pos, af, gd⟩ :: rest) n env := gl_call hw (e_call CLT.h hv) hs c k
theorem ze {α : Type} {V : α → Value} {N : α → List Res} {L' : List Res} (x : α) (hv : v = V x := by exact rfl) (hs : Sel L (N x) L' := by repeat (first | exact Sel.nil | (apply Sel.cons; · (repeat (first | exact Pick.here | apply Pick.there))))) : ∀ w, St w0 F0 L w → Post w0 F0 V N (.returned v) w := fun w hw => ⟨x, by rw [hv], hw.sel hs⟩
theorem zsel {L' M : List Res} (hs : Sel L M L' := by repeat (first | exact Sel.nil | (apply Sel.cons; · (repeat (first | exact Pick.here | apply Pick.there))))) : ∀ w, St w0 F0 L w → St w0 F0 M w := fun w hw => hw.sel hs
/-- What a test says, both ways. -/
class BP (b : Bool) (p q : outParam Prop) : Prop where
  t : b = true → p
  f : b = false → q
instance (priority := 10) {b : Bool} : BP b (b = true) (b = false) := ⟨id, id⟩
instance (priority := 100) {p : Prop} [Decidable p] : BP (decide p) p (¬ p) := ⟨of_decide_eq_true, of_decide_eq_false⟩
instance {i j : Int} [Decidable (i < j)] : BP (decide (i < j)) (i < j) (j ≤ i) := ⟨of_decide_eq_true, fun h => Int.not_lt.1 (of_decide_eq_false h)⟩
instance {i j : Int} [Decidable (i ≤ j)] : BP (decide (i ≤ j)) (i ≤ j) (j < i) := ⟨of_decide_eq_true, fun h => Int.not_le.1 (of_decide_eq_false h)⟩
instance {i j : Nat} [Decidable (i < j)] : BP (decide (i < j)) (i < j) (j ≤ i) := ⟨of_decide_eq_true, fun h => Nat.not_lt.1 (of_decide_eq_false h)⟩
instance {i j : Nat} [Decidable (i ≤ j)] : BP (decide (i ≤ j)) (i ≤ j) (j < i) := ⟨of_decide_eq_true, fun h => Nat.not_le.1 (of_decide_eq_false h)⟩
instance {b : Bool} {p q : Prop} [h : BP b p q] : BP (!b) q p := ⟨fun e => h.f (by simpa using e), fun e => h.t (by simpa using e)⟩
instance {a b : Bool} {p q p' q' : Prop} [h : BP a p q] [h' : BP b p' q'] : BP (a && b) (p ∧ p') (q ∨ q') := ⟨fun e => by simp at e; exact ⟨h.t e.1, h'.t e.2⟩, fun e => by cases a <;> cases b <;> simp at e <;> first | exact .inl (h.f rfl) | exact .inr (h'.f rfl)⟩
instance {a b : Bool} {p q p' q' : Prop} [h : BP a p q] [h' : BP b p' q'] : BP (a || b) (p ∨ p') (q ∧ q') := ⟨fun e => by cases a <;> cases b <;> simp at e <;> first | exact .inl (h.t rfl) | exact .inr (h'.t rfl), fun e => by simp at e; exact ⟨h.f e.1, h'.f e.2⟩⟩
theorem gif {c : Operand} {x y : Code} {b : Bool} {p q : Prop} (hc : ev n env c = .bool b) [h : BP b p q] (ht : p → Gc P w0 F0 L x Q n env) (hf : q → Gc P w0 F0 L y Q n env) : Gc P w0 F0 L (.cond c x y) Q n env := gc_cond hc (fun e => ht (h.t e)) (fun e => hf (h.f e))
/-- A round is over. -/
theorem zrd {α : Type} {Ls : α → List Res} {slots : α → Env} {junk : List Nat} {μ : α → Nat} {env0 : Env} {m : Nat} {a0 : α} {u : Nat → Value} {f : List Nat} (a : α) (hm : μ a < m) (hL : ∀ w, St w0 F0 L w → St w0 F0 (Ls a) w)
    (hf : Front (headE slots junk env0 a0 u) env f := by repeat (first | exact Front.here | apply Front.there)) (hs : (slots a).map (fun p => Env.get env p.1) = (slots a).map Prod.snd := by kernel_rfl)
    (hk : f.all (fun t => ((slots a).map Prod.fst).contains t || junk.contains t) = true := by kernel_rfl) (hkeys : (slots a0).map Prod.fst = (slots a).map Prod.fst := by rfl) :
    Gx w0 F0 L (Exit.then (RoundK w0 F0 Ls slots junk μ n env0 m) Q) .normal n env := gx_round a (env_next hf hs hk hkeys) hm hL
theorem zlp {p : Prop} {L' M : List Res} (hp : p) (hs : Sel L M L' := by repeat (first | exact Sel.nil | (apply Sel.cons; · (repeat (first | exact Pick.here | apply Pick.there))))) : ∀ w, St w0 F0 L w → St w0 F0 (pureR p :: M) w := fun w hw => by
  obtain ⟨F', hF', hst'⟩ := hw.sel hs
  exact ⟨F', stars_pure_mk hp hF', hst'⟩
theorem zlq {p : Prop} {L' M M' : List Res} (hp : p) (e : M' = M) (hs : Sel L M' L' := by repeat (first | exact Sel.nil | (apply Sel.cons; · (repeat (first | exact Pick.here | apply Pick.there))))) : ∀ w, St w0 F0 L w → St w0 F0 (pureR p :: M) w := fun w hw => by
  subst e
  exact zlp hp hs w hw
theorem zapo {T : Nat} {x y : Operand} {e size bytes m c j c2 : Nat} {a a2 : Option Addr} {xs news : List Value} {L' L2 : List Res} [ELT P T e size bytes] (k : ∀ a' c', Gl P w0 F0 (rowR e size a' (m + j) c' (xs ++ news) :: L') ops Q rest n ((t, .slice a' (m + j) c') :: env)) (hx : ev n env x = .slice a m c := by exact rfl) (hy : ev n env y = .slice a2 j c2 := by exact rfl) (hp : Pick L (rowR e size a m c xs) L' := by repeat (first | exact Pick.here | apply Pick.there)) (hq : Pick L (rowR e size a2 j c2 news) L2 := by repeat (first | exact Pick.here | apply Pick.there)) (h1 : ∀ u ∈ news, u.oneCell' = true := by repeat (first | exact all_nil' | exact dc_one _ | exact One.h | refine all_cons' rfl ?_ | refine all_cons' One1.h ?_ | refine all_app' (dc_one _) ?_ | refine all_app' One.h ?_)) (hb : (m + j) * bytes ≤ 140737488355328 := by omega) (h63 : m + j ≤ maxLen := by simp only [maxLen]; omega) (hw : Wt ops n env ⟨some t, .call ⟨.builtin .append, #[x, y], #[T, T]⟩, ty, pos, af, gd⟩ true := by first | exact wt0 rfl | exact wtgT rfl rfl rfl rfl) : Gl P w0 F0 L ops Q (⟨some t, .call ⟨.builtin .append, #[x, y], #[T, T]⟩, ty, pos, af, gd⟩ :: rest) n env := gl_append hw hx hy hp ELT.h (fun w hw => hw.row hq) h1 h63 hb k
end
/-! ### Regions that draw their order, one behind the other: what yields whatever comes is taken first, what is left must come one by one -/
theorem wp_exits {P : Program} {o : Oper} {a : Act} {w : World} {K : Act → World → Prop} {Q : Exit → Act → World → Prop} (h : o.wp P a w K (Exit.then K Q)) : o.wp P a w K Q := by
  unfold Oper.wp at *
  generalize (execOp a.eval o).run P w = r at *
  cases r with
  | ok m w' =>
    cases m with
    | enter f args => exact Calls.mono h fun e w'' he => by cases e <;> exact he
    | _ => exact h
  | halt x w' => cases x <;> exact h
def Gh (P : Program) (w0 : World) (F0 : Nat → Prop) (K L : List Res) (ops : Array Oper) (Q : Exit → Act → World → Prop) (fuel : Nat) (listed : Array Bool) (n : Nat) (env : Env) : Prop :=
  ∀ w, St w0 F0 L w → wpAnyH P .any ops Q (St w0 F0 K) fuel listed (fr n env) w
def NextH (P : Program) (w0 : World) (F0 : Nat → Prop) (K : List Res) (ops : Array Oper) (Q : Exit → Act → World → Prop) (fuel : Nat) (listed : Array Bool) (a : Act) (w : World) : Prop :=
  St w0 F0 K w ∧ wpAnyH P .any ops Q (St w0 F0 K) fuel listed a w
section held
variable {P : Program} {w0 : World} {F0 : Nat → Prop} {K L : List Res} {Q : Exit → Act → World → Prop} {n : Nat} {env : Env} {ops : Array Oper} {listed : Array Bool} {fuel : Nat}
theorem gc_regionH {id : Nat} {l : List Oper} (K : List Res) (h : Gh P w0 F0 K L l.toArray Q l.length (Array.replicate l.length false) n env) (hm : P.follows .mixedOrders = true := by kernel_rfl) : Gc P w0 F0 L (.region id l.toArray true) Q n env := fun w hw =>
  wp_region_held hm (by have := h _ (hw.drawn (w.drawn + 1)); simpa using this)
/-- Number i is taken first. -/
theorem yp (i : Nat) {t : Tmp} {op : Op} {ty : TypeId} {pos : String} {af : Array Edge} {gd : Option (Nat × Bool)} {v : Value} {L' : List Res} (hi : ops[i]? = some ⟨some t, op, ty, pos, af, gd⟩) (hR : Runs P w0 F0 K n env ⟨some t, op, ty, pos, af, gd⟩ v)
    (k : Gh P w0 F0 K L ops Q fuel (listed.setIfInBounds i true) n ((t, v) :: env)) (hw : Wt ops n env ⟨some t, op, ty, pos, af, gd⟩ true := by first | exact wt0 rfl | exact wtgT rfl rfl rfl rfl) (hsel : Sel L K L' := by repeat (first | exact Sel.nil | (apply Sel.cons; · (repeat (first | exact Pick.here | apply Pick.there)))))
    (hs : Region.noSelect ops = true := by kernel_rfl) (hf : Region.free .any ops listed i = true := by kernel_rfl) (hr : (Region.ready .any ops listed).contains i = true := by kernel_rfl)
    (hQ : ∀ c a w, Q (.panic c) (a.put (some t) v) w → Q (.panic c) a w := by exact fun _ _ _ h => h) : Gh P w0 F0 K L ops Q (fuel + 1) listed n env := fun w hst =>
  wpAnyH_take hi hs hf hr hQ (.inl ⟨hw, fun w' hw' => by rw [fr_eval]; exact hR w' hw'⟩) (hst.sel hsel) (by rw [fr_put]; exact k w hst)
/-- Number i isn't carried out. -/
theorem yn (i : Nat) {t : Tmp} {op : Op} {ty : TypeId} {pos : String} {af : Array Edge} {gd : Option (Nat × Bool)} {L' : List Res} (hi : ops[i]? = some ⟨some t, op, ty, pos, af, gd⟩)
    (k : Gh P w0 F0 K L ops Q fuel (listed.setIfInBounds i true) n ((t, undef) :: env)) (hw : Wt ops n env ⟨some t, op, ty, pos, af, gd⟩ false := by first | exact wtgF rfl rfl rfl rfl rfl | exact wtu rfl rfl rfl rfl) (hsel : Sel L K L' := by repeat (first | exact Sel.nil | (apply Sel.cons; · (repeat (first | exact Pick.here | apply Pick.there)))))
    (hs : Region.noSelect ops = true := by kernel_rfl) (hf : Region.free .any ops listed i = true := by kernel_rfl) (hr : (Region.ready .any ops listed).contains i = true := by kernel_rfl)
    (hQ : ∀ c a w, Q (.panic c) (a.put (some t) undef) w → Q (.panic c) a w := by exact fun _ _ _ h => h) : Gh P w0 F0 K L ops Q (fuel + 1) listed n env := fun w hst =>
  wpAnyH_take hi hs hf hr hQ (.inr ⟨hw, rfl⟩) (hst.sel hsel) (by rw [fr_put]; exact k w hst)
/-- Just number i may come. -/
theorem yo (i : Nat) {o : Oper} (hi : ops[i]? = some o) (k : Gl P w0 F0 L ops (Exit.then (NextH P w0 F0 K ops Q fuel (listed.setIfInBounds i true)) Q) [o] n env) (hr : Region.ready .any ops listed = [i] := by kernel_rfl) : Gh P w0 F0 K L ops Q (fuel + 1) listed n env := fun w hst =>
  wpAnyH_all hr (by simp) fun j hj => by
    obtain rfl : j = i := by simpa using hj
    have h := k w hst
    unfold wpOp
    simp only [hi]
    unfold wpList at h
    split
    · rename_i hw
      rw [if_pos hw] at h
      rcases h with h | h
      · exact .inl (wp_exits h)
      · exact .inr h
    · rename_i hw
      rw [if_neg hw] at h
      exact h
/-- Behind it the next. -/
theorem yx {L' : List Res} {Q' : Exit → Act → World → Prop} (k : Gh P w0 F0 K L ops Q fuel listed n env) (hsel : Sel L K L' := by repeat (first | exact Sel.nil | (apply Sel.cons; · (repeat (first | exact Pick.here | apply Pick.there))))) : Gl P w0 F0 L ops (Exit.then (NextH P w0 F0 K ops Q fuel listed) Q') [] n env := gl_nil fun w hw => ⟨hw.sel hsel, k w hw⟩
/-- All have come. -/
theorem yd {fuel : Nat} (h : Gx w0 F0 L Q .normal n env) (hr : Region.ready .any ops listed = [] := by kernel_rfl) : Gh P w0 F0 K L ops Q fuel listed n env := fun w hw => wpAnyH_done hr (h w hw) fuel
end held
/-! ### The same, the last operation waiting for all others: what it does needn't keep K -/
section tail
variable {P : Program} {ops : Array Oper} {Q : Exit → Act → World → Prop} {md : Region.Mode} {S : World → Prop} {z : Nat} {T : Act → World → Prop}
def wpAnyT (P : Program) (md : Region.Mode) (ops : Array Oper) (Q : Exit → Act → World → Prop) (S : World → Prop) (z : Nat) (T : Act → World → Prop) : Nat → Array Bool → Act → World → Prop
  | 0, listed, a, w => Region.ready md ops listed = [z] ∧ T a w
  | fuel + 1, listed, a, w =>
    (Region.ready md ops listed = [z] → T a w) ∧ Region.ready md ops listed ≠ [] ∧
    ∀ i ∈ Region.ready md ops listed, i ≠ z → wpOp P ops Q i (fun a' w' => S w' ∧ wpAnyT P md ops Q S z T fuel (listed.setIfInBounds i true) a' w') a w
theorem wpAnyT_first {i : Nat} {oi : Oper} {v : Value} (hi : ops[i]? = some oi) (hz : i ≠ z) (hsel : ∀ (j : Nat) (o : Oper) cs b, ops[j]? = some o → o.op ≠ .select cs b)
    (hQ : ∀ c a w, Q (.panic c) (a.put oi.dst v) w → Q (.panic c) a w) :
    ∀ (fuel : Nat) (listed : Array Bool) (a : Act) (w : World),
      (∀ j oj, ops[j]? = some oj → j ≠ i → listed.getD j true = false → (∀ e ∈ oj.after, Region.binds md e = true → e.on ≠ i) → oi.apart ops oj = true) →
      i ∈ Region.ready md ops listed → YieldsIf P ops S oi v a → S w →
      wpAnyT P md ops Q S z T fuel (listed.setIfInBounds i true) (a.put oi.dst v) w → wpAnyT P md ops Q S z T (fuel + 1) listed a w := by
  intro fuel
  induction fuel with
  | zero =>
    intro listed a w _ hr hy hS H
    refine ⟨fun h => (by rw [h] at hr; exact absurd (by simpa using hr) hz), fun h => (by rw [h] at hr; cases hr), fun j hj hjz => ?_⟩
    by_cases hji : j = i
    · subst hji; exact hy.wpOp hi hS ⟨hS, H⟩
    · have := ready_mono hj hji
      rw [H.1] at this
      exact absurd (by simpa using this) hjz
  | succ fuel ih =>
    intro listed a w hfree hr hy hS H
    refine ⟨fun h => (by rw [h] at hr; exact absurd (by simpa using hr) hz), fun h => (by rw [h] at hr; cases hr), fun j hj hjz => ?_⟩
    by_cases hji : j = i
    · subst hji; exact hy.wpOp hi hS ⟨hS, H⟩
    · have h1 := H.2.2 j (ready_mono hj hji) hjz
      obtain ⟨hjun, oj, hoj, hall⟩ := mem_ready.1 hj
      have hnot : ∀ e ∈ oj.after, Region.binds md e = true → e.on ≠ i := fun e he hb heq => by
        have h1 := hall e he hb
        have h0 := (mem_ready.1 hr).1
        rw [heq] at h1
        rcases Nat.lt_or_ge i listed.size with h' | h'
        · simp [h'] at h0 h1; rw [h0] at h1; cases h1
        · simp [Array.getElem?_eq_none h'] at h1
      have h2 := wpOp_putIf hoj (hfree j oj hoj hji hjun hnot) (fun cs b => hsel i oi cs b hi) (fun cs b => hsel j oj cs b hoj) hQ hy h1
      have hfree' : ∀ k ok, ops[k]? = some ok → k ≠ i → (listed.setIfInBounds j true).getD k true = false →
          (∀ e ∈ ok.after, Region.binds md e = true → e.on ≠ i) → oi.apart ops ok = true := fun k ok hk hki hun hno => by
        refine hfree k ok hk hki ?_ hno
        by_cases hjk : j = k
        · subst hjk; exact hjun
        · rw [getD_set_ne true hjk] at hun; exact hun
      refine wpOp_mono (fun a' w' h3 => ⟨h3.2.1, ih (listed.setIfInBounds j true) a' w' hfree' (ready_mono hr (Ne.symm hji)) h3.1 h3.2.1 ?_⟩) h2
      rw [Array.setIfInBounds_comm _ _ hji]
      exact h3.2.2
/-- z waits for all others. -/
def sinkZ (md : Region.Mode) (ops : Array Oper) (z : Nat) : Bool := Nat.blt z ops.size && match ops[z]? with
  | some o => (List.range ops.size).all fun i => Nat.beq i z || o.after.any fun e => Region.binds md e && Nat.beq e.on i
  | none => false
theorem sinkZ_listed (h : sinkZ md ops z = true) {listed : Array Bool} (hz : z ∈ Region.ready md ops listed) {i : Nat} (hi : i < ops.size) (hne : i ≠ z) : listed.getD i false = true := by
  obtain ⟨_, o, ho, hall⟩ := mem_ready.1 hz
  simp only [sinkZ, Bool.and_eq_true, ho] at h
  have := List.all_eq_true.1 h.2 i (List.mem_range.2 hi)
  simp only [Bool.or_eq_true] at this
  rcases this with h' | h'
  · exact absurd (Nat.eq_of_beq_eq_true h') hne
  · obtain ⟨e, he, hb⟩ := Array.any_eq_true'.1 h'
    simp only [Bool.and_eq_true] at hb
    have := hall e he hb.1
    rwa [Nat.eq_of_beq_eq_true hb.2] at this
theorem ready_lt {listed : Array Bool} {i : Nat} (h : i ∈ Region.ready md ops listed) : i < ops.size := by
  unfold Region.ready at h
  exact List.mem_range.1 (List.mem_filter.1 h).1
theorem sinkZ_one (h : sinkZ md ops z = true) {listed : Array Bool} (hz : z ∈ Region.ready md ops listed) : ∀ i ∈ Region.ready md ops listed, i = z := fun i hi => Classical.byContradiction fun hne => by
  have h1 := sinkZ_listed h hz (ready_lt hi) hne
  have h2 := (mem_ready.1 hi).1
  rcases Nat.lt_or_ge i listed.size with h' | h'
  · simp [h'] at h1 h2; rw [h2] at h1; cases h1
  · simp [Array.getElem?_eq_none h'] at h1
theorem ready_nodup {listed : Array Bool} : (Region.ready md ops listed).Nodup := by
  unfold Region.ready; exact List.nodup_range.filter _
theorem ready_one (h : sinkZ md ops z = true) {listed : Array Bool} (hz : z ∈ Region.ready md ops listed) : Region.ready md ops listed = [z] := by
  have h1 := sinkZ_one h hz
  have h2 := ready_nodup (md := md) (ops := ops) (listed := listed)
  generalize Region.ready md ops listed = l at *
  match l with
  | [] => cases hz
  | [x] => rw [h1 x (by simp)]
  | x :: y :: r =>
    have hx := h1 x (by simp)
    have hy := h1 y (by simp)
    subst hx; subst hy
    simp at h2
theorem ready_none (h : sinkZ md ops z = true) {listed : Array Bool} (hz : z ∈ Region.ready md ops listed) : Region.ready md ops (listed.setIfInBounds z true) = [] := by
  refine List.eq_nil_iff_forall_not_mem.2 fun i hi => ?_
  have hu := (mem_ready.1 hi).1
  by_cases hne : i = z
  · subst hne
    rcases Nat.lt_or_ge i listed.size with h' | h'
    · simp [h'] at hu
    · simp [Array.getElem?_eq_none (show (listed.setIfInBounds i true).size ≤ i by simpa using h')] at hu
  · rw [getD_set_ne true (Ne.symm hne)] at hu
    have h1 := sinkZ_listed h hz (ready_lt hi) hne
    rcases Nat.lt_or_ge i listed.size with h' | h'
    · simp [h'] at h1 hu; rw [hu] at h1; cases h1
    · simp [Array.getElem?_eq_none h'] at h1
theorem wpAny_done' {listed : Array Bool} {a : Act} {w : World} (hr : Region.ready md ops listed = []) (h : Q .normal a w) : ∀ fuel, wpAny P md ops Q fuel listed a w
  | 0 => ⟨hr, h⟩
  | _ + 1 => ⟨fun _ => h, by rw [hr]; simp⟩
theorem wpAny_of_tail (h : sinkZ md ops z = true) : ∀ (fuel : Nat) (listed : Array Bool) (a : Act) (w : World), wpAnyT P md ops Q S z (wpOp P ops Q z (Q .normal)) fuel listed a w → wpAny P md ops Q (fuel + 1) listed a w
  | 0, listed, a, w, H => by
    have hz : z ∈ Region.ready md ops listed := by rw [H.1]; simp
    refine ⟨fun h0 => (by rw [H.1] at h0; cases h0), fun i hi => ?_⟩
    obtain rfl := sinkZ_one h hz i hi
    exact wpOp_mono (fun a' w' h' => wpAny_done' (ready_none h hz) h' 0) H.2
  | fuel + 1, listed, a, w, H => by
    refine ⟨fun h0 => absurd h0 H.2.1, fun i hi => ?_⟩
    by_cases hne : i = z
    · subst hne
      exact wpOp_mono (fun a' w' h' => wpAny_done' (ready_none h hi) h' _) (H.1 (ready_one h hi))
    · exact wpOp_mono (fun a' w' h' => wpAny_of_tail h fuel _ a' w' h'.2) (H.2.2 i hi hne)
end tail
def Gt (P : Program) (w0 : World) (F0 : Nat → Prop) (K L : List Res) (ops : Array Oper) (Q : Exit → Act → World → Prop) (z fuel : Nat) (listed : Array Bool) (n : Nat) (env : Env) : Prop :=
  ∀ w, St w0 F0 L w → wpAnyT P .any ops Q (St w0 F0 K) z (wpOp P ops Q z (Q .normal)) fuel listed (fr n env) w
def NextT (P : Program) (w0 : World) (F0 : Nat → Prop) (K : List Res) (ops : Array Oper) (Q : Exit → Act → World → Prop) (z fuel : Nat) (listed : Array Bool) (a : Act) (w : World) : Prop :=
  St w0 F0 K w ∧ wpAnyT P .any ops Q (St w0 F0 K) z (wpOp P ops Q z (Q .normal)) fuel listed a w
theorem wpOp_of_list {P : Program} {ops : Array Oper} {Q : Exit → Act → World → Prop} {i : Nat} {o : Oper} {K : Act → World → Prop} {a : Act} {w : World} (hi : ops[i]? = some o) (h : wpList P ops (Exit.then K Q) [o] a w) : wpOp P ops Q i K a w := by
  unfold wpOp
  simp only [hi]
  unfold wpList at h
  split
  · rename_i hw
    rw [if_pos hw] at h
    rcases h with h | h
    · exact .inl (wp_exits h)
    · exact .inr h
  · rename_i hw
    rw [if_neg hw] at h
    exact h
theorem wpOp_of_list' {P : Program} {ops : Array Oper} {Q : Exit → Act → World → Prop} {i : Nat} {o : Oper} {a : Act} {w : World} (hi : ops[i]? = some o) (h : wpList P ops Q [o] a w) : wpOp P ops Q i (Q .normal) a w := by
  unfold wpOp
  simp only [hi]
  unfold wpList at h
  split
  · rename_i hw
    rw [if_pos hw] at h
    exact h
  · rename_i hw
    rw [if_neg hw] at h
    exact h
section heldz
variable {P : Program} {w0 : World} {F0 : Nat → Prop} {K L : List Res} {Q : Exit → Act → World → Prop} {n : Nat} {env : Env} {ops : Array Oper} {listed : Array Bool} {fuel z : Nat}
theorem gc_regionZ {id : Nat} {l : List Oper} (z : Nat) (K : List Res) (h : Gt P w0 F0 K L l.toArray Q z (l.length - 1) (Array.replicate l.length false) n env) (hm : P.follows .mixedOrders = true := by kernel_rfl) (hz : sinkZ .any l.toArray z = true := by kernel_rfl) : Gc P w0 F0 L (.region id l.toArray true) Q n env := fun w hw =>
  wp_region_any hm (by
    have hs := hz
    simp only [sinkZ, Bool.and_eq_true, Nat.blt_eq, List.size_toArray] at hs
    have := wpAny_of_tail hz _ _ _ _ (h _ (hw.drawn (w.drawn + 1)))
    rw [show l.length - 1 + 1 = l.toArray.size by simp; omega] at this
    simpa using this)
theorem yps (i : Nat) {t : Tmp} {op : Op} {ty : TypeId} {pos : String} {af : Array Edge} {gd : Option (Nat × Bool)} {v : Value} {L' : List Res} (hi : ops[i]? = some ⟨some t, op, ty, pos, af, gd⟩) (hR : Runs P w0 F0 K n env ⟨some t, op, ty, pos, af, gd⟩ v)
    (k : Gt P w0 F0 K L ops Q z fuel (listed.setIfInBounds i true) n ((t, v) :: env)) (hw : Wt ops n env ⟨some t, op, ty, pos, af, gd⟩ true := by first | exact wt0 rfl | exact wtgT rfl rfl rfl rfl) (hsel : Sel L K L' := by repeat (first | exact Sel.nil | (apply Sel.cons; · (repeat (first | exact Pick.here | apply Pick.there)))))
    (hs : Region.noSelect ops = true := by kernel_rfl) (hf : Region.free .any ops listed i = true := by kernel_rfl) (hr : (Region.ready .any ops listed).contains i = true := by kernel_rfl) (hz : Nat.beq i z = false := by kernel_rfl)
    (hQ : ∀ c a w, Q (.panic c) (a.put (some t) v) w → Q (.panic c) a w := by exact fun _ _ _ h => h) : Gt P w0 F0 K L ops Q z (fuel + 1) listed n env := fun w hst =>
  wpAnyT_first hi (fun e => by subst e; simp at hz) (Region.noSelect_spec hs) hQ fuel listed _ _ (Region.free_spec hi hf) (by simpa using hr) (.inl ⟨hw, fun w' hw' => by rw [fr_eval]; exact hR w' hw'⟩) (hst.sel hsel) (by rw [fr_put]; exact k w hst)
theorem yns (i : Nat) {t : Tmp} {op : Op} {ty : TypeId} {pos : String} {af : Array Edge} {gd : Option (Nat × Bool)} {L' : List Res} (hi : ops[i]? = some ⟨some t, op, ty, pos, af, gd⟩)
    (k : Gt P w0 F0 K L ops Q z fuel (listed.setIfInBounds i true) n ((t, undef) :: env)) (hw : Wt ops n env ⟨some t, op, ty, pos, af, gd⟩ false := by first | exact wtgF rfl rfl rfl rfl rfl | exact wtu rfl rfl rfl rfl) (hsel : Sel L K L' := by repeat (first | exact Sel.nil | (apply Sel.cons; · (repeat (first | exact Pick.here | apply Pick.there)))))
    (hs : Region.noSelect ops = true := by kernel_rfl) (hf : Region.free .any ops listed i = true := by kernel_rfl) (hr : (Region.ready .any ops listed).contains i = true := by kernel_rfl) (hz : Nat.beq i z = false := by kernel_rfl)
    (hQ : ∀ c a w, Q (.panic c) (a.put (some t) undef) w → Q (.panic c) a w := by exact fun _ _ _ h => h) : Gt P w0 F0 K L ops Q z (fuel + 1) listed n env := fun w hst =>
  wpAnyT_first hi (fun e => by subst e; simp at hz) (Region.noSelect_spec hs) hQ fuel listed _ _ (Region.free_spec hi hf) (by simpa using hr) (.inr ⟨hw, rfl⟩) (hst.sel hsel) (by rw [fr_put]; exact k w hst)
theorem yos (i : Nat) {o : Oper} (hi : ops[i]? = some o) (k : Gl P w0 F0 L ops (Exit.then (NextT P w0 F0 K ops Q z fuel (listed.setIfInBounds i true)) Q) [o] n env) (hr : Region.ready .any ops listed = [i] := by kernel_rfl) (hz : Nat.beq i z = false := by kernel_rfl) : Gt P w0 F0 K L ops Q z (fuel + 1) listed n env := fun w hst =>
  ⟨fun h => (by rw [hr] at h; simp only [List.cons.injEq, and_true] at h; subst h; simp at hz), by rw [hr]; simp, fun j hj _ => by
    rw [hr] at hj
    obtain rfl : j = i := by simpa using hj
    exact wpOp_of_list hi (k w hst)⟩
theorem yxs {L' : List Res} {Q' : Exit → Act → World → Prop} (k : Gt P w0 F0 K L ops Q z fuel listed n env) (hsel : Sel L K L' := by repeat (first | exact Sel.nil | (apply Sel.cons; · (repeat (first | exact Pick.here | apply Pick.there))))) : Gl P w0 F0 L ops (Exit.then (NextT P w0 F0 K ops Q z fuel listed) Q') [] n env := gl_nil fun w hw => ⟨hw.sel hsel, k w hw⟩
/-- The last one. -/
theorem yzs {o : Oper} (hi : ops[z]? = some o) (k : Gl P w0 F0 L ops Q [o] n env) (hr : Region.ready .any ops listed = [z] := by kernel_rfl) : Gt P w0 F0 K L ops Q z 0 listed n env := fun w hst => ⟨hr, wpOp_of_list' hi (k w hst)⟩
end heldz
/-! ### Where ways meet -/
section join
variable {P : Program} {w0 : World} {F0 : Nat → Prop} {L : List Res} {Q : Exit → Act → World → Prop} {n : Nat} {env : Env}
def JoinK {α : Type} (w0 : World) (F0 : Nat → Prop) (Ls : α → List Res) (slots : α → Env) (junk : List Nat) (n : Nat) (env : Env) (act : Act) (w : World) : Prop :=
  ∃ a u, act = fr n (headE slots junk env a u) ∧ St w0 F0 (Ls a) w
theorem gc_join {α : Type} {x y : Code} (Ls : α → List Res) (slots : α → Env) (junk : List Nat) (hx : Gc P w0 F0 L x (Exit.then (JoinK w0 F0 Ls slots junk n env) Q) n env)
    (k : ∀ a u, Gc P w0 F0 (Ls a) y Q n (headE slots junk env a u)) : Gc P w0 F0 L (.seq x y) Q n env := fun w hw => by
  have h := hx w hw
  refine wp_seq (wp_mono h fun e act w' hq => ?_)
  cases e with
  | normal =>
    obtain ⟨a, u, rfl, hs⟩ := hq
    exact k a u w' hs
  | _ => exact hq
theorem zjn {α : Type} {Ls : α → List Res} {slots : α → Env} {junk : List Nat} {env0 : Env} {f : List Nat} (a : α) (hL : ∀ w, St w0 F0 L w → St w0 F0 (Ls a) w)
    (hf : Front env0 env f := by repeat (first | exact Front.here | apply Front.there)) (hs : (slots a).map (fun p => Env.get env p.1) = (slots a).map Prod.snd := by kernel_rfl)
    (hk : f.all (fun t => ((slots a).map Prod.fst).contains t || junk.contains t) = true := by kernel_rfl) :
    Gx w0 F0 L (Exit.then (JoinK w0 F0 Ls slots junk n env0) Q) .normal n env := fun w hw => ⟨a, Env.get env, fr_ext fun t _ => (get_over (fun p hp => List.map_inj_left.1 hs p hp) fun h1 => get_over (fun p hp => by obtain ⟨j, _, rfl⟩ := List.mem_map.1 hp; rfl) fun h2 => (by
    have h2' : t ∉ junk := fun hm => h2 (t, Env.get env t) (List.mem_map.2 ⟨t, hm, rfl⟩) rfl
    have h1' : t ∉ (slots a).map Prod.fst := fun hm => by
      obtain ⟨p, hp, rfl⟩ := List.mem_map.1 hm
      exact h1 p hp rfl
    exact (hf.get (t := t) (fun hm => by
      have := List.all_eq_true.1 hk t hm
      simp only [Bool.or_eq_true, List.contains_iff_mem] at this
      exact this.elim h1' h2')).symm)).symm, hL w hw⟩
end join
end Go.Proofs.YtffkjjakceojfaaDoor
