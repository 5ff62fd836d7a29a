/- Part 2. What is proved: see the last part: for every input the law returns true, and the input reads as it did. -/
import Derived.Test.YtobjojeliibinaaGreatDoorCs1
import Derived.KernelRfl
import Derived.OpenShut
import Derived.ChangeArms
import Derived.Test.YtobjojeliibinaaGreatDoorRows
import Derived.WalkKit
import Derived.ProofKit
import Derived.Below
import Derived.Carry
import Derived.Lib.LaidTab
import Derived.Stop.LaidErr
import Derived.LaidEql
import Derived.Stop.Asserts
import Derived.RowKitTokens
/- The engine, part Z: the rules in short: what they ask beside is found by itself. -/
namespace Go.Proofs.YtobjojeliibinaaGreatDoor
open Go
set_option linter.unusedVariables false
set_option linter.unusedSimpArgs false

/-- A list's length, found by instance. -/
class Len (l : List Value) (n : outParam Nat) : Prop where h : l.length = n
theorem Len.of {l : List Value} {n : Nat} (h : l.length = n) : Len l n := ⟨h⟩
instance {d : Dig} : Len (dc d) 16 := ⟨dc_length d⟩
instance : Len zD 16 := ⟨zD_length⟩
instance {α : Type} {V : α → Value} {m : Nat} {f : Nat → α} : Len (fnc V m f) m := ⟨fnc_length⟩
class One (l : List Value) : Prop where h : ∀ v ∈ l, v.oneCell' = true
theorem One.of {l : List Value} (h : ∀ v ∈ l, v.oneCell' = true) : One l := ⟨h⟩
class One1 (v : Value) : Prop where h : v.oneCell' = true
theorem len_L {l : List Value} {n : Nat} [Len l n] : l.length = n := Len.h
theorem drop_L {q r : List Value} {m k : Nat} [h : Len q m] (hk : m ≤ k) : List.drop k (q ++ r) = List.drop (k - m) r := drop_q h.h hk
theorem drop_L' {q : List Value} {m k : Nat} [h : Len q m] (hk : m ≤ k) : List.drop k q = [] := drop_q' h.h hk
theorem take_L {q r : List Value} {m k : Nat} [h : Len q m] (hk : m ≤ k) : List.take k (q ++ r) = q ++ List.take (k - m) r := take_q h.h hk
theorem take_L' {q : List Value} {m k : Nat} [h : Len q m] (hk : m ≤ k) : List.take k q = q := take_q' h.h hk
theorem get_L {q r : List Value} {m k : Nat} [h : Len q m] (hk : m ≤ k) : (q ++ r)[k]? = r[k - m]? := get_q h.h hk

section
variable {P : Program} {w0 : World} {F0 : Nat → Prop} {L : List Res} {Q : Exit → Act → World → Prop} {n : Fm} {env : Env} {ops : Array Oper} {rest : List Oper}
variable {d : Option Tmp} {t : Tmp} {op : Op} {ty : TypeId} {pos : String} {af : Array Edge} {gd : Option (Nat × Bool)} {v : Value}

theorem gp (h : Runs P w0 F0 L n env ⟨some t, op, ty, pos, af, gd⟩ v) (k : Gl P w0 F0 L ops Q rest n ((t, v) :: env)) (hw : Wt ops n env ⟨some t, op, ty, pos, af, gd⟩ true := by exact wt0 rfl) : Gl P w0 F0 L ops Q (⟨some t, op, ty, pos, af, gd⟩ :: rest) n env := gl_pure hw h k
theorem gq (h : Runs P w0 F0 L n env ⟨some t, op, ty, pos, af, gd⟩ v) (k : Gl P w0 F0 L ops Q rest n ((t, v) :: env)) (hw : Wt ops n env ⟨some t, op, ty, pos, af, gd⟩ true := by exact wtgT rfl rfl rfl rfl) : Gl P w0 F0 L ops Q (⟨some t, op, ty, pos, af, gd⟩ :: rest) n env := gl_pure hw h k
theorem gn (k : Gl P w0 F0 L ops Q rest n ((t, undef) :: env)) (hw : Wt ops n env ⟨some t, op, ty, pos, af, gd⟩ false := by first | exact wtgF rfl rfl rfl rfl rfl | exact wtu rfl rfl rfl rfl) : Gl P w0 F0 L ops Q (⟨some t, op, ty, pos, af, gd⟩ :: rest) n env := gl_passD hw k
theorem sp {C : Env → Prop} (h : Runs P w0 F0 L n env ⟨some t, op, ty, pos, af, gd⟩ v) (k : Gs P w0 F0 L ops rest n ((t, v) :: env) C) (hw : Wt ops n env ⟨some t, op, ty, pos, af, gd⟩ true := by exact wt0 rfl) : Gs P w0 F0 L ops (⟨some t, op, ty, pos, af, gd⟩ :: rest) n env C := gs_pure hw h k
theorem sq {C : Env → Prop} (h : Runs P w0 F0 L n env ⟨some t, op, ty, pos, af, gd⟩ v) (k : Gs P w0 F0 L ops rest n ((t, v) :: env) C) (hw : Wt ops n env ⟨some t, op, ty, pos, af, gd⟩ true := by exact wtgT rfl rfl rfl rfl) : Gs P w0 F0 L ops (⟨some t, op, ty, pos, af, gd⟩ :: rest) n env C := gs_pure hw h k
theorem gsr {id : Nat} {l : List Oper} {y : Code} (h : Gl P w0 F0 L l.toArray (Exit.then (cwp n P y Q) Q) l n env) : Gc P w0 F0 L (.seq (.region id l.toArray false) y) Q n env := gc_seq (gc_region h)
theorem gnt {y : Code} {Q' : Exit → Act → World → Prop} (h : Gc P w0 F0 L y Q n env) : Gl P w0 F0 L ops (Exit.then (cwp n P y Q) Q') [] n env := gl_nil (gx_then h)
theorem zmv {x : Operand} (hx : ev n env x = v := by conv => lhs; whnf) : Runs P w0 F0 L n env ⟨d, .move x, ty, pos, af, gd⟩ v := r_move hx
theorem zas {x : Operand} (hx : ev n env x = v := by conv => lhs; whnf) : Runs P w0 F0 L n env ⟨d, .assign x, ty, pos, af, gd⟩ v := r_assign hx
theorem zpk {c x y : Operand} {b : Bool} (hc : ev n env c = .bool b := by exact rfl) (hv : (bif b then ev n env x else ev n env y) = v := by conv => lhs; whnf) : Runs P w0 F0 L n env ⟨d, .pick c x y, ty, pos, af, gd⟩ v := r_pick hc hv
theorem znc {x : Operand} {a : Addr} (hx : ev n env x = .pointer (some a) := by exact rfl) : Runs P w0 F0 L n env ⟨d, .nilCheck x, ty, pos, af, gd⟩ (.pointer (some a)) := r_nilCheck hx
theorem znt {x : Operand} {T : TypeId} {b : Bool} (hx : ev n env x = .bool b := by exact rfl) : Runs P w0 F0 L n env ⟨d, .unOp .not T x, ty, pos, af, gd⟩ (.bool (!b)) := r_not hx
theorem zex {x : Operand} {i : Nat} {vs : Array Value} (hx : ev n env x = .tuple vs := by exact rfl) (hv : vs[i]? = some v := by exact rfl) : Runs P w0 F0 L n env ⟨d, .extract x i, ty, pos, af, gd⟩ v := r_extract hx hv
theorem zmf {f : Fn} {cs : List Operand} {us : List Value} (hc : cs.map (ev n env) = us := by exact rfl) : Runs P w0 F0 L n env ⟨d, .makeFunc f #[] cs.toArray, ty, pos, af, gd⟩ (.func f #[] us.toArray) := r_makeF hc
theorem zad {x y : Operand} {T T' : TypeId} {k : IntKind} {i j m : Int} (hx : ev n env x = .int k i := by exact rfl) (hy : ev n env y = .int k j := by exact rfl) (h : k.wrap (i + j) = m := by first | exact wrap_i64 (by omega) (by omega) | exact rfl) : Runs P w0 F0 L n env ⟨d, .binOp .add T x y T', ty, pos, af, gd⟩ (.int k m) := r_arith (op := .add) hx hy h
theorem zsb {x y : Operand} {T T' : TypeId} {k : IntKind} {i j m : Int} (hx : ev n env x = .int k i := by exact rfl) (hy : ev n env y = .int k j := by exact rfl) (h : k.wrap (i - j) = m := by first | exact wrap_i64 (by omega) (by omega) | exact rfl) : Runs P w0 F0 L n env ⟨d, .binOp .sub T x y T', ty, pos, af, gd⟩ (.int k m) := r_arith (op := .sub) hx hy h
theorem zml {x y : Operand} {T T' : TypeId} {k : IntKind} {i j m : Int} (hx : ev n env x = .int k i := by exact rfl) (hy : ev n env y = .int k j := by exact rfl) (h : k.wrap (i * j) = m := by first | exact wrap_i64 (by omega) (by omega) | exact rfl) : Runs P w0 F0 L n env ⟨d, .binOp .mul T x y T', ty, pos, af, gd⟩ (.int k m) := r_arith (op := .mul) hx hy h
theorem zlt {x y : Operand} {T T' : TypeId} {k : IntKind} {i j : Int} (hx : ev n env x = .int k i := by exact rfl) (hy : ev n env y = .int k j := by exact rfl) : Runs P w0 F0 L n env ⟨d, .binOp .lss T x y T', ty, pos, af, gd⟩ (.bool (decide (i < j))) := r_lss hx hy
theorem zle {x y : Operand} {T T' : TypeId} {k : IntKind} {i j : Int} (hx : ev n env x = .int k i := by exact rfl) (hy : ev n env y = .int k j := by exact rfl) : Runs P w0 F0 L n env ⟨d, .binOp .leq T x y T', ty, pos, af, gd⟩ (.bool (decide (i ≤ j))) := r_leq hx hy
theorem zgt {x y : Operand} {T T' : TypeId} {k : IntKind} {i j : Int} (hx : ev n env x = .int k i := by exact rfl) (hy : ev n env y = .int k j := by exact rfl) : Runs P w0 F0 L n env ⟨d, .binOp .gtr T x y T', ty, pos, af, gd⟩ (.bool (decide (j < i))) := r_gtr hx hy
theorem zge {x y : Operand} {T T' : TypeId} {k : IntKind} {i j : Int} (hx : ev n env x = .int k i := by exact rfl) (hy : ev n env y = .int k j := by exact rfl) : Runs P w0 F0 L n env ⟨d, .binOp .geq T x y T', ty, pos, af, gd⟩ (.bool (decide (j ≤ i))) := r_geq hx hy
theorem zei {x y : Operand} {T T' : TypeId} {k : IntKind} {i j : Int} (hx : ev n env x = .int k i := by exact rfl) (hy : ev n env y = .int k j := by exact rfl) : Runs P w0 F0 L n env ⟨d, .binOp .eql T x y T', ty, pos, af, gd⟩ (.bool (decide (i = j))) := r_eql_int hx hy
theorem zni {x y : Operand} {T T' : TypeId} {k : IntKind} {i j : Int} (hx : ev n env x = .int k i := by exact rfl) (hy : ev n env y = .int k j := by exact rfl) : Runs P w0 F0 L n env ⟨d, .binOp .neq T x y T', ty, pos, af, gd⟩ (.bool (!decide (i = j))) := r_neq_int hx hy
theorem zbt {b : BinOp} {x y : Operand} {T T' : TypeId} {k : IntKind} {i j : Int} (hop : (match b with | .and | .or | .xor | .andNot => true | _ => false) = true := by exact rfl) (hx : ev n env x = .int k i := by exact rfl) (hy : ev n env y = .int k j := by exact rfl) : Runs P w0 F0 L n env ⟨d, .binOp b T x y T', ty, pos, af, gd⟩ (.int k (bitop b k i j)) := r_bits hop hx hy
theorem zhl {x y : Operand} {T T' : TypeId} {k k' : IntKind} {i j : Int} (hx : ev n env x = .int k i := by exact rfl) (hy : ev n env y = .int k' j := by exact rfl) (hj : 0 ≤ j := by omega) : Runs P w0 F0 L n env ⟨d, .binOp .shl T x y T', ty, pos, af, gd⟩ (.int k (k.wrap (i * 2 ^ (min j.toNat k.bits)))) := r_shl hx hy hj
theorem zhr {x y : Operand} {T T' : TypeId} {k k' : IntKind} {i j : Int} (hx : ev n env x = .int k i := by exact rfl) (hy : ev n env y = .int k' j := by exact rfl) (hj : 0 ≤ j := by omega) : Runs P w0 F0 L n env ⟨d, .binOp .shr T x y T', ty, pos, af, gd⟩ (.int k (i.fdiv (2 ^ (min j.toNat k.bits)))) := r_shr hx hy hj
theorem zqu {x y : Operand} {T T' : TypeId} {k : IntKind} {i j : Int} (hx : ev n env x = .int k i := by exact rfl) (hy : ev n env y = .int k j := by exact rfl) (hj : j ≠ 0 := by omega) : Runs P w0 F0 L n env ⟨d, .binOp .quo T x y T', ty, pos, af, gd⟩ (.int k (k.wrap (i.tdiv j))) := r_quo hx hy hj
theorem zrm {x y : Operand} {T T' : TypeId} {k : IntKind} {i j : Int} (hx : ev n env x = .int k i := by exact rfl) (hy : ev n env y = .int k j := by exact rfl) (hj : j ≠ 0 := by omega) : Runs P w0 F0 L n env ⟨d, .binOp .rem T x y T', ty, pos, af, gd⟩ (.int k (i.tmod j)) := r_rem hx hy hj
theorem zci {S T : TypeId} {x : Operand} {k k' : IntKind} {i : Int} {ds : TypeDesc} [UNT P S ds] [UNT P T (.int k')] (hx : ev n env x = .int k i := by exact rfl) : Runs P w0 F0 L n env ⟨d, .convert S T x, ty, pos, af, gd⟩ (.int k' (k'.wrap i)) := r_conv_int hx UNT.h UNT.h
theorem zln {x : Operand} {T e : TypeId} {a : Option Addr} {m c : Nat} [SLT P T e] (hx : ev n env x = .slice a m c := by exact rfl) : Runs P w0 F0 L n env ⟨d, .call ⟨.builtin .len, #[x], #[T]⟩, ty, pos, af, gd⟩ (.int .i64 m) := r_len_slice hx SLT.h
theorem zfa {x : Operand} {s f g o k : Nat} [FO P s f k] (hx : ev n env x = .pointer (some ⟨g, o, none⟩) := by exact rfl) : Runs P w0 F0 L n env ⟨d, .fieldAddr s x f, ty, pos, af, gd⟩ (.pointer (some ⟨g, o + k, none⟩)) := r_fieldAddr hx FO.h
theorem zia {x y : Operand} {T e g o m c s : Nat} {k : IntKind} {i : Int} [SLT P T e] [SZ P e s] (hx : ev n env x = .slice (some ⟨g, o, none⟩) m c := by exact rfl) (hy : ev n env y = .int k i := by exact rfl) (h0 : 0 ≤ i := by omega) (hm : i < m := by omega) : Runs P w0 F0 L n env ⟨d, .indexAddr T x y, ty, pos, af, gd⟩ (.pointer (some ⟨g, o + i.toNat * s, none⟩)) := r_indexAddr_slice hx hy SLT.h SZ.h h0 hm
theorem zl {x : Operand} {T g o T' : Nat} {cs : List Value} {L' : List Res} [RO P T] (hx : ev n env x = .pointer (some ⟨g, o, none⟩) := by exact rfl) (hp : Pick L (blk g T' cs) L' := by repeat (first | exact Pick.here | apply Pick.there)) (hv : cs[o]? = some v := by first | exact rfl | (simp only [List.getElem?_cons_succ, List.getElem?_cons_zero, List.cons_append, List.append_assoc, get_dc, get_L, Nat.reduceLeDiff, Nat.reduceSub, Nat.reduceAdd, Nat.le_refl]; exact rfl)) : Runs P w0 F0 L n env ⟨d, .load T x, ty, pos, af, gd⟩ v := r_ld1 hx RO.h hp hv
theorem zL {x : Operand} {T g o T' m : Nat} {cs sg : List Value} {L' : List Res} [RA P T] [SZ P T m] (hx : ev n env x = .pointer (some ⟨g, o, none⟩) := by exact rfl) (hp : Pick L (blk g T' cs) L' := by repeat (first | exact Pick.here | apply Pick.there)) (hg : (cs.drop o).take m = sg := by (simp only [List.drop_succ_cons, List.drop_zero, List.take_succ_cons, List.take_zero, List.cons_append, List.nil_append, List.append_assoc, drop_dc, drop_dc', take_dc, take_dc', drop_L, drop_L', take_L, take_L', Nat.reduceLeDiff, Nat.reduceSub, Nat.reduceAdd, Nat.le_refl, List.length_cons, List.length_append, List.length_nil, dc_length, len_L, List.drop_nil, List.take_nil, List.append_nil, List.length_map, List.length_replicate]; first | done | exact rfl)) (hl : sg.length = m := by first | exact rfl | (simp only [List.drop_succ_cons, List.drop_zero, List.take_succ_cons, List.take_zero, List.cons_append, List.nil_append, List.append_assoc, drop_dc, drop_dc', take_dc, take_dc', drop_L, drop_L', take_L, take_L', Nat.reduceLeDiff, Nat.reduceSub, Nat.reduceAdd, Nat.le_refl, List.length_cons, List.length_append, List.length_nil, dc_length, len_L, List.drop_nil, List.take_nil, List.append_nil, List.length_map, List.length_replicate]; first | done | omega)) : Runs P w0 F0 L n env ⟨d, .load T x, ty, pos, af, gd⟩ (.agg sg.toArray) := r_ldN hx RA.h SZ.h hp hg hl
theorem zLa {x : Operand} {T g T' m : Nat} {cs : List Value} {L' : List Res} [RA P T] [SZ P T m] (hx : ev n env x = .pointer (some ⟨g, 0, none⟩) := by exact rfl) (hp : Pick L (blk g T' cs) L' := by repeat (first | exact Pick.here | apply Pick.there)) (hl : cs.length = m := by first | exact rfl | (simp only [List.drop_succ_cons, List.drop_zero, List.take_succ_cons, List.take_zero, List.cons_append, List.nil_append, List.append_assoc, drop_dc, drop_dc', take_dc, take_dc', drop_L, drop_L', take_L, take_L', Nat.reduceLeDiff, Nat.reduceSub, Nat.reduceAdd, Nat.le_refl, List.length_cons, List.length_append, List.length_nil, dc_length, len_L, List.drop_nil, List.take_nil, List.append_nil, List.length_map, List.length_replicate]; first | done | omega)) : Runs P w0 F0 L n env ⟨d, .load T x, ty, pos, af, gd⟩ (.agg cs.toArray) := r_ldN hx RA.h SZ.h hp (seg_all hl) hl
theorem zwa {x y : Operand} {T T' : TypeId} {a b : UInt32} (hx : ev n env x = W32 a := by exact rfl) (hy : ev n env y = W32 b := by exact rfl) : Runs P w0 F0 L n env ⟨d, .binOp .add T x y T', ty, pos, af, gd⟩ (W32 (a + b)) := r_addw hx hy
theorem zwn {x y : Operand} {T T' : TypeId} {a b : UInt32} (hx : ev n env x = W32 a := by exact rfl) (hy : ev n env y = W32 b := by exact rfl) : Runs P w0 F0 L n env ⟨d, .binOp .and T x y T', ty, pos, af, gd⟩ (W32 (a &&& b)) := r_andw hx hy
theorem zwo {x y : Operand} {T T' : TypeId} {a b : UInt32} (hx : ev n env x = W32 a := by exact rfl) (hy : ev n env y = W32 b := by exact rfl) : Runs P w0 F0 L n env ⟨d, .binOp .or T x y T', ty, pos, af, gd⟩ (W32 (a ||| b)) := r_orw hx hy
theorem zwx {x y : Operand} {T T' : TypeId} {a b : UInt32} (hx : ev n env x = W32 a := by exact rfl) (hy : ev n env y = W32 b := by exact rfl) : Runs P w0 F0 L n env ⟨d, .binOp .xor T x y T', ty, pos, af, gd⟩ (W32 (a ^^^ b)) := r_xorw hx hy
theorem zwc {T : TypeId} {x : Operand} {a : UInt32} (hx : ev n env x = W32 a := by exact rfl) : Runs P w0 F0 L n env ⟨d, .unOp .xor T x, ty, pos, af, gd⟩ (W32 (~~~a)) := r_notw hx
theorem zed {x y : Operand} {T T' e : TypeId} {a b : Dig} [ART P T 16 e] [UNT P e (.int .u8)] [SZ P e 1] (hx : ev n env x = .agg (dc a).toArray := by exact rfl) (hy : ev n env y = .agg (dc b).toArray := by exact rfl) (hg : P.eqGuardType P.depth T = false := by kernel_rfl) : Runs P w0 F0 L n env ⟨d, .binOp .eql T x y T', ty, pos, af, gd⟩ (.bool (decide (a = b))) := r_eql_dig hx hy ART.h UNT.h SZ.h hg
theorem znd {x y : Operand} {T T' e : TypeId} {a b : Dig} [ART P T 16 e] [UNT P e (.int .u8)] [SZ P e 1] (hx : ev n env x = .agg (dc a).toArray := by exact rfl) (hy : ev n env y = .agg (dc b).toArray := by exact rfl) (hg : P.eqGuardType P.depth T = false := by kernel_rfl) : Runs P w0 F0 L n env ⟨d, .binOp .neq T x y T', ty, pos, af, gd⟩ (.bool (!decide (a = b))) := r_neq_dig hx hy ART.h UNT.h SZ.h hg
theorem zen {x : Operand} {T T' e : TypeId} {a : Option Addr} {m c : Nat} [SLT P T e] (hx : ev n env x = .slice a m c := by exact rfl) : Runs P w0 F0 L n env ⟨d, .binOp .eql T x (.const (.slice none 0 0)) T', ty, pos, af, gd⟩ (.bool a.isNone) := r_eqnil_sl hx SLT.h
theorem cells_one {v : Value} [h : One1 v] : v.cells.toList = [v] := by have := h.h; cases v <;> first | rfl | (simp [Value.oneCell'] at this)
theorem fillL_cons {place : Nat → Option (Nat × Nat)} {cs cs' new out : List Value} {i o s : Nat} {u u' : Value} {r : List (Nat × Value)} (hp : place i = some (o, s)) (h0 : u = u') (hv : u'.cells.toList = new) (hl : new.length = s) (hle : o + s ≤ cs.length) (hu : updL cs o new = cs') (k : fillL place cs' r = some out) : fillL place cs ((i, u) :: r) = some out := by
  subst h0
  simp only [fillL, hp]
  rw [hv, if_pos ⟨hl, by rw [hl]; exact hle⟩, hu]; exact k
theorem zbu {T : TypeId} {parts : Array (Nat × Operand)} {zs cs : List Value} {pl : List (Nat × Nat)} [ZC P T zs] [PLT P T pl] (hf : fillL (pl[·]?) zs (parts.toList.map fun p => (p.1, ev n env p.2)) = some cs := by first | exact rfl | ((repeat (apply fillL_cons rfl (by conv => lhs; whnf) (by first | (simp only [Value.cells, List.toList_toArray]; first | done | exact rfl) | exact cells_one) (by first | exact rfl | (simp only [List.drop_succ_cons, List.drop_zero, List.take_succ_cons, List.take_zero, List.cons_append, List.nil_append, List.append_assoc, drop_dc, drop_dc', take_dc, take_dc', drop_L, drop_L', take_L, take_L', Nat.reduceLeDiff, Nat.reduceSub, Nat.reduceAdd, Nat.le_refl, List.length_cons, List.length_append, List.length_nil, dc_length, len_L, List.drop_nil, List.take_nil, List.append_nil, List.length_map, List.length_replicate]; first | done | omega)) (by first | exact rfl | (simp only [List.drop_succ_cons, List.drop_zero, List.take_succ_cons, List.take_zero, List.cons_append, List.nil_append, List.append_assoc, drop_dc, drop_dc', take_dc, take_dc', drop_L, drop_L', take_L, take_L', Nat.reduceLeDiff, Nat.reduceSub, Nat.reduceAdd, Nat.le_refl, List.length_cons, List.length_append, List.length_nil, dc_length, len_L, List.drop_nil, List.take_nil, List.append_nil, List.length_map, List.length_replicate]; first | done | omega)) (by (simp only [updL, List.drop_succ_cons, List.drop_zero, List.take_succ_cons, List.take_zero, List.cons_append, List.nil_append, List.append_assoc, drop_dc, drop_dc', take_dc, take_dc', drop_L, drop_L', take_L, take_L', Nat.reduceLeDiff, Nat.reduceSub, Nat.reduceAdd, Nat.le_refl, List.length_cons, List.length_append, List.length_nil, dc_length, len_L, List.drop_nil, List.take_nil, List.append_nil, List.length_map, List.length_replicate]; first | done | exact rfl)))); exact rfl)) : Runs P w0 F0 L n env ⟨d, .build T parts, ty, pos, af, gd⟩ (.agg cs.toArray) := r_build ZC.h PLT.h hf
theorem zba {T e m s : Nat} {parts : Array (Nat × Operand)} {zs cs : List Value} [ZC P T zs] [ART P T m e] [SZ P e s] (hf : fillL (fun i => some (i * s, s)) zs (parts.toList.map fun p => (p.1, ev n env p.2)) = some cs := by first | exact rfl | ((repeat (apply fillL_cons rfl (by conv => lhs; whnf) (by first | (simp only [Value.cells, List.toList_toArray]; first | done | exact rfl) | exact cells_one) (by first | exact rfl | (simp only [List.drop_succ_cons, List.drop_zero, List.take_succ_cons, List.take_zero, List.cons_append, List.nil_append, List.append_assoc, drop_dc, drop_dc', take_dc, take_dc', drop_L, drop_L', take_L, take_L', Nat.reduceLeDiff, Nat.reduceSub, Nat.reduceAdd, Nat.le_refl, List.length_cons, List.length_append, List.length_nil, dc_length, len_L, List.drop_nil, List.take_nil, List.append_nil, List.length_map, List.length_replicate]; first | done | omega)) (by first | exact rfl | (simp only [List.drop_succ_cons, List.drop_zero, List.take_succ_cons, List.take_zero, List.cons_append, List.nil_append, List.append_assoc, drop_dc, drop_dc', take_dc, take_dc', drop_L, drop_L', take_L, take_L', Nat.reduceLeDiff, Nat.reduceSub, Nat.reduceAdd, Nat.le_refl, List.length_cons, List.length_append, List.length_nil, dc_length, len_L, List.drop_nil, List.take_nil, List.append_nil, List.length_map, List.length_replicate]; first | done | omega)) (by (simp only [updL, List.drop_succ_cons, List.drop_zero, List.take_succ_cons, List.take_zero, List.cons_append, List.nil_append, List.append_assoc, drop_dc, drop_dc', take_dc, take_dc', drop_L, drop_L', take_L, take_L', Nat.reduceLeDiff, Nat.reduceSub, Nat.reduceAdd, Nat.le_refl, List.length_cons, List.length_append, List.length_nil, dc_length, len_L, List.drop_nil, List.take_nil, List.append_nil, List.length_map, List.length_replicate]; first | done | exact rfl)))); exact rfl)) : Runs P w0 F0 L n env ⟨d, .build T parts, ty, pos, af, gd⟩ (.agg cs.toArray) := r_buildA ZC.h ART.h SZ.h hf
theorem zal {T : TypeId} {cs : List Value} [ZC P T cs] (k : ∀ b, Gl P w0 F0 (blk b T cs :: L) ops Q rest n ((t, .pointer (some ⟨b, 0, none⟩)) :: env)) (hw : Wt ops n env ⟨some t, .alloc T, ty, pos, af, gd⟩ true := by first | exact wt0 rfl | exact wtgT rfl rfl rfl rfl) : Gl P w0 F0 L ops Q (⟨some t, .alloc T, ty, pos, af, gd⟩ :: rest) n env := gl_alloc hw ZC.h k
theorem zbN {T : TypeId} {x : Operand} {cs : List Value} (k : ∀ b, Gl P w0 F0 (blk b T cs :: L) ops Q rest n ((t, .pointer (some ⟨b, 0, none⟩)) :: env)) (hx : ev n env x = .agg cs.toArray := by exact rfl) (hw : Wt ops n env ⟨some t, .box T x, ty, pos, af, gd⟩ true := by first | exact wt0 rfl | exact wtgT rfl rfl rfl rfl) : Gl P w0 F0 L ops Q (⟨some t, .box T x, ty, pos, af, gd⟩ :: rest) n env := gl_boxN hw hx k
theorem zb1 {T : TypeId} {x : Operand} (k : ∀ b, Gl P w0 F0 (blk b T [v] :: L) ops Q rest n ((t, .pointer (some ⟨b, 0, none⟩)) :: env)) (hx : ev n env x = v := by conv => lhs; whnf) (h1 : v.oneCell' = true := by first | exact rfl | exact One1.h) (hw : Wt ops n env ⟨some t, .box T x, ty, pos, af, gd⟩ true := by first | exact wt0 rfl | exact wtgT rfl rfl rfl rfl) : Gl P w0 F0 L ops Q (⟨some t, .box T x, ty, pos, af, gd⟩ :: rest) n env := gl_box1 hw hx h1 k
theorem zs1 {T : TypeId} {x y : Operand} {g o T' : Nat} {cs cs' : List Value} {L' : List Res} [SZ P T 1] (k : Gl P w0 F0 (blk g T' cs' :: L') ops Q rest n env) (hx : ev n env x = .pointer (some ⟨g, o, none⟩) := by exact rfl) (hy : ev n env y = v := by conv => lhs; whnf) (h1 : v.oneCell' = true := by first | exact rfl | exact One1.h) (hp : Pick L (blk g T' cs) L' := by repeat (first | exact Pick.here | apply Pick.there)) (hl : o + 1 ≤ cs.length := by first | exact rfl | (simp only [List.drop_succ_cons, List.drop_zero, List.take_succ_cons, List.take_zero, List.cons_append, List.nil_append, List.append_assoc, drop_dc, drop_dc', take_dc, take_dc', drop_L, drop_L', take_L, take_L', Nat.reduceLeDiff, Nat.reduceSub, Nat.reduceAdd, Nat.le_refl, List.length_cons, List.length_append, List.length_nil, dc_length, len_L, List.drop_nil, List.take_nil, List.append_nil, List.length_map, List.length_replicate]; first | done | omega)) (hu : updL cs o [v] = cs' := by (simp only [updL, List.drop_succ_cons, List.drop_zero, List.take_succ_cons, List.take_zero, List.cons_append, List.nil_append, List.append_assoc, drop_dc, drop_dc', take_dc, take_dc', drop_L, drop_L', take_L, take_L', Nat.reduceLeDiff, Nat.reduceSub, Nat.reduceAdd, Nat.le_refl, List.length_cons, List.length_append, List.length_nil, dc_length, len_L, List.drop_nil, List.take_nil, List.append_nil, List.length_map, List.length_replicate]; first | done | exact rfl)) (hw : Wt ops n env ⟨none, .store T x y, ty, pos, af, gd⟩ true := by first | exact wt0 rfl | exact wtgT rfl rfl rfl rfl) : Gl P w0 F0 L ops Q (⟨none, .store T x y, ty, pos, af, gd⟩ :: rest) n env := gl_store1 hw hx hy h1 SZ.h hp hl hu k
theorem zsN {T : TypeId} {x y : Operand} {g o T' m : Nat} {cs new cs' : List Value} {L' : List Res} [SZ P T m] (k : Gl P w0 F0 (blk g T' cs' :: L') ops Q rest n env) (hx : ev n env x = .pointer (some ⟨g, o, none⟩) := by exact rfl) (hy : ev n env y = .agg new.toArray := by exact rfl) (hm : new.length = m := by first | exact rfl | (simp only [List.drop_succ_cons, List.drop_zero, List.take_succ_cons, List.take_zero, List.cons_append, List.nil_append, List.append_assoc, drop_dc, drop_dc', take_dc, take_dc', drop_L, drop_L', take_L, take_L', Nat.reduceLeDiff, Nat.reduceSub, Nat.reduceAdd, Nat.le_refl, List.length_cons, List.length_append, List.length_nil, dc_length, len_L, List.drop_nil, List.take_nil, List.append_nil, List.length_map, List.length_replicate]; first | done | omega)) (hp : Pick L (blk g T' cs) L' := by repeat (first | exact Pick.here | apply Pick.there)) (hl : o + m ≤ cs.length := by first | exact rfl | (simp only [List.drop_succ_cons, List.drop_zero, List.take_succ_cons, List.take_zero, List.cons_append, List.nil_append, List.append_assoc, drop_dc, drop_dc', take_dc, take_dc', drop_L, drop_L', take_L, take_L', Nat.reduceLeDiff, Nat.reduceSub, Nat.reduceAdd, Nat.le_refl, List.length_cons, List.length_append, List.length_nil, dc_length, len_L, List.drop_nil, List.take_nil, List.append_nil, List.length_map, List.length_replicate]; first | done | omega)) (h1 : ∀ u ∈ new, u.oneCell' = true := by repeat (first | exact all_nil' | exact dc_one _ | exact One.h | refine all_cons' rfl ?_ | refine all_cons' One1.h ?_ | refine all_app' (dc_one _) ?_ | refine all_app' One.h ?_)) (hu : updL cs o new = cs' := by (simp only [updL, List.drop_succ_cons, List.drop_zero, List.take_succ_cons, List.take_zero, List.cons_append, List.nil_append, List.append_assoc, drop_dc, drop_dc', take_dc, take_dc', drop_L, drop_L', take_L, take_L', Nat.reduceLeDiff, Nat.reduceSub, Nat.reduceAdd, Nat.le_refl, List.length_cons, List.length_append, List.length_nil, dc_length, len_L, List.drop_nil, List.take_nil, List.append_nil, List.length_map, List.length_replicate]; first | done | exact rfl)) (hw : Wt ops n env ⟨none, .store T x y, ty, pos, af, gd⟩ true := by first | exact wt0 rfl | exact wtgT rfl rfl rfl rfl) : Gl P w0 F0 L ops Q (⟨none, .store T x y, ty, pos, af, gd⟩ :: rest) n env := gl_storeN hw hx hy SZ.h hm hp hl h1 hu k
theorem zsA {T : TypeId} {x y : Operand} {g T' m : Nat} {cs new : List Value} {L' : List Res} [SZ P T m] (hm : new.length = m) (h1 : ∀ u ∈ new, u.oneCell' = true) (k : Gl P w0 F0 (blk g T' new :: L') ops Q rest n env) (hx : ev n env x = .pointer (some ⟨g, 0, none⟩) := by exact rfl) (hy : ev n env y = .agg new.toArray := by exact rfl) (hp : Pick L (blk g T' cs) L' := by repeat (first | exact Pick.here | apply Pick.there)) (hl : cs.length = m := by first | exact rfl | (simp only [List.drop_succ_cons, List.drop_zero, List.take_succ_cons, List.take_zero, List.cons_append, List.nil_append, List.append_assoc, drop_dc, drop_dc', take_dc, take_dc', drop_L, drop_L', take_L, take_L', Nat.reduceLeDiff, Nat.reduceSub, Nat.reduceAdd, Nat.le_refl, List.length_cons, List.length_append, List.length_nil, dc_length, len_L, List.drop_nil, List.take_nil, List.append_nil, List.length_map, List.length_replicate]; first | done | omega)) (hw : Wt ops n env ⟨none, .store T x y, ty, pos, af, gd⟩ true := by first | exact wt0 rfl | exact wtgT rfl rfl rfl rfl) : Gl P w0 F0 L ops Q (⟨none, .store T x y, ty, pos, af, gd⟩ :: rest) n env := gl_storeN hw hx hy SZ.h hm hp (by omega) h1 (updL_all (by omega)) k
theorem ze0 {T e s : Nat} [SLT P T e] [SZ P e s] (k : ∀ b, Gl P w0 F0 (rowR e s (some ⟨b, 0, none⟩) 0 0 [] :: L) ops Q rest n ((t, .slice (some ⟨b, 0, none⟩) 0 0) :: env)) (hw : Wt ops n env ⟨some t, .buildSlice T 0 #[], ty, pos, af, gd⟩ true := by first | exact wt0 rfl | exact wtgT rfl rfl rfl rfl) : Gl P w0 F0 L ops Q (⟨some t, .buildSlice T 0 #[], ty, pos, af, gd⟩ :: rest) n env := gl_bslice0 hw SLT.h SZ.h k
theorem ze1 {T e : Nat} {x : Operand} {z : List Value} [SLT P T e] [SZ P e 1] [ZC P e z] (k : ∀ b, Gl P w0 F0 (rowR e 1 (some ⟨b, 0, none⟩) 1 1 [v] :: L) ops Q rest n ((t, .slice (some ⟨b, 0, none⟩) 1 1) :: env)) (hx : ev n env x = v := by conv => lhs; whnf) (h1 : v.oneCell' = true := by first | exact rfl | exact One1.h) (hw : Wt ops n env ⟨some t, .buildSlice T 1 #[(0, x)], ty, pos, af, gd⟩ true := by first | exact wt0 rfl | exact wtgT rfl rfl rfl rfl) : Gl P w0 F0 L ops Q (⟨some t, .buildSlice T 1 #[(0, x)], ty, pos, af, gd⟩ :: rest) n env := gl_bsl1 hw SLT.h SZ.h ZC.h hx h1 k
theorem zeN {T e s : Nat} {x : Operand} {cs z : List Value} [SLT P T e] [SZ P e s] [ZC P e z] (k : ∀ b, Gl P w0 F0 (rowR e s (some ⟨b, 0, none⟩) 1 1 cs :: L) ops Q rest n ((t, .slice (some ⟨b, 0, none⟩) 1 1) :: env)) (hx : ev n env x = .agg cs.toArray := by exact rfl) (hl : cs.length = s := by first | exact rfl | (simp only [List.drop_succ_cons, List.drop_zero, List.take_succ_cons, List.take_zero, List.cons_append, List.nil_append, List.append_assoc, drop_dc, drop_dc', take_dc, take_dc', drop_L, drop_L', take_L, take_L', Nat.reduceLeDiff, Nat.reduceSub, Nat.reduceAdd, Nat.le_refl, List.length_cons, List.length_append, List.length_nil, dc_length, len_L, List.drop_nil, List.take_nil, List.append_nil, List.length_map, List.length_replicate]; first | done | omega)) (hb : Nat.ble (1 * s) 16777216 = true := by exact rfl) (hp : Nat.blt 0 (1 * s) = true := by exact rfl) (hw : Wt ops n env ⟨some t, .buildSlice T 1 #[(0, x)], ty, pos, af, gd⟩ true := by first | exact wt0 rfl | exact wtgT rfl rfl rfl rfl) : Gl P w0 F0 L ops Q (⟨some t, .buildSlice T 1 #[(0, x)], ty, pos, af, gd⟩ :: rest) n env := gl_bslN hw SLT.h SZ.h ZC.h hx hl hb hp k
theorem zc {f : FuncId} {xs : List Operand} {ts : Array TypeId} {vs : List Value} {L' M : List Res} {α : Type} {V : α → Value} {N : α → List Res} [CLT P f] (k : ∀ x, Gl P w0 F0 (N x ++ L') ops Q rest n ((t, V x) :: env)) (hv : xs.map (ev n env) = vs := by exact rfl) (hs : Sel L M L' := by repeat (first | exact Sel.nil | (apply Sel.cons; · (repeat (first | exact Pick.here | apply Pick.there))))) (c : ∀ w F1 F2, stars M w F1 → stars L' w F2 → (∀ k, F1 k → ¬ F2 k) → Stp w0 F0 w (fun k => F1 k ∨ F2 k) → Calls P f vs.toArray w (Post w F1 V N)) (hw : Wt ops n env ⟨some t, .call ⟨.value (.func f), xs.toArray, ts⟩, ty, pos, af, gd⟩ true := by first | exact wt0 rfl | exact wtgT rfl rfl rfl rfl) : Gl P w0 F0 L ops Q (⟨some t, .call ⟨.value (.func f), xs.toArray, ts⟩, ty, pos, af, gd⟩ :: rest) n env := gl_call hw (e_call CLT.h hv) hs c k
theorem ze {α : Type} {V : α → Value} {N : α → List Res} {L' : List Res} (x : α) (hv : v = V x := by exact rfl) (hs : Sel L (N x) L' := by repeat (first | exact Sel.nil | (apply Sel.cons; · (repeat (first | exact Pick.here | apply Pick.there))))) : ∀ w, St w0 F0 L w → Post w0 F0 V N (.returned v) w := fun w hw => ⟨x, by rw [hv], hw.sel hs⟩
theorem zsel {L' M : List Res} (hs : Sel L M L' := by repeat (first | exact Sel.nil | (apply Sel.cons; · (repeat (first | exact Pick.here | apply Pick.there))))) : ∀ w, St w0 F0 L w → St w0 F0 M w := fun w hw => hw.sel hs
/-- What a test says, both ways. -/
class BP (b : Bool) (p q : outParam Prop) : Prop where
  t : b = true → p
  f : b = false → q
instance (priority := 10) {b : Bool} : BP b (b = true) (b = false) := ⟨id, id⟩
instance (priority := 100) {p : Prop} [Decidable p] : BP (decide p) p (¬ p) := ⟨of_decide_eq_true, of_decide_eq_false⟩
instance {i j : Int} [Decidable (i < j)] : BP (decide (i < j)) (i < j) (j ≤ i) := ⟨of_decide_eq_true, fun h => Int.not_lt.1 (of_decide_eq_false h)⟩
instance {i j : Int} [Decidable (i ≤ j)] : BP (decide (i ≤ j)) (i ≤ j) (j < i) := ⟨of_decide_eq_true, fun h => Int.not_le.1 (of_decide_eq_false h)⟩
instance {i j : Nat} [Decidable (i < j)] : BP (decide (i < j)) (i < j) (j ≤ i) := ⟨of_decide_eq_true, fun h => Nat.not_lt.1 (of_decide_eq_false h)⟩
instance {i j : Nat} [Decidable (i ≤ j)] : BP (decide (i ≤ j)) (i ≤ j) (j < i) := ⟨of_decide_eq_true, fun h => Nat.not_le.1 (of_decide_eq_false h)⟩
instance {b : Bool} {p q : Prop} [h : BP b p q] : BP (!b) q p := ⟨fun e => h.f (by simpa using e), fun e => h.t (by simpa using e)⟩
instance {a b : Bool} {p q p' q' : Prop} [h : BP a p q] [h' : BP b p' q'] : BP (a && b) (p ∧ p') (q ∨ q') := ⟨fun e => by simp at e; exact ⟨h.t e.1, h'.t e.2⟩, fun e => by cases a <;> cases b <;> simp at e <;> first | exact .inl (h.f rfl) | exact .inr (h'.f rfl)⟩
instance {a b : Bool} {p q p' q' : Prop} [h : BP a p q] [h' : BP b p' q'] : BP (a || b) (p ∨ p') (q ∧ q') := ⟨fun e => by cases a <;> cases b <;> simp at e <;> first | exact .inl (h.t rfl) | exact .inr (h'.t rfl), fun e => by simp at e; exact ⟨h.f e.1, h'.f e.2⟩⟩
theorem gif {c : Operand} {x y : Code} {b : Bool} {p q : Prop} (hc : ev n env c = .bool b) [h : BP b p q] (ht : p → Gc P w0 F0 L x Q n env) (hf : q → Gc P w0 F0 L y Q n env) : Gc P w0 F0 L (.cond c x y) Q n env := gc_cond hc (fun e => ht (h.t e)) (fun e => hf (h.f e))
/-- A round is over. -/
theorem zrd {α : Type} {Ls : α → List Res} {slots : α → Env} {junk : List Nat} {μ : α → Nat} {env0 : Env} {m : Nat} {a0 : α} {u : Nat → Value} {f : List Nat} (a : α) (hm : μ a < m) (hL : ∀ w, St w0 F0 L w → St w0 F0 (Ls a) w)
    (hf : Front (headE slots junk env0 a0 u) env f := by repeat (first | exact Front.here | apply Front.there)) (hs : (slots a).map (fun p => Env.get env p.1) = (slots a).map Prod.snd := by kernel_rfl)
    (hk : f.all (fun t => ((slots a).map Prod.fst).contains t || junk.contains t) = true := by kernel_rfl) (hkeys : (slots a0).map Prod.fst = (slots a).map Prod.fst := by rfl) :
    Gx w0 F0 L (Exit.then (RoundK w0 F0 Ls slots junk μ n env0 m) Q) .normal n env := gx_round a (env_next hf hs hk hkeys) hm hL
theorem zlp {p : Prop} {L' M : List Res} (hp : p) (hs : Sel L M L' := by repeat (first | exact Sel.nil | (apply Sel.cons; · (repeat (first | exact Pick.here | apply Pick.there))))) : ∀ w, St w0 F0 L w → St w0 F0 (pureR p :: M) w := fun w hw => by
  obtain ⟨F', hF', hst'⟩ := hw.sel hs
  exact ⟨F', stars_pure_mk hp hF', hst'⟩
theorem zlq {p : Prop} {L' M M' : List Res} (hp : p) (e : M' = M) (hs : Sel L M' L' := by repeat (first | exact Sel.nil | (apply Sel.cons; · (repeat (first | exact Pick.here | apply Pick.there))))) : ∀ w, St w0 F0 L w → St w0 F0 (pureR p :: M) w := fun w hw => by
  subst e
  exact zlp hp hs w hw
theorem zapo {T : Nat} {x y : Operand} {e size bytes m c j c2 : Nat} {a a2 : Option Addr} {xs news : List Value} {L' L2 : List Res} [ELT P T e size bytes] (k : ∀ a' c', Gl P w0 F0 (rowR e size a' (m + j) c' (xs ++ news) :: L') ops Q rest n ((t, .slice a' (m + j) c') :: env)) (hx : ev n env x = .slice a m c := by exact rfl) (hy : ev n env y = .slice a2 j c2 := by exact rfl) (hp : Pick L (rowR e size a m c xs) L' := by repeat (first | exact Pick.here | apply Pick.there)) (hq : Pick L (rowR e size a2 j c2 news) L2 := by repeat (first | exact Pick.here | apply Pick.there)) (h1 : ∀ u ∈ news, u.oneCell' = true := by repeat (first | exact all_nil' | exact dc_one _ | exact One.h | refine all_cons' rfl ?_ | refine all_cons' One1.h ?_ | refine all_app' (dc_one _) ?_ | refine all_app' One.h ?_)) (hb : (m + j) * bytes ≤ 140737488355328 := by omega) (h63 : m + j ≤ maxLen := by simp only [maxLen]; omega) (hw : Wt ops n env ⟨some t, .call ⟨.builtin .append, #[x, y], #[T, T]⟩, ty, pos, af, gd⟩ true := by first | exact wt0 rfl | exact wtgT rfl rfl rfl rfl) : Gl P w0 F0 L ops Q (⟨some t, .call ⟨.builtin .append, #[x, y], #[T, T]⟩, ty, pos, af, gd⟩ :: rest) n env := gl_append hw hx hy hp ELT.h (fun w hw => hw.row hq) h1 h63 hb k
end
/-! ### Regions that draw their order, one behind the other: what yields whatever comes is taken first, what is left must come one by one -/
theorem wpIn_exits {ro : Option Nat} {P : Program} {o : Oper} {a : Act} {w : World} {K : Act → World → Prop} {Q : Exit → Act → World → Prop} (h : o.wpIn (FR ro) 0 P a w K (Exit.then K Q)) : o.wpIn (FR ro) 0 P a w K Q := by
  unfold Oper.wpIn at *
  refine ⟨h.1, ?_⟩
  have h := h.2
  generalize (o.semAt (FR ro).round a.eval).run P w = r at *
  cases r with
  | ok m w' =>
    cases m with
    | enter f args => exact ⟨h.1, CallsIn.mono h.2 fun e w'' he => by cases e <;> exact he⟩
    | round l f tmps asg bd => exact ⟨h.1, RoundIn.mono h.2 fun e w'' he => by cases e <;> exact he⟩
    | _ => exact h
  | halt x w' => cases x <;> exact h
/-- Whatever order is picked, S holding behind each operation. -/
def wpAnyHI (ro : Option Nat) (P : Program) (md : Region.Mode) (ops : Array Oper) (Q : Exit → Act → World → Prop) (S : World → Prop) : Nat → Array Bool → Act → World → Prop
  | 0, listed, a, w => Region.ready md ops listed = [] ∧ Q .normal a w
  | fuel + 1, listed, a, w =>
    (Region.ready md ops listed = [] → Q .normal a w) ∧
    ∀ i ∈ Region.ready md ops listed, wpOpIn (FR ro) 0 P ops Q i (fun a' w' => S w' ∧ wpAnyHI ro P md ops Q S fuel (listed.setIfInBounds i true) a' w') a w
section heldI
variable {ro : Option Nat} {P : Program} {ops : Array Oper} {Q : Exit → Act → World → Prop} {md : Region.Mode} {S : World → Prop}
theorem wpAnyIn_of_held : ∀ (fuel : Nat) (listed : Array Bool) (a : Act) (w : World), wpAnyHI ro P md ops Q S fuel listed a w → wpAnyIn (FR ro) 0 P md ops Q fuel listed a w
  | 0, _, _, _, h => h
  | fuel + 1, _, _, _, h => ⟨h.1, fun i hi => wpOpIn_mono (fun a' w' h' => wpAnyIn_of_held fuel _ a' w' h'.2) (h.2 i hi)⟩
theorem wpAnyHI_first {i : Nat} {oi : Oper} {v : Value} (hi : ops[i]? = some oi) (hsel : ∀ (j : Nat) (o : Oper) cs b, ops[j]? = some o → o.op ≠ .select cs b) (hnd : noDef ops = true)
    (hQ : ∀ c a w, Q (.panic c) (a.put oi.dst v) w → Q (.panic c) a w) :
    ∀ (fuel : Nat) (listed : Array Bool) (a : Act) (w : World),
      (∀ j oj, ops[j]? = some oj → j ≠ i → listed.getD j true = false → (∀ e ∈ oj.after, Region.binds md e = true → e.on ≠ i) → oi.apart ops oj = true) →
      i ∈ Region.ready md ops listed → YieldsIf P ops S oi v a → S w →
      wpAnyHI ro P md ops Q S fuel (listed.setIfInBounds i true) (a.put oi.dst v) w → wpAnyHI ro P md ops Q S (fuel + 1) listed a w := by
  intro fuel
  induction fuel with
  | zero =>
    intro listed a w _ hr hy hS H
    refine ⟨fun h => (by rw [h] at hr; cases hr), fun j hj => ?_⟩
    by_cases hji : j = i
    · subst hji; exact YieldsIf.wpOpIn hi hy hS ⟨hS, H⟩
    · have := ready_mono hj hji
      rw [H.1] at this
      cases this
  | succ fuel ih =>
    intro listed a w hfree hr hy hS H
    refine ⟨fun h => (by rw [h] at hr; cases hr), fun j hj => ?_⟩
    by_cases hji : j = i
    · subst hji; exact YieldsIf.wpOpIn hi hy hS ⟨hS, H⟩
    · have h1 := H.2 j (ready_mono hj hji)
      obtain ⟨hjun, oj, hoj, hall⟩ := mem_ready.1 hj
      have hnot : ∀ e ∈ oj.after, Region.binds md e = true → e.on ≠ i := fun e he hb heq => by
        have h1 := hall e he hb
        have h0 := (mem_ready.1 hr).1
        rw [heq] at h1
        rcases Nat.lt_or_ge i listed.size with h' | h'
        · simp [h'] at h0 h1; rw [h0] at h1; cases h1
        · simp [Array.getElem?_eq_none h'] at h1
      have h2 := wpOpIn_putIf hoj (hfree j oj hoj hji hjun hnot) (fun cs b => hsel i oi cs b hi) (fun cs b => hsel j oj cs b hoj) (noDef_spec hnd hoj) hQ hy h1
      have hfree' : ∀ k ok, ops[k]? = some ok → k ≠ i → (listed.setIfInBounds j true).getD k true = false →
          (∀ e ∈ ok.after, Region.binds md e = true → e.on ≠ i) → oi.apart ops ok = true := fun k ok hk hki hun hno => by
        refine hfree k ok hk hki ?_ hno
        by_cases hjk : j = k
        · subst hjk; exact hjun
        · rw [getD_set_ne true hjk] at hun; exact hun
      refine wpOpIn_mono (fun a' w' h3 => ⟨h3.2.1, ih (listed.setIfInBounds j true) a' w' hfree' (ready_mono hr (Ne.symm hji)) h3.1 h3.2.1 ?_⟩) h2
      rw [Array.setIfInBounds_comm _ _ hji]
      exact h3.2.2
theorem wpOpIn_of_list {i : Nat} {o : Oper} {K : Act → World → Prop} {a : Act} {w : World} (hi : ops[i]? = some o) (h : wpListIn (FR ro) 0 P ops (Exit.then K Q) [o] a w) : wpOpIn (FR ro) 0 P ops Q i K a w := by
  unfold Go.wpOpIn
  simp only [hi]
  unfold wpListIn at h
  split
  · rename_i hw
    rw [if_pos hw] at h
    exact wpIn_exits h
  · rename_i hw
    rw [if_neg hw] at h
    exact h
theorem wpOpIn_of_list' {i : Nat} {o : Oper} {a : Act} {w : World} (hi : ops[i]? = some o) (h : wpListIn (FR ro) 0 P ops Q [o] a w) : wpOpIn (FR ro) 0 P ops Q i (Q .normal) a w := by
  unfold Go.wpOpIn
  simp only [hi]
  unfold wpListIn at h
  split
  · rename_i hw
    rw [if_pos hw] at h
    exact h
  · rename_i hw
    rw [if_neg hw] at h
    exact h
end heldI
def Gh (P : Program) (w0 : World) (F0 : Nat → Prop) (K L : List Res) (ops : Array Oper) (Q : Exit → Act → World → Prop) (fuel : Nat) (listed : Array Bool) (n : Fm) (env : Env) : Prop :=
  ∀ w, St w0 F0 L w → wpAnyHI n.ro P .any ops Q (St w0 F0 K) fuel listed (fr n env) w
def NextH (P : Program) (w0 : World) (F0 : Nat → Prop) (K : List Res) (ops : Array Oper) (Q : Exit → Act → World → Prop) (fuel : Nat) (listed : Array Bool) (n : Fm) (a : Act) (w : World) : Prop :=
  St w0 F0 K w ∧ wpAnyHI n.ro P .any ops Q (St w0 F0 K) fuel listed a w
section held
variable {P : Program} {w0 : World} {F0 : Nat → Prop} {K L : List Res} {Q : Exit → Act → World → Prop} {n : Fm} {env : Env} {ops : Array Oper} {listed : Array Bool} {fuel : Nat}
theorem gc_regionH {id : Nat} {l : List Oper} (K : List Res) (h : Gh P w0 F0 K L l.toArray Q l.length (Array.replicate l.length false) n env) (hm : P.follows .mixedOrders = true := by kernel_rfl) : Gc P w0 F0 L (.region id l.toArray true) Q n env := fun w hw =>
  wpIn_region_any hm (wpAnyIn_of_held _ _ _ _ (by have := h _ (hw.drawn (w.drawn + 1)); simpa using this))
/-- Number i is taken first. -/
theorem yp (i : Nat) {t : Tmp} {op : Op} {ty : TypeId} {pos : String} {af : Array Edge} {gd : Option (Nat × Bool)} {v : Value} {L' : List Res} (hi : ops[i]? = some ⟨some t, op, ty, pos, af, gd⟩) (hR : Runs P w0 F0 K n env ⟨some t, op, ty, pos, af, gd⟩ v)
    (k : Gh P w0 F0 K L ops Q fuel (listed.setIfInBounds i true) n ((t, v) :: env)) (hw : Wt ops n env ⟨some t, op, ty, pos, af, gd⟩ true := by first | exact wt0 rfl | exact wtgT rfl rfl rfl rfl) (hsel : Sel L K L' := by repeat (first | exact Sel.nil | (apply Sel.cons; · (repeat (first | exact Pick.here | apply Pick.there)))))
    (hs : Region.noSelect ops = true := by kernel_rfl) (hd : noDef ops = true := by kernel_rfl) (hf : Region.free .any ops listed i = true := by kernel_rfl) (hr : (Region.ready .any ops listed).contains i = true := by kernel_rfl)
    (hQ : ∀ c a w, Q (.panic c) (a.put (some t) v) w → Q (.panic c) a w := by exact fun _ _ _ h => h) : Gh P w0 F0 K L ops Q (fuel + 1) listed n env := fun w hst =>
  wpAnyHI_first hi (Region.noSelect_spec hs) hd hQ fuel listed _ _ (Region.free_spec hi hf) (by simpa using hr) (.inl ⟨hw, fun w' hw' => by rw [fr_eval]; exact hR w' hw'⟩) (hst.sel hsel) (by rw [fr_put]; exact k w hst)
/-- Just number i may come. -/
theorem yo (i : Nat) {o : Oper} (hi : ops[i]? = some o) (k : Gl P w0 F0 L ops (Exit.then (NextH P w0 F0 K ops Q fuel (listed.setIfInBounds i true) n) Q) [o] n env) (hr : Region.ready .any ops listed = [i] := by kernel_rfl) : Gh P w0 F0 K L ops Q (fuel + 1) listed n env := fun w hst =>
  ⟨fun h => (by rw [hr] at h; cases h), fun j hj => by
    rw [hr] at hj
    obtain rfl : j = i := by simpa using hj
    exact wpOpIn_of_list hi (k w hst)⟩
/-- Behind it the next. -/
theorem yx {L' : List Res} {Q' : Exit → Act → World → Prop} (k : Gh P w0 F0 K L ops Q fuel listed n env) (hsel : Sel L K L' := by repeat (first | exact Sel.nil | (apply Sel.cons; · (repeat (first | exact Pick.here | apply Pick.there))))) : Gl P w0 F0 L ops (Exit.then (NextH P w0 F0 K ops Q fuel listed n) Q') [] n env := gl_nil fun w hw => ⟨hw.sel hsel, k w hw⟩
/-- All have come. -/
theorem yd {fuel : Nat} (h : Gx w0 F0 L Q .normal n env) (hr : Region.ready .any ops listed = [] := by kernel_rfl) : Gh P w0 F0 K L ops Q fuel listed n env := fun w hw => (by cases fuel with | zero => exact ⟨hr, h w hw⟩ | succ f => exact ⟨fun _ => h w hw, by rw [hr]; simp⟩)
end held
/-! ### The same, the last operation waiting for all others: what it does needn't keep K -/
section tail
variable {ro : Option Nat} {P : Program} {ops : Array Oper} {Q : Exit → Act → World → Prop} {md : Region.Mode} {S : World → Prop} {z : Nat} {T : Act → World → Prop}
def wpAnyT (ro : Option Nat) (P : Program) (md : Region.Mode) (ops : Array Oper) (Q : Exit → Act → World → Prop) (S : World → Prop) (z : Nat) (T : Act → World → Prop) : Nat → Array Bool → Act → World → Prop
  | 0, listed, a, w => Region.ready md ops listed = [z] ∧ T a w
  | fuel + 1, listed, a, w =>
    (Region.ready md ops listed = [z] → T a w) ∧ Region.ready md ops listed ≠ [] ∧
    ∀ i ∈ Region.ready md ops listed, i ≠ z → wpOpIn (FR ro) 0 P ops Q i (fun a' w' => S w' ∧ wpAnyT ro P md ops Q S z T fuel (listed.setIfInBounds i true) a' w') a w
theorem wpAnyT_first {i : Nat} {oi : Oper} {v : Value} (hi : ops[i]? = some oi) (hz : i ≠ z) (hsel : ∀ (j : Nat) (o : Oper) cs b, ops[j]? = some o → o.op ≠ .select cs b) (hnd : noDef ops = true)
    (hQ : ∀ c a w, Q (.panic c) (a.put oi.dst v) w → Q (.panic c) a w) :
    ∀ (fuel : Nat) (listed : Array Bool) (a : Act) (w : World),
      (∀ j oj, ops[j]? = some oj → j ≠ i → listed.getD j true = false → (∀ e ∈ oj.after, Region.binds md e = true → e.on ≠ i) → oi.apart ops oj = true) →
      i ∈ Region.ready md ops listed → YieldsIf P ops S oi v a → S w →
      wpAnyT ro P md ops Q S z T fuel (listed.setIfInBounds i true) (a.put oi.dst v) w → wpAnyT ro P md ops Q S z T (fuel + 1) listed a w := by
  intro fuel
  induction fuel with
  | zero =>
    intro listed a w _ hr hy hS H
    refine ⟨fun h => (by rw [h] at hr; exact absurd (by simpa using hr) hz), fun h => (by rw [h] at hr; cases hr), fun j hj hjz => ?_⟩
    by_cases hji : j = i
    · subst hji; exact YieldsIf.wpOpIn hi hy hS ⟨hS, H⟩
    · have := ready_mono hj hji
      rw [H.1] at this
      exact absurd (by simpa using this) hjz
  | succ fuel ih =>
    intro listed a w hfree hr hy hS H
    refine ⟨fun h => (by rw [h] at hr; exact absurd (by simpa using hr) hz), fun h => (by rw [h] at hr; cases hr), fun j hj hjz => ?_⟩
    by_cases hji : j = i
    · subst hji; exact YieldsIf.wpOpIn hi hy hS ⟨hS, H⟩
    · have h1 := H.2.2 j (ready_mono hj hji) hjz
      obtain ⟨hjun, oj, hoj, hall⟩ := mem_ready.1 hj
      have hnot : ∀ e ∈ oj.after, Region.binds md e = true → e.on ≠ i := fun e he hb heq => by
        have h1 := hall e he hb
        have h0 := (mem_ready.1 hr).1
        rw [heq] at h1
        rcases Nat.lt_or_ge i listed.size with h' | h'
        · simp [h'] at h0 h1; rw [h0] at h1; cases h1
        · simp [Array.getElem?_eq_none h'] at h1
      have h2 := wpOpIn_putIf hoj (hfree j oj hoj hji hjun hnot) (fun cs b => hsel i oi cs b hi) (fun cs b => hsel j oj cs b hoj) (noDef_spec hnd hoj) hQ hy h1
      have hfree' : ∀ k ok, ops[k]? = some ok → k ≠ i → (listed.setIfInBounds j true).getD k true = false →
          (∀ e ∈ ok.after, Region.binds md e = true → e.on ≠ i) → oi.apart ops ok = true := fun k ok hk hki hun hno => by
        refine hfree k ok hk hki ?_ hno
        by_cases hjk : j = k
        · subst hjk; exact hjun
        · rw [getD_set_ne true hjk] at hun; exact hun
      refine wpOpIn_mono (fun a' w' h3 => ⟨h3.2.1, ih (listed.setIfInBounds j true) a' w' hfree' (ready_mono hr (Ne.symm hji)) h3.1 h3.2.1 ?_⟩) h2
      rw [Array.setIfInBounds_comm _ _ hji]
      exact h3.2.2
/-- z waits for all others. -/
def sinkZ (md : Region.Mode) (ops : Array Oper) (z : Nat) : Bool := Nat.blt z ops.size && match ops[z]? with
  | some o => (List.range ops.size).all fun i => Nat.beq i z || o.after.any fun e => Region.binds md e && Nat.beq e.on i
  | none => false
theorem sinkZ_listed (h : sinkZ md ops z = true) {listed : Array Bool} (hz : z ∈ Region.ready md ops listed) {i : Nat} (hi : i < ops.size) (hne : i ≠ z) : listed.getD i false = true := by
  obtain ⟨_, o, ho, hall⟩ := mem_ready.1 hz
  simp only [sinkZ, Bool.and_eq_true, ho] at h
  have := List.all_eq_true.1 h.2 i (List.mem_range.2 hi)
  simp only [Bool.or_eq_true] at this
  rcases this with h' | h'
  · exact absurd (Nat.eq_of_beq_eq_true h') hne
  · obtain ⟨e, he, hb⟩ := Array.any_eq_true'.1 h'
    simp only [Bool.and_eq_true] at hb
    have := hall e he hb.1
    rwa [Nat.eq_of_beq_eq_true hb.2] at this
theorem ready_lt {listed : Array Bool} {i : Nat} (h : i ∈ Region.ready md ops listed) : i < ops.size := by
  unfold Region.ready at h
  exact List.mem_range.1 (List.mem_filter.1 h).1
theorem sinkZ_one (h : sinkZ md ops z = true) {listed : Array Bool} (hz : z ∈ Region.ready md ops listed) : ∀ i ∈ Region.ready md ops listed, i = z := fun i hi => Classical.byContradiction fun hne => by
  have h1 := sinkZ_listed h hz (ready_lt hi) hne
  have h2 := (mem_ready.1 hi).1
  rcases Nat.lt_or_ge i listed.size with h' | h'
  · simp [h'] at h1 h2; rw [h2] at h1; cases h1
  · simp [Array.getElem?_eq_none h'] at h1
theorem ready_nodup {listed : Array Bool} : (Region.ready md ops listed).Nodup := by
  unfold Region.ready; exact List.nodup_range.filter _
theorem ready_one (h : sinkZ md ops z = true) {listed : Array Bool} (hz : z ∈ Region.ready md ops listed) : Region.ready md ops listed = [z] := by
  have h1 := sinkZ_one h hz
  have h2 := ready_nodup (md := md) (ops := ops) (listed := listed)
  generalize Region.ready md ops listed = l at *
  match l with
  | [] => cases hz
  | [x] => rw [h1 x (by simp)]
  | x :: y :: r =>
    have hx := h1 x (by simp)
    have hy := h1 y (by simp)
    subst hx; subst hy
    simp at h2
theorem ready_none (h : sinkZ md ops z = true) {listed : Array Bool} (hz : z ∈ Region.ready md ops listed) : Region.ready md ops (listed.setIfInBounds z true) = [] := by
  refine List.eq_nil_iff_forall_not_mem.2 fun i hi => ?_
  have hu := (mem_ready.1 hi).1
  by_cases hne : i = z
  · subst hne
    rcases Nat.lt_or_ge i listed.size with h' | h'
    · simp [h'] at hu
    · simp [Array.getElem?_eq_none (show (listed.setIfInBounds i true).size ≤ i by simpa using h')] at hu
  · rw [getD_set_ne true (Ne.symm hne)] at hu
    have h1 := sinkZ_listed h hz (ready_lt hi) hne
    rcases Nat.lt_or_ge i listed.size with h' | h'
    · simp [h'] at h1 hu; rw [hu] at h1; cases h1
    · simp [Array.getElem?_eq_none h'] at h1
theorem wpAnyIn_done' {listed : Array Bool} {a : Act} {w : World} (hr : Region.ready md ops listed = []) (h : Q .normal a w) : ∀ fuel, wpAnyIn (FR ro) 0 P md ops Q fuel listed a w
  | 0 => ⟨hr, h⟩
  | _ + 1 => ⟨fun _ => h, by rw [hr]; simp⟩
theorem wpAnyIn_of_tail (h : sinkZ md ops z = true) : ∀ (fuel : Nat) (listed : Array Bool) (a : Act) (w : World), wpAnyT ro P md ops Q S z (wpOpIn (FR ro) 0 P ops Q z (Q .normal)) fuel listed a w → wpAnyIn (FR ro) 0 P md ops Q (fuel + 1) listed a w
  | 0, listed, a, w, H => by
    have hz : z ∈ Region.ready md ops listed := by rw [H.1]; simp
    refine ⟨fun h0 => (by rw [H.1] at h0; cases h0), fun i hi => ?_⟩
    obtain rfl := sinkZ_one h hz i hi
    exact wpOpIn_mono (fun a' w' h' => wpAnyIn_done' (ready_none h hz) h' 0) H.2
  | fuel + 1, listed, a, w, H => by
    refine ⟨fun h0 => absurd h0 H.2.1, fun i hi => ?_⟩
    by_cases hne : i = z
    · subst hne
      exact wpOpIn_mono (fun a' w' h' => wpAnyIn_done' (ready_none h hi) h' _) (H.1 (ready_one h hi))
    · exact wpOpIn_mono (fun a' w' h' => wpAnyIn_of_tail h fuel _ a' w' h'.2) (H.2.2 i hi hne)
end tail
def Gt (P : Program) (w0 : World) (F0 : Nat → Prop) (K L : List Res) (ops : Array Oper) (Q : Exit → Act → World → Prop) (z fuel : Nat) (listed : Array Bool) (n : Fm) (env : Env) : Prop :=
  ∀ w, St w0 F0 L w → wpAnyT n.ro P .any ops Q (St w0 F0 K) z (wpOpIn (FR n.ro) 0 P ops Q z (Q .normal)) fuel listed (fr n env) w
def NextT (P : Program) (w0 : World) (F0 : Nat → Prop) (K : List Res) (ops : Array Oper) (Q : Exit → Act → World → Prop) (z fuel : Nat) (listed : Array Bool) (n : Fm) (a : Act) (w : World) : Prop :=
  St w0 F0 K w ∧ wpAnyT n.ro P .any ops Q (St w0 F0 K) z (wpOpIn (FR n.ro) 0 P ops Q z (Q .normal)) fuel listed a w
section heldz
variable {P : Program} {w0 : World} {F0 : Nat → Prop} {K L : List Res} {Q : Exit → Act → World → Prop} {n : Fm} {env : Env} {ops : Array Oper} {listed : Array Bool} {fuel z : Nat}
theorem gc_regionZ {id : Nat} {l : List Oper} (z : Nat) (K : List Res) (h : Gt P w0 F0 K L l.toArray Q z (l.length - 1) (Array.replicate l.length false) n env) (hm : P.follows .mixedOrders = true := by kernel_rfl) (hz : sinkZ .any l.toArray z = true := by kernel_rfl) : Gc P w0 F0 L (.region id l.toArray true) Q n env := fun w hw =>
  wpIn_region_any hm (by
    have hs := hz
    simp only [sinkZ, Bool.and_eq_true, Nat.blt_eq, List.size_toArray] at hs
    have := wpAnyIn_of_tail hz _ _ _ _ (h _ (hw.drawn (w.drawn + 1)))
    rw [show l.length - 1 + 1 = l.toArray.size by simp; omega] at this
    simpa using this)
theorem yps (i : Nat) {t : Tmp} {op : Op} {ty : TypeId} {pos : String} {af : Array Edge} {gd : Option (Nat × Bool)} {v : Value} {L' : List Res} (hi : ops[i]? = some ⟨some t, op, ty, pos, af, gd⟩) (hR : Runs P w0 F0 K n env ⟨some t, op, ty, pos, af, gd⟩ v)
    (k : Gt P w0 F0 K L ops Q z fuel (listed.setIfInBounds i true) n ((t, v) :: env)) (hw : Wt ops n env ⟨some t, op, ty, pos, af, gd⟩ true := by first | exact wt0 rfl | exact wtgT rfl rfl rfl rfl) (hsel : Sel L K L' := by repeat (first | exact Sel.nil | (apply Sel.cons; · (repeat (first | exact Pick.here | apply Pick.there)))))
    (hs : Region.noSelect ops = true := by kernel_rfl) (hd : noDef ops = true := by kernel_rfl) (hf : Region.free .any ops listed i = true := by kernel_rfl) (hr : (Region.ready .any ops listed).contains i = true := by kernel_rfl) (hz : Nat.beq i z = false := by kernel_rfl)
    (hQ : ∀ c a w, Q (.panic c) (a.put (some t) v) w → Q (.panic c) a w := by exact fun _ _ _ h => h) : Gt P w0 F0 K L ops Q z (fuel + 1) listed n env := fun w hst =>
  wpAnyT_first hi (fun e => by subst e; simp at hz) (Region.noSelect_spec hs) hd hQ fuel listed _ _ (Region.free_spec hi hf) (by simpa using hr) (.inl ⟨hw, fun w' hw' => by rw [fr_eval]; exact hR w' hw'⟩) (hst.sel hsel) (by rw [fr_put]; exact k w hst)
theorem yos (i : Nat) {o : Oper} (hi : ops[i]? = some o) (k : Gl P w0 F0 L ops (Exit.then (NextT P w0 F0 K ops Q z fuel (listed.setIfInBounds i true) n) Q) [o] n env) (hr : Region.ready .any ops listed = [i] := by kernel_rfl) (hz : Nat.beq i z = false := by kernel_rfl) : Gt P w0 F0 K L ops Q z (fuel + 1) listed n env := fun w hst =>
  ⟨fun h => (by rw [hr] at h; simp only [List.cons.injEq, and_true] at h; subst h; simp at hz), by rw [hr]; simp, fun j hj _ => by
    rw [hr] at hj
    obtain rfl : j = i := by simpa using hj
    exact wpOpIn_of_list hi (k w hst)⟩
theorem yxs {L' : List Res} {Q' : Exit → Act → World → Prop} (k : Gt P w0 F0 K L ops Q z fuel listed n env) (hsel : Sel L K L' := by repeat (first | exact Sel.nil | (apply Sel.cons; · (repeat (first | exact Pick.here | apply Pick.there))))) : Gl P w0 F0 L ops (Exit.then (NextT P w0 F0 K ops Q z fuel listed n) Q') [] n env := gl_nil fun w hw => ⟨hw.sel hsel, k w hw⟩
/-- The last one. -/
theorem yzs {o : Oper} (hi : ops[z]? = some o) (k : Gl P w0 F0 L ops Q [o] n env) (hr : Region.ready .any ops listed = [z] := by kernel_rfl) : Gt P w0 F0 K L ops Q z 0 listed n env := fun w hst => ⟨hr, wpOpIn_of_list' hi (k w hst)⟩
end heldz
/-! ### Where ways meet -/
section join
variable {P : Program} {w0 : World} {F0 : Nat → Prop} {L : List Res} {Q : Exit → Act → World → Prop} {n : Fm} {env : Env}
def JoinK {α : Type} (w0 : World) (F0 : Nat → Prop) (Ls : α → List Res) (slots : α → Env) (junk : List Nat) (n : Fm) (env : Env) (act : Act) (w : World) : Prop :=
  ∃ a u, act = fr n (headE slots junk env a u) ∧ St w0 F0 (Ls a) w
theorem gc_join {α : Type} {x y : Code} (Ls : α → List Res) (slots : α → Env) (junk : List Nat) (hx : Gc P w0 F0 L x (Exit.then (JoinK w0 F0 Ls slots junk n env) Q) n env)
    (k : ∀ a u, Gc P w0 F0 (Ls a) y Q n (headE slots junk env a u)) : Gc P w0 F0 L (.seq x y) Q n env := fun w hw => by
  have h := hx w hw
  refine wpIn_seq (wpIn_mono h fun e act w' hq => ?_)
  cases e with
  | normal =>
    obtain ⟨a, u, rfl, hs⟩ := hq
    exact k a u w' hs
  | _ => exact hq
theorem zjn {α : Type} {Ls : α → List Res} {slots : α → Env} {junk : List Nat} {env0 : Env} {f : List Nat} (a : α) (hL : ∀ w, St w0 F0 L w → St w0 F0 (Ls a) w)
    (hf : Front env0 env f := by repeat (first | exact Front.here | apply Front.there)) (hs : (slots a).map (fun p => Env.get env p.1) = (slots a).map Prod.snd := by kernel_rfl)
    (hk : f.all (fun t => ((slots a).map Prod.fst).contains t || junk.contains t) = true := by kernel_rfl) :
    Gx w0 F0 L (Exit.then (JoinK w0 F0 Ls slots junk n env0) Q) .normal n env := fun w hw => ⟨a, Env.get env, fr_ext fun t _ => (get_over (fun p hp => List.map_inj_left.1 hs p hp) fun h1 => get_over (fun p hp => by obtain ⟨j, _, rfl⟩ := List.mem_map.1 hp; rfl) fun h2 => (by
    have h2' : t ∉ junk := fun hm => h2 (t, Env.get env t) (List.mem_map.2 ⟨t, hm, rfl⟩) rfl
    have h1' : t ∉ (slots a).map Prod.fst := fun hm => by
      obtain ⟨p, hp, rfl⟩ := List.mem_map.1 hm
      exact h1 p hp rfl
    exact (hf.get (t := t) (fun hm => by
      have := List.all_eq_true.1 hk t hm
      simp only [Bool.or_eq_true, List.contains_iff_mem] at this
      exact this.elim h1' h2')).symm)).symm, hL w hw⟩
end join
end Go.Proofs.YtobjojeliibinaaGreatDoor

/- Plain words: what a writer of layer 1 holds, and what its calls make of it. No program in sight. -/
namespace Go.Proofs.YtobjojeliibinaaGreatDoor
set_option linter.unusedVariables false

structure WS where
  err : Nat
  bs : List UInt8
def byteAt (n : Int) (i : Nat) : UInt8 := UInt8.ofNat (n / 2 ^ (8 * i) % 256).toNat
def beN (n : Int) (wd : Nat) : List UInt8 := (List.range wd).map fun j => byteAt n (wd - 1 - j)
def wFail (k : Nat) (s : WS) : WS := if s.err = 0 then { s with err := k } else s
def wFix (b : List UInt8) (s : WS) : WS := if s.err = 0 then { s with bs := s.bs ++ b } else s
def wNum (n : Int) (wd : Nat) (s : WS) : WS := if n < 0 ∨ (wd < 8 ∧ 2 ^ (8 * wd) ≤ n) then wFail 1 s else wFix (beN n wd) s
theorem beN_length (n : Int) (wd : Nat) : (beN n wd).length = wd := by simp [beN]
theorem wFail_bs (k : Nat) (s : WS) : (wFail k s).bs = s.bs := by unfold wFail; split <;> rfl
theorem wFix_len (b : List UInt8) (s : WS) : (wFix b s).bs.length ≤ s.bs.length + b.length := by unfold wFix; split <;> simp
theorem wNum_len (n : Int) (wd : Nat) (s : WS) : (wNum n wd s).bs.length ≤ s.bs.length + wd := by
  unfold wNum; split
  · rw [wFail_bs]; omega
  · have := wFix_len (beN n wd) s; rw [beN_length] at this; exact this
end Go.Proofs.YtobjojeliibinaaGreatDoor

/- Walks, by program (wg.py) out of a spec. -/
namespace Go.Proofs.YtobjojeliibinaaGreatDoor
open Go
set_option linter.unusedVariables false
set_option linter.unusedSimpArgs false


/-- An error by its number (0: none): a pointer to the number's own text. -/
@[irreducible] def eV (TE : TypeId) (ea : Nat → Addr) : Nat → Value
  | 0 => .nilIface
  | k + 1 => .iface TE (.pointer (some (ea (k + 1))))
theorem eV_one (TE : TypeId) (ea : Nat → Addr) (k : Nat) : (eV TE ea k).oneCell' = true := by cases k <;> (unfold eV; rfl)
instance {TE : TypeId} {ea : Nat → Addr} {k : Nat} : One1 (eV TE ea k) := ⟨eV_one TE ea k⟩
theorem eV_zero (TE : TypeId) (ea : Nat → Addr) : eV TE ea 0 = .nilIface := by unfold eV; rfl

theorem run_equal_nil {P : Program} {T TE k : Nat} {ea : Nat → Addr} (ht : ifcT P T = true) (w : World) : (Op.equal T (eV TE ea k) .nilIface).run P w = .ok (decide (k = 0)) w := by
  obtain ⟨ms, hu⟩ := run_ifcT ht
  cases k with
  | zero =>
    have h : ∀ d : Nat, (Op.equalIn (d + 1) T .nilIface .nilIface).run P w = .ok true w := fun d => by simp [Op.equalIn, run_underlying hu]
    unfold eV
    simp [Op.equal, Op.maxDepth, h 9999]
  | succ k =>
    have h : ∀ d : Nat, (Op.equalIn (d + 1) T (.iface TE (.pointer (some (ea (k + 1))))) .nilIface).run P w = .ok false w := fun d => by simp [Op.equalIn, run_underlying hu]
    unfold eV
    simp [Op.equal, Op.maxDepth, h 9999]
section
variable {P : Program} {w0 : World} {F0 : Nat → Prop} {L : List Res} {n : Fm} {env : Env} {d : Option Tmp} {ty : TypeId} {pos : String} {af : Array Edge} {gd : Option (Nat × Bool)} {T T' : TypeId} {x : Operand} {TE k : Nat} {ea : Nat → Addr}
theorem r_eqnil (hx : ev n env x = eV TE ea k) (ht : ifcT P T = true) : Runs P w0 F0 L n env ⟨d, .binOp .eql T x (.const .nilIface) T', ty, pos, af, gd⟩ (.bool (decide (k = 0))) := fun w _ => by
  have h := run_equal_nil (P := P) (TE := TE) (k := k) (ea := ea) ht w
  have hg : (eqGuard .eql T x (.const .nilIface) (ev n env x) .nilIface).run P w = .ok () w := by
    rw [hx]; cases k <;> (unfold eV; simp [eqGuard])
  have hb : (binOp .eql T (ev n env x) .nilIface).run P w = .ok (.bool (decide (k = 0))) w := by
    rw [hx]; cases k <;> (unfold eV at h ⊢; simp only [binOp]; simp [h])
  simp only [execOp, Sem.run_bind]
  rw [show ev n env (.const .nilIface) = .nilIface from rfl, hg, Result.andThen_ok, hb]
  rfl
theorem r_nenil (hx : ev n env x = eV TE ea k) (ht : ifcT P T = true) : Runs P w0 F0 L n env ⟨d, .binOp .neq T x (.const .nilIface) T', ty, pos, af, gd⟩ (.bool (!decide (k = 0))) := fun w _ => by
  have h := run_equal_nil (P := P) (TE := TE) (k := k) (ea := ea) ht w
  have hg : (eqGuard .neq T x (.const .nilIface) (ev n env x) .nilIface).run P w = .ok () w := by
    rw [hx]; cases k <;> (unfold eV; simp [eqGuard])
  have hb : (binOp .neq T (ev n env x) .nilIface).run P w = .ok (.bool (!decide (k = 0))) w := by
    rw [hx]; cases k <;> (unfold eV at h ⊢; simp only [binOp]; simp [h])
  simp only [execOp, Sem.run_bind]
  rw [show ev n env (.const .nilIface) = .nilIface from rfl, hg, Result.andThen_ok, hb]
  rfl
end

/-- A writer that lies in block g. -/
def WrR (TE : TypeId) (ea : Nat → Addr) (g : Nat) (s : WS) : Res := exR fun p : Option Addr × Nat => allR [blk g 289 [eV TE ea s.err, .slice p.1 s.bs.length p.2], rowR 5 1 p.1 s.bs.length p.2 (s.bs.map B8)]
theorem wr_open {TE : TypeId} {ea : Nat → Addr} {g : Nat} {s : WS} {L : List Res} {w : World} {F : Nat → Prop} (h : stars (WrR TE ea g s :: L) w F) :
    ∃ a c, stars (blk g 289 [eV TE ea s.err, .slice a s.bs.length c] :: rowR 5 1 a s.bs.length c (s.bs.map B8) :: L) w F := by
  obtain ⟨⟨a, c⟩, h⟩ := stars_ex h
  exact ⟨a, c, stars_all h⟩
theorem wr_shut {TE : TypeId} {ea : Nat → Addr} {g m c k : Nat} {a : Option Addr} {xs : List Value} {s : WS} {L : List Res} {w : World} {F : Nat → Prop}
    (h : stars (blk g 289 [eV TE ea k, .slice a m c] :: rowR 5 1 a m c xs :: L) w F) (hk : k = s.err) (hm : m = s.bs.length) (hx : xs = s.bs.map B8) : stars (WrR TE ea g s :: L) w F := by
  subst hk; subst hm; subst hx
  exact stars_ex_mk (a, c) (stars_all_mk h)
theorem St.wr {w0 w : World} {F0 : Nat → Prop} {TE : TypeId} {ea : Nat → Addr} {g m c k : Nat} {a : Option Addr} {xs : List Value} {s : WS} {L : List Res}
    (h : St w0 F0 (blk g 289 [eV TE ea k, .slice a m c] :: rowR 5 1 a m c xs :: L) w) (hk : k = s.err) (hm : m = s.bs.length) (hx : xs = s.bs.map B8) : St w0 F0 (WrR TE ea g s :: L) w := by
  obtain ⟨F, hF, hst⟩ := h
  exact ⟨F, wr_shut hF hk hm hx, hst⟩

attribute [local irreducible] Gl Gc Gx Gs Runs Wt

set_option maxHeartbeats 400000 in
theorem fail_ok {w : World} {F : Nat → Prop} {g T k j TE : Nat} {ea : Nat → Addr} {cs : List Value} (h : stars [blk g T (eV TE ea k :: cs)] w F) :
    Calls Tryz.prog 171 #[.pointer (some ⟨g, 0, none⟩), eV TE ea j] w (Post w F (fun _ : Unit => .tuple #[]) (fun _ => [blk g T (eV TE ea (if k = 0 then j else k) :: cs)])) := by
  refine g_enter (env := [(0, .pointer (some ⟨g, 0, none⟩)), (1, eV TE ea j)]) Tryz.func171 rfl h Tryz.ntmps171 rfl rfl ?_
  refine gsr ?_
  refine gp zmv ?_
  refine gp znc ?_
  refine gp zfa ?_
  refine gp zl ?_
  refine gp (r_eqnil rfl (by kernel_rfl)) ?_
  refine gnt ?_
  refine gif rfl (fun hc8 => ?_) (fun hc8 => ?_)
  · refine gc_region ?_
    refine gp zmv ?_
    refine gp zmv ?_
    refine gp znc ?_
    refine gp zfa ?_
    refine zs1 ?_
    refine gl_nil ?_
    refine gx_ret0' rfl ?_
    rw [if_pos hc8]
    exact ze ()
  · refine gc_skip ?_
    refine gx_ret0' rfl ?_
    rw [if_neg hc8]
    exact ze ()

set_option maxHeartbeats 400000 in
theorem fixed_ok {w : World} {F : Nat → Prop} {g TE : Nat} {ea : Nat → Addr} {s : WS} {n c : Nat} {a : Option Addr} {b : List UInt8} (h : stars [WrR TE ea g s] w F) (hb : RdRow w (fun k => ¬ F k) 1 a n (b.map B8)) (hl : s.bs.length + n ≤ 1099511627776) :
    Calls Tryz.prog 172 #[.pointer (some ⟨g, 0, none⟩), .slice a n c] w (Post w F (fun _ : Unit => .tuple #[]) (fun _ => [WrR TE ea g (wFix b s)])) := by
  obtain ⟨a0, c0, h'⟩ := wr_open h
  have hn : n = b.length := by have := hb.1; simp at this; omega
  refine g_enter (env := [(0, .pointer (some ⟨g, 0, none⟩)), (1, .slice a n c)]) Tryz.func172 rfl h' Tryz.ntmps172 rfl rfl ?_
  refine gsr ?_
  refine gp zmv ?_
  refine gp znc ?_
  refine gp zfa ?_
  refine gp zfa ?_
  refine gp zl ?_
  refine gp (r_eqnil rfl (by kernel_rfl)) ?_
  refine gnt ?_
  refine gif rfl (fun hc9 => ?_) (fun hc9 => ?_)
  · refine gc_region ?_
    refine gp zmv ?_
    refine gp zmv ?_
    refine gp znc ?_
    refine gp zfa ?_
    refine gp zl ?_
    refine gp zmv ?_
    refine gl_append (wt0 rfl) rfl rfl (by repeat (first | exact Pick.here | apply Pick.there)) Ty.el_86 (fun w' hw => hw.rdOld hb) (one_B8 _) (by simp only [maxLen]; omega) (by omega) ?_
    intro a1 c1
    refine gp znc ?_
    refine gp zfa ?_
    refine zs1 ?_
    refine gl_nil ?_
    refine gx_ret0' rfl ?_
    exact fun w' hw => ⟨(), rfl, by rw [wFix, if_pos hc9]; exact St.wr (hw.sel (by repeat (first | exact Sel.nil | (apply Sel.cons; · (repeat (first | exact Pick.here | apply Pick.there)))))) rfl (by simp [hn]) (by simp)⟩
  · refine gc_skip ?_
    refine gx_ret0' rfl ?_
    exact fun w' hw => ⟨(), rfl, by rw [wFix, if_neg hc9]; exact St.wr (hw.sel (by repeat (first | exact Sel.nil | (apply Sel.cons; · (repeat (first | exact Pick.here | apply Pick.there)))))) rfl rfl rfl⟩

end Go.Proofs.YtobjojeliibinaaGreatDoor

/- What memory reads as: digests, signatures, certificates, blocks. -/
namespace Go.Proofs.YtobjojeliibinaaGreatDoor
open Go
set_option linter.unusedVariables false

structure Sig where
  leaf : Int
  chains : List Dig
  path : List Dig
  deriving DecidableEq
structure Signed where
  who : Int
  sig : Sig
  deriving DecidableEq
structure Vdr where
  key : Dig
  power : Int
  deriving DecidableEq
structure QC where
  epoch : Int
  round : Int
  block : Dig
  votes : List Signed
  deriving DecidableEq
structure Late where
  who : Int
  high : Int
  sig : Sig
  deriving DecidableEq
structure TC where
  epoch : Int
  round : Int
  lates : List Late
  deriving DecidableEq
structure Block where
  epoch : Int
  round : Int
  parent : Dig
  justify : QC
  payload : List (List UInt8)
  next : List Vdr
  deriving DecidableEq

structure Vote where
  epoch : Int
  round : Int
  block : Dig
  sender : Signed
  deriving DecidableEq
structure Tmo where
  epoch : Int
  round : Int
  high : QC
  last : TC
  sender : Signed
  deriving DecidableEq
structure Prop' where
  block : Block
  last : TC
  sender : Signed
  deriving DecidableEq
structure Chg where
  blocks : List Block
  qc : QC
  deriving DecidableEq
structure Msg where
  kind : Int
  vote : Vote
  tmo : Tmo
  prop : Prop'
  wantFrom : Dig
  wantBlock : Dig
  reply : Block
  chg : Chg
  deriving DecidableEq

/-- What is there in w at blocks of A is there in w' at blocks of A'. -/
def Still (w : World) (A : Nat → Prop) (w' : World) (A' : Nat → Prop) : Prop := ∀ k, k < w.heap.size → A k → w'.heap[k]? = w.heap[k]? ∧ A' k

/-! ### Lists -/
def RdList {α : Type} (rd : List Value → α → Prop) (w : World) (A : Nat → Prop) (size : Nat) (a : Option Addr) (n : Nat) (l : List α) : Prop :=
  ∃ css : List (List Value), RdRow w A size a n css.flatten ∧ (∀ c ∈ css, c.length = size) ∧ css.length = l.length ∧ ∀ (i : Nat) (c : List Value) (x : α), css[i]? = some c → l[i]? = some x → rd c x
theorem flatten_len {size : Nat} : ∀ {css : List (List Value)}, (∀ c ∈ css, c.length = size) → css.flatten.length = css.length * size
  | [], _ => by simp
  | c :: l, h => by
    rw [List.flatten_cons, List.length_append, flatten_len (fun c' hc' => h c' (by simp [hc'])), h c (by simp), List.length_cons, Nat.add_mul, Nat.one_mul, Nat.add_comm]
theorem flatten_at {size : Nat} : ∀ {css : List (List Value)} {i : Nat} {c : List Value}, (∀ c ∈ css, c.length = size) → css[i]? = some c → (css.flatten.drop (i * size)).take size = c
  | [], i, c, _, hi => by simp at hi
  | d :: l, 0, c, h, hi => by
    simp at hi; subst hi
    simp only [Nat.zero_mul, List.drop_zero, List.flatten_cons]
    rw [← h d (by simp)]; exact List.take_left
  | d :: l, i + 1, c, h, hi => by
    have hd := h d (by simp)
    simp only [List.getElem?_cons_succ] at hi
    rw [List.flatten_cons, List.drop_append, List.drop_eq_nil_of_le (by rw [hd, Nat.add_mul, Nat.one_mul]; omega), List.nil_append, hd, show (i + 1) * size - size = i * size by rw [Nat.add_mul, Nat.one_mul]; omega]
    exact flatten_at (fun c' hc' => h c' (by simp [hc'])) hi
section list
variable {α : Type} {rd rd' : List Value → α → Prop} {w w' : World} {A A' : Nat → Prop} {size n : Nat} {a : Option Addr} {l : List α}
theorem RdList.len (h : RdList rd w A size a n l) (hs : 0 < size) : n = l.length := by
  obtain ⟨css, hr, hc, hl, _⟩ := h
  have := hr.1
  rw [flatten_len hc, hl] at this
  exact (Nat.eq_of_mul_eq_mul_right hs this).symm
theorem RdList.max (h : RdList rd w A size a n l) : n ≤ maxLen := by obtain ⟨css, hr, _⟩ := h; exact hr.2.1
theorem RdList.elem (h : RdList rd w A size a n l) (hs : 0 < size) {i : Nat} (hi : i < n) :
    ∃ g o c x, a = some ⟨g, o, none⟩ ∧ A g ∧ g < w.heap.size ∧ w.rangeAt g (o + i * size) c ∧ c.length = size ∧ l[i]? = some x ∧ rd c x := by
  have hn := h.len hs
  obtain ⟨css, hr, hc, hl, hx⟩ := h
  obtain ⟨g, o, ha, hA, hg, hra⟩ := hr.elem hi
  have hci : css[i]? = some (css[i]'(by omega)) := List.getElem?_eq_getElem (by omega)
  have hli : l[i]? = some (l[i]'(by omega)) := List.getElem?_eq_getElem (by omega)
  rw [flatten_at hc hci] at hra
  exact ⟨g, o, _, _, ha, hA, hg, hra, hc _ (List.mem_of_getElem? hci), hli, hx i _ _ hci hli⟩
theorem RdList.mv (h : RdList rd w A size a n l) (hk : Still w A w' A') (hrd : ∀ c x, rd c x → rd' c x) : RdList rd' w' A' size a n l := by
  obtain ⟨css, hr, hc, hl, hx⟩ := h
  exact ⟨css, hr.mv hk, hc, hl, fun i c x h1 h2 => hrd c x (hx i c x h1 h2)⟩
theorem RdList.nil : RdList rd w A size a 0 ([] : List α) :=
  ⟨[], RdRow.nil, (by intro c hc; cases hc), rfl, (by intro i c x h; simp at h)⟩
end list

/-! ### The kinds -/
def RdDig (cs : List Value) (d : Dig) : Prop := cs = dc d
def RdBytes (w : World) (A : Nat → Prop) (cs : List Value) (b : List UInt8) : Prop := ∃ a n c, cs = [.slice a n c] ∧ n ≤ c ∧ RdRow w A 1 a n (b.map B8)
def RdDigs (w : World) (A : Nat → Prop) (a : Option Addr) (n : Nat) (l : List Dig) : Prop := RdList RdDig w A 16 a n l
def RdSig (w : World) (A : Nat → Prop) (cs : List Value) (s : Sig) : Prop :=
  ∃ a1 n1 c1 a2 n2 c2, cs = [.int .i64 s.leaf, .slice a1 n1 c1, .slice a2 n2 c2] ∧ n1 ≤ c1 ∧ n2 ≤ c2 ∧ RdDigs w A a1 n1 s.chains ∧ RdDigs w A a2 n2 s.path
def RdSigned (w : World) (A : Nat → Prop) (cs : List Value) (s : Signed) : Prop := ∃ ss, cs = .int .i64 s.who :: ss ∧ RdSig w A ss s.sig
def RdVdr (cs : List Value) (v : Vdr) : Prop := cs = dc v.key ++ [.int .i64 v.power]
def RdQC (w : World) (A : Nat → Prop) (cs : List Value) (q : QC) : Prop :=
  ∃ a n c, cs = .int .i64 q.epoch :: .int .i64 q.round :: (dc q.block ++ [.slice a n c]) ∧ n ≤ c ∧ RdList (RdSigned w A) w A 4 a n q.votes
def RdLate (w : World) (A : Nat → Prop) (cs : List Value) (l : Late) : Prop := ∃ ss, cs = .int .i64 l.who :: .int .i64 l.high :: ss ∧ RdSig w A ss l.sig
def RdTC (w : World) (A : Nat → Prop) (cs : List Value) (t : TC) : Prop :=
  ∃ a n c, cs = [.int .i64 t.epoch, .int .i64 t.round, .slice a n c] ∧ n ≤ c ∧ RdList (RdLate w A) w A 5 a n t.lates
def RdBlock (w : World) (A : Nat → Prop) (cs : List Value) (b : Block) : Prop :=
  ∃ q a1 n1 c1 a2 n2 c2, cs = .int .i64 b.epoch :: .int .i64 b.round :: (dc b.parent ++ (q ++ [.slice a1 n1 c1, .slice a2 n2 c2])) ∧ RdQC w A q b.justify ∧
    n1 ≤ c1 ∧ RdList (RdBytes w A) w A 1 a1 n1 b.payload ∧ n2 ≤ c2 ∧ RdList RdVdr w A 17 a2 n2 b.next

def RdVote (w : World) (A : Nat → Prop) (cs : List Value) (v : Vote) : Prop := ∃ sg, cs = .int .i64 v.epoch :: .int .i64 v.round :: (dc v.block ++ sg) ∧ RdSigned w A sg v.sender
def RdTmo (w : World) (A : Nat → Prop) (cs : List Value) (v : Tmo) : Prop := ∃ q t sg, cs = .int .i64 v.epoch :: .int .i64 v.round :: (q ++ (t ++ sg)) ∧ RdQC w A q v.high ∧ RdTC w A t v.last ∧ RdSigned w A sg v.sender
def RdProp (w : World) (A : Nat → Prop) (cs : List Value) (v : Prop') : Prop := ∃ b t sg, cs = b ++ (t ++ sg) ∧ RdBlock w A b v.block ∧ RdTC w A t v.last ∧ RdSigned w A sg v.sender
def RdChg (w : World) (A : Nat → Prop) (cs : List Value) (c : Chg) : Prop :=
  ∃ (css : List (List Value)) (q : List Value), cs = css.flatten ++ q ∧ (∀ x ∈ css, x.length = 39) ∧ css.length = 3 ∧ c.blocks.length = 3 ∧ (∀ (i : Nat) (x : List Value) (b : Block), css[i]? = some x → c.blocks[i]? = some b → RdBlock w A x b) ∧ RdQC w A q c.qc
def RdMsg (w : World) (A : Nat → Prop) (cs : List Value) (m : Msg) : Prop :=
  ∃ v t p r c, cs = .int .i64 m.kind :: (v ++ (t ++ (p ++ (dc m.wantFrom ++ (dc m.wantBlock ++ (r ++ c)))))) ∧ RdVote w A v m.vote ∧ RdTmo w A t m.tmo ∧ RdProp w A p m.prop ∧ RdBlock w A r m.reply ∧ RdChg w A c m.chg

section mv
variable {w w' : World} {A A' : Nat → Prop} {cs : List Value}
theorem RdBytes.mv {b : List UInt8} (h : RdBytes w A cs b) (hk : Still w A w' A') : RdBytes w' A' cs b := by
  obtain ⟨a, n, c, h1, h2, h3⟩ := h; exact ⟨a, n, c, h1, h2, h3.mv hk⟩
theorem RdDigs.mv {a : Option Addr} {n : Nat} {l : List Dig} (h : RdDigs w A a n l) (hk : Still w A w' A') : RdDigs w' A' a n l := RdList.mv h hk fun _ _ h => h
theorem RdSig.mv {s : Sig} (h : RdSig w A cs s) (hk : Still w A w' A') : RdSig w' A' cs s := by
  obtain ⟨a1, n1, c1, a2, n2, c2, h1, h2, h3, h4, h5⟩ := h; exact ⟨a1, n1, c1, a2, n2, c2, h1, h2, h3, h4.mv hk, h5.mv hk⟩
theorem RdSigned.mv {s : Signed} (h : RdSigned w A cs s) (hk : Still w A w' A') : RdSigned w' A' cs s := by
  obtain ⟨ss, h1, h2⟩ := h; exact ⟨ss, h1, h2.mv hk⟩
theorem RdQC.mv {q : QC} (h : RdQC w A cs q) (hk : Still w A w' A') : RdQC w' A' cs q := by
  obtain ⟨a, n, c, h1, h2, h3⟩ := h; exact ⟨a, n, c, h1, h2, RdList.mv h3 hk fun _ _ h => h.mv hk⟩
theorem RdLate.mv {l : Late} (h : RdLate w A cs l) (hk : Still w A w' A') : RdLate w' A' cs l := by
  obtain ⟨ss, h1, h2⟩ := h; exact ⟨ss, h1, h2.mv hk⟩
theorem RdTC.mv {t : TC} (h : RdTC w A cs t) (hk : Still w A w' A') : RdTC w' A' cs t := by
  obtain ⟨a, n, c, h1, h2, h3⟩ := h; exact ⟨a, n, c, h1, h2, RdList.mv h3 hk fun _ _ h => h.mv hk⟩
theorem RdBlock.mv {b : Block} (h : RdBlock w A cs b) (hk : Still w A w' A') : RdBlock w' A' cs b := by
  obtain ⟨q, a1, n1, c1, a2, n2, c2, h1, h2, h3, h4, h5, h6⟩ := h
  exact ⟨q, a1, n1, c1, a2, n2, c2, h1, h2.mv hk, h3, RdList.mv h4 hk fun _ _ h => h.mv hk, h5, RdList.mv h6 hk fun _ _ h => h⟩
theorem RdSig.len {s : Sig} (h : RdSig w A cs s) : cs.length = 3 := by obtain ⟨_, _, _, _, _, _, h, _⟩ := h; subst h; rfl
theorem RdSigned.len {s : Signed} (h : RdSigned w A cs s) : cs.length = 4 := by obtain ⟨ss, h, h2⟩ := h; subst h; simp [h2.len]
theorem RdLate.len {s : Late} (h : RdLate w A cs s) : cs.length = 5 := by obtain ⟨ss, h, h2⟩ := h; subst h; simp [h2.len]
theorem RdQC.len {q : QC} (h : RdQC w A cs q) : cs.length = 19 := by obtain ⟨_, _, _, h, _⟩ := h; subst h; simp [dc_length]
theorem RdTC.len {t : TC} (h : RdTC w A cs t) : cs.length = 3 := by obtain ⟨_, _, _, h, _⟩ := h; subst h; rfl
theorem RdVdr.len {v : Vdr} (h : RdVdr cs v) : cs.length = 17 := by subst h; simp [dc_length]
theorem RdBlock.len {b : Block} (h : RdBlock w A cs b) : cs.length = 39 := by obtain ⟨q, _, _, _, _, _, _, h, hq, _⟩ := h; subst h; simp [dc_length, hq.len]
theorem RdSig.one {s : Sig} (h : RdSig w A cs s) : ∀ v ∈ cs, v.oneCell' = true := by obtain ⟨_, _, _, _, _, _, h, _⟩ := h; subst h; exact all_cons' rfl (all_cons' rfl (all_cons' rfl all_nil'))
theorem RdSigned.one {s : Signed} (h : RdSigned w A cs s) : ∀ v ∈ cs, v.oneCell' = true := by obtain ⟨ss, h, h2⟩ := h; subst h; exact all_cons' rfl h2.one
theorem RdLate.one {s : Late} (h : RdLate w A cs s) : ∀ v ∈ cs, v.oneCell' = true := by obtain ⟨ss, h, h2⟩ := h; subst h; exact all_cons' rfl (all_cons' rfl h2.one)
theorem RdQC.one {q : QC} (h : RdQC w A cs q) : ∀ v ∈ cs, v.oneCell' = true := by obtain ⟨_, _, _, h, _⟩ := h; subst h; exact all_cons' rfl (all_cons' rfl (all_app' (dc_one _) (all_cons' rfl all_nil')))
theorem RdTC.one {t : TC} (h : RdTC w A cs t) : ∀ v ∈ cs, v.oneCell' = true := by obtain ⟨_, _, _, h, _⟩ := h; subst h; exact all_cons' rfl (all_cons' rfl (all_cons' rfl all_nil'))
theorem RdVdr.one {v : Vdr} (h : RdVdr cs v) : ∀ u ∈ cs, u.oneCell' = true := by subst h; exact all_app' (dc_one _) (all_cons' rfl all_nil')
theorem RdBlock.one {b : Block} (h : RdBlock w A cs b) : ∀ v ∈ cs, v.oneCell' = true := by
  obtain ⟨q, _, _, _, _, _, _, h, hq, _⟩ := h; subst h; exact all_cons' rfl (all_cons' rfl (all_app' (dc_one _) (all_app' hq.one (all_cons' rfl (all_cons' rfl all_nil')))))
theorem RdVote.mv {v : Vote} (h : RdVote w A cs v) (hk : Still w A w' A') : RdVote w' A' cs v := by
  obtain ⟨sg, h1, h2⟩ := h; exact ⟨sg, h1, h2.mv hk⟩
theorem RdTmo.mv {v : Tmo} (h : RdTmo w A cs v) (hk : Still w A w' A') : RdTmo w' A' cs v := by
  obtain ⟨q, t, sg, h1, h2, h3, h4⟩ := h; exact ⟨q, t, sg, h1, h2.mv hk, h3.mv hk, h4.mv hk⟩
theorem RdProp.mv {v : Prop'} (h : RdProp w A cs v) (hk : Still w A w' A') : RdProp w' A' cs v := by
  obtain ⟨b, t, sg, h1, h2, h3, h4⟩ := h; exact ⟨b, t, sg, h1, h2.mv hk, h3.mv hk, h4.mv hk⟩
theorem RdChg.mv {v : Chg} (h : RdChg w A cs v) (hk : Still w A w' A') : RdChg w' A' cs v := by
  obtain ⟨css, q, h1, h2, h3, h4, h5, h6⟩ := h; exact ⟨css, q, h1, h2, h3, h4, fun i x b hx hb => (h5 i x b hx hb).mv hk, h6.mv hk⟩
theorem RdMsg.mv {m : Msg} (h : RdMsg w A cs m) (hk : Still w A w' A') : RdMsg w' A' cs m := by
  obtain ⟨v, t, p, r, c, h1, h2, h3, h4, h5, h6⟩ := h; exact ⟨v, t, p, r, c, h1, h2.mv hk, h3.mv hk, h4.mv hk, h5.mv hk, h6.mv hk⟩
theorem RdVote.len {v : Vote} (h : RdVote w A cs v) : cs.length = 22 := by obtain ⟨sg, h1, h2⟩ := h; subst h1; simp [dc_length, h2.len]
theorem RdTmo.len {v : Tmo} (h : RdTmo w A cs v) : cs.length = 28 := by obtain ⟨q, t, sg, h1, h2, h3, h4⟩ := h; subst h1; simp [h2.len, h3.len, h4.len]
theorem RdProp.len {v : Prop'} (h : RdProp w A cs v) : cs.length = 46 := by obtain ⟨q, t, sg, h1, h2, h3, h4⟩ := h; subst h1; simp [h2.len, h3.len, h4.len]
theorem RdChg.len {v : Chg} (h : RdChg w A cs v) : cs.length = 136 := by obtain ⟨css, q, h1, h2, h3, h4, h5, h6⟩ := h; subst h1; simp only [List.length_append, flatten_len h2, h6.len, h3]
theorem RdMsg.len {m : Msg} (h : RdMsg w A cs m) : cs.length = 304 := by obtain ⟨v, t, p, r, c, h1, h2, h3, h4, h5, h6⟩ := h; subst h1; simp only [List.length_cons, List.length_append, dc_length, h2.len, h3.len, h4.len, h5.len, h6.len]
end mv
theorem Stp.still {w0 w : World} {F0 F1 F2 : Nat → Prop} (h : Stp w0 F0 w (fun k => F1 k ∨ F2 k)) : Still w0 (fun k => ¬ F0 k) w (fun k => ¬ F1 k) := h.rd
end Go.Proofs.YtobjojeliibinaaGreatDoor

/- The shell, part F (with part A): what an argument reads as, rows of bytes, numbers, bools, as the walks' reading of memory. -/
namespace Go.Proofs.YtobjojeliibinaaGreatDoor
open Go
set_option linter.unusedVariables false
set_option linter.unusedSimpArgs false

section
variable {H : Type} {enc : TypeId × Value → H} {P : Program} {w : World} {base : Nat} {sp : Nat → Bool} {held : Bool}
/-- Cells of type T read as something that rd says. -/
def Opens {α : Type} (enc : TypeId × Value → H) (P : Program) (w : World) (base : Nat) (sp : Nat → Bool) (held : Bool) (T : TypeId) (rd : List Value → α → Prop) : Prop :=
  ∀ fuel cs x, DataW.trod enc P w base sp held fuel T cs = some x → ∃ o, rd cs o
theorem cellsOf_sz {e s : Nat} (hs : szT P e = some s) : P.cellsOf e = s := by
  unfold szT at hs
  cases hi : P.info? e with
  | none => simp [hi] at hs
  | some i => simp [hi] at hs; simp [Program.cellsOf, hi, hs]
theorem opens_byte {T : TypeId} (he : P.underlying T = some (.int .u8)) : Opens enc P w base sp held T (fun cs (b : UInt8) => cs = [B8 b]) := fun fuel cs x h => by
  obtain ⟨n, h2, _, h3⟩ := DataW.trod_int he h
  have hn : 0 ≤ n ∧ n ≤ 255 := by
    simp [Lit.wf, IntKind.min, IntKind.max, IntKind.signed, IntKind.bits] at h3; omega
  refine ⟨UInt8.ofNat n.toNat, ?_⟩
  rw [h2]
  simp only [B8, UInt8.toNat_ofNat', List.cons.injEq, Value.int.injEq, true_and, and_true]
  omega
theorem choose_list {α : Type} {rd : List Value → α → Prop} : ∀ (n : Nat) (f : Nat → List Value), (∀ i, i < n → ∃ o, rd (f i) o) → ∃ l : List α, l.length = n ∧ ∀ i o, l[i]? = some o → rd (f i) o
  | 0, _, _ => ⟨[], rfl, fun i o h => by simp at h⟩
  | n + 1, f, h => by
    obtain ⟨l, h1, h2⟩ := choose_list n f fun i hi => h i (by omega)
    obtain ⟨o, ho⟩ := h n (by omega)
    refine ⟨l ++ [o], by simp [h1], fun i x hx => ?_⟩
    by_cases hi : i < l.length
    · rw [List.getElem?_append_left hi] at hx; exact h2 i x hx
    · rw [List.getElem?_append_right (by omega)] at hx
      have : i - l.length = 0 := by
        rcases Nat.eq_zero_or_pos (i - l.length) with h0 | h0
        · exact h0
        · rw [List.getElem?_eq_none (by simp; omega)] at hx; cases hx
      rw [this] at hx
      simp at hx; subst hx
      rw [show i = n by omega]; exact ho
theorem opens_slice {α : Type} {rd : List Value → α → Prop} {T e : TypeId} {s : Nat} (ht : sliceT P T = some e) (hs : szT P e = some s) (hpos : 0 < s) (he : Opens enc P w base sp held e rd) :
    Opens enc P w base sp held T (fun cs (l : List α) => ∃ a n c, cs = [.slice a n c] ∧ n ≤ c ∧ RdList rd w (fun _ => True) s a n l) := fun fuel cs x h => by
  rcases DataW.trod_slice (run_sliceT ht) h with ⟨rfl, _⟩ | ⟨a, len, cap, elems, rest, m, rfl, rfl, _, hb, hlc, hcm, hel, hi, _, _⟩
  · exact ⟨[], none, 0, 0, rfl, Nat.le_refl _, RdList.nil⟩
  · rw [cellsOf_sz hs] at hi
    have hc : ∀ i, i < len → ∃ cs, w.cells? base (a.add (i * s)) s = some cs ∧ ∃ o, rd cs o := fun i hil => by
      have h1 := hi i hil
      rw [List.getElem?_eq_getElem (by omega)] at h1
      cases hcs : w.cells? base (a.add (i * s)) s with
      | none => simp [hcs] at h1
      | some cs => rw [hcs] at h1; exact ⟨cs, rfl, he _ _ _ h1⟩
    let f : Nat → List Value := fun i => (w.cells? base (a.add (i * s)) s).getD []
    have hf : ∀ i, i < len → w.cells? base (a.add (i * s)) s = some (f i) := fun i hil => by
      obtain ⟨cs, h1, _⟩ := hc i hil
      simp [f, h1]
    have hfl : ∀ i, i < len → (f i).length = s := fun i hil => (World.cells?_some (hf i hil)).2.1
    obtain ⟨l, hl1, hl2⟩ := choose_list (rd := rd) len f fun i hil => by
      obtain ⟨cs, h1, o, ho⟩ := hc i hil
      rw [hf i hil] at h1; cases h1; exact ⟨o, ho⟩
    refine ⟨l, some a, len, cap, rfl, hlc, (List.range len).map f, ?_, ?_, by simp [hl1], ?_⟩
    · have hcss : ∀ c ∈ (List.range len).map f, c.length = s := by
        intro c hc'
        obtain ⟨i, hi', rfl⟩ := List.mem_map.1 hc'
        exact hfl i (List.mem_range.1 hi')
      refine ⟨by rw [flatten_len hcss]; simp, Nat.le_trans hlc hcm, fun hlen => ?_⟩
      have h00 : w.cell? a = (f 0)[0]? := by
        have := (World.cells?_some (hf 0 hlen)).2.2 0 hpos
        simpa [Addr.add] using this
      rw [List.getElem?_eq_getElem (by rw [hfl 0 hlen]; exact hpos)] at h00
      have hlt : a.block < w.heap.size := World.block_lt_of_cell? w a h00
      have hspot : a.spot = none := by
        unfold World.cell? at h00
        split at h00
        · split at h00
          · cases h00
          · rename_i hsp; simpa using hsp
        · cases h00
      obtain ⟨g, o, z⟩ := a
      simp only at hspot; subst hspot
      have hcell : ∀ i j, i < len → j < s → w.cell? ⟨g, o + (i * s + j), none⟩ = (f i)[j]? := fun i j hil hj => by
        have := (World.cells?_some (hf i hil)).2.2 j hj
        rwa [Addr.add_mid, Addr.add_mid, Nat.add_assoc] at this
      refine ⟨g, o, rfl, trivial, hlt, fun j v hj => ?_⟩
      have hjl : j < len * s := by
        have := (List.getElem?_eq_some_iff.1 hj).1
        rw [flatten_len hcss] at this; simpa using this
      have hdiv : j / s < len := by rw [Nat.div_lt_iff_lt_mul hpos]; exact hjl
      have hmod : j % s < s := Nat.mod_lt _ hpos
      have hj' : j = j / s * s + j % s := by rw [Nat.mul_comm]; exact (Nat.div_add_mod j s).symm
      have hseg : (((List.range len).map f).flatten.drop (j / s * s)).take s = f (j / s) := flatten_at hcss (by simp [hdiv])
      have hv : (f (j / s))[j % s]? = some v := by
        rw [← hseg, List.getElem?_take, if_pos hmod, List.getElem?_drop, ← hj']; exact hj
      rw [← hv, ← hcell _ _ hdiv hmod, ← hj']
    · intro c hc'
      obtain ⟨i, hi', rfl⟩ := List.mem_map.1 hc'
      exact hfl i (List.mem_range.1 hi')
    · intro i c x h1 h2
      rw [List.getElem?_map] at h1
      have hil : i < len := by rw [← hl1]; exact (List.getElem?_eq_some_iff.1 h2).1
      rw [List.getElem?_range hil] at h1
      simp at h1; subst h1
      exact hl2 i x h2
/-- The field of a struct. -/
theorem opens_field {α : Type} {rd : List Value → α → Prop} {T : TypeId} {fs : Array Field} {fuel : Nat} {cs : List Value} {x : DataW H × List MemPlace} (ht : P.underlying T = some (.struct fs)) (h : DataW.trod enc P w base sp held fuel T cs = some x)
    {i o : Nat} {f : TypeId} (hf : (fs[i]?).map (fun f => (f.type, f.offset)) = some (f, o)) {s : Nat} (hs : szT P f = some s) (ho : Opens enc P w base sp held f rd) : ∃ a, rd ((cs.drop o).take s) a := by
  obtain ⟨xs, n, rfl, rfl, hl, hx, hi⟩ := DataW.trod_struct ht h
  cases hfi : fs[i]? with
  | none => simp [hfi] at hf
  | some fd =>
    simp only [hfi, Option.map_some, Option.some.injEq, Prod.mk.injEq] at hf
    obtain ⟨rfl, rfl⟩ := hf
    have h1 := hi i fd hfi
    have hlt : i < fs.size := (Array.getElem?_eq_some_iff.1 hfi).1
    rw [List.getElem?_eq_getElem (by omega), cellsOf_sz hs] at h1
    exact ho _ _ _ h1
theorem opens_len {T : TypeId} {fs : Array Field} {fuel s : Nat} {cs : List Value} {x : DataW H × List MemPlace} (ht : P.underlying T = some (.struct fs)) (h : DataW.trod enc P w base sp held fuel T cs = some x) (hs : szT P T = some s) : cs.length = s := by
  obtain ⟨xs, n, _, _, hl, _⟩ := DataW.trod_struct ht h
  rw [hl, cellsOf_sz hs]
def fieldT (P : Program) (T i : Nat) : Option (Nat × Nat) := match P.underlying T with
  | some (.struct fs) => (fs[i]?).map fun f => (f.type, f.offset)
  | _ => none
theorem fieldT_struct {T i f o : Nat} (h : fieldT P T i = some (f, o)) : ∃ fs, P.underlying T = some (.struct fs) ∧ (fs[i]?).map (fun f => (f.type, f.offset)) = some (f, o) := by
  unfold fieldT at h
  split at h
  · rename_i fs hu; exact ⟨fs, hu, h⟩
  · cases h
theorem opens_fieldT {α : Type} {rd : List Value → α → Prop} {T i f o s : Nat} {fuel : Nat} {cs : List Value} {x : DataW H × List MemPlace} (hf : fieldT P T i = some (f, o)) (hs : szT P f = some s) (ho : Opens enc P w base sp held f rd)
    (h : DataW.trod enc P w base sp held fuel T cs = some x) : ∃ a, rd ((cs.drop o).take s) a := by
  obtain ⟨fs, hu, hi⟩ := fieldT_struct hf
  exact opens_field hu h hi hs ho
theorem opens_lenT {T i f o s : Nat} {fuel : Nat} {cs : List Value} {x : DataW H × List MemPlace} (hf : fieldT P T i = some (f, o)) (hs : szT P T = some s) (h : DataW.trod enc P w base sp held fuel T cs = some x) : cs.length = s := by
  obtain ⟨fs, hu, hi⟩ := fieldT_struct hf
  exact opens_len hu h hs
theorem seg (cs : List Value) (o s : Nat) : cs.drop o = (cs.drop o).take s ++ cs.drop (o + s) := by
  rw [← List.drop_drop, List.take_append_drop]
theorem drop_all {cs : List Value} {n : Nat} (h : cs.length = n) : cs.drop n = [] := List.drop_eq_nil_of_le (by omega)
end
section
variable {H : Type} {enc : TypeId × Value → H} {P : Program} {w : World} {base : Nat} {sp : Nat → Bool} {held : Bool}
abbrev TT : Nat → Prop := fun _ => True
def Int64 (n : Int) : Prop := -9223372036854775808 ≤ n ∧ n ≤ 9223372036854775807
theorem opens_i64 {T : TypeId} (ht : P.underlying T = some (.int .i64)) : Opens enc P w base sp held T (fun cs n => cs = [.int .i64 n] ∧ Int64 n) := fun fuel cs x h => by
  obtain ⟨n, h1, _, h3⟩ := DataW.trod_int ht h
  refine ⟨n, h1, ?_⟩
  simp [Lit.wf, IntKind.min, IntKind.max, IntKind.signed, IntKind.bits] at h3
  unfold Int64; omega
theorem opens_bool {T : TypeId} (ht : P.underlying T = some .bool) : Opens enc P w base sp held T (fun cs b => cs = [.bool b]) := fun fuel cs x h => by
  obtain ⟨b, h1, _⟩ := DataW.trod_bool ht h
  exact ⟨b, h1⟩
theorem rd_rowL {α : Type} {V : α → Value} {A : Nat → Prop} {a : Option Addr} {n : Nat} {l : List α} (h : RdList (fun cs x => cs = [V x]) w A 1 a n l) : RdRow w A 1 a n (l.map V) := by
  obtain ⟨css, h3, h4, h5, h6⟩ := h
  have e1 : css.flatten = l.map V := by
    have : css = l.map fun b => [V b] := by
      apply List.ext_getElem?
      intro i
      rw [List.getElem?_map]
      by_cases hi : i < l.length
      · have a1 : css[i]? = some css[i] := List.getElem?_eq_getElem (by omega)
        have a2 : l[i]? = some l[i] := List.getElem?_eq_getElem hi
        rw [a1, a2, h6 i _ _ a1 a2]; rfl
      · rw [List.getElem?_eq_none (by omega), List.getElem?_eq_none (by omega)]; rfl
    rw [this]
    clear h3 h4 h5 h6 this
    induction l with
    | nil => rfl
    | cons b r ih => simp [ih]
  rw [e1] at h3; exact h3
/-- Cells of a slice whose elements are V of something. -/
def RdRowC {α : Type} (V : α → Value) (w : World) (A : Nat → Prop) (cs : List Value) (l : List α) : Prop := ∃ a n c, cs = [.slice a n c] ∧ n ≤ c ∧ RdRow w A 1 a n (l.map V)
theorem RdRowC.row {α : Type} {V : α → Value} {A : Nat → Prop} {a : Option Addr} {n c : Nat} {l : List α} (h : RdRowC V w A [.slice a n c] l) : RdRow w A 1 a n (l.map V) := by
  obtain ⟨a', n', c', e, _, hr⟩ := h
  injection e with e _
  injection e with e1 e2 e3
  subst e1; subst e2
  exact hr
theorem opens_row {α : Type} {V : α → Value} {T e : TypeId} (ht : sliceT P T = some e) (hs : szT P e = some 1) (he : Opens enc P w base sp held e (fun cs (x : α) => cs = [V x])) : Opens enc P w base sp held T (RdRowC V w TT) := fun fuel cs x h => by
  obtain ⟨l, a, n, c, h1, h2, h3⟩ := opens_slice ht hs (by decide) he fuel cs x h
  exact ⟨l, a, n, c, h1, h2, rd_rowL h3⟩
theorem o_rbools : Opens enc Tryz.prog w base sp held 55 (RdRowC Value.bool w TT) := opens_row Ty.sl_55 Ty.sz_4 (opens_bool Tryz.underlying4)
end
end Go.Proofs.YtobjojeliibinaaGreatDoor

/- The shell, part G: what a row's list of variables gives. -/
namespace Go.Proofs.YtobjojeliibinaaGreatDoor
open Go
open Go.ChangeShapes Go.WideShapes Go.RowKit
set_option linter.unusedVariables false

theorem own : ownKnob Tryz.prog.godebug = none := by kernel_rfl
theorem laidOut : laidOutB Tryz.prog = true := by kernel_rfl
theorem star : "*" ++ "errors.errorString" = "*errors.errorString" := by decide
theorem err_row (u : TypeId) (h : Tryz.prog.typeName? 3 u = some "*errors.errorString") : u = 340 :=
  typeName_ptr_named (nm := "errors.errorString") (by rw [star]; kernel_rfl) (by kernel_rfl) (by decide) u (by rw [star]; exact h)
theorem still_id {w : World} : Still w (fun _ => True) w (fun k => ¬ (fun _ : Nat => False) k) := fun k _ _ => ⟨rfl, id⟩
theorem no_res {w : World} : stars [] w (fun _ => False) := fun _ h => h
theorem below_of {W W' : World} {L : List Res} (h : St W (fun _ => False) L W') : Below W.heap.size W W' := by
  obtain ⟨F, _, hst⟩ := h
  exact ⟨hst.os, hst.tape, hst.output, hst.size, fun k hk => hst.block k hk (fun h => h)⟩
noncomputable def lowB : Nat := (World.holding Tryz.prog default ⟨#[], #[], []⟩).heap.size
end Go.Proofs.YtobjojeliibinaaGreatDoor

/- Walks, by program (wg.py) out of a spec. -/
namespace Go.Proofs.YtobjojeliibinaaGreatDoor
open Go
set_option linter.unusedVariables false
set_option linter.unusedSimpArgs false


open Go.RowKit Go.Extern.Stop Go.Stop Go.Extern
theorem isTypeOf (v : Value) (w : World) : (Extern.ReflectliteType.typeOf #[.iface 340 v]).run Tryz.prog w = .ok (.iface 265 (.agg #[.pointer (some ⟨19, 340, none⟩)])) w := by kernel_rfl
def cmpE : Array Value → Sem Value := Extern.ReflectliteType.method fun t => do Extern.Rtype.noPackHeld "Comparable" t; pure (.bool (← typeInfo t).comparable)
theorem isComparable (w : World) : (cmpE #[.agg #[.pointer (some ⟨19, 340, none⟩)]]).run Tryz.prog w = .ok (.bool true) w := by kernel_rfl
theorem isMethodComparable (v : Value) (w : World) : (Go.method 477 265 v "Comparable").run Tryz.prog w = .ok (252, v) w := by kernel_rfl
theorem isComp : (Tryz.prog.info? 340).map (·.comparable) = some true := by kernel_rfl
theorem isSize : (Tryz.prog.info? 365).map (·.size) = some 1 := by kernel_rfl
theorem noIsE (v : Value) (xT : TypeId) (w : World) : (Instr.typeAssert (.iface 340 v) xT 267 true).run Tryz.prog w = .ok (.tuple #[.nilIface, .bool false]) w := run_typeAssert_lacksB Tryz.underlying267 (by kernel_rfl) (by kernel_rfl) v xT w
theorem noUnwrapE (v : Value) (xT : TypeId) (w : World) : (Instr.typeAssert (.iface 340 v) xT 270 true).run Tryz.prog w = .ok (.tuple #[.nilIface, .bool false]) w := run_typeAssert_lacksB Tryz.underlying270 (by kernel_rfl) (by kernel_rfl) v xT w
theorem noUnwrapsE (v : Value) (xT : TypeId) (w : World) : (Instr.typeAssert (.iface 340 v) xT 271 true).run Tryz.prog w = .ok (.tuple #[.nilIface, .bool false]) w := run_typeAssert_lacksB Tryz.underlying271 (by kernel_rfl) (by kernel_rfl) v xT w
/-- errors.Is(x, x), x a pointer to an errors.errorString. -/
theorem is_same (a : Addr) (w : World) :
    Calls Tryz.prog 74 #[.iface 340 (.pointer (some a)), .iface 340 (.pointer (some a))] w fun e w' => e = .returned (.bool true) ∧ w' = w := by
  obtain ⟨i, hi, hcmp⟩ := Option.map_eq_some_iff.1 isComp
  obtain ⟨j, hj, hjs⟩ := Option.map_eq_some_iff.1 isSize
  have h8 := @run_callFunc_extern Tryz.prog 117 _ Extern.ReflectliteType.typeOf Tryz.func117 (by kernel_rfl) (by kernel_rfl) (by kernel_rfl) (by kernel_rfl)
  have h32 := @run_callFunc_extern Tryz.prog 252 _ cmpE Tryz.func252 (by kernel_rfl) (by kernel_rfl) (by kernel_rfl) (by kernel_rfl)
  have tT := isTypeOf
  have cT := isComparable
  have mR := isMethodComparable
  have heq := run_eql_iface_ptr_same (P := Tryz.prog) w a Tryz.underlying38 Tryz.underlying340 hi hcmp hj
  go_enter Tryz.func74, Tryz.ntmps74
  go_wp2
  refine wp_loop_rounds 1 ?_
  rw [rounds_succ]
  go_wp2
  go_ret
  exact ⟨rfl, rfl⟩
/-- errors.Is(x, y), two different pointers to errors.errorString. -/
theorem is_other (a b : Addr) (ca cb : Array Value) (ta tb : TypeId) (w : World) (hne : a ≠ b) (ha : w.heap[a.block]? = some (.cells ca ta (0, 0))) (hb : w.heap[b.block]? = some (.cells cb tb (0, 0))) :
    Calls Tryz.prog 74 #[.iface 340 (.pointer (some a)), .iface 340 (.pointer (some b))] w fun e w' => e = .returned (.bool false) ∧ w' = w := by
  obtain ⟨i, hi, hcmp⟩ := Option.map_eq_some_iff.1 isComp
  obtain ⟨j, hj, hjs⟩ := Option.map_eq_some_iff.1 isSize
  have h8 := @run_callFunc_extern Tryz.prog 117 _ Extern.ReflectliteType.typeOf Tryz.func117 (by kernel_rfl) (by kernel_rfl) (by kernel_rfl) (by kernel_rfl)
  have h32 := @run_callFunc_extern Tryz.prog 252 _ cmpE Tryz.func252 (by kernel_rfl) (by kernel_rfl) (by kernel_rfl) (by kernel_rfl)
  have tT := isTypeOf
  have cT := isComparable
  have mR := isMethodComparable
  have nE := noIsE
  have uE := noUnwrapE
  have vE := noUnwrapsE
  have heq := run_eql_iface_ptr_other (P := Tryz.prog) w Tryz.underlying38 Tryz.underlying340 hi hcmp hj (by rw [hjs]; decide) hne ha hb
  go_enter Tryz.func74, Tryz.ntmps74
  go_wp2
  refine wp_loop_rounds 1 ?_
  rw [rounds_succ]
  go_wp2
  go_ret
  exact ⟨rfl, rfl⟩

end Go.Proofs.YtobjojeliibinaaGreatDoor

/- Walks, by program (wg.py) out of a spec. -/
namespace Go.Proofs.YtobjojeliibinaaGreatDoor
open Go
set_option linter.unusedVariables false
set_option linter.unusedSimpArgs false


def errG : Nat → Nat
  | 1 => 2
  | 2 => 3
  | 3 => 4
  | 4 => 0
  | 5 => 5
  | 6 => 6
  | 7 => 7
  | 8 => 8
  | 9 => 9
  | 10 => 10
  | 11 => 11
  | 12 => 1
  | 13 => 12
  | 14 => 13
  | 15 => 14
  | 16 => 15
  | 17 => 16
  | _ => 17
/-- es has this error. -/
class Has (es : List Nat) (i : Nat) : Prop where
  h : i ∈ es
instance {i : Nat} {l : List Nat} : Has (i :: l) i := ⟨List.mem_cons_self⟩
instance {i j : Nat} {l : List Nat} [k : Has l i] : Has (j :: l) i := ⟨List.mem_cons_of_mem _ k.h⟩
/-- These errors' variables hold their errors, and lie in A. -/
structure GErr (es : List Nat) (w : World) (A : Nat → Prop) (TE : TypeId) (ea : Nat → Addr) : Prop where
  c : ∀ i, i ∈ es → w.cell? ⟨errG i, 0, none⟩ = some (eV TE ea i)
  n : ∀ i, i ∈ es → A (errG i)
theorem GErr.mv {es : List Nat} {w w' : World} {A A' : Nat → Prop} {TE : TypeId} {ea : Nat → Addr} (h : GErr es w A TE ea) (hk : ∀ k, k < w.heap.size → A k → w'.heap[k]? = w.heap[k]? ∧ A' k) : GErr es w' A' TE ea :=
  ⟨fun i hi => by
    have := hk _ (World.block_lt_of_cell? w ⟨errG i, 0, none⟩ (h.c i hi)) (h.n i hi)
    rw [World.cell?_of_block (w := w) (a := ⟨errG i, 0, none⟩) this.1]; exact h.c i hi,
   fun i hi => (hk _ (World.block_lt_of_cell? w ⟨errG i, 0, none⟩ (h.c i hi)) (h.n i hi)).2⟩
theorem shl_pow {wd : Nat} (h : wd < 8) : IntKind.i64.wrap (1 * 2 ^ (min (8 * (wd : Int)).toNat IntKind.i64.bits)) = 2 ^ (8 * wd) := by
  have e : min (8 * (wd : Int)).toNat IntKind.i64.bits = 8 * wd := by simp only [IntKind.bits]; omega
  rw [e]
  have : wd = 0 ∨ wd = 1 ∨ wd = 2 ∨ wd = 3 ∨ wd = 4 ∨ wd = 5 ∨ wd = 6 ∨ wd = 7 := by omega
  rcases this with h | h | h | h | h | h | h | h <;> subst h <;> rfl
theorem byte_shr {n : Int} {wd k : Nat} {i : Int} (hi : i = (wd : Int) - 1 - k) (hk : k < wd) (hw : wd ≤ 8) :
    Value.int .u8 (IntKind.u8.wrap (n.fdiv (2 ^ (min (8 * i).toNat IntKind.i64.bits)))) = B8 (byteAt n (wd - 1 - k)) := by
  subst hi
  have e : min (8 * ((wd : Int) - 1 - k)).toNat IntKind.i64.bits = 8 * (wd - 1 - k) := by simp only [IntKind.bits]; omega
  rw [e, Int.fdiv_eq_ediv_of_nonneg _ (by exact Int.le_of_lt (Int.pow_pos (by omega)))]
  simp only [B8, byteAt, Value.int.injEq, true_and]
  generalize n / 2 ^ (8 * (wd - 1 - k)) = m
  have h1 : IntKind.u8.wrap m = m % 256 := by simp [IntKind.wrap, IntKind.bits, IntKind.signed]
  rw [h1, UInt8.toNat_ofNat']
  omega

attribute [local irreducible] Gl Gc Gx Gs Runs Wt

set_option maxHeartbeats 400000 in
theorem number_neg {w : World} {F : Nat → Prop} {g TE : Nat} {ea : Nat → Addr} {s : WS} {n : Int} {wd : Nat} (h : stars [WrR TE ea g s] w F) {es : List Nat} [Has es 1] (hE : GErr es w (fun k => ¬ F k) TE ea) (h1 : 1 ≤ wd) (h8 : wd ≤ 8) (hn : n < 0) :
    Calls Tryz.prog 135 #[.pointer (some ⟨g, 0, none⟩), .int .i64 n, .int .i64 (wd : Int)] w (Post w F (fun _ : Unit => .tuple #[]) (fun _ => [WrR TE ea g (wFail 1 s)])) := by
  obtain ⟨a0, c0, h'⟩ := wr_open h
  refine g_enter (env := [(0, .pointer (some ⟨g, 0, none⟩)), (1, .int .i64 n), (2, .int .i64 (wd : Int))]) Tryz.func135 rfl h' Tryz.ntmps135 rfl rfl ?_
  refine gc_seq ?_
  refine gsr ?_
  refine gp zmv ?_
  refine gp (r_bool (r_lss rfl rfl) (decide_eq_false (by omega))) ?_
  refine gp zmv ?_
  refine gq zmv ?_
  refine gq (r_bool (r_gtr rfl rfl) (decide_eq_false (by omega))) ?_
  refine gp zpk ?_
  refine gp zmv ?_
  refine gq zmv ?_
  refine gq (r_bool (r_lss rfl rfl) (decide_eq_true hn)) ?_
  refine gp zpk ?_
  refine gp zmv ?_
  refine gn ?_
  refine gn ?_
  refine gn ?_
  refine gn ?_
  refine gn ?_
  refine gn ?_
  refine gn ?_
  refine gn ?_
  refine gn ?_
  refine gp zpk ?_
  refine gnt ?_
  refine gc_condT rfl rfl ?_
  refine gc_seq ?_
  refine gc_regionT 4 (by kernel_rfl) (by kernel_rfl) ?_
  refine sp zmv ?_
  refine sp znc ?_
  refine sp zfa ?_
  refine sp (r_ld1o rfl Ty.row_38 (hE.c 1 Has.h) (hE.n 1 Has.h)) ?_
  refine gs_nil ?_
  refine zc (fun _ => ?_) (c := fun w1 F1 F2 h1 h2 hd hst => fail_ok h1)
  refine gnt ?_
  refine gc_ret ?_
  refine gx_then_ret ?_
  refine gx_ret0 rfl ?_
  exact fun w' hw => ⟨(), rfl, by rw [wFail]; by_cases he : s.err = 0 <;> simp only [he, if_true, if_false, ite_true, ite_false] at hw ⊢ <;> exact St.wr (hw.sel (by repeat (first | exact Sel.nil | (apply Sel.cons; · (repeat (first | exact Pick.here | apply Pick.there)))))) (by simp [he]) rfl rfl⟩

set_option maxHeartbeats 400000 in
theorem number_big {w : World} {F : Nat → Prop} {g TE : Nat} {ea : Nat → Addr} {s : WS} {n : Int} {wd : Nat} (h : stars [WrR TE ea g s] w F) {es : List Nat} [Has es 1] (hE : GErr es w (fun k => ¬ F k) TE ea) (h1 : 1 ≤ wd) (h8 : wd ≤ 8) (hn : 0 ≤ n) (hw8 : wd < 8) (hb : (2 : Int) ^ (8 * wd) ≤ n) :
    Calls Tryz.prog 135 #[.pointer (some ⟨g, 0, none⟩), .int .i64 n, .int .i64 (wd : Int)] w (Post w F (fun _ : Unit => .tuple #[]) (fun _ => [WrR TE ea g (wFail 1 s)])) := by
  obtain ⟨a0, c0, h'⟩ := wr_open h
  refine g_enter (env := [(0, .pointer (some ⟨g, 0, none⟩)), (1, .int .i64 n), (2, .int .i64 (wd : Int))]) Tryz.func135 rfl h' Tryz.ntmps135 rfl rfl ?_
  refine gc_seq ?_
  refine gsr ?_
  refine gp zmv ?_
  refine gp (r_bool (r_lss rfl rfl) (decide_eq_false (by omega))) ?_
  refine gp zmv ?_
  refine gq zmv ?_
  refine gq (r_bool (r_gtr rfl rfl) (decide_eq_false (by omega))) ?_
  refine gp zpk ?_
  refine gp zmv ?_
  refine gq zmv ?_
  refine gq (r_bool (r_lss rfl rfl) (decide_eq_false (by omega))) ?_
  refine gp zpk ?_
  refine gp zmv ?_
  refine gq zmv ?_
  refine gq (r_bool (r_lss rfl rfl) (decide_eq_true (by omega))) ?_
  refine gq zmv ?_
  refine gq zmv ?_
  refine gq zmv ?_
  refine gq (r_arith (op := .mul) rfl rfl (wrap_i64 (by omega) (by omega))) ?_
  refine gq (r_int (r_shl rfl rfl (by omega)) (shl_pow (by omega))) ?_
  refine gq (r_bool (r_geq rfl rfl) (decide_eq_true hb)) ?_
  refine gq zpk ?_
  refine gp zpk ?_
  refine gnt ?_
  refine gc_condT rfl rfl ?_
  refine gc_seq ?_
  refine gc_regionT 4 (by kernel_rfl) (by kernel_rfl) ?_
  refine sp zmv ?_
  refine sp znc ?_
  refine sp zfa ?_
  refine sp (r_ld1o rfl Ty.row_38 (hE.c 1 Has.h) (hE.n 1 Has.h)) ?_
  refine gs_nil ?_
  refine zc (fun _ => ?_) (c := fun w1 F1 F2 h1 h2 hd hst => fail_ok h1)
  refine gnt ?_
  refine gc_ret ?_
  refine gx_then_ret ?_
  refine gx_ret0 rfl ?_
  exact fun w' hw => ⟨(), rfl, by rw [wFail]; by_cases he : s.err = 0 <;> simp only [he, if_true, if_false, ite_true, ite_false] at hw ⊢ <;> exact St.wr (hw.sel (by repeat (first | exact Sel.nil | (apply Sel.cons; · (repeat (first | exact Pick.here | apply Pick.there)))))) (by simp [he]) rfl rfl⟩

set_option maxHeartbeats 400000 in
theorem number_fit7 {w : World} {F : Nat → Prop} {g TE : Nat} {ea : Nat → Addr} {s : WS} {n : Int} {wd : Nat} (h : stars [WrR TE ea g s] w F) {es : List Nat} [Has es 1] (hE : GErr es w (fun k => ¬ F k) TE ea) (h1 : 1 ≤ wd) (h8 : wd ≤ 8) (hl : s.bs.length + wd ≤ 1099511627776) (hn : 0 ≤ n) (hw8 : wd < 8) (hb : n < (2 : Int) ^ (8 * wd)) :
    Calls Tryz.prog 135 #[.pointer (some ⟨g, 0, none⟩), .int .i64 n, .int .i64 (wd : Int)] w (Post w F (fun _ : Unit => .tuple #[]) (fun _ => [WrR TE ea g (wFix (beN n wd) s)])) := by
  refine g_enter (env := [(0, .pointer (some ⟨g, 0, none⟩)), (1, .int .i64 n), (2, .int .i64 (wd : Int))]) Tryz.func135 rfl h Tryz.ntmps135 rfl rfl ?_
  refine gc_seq ?_
  refine gsr ?_
  refine gp zmv ?_
  refine gp (r_bool (r_lss rfl rfl) (decide_eq_false (by omega))) ?_
  refine gp zmv ?_
  refine gq zmv ?_
  refine gq (r_bool (r_gtr rfl rfl) (decide_eq_false (by omega))) ?_
  refine gp zpk ?_
  refine gp zmv ?_
  refine gq zmv ?_
  refine gq (r_bool (r_lss rfl rfl) (decide_eq_false (by omega))) ?_
  refine gp zpk ?_
  refine gp zmv ?_
  refine gq zmv ?_
  refine gq (r_bool (r_lss rfl rfl) (decide_eq_true (by omega))) ?_
  refine gq zmv ?_
  refine gq zmv ?_
  refine gq zmv ?_
  refine gq (r_arith (op := .mul) rfl rfl (wrap_i64 (by omega) (by omega))) ?_
  refine gq (r_int (r_shl rfl rfl (by omega)) (shl_pow (by omega))) ?_
  refine gq (r_bool (r_geq rfl rfl) (decide_eq_false (by omega))) ?_
  refine gq zpk ?_
  refine gp zpk ?_
  refine gnt ?_
  refine gc_condF rfl rfl ?_
  refine gc_skip ?_
  refine gx_then ?_
  refine gsr ?_
  refine gp zas ?_
  refine gnt ?_
  refine gc_seq ?_
  refine gsr ?_
  refine gp zmv ?_
  refine gp (r_int (r_arith (op := .sub) rfl rfl (wrap_i64 (by omega) (by omega))) (show (wd : Int) - 1 = (wd : Int) - 1 - ((0 : Nat) : Int) by omega)) ?_
  refine gp zas ?_
  refine gnt ?_
  refine gc_block ?_
  refine gc_loop (α := Nat × Option Addr × Nat) (fun x => [pureR (x.1 ≤ wd), rowR 5 1 x.2.1 x.1 x.2.2 (((List.range x.1).map fun j => byteAt n (wd - 1 - j)).map B8), WrR TE ea g s]) (fun x => [(6, .slice x.2.1 x.1 x.2.2), (7, .int .i64 ((wd : Int) - 1 - (x.1 : Int)))]) [36, 37, 38, 39, 40, 41, 42, 43, 44, 45, 46, 47] (fun x => wd - x.1) (0, none, 0) ?_ ?_ ?_
  · refine env_start (by kernel_rfl)
  · rintro w' ⟨F', hF', hst'⟩
    exact ⟨F', stars_pure_mk (Nat.zero_le _) (stars_row_nil hF'), hst'⟩
  · intro x u
    obtain ⟨k, a, c⟩ := x
    refine gc_pureR (fun hk => ?_)
    replace hk : k ≤ wd := hk
    refine gc_seq ?_
    refine gsr ?_
    refine gp zmv ?_
    refine gp zge ?_
    refine gnt ?_
    refine gif rfl (fun hc37 => ?_) (fun hc37 => ?_)
    · have hk' : k < wd := by (try simp only at hc37); omega
      refine gc_skip ?_
      refine gx_then ?_
      refine gc_seq ?_
      refine gc_block ?_
      refine gc_region ?_
      refine gp zmv ?_
      refine gp zmv ?_
      refine gp zmv ?_
      refine gp (r_arith (op := .mul) rfl rfl (wrap_i64 (by omega) (by omega))) ?_
      refine gp zhr ?_
      refine gp (r_val (r_conv_int rfl Ty.un_3 Ty.un_5) (byte_shr rfl hk' h8)) ?_
      refine gl_bsl1 (wt0 rfl) Ty.sl_86 Ty.sz_5 Ty.zc_5 (by conv => lhs; whnf) rfl ?_
      intro b46
      refine gl_append (news := [B8 (byteAt n (wd - 1 - k))]) (wt0 rfl) rfl rfl (by repeat (first | exact Pick.here | apply Pick.there)) Ty.el_86 (fun w' hw => hw.row (by repeat (first | exact Pick.here | apply Pick.there))) (all_cons' rfl all_nil') (by simp only [maxLen]; omega) (by omega) ?_
      intro a1 c1
      refine gp zas ?_
      refine gl_nil ?_
      refine gx_block_normal ?_
      refine gx_then ?_
      refine gc_region ?_
      refine gp zmv ?_
      refine gp (r_int (r_arith (op := .sub) rfl rfl (wrap_i64 (by omega) (by omega))) (show (wd : Int) - 1 - (k : Int) - 1 = (wd : Int) - 1 - ((k + 1 : Nat) : Int) by omega)) ?_
      refine gp zas ?_
      refine gl_nil ?_
      have hk' : k < wd := by omega
      refine zrd ((k + 1, a1, c1)) ?_ ?_
      · show wd - (k + 1) < wd - k
        omega
      · rintro w' hw
        obtain ⟨F', hF', hst'⟩ := hw.sel (M := [rowR 5 1 a1 (k + 1) c1 _, WrR TE ea g s]) (by repeat (first | exact Sel.nil | (apply Sel.cons; · (repeat (first | exact Pick.here | apply Pick.there)))))
        refine ⟨F', stars_pure_mk (by show k + 1 ≤ wd; omega) ?_, hst'⟩
        have e : ((List.range (k + 1)).map fun j => byteAt n (wd - 1 - j)).map B8 = ((List.range k).map fun j => byteAt n (wd - 1 - j)).map B8 ++ [B8 (byteAt n (wd - 1 - k))] := by simp [List.range_succ]
        show stars [rowR 5 1 a1 (k + 1) c1 (((List.range (k + 1)).map fun j => byteAt n (wd - 1 - j)).map B8), WrR TE ea g s] w' F'
        rw [e]
        exact hF'
    · have hk' : k = wd := by (try simp only at hc37); omega
      subst hk'
      refine gc_exit ?_
      refine gx_then_exit ?_
      refine gx_round_exit ?_
      refine gx_block_hit ?_
      refine gx_then ?_
      refine gc_region ?_
      refine gp zmv ?_
      refine gp zmv ?_
      refine zc (fun _ => ?_) (c := fun w1 F1 F2 h1 h2 hd hst => fixed_ok h1 (rd_row (xs := (beN n k).map B8) h2 hd (by repeat (first | exact Pick.here | apply Pick.there))) (by omega))
      refine gl_nil ?_
      refine gx_ret0' rfl ?_
      exact ze ()

set_option maxHeartbeats 400000 in
theorem number_fit8 {w : World} {F : Nat → Prop} {g TE : Nat} {ea : Nat → Addr} {s : WS} {n : Int} {wd : Nat} (h : stars [WrR TE ea g s] w F) {es : List Nat} [Has es 1] (hE : GErr es w (fun k => ¬ F k) TE ea) (h1 : 1 ≤ wd) (h8 : wd ≤ 8) (hl : s.bs.length + wd ≤ 1099511627776) (hn : 0 ≤ n) (hw8 : wd = 8) :
    Calls Tryz.prog 135 #[.pointer (some ⟨g, 0, none⟩), .int .i64 n, .int .i64 (wd : Int)] w (Post w F (fun _ : Unit => .tuple #[]) (fun _ => [WrR TE ea g (wFix (beN n wd) s)])) := by
  refine g_enter (env := [(0, .pointer (some ⟨g, 0, none⟩)), (1, .int .i64 n), (2, .int .i64 (wd : Int))]) Tryz.func135 rfl h Tryz.ntmps135 rfl rfl ?_
  refine gc_seq ?_
  refine gsr ?_
  refine gp zmv ?_
  refine gp (r_bool (r_lss rfl rfl) (decide_eq_false (by omega))) ?_
  refine gp zmv ?_
  refine gq zmv ?_
  refine gq (r_bool (r_gtr rfl rfl) (decide_eq_false (by omega))) ?_
  refine gp zpk ?_
  refine gp zmv ?_
  refine gq zmv ?_
  refine gq (r_bool (r_lss rfl rfl) (decide_eq_false (by omega))) ?_
  refine gp zpk ?_
  refine gp zmv ?_
  refine gq zmv ?_
  refine gq (r_bool (r_lss rfl rfl) (decide_eq_false (by omega))) ?_
  refine gq zmv ?_
  refine gn ?_
  refine gn ?_
  refine gn ?_
  refine gn ?_
  refine gn ?_
  refine gq zpk ?_
  refine gp zpk ?_
  refine gnt ?_
  refine gc_condF rfl rfl ?_
  refine gc_skip ?_
  refine gx_then ?_
  refine gsr ?_
  refine gp zas ?_
  refine gnt ?_
  refine gc_seq ?_
  refine gsr ?_
  refine gp zmv ?_
  refine gp (r_int (r_arith (op := .sub) rfl rfl (wrap_i64 (by omega) (by omega))) (show (wd : Int) - 1 = (wd : Int) - 1 - ((0 : Nat) : Int) by omega)) ?_
  refine gp zas ?_
  refine gnt ?_
  refine gc_block ?_
  refine gc_loop (α := Nat × Option Addr × Nat) (fun x => [pureR (x.1 ≤ wd), rowR 5 1 x.2.1 x.1 x.2.2 (((List.range x.1).map fun j => byteAt n (wd - 1 - j)).map B8), WrR TE ea g s]) (fun x => [(6, .slice x.2.1 x.1 x.2.2), (7, .int .i64 ((wd : Int) - 1 - (x.1 : Int)))]) [36, 37, 38, 39, 40, 41, 42, 43, 44, 45, 46, 47] (fun x => wd - x.1) (0, none, 0) ?_ ?_ ?_
  · refine env_start (by kernel_rfl)
  · rintro w' ⟨F', hF', hst'⟩
    exact ⟨F', stars_pure_mk (Nat.zero_le _) (stars_row_nil hF'), hst'⟩
  · intro x u
    obtain ⟨k, a, c⟩ := x
    refine gc_pureR (fun hk => ?_)
    replace hk : k ≤ wd := hk
    refine gc_seq ?_
    refine gsr ?_
    refine gp zmv ?_
    refine gp zge ?_
    refine gnt ?_
    refine gif rfl (fun hc37 => ?_) (fun hc37 => ?_)
    · have hk' : k < wd := by (try simp only at hc37); omega
      refine gc_skip ?_
      refine gx_then ?_
      refine gc_seq ?_
      refine gc_block ?_
      refine gc_region ?_
      refine gp zmv ?_
      refine gp zmv ?_
      refine gp zmv ?_
      refine gp (r_arith (op := .mul) rfl rfl (wrap_i64 (by omega) (by omega))) ?_
      refine gp zhr ?_
      refine gp (r_val (r_conv_int rfl Ty.un_3 Ty.un_5) (byte_shr rfl hk' h8)) ?_
      refine gl_bsl1 (wt0 rfl) Ty.sl_86 Ty.sz_5 Ty.zc_5 (by conv => lhs; whnf) rfl ?_
      intro b46
      refine gl_append (news := [B8 (byteAt n (wd - 1 - k))]) (wt0 rfl) rfl rfl (by repeat (first | exact Pick.here | apply Pick.there)) Ty.el_86 (fun w' hw => hw.row (by repeat (first | exact Pick.here | apply Pick.there))) (all_cons' rfl all_nil') (by simp only [maxLen]; omega) (by omega) ?_
      intro a1 c1
      refine gp zas ?_
      refine gl_nil ?_
      refine gx_block_normal ?_
      refine gx_then ?_
      refine gc_region ?_
      refine gp zmv ?_
      refine gp (r_int (r_arith (op := .sub) rfl rfl (wrap_i64 (by omega) (by omega))) (show (wd : Int) - 1 - (k : Int) - 1 = (wd : Int) - 1 - ((k + 1 : Nat) : Int) by omega)) ?_
      refine gp zas ?_
      refine gl_nil ?_
      have hk' : k < wd := by omega
      refine zrd ((k + 1, a1, c1)) ?_ ?_
      · show wd - (k + 1) < wd - k
        omega
      · rintro w' hw
        obtain ⟨F', hF', hst'⟩ := hw.sel (M := [rowR 5 1 a1 (k + 1) c1 _, WrR TE ea g s]) (by repeat (first | exact Sel.nil | (apply Sel.cons; · (repeat (first | exact Pick.here | apply Pick.there)))))
        refine ⟨F', stars_pure_mk (by show k + 1 ≤ wd; omega) ?_, hst'⟩
        have e : ((List.range (k + 1)).map fun j => byteAt n (wd - 1 - j)).map B8 = ((List.range k).map fun j => byteAt n (wd - 1 - j)).map B8 ++ [B8 (byteAt n (wd - 1 - k))] := by simp [List.range_succ]
        show stars [rowR 5 1 a1 (k + 1) c1 (((List.range (k + 1)).map fun j => byteAt n (wd - 1 - j)).map B8), WrR TE ea g s] w' F'
        rw [e]
        exact hF'
    · have hk' : k = wd := by (try simp only at hc37); omega
      subst hk'
      refine gc_exit ?_
      refine gx_then_exit ?_
      refine gx_round_exit ?_
      refine gx_block_hit ?_
      refine gx_then ?_
      refine gc_region ?_
      refine gp zmv ?_
      refine gp zmv ?_
      refine zc (fun _ => ?_) (c := fun w1 F1 F2 h1 h2 hd hst => fixed_ok h1 (rd_row (xs := (beN n k).map B8) h2 hd (by repeat (first | exact Pick.here | apply Pick.there))) (by omega))
      refine gl_nil ?_
      refine gx_ret0' rfl ?_
      exact ze ()


theorem number_ok {w : World} {F : Nat → Prop} {g TE : Nat} {ea : Nat → Addr} {s : WS} {n : Int} {wd : Nat} (h : stars [WrR TE ea g s] w F) {es : List Nat} [Has es 1] (hE : GErr es w (fun k => ¬ F k) TE ea) (h1 : 1 ≤ wd) (h8 : wd ≤ 8) (hl : s.bs.length + wd ≤ 1099511627776) :
    Calls Tryz.prog 135 #[.pointer (some ⟨g, 0, none⟩), .int .i64 n, .int .i64 (wd : Int)] w (Post w F (fun _ : Unit => .tuple #[]) (fun _ => [WrR TE ea g (wNum n wd s)])) := by
  unfold wNum
  by_cases hn : n < 0
  · rw [if_pos (.inl hn)]; exact number_neg h hE h1 h8 hn
  · by_cases hb : wd < 8 ∧ (2 : Int) ^ (8 * wd) ≤ n
    · rw [if_pos (.inr hb)]; exact number_big h hE h1 h8 (by omega) hb.1 hb.2
    · rw [if_neg (fun hh => hh.elim hn hb)]
      by_cases hw : wd < 8
      · exact number_fit7 h hE h1 h8 hl (by omega) hw (by have : ¬ (2 : Int) ^ (8 * wd) ≤ n := fun h' => hb ⟨hw, h'⟩; omega)
      · exact number_fit8 h hE h1 h8 hl (by omega) (by omega)

end Go.Proofs.YtobjojeliibinaaGreatDoor

/- Walks, by program (wg.py) out of a spec. -/
namespace Go.Proofs.YtobjojeliibinaaGreatDoor
open Go
set_option linter.unusedVariables false
set_option linter.unusedSimpArgs false


/-- The errors' variables: all eighteen of the library, each its own. -/
structure NErr (w : World) (A : Nat → Prop) (ea : Nat → Addr) : Prop where
  g : GErr [1, 2, 3, 4, 5, 6, 7, 8, 9, 10, 11, 12, 13, 14, 15, 16, 17, 18] w A 340 ea
  c : ∀ i, 1 ≤ i → i ≤ 18 → (∃ c t, w.heap[(ea i).block]? = some (.cells c t (0, 0))) ∧ A (ea i).block
  j : ∀ i j, 1 ≤ i → i ≤ 18 → 1 ≤ j → j ≤ 18 → ea i = ea j → i = j
theorem NErr.mv {w w' : World} {A A' : Nat → Prop} {ea : Nat → Addr} (h : NErr w A ea) (k : Still w A w' A') : NErr w' A' ea :=
  ⟨h.g.mv k, fun i h1 h2 => by
    obtain ⟨⟨c, t, hc⟩, hA⟩ := h.c i h1 h2
    have hlt : (ea i).block < w.heap.size := (Array.getElem?_eq_some_iff.1 hc).1
    obtain ⟨e, hA'⟩ := k _ hlt hA
    exact ⟨⟨c, t, by rw [e]; exact hc⟩, hA'⟩, h.j⟩
theorem errIs_ok {w : World} {F : Nat → Prop} {ea : Nat → Addr} {n m : Nat} (h : stars [] w F) (hN : NErr w (fun k => ¬ F k) ea) (n1 : 1 ≤ n) (n2 : n ≤ 18) (m1 : 1 ≤ m) (m2 : m ≤ 18) :
    Calls Tryz.prog 74 #[eV 340 ea n, eV 340 ea m] w (Post w F (fun _ : Unit => .bool (decide (n = m))) (fun _ => [])) := by
  have en : eV 340 ea n = .iface 340 (.pointer (some (ea n))) := by cases n with | zero => omega | succ n => unfold eV; rfl
  have em : eV 340 ea m = .iface 340 (.pointer (some (ea m))) := by cases m with | zero => omega | succ n => unfold eV; rfl
  rw [en, em]
  by_cases hnm : n = m
  · subst hnm
    exact Calls.mono (is_same (ea n) w) fun e w' ⟨he, hw⟩ => ⟨(), by rw [he, decide_eq_true rfl], by rw [hw]; exact St.init h⟩
  · obtain ⟨⟨c1, t1, h1⟩, _⟩ := hN.c n n1 n2
    obtain ⟨⟨c2, t2, h2⟩, _⟩ := hN.c m m1 m2
    exact Calls.mono (is_other (ea n) (ea m) c1 c2 t1 t2 w (fun e => hnm (hN.j n m n1 n2 m1 m2 e)) h1 h2) fun e w' ⟨he, hw⟩ => ⟨(), by rw [he, decide_eq_false hnm], by rw [hw]; exact St.init h⟩
attribute [local irreducible] Gl Gc Gx Gs Runs Wt

set_option maxHeartbeats 400000 in
theorem errNum_ok {w : World} {F : Nat → Prop} {ea : Nat → Addr} {n : Nat} (h : stars [] w F) (hN : NErr w (fun k => ¬ F k) ea) (hn : n ≤ 18) :
    Calls Tryz.prog 20 #[eV 340 ea n] w (Post w F (fun _ : Unit => .int .i64 (n : Int)) (fun _ => [])) := by
  have hE := hN.g
  refine g_enter (env := [(0, eV 340 ea n)]) Tryz.func20 rfl h Tryz.ntmps20 rfl rfl ?_
  refine gsr ?_
  refine gp zas ?_
  refine gnt ?_
  refine gc_seq ?_
  refine gsr ?_
  refine gp zmv ?_
  refine gp (r_bool (c := decide (n = 0)) (r_eqnil rfl (by kernel_rfl)) rfl) ?_
  refine gnt ?_
  refine gif rfl (fun hc7 => ?_) (fun hc7 => ?_)
  · refine gsr ?_
    refine gp zas ?_
    refine gnt ?_
    refine gc_ret ?_
    refine gx_then_ret ?_
    refine gx_ret1 rfl (by conv => lhs; whnf) ?_
    have hn0 : n = 0 := hc7
    subst hn0
    exact ze ()
  · try simp only at hc7
    have hn0 : n ≠ 0 := hc7
    refine gc_skip ?_
    refine gx_then ?_
    refine gsr ?_
    refine gp (r_ld1o rfl Ty.row_38 (hE.c 1 Has.h) (hE.n 1 Has.h)) ?_
    refine gp (r_ld1o rfl Ty.row_38 (hE.c 2 Has.h) (hE.n 2 Has.h)) ?_
    refine gp (r_ld1o rfl Ty.row_38 (hE.c 3 Has.h) (hE.n 3 Has.h)) ?_
    refine gp (r_ld1o rfl Ty.row_38 (hE.c 4 Has.h) (hE.n 4 Has.h)) ?_
    refine gp (r_ld1o rfl Ty.row_38 (hE.c 5 Has.h) (hE.n 5 Has.h)) ?_
    refine gp (r_ld1o rfl Ty.row_38 (hE.c 6 Has.h) (hE.n 6 Has.h)) ?_
    refine gp (r_ld1o rfl Ty.row_38 (hE.c 7 Has.h) (hE.n 7 Has.h)) ?_
    refine gp (r_ld1o rfl Ty.row_38 (hE.c 8 Has.h) (hE.n 8 Has.h)) ?_
    refine gp (r_ld1o rfl Ty.row_38 (hE.c 9 Has.h) (hE.n 9 Has.h)) ?_
    refine gp (r_ld1o rfl Ty.row_38 (hE.c 10 Has.h) (hE.n 10 Has.h)) ?_
    refine gp (r_ld1o rfl Ty.row_38 (hE.c 11 Has.h) (hE.n 11 Has.h)) ?_
    refine gp (r_ld1o rfl Ty.row_38 (hE.c 12 Has.h) (hE.n 12 Has.h)) ?_
    refine gp (r_ld1o rfl Ty.row_38 (hE.c 13 Has.h) (hE.n 13 Has.h)) ?_
    refine gp (r_ld1o rfl Ty.row_38 (hE.c 14 Has.h) (hE.n 14 Has.h)) ?_
    refine gp (r_ld1o rfl Ty.row_38 (hE.c 15 Has.h) (hE.n 15 Has.h)) ?_
    refine gp (r_ld1o rfl Ty.row_38 (hE.c 16 Has.h) (hE.n 16 Has.h)) ?_
    refine gp (r_ld1o rfl Ty.row_38 (hE.c 17 Has.h) (hE.n 17 Has.h)) ?_
    refine gp (r_ld1o rfl Ty.row_38 (hE.c 18 Has.h) (hE.n 18 Has.h)) ?_
    refine gl_bslice (s := 1) (e := 38) (len := 18) (cs := ((List.range 18).map fun i => eV 340 ea (i + 1))) (z := [.nilIface]) (wt0 rfl) Ty.sl_153 (by kernel_rfl) (by decide) (by decide) (by decide) (by kernel_rfl) (by kernel_rfl) rfl (fun b26 => ?_)
    refine gp zas ?_
    refine gnt ?_
    refine gc_seq ?_
    refine gsr ?_
    refine gp zmv ?_
    refine gp zln ?_
    refine gp zmv ?_
    refine gnt ?_
    refine gc_block ?_
    refine gc_loop (α := Nat) (fun k => [pureR (k ≤ 18 ∧ k < n), rowR 38 1 (some ⟨b26, 0, none⟩) 18 18 ((List.range 18).map fun i => eV 340 ea (i + 1))]) (fun k => [(29, .int .i64 (k : Int))]) [2, 4, 5, 30, 31, 32, 33, 34, 35, 36, 37, 38, 39] (fun k => 18 - k) 0 ?_ ?_ ?_
    · refine env_start (by kernel_rfl)
    · exact fun w' hw => zlp ⟨Nat.zero_le _, by omega⟩ (by repeat (first | exact Sel.nil | (apply Sel.cons; · (repeat (first | exact Pick.here | apply Pick.there))))) w' hw
    · intro k u
      refine gc_pureR (fun hk => ?_)
      obtain ⟨hk, hkn⟩ := hk
      replace hk : k ≤ 18 := hk
      replace hkn : k < n := hkn
      refine gsr ?_
      refine gp zlt ?_
      refine gnt ?_
      refine gc_seq ?_
      refine gif rfl (fun hc30 => ?_) (fun hc30 => ?_)
      · try simp only at hc30
        have hk' : k < 18 := by omega
        refine gc_skip ?_
        refine gx_then ?_
        refine gc_seq ?_
        refine gc_block ?_
        refine gsr ?_
        refine gp zmv ?_
        refine gp (zia) ?_
        refine gp (r_ld1r (v := eV 340 ea (k + 1)) rfl Ty.row_38 (by repeat (first | exact Pick.here | apply Pick.there)) (by simp [hk'])) ?_
        refine gp zas ?_
        refine gp zas ?_
        refine gnt ?_
        refine gsr ?_
        refine gp zmv ?_
        refine gp zmv ?_
        refine zc (fun _ => ?_) (c := fun w1 F1 F2 h1 h2 hd hst => errIs_ok (n := n) (m := k + 1) h1 (hN.mv hst.still) (by omega) (by omega) (by omega) (by omega))
        refine gnt ?_
        refine gif rfl (fun hc36 => ?_) (fun hc36 => ?_)
        · refine gsr ?_
          refine gp zmv ?_
          refine gp zad ?_
          refine gp zas ?_
          refine gnt ?_
          refine gc_ret ?_
          refine gx_block_ret ?_
          refine gx_then_ret ?_
          refine gx_round_ret ?_
          refine gx_block_ret ?_
          refine gx_then_ret ?_
          refine gx_ret1 rfl (by conv => lhs; whnf) ?_
          have e : n = k + 1 := hc36
          subst e
          exact ze ()
        · refine gc_skip ?_
          refine gx_block_normal ?_
          refine gx_then ?_
          refine gc_region ?_
          refine gp zad ?_
          refine gp zmv ?_
          refine gl_nil ?_
          refine zrd (k + 1) ?_ ?_
          · show 18 - (k + 1) < 18 - k
            omega
          · exact fun w' hw => zlp ⟨by show k + 1 ≤ 18; omega, by show k + 1 < n; omega⟩ (by repeat (first | exact Sel.nil | (apply Sel.cons; · (repeat (first | exact Pick.here | apply Pick.there))))) w' hw
      · refine gc_exit ?_
        refine gx_then_exit ?_
        refine gx_round_exit ?_
        refine gx_block_hit ?_
        refine gx_then ?_
        refine gsr ?_
        refine gp zas ?_
        refine gnt ?_
        refine gc_ret ?_
        refine gx_ret1 rfl (by conv => lhs; whnf) ?_
        exact absurd hkn (by omega)

end Go.Proofs.YtobjojeliibinaaGreatDoor

/- The shell, part H: all eighteen errors. -/
namespace Go.Proofs.YtobjojeliibinaaGreatDoor
open Go
open Go.ChangeShapes Go.WideShapes Go.RowKit
set_option linter.unusedVariables false
def errRow (x : String × List UInt8) : String × DataW Unit := (x.1, .iface "*errors.errorString" (.ptr (.agg [.lit (.string x.2)])))
theorem laid_sentinelF {P : Program} {n nm : String} {text : List UInt8} {r : List (String × DataW Unit)} {W : World} {g : Nat} {ti tp te ts : TypeId} {ms : Array (String × TypeId)} {f : Field}
    (h : laidMet P ((n, .iface nm (.ptr (.agg [.lit (.string text)]))) :: r) W)
    (hg : P.globalNamed n = some g) (ht : (P.globals[g]?).map (·.type) = some ti) (hi : P.underlying ti = some (.interface ms)) (hrow : ∀ u, P.typeName? 3 u = some nm → u = tp)
    (hp : P.underlying tp = some (.pointer te)) (he : P.underlying te = some (.struct #[f])) (hft : f.type = ts) (hfo : f.offset = 0) (hs : P.underlying ts = some .string) (hc : P.cellsOf te = 1) (hcs : P.cellsOf ts = 1) :
    ∃ (a : Addr) (s : ByteArray), W.var? P n = some #[.iface tp (.pointer (some a))] ∧ W.cell? a = some (.string s) ∧ s.data.toList = text ∧ ∃ c t, W.heap[a.block]? = some (.cells c t (0, 0)) := by
  obtain ⟨ps, ⟨g0', t0', cs0, f0, p0, q0, hg0', ht0', hv0, hd0, _, e0⟩, hnd, hrows⟩ := h
  obtain rfl := Option.some.inj (hg.symm.trans hg0')
  obtain rfl := Option.some.inj (ht.symm.trans ht0')
  subst e0
  obtain ⟨l0⟩ := cs0
  have ok0 : ∀ u v, l0 = [.iface u v] → Value.okWide P W .any 0 u v := fun u v e => by
    subst e
    exact (hrows g 0 (by simp [MemPlace.row])).2 u v (by simpa using World.var?_cell hg hv0 0)
  obtain ⟨a0, s0, rfl, hc0, hs0, hz0, rfl⟩ := errorString_of_trod hi hrow hp he hft hfo hs hc hcs hd0 ok0
  exact ⟨a0, s0, hv0, hc0, hs0, (hrows a0.block a0.off (by simp [MemPlace.row])).1⟩
theorem laid_err1 {W : World} {n : String} {text : List UInt8} {r : List (String × DataW Unit)} {g : Nat} (h : laidMet Tryz.prog ((n, .iface "*errors.errorString" (.ptr (.agg [.lit (.string text)]))) :: r) W) (hg : Tryz.prog.globalNamed n = some g) (ht : (Tryz.prog.globals[g]?).map (·.type) = some 38) :
    ∃ (a : Addr), W.cell? ⟨g, 0, none⟩ = some (.iface 340 (.pointer (some a))) ∧ (∃ s : ByteArray, W.cell? a = some (.string s) ∧ s.data.toList = text) ∧ ∃ c t, W.heap[a.block]? = some (.cells c t (0, 0)) := by
  obtain ⟨ms, hi⟩ := run_ifcT (P := Tryz.prog) (T := 38) (by kernel_rfl)
  obtain ⟨a, s, h1, h2, h3, h4⟩ := laid_sentinelF h hg ht hi err_row Tryz.underlying340 Tryz.underlying365 rfl rfl Tryz.underlying9 (by kernel_rfl) (by kernel_rfl)
  exact ⟨a, by simpa using World.var?_cell hg h1 0, ⟨s, h2, h3⟩, h4⟩
theorem laid_errs {W : World} : ∀ {ns : List (String × List UInt8)} {r : List (String × DataW Unit)}, laidMet Tryz.prog (ns.map errRow ++ r) W → (∀ x ∈ ns, ∃ g, Tryz.prog.globalNamed x.1 = some g ∧ (Tryz.prog.globals[g]?).map (·.type) = some 38) →
    ∃ al : List Addr, al.length = ns.length ∧ ∀ (i : Nat) (n : String) (t : List UInt8) (a : Addr), ns[i]? = some (n, t) → al[i]? = some a → (∀ g, Tryz.prog.globalNamed n = some g → W.cell? ⟨g, 0, none⟩ = some (.iface 340 (.pointer (some a)))) ∧ (∃ s : ByteArray, W.cell? a = some (.string s) ∧ s.data.toList = t) ∧ ∃ c t, W.heap[a.block]? = some (.cells c t (0, 0))
  | [], r, _, _ => ⟨[], rfl, fun i n t a h => by simp at h⟩
  | x :: ns, r, h, hg => by
    obtain ⟨al, hl, ha⟩ := laid_errs (ns := ns) (r := r) h.tail (fun y hy => hg y (List.mem_cons_of_mem _ hy))
    obtain ⟨g, hg1, hg2⟩ := hg x List.mem_cons_self
    obtain ⟨a0, h1, h2, h3⟩ := laid_err1 (n := x.1) (text := x.2) h hg1 hg2
    refine ⟨a0 :: al, by simp [hl], fun i n t a hi hai => ?_⟩
    cases i with
    | zero =>
      simp only [List.getElem?_cons_zero, Option.some.injEq] at hi hai
      subst hi; subst hai
      exact ⟨fun g' hg' => by rw [hg1] at hg'; cases hg'; exact h1, h2, h3⟩
    | succ i => exact ha i n t a (by simpa using hi) (by simpa using hai)
def errNames : List (String × List UInt8) := [("quorate/api.ErrRange", [113, 117, 111, 114, 97, 116, 101, 58, 32, 114, 97, 110, 103, 101]),
  ("quorate/api.ErrShort", [113, 117, 111, 114, 97, 116, 101, 58, 32, 115, 104, 111, 114, 116]),
  ("quorate/api.ErrLong", [113, 117, 111, 114, 97, 116, 101, 58, 32, 108, 111, 110, 103]),
  ("quorate/api.ErrForm", [113, 117, 111, 114, 97, 116, 101, 58, 32, 102, 111, 114, 109]),
  ("quorate/api.ErrSpent", [113, 117, 111, 114, 97, 116, 101, 58, 32, 115, 112, 101, 110, 116]),
  ("quorate/api.ErrPower", [113, 117, 111, 114, 97, 116, 101, 58, 32, 112, 111, 119, 101, 114]),
  ("quorate/api.ErrDisk", [113, 117, 111, 114, 97, 116, 101, 58, 32, 100, 105, 115, 107]),
  ("quorate/api.ErrFull", [113, 117, 111, 114, 97, 116, 101, 58, 32, 102, 117, 108, 108]),
  ("quorate/api.ErrNone", [113, 117, 111, 114, 97, 116, 101, 58, 32, 110, 111, 110, 101]),
  ("quorate/api.ErrOld", [113, 117, 111, 114, 97, 116, 101, 58, 32, 111, 108, 100]),
  ("quorate/api.ErrSet", [113, 117, 111, 114, 97, 116, 101, 58, 32, 115, 101, 116]),
  ("quorate/api.ErrProof", [113, 117, 111, 114, 97, 116, 101, 58, 32, 112, 114, 111, 111, 102]),
  ("quorate/api.ErrLeader", [113, 117, 111, 114, 97, 116, 101, 58, 32, 108, 101, 97, 100, 101, 114]),
  ("quorate/api.ErrRound", [113, 117, 111, 114, 97, 116, 101, 58, 32, 114, 111, 117, 110, 100]),
  ("quorate/api.ErrUnsafe", [113, 117, 111, 114, 97, 116, 101, 58, 32, 117, 110, 115, 97, 102, 101]),
  ("quorate/api.ErrParent", [113, 117, 111, 114, 97, 116, 101, 58, 32, 112, 97, 114, 101, 110, 116]),
  ("quorate/api.ErrTwice", [113, 117, 111, 114, 97, 116, 101, 58, 32, 116, 119, 105, 99, 101]),
  ("quorate/api.ErrEpoch", [113, 117, 111, 114, 97, 116, 101, 58, 32, 101, 112, 111, 99, 104])]
theorem errNames_glob : (List.range 18).all (fun i => match errNames[i]? with | some x => (Tryz.prog.globalNamed x.1 == some (errG (i + 1))) && ((Tryz.prog.globals[errG (i + 1)]?).map (·.type) == some 38) | none => false) = true := by kernel_rfl
theorem errNames_apart : (List.range 18).all (fun i => (List.range 18).all fun j => match errNames[i]?, errNames[j]? with | some x, some y => i == j || x.2 != y.2 | _, _ => false) = true := by kernel_rfl
theorem laid_nerr {W : World} {r : List (String × DataW Unit)} (h : laidMet Tryz.prog (errNames.map errRow ++ r) W) : ∃ ea, NErr W (fun k => ¬ (fun _ : Nat => False) k) ea := by
  have hgl := errNames_glob
  rw [List.all_eq_true] at hgl
  have hap := errNames_apart
  rw [List.all_eq_true] at hap
  have hlen : errNames.length = 18 := rfl
  have hglob : ∀ i, i < 18 → ∃ x, errNames[i]? = some x ∧ Tryz.prog.globalNamed x.1 = some (errG (i + 1)) ∧ (Tryz.prog.globals[errG (i + 1)]?).map (·.type) = some 38 := fun i hi => by
    have := hgl i (List.mem_range.2 hi)
    cases hx : errNames[i]? with
    | none => rw [hx] at this; cases this
    | some x => rw [hx] at this; simp only [Bool.and_eq_true, beq_iff_eq] at this; exact ⟨x, rfl, this⟩
  obtain ⟨al, hl, ha⟩ := laid_errs h (fun x hx => by
    obtain ⟨i, hi, hxi⟩ := List.mem_iff_getElem.1 hx
    obtain ⟨y, hy, h1, h2⟩ := hglob i (by omega)
    rw [List.getElem?_eq_getElem hi, hxi] at hy
    cases hy
    exact ⟨_, h1, h2⟩)
  rw [hlen] at hl
  have key : ∀ i, 1 ≤ i → i ≤ 18 → ∃ x a, errNames[i - 1]? = some x ∧ al[i - 1]? = some a ∧ al.getD (i - 1) ⟨0, 0, none⟩ = a ∧ W.cell? ⟨errG i, 0, none⟩ = some (.iface 340 (.pointer (some a))) ∧ (∃ s : ByteArray, W.cell? a = some (.string s) ∧ s.data.toList = x.2) ∧ ∃ c t, W.heap[a.block]? = some (.cells c t (0, 0)) := fun i h1 h2 => by
    obtain ⟨x, hx, hg, _⟩ := hglob (i - 1) (by omega)
    have haa : al[i - 1]? = some al[i - 1] := List.getElem?_eq_getElem (by omega)
    obtain ⟨k1, k2, k3⟩ := ha (i - 1) x.1 x.2 _ hx haa
    rw [show i - 1 + 1 = i by omega] at hg
    exact ⟨x, _, hx, haa, by rw [List.getD_eq_getElem?_getD, haa]; rfl, k1 _ hg, k2, k3⟩
  refine ⟨fun i => al.getD (i - 1) ⟨0, 0, none⟩, ⟨fun i hi => ?_, fun i _ => id⟩, fun i h1 h2 => ?_, fun i j h1 h2 k1 k2 e => ?_⟩
  · have hi' : 1 ≤ i ∧ i ≤ 18 := by
      simp only [List.mem_cons, List.not_mem_nil, or_false] at hi; omega
    obtain ⟨x, a, _, _, ea, hc, _⟩ := key i hi'.1 hi'.2
    rw [hc, ← ea]
    cases i with
    | zero => omega
    | succ i => unfold eV; rfl
  · obtain ⟨x, a, _, _, ea, _, _, hc⟩ := key i h1 h2
    simp only []
    rw [ea]
    exact ⟨hc, id⟩
  · obtain ⟨x, a, hx, _, ea, _, ⟨s, hs, ht⟩, _⟩ := key i h1 h2
    obtain ⟨y, b, hy, _, eb, _, ⟨s', hs', ht'⟩, _⟩ := key j k1 k2
    replace e : al.getD (i - 1) ⟨0, 0, none⟩ = al.getD (j - 1) ⟨0, 0, none⟩ := e
    rw [ea, eb] at e
    subst e
    rw [hs] at hs'
    injection hs' with hs'; injection hs' with hs'
    subst hs'
    have h3 := hap (i - 1) (List.mem_range.2 (by omega))
    rw [List.all_eq_true] at h3
    have h4 := h3 (j - 1) (List.mem_range.2 (by omega))
    rw [hx, hy] at h4
    simp only [Bool.or_eq_true, beq_iff_eq, bne_iff_ne] at h4
    rcases h4 with h4 | h4
    · omega
    · exact absurd (ht.symm.trans ht') h4
end Go.Proofs.YtobjojeliibinaaGreatDoor

/- Plain words: SHA-256 as layer 2 computes it. No program in sight. -/
namespace Go.Proofs.YtobjojeliibinaaGreatDoor
set_option linter.unusedVariables false

def rotr (x : UInt32) (n : Nat) : UInt32 := x <<< UInt32.ofNat (32 - n) ||| x >>> UInt32.ofNat n
def wordAt (b : List UInt8) (k : Nat) : UInt32 := ((b.getD (4 * k) 0).toUInt32 <<< UInt32.ofNat 24 ||| (b.getD (4 * k + 1) 0).toUInt32 <<< UInt32.ofNat 16) ||| (b.getD (4 * k + 2) 0).toUInt32 <<< UInt32.ofNat 8 ||| (b.getD (4 * k + 3) 0).toUInt32
def sg0 (x : UInt32) : UInt32 := rotr x 7 ^^^ rotr x 18 ^^^ x >>> UInt32.ofNat 3
def sg1 (x : UInt32) : UInt32 := rotr x 17 ^^^ rotr x 19 ^^^ x >>> UInt32.ofNat 10
/-- The schedule of a block of 64 bytes. -/
def sch (b : List UInt8) (j : Nat) : UInt32 :=
  if h : j < 16 then wordAt b j else sch b (j - 16) + sg0 (sch b (j - 15)) + sch b (j - 7) + sg1 (sch b (j - 2))
termination_by j
structure V8 where
  a : UInt32
  b : UInt32
  c : UInt32
  d : UInt32
  e : UInt32
  f : UInt32
  g : UInt32
  h : UInt32
def rnd (k w : UInt32) (v : V8) : V8 :=
  let one := v.h + (rotr v.e 6 ^^^ rotr v.e 11 ^^^ rotr v.e 25) + ((v.e &&& v.f) ^^^ (~~~v.e &&& v.g)) + k + w
  let two := (rotr v.a 2 ^^^ rotr v.a 13 ^^^ rotr v.a 22) + (((v.a &&& v.b) ^^^ (v.a &&& v.c)) ^^^ (v.b &&& v.c))
  ⟨one + two, v.a, v.b, v.c, v.d + one, v.e, v.f, v.g⟩
def rnds (K W : Nat → UInt32) (v : V8) : Nat → V8
  | 0 => v
  | k + 1 => rnd (K k) (W k) (rnds K W v k)
def V8.add (x y : V8) : V8 := ⟨x.a + y.a, x.b + y.b, x.c + y.c, x.d + y.d, x.e + y.e, x.f + y.f, x.g + y.g, x.h + y.h⟩
def V8.get (x : V8) : Nat → UInt32
  | 0 => x.a | 1 => x.b | 2 => x.c | 3 => x.d | 4 => x.e | 5 => x.f | 6 => x.g | _ => x.h
def take64 (K : Nat → UInt32) (v : V8) (b : List UInt8) : V8 := v.add (rnds K (sch b) v 64)
/-- All whole blocks of b. -/
def takes (K : Nat → UInt32) (v : V8) (b : List UInt8) : V8 × List UInt8 :=
  if h : 64 ≤ b.length then takes K (take64 K v (b.take 64)) (b.drop 64) else (v, b)
termination_by b.length
decreasing_by simp; omega
def v0 : V8 := ⟨1779033703, 3144134277, 1013904242, 2773480762, 1359893119, 2600822924, 528734635, 1541459225⟩
/-- A hash: its words, the bytes that aren't taken yet, how many bytes it was handed. -/
structure HS where
  v : V8
  rest : List UInt8
  len : Nat
def hs0 : HS := ⟨v0, [], 0⟩
def hWrite (K : Nat → UInt32) (s : HS) (b : List UInt8) : HS :=
  let p := takes K s.v (s.rest ++ b)
  ⟨p.1, p.2, s.len + b.length⟩
theorem takes_rest (K : Nat → UInt32) (v : V8) (b : List UInt8) : (takes K v b).2.length < 64 := by
  fun_induction takes K v b with
  | case1 v b h ih => exact ih
  | case2 v b h => simpa using h
def lenBytes (len : Nat) : List UInt8 := (List.range 8).map fun i => UInt8.ofNat (len * 8 / 2 ^ (8 * (7 - i)))
def padN (m : Nat) : Nat := (55 + 64 - m % 64) % 64
def padded (s : HS) : List UInt8 := s.rest ++ 128 :: (List.replicate (padN s.rest.length) 0 ++ lenBytes s.len)
def outByte (v : V8) (i : Nat) : UInt8 := (v.get (i / 4) >>> UInt32.ofNat (24 - 8 * (i % 4))).toUInt8
def hSum (K : Nat → UInt32) (s : HS) : List UInt8 := (List.range 32).map (outByte (takes K s.v (padded s)).1)
def part4 (n : Nat) : List UInt8 := [UInt8.ofNat (n / 2 ^ 24), UInt8.ofNat (n / 2 ^ 16), UInt8.ofNat (n / 2 ^ 8), UInt8.ofNat n]
def hOf (K : Nat → UInt32) (dom : Int) (parts : List (List UInt8)) : List UInt8 :=
  (hSum K (parts.foldl (fun s p => hWrite K (hWrite K s (part4 p.length)) p) (hWrite K hs0 [UInt8.ofNat (dom % 256).toNat]))).take 16
theorem hOf_length (K : Nat → UInt32) (dom : Int) (parts : List (List UInt8)) : (hOf K dom parts).length = 16 := by simp [hOf, hSum]
end Go.Proofs.YtobjojeliibinaaGreatDoor

/- Walks, by program (wg.py) out of a spec. -/
namespace Go.Proofs.YtobjojeliibinaaGreatDoor
open Go
set_option linter.unusedVariables false
set_option linter.unusedSimpArgs false


theorem sch_lo {b : List UInt8} {k : Nat} (h : k < 16) : sch b k = wordAt b k := by rw [sch, dif_pos h]
theorem sch_hi {b : List UInt8} {k : Nat} (h : 16 ≤ k) : sch b k = sch b (k - 16) + sg0 (sch b (k - 15)) + sch b (k - 7) + sg1 (sch b (k - 2)) := by rw [sch, dif_neg (by omega)]
def v8c (v : V8) : List Value := [W32 v.a, W32 v.b, W32 v.c, W32 v.d, W32 v.e, W32 v.f, W32 v.g, W32 v.h]
def kc : List UInt32 := [0x428a2f98, 0x71374491, 0xb5c0fbcf, 0xe9b5dba5, 0x3956c25b, 0x59f111f1, 0x923f82a4, 0xab1c5ed5, 0xd807aa98, 0x12835b01, 0x243185be, 0x550c7dc3, 0x72be5d74, 0x80deb1fe, 0x9bdc06a7, 0xc19bf174, 0xe49b69c1, 0xefbe4786, 0x0fc19dc6, 0x240ca1cc, 0x2de92c6f, 0x4a7484aa, 0x5cb0a9dc, 0x76f988da, 0x983e5152, 0xa831c66d, 0xb00327c8, 0xbf597fc7, 0xc6e00bf3, 0xd5a79147, 0x06ca6351, 0x14292967, 0x27b70a85, 0x2e1b2138, 0x4d2c6dfc, 0x53380d13, 0x650a7354, 0x766a0abb, 0x81c2c92e, 0x92722c85, 0xa2bfe8a1, 0xa81a664b, 0xc24b8b70, 0xc76c51a3, 0xd192e819, 0xd6990624, 0xf40e3585, 0x106aa070, 0x19a4c116, 0x1e376c08, 0x2748774c, 0x34b0bcb5, 0x391c0cb3, 0x4ed8aa4a, 0x5b9cca4f, 0x682e6ff3, 0x748f82ee, 0x78a5636f, 0x84c87814, 0x8cc70208, 0x90befffa, 0xa4506ceb, 0xbef9a3f7, 0xc67178f2]
def Kc (i : Nat) : UInt32 := kc.getD i 0
/-- The constants' variable holds them, and lies in A. -/
structure KR (w : World) (A : Nat → Prop) : Prop where
  c : ∀ i, i < 64 → w.cell? ⟨18, i, none⟩ = some (W32 (Kc i))
  n : A 18
theorem KR.mv {w w' : World} {A A' : Nat → Prop} (h : KR w A) (hk : Still w A w' A') : KR w' A' :=
  ⟨fun i hi => by
    have := hk _ (World.block_lt_of_cell? w ⟨18, i, none⟩ (h.c i hi)) h.n
    rw [World.cell?_of_block (w := w) (a := ⟨18, i, none⟩) this.1]; exact h.c i hi,
   (hk _ (World.block_lt_of_cell? w ⟨18, 0, none⟩ (h.c 0 (by decide))) h.n).2⟩
theorem KR.at {w : World} {A : Nat → Prop} (h : KR w A) {e i : Nat} (he : e = i) (hi : i < 64) : w.cell? ⟨18, e, none⟩ = some (W32 (Kc i)) := by subst he; exact h.c e hi

attribute [local irreducible] Gl Gc Gx Gs Runs Wt

set_option maxHeartbeats 400000 in
theorem rot_ok {w : World} {F : Nat → Prop} {x : UInt32} {n : Nat} (h : stars [] w F) (h1 : 1 ≤ n) (h2 : n ≤ 31) :
    Calls Tryz.prog 195 #[W32 x, .int .i64 (-(n : Int))] w (Post w F (fun _ : Unit => W32 (rotr x n)) (fun _ => [])) := by
  refine g_enter (env := [(0, W32 x), (1, .int .i64 (-(n : Int)))]) Tryz.func195 rfl h Tryz.ntmps195 rfl rfl ?_
  refine gsr ?_
  refine gp zas ?_
  refine gnt ?_
  refine gsr ?_
  refine gp zmv ?_
  refine gp zci ?_
  refine gp (r_int (r_bits (op := .and) rfl rfl rfl) (rot_and h1 h2)) ?_
  refine gp zas ?_
  refine gnt ?_
  refine gsr ?_
  refine gp zmv ?_
  refine gp zmv ?_
  refine gp (r_shlw (j := 32 - n) rfl rfl rfl (by omega)) ?_
  refine gp zmv ?_
  refine gp zmv ?_
  refine gp (r_int (r_sub rfl rfl) (show IntKind.u64.wrap (32 - ((32 - n : Nat) : Int)) = (n : Int) by rw [wrap_u64 (by omega) (by omega)]; omega)) ?_
  refine gp (r_shrw (j := n) rfl rfl rfl (by omega)) ?_
  refine gp zwo ?_
  refine gp zas ?_
  refine gnt ?_
  refine gc_ret ?_
  refine gx_ret1 rfl (by conv => lhs; whnf) ?_
  exact ze ()

set_option maxHeartbeats 400000 in
theorem schedule_ok {w : World} {F : Nat → Prop} (h : stars [] w F) {b : List UInt8} {a : Option Addr} {c : Nat} (hx : RdRow w (fun k => ¬ F k) 1 a 64 (b.map B8))  :
    Calls Tryz.prog 194 #[.slice a 64 c] w (Post w F (fun _ : Unit => .agg (fnc W32 64 (sch b)).toArray) (fun _ => [])) := by
  have hbl : b.length = 64 := by have := hx.1; simp at this; omega
  obtain ⟨ga, oa, rfl, hA, hg, hra⟩ := hx.2.2 (by decide)
  refine g_enter (env := [(0, .slice (some ⟨ga, oa, none⟩) 64 c)]) Tryz.func194 rfl h Tryz.ntmps194 rfl rfl ?_
  refine gsr ?_
  refine zal fun b2 => ?_
  refine gnt ?_
  refine gsr ?_
  refine zal fun b3 => ?_
  refine gnt ?_
  refine gc_seq ?_
  refine gsr ?_
  refine gp zmv ?_
  refine gnt ?_
  refine gc_block ?_
  refine gc_loop (α := Nat) (fun k => [pureR (k ≤ 16), blk b3 260 (fnc W32 64 (pfx (sch b) (fun _ => 0) k)), blk b2 260 (List.replicate 64 (.int .u32 0))]) (fun k => [(10, .int .i64 (k : Int))]) [4, 11, 12, 13, 14, 15, 16, 17, 18, 19, 20, 21, 22, 23, 24, 25, 26, 27, 28, 29, 30, 31, 32, 33, 34, 35, 36, 37, 38, 39, 40, 41, 42, 43, 44, 45, 46, 47, 48] (fun k => 16 - k) 0 ?_ ?_ ?_
  · refine env_start (by kernel_rfl)
  · rintro w' hw
    obtain ⟨F', hF', hst'⟩ := hw.sel (M := [blk b3 260 (List.replicate 64 (.int .u32 0)), blk b2 260 (List.replicate 64 (.int .u32 0))]) (by repeat (first | exact Sel.nil | (apply Sel.cons; · (repeat (first | exact Pick.here | apply Pick.there)))))
    refine ⟨F', stars_pure_mk (Nat.zero_le _) ?_, hst'⟩
    show stars [blk b3 260 (fnc W32 64 (pfx (sch b) (fun _ => 0) 0)), blk b2 260 (List.replicate 64 (.int .u32 0))] w' F'
    rw [pfx_zero, fnc_const]
    exact hF'
  · intro k u
    refine gc_pureR (fun hk => ?_)
    replace hk : k ≤ 16 := hk
    refine gsr ?_
    refine gp zlt ?_
    refine gnt ?_
    refine gc_seq ?_
    refine gif rfl (fun hc11 => ?_) (fun hc11 => ?_)
    · have hk' : k < 16 := by (try simp only at hc11); omega
      refine gc_skip ?_
      refine gx_then ?_
      refine gc_seq ?_
      refine gc_block ?_
      refine gsr ?_
      refine gp zmv ?_
      refine gp zas ?_
      refine gnt ?_
      refine gc_regionT 35 (by kernel_rfl) (by kernel_rfl) ?_
      refine sp zmv ?_
      refine sp zmv ?_
      refine sp zmv ?_
      refine sp zml ?_
      refine sp (r_indexAddr_slice rfl rfl Ty.sl_86 Ty.sz_5 (by omega) (by omega)) ?_
      refine sp (r_ld1o rfl Ty.row_5 (cellb hra (j := 4 * k) (by omega) (by omega)) hA) ?_
      refine sp (r_conv8w rfl Ty.un_5 Ty.un_259) ?_
      refine sp (r_shlw (j := 24) rfl rfl rfl (by decide)) ?_
      refine sp zmv ?_
      refine sp zmv ?_
      refine sp zml ?_
      refine sp zad ?_
      refine sp (r_indexAddr_slice rfl rfl Ty.sl_86 Ty.sz_5 (by omega) (by omega)) ?_
      refine sp (r_ld1o rfl Ty.row_5 (cellb hra (j := 4 * k + 1) (by omega) (by omega)) hA) ?_
      refine sp (r_conv8w rfl Ty.un_5 Ty.un_259) ?_
      refine sp (r_shlw (j := 16) rfl rfl rfl (by decide)) ?_
      refine sp zwo ?_
      refine sp zmv ?_
      refine sp zmv ?_
      refine sp zml ?_
      refine sp zad ?_
      refine sp (r_indexAddr_slice rfl rfl Ty.sl_86 Ty.sz_5 (by omega) (by omega)) ?_
      refine sp (r_ld1o rfl Ty.row_5 (cellb hra (j := 4 * k + 2) (by omega) (by omega)) hA) ?_
      refine sp (r_conv8w rfl Ty.un_5 Ty.un_259) ?_
      refine sp (r_shlw (j := 8) rfl rfl rfl (by decide)) ?_
      refine sp zwo ?_
      refine sp zmv ?_
      refine sp zmv ?_
      refine sp zml ?_
      refine sp zad ?_
      refine sp (r_indexAddr_slice rfl rfl Ty.sl_86 Ty.sz_5 (by omega) (by omega)) ?_
      refine sp (r_ld1o rfl Ty.row_5 (cellb hra (j := 4 * k + 3) (by omega) (by omega)) hA) ?_
      refine sp (r_conv8w rfl Ty.un_5 Ty.un_259) ?_
      refine sp zwo ?_
      refine sp (r_indexAddr_arr rfl rfl Ty.arr_260 Ty.sz_259 (by omega) (by omega)) ?_
      refine gs_nil ?_
      refine gl_store1 (wt0 rfl) rfl rfl rfl Ty.sz_259 (by repeat (first | exact Pick.here | apply Pick.there)) (by rw [fnc_length]; omega) (pfx_set (k := k) (by omega) (by omega) (congrArg W32 (sch_lo hk').symm)) ?_
      refine gl_nil ?_
      refine gx_block_normal ?_
      refine gx_then ?_
      refine gc_region ?_
      refine gp zad ?_
      refine gp zmv ?_
      refine gl_nil ?_
      refine zrd (k + 1) ?_ ?_
      · show 16 - (k + 1) < 16 - k
        omega
      · rintro w' hw
        obtain ⟨F', hF', hst'⟩ := hw.sel (M := [blk b3 260 _, blk b2 260 _]) (by repeat (first | exact Sel.nil | (apply Sel.cons; · (repeat (first | exact Pick.here | apply Pick.there)))))
        exact ⟨F', stars_pure_mk (show k + 1 ≤ 16 by omega) hF', hst'⟩
    · have hk' : k = 16 := by (try simp only at hc11); omega
      subst hk'
      refine gc_exit ?_
      refine gx_then_exit ?_
      refine gx_round_exit ?_
      refine gx_block_hit ?_
      refine gx_then ?_
      refine gc_seq ?_
      refine gsr ?_
      refine gp zas ?_
      refine gnt ?_
      refine gc_block ?_
      refine gc_loop (α := Nat) (fun k => [pureR (16 ≤ k ∧ k ≤ 64), blk b3 260 (fnc W32 64 (pfx (sch b) (fun _ => 0) k)), blk b2 260 (List.replicate 64 (.int .u32 0))]) (fun k => [(5, .int .i64 (k : Int))]) [6, 7, 8, 9, 49, 50, 51, 52, 53, 54, 55, 56, 57, 58, 59, 60, 61, 62, 63, 64, 65, 66, 67, 68, 69, 70, 71, 72, 73, 74, 75, 76, 77, 78, 79, 80, 81, 82, 83, 84, 85, 86, 87, 88, 89, 90, 91] (fun k => 64 - k) 16 ?_ ?_ ?_
      · refine env_start (by kernel_rfl)
      · rintro w' hw
        obtain ⟨F', hF', hst'⟩ := hw.sel (M := [blk b3 260 _, blk b2 260 _]) (by repeat (first | exact Sel.nil | (apply Sel.cons; · (repeat (first | exact Pick.here | apply Pick.there)))))
        exact ⟨F', stars_pure_mk (by decide) hF', hst'⟩
      · intro k u
        refine gc_pureR (fun hk => ?_)
        replace hk : 16 ≤ k ∧ k ≤ 64 := hk
        refine gc_seq ?_
        refine gsr ?_
        refine gp zmv ?_
        refine gp zlt ?_
        refine gnt ?_
        refine gif rfl (fun hc50 => ?_) (fun hc50 => ?_)
        · have hk' : k < 64 := by (try simp only at hc50); omega
          refine gc_skip ?_
          refine gx_then ?_
          refine gc_seq ?_
          refine gc_block ?_
          refine gc_seq ?_
          refine gc_regionS (by kernel_rfl) (by kernel_rfl) ?_
          refine sp zmv ?_
          refine sp zsb ?_
          refine sp (r_indexAddr_arr rfl rfl Ty.arr_260 Ty.sz_259 (by omega) (by omega)) ?_
          refine sp (r_ld1 (v := W32 ((sch b) (k - 15))) rfl Ty.row_259 (by repeat (first | exact Pick.here | apply Pick.there)) (pfx_get (by omega) (by omega) (by omega))) ?_
          refine sp zmv ?_
          refine sp zsb ?_
          refine sp (r_indexAddr_arr rfl rfl Ty.arr_260 Ty.sz_259 (by omega) (by omega)) ?_
          refine sp (r_ld1 (v := W32 ((sch b) (k - 2))) rfl Ty.row_259 (by repeat (first | exact Pick.here | apply Pick.there)) (pfx_get (by omega) (by omega) (by omega))) ?_
          refine sp zas ?_
          refine sp zas ?_
          refine gs_nil ?_
          refine gx_then ?_
          refine gsr ?_
          refine gp zmv ?_
          refine zc (fun _ => ?_) (c := fun w1 F1 F2 h1 h2 hd hst => rot_ok (n := 7) h1 (by decide) (by decide))
          refine gp zmv ?_
          refine zc (fun _ => ?_) (c := fun w1 F1 F2 h1 h2 hd hst => rot_ok (n := 18) h1 (by decide) (by decide))
          refine gp zwx ?_
          refine gp zmv ?_
          refine gp (r_shrw (j := 3) rfl rfl rfl (by decide)) ?_
          refine gp zwx ?_
          refine gp zas ?_
          refine gnt ?_
          refine gsr ?_
          refine gp zmv ?_
          refine zc (fun _ => ?_) (c := fun w1 F1 F2 h1 h2 hd hst => rot_ok (n := 17) h1 (by decide) (by decide))
          refine gp zmv ?_
          refine zc (fun _ => ?_) (c := fun w1 F1 F2 h1 h2 hd hst => rot_ok (n := 19) h1 (by decide) (by decide))
          refine gp zwx ?_
          refine gp zmv ?_
          refine gp (r_shrw (j := 10) rfl rfl rfl (by decide)) ?_
          refine gp zwx ?_
          refine gp zas ?_
          refine gnt ?_
          refine gc_regionT 15 (by kernel_rfl) (by kernel_rfl) ?_
          refine sp zmv ?_
          refine sp zmv ?_
          refine sp zsb ?_
          refine sp (r_indexAddr_arr rfl rfl Ty.arr_260 Ty.sz_259 (by omega) (by omega)) ?_
          refine sp (r_ld1 (v := W32 ((sch b) (k - 16))) rfl Ty.row_259 (by repeat (first | exact Pick.here | apply Pick.there)) (pfx_get (by omega) (by omega) (by omega))) ?_
          refine sp zmv ?_
          refine sp zwa ?_
          refine sp zmv ?_
          refine sp zsb ?_
          refine sp (r_indexAddr_arr rfl rfl Ty.arr_260 Ty.sz_259 (by omega) (by omega)) ?_
          refine sp (r_ld1 (v := W32 ((sch b) (k - 7))) rfl Ty.row_259 (by repeat (first | exact Pick.here | apply Pick.there)) (pfx_get (by omega) (by omega) (by omega))) ?_
          refine sp zwa ?_
          refine sp zmv ?_
          refine sp zwa ?_
          refine sp (r_indexAddr_arr rfl rfl Ty.arr_260 Ty.sz_259 (by omega) (by omega)) ?_
          refine gs_nil ?_
          refine gl_store1 (wt0 rfl) rfl rfl rfl Ty.sz_259 (by repeat (first | exact Pick.here | apply Pick.there)) (by rw [fnc_length]; omega) (pfx_set (k := k) (by omega) (by omega) (congrArg W32 (sch_hi hk.1).symm)) ?_
          refine gl_nil ?_
          refine gx_block_normal ?_
          refine gx_then ?_
          refine gc_region ?_
          refine gp zmv ?_
          refine gp zad ?_
          refine gp zas ?_
          refine gl_nil ?_
          refine zrd (k + 1) ?_ ?_
          · show 64 - (k + 1) < 64 - k
            omega
          · rintro w' hw
            obtain ⟨F', hF', hst'⟩ := hw.sel (M := [blk b3 260 _, blk b2 260 _]) (by repeat (first | exact Sel.nil | (apply Sel.cons; · (repeat (first | exact Pick.here | apply Pick.there)))))
            exact ⟨F', stars_pure_mk (show 16 ≤ k + 1 ∧ k + 1 ≤ 64 by omega) hF', hst'⟩
        · have hk' : k = 64 := by (try simp only at hc50); omega
          subst hk'
          refine gc_exit ?_
          refine gx_then_exit ?_
          refine gx_round_exit ?_
          refine gx_block_hit ?_
          refine gx_then ?_
          refine gsr ?_
          refine gp (r_ldN rfl Ty.row_260 Ty.sz_260 (by repeat (first | exact Pick.here | apply Pick.there)) (seg_all fnc_length) fnc_length) ?_
          refine gl_storeN (wt0 rfl) rfl rfl Ty.sz_260 fnc_length (by repeat (first | exact Pick.here | apply Pick.there)) (by simp) (fnc_one fun _ => rfl) (updL_all (by simp [fnc_length])) ?_
          refine gnt ?_
          refine gc_ret ?_
          refine gx_retc rfl rfl (ld_aggS Ty.row_260 Ty.sz_260 (by repeat (first | exact Pick.here | apply Pick.there)) (seg_all fnc_length) fnc_length) ?_
          rw [pfx_full]
          exact ze ()

end Go.Proofs.YtobjojeliibinaaGreatDoor

/- The shell, part J: the hash's constants; rows of rows of bytes. -/
namespace Go.Proofs.YtobjojeliibinaaGreatDoor
open Go
open Go.ChangeShapes Go.WideShapes Go.RowKit
set_option linter.unusedVariables false
theorem laid_kr {W : World} {r : List (String × DataW Unit)} (h : laidMet Tryz.prog (("quorate/hash.constants", Lib.tabData .u32 (kc.map fun x => (x.toNat : Int))) :: r) W) : KR W (fun k => ¬ (fun _ : Nat => False) k) := by
  have hT := Lib.tabIs_of_head (g := 18) (by kernel_rfl) (by kernel_rfl) (run_arrT Ty.arr_260) Ty.un_259 (by kernel_rfl) (by kernel_rfl) h
  refine ⟨fun i hi => ?_, id⟩
  have := World.var?_cell (g := 18) (by kernel_rfl) hT i
  rw [this]
  have hk : i < kc.length := hi
  simp only [List.map_map, List.getElem?_toArray, List.getElem?_map, List.getElem?_eq_getElem hk, Option.map_some]
  simp [W32, Kc, List.getD, List.getElem?_eq_getElem hk]
def RdLists (w : World) (A : Nat → Prop) (cs : List Value) (l : List (List UInt8)) : Prop := ∃ a n c, cs = [.slice a n c] ∧ n ≤ c ∧ RdList (RdBytes w A) w A 1 a n l
theorem RdLists.list {w : World} {A : Nat → Prop} {a : Option Addr} {n c : Nat} {l : List (List UInt8)} (h : RdLists w A [.slice a n c] l) : RdList (RdBytes w A) w A 1 a n l := by
  obtain ⟨a', n', c', e, _, hr⟩ := h
  injection e with e _
  injection e with e1 e2 e3
  subst e1; subst e2
  exact hr
section
variable {H : Type} {enc : TypeId × Value → H} {w : World} {base : Nat} {sp : Nat → Bool} {held : Bool}
end
end Go.Proofs.YtobjojeliibinaaGreatDoor

/- The shell, part M: the ops of layer 18. -/
namespace Go.Proofs.YtobjojeliibinaaGreatDoor
open Go
set_option linter.unusedVariables false
structure Op18 where
  kind : Int
  round : Int
  votes : Int
  spoil : Int
  tx : UInt8
  keep : List Bool
def RdOp18 (w : World) (A : Nat → Prop) (cs : List Value) (o : Op18) : Prop := ∃ a n c, cs = [.int .i64 o.kind, .int .i64 o.round, .int .i64 o.votes, .int .i64 o.spoil, B8 o.tx, .slice a n c] ∧ (Int64 o.kind ∧ Int64 o.round ∧ Int64 o.votes ∧ Int64 o.spoil) ∧ n ≤ c ∧ RdRow w A 1 a n (o.keep.map Value.bool)
theorem RdOp18.mv {w w' : World} {A A' : Nat → Prop} {cs : List Value} {o : Op18} (h : RdOp18 w A cs o) (hk : Still w A w' A') : RdOp18 w' A' cs o := by
  obtain ⟨a, n, c, h1, h2, h3, h4⟩ := h; exact ⟨a, n, c, h1, h2, h3, h4.mv hk⟩
section
variable {H : Type} {enc : TypeId × Value → H} {w : World} {base : Nat} {sp : Nat → Bool} {held : Bool}
theorem o_op18 : Opens enc Tryz.prog w base sp held 90 (RdOp18 w TT) := fun fuel cs x h => by
  have hl := opens_lenT (i := 0) (f := 3) (o := 0) (s := 6) (by kernel_rfl) (by kernel_rfl) h
  obtain ⟨n0, h0, i0⟩ := opens_fieldT (i := 0) (f := 3) (o := 0) (s := 1) (by kernel_rfl) (by kernel_rfl) (opens_i64 Ty.un_3) h
  obtain ⟨n1, h1, i1⟩ := opens_fieldT (i := 1) (f := 3) (o := 1) (s := 1) (by kernel_rfl) (by kernel_rfl) (opens_i64 Ty.un_3) h
  obtain ⟨n2, h2, i2⟩ := opens_fieldT (i := 2) (f := 3) (o := 2) (s := 1) (by kernel_rfl) (by kernel_rfl) (opens_i64 Ty.un_3) h
  obtain ⟨n3, h3, i3⟩ := opens_fieldT (i := 3) (f := 3) (o := 3) (s := 1) (by kernel_rfl) (by kernel_rfl) (opens_i64 Ty.un_3) h
  obtain ⟨n4, h4⟩ := opens_fieldT (i := 4) (f := 5) (o := 4) (s := 1) (by kernel_rfl) (by kernel_rfl) (opens_byte Ty.un_5) h
  obtain ⟨l5, a5, m5, c5, h5, k5, r5⟩ := opens_fieldT (i := 5) (f := 55) (o := 5) (s := 1) (by kernel_rfl) (by kernel_rfl) o_rbools h
  have e0 := seg cs 0 1
  have e1 := seg cs 1 1
  have e2 := seg cs 2 1
  have e3 := seg cs 3 1
  have e4 := seg cs 4 1
  have e5 := seg cs 5 1
  have ee := drop_all hl
  have e : cs = _ := (List.drop_zero (l := cs)).symm.trans e0
  simp only [Nat.reduceAdd, Nat.zero_add] at e e1 e2 e3 e4 e5
  rw [h0, e1, h1, e2, h2, e3, h3, e4, h4, e5, h5, ee] at e
  exact ⟨⟨n0, n1, n2, n3, n4, l5⟩, a5, m5, c5, e, ⟨i0, i1, i2, i3⟩, k5, r5⟩
def RdOps18 (w : World) (A : Nat → Prop) (cs : List Value) (l : List Op18) : Prop := ∃ a n c, cs = [.slice a n c] ∧ n ≤ c ∧ RdList (RdOp18 w A) w A 6 a n l
theorem o_ops18 : Opens enc Tryz.prog w base sp held 102 (RdOps18 w TT) := opens_slice (s := 6) Ty.sl_102 Ty.sz_90 (by decide) o_op18
theorem ops18_list {a : Option Addr} {n c : Nat} {l : List Op18} (h : RdOps18 w TT [.slice a n c] l) : RdList (RdOp18 w TT) w TT 6 a n l := by
  obtain ⟨a', n', c', e, _, hr⟩ := h
  injection e with e _
  injection e with e1 e2 e3
  subst e1; subst e2
  exact hr
end
end Go.Proofs.YtobjojeliibinaaGreatDoor

/- Plain words: what the writer of layer 9 makes of messages' parts. No program in sight. -/
namespace Go.Proofs.YtobjojeliibinaaGreatDoor
set_option linter.unusedVariables false

def wPut {α : Type} (wX : α → WS → WS) (l : List α) (most : Nat) (s : WS) : WS :=
  if most < l.length ∨ 255 < l.length then wFail 1 s else l.foldl (fun s x => wX x s) (wNum (l.length : Int) 1 s)
def wDig (d : Dig) (s : WS) : WS := wFix d.l s
def wBytes (b : List UInt8) (most : Nat) (s : WS) : WS := if most < b.length ∨ 65535 < b.length then wFail 1 s else wFix b (wNum (b.length : Int) 2 s)
def wSig (x : Sig) (s : WS) : WS := wPut wDig x.path 5 (wPut wDig x.chains 68 (wNum x.leaf 1 s))
def wSigned (x : Signed) (s : WS) : WS := wSig x.sig (wNum x.who 1 s)
def wAt (e r : Int) (s : WS) : WS := wNum r 6 (wNum e 4 s)
def wQC (q : QC) (s : WS) : WS := wPut wSigned q.votes 7 (wDig q.block (wAt q.epoch q.round s))
def wVdr (v : Vdr) (s : WS) : WS := wNum v.power 6 (wDig v.key s)
def wBlock (b : Block) (s : WS) : WS := wPut wVdr b.next 7 (wPut (fun t => wBytes t 16) b.payload 4 (wQC b.justify (wDig b.parent (wAt b.epoch b.round s))))

theorem wDig_len (d : Dig) (s : WS) : (wDig d s).bs.length ≤ s.bs.length + 16 := by have := wFix_len d.l s; rw [d.h] at this; exact this
theorem wFail_len (k : Nat) (s : WS) : (wFail k s).bs.length ≤ s.bs.length := by rw [wFail_bs]; omega
theorem foldl_len {α : Type} {wX : α → WS → WS} {c : Nat} (h : ∀ x s, (wX x s).bs.length ≤ s.bs.length + c) : ∀ (l : List α) (s : WS), (l.foldl (fun s x => wX x s) s).bs.length ≤ s.bs.length + l.length * c
  | [], s => by simp
  | x :: l, s => by
    have h1 := h x s
    have h2 := foldl_len h l (wX x s)
    simp only [List.foldl_cons, List.length_cons, Nat.add_mul, Nat.one_mul] at h2 ⊢
    omega
theorem wPut_len {α : Type} {wX : α → WS → WS} {c : Nat} (h : ∀ x s, (wX x s).bs.length ≤ s.bs.length + c) (l : List α) (most : Nat) (s : WS) : (wPut wX l most s).bs.length ≤ s.bs.length + (1 + most * c) := by
  unfold wPut; split
  · have := wFail_len 1 s; omega
  · rename_i hh
    have h1 := foldl_len h l (wNum (l.length : Int) 1 s)
    have h2 := wNum_len (l.length : Int) 1 s
    have h3 : l.length * c ≤ most * c := Nat.mul_le_mul_right _ (by omega)
    omega
theorem wBytes_len (b : List UInt8) (most : Nat) (s : WS) : (wBytes b most s).bs.length ≤ s.bs.length + (2 + most) := by
  unfold wBytes; split
  · have := wFail_len 1 s; omega
  · have h1 := wFix_len b (wNum (b.length : Int) 2 s); have h2 := wNum_len (b.length : Int) 2 s; omega
theorem wSig_len (x : Sig) (s : WS) : (wSig x s).bs.length ≤ s.bs.length + 1171 := by
  have h1 := wNum_len x.leaf 1 s
  have h2 := wPut_len wDig_len x.chains 68 (wNum x.leaf 1 s)
  have h3 := wPut_len wDig_len x.path 5 (wPut wDig x.chains 68 (wNum x.leaf 1 s))
  unfold wSig; omega
theorem wSigned_len (x : Signed) (s : WS) : (wSigned x s).bs.length ≤ s.bs.length + 1172 := by
  have h1 := wNum_len x.who 1 s; have h2 := wSig_len x.sig (wNum x.who 1 s); unfold wSigned; omega
theorem wAt_len (e r : Int) (s : WS) : (wAt e r s).bs.length ≤ s.bs.length + 10 := by
  have h1 := wNum_len e 4 s; have h2 := wNum_len r 6 (wNum e 4 s); unfold wAt; omega
theorem wQC_len (q : QC) (s : WS) : (wQC q s).bs.length ≤ s.bs.length + 8231 := by
  have h1 := wAt_len q.epoch q.round s; have h2 := wDig_len q.block (wAt q.epoch q.round s); have h3 := wPut_len wSigned_len q.votes 7 (wDig q.block (wAt q.epoch q.round s)); unfold wQC; omega
theorem wVdr_len (v : Vdr) (s : WS) : (wVdr v s).bs.length ≤ s.bs.length + 22 := by
  have h1 := wDig_len v.key s; have h2 := wNum_len v.power 6 (wDig v.key s); unfold wVdr; omega
theorem wBlock_len (b : Block) (s : WS) : (wBlock b s).bs.length ≤ s.bs.length + 8485 := by
  have h1 := wAt_len b.epoch b.round s; have h2 := wDig_len b.parent (wAt b.epoch b.round s); have h3 := wQC_len b.justify (wDig b.parent (wAt b.epoch b.round s))
  have h4 := wPut_len (wX := fun t => wBytes t 16) (c := 18) (fun x s => wBytes_len x 16 s) b.payload 4 (wQC b.justify (wDig b.parent (wAt b.epoch b.round s)))
  have h5 := wPut_len wVdr_len b.next 7 (wPut (fun t => wBytes t 16) b.payload 4 (wQC b.justify (wDig b.parent (wAt b.epoch b.round s))))
  unfold wBlock; omega
theorem foldl_take_succ {α β : Type} (f : β → α → β) (l : List α) (s : β) {k : Nat} {x : α} (h : l[k]? = some x) : (l.take (k + 1)).foldl f s = f ((l.take k).foldl f s) x := by
  have hk : k < l.length := (List.getElem?_eq_some_iff.1 h).1
  rw [List.take_add_one, h]
  simp
end Go.Proofs.YtobjojeliibinaaGreatDoor

/- Walks, by program (wg.py) out of a spec. -/
namespace Go.Proofs.YtobjojeliibinaaGreatDoor
open Go
set_option linter.unusedVariables false
set_option linter.unusedSimpArgs false


theorem put_bound {α : Type} {wX : α → WS → WS} {c M : Nat} (h : ∀ x s, (wX x s).bs.length ≤ s.bs.length + c) {l : List α} {s : WS} {most k : Nat} (hk : k < l.length) (hm : l.length ≤ most) (hb : s.bs.length + (1 + most * c) ≤ M) :
    ((l.take k).foldl (fun s x => wX x s) (wNum (l.length : Int) 1 s)).bs.length + c ≤ M := by
  have h1 := foldl_len h (l.take k) (wNum (l.length : Int) 1 s)
  have h2 := wNum_len (l.length : Int) 1 s
  have h3 : (l.take k).length = k := by rw [List.length_take]; omega
  have h4 : (k + 1) * c ≤ most * c := Nat.mul_le_mul_right _ (by omega)
  rw [h3] at h1
  rw [Nat.add_mul, Nat.one_mul] at h4
  omega

attribute [local irreducible] Gl Gc Gx Gs Runs Wt

set_option maxHeartbeats 400000 in
theorem digest_ok {w : World} {F : Nat → Prop} {g TE : Nat} {ea : Nat → Addr} {s : WS} {d : Dig} (h : stars [WrR TE ea g s] w F) {es : List Nat} [Has es 1] (hE : GErr es w (fun k => ¬ F k) TE ea) (hb : s.bs.length + 16 ≤ 1099511627776) :
    Calls Tryz.prog 160 #[.agg (List.toArray [.pointer (some ⟨g, 0, none⟩)]), .agg (dc d).toArray] w (Post w F (fun _ : Unit => .tuple #[]) (fun _ => [WrR TE ea g (wDig d s)])) := by
  refine g_enter (env := [(0, .agg (List.toArray [.pointer (some ⟨g, 0, none⟩)])), (1, .agg (dc d).toArray)]) Tryz.func160 rfl h Tryz.ntmps160 rfl rfl ?_
  refine gsr ?_
  refine zbN fun b2 => ?_
  refine zbN fun b3 => ?_
  refine gnt ?_
  refine gc_regionT 3 (by kernel_rfl) (by kernel_rfl) ?_
  refine sp zfa ?_
  refine sp zl ?_
  refine sp (r_slice_arr (l := 0) (h := 16) rfl Ty.arr_23 Ty.sz_5 rfl rfl (by decide) (by decide) (by decide)) ?_
  refine gs_nil ?_
  refine zc (fun _ => ?_) (c := fun w1 F1 F2 h1 h2 hd hst => fixed_ok (b := d.l) h1 (rd_blk h2 hd (by repeat (first | exact Pick.here | apply Pick.there)) (by have := d.h; simp only [dc, List.drop_zero]; exact List.take_of_length_le (by simp [this])) (by simp [d.h]) (by decide)) hb)
  refine gl_nil ?_
  refine gx_ret0' rfl ?_
  exact ze ()

set_option maxHeartbeats 400000 in
theorem putDigest_ok {w : World} {F : Nat → Prop} {g TE : Nat} {ea : Nat → Addr} {s : WS} {d : Dig} (h : stars [WrR TE ea g s] w F) {es : List Nat} [Has es 1] (hE : GErr es w (fun k => ¬ F k) TE ea) (hb : s.bs.length + 16 ≤ 1099511627776) :
    Calls Tryz.prog 166 #[.pointer (some ⟨g, 0, none⟩), .agg (dc d).toArray] w (Post w F (fun _ : Unit => .tuple #[]) (fun _ => [WrR TE ea g (wDig d s)])) := by
  refine g_enter (env := [(0, .pointer (some ⟨g, 0, none⟩)), (1, .agg (dc d).toArray)]) Tryz.func166 rfl h Tryz.ntmps166 rfl rfl ?_
  refine gsr ?_
  refine zbN fun b3 => ?_
  refine gnt ?_
  refine gc_region ?_
  refine gp zmv ?_
  refine gp zbu ?_
  refine gp zL ?_
  refine zc (fun _ => ?_) (c := fun w1 F1 F2 h1 h2 hd hst => digest_ok h1 (hE.mv hst.still) hb)
  refine gl_nil ?_
  refine gx_ret0' rfl ?_
  exact ze ()

set_option maxHeartbeats 400000 in
theorem at_ok {w : World} {F : Nat → Prop} {g TE : Nat} {ea : Nat → Addr} {s : WS} {e r : Int} (h : stars [WrR TE ea g s] w F) {es : List Nat} [Has es 1] (hE : GErr es w (fun k => ¬ F k) TE ea) (hb : s.bs.length + 10 ≤ 1099511627776) :
    Calls Tryz.prog 159 #[.agg (List.toArray [.pointer (some ⟨g, 0, none⟩)]), .int .i64 e, .int .i64 r] w (Post w F (fun _ : Unit => .tuple #[]) (fun _ => [WrR TE ea g (wAt e r s)])) := by
  refine g_enter (env := [(0, .agg (List.toArray [.pointer (some ⟨g, 0, none⟩)])), (1, .int .i64 e), (2, .int .i64 r)]) Tryz.func159 rfl h Tryz.ntmps159 rfl rfl ?_
  refine gsr ?_
  refine zbN fun b3 => ?_
  refine gnt ?_
  refine gsr ?_
  refine gp zfa ?_
  refine gp zl ?_
  refine gp zmv ?_
  refine zc (fun _ => ?_) (c := fun w1 F1 F2 h1 h2 hd hst => number_ok (wd := 4) h1 (hE.mv hst.still) (by decide) (by decide) (by omega))
  refine gnt ?_
  refine gc_region ?_
  refine gp zfa ?_
  refine gp zl ?_
  refine gp zmv ?_
  refine zc (fun _ => ?_) (c := fun w1 F1 F2 h1 h2 hd hst => number_ok (wd := 6) h1 (hE.mv hst.still) (by decide) (by decide) (by have := wNum_len e 4 s; omega))
  refine gl_nil ?_
  refine gx_ret0' rfl ?_
  exact ze ()

set_option maxHeartbeats 400000 in
theorem wbytes_big {w : World} {F : Nat → Prop} {g TE : Nat} {ea : Nat → Addr} {s : WS} {n c : Nat} {a : Option Addr} {b : List UInt8} {most : Nat} (h : stars [WrR TE ea g s] w F) {es : List Nat} [Has es 1] (hE : GErr es w (fun k => ¬ F k) TE ea) (hx : RdRow w (fun k => ¬ F k) 1 a n (b.map B8)) (hm : most ≤ 65535) (hn : most < n) :
    Calls Tryz.prog 132 #[.pointer (some ⟨g, 0, none⟩), .slice a n c, .int .i64 (most : Int)] w (Post w F (fun _ : Unit => .tuple #[]) (fun _ => [WrR TE ea g (wFail 1 s)])) := by
  obtain ⟨a0, c0, h'⟩ := wr_open h
  refine g_enter (env := [(0, .pointer (some ⟨g, 0, none⟩)), (1, .slice a n c), (2, .int .i64 (most : Int))]) Tryz.func132 rfl h' Tryz.ntmps132 rfl rfl ?_
  refine gc_seq ?_
  refine gsr ?_
  refine gp zmv ?_
  refine gp zln ?_
  refine gp zmv ?_
  refine gp (r_bool (r_gtr rfl rfl) (decide_eq_true (by omega))) ?_
  refine gp zmv ?_
  refine gn ?_
  refine gn ?_
  refine gn ?_
  refine gp zpk ?_
  refine gnt ?_
  refine gc_condT rfl rfl ?_
  refine gc_seq ?_
  refine gc_regionT 4 (by kernel_rfl) (by kernel_rfl) ?_
  refine sp zmv ?_
  refine sp znc ?_
  refine sp zfa ?_
  refine sp (r_ld1o rfl Ty.row_38 (hE.c 1 Has.h) (hE.n 1 Has.h)) ?_
  refine gs_nil ?_
  refine zc (fun _ => ?_) (c := fun w1 F1 F2 h1 h2 hd hst => fail_ok h1)
  refine gnt ?_
  refine gc_ret ?_
  refine gx_then_ret ?_
  refine gx_ret0 rfl ?_
  exact fun w' hw => ⟨(), rfl, by rw [wFail]; by_cases he : s.err = 0 <;> simp only [he, if_true, if_false, ite_true, ite_false] at hw ⊢ <;> exact St.wr (hw.sel (by repeat (first | exact Sel.nil | (apply Sel.cons; · (repeat (first | exact Pick.here | apply Pick.there)))))) (by simp [he]) rfl rfl⟩

set_option maxHeartbeats 400000 in
theorem wbytes_fit {w : World} {F : Nat → Prop} {g TE : Nat} {ea : Nat → Addr} {s : WS} {n c : Nat} {a : Option Addr} {b : List UInt8} {most : Nat} (h : stars [WrR TE ea g s] w F) {es : List Nat} [Has es 1] (hE : GErr es w (fun k => ¬ F k) TE ea) (hx : RdRow w (fun k => ¬ F k) 1 a n (b.map B8)) (hm : most ≤ 65535) (hn : n ≤ most) (hb : s.bs.length + (2 + most) ≤ 1099511627776) :
    Calls Tryz.prog 132 #[.pointer (some ⟨g, 0, none⟩), .slice a n c, .int .i64 (most : Int)] w (Post w F (fun _ : Unit => .tuple #[]) (fun _ => [WrR TE ea g (wFix b (wNum (b.length : Int) 2 s))])) := by
  have hnb : n = b.length := by have := hx.1; simp at this; omega
  refine g_enter (env := [(0, .pointer (some ⟨g, 0, none⟩)), (1, .slice a n c), (2, .int .i64 (most : Int))]) Tryz.func132 rfl h Tryz.ntmps132 rfl rfl ?_
  refine gc_seq ?_
  refine gsr ?_
  refine gp zmv ?_
  refine gp zln ?_
  refine gp zmv ?_
  refine gp (r_bool (r_gtr rfl rfl) (decide_eq_false (by omega))) ?_
  refine gp zmv ?_
  refine gq zmv ?_
  refine gq zln ?_
  refine gq (r_bool (r_gtr rfl rfl) (decide_eq_false (by omega))) ?_
  refine gp zpk ?_
  refine gnt ?_
  refine gc_condF rfl rfl ?_
  refine gc_skip ?_
  refine gx_then ?_
  refine gsr ?_
  refine gp zmv ?_
  refine gp zmv ?_
  refine gp zln ?_
  refine zc (fun _ => ?_) (c := fun w1 F1 F2 h1 h2 hd hst => number_ok (wd := 2) h1 (hE.mv hst.still) (by decide) (by decide) (by omega))
  refine gnt ?_
  refine gc_region ?_
  refine gp zmv ?_
  refine gp zmv ?_
  refine zc (fun _ => ?_) (c := fun w1 F1 F2 h1 h2 hd hst => fixed_ok h1 (hx.mv hst.still) (by have := wNum_len n 2 s; omega))
  refine gl_nil ?_
  refine gx_ret0' rfl ?_
  rw [← hnb]
  exact ze ()


theorem wbytes_ok {w : World} {F : Nat → Prop} {g TE : Nat} {ea : Nat → Addr} {s : WS} {n c : Nat} {a : Option Addr} {b : List UInt8} {most : Nat} (h : stars [WrR TE ea g s] w F) {es : List Nat} [Has es 1] (hE : GErr es w (fun k => ¬ F k) TE ea) (hx : RdRow w (fun k => ¬ F k) 1 a n (b.map B8)) (hm : most ≤ 65535) (hb : s.bs.length + (2 + most) ≤ 1099511627776) :
    Calls Tryz.prog 132 #[.pointer (some ⟨g, 0, none⟩), .slice a n c, .int .i64 (most : Int)] w (Post w F (fun _ : Unit => .tuple #[]) (fun _ => [WrR TE ea g (wBytes b most s)])) := by
  have hnb : n = b.length := by have := hx.1; simp at this; omega
  unfold wBytes
  by_cases hn : most < n
  · rw [if_pos (.inl (by omega))]; exact wbytes_big h hE hx hm hn
  · rw [if_neg (by omega)]; exact wbytes_fit h hE hx hm (by omega) hb

set_option maxHeartbeats 400000 in
theorem putDigs_big {w : World} {F : Nat → Prop} {g TE : Nat} {ea : Nat → Addr} {s : WS} {n c : Nat} {a : Option Addr} {l : List Dig} {most : Nat} (h : stars [WrR TE ea g s] w F) {es : List Nat} [Has es 1] (hE : GErr es w (fun k => ¬ F k) TE ea) (hl : RdList (RdDig) w (fun k => ¬ F k) 16 a n l) (hm : most ≤ 255) (hn : most < n) :
    Calls Tryz.prog 211 #[.pointer (some ⟨g, 0, none⟩), .slice a n c, .int .i64 (most : Int), .func (.func 166) #[] #[]] w (Post w F (fun _ : Unit => .tuple #[]) (fun _ => [WrR TE ea g (wFail 1 s)])) := by
  obtain ⟨a0, c0, h'⟩ := wr_open h
  refine g_enter (env := [(0, .pointer (some ⟨g, 0, none⟩)), (1, .slice a n c), (2, .int .i64 (most : Int)), (3, .func (.func 166) #[] #[])]) Tryz.func211 rfl h' Tryz.ntmps211 rfl rfl ?_
  refine gc_seq ?_
  refine gsr ?_
  refine gp zmv ?_
  refine gp zln ?_
  refine gp zmv ?_
  refine gp (r_bool (r_gtr rfl rfl) (decide_eq_true (by omega))) ?_
  refine gp zmv ?_
  refine gn ?_
  refine gn ?_
  refine gn ?_
  refine gp zpk ?_
  refine gnt ?_
  refine gc_condT rfl rfl ?_
  refine gc_seq ?_
  refine gc_regionT 4 (by kernel_rfl) (by kernel_rfl) ?_
  refine sp zmv ?_
  refine sp znc ?_
  refine sp zfa ?_
  refine sp (r_ld1o rfl Ty.row_38 (hE.c 1 Has.h) (hE.n 1 Has.h)) ?_
  refine gs_nil ?_
  refine zc (fun _ => ?_) (c := fun w1 F1 F2 h1 h2 hd hst => fail_ok h1)
  refine gnt ?_
  refine gc_ret ?_
  refine gx_then_ret ?_
  refine gx_ret0 rfl ?_
  exact fun w' hw => ⟨(), rfl, by rw [wFail]; by_cases he : s.err = 0 <;> simp only [he, if_true, if_false, ite_true, ite_false] at hw ⊢ <;> exact St.wr (hw.sel (by repeat (first | exact Sel.nil | (apply Sel.cons; · (repeat (first | exact Pick.here | apply Pick.there)))))) (by simp [he]) rfl rfl⟩

set_option maxHeartbeats 400000 in
theorem putDigs_fit {w : World} {F : Nat → Prop} {g TE : Nat} {ea : Nat → Addr} {s : WS} {n c : Nat} {a : Option Addr} {l : List Dig} {most : Nat} (h : stars [WrR TE ea g s] w F) {es : List Nat} [Has es 1] (hE : GErr es w (fun k => ¬ F k) TE ea) (hl : RdList (RdDig) w (fun k => ¬ F k) 16 a n l) (hm : most ≤ 255) (hn : n ≤ most) (hb : s.bs.length + (1 + most * 16) ≤ 1099511627776) :
    Calls Tryz.prog 211 #[.pointer (some ⟨g, 0, none⟩), .slice a n c, .int .i64 (most : Int), .func (.func 166) #[] #[]] w (Post w F (fun _ : Unit => .tuple #[]) (fun _ => [WrR TE ea g (l.foldl (fun s x => wDig x s) (wNum (l.length : Int) 1 s))])) := by
  have hnl := hl.len (by decide)
  refine g_enter (env := [(0, .pointer (some ⟨g, 0, none⟩)), (1, .slice a n c), (2, .int .i64 (most : Int)), (3, .func (.func 166) #[] #[])]) Tryz.func211 rfl h Tryz.ntmps211 rfl rfl ?_
  refine gc_seq ?_
  refine gsr ?_
  refine gp zmv ?_
  refine gp zln ?_
  refine gp zmv ?_
  refine gp (r_bool (r_gtr rfl rfl) (decide_eq_false (by omega))) ?_
  refine gp zmv ?_
  refine gq zmv ?_
  refine gq zln ?_
  refine gq (r_bool (r_gtr rfl rfl) (decide_eq_false (by omega))) ?_
  refine gp zpk ?_
  refine gnt ?_
  refine gc_condF rfl rfl ?_
  refine gc_skip ?_
  refine gx_then ?_
  refine gsr ?_
  refine gp zmv ?_
  refine gp zmv ?_
  refine gp zln ?_
  refine zc (fun _ => ?_) (c := fun w1 F1 F2 h1 h2 hd hst => number_ok (wd := 1) h1 (hE.mv hst.still) (by decide) (by decide) (by omega))
  refine gnt ?_
  refine gsr ?_
  refine gp zmv ?_
  refine gp zln ?_
  refine gp zmv ?_
  refine gnt ?_
  refine gc_block ?_
  refine gc_loop (α := Nat) (fun k => [pureR (k ≤ n), WrR TE ea g ((l.take k).foldl (fun s x => wDig x s) (wNum (l.length : Int) 1 s))]) (fun k => [(30, .int .i64 (k : Int))]) [9, 31, 32, 33, 34, 35, 36, 37, 38] (fun k => n - k) 0 ?_ ?_ ?_
  · refine env_start (by kernel_rfl)
  · rintro w' hw
    obtain ⟨F', hF', hst'⟩ := hw.sel (M := [WrR TE ea g (wNum (n : Int) 1 s)]) (by repeat (first | exact Sel.nil | (apply Sel.cons; · (repeat (first | exact Pick.here | apply Pick.there)))))
    rw [hnl] at hF'
    exact ⟨F', stars_pure_mk (Nat.zero_le _) hF', hst'⟩
  · intro k u
    refine gc_pureR (fun hk => ?_)
    replace hk : k ≤ n := hk
    refine gsr ?_
    refine gp zlt ?_
    refine gnt ?_
    refine gc_seq ?_
    refine gif rfl (fun hc31 => ?_) (fun hc31 => ?_)
    · have hk' : k < n := by (try simp only at hc31); omega
      obtain ⟨ga, o, cs, y, ha, hA, hg, hra, hcl, hly, hrd⟩ := hl.elem (by decide) hk'
      subst ha
      unfold RdDig at hrd
      subst hrd
      refine gc_skip ?_
      refine gx_then ?_
      refine gc_seq ?_
      refine gc_block ?_
      refine gsr ?_
      refine gp (r_indexAddr_slice rfl rfl Ty.sl_52 Ty.sz_23 (by omega) (by omega)) ?_
      refine gp (r_ldNo rfl Ty.row_23 Ty.sz_23 hra hcl (by decide) hA) ?_
      refine zal fun b9 => ?_
      refine gl_storeN (wt0 rfl) rfl rfl Ty.sz_23 hcl (by repeat (first | exact Pick.here | apply Pick.there)) (by first | rfl | (simp only [List.drop_succ_cons, List.drop_zero, List.take_succ_cons, List.take_zero, List.cons_append, List.nil_append, List.append_assoc, drop_dc, drop_dc', take_dc, take_dc', drop_L, drop_L', take_L, take_L', len_L, Nat.reduceLeDiff, Nat.reduceSub, Nat.reduceAdd, Nat.le_refl, List.length_cons, List.length_append, List.length_nil, dc_length, List.drop_nil, List.take_nil, List.append_nil, List.length_map, List.length_replicate, zD_length]; first | done | omega)) (dc_one _) (updL_all (by rw [hcl]; first | rfl | (simp only [List.drop_succ_cons, List.drop_zero, List.take_succ_cons, List.take_zero, List.cons_append, List.nil_append, List.append_assoc, drop_dc, drop_dc', take_dc, take_dc', drop_L, drop_L', take_L, take_L', len_L, Nat.reduceLeDiff, Nat.reduceSub, Nat.reduceAdd, Nat.le_refl, List.length_cons, List.length_append, List.length_nil, dc_length, List.drop_nil, List.take_nil, List.append_nil, List.length_map, List.length_replicate, zD_length]))) ?_
      refine gnt ?_
      refine gc_region ?_
      refine gp zmv ?_
      refine gp zmv ?_
      refine gp (r_ldN rfl Ty.row_23 Ty.sz_23 (by repeat (first | exact Pick.here | apply Pick.there)) (seg_all hcl) hcl) ?_
      refine gl_call (wt0 rfl) (e_callv (us := []) rfl Ty.call_166 rfl) (by repeat (first | exact Sel.nil | (apply Sel.cons; · (repeat (first | exact Pick.here | apply Pick.there))))) (fun w1 F1 F2 h1 h2 hd hst => putDigest_ok h1 (hE.mv hst.still)  (put_bound wDig_len (by omega) (by omega) hb)) ?_
      intro _
      refine gl_nil ?_
      refine gx_block_normal ?_
      refine gx_then ?_
      refine gc_region ?_
      refine gp (r_arith (op := .add) rfl rfl (wrap_i64 (by omega) (by omega))) ?_
      refine gp zmv ?_
      refine gl_nil ?_
      refine zrd (k + 1) ?_ ?_
      · show n - (k + 1) < n - k
        omega
      · rintro w' hw
        obtain ⟨F', hF', hst'⟩ := hw.sel (M := [WrR TE ea g _]) (by repeat (first | exact Sel.nil | (apply Sel.cons; · (repeat (first | exact Pick.here | apply Pick.there)))))
        refine ⟨F', stars_pure_mk (show k + 1 ≤ n by omega) ?_, hst'⟩
        rw [foldl_take_succ _ _ _ hly]
        exact hF'
    · have hk' : k = l.length := by (try simp only at hc31); omega
      subst hk'
      refine gc_exit ?_
      refine gx_then_exit ?_
      refine gx_round_exit ?_
      refine gx_block_hit ?_
      refine gx_ret0' rfl ?_
      rw [List.take_length]
      exact ze ()


theorem putDigs_ok {w : World} {F : Nat → Prop} {g TE : Nat} {ea : Nat → Addr} {s : WS} {n c : Nat} {a : Option Addr} {l : List Dig} {most : Nat} (h : stars [WrR TE ea g s] w F) {es : List Nat} [Has es 1] (hE : GErr es w (fun k => ¬ F k) TE ea) (hl : RdList (RdDig) w (fun k => ¬ F k) 16 a n l) (hm : most ≤ 255) (hb : s.bs.length + (1 + most * 16) ≤ 1099511627776) :
    Calls Tryz.prog 211 #[.pointer (some ⟨g, 0, none⟩), .slice a n c, .int .i64 (most : Int), .func (.func 166) #[] #[]] w (Post w F (fun _ : Unit => .tuple #[]) (fun _ => [WrR TE ea g (wPut (wDig) l most s)])) := by
  have hnl := hl.len (by decide)
  unfold wPut
  by_cases hn : most < n
  · rw [if_pos (.inl (by omega))]; exact putDigs_big h hE hl hm hn
  · rw [if_neg (by omega)]; exact putDigs_fit h hE hl hm (by omega) hb

end Go.Proofs.YtobjojeliibinaaGreatDoor

/- Walks, by program (wg.py) out of a spec. -/
namespace Go.Proofs.YtobjojeliibinaaGreatDoor
open Go
set_option linter.unusedVariables false
set_option linter.unusedSimpArgs false

attribute [local irreducible] Gl Gc Gx Gs Runs Wt

set_option maxHeartbeats 400000 in
theorem sig_ok {w : World} {F : Nat → Prop} {g TE : Nat} {ea : Nat → Addr} {s : WS} {cs : List Value} {x : Sig} (h : stars [WrR TE ea g s] w F) {es : List Nat} [Has es 1] (hE : GErr es w (fun k => ¬ F k) TE ea) (hx : RdSig w (fun k => ¬ F k) cs x) (hb : s.bs.length + 1171 ≤ 1099511627776) :
    Calls Tryz.prog 205 #[.agg (List.toArray [.pointer (some ⟨g, 0, none⟩)]), .agg cs.toArray] w (Post w F (fun _ : Unit => .tuple #[]) (fun _ => [WrR TE ea g (wSig x s)])) := by
  obtain ⟨a1, n1, c1, a2, n2, c2, rfl, hk1, hk2, hd1, hd2⟩ := hx
  refine g_enter (env := [(0, .agg (List.toArray [.pointer (some ⟨g, 0, none⟩)])), (1, .agg (List.toArray ([.int .i64 x.leaf, .slice a1 n1 c1, .slice a2 n2 c2])))]) Tryz.func205 rfl h Tryz.ntmps205 rfl rfl ?_
  refine gsr ?_
  refine zbN fun b2 => ?_
  refine zbN fun b3 => ?_
  refine gnt ?_
  refine gsr ?_
  refine gp zfa ?_
  refine gp zl ?_
  refine gp zfa ?_
  refine gp zl ?_
  refine zc (fun _ => ?_) (c := fun w1 F1 F2 h1 h2 hd hst => number_ok (wd := 1) h1 (hE.mv hst.still) (by decide) (by decide) (by omega))
  refine gnt ?_
  refine gsr ?_
  refine gp zfa ?_
  refine gp zl ?_
  refine gp zfa ?_
  refine gp zl ?_
  refine zc (fun _ => ?_) (c := fun w1 F1 F2 h1 h2 hd hst => putDigs_ok (most := 68) h1 (hE.mv hst.still) (hd1.mv hst.still) (by decide) (by have e0 := wNum_len x.leaf 1 s; omega))
  refine gnt ?_
  refine gc_region ?_
  refine gp zfa ?_
  refine gp zl ?_
  refine gp zfa ?_
  refine gp zl ?_
  refine zc (fun _ => ?_) (c := fun w1 F1 F2 h1 h2 hd hst => putDigs_ok (most := 5) h1 (hE.mv hst.still) (hd2.mv hst.still) (by decide) (by have e0 := wNum_len x.leaf 1 s; have e1 := wPut_len wDig_len x.chains 68 (wNum x.leaf 1 s); omega))
  refine gl_nil ?_
  refine gx_ret0' rfl ?_
  exact ze ()

set_option maxHeartbeats 400000 in
theorem signed_ok {w : World} {F : Nat → Prop} {g TE : Nat} {ea : Nat → Addr} {s : WS} {cs : List Value} {x : Signed} (h : stars [WrR TE ea g s] w F) {es : List Nat} [Has es 1] (hE : GErr es w (fun k => ¬ F k) TE ea) (hx : RdSigned w (fun k => ¬ F k) cs x) (hb : s.bs.length + 1172 ≤ 1099511627776) :
    Calls Tryz.prog 193 #[.agg (List.toArray [.pointer (some ⟨g, 0, none⟩)]), .agg cs.toArray] w (Post w F (fun _ : Unit => .tuple #[]) (fun _ => [WrR TE ea g (wSigned x s)])) := by
  obtain ⟨ss, rfl, hs⟩ := hx
  have hl := hs.len
  have z_hl := Len.of hl
  refine g_enter (env := [(0, .agg (List.toArray [.pointer (some ⟨g, 0, none⟩)])), (1, .agg (List.toArray (.int .i64 x.who :: ss)))]) Tryz.func193 rfl h Tryz.ntmps193 rfl rfl ?_
  refine gsr ?_
  refine zbN fun b2 => ?_
  refine zbN fun b3 => ?_
  refine gnt ?_
  refine gsr ?_
  refine gp zfa ?_
  refine gp zl ?_
  refine gp zfa ?_
  refine gp zl ?_
  refine zc (fun _ => ?_) (c := fun w1 F1 F2 h1 h2 hd hst => number_ok (wd := 1) h1 (hE.mv hst.still) (by decide) (by decide) (by omega))
  refine gnt ?_
  refine gc_region ?_
  refine gp zL ?_
  refine gp zfa ?_
  refine gp zL ?_
  refine zc (fun _ => ?_) (c := fun w1 F1 F2 h1 h2 hd hst => sig_ok h1 (hE.mv hst.still) (hs.mv hst.still) (by have e0 := wNum_len x.who 1 s; omega))
  refine gl_nil ?_
  refine gx_ret0' rfl ?_
  exact ze ()

set_option maxHeartbeats 400000 in
theorem qc1_ok {w : World} {F : Nat → Prop} {g TE : Nat} {ea : Nat → Addr} {s : WS} {cs : List Value} {x : Signed} (h : stars [WrR TE ea g s] w F) {es : List Nat} [Has es 1] (hE : GErr es w (fun k => ¬ F k) TE ea) (hx : RdSigned w (fun k => ¬ F k) cs x) (hb : s.bs.length + 1172 ≤ 1099511627776) :
    Calls Tryz.prog 192 #[.pointer (some ⟨g, 0, none⟩), .agg cs.toArray] w (Post w F (fun _ : Unit => .tuple #[]) (fun _ => [WrR TE ea g (wSigned x s)])) := by
  have hl := hx.len
  refine g_enter (env := [(0, .pointer (some ⟨g, 0, none⟩)), (1, .agg cs.toArray)]) Tryz.func192 rfl h Tryz.ntmps192 rfl rfl ?_
  refine gsr ?_
  refine zbN fun b3 => ?_
  refine gnt ?_
  refine gc_region ?_
  refine gp zmv ?_
  refine gp zbu ?_
  refine gp (r_ldN rfl Ty.row_140 Ty.sz_140 (by repeat (first | exact Pick.here | apply Pick.there)) (seg_all hl) hl) ?_
  refine zc (fun _ => ?_) (c := fun w1 F1 F2 h1 h2 hd hst => signed_ok h1 (hE.mv hst.still) (hx.mv hst.still) hb)
  refine gl_nil ?_
  refine gx_ret0' rfl ?_
  exact ze ()

set_option maxHeartbeats 400000 in
theorem putSigneds_big {w : World} {F : Nat → Prop} {g TE : Nat} {ea : Nat → Addr} {s : WS} {n c : Nat} {a : Option Addr} {l : List Signed} {most : Nat} (h : stars [WrR TE ea g s] w F) {es : List Nat} [Has es 1] (hE : GErr es w (fun k => ¬ F k) TE ea) (hl : RdList (RdSigned w (fun k => ¬ F k)) w (fun k => ¬ F k) 4 a n l) (hm : most ≤ 255) (hn : most < n) :
    Calls Tryz.prog 191 #[.pointer (some ⟨g, 0, none⟩), .slice a n c, .int .i64 (most : Int), .func (.func 192) #[] #[]] w (Post w F (fun _ : Unit => .tuple #[]) (fun _ => [WrR TE ea g (wFail 1 s)])) := by
  obtain ⟨a0, c0, h'⟩ := wr_open h
  refine g_enter (env := [(0, .pointer (some ⟨g, 0, none⟩)), (1, .slice a n c), (2, .int .i64 (most : Int)), (3, .func (.func 192) #[] #[])]) Tryz.func191 rfl h' Tryz.ntmps191 rfl rfl ?_
  refine gc_seq ?_
  refine gsr ?_
  refine gp zmv ?_
  refine gp zln ?_
  refine gp zmv ?_
  refine gp (r_bool (r_gtr rfl rfl) (decide_eq_true (by omega))) ?_
  refine gp zmv ?_
  refine gn ?_
  refine gn ?_
  refine gn ?_
  refine gp zpk ?_
  refine gnt ?_
  refine gc_condT rfl rfl ?_
  refine gc_seq ?_
  refine gc_regionT 4 (by kernel_rfl) (by kernel_rfl) ?_
  refine sp zmv ?_
  refine sp znc ?_
  refine sp zfa ?_
  refine sp (r_ld1o rfl Ty.row_38 (hE.c 1 Has.h) (hE.n 1 Has.h)) ?_
  refine gs_nil ?_
  refine zc (fun _ => ?_) (c := fun w1 F1 F2 h1 h2 hd hst => fail_ok h1)
  refine gnt ?_
  refine gc_ret ?_
  refine gx_then_ret ?_
  refine gx_ret0 rfl ?_
  exact fun w' hw => ⟨(), rfl, by rw [wFail]; by_cases he : s.err = 0 <;> simp only [he, if_true, if_false, ite_true, ite_false] at hw ⊢ <;> exact St.wr (hw.sel (by repeat (first | exact Sel.nil | (apply Sel.cons; · (repeat (first | exact Pick.here | apply Pick.there)))))) (by simp [he]) rfl rfl⟩

set_option maxHeartbeats 400000 in
theorem putSigneds_fit {w : World} {F : Nat → Prop} {g TE : Nat} {ea : Nat → Addr} {s : WS} {n c : Nat} {a : Option Addr} {l : List Signed} {most : Nat} (h : stars [WrR TE ea g s] w F) {es : List Nat} [Has es 1] (hE : GErr es w (fun k => ¬ F k) TE ea) (hl : RdList (RdSigned w (fun k => ¬ F k)) w (fun k => ¬ F k) 4 a n l) (hm : most ≤ 255) (hn : n ≤ most) (hb : s.bs.length + (1 + most * 1172) ≤ 1099511627776) :
    Calls Tryz.prog 191 #[.pointer (some ⟨g, 0, none⟩), .slice a n c, .int .i64 (most : Int), .func (.func 192) #[] #[]] w (Post w F (fun _ : Unit => .tuple #[]) (fun _ => [WrR TE ea g (l.foldl (fun s x => wSigned x s) (wNum (l.length : Int) 1 s))])) := by
  have hnl := hl.len (by decide)
  refine g_enter (env := [(0, .pointer (some ⟨g, 0, none⟩)), (1, .slice a n c), (2, .int .i64 (most : Int)), (3, .func (.func 192) #[] #[])]) Tryz.func191 rfl h Tryz.ntmps191 rfl rfl ?_
  refine gc_seq ?_
  refine gsr ?_
  refine gp zmv ?_
  refine gp zln ?_
  refine gp zmv ?_
  refine gp (r_bool (r_gtr rfl rfl) (decide_eq_false (by omega))) ?_
  refine gp zmv ?_
  refine gq zmv ?_
  refine gq zln ?_
  refine gq (r_bool (r_gtr rfl rfl) (decide_eq_false (by omega))) ?_
  refine gp zpk ?_
  refine gnt ?_
  refine gc_condF rfl rfl ?_
  refine gc_skip ?_
  refine gx_then ?_
  refine gsr ?_
  refine gp zmv ?_
  refine gp zmv ?_
  refine gp zln ?_
  refine zc (fun _ => ?_) (c := fun w1 F1 F2 h1 h2 hd hst => number_ok (wd := 1) h1 (hE.mv hst.still) (by decide) (by decide) (by omega))
  refine gnt ?_
  refine gsr ?_
  refine gp zmv ?_
  refine gp zln ?_
  refine gp zmv ?_
  refine gnt ?_
  refine gc_block ?_
  refine gc_loop (α := Nat) (fun k => [pureR (k ≤ n), WrR TE ea g ((l.take k).foldl (fun s x => wSigned x s) (wNum (l.length : Int) 1 s))]) (fun k => [(30, .int .i64 (k : Int))]) [9, 31, 32, 33, 34, 35, 36, 37, 38] (fun k => n - k) 0 ?_ ?_ ?_
  · refine env_start (by kernel_rfl)
  · rintro w' hw
    obtain ⟨F', hF', hst'⟩ := hw.sel (M := [WrR TE ea g (wNum (n : Int) 1 s)]) (by repeat (first | exact Sel.nil | (apply Sel.cons; · (repeat (first | exact Pick.here | apply Pick.there)))))
    rw [hnl] at hF'
    exact ⟨F', stars_pure_mk (Nat.zero_le _) hF', hst'⟩
  · intro k u
    refine gc_pureR (fun hk => ?_)
    replace hk : k ≤ n := hk
    refine gsr ?_
    refine gp zlt ?_
    refine gnt ?_
    refine gc_seq ?_
    refine gif rfl (fun hc31 => ?_) (fun hc31 => ?_)
    · have hk' : k < n := by (try simp only at hc31); omega
      obtain ⟨ga, o, cs, y, ha, hA, hg, hra, hcl, hly, hrd⟩ := hl.elem (by decide) hk'
      subst ha
      refine gc_skip ?_
      refine gx_then ?_
      refine gc_seq ?_
      refine gc_block ?_
      refine gsr ?_
      refine gp (r_indexAddr_slice rfl rfl Ty.sl_24 Ty.sz_140 (by omega) (by omega)) ?_
      refine gp (r_ldNo rfl Ty.row_140 Ty.sz_140 hra hcl (by decide) hA) ?_
      refine zal fun b9 => ?_
      refine gl_storeN (wt0 rfl) rfl rfl Ty.sz_140 hcl (by repeat (first | exact Pick.here | apply Pick.there)) (by first | rfl | (simp only [List.drop_succ_cons, List.drop_zero, List.take_succ_cons, List.take_zero, List.cons_append, List.nil_append, List.append_assoc, drop_dc, drop_dc', take_dc, take_dc', drop_L, drop_L', take_L, take_L', len_L, Nat.reduceLeDiff, Nat.reduceSub, Nat.reduceAdd, Nat.le_refl, List.length_cons, List.length_append, List.length_nil, dc_length, List.drop_nil, List.take_nil, List.append_nil, List.length_map, List.length_replicate, zD_length]; first | done | omega)) (hrd.one) (updL_all (by rw [hcl]; first | rfl | (simp only [List.drop_succ_cons, List.drop_zero, List.take_succ_cons, List.take_zero, List.cons_append, List.nil_append, List.append_assoc, drop_dc, drop_dc', take_dc, take_dc', drop_L, drop_L', take_L, take_L', len_L, Nat.reduceLeDiff, Nat.reduceSub, Nat.reduceAdd, Nat.le_refl, List.length_cons, List.length_append, List.length_nil, dc_length, List.drop_nil, List.take_nil, List.append_nil, List.length_map, List.length_replicate, zD_length]))) ?_
      refine gnt ?_
      refine gc_region ?_
      refine gp zmv ?_
      refine gp zmv ?_
      refine gp (r_ldN rfl Ty.row_140 Ty.sz_140 (by repeat (first | exact Pick.here | apply Pick.there)) (seg_all hcl) hcl) ?_
      refine gl_call (wt0 rfl) (e_callv (us := []) rfl Ty.call_192 rfl) (by repeat (first | exact Sel.nil | (apply Sel.cons; · (repeat (first | exact Pick.here | apply Pick.there))))) (fun w1 F1 F2 h1 h2 hd hst => qc1_ok h1 (hE.mv hst.still) (hrd.mv hst.still) (put_bound wSigned_len (by omega) (by omega) hb)) ?_
      intro _
      refine gl_nil ?_
      refine gx_block_normal ?_
      refine gx_then ?_
      refine gc_region ?_
      refine gp (r_arith (op := .add) rfl rfl (wrap_i64 (by omega) (by omega))) ?_
      refine gp zmv ?_
      refine gl_nil ?_
      refine zrd (k + 1) ?_ ?_
      · show n - (k + 1) < n - k
        omega
      · rintro w' hw
        obtain ⟨F', hF', hst'⟩ := hw.sel (M := [WrR TE ea g _]) (by repeat (first | exact Sel.nil | (apply Sel.cons; · (repeat (first | exact Pick.here | apply Pick.there)))))
        refine ⟨F', stars_pure_mk (show k + 1 ≤ n by omega) ?_, hst'⟩
        rw [foldl_take_succ _ _ _ hly]
        exact hF'
    · have hk' : k = l.length := by (try simp only at hc31); omega
      subst hk'
      refine gc_exit ?_
      refine gx_then_exit ?_
      refine gx_round_exit ?_
      refine gx_block_hit ?_
      refine gx_ret0' rfl ?_
      rw [List.take_length]
      exact ze ()


theorem putSigneds_ok {w : World} {F : Nat → Prop} {g TE : Nat} {ea : Nat → Addr} {s : WS} {n c : Nat} {a : Option Addr} {l : List Signed} {most : Nat} (h : stars [WrR TE ea g s] w F) {es : List Nat} [Has es 1] (hE : GErr es w (fun k => ¬ F k) TE ea) (hl : RdList (RdSigned w (fun k => ¬ F k)) w (fun k => ¬ F k) 4 a n l) (hm : most ≤ 255) (hb : s.bs.length + (1 + most * 1172) ≤ 1099511627776) :
    Calls Tryz.prog 191 #[.pointer (some ⟨g, 0, none⟩), .slice a n c, .int .i64 (most : Int), .func (.func 192) #[] #[]] w (Post w F (fun _ : Unit => .tuple #[]) (fun _ => [WrR TE ea g (wPut (wSigned) l most s)])) := by
  have hnl := hl.len (by decide)
  unfold wPut
  by_cases hn : most < n
  · rw [if_pos (.inl (by omega))]; exact putSigneds_big h hE hl hm hn
  · rw [if_neg (by omega)]; exact putSigneds_fit h hE hl hm (by omega) hb





set_option maxHeartbeats 400000 in
theorem block2_ok {w : World} {F : Nat → Prop} {g TE : Nat} {ea : Nat → Addr} {s : WS} {cs : List Value} {x : Vdr} (h : stars [WrR TE ea g s] w F) {es : List Nat} [Has es 1] (hE : GErr es w (fun k => ¬ F k) TE ea) (hx : RdVdr cs x) (hb : s.bs.length + 22 ≤ 1099511627776) :
    Calls Tryz.prog 165 #[.pointer (some ⟨g, 0, none⟩), .agg cs.toArray] w (Post w F (fun _ : Unit => .tuple #[]) (fun _ => [WrR TE ea g (wVdr x s)])) := by
  unfold RdVdr at hx
  subst hx
  refine g_enter (env := [(0, .pointer (some ⟨g, 0, none⟩)), (1, .agg (List.toArray (dc x.key ++ [.int .i64 x.power])))]) Tryz.func165 rfl h Tryz.ntmps165 rfl rfl ?_
  refine gsr ?_
  refine zbN fun b3 => ?_
  refine gnt ?_
  refine gsr ?_
  refine gp zmv ?_
  refine gp zfa ?_
  refine gp zL ?_
  refine zc (fun _ => ?_) (c := fun w1 F1 F2 h1 h2 hd hst => putDigest_ok h1 (hE.mv hst.still) (by omega))
  refine gnt ?_
  refine gc_region ?_
  refine gp zmv ?_
  refine gp zfa ?_
  refine gp zl ?_
  refine zc (fun _ => ?_) (c := fun w1 F1 F2 h1 h2 hd hst => number_ok (wd := 6) h1 (hE.mv hst.still) (by decide) (by decide) (by have e0 := wDig_len x.key s; omega))
  refine gl_nil ?_
  refine gx_ret0' rfl ?_
  exact ze ()

set_option maxHeartbeats 400000 in
theorem putVdrs_big {w : World} {F : Nat → Prop} {g TE : Nat} {ea : Nat → Addr} {s : WS} {n c : Nat} {a : Option Addr} {l : List Vdr} {most : Nat} (h : stars [WrR TE ea g s] w F) {es : List Nat} [Has es 1] (hE : GErr es w (fun k => ¬ F k) TE ea) (hl : RdList (RdVdr) w (fun k => ¬ F k) 17 a n l) (hm : most ≤ 255) (hn : most < n) :
    Calls Tryz.prog 164 #[.pointer (some ⟨g, 0, none⟩), .slice a n c, .int .i64 (most : Int), .func (.func 165) #[] #[]] w (Post w F (fun _ : Unit => .tuple #[]) (fun _ => [WrR TE ea g (wFail 1 s)])) := by
  obtain ⟨a0, c0, h'⟩ := wr_open h
  refine g_enter (env := [(0, .pointer (some ⟨g, 0, none⟩)), (1, .slice a n c), (2, .int .i64 (most : Int)), (3, .func (.func 165) #[] #[])]) Tryz.func164 rfl h' Tryz.ntmps164 rfl rfl ?_
  refine gc_seq ?_
  refine gsr ?_
  refine gp zmv ?_
  refine gp zln ?_
  refine gp zmv ?_
  refine gp (r_bool (r_gtr rfl rfl) (decide_eq_true (by omega))) ?_
  refine gp zmv ?_
  refine gn ?_
  refine gn ?_
  refine gn ?_
  refine gp zpk ?_
  refine gnt ?_
  refine gc_condT rfl rfl ?_
  refine gc_seq ?_
  refine gc_regionT 4 (by kernel_rfl) (by kernel_rfl) ?_
  refine sp zmv ?_
  refine sp znc ?_
  refine sp zfa ?_
  refine sp (r_ld1o rfl Ty.row_38 (hE.c 1 Has.h) (hE.n 1 Has.h)) ?_
  refine gs_nil ?_
  refine zc (fun _ => ?_) (c := fun w1 F1 F2 h1 h2 hd hst => fail_ok h1)
  refine gnt ?_
  refine gc_ret ?_
  refine gx_then_ret ?_
  refine gx_ret0 rfl ?_
  exact fun w' hw => ⟨(), rfl, by rw [wFail]; by_cases he : s.err = 0 <;> simp only [he, if_true, if_false, ite_true, ite_false] at hw ⊢ <;> exact St.wr (hw.sel (by repeat (first | exact Sel.nil | (apply Sel.cons; · (repeat (first | exact Pick.here | apply Pick.there)))))) (by simp [he]) rfl rfl⟩

set_option maxHeartbeats 400000 in
theorem putVdrs_fit {w : World} {F : Nat → Prop} {g TE : Nat} {ea : Nat → Addr} {s : WS} {n c : Nat} {a : Option Addr} {l : List Vdr} {most : Nat} (h : stars [WrR TE ea g s] w F) {es : List Nat} [Has es 1] (hE : GErr es w (fun k => ¬ F k) TE ea) (hl : RdList (RdVdr) w (fun k => ¬ F k) 17 a n l) (hm : most ≤ 255) (hn : n ≤ most) (hb : s.bs.length + (1 + most * 22) ≤ 1099511627776) :
    Calls Tryz.prog 164 #[.pointer (some ⟨g, 0, none⟩), .slice a n c, .int .i64 (most : Int), .func (.func 165) #[] #[]] w (Post w F (fun _ : Unit => .tuple #[]) (fun _ => [WrR TE ea g (l.foldl (fun s x => wVdr x s) (wNum (l.length : Int) 1 s))])) := by
  have hnl := hl.len (by decide)
  refine g_enter (env := [(0, .pointer (some ⟨g, 0, none⟩)), (1, .slice a n c), (2, .int .i64 (most : Int)), (3, .func (.func 165) #[] #[])]) Tryz.func164 rfl h Tryz.ntmps164 rfl rfl ?_
  refine gc_seq ?_
  refine gsr ?_
  refine gp zmv ?_
  refine gp zln ?_
  refine gp zmv ?_
  refine gp (r_bool (r_gtr rfl rfl) (decide_eq_false (by omega))) ?_
  refine gp zmv ?_
  refine gq zmv ?_
  refine gq zln ?_
  refine gq (r_bool (r_gtr rfl rfl) (decide_eq_false (by omega))) ?_
  refine gp zpk ?_
  refine gnt ?_
  refine gc_condF rfl rfl ?_
  refine gc_skip ?_
  refine gx_then ?_
  refine gsr ?_
  refine gp zmv ?_
  refine gp zmv ?_
  refine gp zln ?_
  refine zc (fun _ => ?_) (c := fun w1 F1 F2 h1 h2 hd hst => number_ok (wd := 1) h1 (hE.mv hst.still) (by decide) (by decide) (by omega))
  refine gnt ?_
  refine gsr ?_
  refine gp zmv ?_
  refine gp zln ?_
  refine gp zmv ?_
  refine gnt ?_
  refine gc_block ?_
  refine gc_loop (α := Nat) (fun k => [pureR (k ≤ n), WrR TE ea g ((l.take k).foldl (fun s x => wVdr x s) (wNum (l.length : Int) 1 s))]) (fun k => [(30, .int .i64 (k : Int))]) [9, 31, 32, 33, 34, 35, 36, 37, 38] (fun k => n - k) 0 ?_ ?_ ?_
  · refine env_start (by kernel_rfl)
  · rintro w' hw
    obtain ⟨F', hF', hst'⟩ := hw.sel (M := [WrR TE ea g (wNum (n : Int) 1 s)]) (by repeat (first | exact Sel.nil | (apply Sel.cons; · (repeat (first | exact Pick.here | apply Pick.there)))))
    rw [hnl] at hF'
    exact ⟨F', stars_pure_mk (Nat.zero_le _) hF', hst'⟩
  · intro k u
    refine gc_pureR (fun hk => ?_)
    replace hk : k ≤ n := hk
    refine gsr ?_
    refine gp zlt ?_
    refine gnt ?_
    refine gc_seq ?_
    refine gif rfl (fun hc31 => ?_) (fun hc31 => ?_)
    · have hk' : k < n := by (try simp only at hc31); omega
      obtain ⟨ga, o, cs, y, ha, hA, hg, hra, hcl, hly, hrd⟩ := hl.elem (by decide) hk'
      subst ha
      refine gc_skip ?_
      refine gx_then ?_
      refine gc_seq ?_
      refine gc_block ?_
      refine gsr ?_
      refine gp (r_indexAddr_slice rfl rfl Ty.sl_28 Ty.sz_159 (by omega) (by omega)) ?_
      refine gp (r_ldNo rfl Ty.row_159 Ty.sz_159 hra hcl (by decide) hA) ?_
      refine zal fun b9 => ?_
      refine gl_storeN (wt0 rfl) rfl rfl Ty.sz_159 hcl (by repeat (first | exact Pick.here | apply Pick.there)) (by first | rfl | (simp only [List.drop_succ_cons, List.drop_zero, List.take_succ_cons, List.take_zero, List.cons_append, List.nil_append, List.append_assoc, drop_dc, drop_dc', take_dc, take_dc', drop_L, drop_L', take_L, take_L', len_L, Nat.reduceLeDiff, Nat.reduceSub, Nat.reduceAdd, Nat.le_refl, List.length_cons, List.length_append, List.length_nil, dc_length, List.drop_nil, List.take_nil, List.append_nil, List.length_map, List.length_replicate, zD_length]; first | done | omega)) (hrd.one) (updL_all (by rw [hcl]; first | rfl | (simp only [List.drop_succ_cons, List.drop_zero, List.take_succ_cons, List.take_zero, List.cons_append, List.nil_append, List.append_assoc, drop_dc, drop_dc', take_dc, take_dc', drop_L, drop_L', take_L, take_L', len_L, Nat.reduceLeDiff, Nat.reduceSub, Nat.reduceAdd, Nat.le_refl, List.length_cons, List.length_append, List.length_nil, dc_length, List.drop_nil, List.take_nil, List.append_nil, List.length_map, List.length_replicate, zD_length]))) ?_
      refine gnt ?_
      refine gc_region ?_
      refine gp zmv ?_
      refine gp zmv ?_
      refine gp (r_ldN rfl Ty.row_159 Ty.sz_159 (by repeat (first | exact Pick.here | apply Pick.there)) (seg_all hcl) hcl) ?_
      refine gl_call (wt0 rfl) (e_callv (us := []) rfl Ty.call_165 rfl) (by repeat (first | exact Sel.nil | (apply Sel.cons; · (repeat (first | exact Pick.here | apply Pick.there))))) (fun w1 F1 F2 h1 h2 hd hst => block2_ok h1 (hE.mv hst.still) hrd (put_bound wVdr_len (by omega) (by omega) hb)) ?_
      intro _
      refine gl_nil ?_
      refine gx_block_normal ?_
      refine gx_then ?_
      refine gc_region ?_
      refine gp (r_arith (op := .add) rfl rfl (wrap_i64 (by omega) (by omega))) ?_
      refine gp zmv ?_
      refine gl_nil ?_
      refine zrd (k + 1) ?_ ?_
      · show n - (k + 1) < n - k
        omega
      · rintro w' hw
        obtain ⟨F', hF', hst'⟩ := hw.sel (M := [WrR TE ea g _]) (by repeat (first | exact Sel.nil | (apply Sel.cons; · (repeat (first | exact Pick.here | apply Pick.there)))))
        refine ⟨F', stars_pure_mk (show k + 1 ≤ n by omega) ?_, hst'⟩
        rw [foldl_take_succ _ _ _ hly]
        exact hF'
    · have hk' : k = l.length := by (try simp only at hc31); omega
      subst hk'
      refine gc_exit ?_
      refine gx_then_exit ?_
      refine gx_round_exit ?_
      refine gx_block_hit ?_
      refine gx_ret0' rfl ?_
      rw [List.take_length]
      exact ze ()


theorem putVdrs_ok {w : World} {F : Nat → Prop} {g TE : Nat} {ea : Nat → Addr} {s : WS} {n c : Nat} {a : Option Addr} {l : List Vdr} {most : Nat} (h : stars [WrR TE ea g s] w F) {es : List Nat} [Has es 1] (hE : GErr es w (fun k => ¬ F k) TE ea) (hl : RdList (RdVdr) w (fun k => ¬ F k) 17 a n l) (hm : most ≤ 255) (hb : s.bs.length + (1 + most * 22) ≤ 1099511627776) :
    Calls Tryz.prog 164 #[.pointer (some ⟨g, 0, none⟩), .slice a n c, .int .i64 (most : Int), .func (.func 165) #[] #[]] w (Post w F (fun _ : Unit => .tuple #[]) (fun _ => [WrR TE ea g (wPut (wVdr) l most s)])) := by
  have hnl := hl.len (by decide)
  unfold wPut
  by_cases hn : most < n
  · rw [if_pos (.inl (by omega))]; exact putVdrs_big h hE hl hm hn
  · rw [if_neg (by omega)]; exact putVdrs_fit h hE hl hm (by omega) hb

set_option maxHeartbeats 400000 in
theorem block1_ok {w : World} {F : Nat → Prop} {g TE : Nat} {ea : Nat → Addr} {s : WS} {x : List UInt8} {a : Option Addr} {n c : Nat} (h : stars [WrR TE ea g s] w F) {es : List Nat} [Has es 1] (hE : GErr es w (fun k => ¬ F k) TE ea) (hx : RdRow w (fun k => ¬ F k) 1 a n (x.map B8)) (hb : s.bs.length + 18 ≤ 1099511627776) :
    Calls Tryz.prog 163 #[.pointer (some ⟨g, 0, none⟩), .slice a n c] w (Post w F (fun _ : Unit => .tuple #[]) (fun _ => [WrR TE ea g (wBytes x 16 s)])) := by
  refine g_enter (env := [(0, .pointer (some ⟨g, 0, none⟩)), (1, .slice a n c)]) Tryz.func163 rfl h Tryz.ntmps163 rfl rfl ?_
  refine gc_region ?_
  refine gp zmv ?_
  refine gp zmv ?_
  refine zc (fun _ => ?_) (c := fun w1 F1 F2 h1 h2 hd hst => wbytes_ok (most := 16) h1 (hE.mv hst.still) (hx.mv hst.still) (by decide) (by omega))
  refine gl_nil ?_
  refine gx_ret0' rfl ?_
  exact ze ()

set_option maxHeartbeats 400000 in
theorem putTxs_big {w : World} {F : Nat → Prop} {g TE : Nat} {ea : Nat → Addr} {s : WS} {n c : Nat} {a : Option Addr} {l : List (List UInt8)} {most : Nat} (h : stars [WrR TE ea g s] w F) {es : List Nat} [Has es 1] (hE : GErr es w (fun k => ¬ F k) TE ea) (hl : RdList (RdBytes w (fun k => ¬ F k)) w (fun k => ¬ F k) 1 a n l) (hm : most ≤ 255) (hn : most < n) :
    Calls Tryz.prog 162 #[.pointer (some ⟨g, 0, none⟩), .slice a n c, .int .i64 (most : Int), .func (.func 163) #[] #[]] w (Post w F (fun _ : Unit => .tuple #[]) (fun _ => [WrR TE ea g (wFail 1 s)])) := by
  obtain ⟨a0, c0, h'⟩ := wr_open h
  refine g_enter (env := [(0, .pointer (some ⟨g, 0, none⟩)), (1, .slice a n c), (2, .int .i64 (most : Int)), (3, .func (.func 163) #[] #[])]) Tryz.func162 rfl h' Tryz.ntmps162 rfl rfl ?_
  refine gc_seq ?_
  refine gsr ?_
  refine gp zmv ?_
  refine gp zln ?_
  refine gp zmv ?_
  refine gp (r_bool (r_gtr rfl rfl) (decide_eq_true (by omega))) ?_
  refine gp zmv ?_
  refine gn ?_
  refine gn ?_
  refine gn ?_
  refine gp zpk ?_
  refine gnt ?_
  refine gc_condT rfl rfl ?_
  refine gc_seq ?_
  refine gc_regionT 4 (by kernel_rfl) (by kernel_rfl) ?_
  refine sp zmv ?_
  refine sp znc ?_
  refine sp zfa ?_
  refine sp (r_ld1o rfl Ty.row_38 (hE.c 1 Has.h) (hE.n 1 Has.h)) ?_
  refine gs_nil ?_
  refine zc (fun _ => ?_) (c := fun w1 F1 F2 h1 h2 hd hst => fail_ok h1)
  refine gnt ?_
  refine gc_ret ?_
  refine gx_then_ret ?_
  refine gx_ret0 rfl ?_
  exact fun w' hw => ⟨(), rfl, by rw [wFail]; by_cases he : s.err = 0 <;> simp only [he, if_true, if_false, ite_true, ite_false] at hw ⊢ <;> exact St.wr (hw.sel (by repeat (first | exact Sel.nil | (apply Sel.cons; · (repeat (first | exact Pick.here | apply Pick.there)))))) (by simp [he]) rfl rfl⟩

set_option maxHeartbeats 400000 in
theorem putTxs_fit {w : World} {F : Nat → Prop} {g TE : Nat} {ea : Nat → Addr} {s : WS} {n c : Nat} {a : Option Addr} {l : List (List UInt8)} {most : Nat} (h : stars [WrR TE ea g s] w F) {es : List Nat} [Has es 1] (hE : GErr es w (fun k => ¬ F k) TE ea) (hl : RdList (RdBytes w (fun k => ¬ F k)) w (fun k => ¬ F k) 1 a n l) (hm : most ≤ 255) (hn : n ≤ most) (hb : s.bs.length + (1 + most * 18) ≤ 1099511627776) :
    Calls Tryz.prog 162 #[.pointer (some ⟨g, 0, none⟩), .slice a n c, .int .i64 (most : Int), .func (.func 163) #[] #[]] w (Post w F (fun _ : Unit => .tuple #[]) (fun _ => [WrR TE ea g (l.foldl (fun s x => (fun t => wBytes t 16) x s) (wNum (l.length : Int) 1 s))])) := by
  have hnl := hl.len (by decide)
  refine g_enter (env := [(0, .pointer (some ⟨g, 0, none⟩)), (1, .slice a n c), (2, .int .i64 (most : Int)), (3, .func (.func 163) #[] #[])]) Tryz.func162 rfl h Tryz.ntmps162 rfl rfl ?_
  refine gc_seq ?_
  refine gsr ?_
  refine gp zmv ?_
  refine gp zln ?_
  refine gp zmv ?_
  refine gp (r_bool (r_gtr rfl rfl) (decide_eq_false (by omega))) ?_
  refine gp zmv ?_
  refine gq zmv ?_
  refine gq zln ?_
  refine gq (r_bool (r_gtr rfl rfl) (decide_eq_false (by omega))) ?_
  refine gp zpk ?_
  refine gnt ?_
  refine gc_condF rfl rfl ?_
  refine gc_skip ?_
  refine gx_then ?_
  refine gsr ?_
  refine gp zmv ?_
  refine gp zmv ?_
  refine gp zln ?_
  refine zc (fun _ => ?_) (c := fun w1 F1 F2 h1 h2 hd hst => number_ok (wd := 1) h1 (hE.mv hst.still) (by decide) (by decide) (by omega))
  refine gnt ?_
  refine gsr ?_
  refine gp zmv ?_
  refine gp zln ?_
  refine gp zmv ?_
  refine gnt ?_
  refine gc_block ?_
  refine gc_loop (α := Nat) (fun k => [pureR (k ≤ n), WrR TE ea g ((l.take k).foldl (fun s x => (fun t => wBytes t 16) x s) (wNum (l.length : Int) 1 s))]) (fun k => [(30, .int .i64 (k : Int))]) [9, 31, 32, 33, 34, 35, 36, 37, 38] (fun k => n - k) 0 ?_ ?_ ?_
  · refine env_start (by kernel_rfl)
  · rintro w' hw
    obtain ⟨F', hF', hst'⟩ := hw.sel (M := [WrR TE ea g (wNum (n : Int) 1 s)]) (by repeat (first | exact Sel.nil | (apply Sel.cons; · (repeat (first | exact Pick.here | apply Pick.there)))))
    rw [hnl] at hF'
    exact ⟨F', stars_pure_mk (Nat.zero_le _) hF', hst'⟩
  · intro k u
    refine gc_pureR (fun hk => ?_)
    replace hk : k ≤ n := hk
    refine gsr ?_
    refine gp zlt ?_
    refine gnt ?_
    refine gc_seq ?_
    refine gif rfl (fun hc31 => ?_) (fun hc31 => ?_)
    · have hk' : k < n := by (try simp only at hc31); omega
      obtain ⟨ga, o, cs, y, ha, hA, hg, hra, hcl, hly, hrd⟩ := hl.elem (by decide) hk'
      subst ha
      obtain ⟨a', n', c', rfl, hn', hrb⟩ := hrd
      refine gc_skip ?_
      refine gx_then ?_
      refine gc_seq ?_
      refine gc_block ?_
      refine gsr ?_
      refine gp (r_indexAddr_slice rfl rfl Ty.sl_27 Ty.sz_86 (by omega) (by omega)) ?_
      refine gp (r_ld1o rfl Ty.row_86 (hra 0 _ rfl) hA) ?_
      refine gp zas ?_
      refine gnt ?_
      refine gc_region ?_
      refine gp zmv ?_
      refine gp zmv ?_
      refine gp zmv ?_
      refine gl_call (wt0 rfl) (e_callv (us := []) rfl Ty.call_163 rfl) (by repeat (first | exact Sel.nil | (apply Sel.cons; · (repeat (first | exact Pick.here | apply Pick.there))))) (fun w1 F1 F2 h1 h2 hd hst => block1_ok h1 (hE.mv hst.still) (hrb.mv hst.still) (put_bound (fun x s => wBytes_len x 16 s) (by omega) (by omega) hb)) ?_
      intro _
      refine gl_nil ?_
      refine gx_block_normal ?_
      refine gx_then ?_
      refine gc_region ?_
      refine gp (r_arith (op := .add) rfl rfl (wrap_i64 (by omega) (by omega))) ?_
      refine gp zmv ?_
      refine gl_nil ?_
      refine zrd (k + 1) ?_ ?_
      · show n - (k + 1) < n - k
        omega
      · rintro w' hw
        obtain ⟨F', hF', hst'⟩ := hw.sel (M := [WrR TE ea g _]) (by repeat (first | exact Sel.nil | (apply Sel.cons; · (repeat (first | exact Pick.here | apply Pick.there)))))
        refine ⟨F', stars_pure_mk (show k + 1 ≤ n by omega) ?_, hst'⟩
        rw [foldl_take_succ _ _ _ hly]
        exact hF'
    · have hk' : k = l.length := by (try simp only at hc31); omega
      subst hk'
      refine gc_exit ?_
      refine gx_then_exit ?_
      refine gx_round_exit ?_
      refine gx_block_hit ?_
      refine gx_ret0' rfl ?_
      rw [List.take_length]
      exact ze ()


theorem putTxs_ok {w : World} {F : Nat → Prop} {g TE : Nat} {ea : Nat → Addr} {s : WS} {n c : Nat} {a : Option Addr} {l : List (List UInt8)} {most : Nat} (h : stars [WrR TE ea g s] w F) {es : List Nat} [Has es 1] (hE : GErr es w (fun k => ¬ F k) TE ea) (hl : RdList (RdBytes w (fun k => ¬ F k)) w (fun k => ¬ F k) 1 a n l) (hm : most ≤ 255) (hb : s.bs.length + (1 + most * 18) ≤ 1099511627776) :
    Calls Tryz.prog 162 #[.pointer (some ⟨g, 0, none⟩), .slice a n c, .int .i64 (most : Int), .func (.func 163) #[] #[]] w (Post w F (fun _ : Unit => .tuple #[]) (fun _ => [WrR TE ea g (wPut ((fun t => wBytes t 16)) l most s)])) := by
  have hnl := hl.len (by decide)
  unfold wPut
  by_cases hn : most < n
  · rw [if_pos (.inl (by omega))]; exact putTxs_big h hE hl hm hn
  · rw [if_neg (by omega)]; exact putTxs_fit h hE hl hm (by omega) hb

set_option maxHeartbeats 400000 in
theorem qc_ok {w : World} {F : Nat → Prop} {g TE : Nat} {ea : Nat → Addr} {s : WS} {cs : List Value} {x : QC} (h : stars [WrR TE ea g s] w F) {es : List Nat} [Has es 1] (hE : GErr es w (fun k => ¬ F k) TE ea) (hx : RdQC w (fun k => ¬ F k) cs x) (hb : s.bs.length + 8231 ≤ 1099511627776) :
    Calls Tryz.prog 161 #[.agg (List.toArray [.pointer (some ⟨g, 0, none⟩)]), .agg cs.toArray] w (Post w F (fun _ : Unit => .tuple #[]) (fun _ => [WrR TE ea g (wQC x s)])) := by
  obtain ⟨a1, n1, c1, rfl, hk1, hd1⟩ := hx
  refine g_enter (env := [(0, .agg (List.toArray [.pointer (some ⟨g, 0, none⟩)])), (1, .agg (List.toArray (.int .i64 x.epoch :: .int .i64 x.round :: (dc x.block ++ [.slice a1 n1 c1]))))]) Tryz.func161 rfl h Tryz.ntmps161 rfl rfl ?_
  refine gsr ?_
  refine zbN fun b2 => ?_
  refine zbN fun b3 => ?_
  refine gnt ?_
  refine gsr ?_
  refine gp zL ?_
  refine gp zfa ?_
  refine gp zl ?_
  refine gp zfa ?_
  refine gp zl ?_
  refine zc (fun _ => ?_) (c := fun w1 F1 F2 h1 h2 hd hst => at_ok h1 (hE.mv hst.still) (by omega))
  refine gnt ?_
  refine gsr ?_
  refine gp zL ?_
  refine gp zfa ?_
  refine gp zL ?_
  refine zc (fun _ => ?_) (c := fun w1 F1 F2 h1 h2 hd hst => digest_ok h1 (hE.mv hst.still) (by have e0 := wAt_len x.epoch x.round s; omega))
  refine gnt ?_
  refine gc_region ?_
  refine gp zfa ?_
  refine gp zl ?_
  refine gp zfa ?_
  refine gp zl ?_
  refine zc (fun _ => ?_) (c := fun w1 F1 F2 h1 h2 hd hst => putSigneds_ok (most := 7) h1 (hE.mv hst.still) (RdList.mv hd1 hst.still fun _ _ h => h.mv hst.still) (by decide) (by have e0 := wAt_len x.epoch x.round s; have e1 := wDig_len x.block (wAt x.epoch x.round s); omega))
  refine gl_nil ?_
  refine gx_ret0' rfl ?_
  exact ze ()


set_option maxHeartbeats 400000 in
theorem block_ok {w : World} {F : Nat → Prop} {g TE : Nat} {ea : Nat → Addr} {s : WS} {cs : List Value} {x : Block} (h : stars [WrR TE ea g s] w F) {es : List Nat} [Has es 1] (hE : GErr es w (fun k => ¬ F k) TE ea) (hx : RdBlock w (fun k => ¬ F k) cs x) (hb : s.bs.length + 8485 ≤ 1099511627776) :
    Calls Tryz.prog 126 #[.agg (List.toArray [.pointer (some ⟨g, 0, none⟩)]), .agg cs.toArray] w (Post w F (fun _ : Unit => .tuple #[]) (fun _ => [WrR TE ea g (wBlock x s)])) := by
  obtain ⟨q, a1, n1, c1, a2, n2, c2, rfl, hq, hk1, hd1, hk2, hd2⟩ := hx
  have hl := hq.len
  have z_hl := Len.of hl
  refine g_enter (env := [(0, .agg (List.toArray [.pointer (some ⟨g, 0, none⟩)])), (1, .agg (List.toArray (.int .i64 x.epoch :: .int .i64 x.round :: (dc x.parent ++ (q ++ [.slice a1 n1 c1, .slice a2 n2 c2])))))]) Tryz.func126 rfl h Tryz.ntmps126 rfl rfl ?_
  refine gsr ?_
  refine zbN fun b2 => ?_
  refine zbN fun b3 => ?_
  refine gnt ?_
  refine gsr ?_
  refine gp zL ?_
  refine gp zfa ?_
  refine gp zl ?_
  refine gp zfa ?_
  refine gp zl ?_
  refine zc (fun _ => ?_) (c := fun w1 F1 F2 h1 h2 hd hst => at_ok h1 (hE.mv hst.still) (by omega))
  refine gnt ?_
  refine gsr ?_
  refine gp zL ?_
  refine gp zfa ?_
  refine gp zL ?_
  refine zc (fun _ => ?_) (c := fun w1 F1 F2 h1 h2 hd hst => digest_ok h1 (hE.mv hst.still) (by have e0 := wAt_len x.epoch x.round s; omega))
  refine gnt ?_
  refine gsr ?_
  refine gp zL ?_
  refine gp zfa ?_
  refine gp zL ?_
  refine zc (fun _ => ?_) (c := fun w1 F1 F2 h1 h2 hd hst => qc_ok h1 (hE.mv hst.still) (hq.mv hst.still) (by have e0 := wAt_len x.epoch x.round s; have e1 := wDig_len x.parent (wAt x.epoch x.round s); omega))
  refine gnt ?_
  refine gsr ?_
  refine gp zfa ?_
  refine gp zl ?_
  refine gp zfa ?_
  refine gp zl ?_
  refine zc (fun _ => ?_) (c := fun w1 F1 F2 h1 h2 hd hst => putTxs_ok (most := 4) h1 (hE.mv hst.still) (RdList.mv hd1 hst.still fun _ _ h => h.mv hst.still) (by decide) (by have e0 := wAt_len x.epoch x.round s; have e1 := wDig_len x.parent (wAt x.epoch x.round s); have e2 := wQC_len x.justify (wDig x.parent (wAt x.epoch x.round s)); omega))
  refine gnt ?_
  refine gc_region ?_
  refine gp zfa ?_
  refine gp zl ?_
  refine gp zfa ?_
  refine gp zl ?_
  refine zc (fun _ => ?_) (c := fun w1 F1 F2 h1 h2 hd hst => putVdrs_ok (most := 7) h1 (hE.mv hst.still) (RdList.mv hd2 hst.still fun _ _ h => h) (by decide) (by have e0 := wAt_len x.epoch x.round s; have e1 := wDig_len x.parent (wAt x.epoch x.round s); have e2 := wQC_len x.justify (wDig x.parent (wAt x.epoch x.round s)); have e3 := wPut_len (wX := fun t => wBytes t 16) (c := 18) (fun x s => wBytes_len x 16 s) x.payload 4 (wQC x.justify (wDig x.parent (wAt x.epoch x.round s))); omega))
  refine gl_nil ?_
  refine gx_ret0' rfl ?_
  exact ze ()

end Go.Proofs.YtobjojeliibinaaGreatDoor

/- Walks, by program (wg.py) out of a spec. -/
namespace Go.Proofs.YtobjojeliibinaaGreatDoor
open Go
set_option linter.unusedVariables false
set_option linter.unusedSimpArgs false


def wOut (s : WS) : List UInt8 := if s.err = 0 then s.bs else []
theorem wr_new {w0 w : World} {F0 : Nat → Prop} {TE : TypeId} {ea : Nat → Addr} {g : Nat}
    (h : St w0 F0 [blk g 289 [.nilIface, .slice none 0 0]] w) : St w0 F0 [WrR TE ea g ⟨0, []⟩] w := by
  obtain ⟨F, hF, hst⟩ := h
  have h1 : St w0 F0 [rowR 5 1 none 0 0 [], blk g 289 [.nilIface, .slice none 0 0]] w := ⟨F, stars_row_nil hF, hst⟩
  obtain ⟨F', hF', hst'⟩ := h1.sel (M := [blk g 289 [.nilIface, .slice none 0 0], rowR 5 1 none 0 0 []]) (by repeat (first | exact Sel.nil | (apply Sel.cons; · (repeat (first | exact Pick.here | apply Pick.there)))))
  refine ⟨F', wr_shut (k := 0) (m := 0) (c := 0) (a := none) (xs := []) ?_ rfl rfl rfl, hst'⟩
  rw [eV_zero]; exact hF'
theorem St.rowNil {w0 w : World} {F0 : Nat → Prop} {e size : Nat} {L : List Res} (h : St w0 F0 L w) : St w0 F0 (rowR e size none 0 0 [] :: L) w := by
  obtain ⟨F, hF, hst⟩ := h; exact ⟨F, stars_row_nil hF, hst⟩
theorem RdRow.none {w : World} {A : Nat → Prop} {size n : Nat} {xs : List Value} (h : RdRow w A size none n xs) : n = 0 ∧ xs = [] := by
  have h0 : n = 0 := by
    rcases Nat.eq_zero_or_pos n with h0 | h0
    · exact h0
    · obtain ⟨_, _, ha, _⟩ := h.2.2 h0; cases ha
  subst h0
  exact ⟨rfl, List.length_eq_zero_iff.1 (by simpa using h.1)⟩

attribute [local irreducible] Gl Gc Gx Gs Runs Wt

set_option maxHeartbeats 400000 in
theorem newwriter_ok {w : World} {F : Nat → Prop} {TE : Nat} {ea : Nat → Addr} (h : stars [] w F) :
    Calls Tryz.prog 131 #[] w (Post w F (fun g : Nat => .pointer (some ⟨g, 0, none⟩)) (fun g => [WrR TE ea g ⟨0, []⟩])) := by
  refine g_enter (env := []) Tryz.func131 rfl h Tryz.ntmps131 rfl rfl ?_
  refine gsr ?_
  refine gp zas ?_
  refine gnt ?_
  refine gsr ?_
  refine gp zbu ?_
  refine zbN fun b2 => ?_
  refine gp zas ?_
  refine gnt ?_
  refine gc_ret ?_
  refine gx_ret1 rfl (by conv => lhs; whnf) ?_
  exact fun w' hw => ⟨b2, rfl, wr_new (hw.sel (by repeat (first | exact Sel.nil | (apply Sel.cons; · (repeat (first | exact Pick.here | apply Pick.there))))))⟩

set_option maxHeartbeats 400000 in
theorem cloneBytes_ok {w : World} {F : Nat → Prop} {n c : Nat} {a : Option Addr} {xs : List Value} (h : stars [] w F) (hx : RdRow w (fun k => ¬ F k) 1 a n xs) (h1 : ∀ u ∈ xs, u.oneCell' = true) (hb : n ≤ 1099511627776) :
    Calls Tryz.prog 116 #[.slice a n c] w (Post w F (fun r : Option Addr × Nat => .slice r.1 n r.2) (fun r => [rowR 5 1 r.1 n r.2 xs])) := by
  refine g_enter (env := [(0, .slice a n c)]) Tryz.func116 rfl h Tryz.ntmps116 rfl rfl ?_
  refine gsr ?_
  refine gp zas ?_
  refine gnt ?_
  refine gc_seq ?_
  refine gsr ?_
  refine gp zmv ?_
  refine gp zen ?_
  refine gnt ?_
  refine gif rfl (fun hc4 => ?_) (fun hc4 => ?_)
  · refine gsr ?_
    refine gp zas ?_
    refine gnt ?_
    refine gc_ret ?_
    refine gx_then_ret ?_
    refine gx_ret1 rfl (by conv => lhs; whnf) ?_
    have ha : a = none := by cases a <;> simp_all
    subst ha
    obtain ⟨rfl, rfl⟩ := hx.none
    exact fun w' hw => ⟨(none, 0), rfl, hw.rowNil.sel (by repeat (first | exact Sel.nil | (apply Sel.cons; · (repeat (first | exact Pick.here | apply Pick.there)))))⟩
  · refine gc_skip ?_
    refine gx_then ?_
    refine gsr ?_
    refine ze0 fun b5 => ?_
    refine gp zmv ?_
    refine gl_append (wt0 rfl) rfl rfl (by repeat (first | exact Pick.here | apply Pick.there)) Ty.el_86 (fun w' hw => hw.rdOld hx) h1 (by simp only [maxLen]; omega) (by omega) ?_
    intro a1 c1
    refine gp zas ?_
    refine gnt ?_
    refine gc_ret ?_
    refine gx_ret1 rfl (by conv => lhs; whnf) ?_
    rw [Nat.zero_add]
    exact fun w' hw => ⟨(a1, c1), rfl, hw.sel (by repeat (first | exact Sel.nil | (apply Sel.cons; · (repeat (first | exact Pick.here | apply Pick.there)))))⟩

set_option maxHeartbeats 400000 in
theorem done_ok {w : World} {F : Nat → Prop} {g TE : Nat} {ea : Nat → Addr} {s : WS} (h : stars [WrR TE ea g s] w F) (hb : s.bs.length ≤ 1099511627776) :
    Calls Tryz.prog 133 #[.pointer (some ⟨g, 0, none⟩)] w (Post w F (fun r : Option Addr × Nat => .tuple #[.slice r.1 (wOut (s)).length r.2, eV TE ea (s).err]) (fun r => [rowR 5 1 r.1 (wOut (s)).length r.2 ((wOut (s)).map B8)])) := by
  obtain ⟨a0, c0, h'⟩ := wr_open h
  refine g_enter (env := [(0, .pointer (some ⟨g, 0, none⟩))]) Tryz.func133 rfl h' Tryz.ntmps133 rfl rfl ?_
  refine gsr ?_
  refine gp zas ?_
  refine gp zas ?_
  refine gnt ?_
  refine gc_seq ?_
  refine gsr ?_
  refine gp zmv ?_
  refine gp znc ?_
  refine gp zfa ?_
  refine gp zfa ?_
  refine gp zl ?_
  refine gp (r_nenil rfl (by kernel_rfl)) ?_
  refine gnt ?_
  refine gif rfl (fun hc9 => ?_) (fun hc9 => ?_)
  · refine gc_seq ?_
    refine gc_regionS (by kernel_rfl) (by kernel_rfl) ?_
    refine sp zmv ?_
    refine sp znc ?_
    refine sp zfa ?_
    refine sp zfa ?_
    refine sp zl ?_
    refine sp zas ?_
    refine sp zas ?_
    refine gs_nil ?_
    refine gx_then ?_
    refine gc_ret ?_
    refine gx_then_ret ?_
    refine gx_ret2 rfl (by conv => lhs; whnf) (by conv => lhs; whnf) ?_
    exact fun w' hw => ⟨(none, 0), by simp [wOut, hc9], by simpa [wOut, hc9] using hw.rowNil.sel (by repeat (first | exact Sel.nil | (apply Sel.cons; · (repeat (first | exact Pick.here | apply Pick.there)))))⟩
  · refine gc_skip ?_
    refine gx_then ?_
    refine gsr ?_
    refine gp zmv ?_
    refine gp znc ?_
    refine gp zfa ?_
    refine gp zl ?_
    refine zc (fun r19 => ?_) (c := fun w1 F1 F2 h1 h2 hd hst => cloneBytes_ok (xs := s.bs.map B8) h1 (rd_row h2 hd (by repeat (first | exact Pick.here | apply Pick.there))) (one_B8 _) (by omega))
    refine gp zas ?_
    refine gp zas ?_
    refine gnt ?_
    refine gc_ret ?_
    refine gx_ret2 rfl (by conv => lhs; whnf) (by conv => lhs; whnf) ?_
    have e : wOut s = s.bs := by simp [wOut, hc9]
    rw [e]
    exact fun w' hw => ⟨r19, by rw [hc9, eV_zero], hw.sel (by repeat (first | exact Sel.nil | (apply Sel.cons; · (repeat (first | exact Pick.here | apply Pick.there)))))⟩

set_option maxHeartbeats 400000 in
theorem written_ok {w : World} {F : Nat → Prop} {b T k TE : Nat} {ea : Nat → Addr} {cs : List Value} {fw : WS → WS} (h : stars [blk b T cs] w F) (hok : okCall Tryz.prog k = true) (hk : ∀ g w1 F1, stars [WrR TE ea g ⟨0, []⟩, blk b T cs] w1 F1 → Still w (fun k => ¬ F k) w1 (fun k => ¬ F1 k) → Calls Tryz.prog k #[.agg (List.toArray [.pointer (some ⟨g, 0, none⟩)]), .pointer (some ⟨b, 0, none⟩)] w1 (Post w1 F1 (fun _ : Unit => .tuple #[]) (fun _ => [WrR TE ea g (fw ⟨0, []⟩), blk b T cs]))) (hb : (fw ⟨0, []⟩).bs.length ≤ 1099511627776) :
    Calls Tryz.prog 124 #[.func (.func k) #[] (List.toArray [.pointer (some ⟨b, 0, none⟩)])] w (Post w F (fun r : Option Addr × Nat => .tuple #[.slice r.1 (wOut (fw ⟨0, []⟩)).length r.2, eV TE ea (fw ⟨0, []⟩).err]) (fun r => [rowR 5 1 r.1 (wOut (fw ⟨0, []⟩)).length r.2 ((wOut (fw ⟨0, []⟩)).map B8)])) := by
  refine g_enter (env := [(0, .func (.func k) #[] (List.toArray [.pointer (some ⟨b, 0, none⟩)]))]) Tryz.func124 rfl h Tryz.ntmps124 rfl rfl ?_
  refine gsr ?_
  refine gp zas ?_
  refine gp zas ?_
  refine gnt ?_
  refine gsr ?_
  refine zc (fun g => ?_) (c := fun w1 F1 F2 h1 h2 hd hst => newwriter_ok (TE := TE) (ea := ea) h1)
  refine gp zbu ?_
  refine zal fun b4 => ?_
  refine zsN ?_
  refine gnt ?_
  refine gsr ?_
  refine gp zmv ?_
  refine gp zL ?_
  refine gl_call (wt0 rfl) (e_callv (us := [.pointer (some ⟨b, 0, none⟩)]) rfl hok rfl) (by repeat (first | exact Sel.nil | (apply Sel.cons; · (repeat (first | exact Pick.here | apply Pick.there))))) (fun w1 F1 F2 h1 h2 hd hst => hk _ _ _ h1 hst.still) ?_
  intro _
  refine gnt ?_
  refine gsr ?_
  refine gp zfa ?_
  refine gp zl ?_
  refine zc (fun r12 => ?_) (c := fun w1 F1 F2 h1 h2 hd hst => done_ok h1 hb)
  refine gp zex ?_
  refine gp zex ?_
  refine gp zas ?_
  refine gp zas ?_
  refine gnt ?_
  refine gc_ret ?_
  refine gx_ret2 rfl (by conv => lhs; whnf) (by conv => lhs; whnf) ?_
  exact ze r12

set_option maxHeartbeats 400000 in
theorem bytes1_ok {w : World} {F : Nat → Prop} {g TE : Nat} {ea : Nat → Addr} {s : WS} {b : Nat} {cs : List Value} {x : Block} (h : stars [WrR TE ea g s, blk b 30 cs] w F) {es : List Nat} [Has es 1] (hE : GErr es w (fun k => ¬ F k) TE ea) (hx : RdBlock w (fun k => ¬ F k) cs x) (hb : s.bs.length + 8485 ≤ 1099511627776) :
    Calls Tryz.prog 125 #[.agg (List.toArray [.pointer (some ⟨g, 0, none⟩)]), .pointer (some ⟨b, 0, none⟩)] w (Post w F (fun _ : Unit => .tuple #[]) (fun _ => [WrR TE ea g (wBlock x s), blk b 30 cs])) := by
  have hl := hx.len
  refine g_enter (env := [(0, .agg (List.toArray [.pointer (some ⟨g, 0, none⟩)])), (1, .pointer (some ⟨b, 0, none⟩))]) Tryz.func125 rfl h Tryz.ntmps125 rfl rfl ?_
  refine gsr ?_
  refine zbN fun b2 => ?_
  refine gnt ?_
  refine gc_region ?_
  refine gp zL ?_
  refine gp (r_ldN rfl Ty.row_30 Ty.sz_30 (by repeat (first | exact Pick.here | apply Pick.there)) (seg_all hl) hl) ?_
  refine zc (fun _ => ?_) (c := fun w1 F1 F2 h1 h2 hd hst => block_ok h1 (hE.mv hst.still) (hx.mv hst.still) hb)
  refine gl_nil ?_
  refine gx_ret0' rfl ?_
  exact ze ()

set_option maxHeartbeats 400000 in
theorem bytes_ok {w : World} {F : Nat → Prop} {TE : Nat} {ea : Nat → Addr} {cs : List Value} {x : Block} (h : stars [] w F) {es : List Nat} [Has es 1] (hE : GErr es w (fun k => ¬ F k) TE ea) (hx : RdBlock w (fun k => ¬ F k) cs x) :
    Calls Tryz.prog 86 #[.agg cs.toArray] w (Post w F (fun r : Option Addr × Nat => .tuple #[.slice r.1 (wOut (wBlock x ⟨0, []⟩)).length r.2, eV TE ea (wBlock x ⟨0, []⟩).err]) (fun r => [rowR 5 1 r.1 (wOut (wBlock x ⟨0, []⟩)).length r.2 ((wOut (wBlock x ⟨0, []⟩)).map B8)])) := by
  refine g_enter (env := [(0, .agg cs.toArray)]) Tryz.func86 rfl h Tryz.ntmps86 rfl rfl ?_
  refine gsr ?_
  refine zbN fun b1 => ?_
  refine gp zas ?_
  refine gp zas ?_
  refine gnt ?_
  refine gsr ?_
  refine gp zmf ?_
  refine zc (fun r5 => ?_) (c := fun w1 F1 F2 h1 h2 hd hst => written_ok (fw := wBlock x) h1 Ty.call_125 (fun g w2 F3 h2 hs2 => bytes1_ok h2 ((hE.mv hst.still).mv hs2) ((hx.mv hst.still).mv hs2) (by simp)) (by have e0 := wBlock_len x ⟨0, []⟩; simp at e0 ⊢; omega))
  refine gp zex ?_
  refine gp zex ?_
  refine gp zas ?_
  refine gp zas ?_
  refine gnt ?_
  refine gc_ret ?_
  refine gx_ret2 rfl (by conv => lhs; whnf) (by conv => lhs; whnf) ?_
  exact ze r5

end Go.Proofs.YtobjojeliibinaaGreatDoor

/- Walks, by program (wg.py) out of a spec. -/
namespace Go.Proofs.YtobjojeliibinaaGreatDoor
open Go
set_option linter.unusedVariables false
set_option linter.unusedSimpArgs false


theorem V8.add_get (x y : V8) (k : Nat) : (x.add y).get k = x.get k + y.get k := by
  unfold V8.get V8.add; split <;> rfl
theorem v8c_length (v : V8) : (v8c v).length = 8 := rfl
instance {v : V8} : Len (v8c v) 8 := ⟨v8c_length v⟩
theorem v8c_one (v : V8) : ∀ u ∈ v8c v, u.oneCell' = true := fun u hu => fnc_one (V := W32) (m := 8) (f := v.get) (fun _ => rfl) u hu

attribute [local irreducible] Gl Gc Gx Gs Runs Wt

set_option maxHeartbeats 400000 in
theorem take_ok {w : World} {F : Nat → Prop} {g T : Nat} {v : V8} {tl : List Value} (h : stars [blk g T (v8c v ++ tl)] w F) (hK : KR w (fun k => ¬ F k)) {b : List UInt8} {a : Option Addr} {c : Nat} (hx : RdRow w (fun k => ¬ F k) 1 a 64 (b.map B8))  :
    Calls Tryz.prog 168 #[.pointer (some ⟨g, 0, none⟩), .slice a 64 c] w (Post w F (fun _ : Unit => .tuple #[]) (fun _ => [blk g T (v8c (take64 Kc v b) ++ tl)])) := by
  refine g_enter (env := [(0, .pointer (some ⟨g, 0, none⟩)), (1, .slice a 64 c)]) Tryz.func168 rfl h Tryz.ntmps168 rfl rfl ?_
  refine gsr ?_
  refine gp zmv ?_
  refine zc (fun _ => ?_) (c := fun w1 F1 F2 h1 h2 hd hst => schedule_ok h1 (hx.mv hst.still))
  refine zal fun b4 => ?_
  refine gl_storeN (wt0 rfl) rfl rfl Ty.sz_260 fnc_length (by repeat (first | exact Pick.here | apply Pick.there)) (by simp) (fnc_one fun _ => rfl) (updL_all (by simp [fnc_length])) ?_
  refine gnt ?_
  refine gc_seq ?_
  refine gc_regionS (by kernel_rfl) (by kernel_rfl) ?_
  refine sp zmv ?_
  refine sp znc ?_
  refine sp (r_indexAddr_arr rfl rfl Ty.arr_278 Ty.sz_259 (by decide) (by decide)) ?_
  refine sp zl ?_
  refine sp zmv ?_
  refine sp znc ?_
  refine sp (r_indexAddr_arr rfl rfl Ty.arr_278 Ty.sz_259 (by decide) (by decide)) ?_
  refine sp zl ?_
  refine sp zmv ?_
  refine sp znc ?_
  refine sp (r_indexAddr_arr rfl rfl Ty.arr_278 Ty.sz_259 (by decide) (by decide)) ?_
  refine sp zl ?_
  refine sp zmv ?_
  refine sp znc ?_
  refine sp (r_indexAddr_arr rfl rfl Ty.arr_278 Ty.sz_259 (by decide) (by decide)) ?_
  refine sp zl ?_
  refine sp zas ?_
  refine sp zas ?_
  refine sp zas ?_
  refine sp zas ?_
  refine gs_nil ?_
  refine gx_then ?_
  refine gc_seq ?_
  refine gc_regionS (by kernel_rfl) (by kernel_rfl) ?_
  refine sp zmv ?_
  refine sp znc ?_
  refine sp (r_indexAddr_arr rfl rfl Ty.arr_278 Ty.sz_259 (by decide) (by decide)) ?_
  refine sp zl ?_
  refine sp zmv ?_
  refine sp znc ?_
  refine sp (r_indexAddr_arr rfl rfl Ty.arr_278 Ty.sz_259 (by decide) (by decide)) ?_
  refine sp zl ?_
  refine sp zmv ?_
  refine sp znc ?_
  refine sp (r_indexAddr_arr rfl rfl Ty.arr_278 Ty.sz_259 (by decide) (by decide)) ?_
  refine sp zl ?_
  refine sp zmv ?_
  refine sp znc ?_
  refine sp (r_indexAddr_arr rfl rfl Ty.arr_278 Ty.sz_259 (by decide) (by decide)) ?_
  refine sp zl ?_
  refine sp zas ?_
  refine sp zas ?_
  refine sp zas ?_
  refine sp zas ?_
  refine gs_nil ?_
  refine gx_then ?_
  refine gc_seq ?_
  refine gsr ?_
  refine gp zmv ?_
  refine gnt ?_
  refine gc_block ?_
  refine gc_loop (α := Nat) (fun k => [pureR (k ≤ 64), blk b4 260 (fnc W32 64 (sch b)), blk g T (v8c v ++ tl)]) (fun k => [(54, .int .i64 (k : Int)), (5, W32 (rnds Kc (sch b) v k).a), (9, W32 (rnds Kc (sch b) v k).b), (6, W32 (rnds Kc (sch b) v k).c), (10, W32 (rnds Kc (sch b) v k).d), (7, W32 (rnds Kc (sch b) v k).e), (11, W32 (rnds Kc (sch b) v k).f), (8, W32 (rnds Kc (sch b) v k).g), (12, W32 (rnds Kc (sch b) v k).h)]) [13, 14, 15, 16, 17, 55, 56, 57, 58, 59, 60, 61, 62, 63, 64, 65, 66, 67, 68, 69, 70, 71, 72, 73, 74, 75, 76, 77, 78, 79, 80, 81, 82, 83, 84, 85, 86, 87, 88, 89, 90, 91, 92, 93, 94, 95, 96, 97, 98, 99, 100, 101, 102, 103, 104, 105, 106, 107, 108, 109, 110, 111, 112, 113, 114, 115, 116, 117, 118] (fun k => 64 - k) 0 ?_ ?_ ?_
  · refine env_start (by kernel_rfl)
  · rintro w' hw
    obtain ⟨F', hF', hst'⟩ := hw.sel (M := [blk b4 260 _, blk g T _]) (by repeat (first | exact Sel.nil | (apply Sel.cons; · (repeat (first | exact Pick.here | apply Pick.there)))))
    exact ⟨F', stars_pure_mk (Nat.zero_le _) hF', hst'⟩
  · intro k u
    refine gc_pureR (fun hk => ?_)
    replace hk : k ≤ 64 := hk
    refine gsr ?_
    refine gp zlt ?_
    refine gnt ?_
    refine gc_seq ?_
    refine gif rfl (fun hc55 => ?_) (fun hc55 => ?_)
    · have hk' : k < 64 := by (try simp only at hc55); omega
      refine gc_skip ?_
      refine gx_then ?_
      refine gc_seq ?_
      refine gc_block ?_
      refine gsr ?_
      refine gp zmv ?_
      refine gp zas ?_
      refine gnt ?_
      refine gsr ?_
      refine gp zmv ?_
      refine zc (fun _ => ?_) (c := fun w1 F1 F2 h1 h2 hd hst => rot_ok (n := 6) h1 (by decide) (by decide))
      refine gp zmv ?_
      refine zc (fun _ => ?_) (c := fun w1 F1 F2 h1 h2 hd hst => rot_ok (n := 11) h1 (by decide) (by decide))
      refine gp zwx ?_
      refine gp zmv ?_
      refine zc (fun _ => ?_) (c := fun w1 F1 F2 h1 h2 hd hst => rot_ok (n := 25) h1 (by decide) (by decide))
      refine gp zwx ?_
      refine gp zas ?_
      refine gnt ?_
      refine gc_seq ?_
      refine gc_regionS (by kernel_rfl) (by kernel_rfl) ?_
      refine sp zmv ?_
      refine sp zmv ?_
      refine sp zwa ?_
      refine sp zmv ?_
      refine sp zmv ?_
      refine sp zwn ?_
      refine sp zmv ?_
      refine sp zwc ?_
      refine sp zmv ?_
      refine sp zwn ?_
      refine sp zwx ?_
      refine sp zwa ?_
      refine sp zmv ?_
      refine sp (r_indexAddr_arr rfl rfl Ty.arr_260 Ty.sz_259 (by omega) (by omega)) ?_
      refine sp (r_ld1o rfl Ty.row_259 (hK.at (i := k) (by omega) hk') hK.n) ?_
      refine sp zwa ?_
      refine sp zmv ?_
      refine sp (r_indexAddr_arr rfl rfl Ty.arr_260 Ty.sz_259 (by omega) (by omega)) ?_
      refine sp (r_ld1 (v := W32 (sch b k)) rfl Ty.row_259 (by repeat (first | exact Pick.here | apply Pick.there)) (by rw [show 0 + (k : Int).toNat * 1 = k by omega]; exact fnc_get hk')) ?_
      refine sp zwa ?_
      refine sp zas ?_
      refine gs_nil ?_
      refine gx_then ?_
      refine gsr ?_
      refine gp zmv ?_
      refine zc (fun _ => ?_) (c := fun w1 F1 F2 h1 h2 hd hst => rot_ok (n := 2) h1 (by decide) (by decide))
      refine gp zmv ?_
      refine zc (fun _ => ?_) (c := fun w1 F1 F2 h1 h2 hd hst => rot_ok (n := 13) h1 (by decide) (by decide))
      refine gp zwx ?_
      refine gp zmv ?_
      refine zc (fun _ => ?_) (c := fun w1 F1 F2 h1 h2 hd hst => rot_ok (n := 22) h1 (by decide) (by decide))
      refine gp zwx ?_
      refine gp zas ?_
      refine gnt ?_
      refine gsr ?_
      refine gp zmv ?_
      refine gp zmv ?_
      refine gp zmv ?_
      refine gp zwn ?_
      refine gp zmv ?_
      refine gp zmv ?_
      refine gp zwn ?_
      refine gp zwx ?_
      refine gp zmv ?_
      refine gp zmv ?_
      refine gp zwn ?_
      refine gp zwx ?_
      refine gp zwa ?_
      refine gp zas ?_
      refine gnt ?_
      refine gc_region ?_
      refine gp zmv ?_
      refine gp zmv ?_
      refine gp zmv ?_
      refine gp zmv ?_
      refine gp zmv ?_
      refine gp zwa ?_
      refine gp zmv ?_
      refine gp zmv ?_
      refine gp zmv ?_
      refine gp zmv ?_
      refine gp zmv ?_
      refine gp zwa ?_
      refine gp zas ?_
      refine gp zas ?_
      refine gp zas ?_
      refine gp zas ?_
      refine gp zas ?_
      refine gp zas ?_
      refine gp zas ?_
      refine gp zas ?_
      refine gl_nil ?_
      refine gx_block_normal ?_
      refine gx_then ?_
      refine gc_region ?_
      refine gp zad ?_
      refine gp zmv ?_
      refine gl_nil ?_
      refine zrd (k + 1) ?_ ?_
      · show 64 - (k + 1) < 64 - k
        omega
      · rintro w' hw
        obtain ⟨F', hF', hst'⟩ := hw.sel (M := [blk b4 260 _, blk g T _]) (by repeat (first | exact Sel.nil | (apply Sel.cons; · (repeat (first | exact Pick.here | apply Pick.there)))))
        exact ⟨F', stars_pure_mk (show k + 1 ≤ 64 by omega) hF', hst'⟩
    · have hk' : k = 64 := by (try simp only at hc55); omega
      subst hk'
      refine gc_exit ?_
      refine gx_then_exit ?_
      refine gx_round_exit ?_
      refine gx_block_hit ?_
      refine gx_then ?_
      refine gsr ?_
      refine gp zmv ?_
      refine gp zmv ?_
      refine gp zmv ?_
      refine gp zmv ?_
      refine gp zmv ?_
      refine gp zmv ?_
      refine gp zmv ?_
      refine gp zmv ?_
      refine gp zba ?_
      refine gp zmv ?_
      refine gnt ?_
      refine gc_block ?_
      generalize hV : rnds Kc (sch b) v 64 = V
      refine gc_loop (α := Nat) (fun k => [pureR (k ≤ 8), blk g T (fnc W32 8 (pfx (v.add V).get v.get k) ++ tl)]) (fun k => [(128, .int .i64 (k : Int))]) [18, 19, 129, 130, 131, 132, 133, 134, 135, 136, 137, 138, 139, 140, 141] (fun k => 8 - k) 0 ?_ ?_ ?_
      · refine env_start (by kernel_rfl)
      · rintro w' hw
        obtain ⟨F', hF', hst'⟩ := hw.sel (M := [blk g T _]) (by repeat (first | exact Sel.nil | (apply Sel.cons; · (repeat (first | exact Pick.here | apply Pick.there)))))
        refine ⟨F', stars_pure_mk (Nat.zero_le _) ?_, hst'⟩
        show stars [blk g T (fnc W32 8 (pfx (v.add V).get v.get 0) ++ tl)] w' F'
        rw [pfx_zero]
        exact hF'
      · intro k u
        refine gc_pureR (fun hk => ?_)
        replace hk : k ≤ 8 := hk
        refine gsr ?_
        refine gp zlt ?_
        refine gnt ?_
        refine gc_seq ?_
        refine gif rfl (fun hc129 => ?_) (fun hc129 => ?_)
        · have hk' : k < 8 := by (try simp only at hc129); omega
          refine gc_skip ?_
          refine gx_then ?_
          refine gc_seq ?_
          refine gc_block ?_
          refine gsr ?_
          refine gp zmv ?_
          refine gp (r_index1 (cs := fnc W32 8 V.get) (v := W32 (V.get k)) rfl rfl Ty.arr_261 Ty.sz_259 Ty.row_259 (by omega) (by omega) (by rw [show (k : Int).toNat * 1 = k by omega]; exact fnc_get hk')) ?_
          refine gp zas ?_
          refine gp zas ?_
          refine gnt ?_
          refine gc_regionT 9 (by kernel_rfl) (by kernel_rfl) ?_
          refine sp zmv ?_
          refine sp zmv ?_
          refine sp znc ?_
          refine sp (r_indexAddr_arr rfl rfl Ty.arr_278 Ty.sz_259 (by omega) (by omega)) ?_
          refine sp (r_ld1 (v := W32 (v.get k)) rfl Ty.row_259 (by repeat (first | exact Pick.here | apply Pick.there)) (get_left (pfx_get2 (by omega) (by omega) (by omega)))) ?_
          refine sp zmv ?_
          refine sp zwa ?_
          refine sp znc ?_
          refine sp (r_indexAddr_arr rfl rfl Ty.arr_278 Ty.sz_259 (by omega) (by omega)) ?_
          refine gs_nil ?_
          refine gl_store1 (wt0 rfl) rfl rfl rfl Ty.sz_259 (by repeat (first | exact Pick.here | apply Pick.there)) (by rw [List.length_append, fnc_length]; omega) ((updL_left (by rw [fnc_length]; simp; omega)).trans (congrArg (· ++ tl) (pfx_set (k := k) (by omega) (by omega) (congrArg W32 (V8.add_get _ _ _).symm)))) ?_
          refine gl_nil ?_
          refine gx_block_normal ?_
          refine gx_then ?_
          refine gc_region ?_
          refine gp zad ?_
          refine gp zmv ?_
          refine gl_nil ?_
          refine zrd (k + 1) ?_ ?_
          · show 8 - (k + 1) < 8 - k
            omega
          · rintro w' hw
            obtain ⟨F', hF', hst'⟩ := hw.sel (M := [blk g T _]) (by repeat (first | exact Sel.nil | (apply Sel.cons; · (repeat (first | exact Pick.here | apply Pick.there)))))
            exact ⟨F', stars_pure_mk (show k + 1 ≤ 8 by omega) hF', hst'⟩
        · have hk' : k = 8 := by (try simp only at hc129); omega
          subst hk'
          refine gc_exit ?_
          refine gx_then_exit ?_
          refine gx_round_exit ?_
          refine gx_block_hit ?_
          refine gx_ret0' rfl ?_
          have e : v8c (take64 Kc v b) = fnc W32 8 (pfx (v.add V).get v.get 8) := by rw [pfx_full, ← hV]; rfl
          rw [e]
          exact ze ()

end Go.Proofs.YtobjojeliibinaaGreatDoor

/- Walks, by program (wg.py) out of a spec. -/
namespace Go.Proofs.YtobjojeliibinaaGreatDoor
open Go
set_option linter.unusedVariables false
set_option linter.unusedSimpArgs false


def HashR (g : Nat) (s : HS) : Res := exR fun p : Option Addr × Nat => allR [blk g 281 (v8c s.v ++ [.slice p.1 s.rest.length p.2, .int .u64 (s.len : Int)]), rowR 5 1 p.1 s.rest.length p.2 (s.rest.map B8)]
theorem h_open {g : Nat} {s : HS} {L : List Res} {w : World} {F : Nat → Prop} (h : stars (HashR g s :: L) w F) :
    ∃ a c, stars (blk g 281 (v8c s.v ++ [.slice a s.rest.length c, .int .u64 (s.len : Int)]) :: rowR 5 1 a s.rest.length c (s.rest.map B8) :: L) w F := by
  obtain ⟨⟨a, c⟩, h⟩ := stars_ex h
  exact ⟨a, c, stars_all h⟩
theorem St.hash {w0 w : World} {F0 : Nat → Prop} {g m c : Nat} {a : Option Addr} {v : V8} {l : Nat} {s : HS} {L : List Res} {xs : List Value}
    (h : St w0 F0 (blk g 281 (v8c v ++ [.slice a m c, .int .u64 (l : Int)]) :: rowR 5 1 a m c xs :: L) w) (hv : v = s.v) (hr : xs = s.rest.map B8) (hm : m = s.rest.length) (hl : l = s.len) : St w0 F0 (HashR g s :: L) w := by
  subst hv; subst hr; subst hl; subst hm
  obtain ⟨F, hF, hst⟩ := h
  exact ⟨F, stars_ex_mk (a, c) (stars_all_mk hF), hst⟩
theorem h_new {w0 w : World} {F0 : Nat → Prop} {g : Nat} (h : St w0 F0 [blk g 281 (v8c v0 ++ [.slice none 0 0, .int .u64 0])] w) : St w0 F0 [HashR g hs0] w := by
  obtain ⟨F, hF, hst⟩ := h
  have h1 : St w0 F0 [rowR 5 1 none 0 0 [], blk g 281 (v8c v0 ++ [.slice none 0 0, .int .u64 0])] w := ⟨F, stars_row_nil hF, hst⟩
  exact St.hash (l := 0) (h1.sel (M := [blk g 281 (v8c v0 ++ [.slice none 0 0, .int .u64 ((0 : Nat) : Int)]), rowR 5 1 none 0 0 []]) (by repeat (first | exact Sel.nil | (apply Sel.cons; · (repeat (first | exact Pick.here | apply Pick.there)))))) rfl rfl rfl rfl

attribute [local irreducible] Gl Gc Gx Gs Runs Wt

set_option maxHeartbeats 400000 in
theorem begin_ok {w : World} {F : Nat → Prop} (h : stars [] w F) :
    Calls Tryz.prog 167 #[] w (Post w F (fun _ : Unit => .agg (v8c v0).toArray) (fun _ => [])) := by
  refine g_enter (env := []) Tryz.func167 rfl h Tryz.ntmps167 rfl rfl ?_
  refine gsr ?_
  refine zal fun b0 => ?_
  refine gnt ?_
  refine gsr ?_
  refine gp zba ?_
  refine zsN ?_
  refine gnt ?_
  refine gc_ret ?_
  refine gx_retc rfl rfl (ld_aggS Ty.row_278 Ty.sz_278 (by repeat (first | exact Pick.here | apply Pick.there)) (by (simp only [List.drop_succ_cons, List.drop_zero, List.take_succ_cons, List.take_zero, List.cons_append, List.nil_append, List.append_assoc, drop_dc, drop_dc', take_dc, take_dc', drop_L, drop_L', take_L, take_L', len_L, Nat.reduceLeDiff, Nat.reduceSub, Nat.reduceAdd, Nat.le_refl, List.length_cons, List.length_append, List.length_nil, dc_length, List.drop_nil, List.take_nil, List.append_nil, List.length_map, List.length_replicate]; first | done | rfl)) (by first | rfl | (simp only [List.drop_succ_cons, List.drop_zero, List.take_succ_cons, List.take_zero, List.cons_append, List.nil_append, List.append_assoc, drop_dc, drop_dc', take_dc, take_dc', drop_L, drop_L', take_L, take_L', len_L, Nat.reduceLeDiff, Nat.reduceSub, Nat.reduceAdd, Nat.le_refl, List.length_cons, List.length_append, List.length_nil, dc_length, List.drop_nil, List.take_nil, List.append_nil, List.length_map, List.length_replicate]; first | done | omega))) ?_
  exact fun w' hw => ⟨(), congrArg (fun l : List Value => Ending.returned (.agg l.toArray)) (by kernel_rfl), hw.sel (by repeat (first | exact Sel.nil | (apply Sel.cons; · (repeat (first | exact Pick.here | apply Pick.there)))))⟩

set_option maxHeartbeats 400000 in
theorem hnew_ok {w : World} {F : Nat → Prop} (h : stars [] w F) :
    Calls Tryz.prog 127 #[] w (Post w F (fun g : Nat => .pointer (some ⟨g, 0, none⟩)) (fun g => [HashR g hs0])) := by
  refine g_enter (env := []) Tryz.func127 rfl h Tryz.ntmps127 rfl rfl ?_
  refine gsr ?_
  refine gp zas ?_
  refine gnt ?_
  refine gsr ?_
  refine zc (fun _ => ?_) (c := fun w1 F1 F2 h1 h2 hd hst => begin_ok h1)
  refine gp zbu ?_
  refine zbN fun b3 => ?_
  refine gp zas ?_
  refine gnt ?_
  refine gc_ret ?_
  refine gx_ret1 rfl (by conv => lhs; whnf) ?_
  exact fun w' hw => ⟨b3, rfl, h_new (hw.sel (by repeat (first | exact Sel.nil | (apply Sel.cons; · (repeat (first | exact Pick.here | apply Pick.there))))))⟩

set_option maxHeartbeats 400000 in
theorem hwrite_ok {w : World} {F : Nat → Prop} {g : Nat} {s : HS} {b : List UInt8} {a : Option Addr} {n c : Nat} (h : stars [HashR g s] w F) (hK : KR w (fun k => ¬ F k)) (hx : RdRow w (fun k => ¬ F k) 1 a n (b.map B8)) (hr : s.rest.length < 64) (hb : s.len + b.length ≤ 1099511627776) :
    Calls Tryz.prog 128 #[.pointer (some ⟨g, 0, none⟩), .slice a n c] w (Post w F (fun _ : Unit => .tuple #[]) (fun _ => [HashR g (hWrite Kc s b)])) := by
  obtain ⟨a0, c0, h'⟩ := h_open h
  have hnb : n = b.length := by have := hx.1; simp at this; omega
  refine g_enter (env := [(0, .pointer (some ⟨g, 0, none⟩)), (1, .slice a n c)]) Tryz.func128 rfl h' Tryz.ntmps128 rfl rfl ?_
  refine gsr ?_
  refine gp zmv ?_
  refine gp znc ?_
  refine gp zfa ?_
  refine gp zl ?_
  refine gp zmv ?_
  refine gp zln ?_
  refine gp (r_int (r_conv_int rfl Ty.un_3 Ty.un_258) (wrap_u64 (by omega) (by omega))) ?_
  refine gp (r_int (r_arith (op := .add) rfl rfl (wrap_u64 (by omega) (by omega))) (show (s.len : Int) + (n : Int) = ((s.len + b.length : Nat) : Int) by omega)) ?_
  refine gp znc ?_
  refine gp zfa ?_
  refine zs1 ?_
  refine gnt ?_
  refine gsr ?_
  refine gp zmv ?_
  refine gp zmv ?_
  refine gp znc ?_
  refine gp zfa ?_
  refine gp zl ?_
  refine gp zmv ?_
  refine gl_append (wt0 rfl) rfl rfl (by repeat (first | exact Pick.here | apply Pick.there)) Ty.el_86 (fun w' hw => hw.rdOld hx) (one_B8 _) (by simp only [maxLen]; omega) (by omega) ?_
  intro a1 c1
  refine gp znc ?_
  refine gp zfa ?_
  refine zs1 ?_
  refine gnt ?_
  refine gc_block ?_
  refine gc_loop (α := V8 × List UInt8 × Option Addr × Nat) (fun x => [pureR (takes Kc x.1 x.2.1 = takes Kc s.v (s.rest ++ b) ∧ x.2.1.length ≤ 1099511627840), blk g 281 (v8c x.1 ++ [.slice x.2.2.1 x.2.1.length x.2.2.2, .int .u64 ((s.len + b.length : Nat) : Int)]), rowR 5 1 x.2.2.1 x.2.1.length x.2.2.2 (x.2.1.map B8)]) (fun x => []) [23, 24, 25, 26, 27, 28, 29, 30, 31, 32, 33, 34, 35, 36, 37, 38, 39, 40, 41, 42, 43, 44, 45] (fun x => x.2.1.length) (s.v, s.rest ++ b, a1, c1) ?_ ?_ ?_
  · refine env_start (by kernel_rfl)
  · rintro w' hw
    obtain ⟨F', hF', hst'⟩ := hw.sel (M := [blk g 281 _, rowR 5 1 a1 _ c1 _]) (by repeat (first | exact Sel.nil | (apply Sel.cons; · (repeat (first | exact Pick.here | apply Pick.there)))))
    refine ⟨F', stars_pure_mk ⟨rfl, by simp; omega⟩ ?_, hst'⟩
    show stars [blk g 281 (v8c s.v ++ [.slice a1 (s.rest ++ b).length c1, .int .u64 ((s.len + b.length : Nat) : Int)]), rowR 5 1 a1 (s.rest ++ b).length c1 ((s.rest ++ b).map B8)] w' F'
    rw [List.length_append, List.map_append]
    rw [hnb] at hF'
    exact hF'
  · intro x u
    obtain ⟨v, r, a1, c1⟩ := x
    refine gc_pureR (fun hk => ?_)
    replace hk : takes Kc v r = takes Kc s.v (s.rest ++ b) ∧ r.length ≤ 1099511627840 := hk
    refine gc_fact (p := r.length ≤ c1) (fun w hw => (hw.rowLe (e := 5) (size := 1) (a := a1) (m := r.length) (c := c1) (xs := r.map B8) (by repeat (first | exact Pick.here | apply Pick.there))).1) (fun hc1 => ?_)
    refine gc_seq ?_
    refine gsr ?_
    refine gp zmv ?_
    refine gp znc ?_
    refine gp zfa ?_
    refine gp zl ?_
    refine gp zln ?_
    refine gp zge ?_
    refine gnt ?_
    refine gif rfl (fun hc28 => ?_) (fun hc28 => ?_)
    · have hk' : 64 ≤ r.length := by (try simp only at hc28); omega
      refine gc_skip ?_
      refine gx_then ?_
      refine gc_block ?_
      refine gc_seq ?_
      refine gc_regionT 8 (by kernel_rfl) (by kernel_rfl) ?_
      refine sp zmv ?_
      refine sp znc ?_
      refine sp zfa ?_
      refine sp zmv ?_
      refine sp znc ?_
      refine sp zfa ?_
      refine sp zl ?_
      refine sp (r_slice_slice (a := a1) (m := r.length) (c := c1) (l := 0) (h := 64) rfl Ty.sl_86 Ty.sz_5 rfl ⟨_, rfl⟩ (by omega) (by omega)) ?_
      refine gs_nil ?_
      refine zc (fun _ => ?_) (c := fun w1 F1 F2 h1 h2 hd hst => take_ok (tl := [.slice a1 r.length c1, .int .u64 ((s.len + b.length : Nat) : Int)]) h1 (hK.mv hst.still) ((rd_row h2 hd (by repeat (first | exact Pick.here | apply Pick.there))).cut8 (l := 0) (h := 64) (by omega) hk' hc1))
      refine gnt ?_
      refine gc_region ?_
      refine gp zmv ?_
      refine gp zmv ?_
      refine gp znc ?_
      refine gp zfa ?_
      refine gp zl ?_
      refine gp (r_slice_slice (a := a1) (m := r.length) (c := c1) (l := 64) (h := r.length) rfl Ty.sl_86 Ty.sz_5 ⟨_, rfl⟩ rfl (by omega) (by omega)) ?_
      refine gp znc ?_
      refine gp zfa ?_
      refine zs1 ?_
      refine gl_nil ?_
      refine gx_block_normal ?_
      refine zrd ((take64 Kc v (r.take 64), r.drop 64, (if c1 = 64 then a1 else a1.map (·.add (64 * 1))), c1 - 64)) ?_ ?_
      · show (r.drop 64).length < r.length
        rw [List.length_drop]
        omega
      · rintro w' hw
        obtain ⟨F', hF', hst'⟩ := hw.sel (M := [rowR 5 1 a1 r.length c1 (r.map B8), blk g 281 _]) (by repeat (first | exact Sel.nil | (apply Sel.cons; · (repeat (first | exact Pick.here | apply Pick.there)))))
        have h2 : St w F [rowR 5 1 (if c1 = 64 then a1 else a1.map (·.add (64 * 1))) (r.length - 64) (c1 - 64) ((r.drop 64).map B8), blk g 281 _] w' := ⟨F', stars_tail8 (by omega) hF', hst'⟩
        obtain ⟨F2, hF2, hst2⟩ := h2.sel (M := [blk g 281 _, rowR 5 1 _ _ _ ((r.drop 64).map B8)]) (by repeat (first | exact Sel.nil | (apply Sel.cons; · (repeat (first | exact Pick.here | apply Pick.there)))))
        refine ⟨F2, stars_pure_mk ⟨?_, ?_⟩ ?_, hst2⟩
        · rw [← hk.1, takes.eq_1 Kc v r, dif_pos (by omega)]
        · show (r.drop 64).length ≤ _; rw [List.length_drop]; omega
        · show stars [blk g 281 (v8c (take64 Kc v (r.take 64)) ++ [.slice (if c1 = 64 then a1 else a1.map (·.add (64 * 1))) (r.drop 64).length (c1 - 64), .int .u64 ((s.len + b.length : Nat) : Int)]), rowR 5 1 (if c1 = 64 then a1 else a1.map (·.add (64 * 1))) (r.drop 64).length (c1 - 64) ((r.drop 64).map B8)] w' F2
          rw [List.length_drop]; exact hF2
    · have hk' : ¬ 64 ≤ r.length := by (try simp only at hc28); omega
      refine gc_exit ?_
      refine gx_then_exit ?_
      refine gx_round_exit ?_
      refine gx_block_hit ?_
      refine gx_ret0' rfl ?_
      have e : takes Kc s.v (s.rest ++ b) = (v, r) := by rw [← hk.1, takes.eq_1, dif_neg hk']
      exact fun w' hw => ⟨(), rfl, St.hash (s := hWrite Kc s b) (hw.sel (M := [blk g 281 _, rowR 5 1 a1 _ c1 _]) (by repeat (first | exact Sel.nil | (apply Sel.cons; · (repeat (first | exact Pick.here | apply Pick.there)))))) (by simp [hWrite, e]) (by simp [hWrite, e]) (by simp [hWrite, e]) rfl⟩

end Go.Proofs.YtobjojeliibinaaGreatDoor

/- Walks, by program (wg.py) out of a spec. -/
namespace Go.Proofs.YtobjojeliibinaaGreatDoor
open Go
set_option linter.unusedVariables false
set_option linter.unusedSimpArgs false


theorem padN_le (m : Nat) : padN m ≤ 63 := by unfold padN; omega
theorem pad_hit {m k : Nat} (h : k ≤ padN m) (hm : m < 64) : (m + 1 + k) % 64 = 56 ↔ k = padN m := by unfold padN at *; omega
theorem fnc_sum (v : V8) : fnc B8 32 (outByte v) = ((List.range 32).map (outByte v)).map B8 := by simp [fnc]
theorem padded_length (s : HS) : (padded s).length = s.rest.length + 1 + padN s.rest.length + 8 := by simp [padded, lenBytes]; omega
theorem takes_nil (K : Nat → UInt32) (v : V8) : takes K v [] = (v, []) := by rw [takes.eq_1, dif_neg (by simp)]
theorem rem_nat {m k : Nat} : Int.tmod (m : Int) (k : Int) = ((m % k : Nat) : Int) := by rw [Int.tmod_eq_emod_of_nonneg (by omega)]; rfl
theorem quo_nat {m k : Nat} : Int.tdiv (m : Int) (k : Int) = ((m / k : Nat) : Int) := by rw [Int.tdiv_eq_ediv_of_nonneg (by omega)]; rfl
def padRow (s : HS) (k : Nat) : List UInt8 := s.rest ++ 128 :: List.replicate k 0
def lenRow (s : HS) (k : Nat) : List UInt8 := s.rest ++ 128 :: (List.replicate (padN s.rest.length) 0 ++ (List.range k).map fun i => UInt8.ofNat (s.len * 8 / 2 ^ (8 * (7 - i))))
theorem padRow_succ (s : HS) (k : Nat) : (padRow s k).map B8 ++ [.int .u8 0] = (padRow s (k + 1)).map B8 := by
  have e : (.int .u8 0 : Value) = B8 0 := rfl
  rw [e]; simp [padRow, List.replicate_succ']
theorem lenRow_zero (s : HS) : lenRow s 0 = padRow s (padN s.rest.length) := by simp [lenRow, padRow]
theorem lenRow_succ (s : HS) (k : Nat) : (lenRow s k).map B8 ++ [B8 (UInt8.ofNat (s.len * 8 / 2 ^ (8 * (7 - k))))] = (lenRow s (k + 1)).map B8 := by simp [lenRow, List.range_succ]
attribute [local irreducible] Gl Gc Gx Gs Runs Wt

set_option maxHeartbeats 400000 in
theorem hsum_ok {w : World} {F : Nat → Prop} {g : Nat} {s : HS} (h : stars [HashR g s] w F) (hK : KR w (fun k => ¬ F k)) (hr : s.rest.length < 64) (hb : s.len ≤ 1099511627776) :
    Calls Tryz.prog 129 #[.pointer (some ⟨g, 0, none⟩)] w (Post w F (fun _ : Unit => .agg (fnc B8 32 (outByte (takes Kc s.v (padded s)).1)).toArray) (fun _ => [HashR g s])) := by
  obtain ⟨a0, c0, h'⟩ := h_open h
  refine g_enter (env := [(0, .pointer (some ⟨g, 0, none⟩))]) Tryz.func129 rfl h' Tryz.ntmps129 rfl rfl ?_
  refine gsr ?_
  refine zal fun b2 => ?_
  refine gnt ?_
  refine gsr ?_
  refine gp zmv ?_
  refine gp znc ?_
  refine gp zfa ?_
  refine gp zL ?_
  refine zal fun b3 => ?_
  refine gl_storeN (wt0 rfl) (cs' := v8c s.v ++ []) rfl rfl Ty.sz_278 (v8c_length _) (by repeat (first | exact Pick.here | apply Pick.there)) (by simp) (v8c_one _) ((updL_all (by simp [v8c_length])).trans (List.append_nil _).symm) ?_
  refine gnt ?_
  refine gsr ?_
  refine ze0 fun b12 => ?_
  refine gp zmv ?_
  refine gp znc ?_
  refine gp zfa ?_
  refine gp zl ?_
  refine gl_append (wt0 rfl) rfl rfl (by repeat (first | exact Pick.here | apply Pick.there)) Ty.el_86 (fun w' hw => hw.row (a := a0) (m := s.rest.length) (c := c0) (by repeat (first | exact Pick.here | apply Pick.there))) (one_B8 _) (by simp only [maxLen]; omega) (by omega) ?_
  intro a17 c17
  rw [show 0 + s.rest.length = s.rest.length from Nat.zero_add _]
  refine ze1 fun b18 => ?_
  refine gl_append (news := [.int .u8 128]) (wt0 rfl) rfl rfl (by repeat (first | exact Pick.here | apply Pick.there)) Ty.el_86 (fun w' hw => hw.row (m := 1) (xs := [.int .u8 128]) (by repeat (first | exact Pick.here | apply Pick.there))) (all_cons' rfl all_nil') (by simp only [maxLen]; omega) (by omega) ?_
  intro a19 c19
  refine gp zas ?_
  refine gnt ?_
  refine gc_seq ?_
  refine gc_block ?_
  refine gc_loop (α := Nat × Option Addr × Nat) (fun x => [pureR (x.1 ≤ padN s.rest.length), rowR 5 1 x.2.1 (s.rest.length + 1 + x.1) x.2.2 ((padRow s x.1).map B8), blk b3 278 (v8c s.v ++ []), blk b2 216 (List.replicate 32 (.int .u8 0)), blk g 281 (v8c s.v ++ [.slice a0 s.rest.length c0, .int .u64 (s.len : Int)]), rowR 5 1 a0 s.rest.length c0 (s.rest.map B8)]) (fun x => [(4, .slice x.2.1 (s.rest.length + 1 + x.1) x.2.2)]) [20, 21, 22, 23, 24, 25, 26] (fun x => padN s.rest.length - x.1) (0, a19, c19) ?_ ?_ ?_
  · refine env_start (by kernel_rfl)
  · rintro w' hw
    obtain ⟨F', hF', hst'⟩ := hw.sel (M := [rowR 5 1 a19 _ c19 _, blk b3 278 (v8c s.v ++ []), blk b2 216 (List.replicate 32 (.int .u8 0)), blk g 281 (v8c s.v ++ [.slice a0 s.rest.length c0, .int .u64 (s.len : Int)]), rowR 5 1 a0 s.rest.length c0 (s.rest.map B8)]) (by repeat (first | exact Sel.nil | (apply Sel.cons; · (repeat (first | exact Pick.here | apply Pick.there)))))
    refine ⟨F', stars_pure_mk (Nat.zero_le _) ?_, hst'⟩
    have e : ([] ++ s.rest.map B8 ++ [.int .u8 128] : List Value) = (padRow s 0).map B8 := by simp [padRow]
    rw [e] at hF'
    exact hF'
  · intro x u
    obtain ⟨k, a4, c4⟩ := x
    refine gc_pureR (fun hk => ?_)
    replace hk : k ≤ padN s.rest.length := hk
    have hp63 := padN_le s.rest.length
    refine gc_seq ?_
    refine gsr ?_
    refine gp zmv ?_
    refine gp zln ?_
    refine gp (r_int (r_rem rfl rfl (by decide)) (rem_nat (m := s.rest.length + 1 + k) (k := 64))) ?_
    refine gp zni ?_
    refine gnt ?_
    refine gif rfl (fun hc23 => ?_) (fun hc23 => ?_)
    · have hk' : k < padN s.rest.length := by have := pad_hit hk hr; (try simp only at hc23); omega
      refine gc_skip ?_
      refine gx_then ?_
      refine gc_block ?_
      refine gc_region ?_
      refine gp zmv ?_
      refine ze1 fun b25 => ?_
      refine gl_append (news := [.int .u8 0]) (a := a4) (m := s.rest.length + 1 + k) (c := c4) (wt0 rfl) rfl rfl (by repeat (first | exact Pick.here | apply Pick.there)) Ty.el_86 (fun w' hw => hw.row (m := 1) (xs := [.int .u8 0]) (by repeat (first | exact Pick.here | apply Pick.there))) (all_cons' rfl all_nil') (by simp only [maxLen]; omega) (by omega) ?_
      intro a26 c26
      refine gp zas ?_
      refine gl_nil ?_
      refine gx_block_normal ?_
      refine zrd ((k + 1, a26, c26)) ?_ ?_
      · show padN s.rest.length - (k + 1) < padN s.rest.length - k
        omega
      · rintro w' hw
        obtain ⟨F', hF', hst'⟩ := hw.sel (M := [rowR 5 1 a26 _ c26 _, blk b3 278 (v8c s.v ++ []), blk b2 216 (List.replicate 32 (.int .u8 0)), blk g 281 (v8c s.v ++ [.slice a0 s.rest.length c0, .int .u64 (s.len : Int)]), rowR 5 1 a0 s.rest.length c0 (s.rest.map B8)]) (by repeat (first | exact Sel.nil | (apply Sel.cons; · (repeat (first | exact Pick.here | apply Pick.there)))))
        refine ⟨F', stars_pure_mk (show k + 1 ≤ _ by omega) ?_, hst'⟩
        rw [padRow_succ] at hF'
        exact hF'
    · have hk' : k = padN s.rest.length := by have := pad_hit hk hr; (try simp only at hc23); omega
      subst hk'
      refine gc_exit ?_
      refine gx_then_exit ?_
      refine gx_round_exit ?_
      refine gx_block_hit ?_
      refine gx_then ?_
      refine gc_seq ?_
      refine gsr ?_
      refine gp zas ?_
      refine gnt ?_
      refine gc_block ?_
      refine gc_loop (α := Nat × Option Addr × Nat) (fun x => [pureR (x.1 ≤ 8), rowR 5 1 x.2.1 (s.rest.length + 1 + padN s.rest.length + x.1) x.2.2 ((lenRow s x.1).map B8), blk b3 278 (v8c s.v ++ []), blk b2 216 (List.replicate 32 (.int .u8 0)), blk g 281 (v8c s.v ++ [.slice a0 s.rest.length c0, .int .u64 (s.len : Int)]), rowR 5 1 a0 s.rest.length c0 (s.rest.map B8)]) (fun x => [(4, .slice x.2.1 (s.rest.length + 1 + padN s.rest.length + x.1) x.2.2), (5, .int .i64 (7 - (x.1 : Int)))]) [27, 28, 29, 30, 31, 32, 33, 34, 35, 36, 37, 38, 39, 40, 41, 42] (fun x => 8 - x.1) (0, a4, c4) ?_ ?_ ?_
      · refine env_start (by kernel_rfl)
      · rintro w' hw
        obtain ⟨F', hF', hst'⟩ := hw.sel (M := [rowR 5 1 a4 _ c4 _, blk b3 278 (v8c s.v ++ []), blk b2 216 (List.replicate 32 (.int .u8 0)), blk g 281 (v8c s.v ++ [.slice a0 s.rest.length c0, .int .u64 (s.len : Int)]), rowR 5 1 a0 s.rest.length c0 (s.rest.map B8)]) (by repeat (first | exact Sel.nil | (apply Sel.cons; · (repeat (first | exact Pick.here | apply Pick.there)))))
        refine ⟨F', stars_pure_mk (Nat.zero_le _) ?_, hst'⟩
        rw [← lenRow_zero] at hF'
        exact hF'
      · intro x u
        obtain ⟨k, a5, c5⟩ := x
        refine gc_pureR (fun hk => ?_)
        replace hk : k ≤ 8 := hk
        refine gc_seq ?_
        refine gsr ?_
        refine gp zmv ?_
        refine gp zge ?_
        refine gnt ?_
        refine gif rfl (fun hc28 => ?_) (fun hc28 => ?_)
        · have hk' : k < 8 := by (try simp only at hc28); omega
          refine gc_skip ?_
          refine gx_then ?_
          refine gc_seq ?_
          refine gc_block ?_
          refine gc_region ?_
          refine gp zmv ?_
          refine gp zmv ?_
          refine gp znc ?_
          refine gp zfa ?_
          refine gp zl ?_
          refine gp (r_int (r_arith (op := .mul) rfl rfl (wrap_u64 (by omega) (by omega))) (show (s.len : Int) * 8 = ((s.len * 8 : Nat) : Int) by omega)) ?_
          refine gp zmv ?_
          refine gp zml ?_
          refine gp zhr ?_
          refine gp (r_val (r_conv_int rfl Ty.un_258 Ty.un_5) (byte_shrU (j := 7 - k) (by omega) (by omega))) ?_
          refine ze1 fun b41 => ?_
          refine gl_append (news := [B8 (UInt8.ofNat (s.len * 8 / 2 ^ (8 * (7 - k))))]) (a := a5) (m := s.rest.length + 1 + padN s.rest.length + k) (c := c5) (wt0 rfl) rfl rfl (by repeat (first | exact Pick.here | apply Pick.there)) Ty.el_86 (fun w' hw => hw.row (m := 1) (xs := [B8 (UInt8.ofNat (s.len * 8 / 2 ^ (8 * (7 - k))))]) (by repeat (first | exact Pick.here | apply Pick.there))) (all_cons' rfl all_nil') (by simp only [maxLen]; omega) (by omega) ?_
          intro a42 c42
          refine gp zas ?_
          refine gl_nil ?_
          refine gx_block_normal ?_
          refine gx_then ?_
          refine gc_region ?_
          refine gp zmv ?_
          refine gp (r_int (r_arith (op := .sub) rfl rfl (wrap_i64 (by omega) (by omega))) (show 7 - (k : Int) - 1 = 7 - ((k + 1 : Nat) : Int) by omega)) ?_
          refine gp zas ?_
          refine gl_nil ?_
          refine zrd ((k + 1, a42, c42)) ?_ ?_
          · show 8 - (k + 1) < 8 - k
            omega
          · rintro w' hw
            obtain ⟨F', hF', hst'⟩ := hw.sel (M := [rowR 5 1 a42 _ c42 _, blk b3 278 (v8c s.v ++ []), blk b2 216 (List.replicate 32 (.int .u8 0)), blk g 281 (v8c s.v ++ [.slice a0 s.rest.length c0, .int .u64 (s.len : Int)]), rowR 5 1 a0 s.rest.length c0 (s.rest.map B8)]) (by repeat (first | exact Sel.nil | (apply Sel.cons; · (repeat (first | exact Pick.here | apply Pick.there)))))
            refine ⟨F', stars_pure_mk (show k + 1 ≤ _ by omega) ?_, hst'⟩
            rw [lenRow_succ] at hF'
            exact hF'
        · have hk' : k = 8 := by (try simp only at hc28); omega
          subst hk'
          refine gc_exit ?_
          refine gx_then_exit ?_
          refine gx_round_exit ?_
          refine gx_block_hit ?_
          refine gx_then ?_
          refine gc_seq ?_
          refine gc_block ?_
          have hpl := padded_length s
          refine gc_loop (α := V8 × List UInt8 × Option Addr × Nat × Nat) (fun x => [pureR (takes Kc x.1 x.2.1 = takes Kc s.v (padded s) ∧ x.2.1.length % 64 = 0 ∧ x.2.1.length ≤ 256 ∧ x.2.2.2.1 = x.2.1.length), rowR 5 1 x.2.2.1 x.2.2.2.1 x.2.2.2.2 (x.2.1.map B8), blk b3 278 (v8c x.1 ++ []), blk b2 216 (List.replicate 32 (.int .u8 0)), blk g 281 (v8c s.v ++ [.slice a0 s.rest.length c0, .int .u64 (s.len : Int)]), rowR 5 1 a0 s.rest.length c0 (s.rest.map B8)]) (fun x => [(4, .slice x.2.2.1 x.2.2.2.1 x.2.2.2.2)]) [43, 44, 45, 46, 47, 48, 49, 50] (fun x => x.2.1.length) (s.v, padded s, a5, s.rest.length + 1 + padN s.rest.length + 8, c5) ?_ ?_ ?_
          · refine env_start (by kernel_rfl)
          · rintro w' hw
            obtain ⟨F', hF', hst'⟩ := hw.sel (M := [rowR 5 1 a5 _ c5 _, blk b3 278 (v8c s.v ++ []), blk b2 216 (List.replicate 32 (.int .u8 0)), blk g 281 (v8c s.v ++ [.slice a0 s.rest.length c0, .int .u64 (s.len : Int)]), rowR 5 1 a0 s.rest.length c0 (s.rest.map B8)]) (by repeat (first | exact Sel.nil | (apply Sel.cons; · (repeat (first | exact Pick.here | apply Pick.there)))))
            refine ⟨F', stars_pure_mk ⟨rfl, ?_, ?_, hpl.symm⟩ ?_, hst'⟩
            · show (padded s).length % 64 = 0
              have := (pad_hit (Nat.le_refl _) hr).2 rfl
              omega
            · show (padded s).length ≤ 256; omega
            · exact hF'
          · intro x u
            obtain ⟨v, r, a6, n6, c6⟩ := x
            refine gc_pureR (fun hk => ?_)
            replace hk : takes Kc v r = takes Kc s.v (padded s) ∧ r.length % 64 = 0 ∧ r.length ≤ 256 ∧ n6 = r.length := hk
            obtain ⟨hk, hk64, hk256, rfl⟩ := hk
            refine gc_fact (p := r.length ≤ c6) (fun w hw => (hw.rowLe (e := 5) (size := 1) (a := a6) (m := r.length) (c := c6) (xs := r.map B8) (by repeat (first | exact Pick.here | apply Pick.there))).1) (fun hc6 => ?_)
            refine gc_seq ?_
            refine gsr ?_
            refine gp zmv ?_
            refine gp zln ?_
            refine gp zgt ?_
            refine gnt ?_
            refine gif rfl (fun hc45 => ?_) (fun hc45 => ?_)
            · have hk' : 64 ≤ r.length := by (try simp only at hc45); omega
              refine gc_skip ?_
              refine gx_then ?_
              refine gc_block ?_
              refine gsr ?_
              refine gp zmv ?_
              refine gp (r_slice_slice (a := a6) (m := r.length) (c := c6) (l := 0) (h := 64) rfl Ty.sl_86 Ty.sz_5 rfl ⟨_, rfl⟩ (by omega) (by omega)) ?_
              refine zc (fun _ => ?_) (c := fun w1 F1 F2 h1 h2 hd hst => take_ok (tl := []) h1 (hK.mv hst.still) ((rd_row (a := a6) (n := r.length) (c := c6) (xs := r.map B8) h2 hd (by repeat (first | exact Pick.here | apply Pick.there))).cut8 (l := 0) (h := 64) (by omega) hk' hc6))
              refine gnt ?_
              refine gc_region ?_
              refine gp zmv ?_
              refine gp (r_slice_slice (a := a6) (m := r.length) (c := c6) (l := 64) (h := r.length) rfl Ty.sl_86 Ty.sz_5 ⟨_, rfl⟩ rfl (by omega) (by omega)) ?_
              refine gp zas ?_
              refine gl_nil ?_
              refine gx_block_normal ?_
              have hdl : (r.drop 64).length = r.length - 64 := List.length_drop
              refine zrd ((take64 Kc v (r.take 64), r.drop 64, (if c6 = 64 then a6 else a6.map (·.add (64 * 1))), r.length - 64, c6 - 64)) ?_ ?_
              · show (r.drop 64).length < r.length
                omega
              · rintro w' hw
                obtain ⟨F', hF', hst'⟩ := hw.sel (M := [rowR 5 1 a6 r.length c6 (r.map B8), blk b3 278 (v8c (take64 Kc v (r.take 64)) ++ []), blk b2 216 (List.replicate 32 (.int .u8 0)), blk g 281 (v8c s.v ++ [.slice a0 s.rest.length c0, .int .u64 (s.len : Int)]), rowR 5 1 a0 s.rest.length c0 (s.rest.map B8)]) (by repeat (first | exact Sel.nil | (apply Sel.cons; · (repeat (first | exact Pick.here | apply Pick.there)))))
                refine ⟨F', stars_pure_mk ⟨?_, ?_, ?_, hdl.symm⟩ ?_, hst'⟩
                · rw [← hk, takes.eq_1 Kc v r, dif_pos (by omega)]
                · show (r.drop 64).length % 64 = 0; omega
                · show (r.drop 64).length ≤ 256; omega
                · have := stars_tail8 (l := 64) (by omega) hF'
                  exact this
            · have hk' : r = [] := by (try simp only at hc45); exact List.eq_nil_of_length_eq_zero (by omega)
              have hV : (takes Kc s.v (padded s)).1 = v := by rw [← hk, hk', takes_nil]
              rw [hV]
              refine gc_exit ?_
              refine gx_then_exit ?_
              refine gx_round_exit ?_
              refine gx_block_hit ?_
              refine gx_then ?_
              refine gsr ?_
              refine zal fun b6 => ?_
              refine gnt ?_
              refine gc_seq ?_
              refine gsr ?_
              refine gp zmv ?_
              refine gnt ?_
              refine gc_block ?_
              refine gc_loop (α := Nat) (fun k => [pureR (k ≤ 32), blk b6 216 (fnc B8 32 (pfx (outByte v) (fun _ => 0) k)), blk b3 278 (v8c v ++ []), blk b2 216 (List.replicate 32 (.int .u8 0)), blk g 281 (v8c s.v ++ [.slice a0 s.rest.length c0, .int .u64 (s.len : Int)]), rowR 5 1 a0 s.rest.length c0 (s.rest.map B8)]) (fun k => [(51, .int .i64 (k : Int))]) [7, 52, 53, 54, 55, 56, 57, 58, 59, 60, 61, 62, 63, 64, 65, 66] (fun k => 32 - k) 0 ?_ ?_ ?_
              · refine env_start (by kernel_rfl)
              · rintro w' hw
                obtain ⟨F', hF', hst'⟩ := hw.sel (M := [blk b6 216 _, blk b3 278 (v8c v ++ []), blk b2 216 (List.replicate 32 (.int .u8 0)), blk g 281 (v8c s.v ++ [.slice a0 s.rest.length c0, .int .u64 (s.len : Int)]), rowR 5 1 a0 s.rest.length c0 (s.rest.map B8)]) (by repeat (first | exact Sel.nil | (apply Sel.cons; · (repeat (first | exact Pick.here | apply Pick.there)))))
                refine ⟨F', stars_pure_mk (Nat.zero_le _) ?_, hst'⟩
                rw [pfx_zero, fnc_const]
                exact hF'
              · intro k u
                refine gc_pureR (fun hk2 => ?_)
                replace hk2 : k ≤ 32 := hk2
                refine gsr ?_
                refine gp zlt ?_
                refine gnt ?_
                refine gc_seq ?_
                refine gif rfl (fun hc52 => ?_) (fun hc52 => ?_)
                · have hk3 : k < 32 := by (try simp only at hc52); omega
                  refine gc_skip ?_
                  refine gx_then ?_
                  refine gc_seq ?_
                  refine gc_block ?_
                  refine gsr ?_
                  refine gp zmv ?_
                  refine gp zas ?_
                  refine gnt ?_
                  refine gc_region ?_
                  refine gp zmv ?_
                  refine gp zmv ?_
                  refine gp (r_int (r_val (r_quo rfl rfl (by decide)) (congrArg (Value.int .i64) ((congrArg IntKind.i64.wrap (quo_nat (m := k) (k := 4))).trans (wrap_i64 (by omega) (by omega))))) rfl) ?_
                  refine gp (r_indexAddr_arr rfl rfl Ty.arr_278 Ty.sz_259 (by omega) (by omega)) ?_
                  refine gp (r_ld1 (v := W32 (v.get (k / 4))) rfl Ty.row_259 (by repeat (first | exact Pick.here | apply Pick.there)) (by rw [show 0 + ((k / 4 : Nat) : Int).toNat * 1 = k / 4 by omega]; exact get_left (fnc_get (V := W32) (m := 8) (f := v.get) (by omega)))) ?_
                  refine gp zmv ?_
                  refine gp (r_int (r_rem rfl rfl (by decide)) (rem_nat (m := k) (k := 4))) ?_
                  refine gp zml ?_
                  refine gp zsb ?_
                  refine gp (r_shrw (j := 24 - 8 * (k % 4)) rfl rfl (by omega) (by omega)) ?_
                  refine gp (r_convw8 rfl Ty.un_259 Ty.un_5) ?_
                  refine gp (r_indexAddr_arr rfl rfl Ty.arr_216 Ty.sz_5 (by omega) (by omega)) ?_
                  refine gl_store1 (wt0 rfl) rfl rfl rfl Ty.sz_5 (by repeat (first | exact Pick.here | apply Pick.there)) (by rw [fnc_length]; omega) (pfx_set (k := k) (by omega) (by omega) rfl) ?_
                  refine gl_nil ?_
                  refine gx_block_normal ?_
                  refine gx_then ?_
                  refine gc_region ?_
                  refine gp zad ?_
                  refine gp zmv ?_
                  refine gl_nil ?_
                  refine zrd (k + 1) ?_ ?_
                  · show 32 - (k + 1) < 32 - k
                    omega
                  · rintro w' hw
                    obtain ⟨F', hF', hst'⟩ := hw.sel (M := [blk b6 216 _, blk b3 278 (v8c v ++ []), blk b2 216 (List.replicate 32 (.int .u8 0)), blk g 281 (v8c s.v ++ [.slice a0 s.rest.length c0, .int .u64 (s.len : Int)]), rowR 5 1 a0 s.rest.length c0 (s.rest.map B8)]) (by repeat (first | exact Sel.nil | (apply Sel.cons; · (repeat (first | exact Pick.here | apply Pick.there)))))
                    exact ⟨F', stars_pure_mk (show k + 1 ≤ 32 by omega) hF', hst'⟩
                · have hk3 : k = 32 := by (try simp only at hc52); omega
                  subst hk3
                  refine gc_exit ?_
                  refine gx_then_exit ?_
                  refine gx_round_exit ?_
                  refine gx_block_hit ?_
                  refine gx_then ?_
                  refine gsr ?_
                  refine gp (r_ldN rfl Ty.row_216 Ty.sz_216 (by repeat (first | exact Pick.here | apply Pick.there)) (seg_all fnc_length) fnc_length) ?_
                  refine gl_storeN (wt0 rfl) rfl rfl Ty.sz_216 fnc_length (by repeat (first | exact Pick.here | apply Pick.there)) (by simp) (fnc_one fun _ => rfl) (updL_all (by simp [fnc_length])) ?_
                  refine gnt ?_
                  refine gc_ret ?_
                  refine gx_retc rfl rfl (ld_aggS Ty.row_216 Ty.sz_216 (by repeat (first | exact Pick.here | apply Pick.there)) (seg_all fnc_length) fnc_length) ?_
                  rw [pfx_full]
                  exact fun w' hw => ⟨(), rfl, St.hash (hw.sel (M := [blk g 281 (v8c s.v ++ [.slice a0 s.rest.length c0, .int .u64 (s.len : Int)]), rowR 5 1 a0 s.rest.length c0 (s.rest.map B8)]) (by repeat (first | exact Sel.nil | (apply Sel.cons; · (repeat (first | exact Pick.here | apply Pick.there)))))) rfl rfl rfl rfl⟩

end Go.Proofs.YtobjojeliibinaaGreatDoor

/- Walks, by program (wg.py) out of a spec. -/
namespace Go.Proofs.YtobjojeliibinaaGreatDoor
open Go
set_option linter.unusedVariables false
set_option linter.unusedSimpArgs false


def dOf (K : Nat → UInt32) (dom : Int) (parts : List (List UInt8)) : Dig := ⟨hOf K dom parts, hOf_length K dom parts⟩
def hStep (K : Nat → UInt32) (s : HS) (p : List UInt8) : HS := hWrite K (hWrite K s (part4 p.length)) p
def hBeg (K : Nat → UInt32) (dom : Int) : HS := hWrite K hs0 [UInt8.ofNat (dom % 256).toNat]
def pcost (l : List (List UInt8)) : Nat := (l.map fun p => p.length + 4).sum
theorem hWrite_rest (K : Nat → UInt32) (s : HS) (b : List UInt8) : (hWrite K s b).rest.length < 64 := takes_rest K s.v (s.rest ++ b)
theorem hWrite_len (K : Nat → UInt32) (s : HS) (b : List UInt8) : (hWrite K s b).len = s.len + b.length := rfl
theorem hFold (K : Nat → UInt32) : ∀ (l : List (List UInt8)) (s : HS), s.rest.length < 64 → (l.foldl (hStep K) s).rest.length < 64 ∧ (l.foldl (hStep K) s).len = s.len + pcost l
  | [], s, h => ⟨h, by simp [pcost]⟩
  | p :: l, s, h => by
    have := hFold K l (hStep K s p) (hWrite_rest _ _ _)
    refine ⟨this.1, ?_⟩
    rw [List.foldl_cons, this.2]
    simp only [hStep, hWrite_len, part4, pcost, List.map_cons, List.sum_cons, List.length_cons, List.length_nil]
    omega
theorem pcost_take {l : List (List UInt8)} {k : Nat} {p : List UInt8} (h : l[k]? = some p) : pcost (l.take k) + (p.length + 4) ≤ pcost l := by
  have e : l = l.take k ++ p :: l.drop (k + 1) := by
    have hk : k < l.length := (List.getElem?_eq_some_iff.1 h).1
    rw [← (List.getElem?_eq_some_iff.1 h).2, List.getElem_cons_drop, List.take_append_drop]
  have : pcost l = pcost (l.take k) + (p.length + 4) + pcost (l.drop (k + 1)) := by
    conv => lhs; rw [e]
    simp [pcost]; omega
  omega
theorem byte_nat {n : Nat} : Value.int .u8 (IntKind.u8.wrap (n : Int)) = B8 (UInt8.ofNat n) := by
  have h1 : ∀ m : Int, IntKind.u8.wrap m = m % 256 := fun m => by simp [IntKind.wrap, IntKind.bits, IntKind.signed]
  simp only [B8, Value.int.injEq, true_and]
  rw [h1, UInt8.toNat_ofNat']; omega
theorem hOf_cut (K : Nat → UInt32) (dom : Int) (parts : List (List UInt8)) : ((fnc B8 32 (outByte (takes K (parts.foldl (hStep K) (hBeg K dom)).v (padded (parts.foldl (hStep K) (hBeg K dom)))).1)).drop 0).take 16 = dc (dOf K dom parts) := by
  rw [List.drop_zero, fnc_sum, ← List.map_take]; rfl
theorem foldl_step {α β : Type} (f : β → α → β) (l : List α) (s : β) {k : Nat} {x : α} (h : l[k]? = some x) : (l.take (k + 1)).foldl f s = f ((l.take k).foldl f s) x := by
  rw [List.take_add_one, h]; simp

attribute [local irreducible] Gl Gc Gx Gs Runs Wt

set_option maxHeartbeats 400000 in
theorem of_ok {w : World} {F : Nat → Prop} {dom : Int} {parts : List (List UInt8)} {a : Option Addr} {n c : Nat} (h : stars [] w F) (hK : KR w (fun k => ¬ F k)) (hx : RdList (RdBytes w fun k => ¬ F k) w (fun k => ¬ F k) 1 a n parts) (hb : 1 + pcost parts ≤ 1099511627776) :
    Calls Tryz.prog 87 #[.int .i64 dom, .slice a n c] w (Post w F (fun _ : Unit => .agg (dc (dOf Kc dom parts)).toArray) (fun _ => [])) := by
  have hnl := hx.len (by decide)
  have hmx := hx.max
  simp only [maxLen] at hmx
  refine g_enter (env := [(0, .int .i64 dom), (1, .slice a n c)]) Tryz.func87 rfl h Tryz.ntmps87 rfl rfl ?_
  refine gsr ?_
  refine zal fun b4 => ?_
  refine gnt ?_
  refine gsr ?_
  refine zc (fun g => ?_) (c := fun w1 F1 F2 h1 h2 hd hst => hnew_ok h1)
  refine gp zas ?_
  refine gnt ?_
  refine gsr ?_
  refine gp zmv ?_
  refine gp zmv ?_
  refine gp (r_val (r_conv_int rfl Ty.un_3 Ty.un_5) byte_int) ?_
  refine ze1 fun b14 => ?_
  refine zc (fun _ => ?_) (c := fun w1 F1 F2 h1 h2 hd hst => hwrite_ok (b := [UInt8.ofNat (dom % 256).toNat]) h1 (hK.mv hst.still) (rd_row (xs := [B8 (UInt8.ofNat (dom % 256).toNat)]) h2 hd (by repeat (first | exact Pick.here | apply Pick.there))) (by decide) (by simp [hs0]))
  refine gnt ?_
  refine gc_seq ?_
  refine gsr ?_
  refine gp zmv ?_
  refine gp zln ?_
  refine gp zmv ?_
  refine gnt ?_
  refine gc_block ?_
  refine gc_loop (α := Nat) (fun k => [pureR (k ≤ n), HashR g ((parts.take k).foldl (hStep Kc) (hBeg Kc dom)), blk b4 23 zD]) (fun k => [(18, .int .i64 (k : Int))]) [7, 8, 19, 20, 21, 22, 23, 24, 25, 26, 27, 28, 29, 30, 31, 32, 33, 34, 35, 36, 37, 38, 39, 40, 41] (fun k => n - k) 0 ?_ ?_ ?_
  · refine env_start (by kernel_rfl)
  · rintro w' hw
    obtain ⟨F', hF', hst'⟩ := hw.sel (M := [HashR g (hBeg Kc dom), blk b4 23 zD]) (by repeat (first | exact Sel.nil | (apply Sel.cons; · (repeat (first | exact Pick.here | apply Pick.there)))))
    exact ⟨F', stars_pure_mk (Nat.zero_le _) hF', hst'⟩
  · intro k u
    refine gc_pureR (fun hk => ?_)
    replace hk : k ≤ n := hk
    refine gsr ?_
    refine gp zlt ?_
    refine gnt ?_
    refine gc_seq ?_
    refine gif rfl (fun hc19 => ?_) (fun hc19 => ?_)
    · have hk' : k < n := by (try simp only at hc19); omega
      obtain ⟨ga, o, cs, y, ha, hA, hg, hra, hcl, hly, hrd⟩ := hx.elem (by decide) hk'
      subst ha
      obtain ⟨a', n', c', rfl, hn', hrb⟩ := hrd
      have hny : n' = y.length := by have := hrb.1; simp at this; omega
      have hpc := pcost_take hly
      have hf := hFold Kc (parts.take k) (hBeg Kc dom) (hWrite_rest _ _ _)
      have hbl : (hBeg Kc dom).len = 1 := rfl
      refine gc_skip ?_
      refine gx_then ?_
      refine gc_seq ?_
      refine gc_block ?_
      refine gsr ?_
      refine gp (r_indexAddr_slice rfl rfl Ty.sl_27 Ty.sz_86 (by omega) (by omega)) ?_
      refine gp (r_ld1o rfl Ty.row_86 (hra 0 _ rfl) hA) ?_
      refine gp zas ?_
      refine gnt ?_
      refine gsr ?_
      refine gp zmv ?_
      refine gp zln ?_
      refine gp zas ?_
      refine gnt ?_
      refine gsr ?_
      refine gp zmv ?_
      refine gp zmv ?_
      refine gp zhr ?_
      refine gp (r_val (r_conv_int rfl Ty.un_3 Ty.un_5) (byte_shrI (j := 24) rfl (by decide))) ?_
      refine gp zmv ?_
      refine gp zhr ?_
      refine gp (r_val (r_conv_int rfl Ty.un_3 Ty.un_5) (byte_shrI (j := 16) rfl (by decide))) ?_
      refine gp zmv ?_
      refine gp zhr ?_
      refine gp (r_val (r_conv_int rfl Ty.un_3 Ty.un_5) (byte_shrI (j := 8) rfl (by decide))) ?_
      refine gp zmv ?_
      refine gp (r_val (r_conv_int rfl Ty.un_3 Ty.un_5) byte_nat) ?_
      refine gl_bsls (vs := (part4 n').map B8) (wt0 rfl) Ty.sl_86 Ty.sz_5 Ty.zc_5 rfl rfl (one_B8 _) rfl rfl rfl ?_
      intro b36
      refine zc (fun _ => ?_) (c := fun w1 F1 F2 h1 h2 hd hst => hwrite_ok (b := part4 n') h1 (hK.mv hst.still) (rd_row (xs := (part4 n').map B8) h2 hd (by repeat (first | exact Pick.here | apply Pick.there))) hf.1 (by rw [hf.2]; simp only [part4, List.length_cons, List.length_nil]; omega))
      refine gnt ?_
      refine gc_region ?_
      refine gp zmv ?_
      refine gp zmv ?_
      refine zc (fun _ => ?_) (c := fun w1 F1 F2 h1 h2 hd hst => hwrite_ok (b := y) h1 (hK.mv hst.still) (hrb.mv hst.still) (hWrite_rest _ _ _) (by rw [hWrite_len, hf.2]; simp only [part4, List.length_cons, List.length_nil]; omega))
      refine gl_nil ?_
      refine gx_block_normal ?_
      refine gx_then ?_
      refine gc_region ?_
      refine gp zad ?_
      refine gp zmv ?_
      refine gl_nil ?_
      refine zrd (k + 1) ?_ ?_
      · show n - (k + 1) < n - k
        omega
      · rintro w' hw
        obtain ⟨F', hF', hst'⟩ := hw.sel (M := [HashR g _, blk b4 23 zD]) (by repeat (first | exact Sel.nil | (apply Sel.cons; · (repeat (first | exact Pick.here | apply Pick.there)))))
        refine ⟨F', stars_pure_mk (show k + 1 ≤ n by omega) ?_, hst'⟩
        rw [foldl_step _ _ _ hly]
        rw [hny] at hF'
        exact hF'
    · have hk' : k = parts.length := by (try simp only at hc19); omega
      subst hk'
      have hf := hFold Kc (parts.take parts.length) (hBeg Kc dom) (hWrite_rest _ _ _)
      rw [List.take_length] at hf
      have hbl : (hBeg Kc dom).len = 1 := rfl
      refine gc_exit ?_
      refine gx_then_exit ?_
      refine gx_round_exit ?_
      refine gx_block_hit ?_
      refine gx_then ?_
      refine gsr ?_
      refine gp zmv ?_
      refine zc (fun _ => ?_) (c := fun w1 F1 F2 h1 h2 hd hst => hsum_ok h1 (hK.mv hst.still) (by rw [List.take_length]; exact hf.1) (by rw [List.take_length, hf.2]; omega))
      rw [List.take_length]
      refine zal fun b9 => ?_
      refine gl_storeN (wt0 rfl) rfl rfl Ty.sz_216 fnc_length (by repeat (first | exact Pick.here | apply Pick.there)) (by simp) (fnc_one fun _ => rfl) (updL_all (by simp [fnc_length])) ?_
      refine gnt ?_
      refine gsr ?_
      refine gp (r_slice_arr (l := 0) (h := 16) rfl Ty.arr_216 Ty.sz_5 rfl ⟨_, rfl⟩ (by decide) (by decide) (by decide)) ?_
      refine gp (r_toArr rfl Ty.arr_23 (by decide)) ?_
      refine gp (r_ldN rfl Ty.row_23 Ty.sz_23 (by repeat (first | exact Pick.here | apply Pick.there)) (hOf_cut Kc dom parts) (dc_length _)) ?_
      refine gl_storeN (wt0 rfl) rfl rfl Ty.sz_23 (dc_length _) (by repeat (first | exact Pick.here | apply Pick.there)) (by decide) (dc_one _) (updL_all (by rw [dc_length]; rfl)) ?_
      refine gnt ?_
      refine gc_ret ?_
      refine gx_retc rfl rfl (ld_aggS Ty.row_23 Ty.sz_23 (by repeat (first | exact Pick.here | apply Pick.there)) (by (simp only [List.drop_succ_cons, List.drop_zero, List.take_succ_cons, List.take_zero, List.cons_append, List.nil_append, List.append_assoc, drop_dc, drop_dc', take_dc, take_dc', drop_L, drop_L', take_L, take_L', len_L, Nat.reduceLeDiff, Nat.reduceSub, Nat.reduceAdd, Nat.le_refl, List.length_cons, List.length_append, List.length_nil, dc_length, List.drop_nil, List.take_nil, List.append_nil, List.length_map, List.length_replicate]; first | done | rfl)) (by first | rfl | (simp only [List.drop_succ_cons, List.drop_zero, List.take_succ_cons, List.take_zero, List.cons_append, List.nil_append, List.append_assoc, drop_dc, drop_dc', take_dc, take_dc', drop_L, drop_L', take_L, take_L', len_L, Nat.reduceLeDiff, Nat.reduceSub, Nat.reduceAdd, Nat.le_refl, List.length_cons, List.length_append, List.length_nil, dc_length, List.drop_nil, List.take_nil, List.append_nil, List.length_map, List.length_replicate]; first | done | omega))) ?_
      exact ze ()

end Go.Proofs.YtobjojeliibinaaGreatDoor

