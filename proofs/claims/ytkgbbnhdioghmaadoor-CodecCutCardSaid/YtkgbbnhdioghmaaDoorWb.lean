/- Walks, by program (wg.py) out of a spec. -/
import Derived.Test.YtkgbbnhdioghmaaDoorWa
namespace Go.Proofs.YtkgbbnhdioghmaaDoor
open Go
set_option linter.unusedVariables false
set_option linter.unusedSimpArgs false


def errG : Nat → Nat
  | 1 => 1
  | 2 => 2
  | 3 => 3
  | 4 => 0
  | 5 => 4
  | 6 => 5
  | 7 => 6
  | 8 => 7
  | 9 => 8
  | 10 => 9
  | 11 => 10
  | 12 => 11
  | 13 => 12
  | 14 => 13
  | 15 => 14
  | 16 => 15
  | 17 => 16
  | _ => 17
/-- es has this error. -/
class Has (es : List Nat) (i : Nat) : Prop where
  h : i ∈ es
instance {i : Nat} {l : List Nat} : Has (i :: l) i := ⟨List.mem_cons_self⟩
instance {i j : Nat} {l : List Nat} [k : Has l i] : Has (j :: l) i := ⟨List.mem_cons_of_mem _ k.h⟩
/-- These errors' variables hold their errors, and lie in A. -/
structure GErr (es : List Nat) (w : World) (A : Nat → Prop) (TE : TypeId) (ea : Nat → Addr) : Prop where
  c : ∀ i, i ∈ es → w.cell? ⟨errG i, 0, none⟩ = some (eV TE ea i)
  n : ∀ i, i ∈ es → A (errG i)
theorem GErr.mv {es : List Nat} {w w' : World} {A A' : Nat → Prop} {TE : TypeId} {ea : Nat → Addr} (h : GErr es w A TE ea) (hk : ∀ k, k < w.heap.size → A k → w'.heap[k]? = w.heap[k]? ∧ A' k) : GErr es w' A' TE ea :=
  ⟨fun i hi => by
    have := hk _ (World.block_lt_of_cell? w ⟨errG i, 0, none⟩ (h.c i hi)) (h.n i hi)
    rw [World.cell?_of_block (w := w) (a := ⟨errG i, 0, none⟩) this.1]; exact h.c i hi,
   fun i hi => (hk _ (World.block_lt_of_cell? w ⟨errG i, 0, none⟩ (h.c i hi)) (h.n i hi)).2⟩
theorem shl_pow {wd : Nat} (h : wd < 8) : IntKind.i64.wrap (1 * 2 ^ (min (8 * (wd : Int)).toNat IntKind.i64.bits)) = 2 ^ (8 * wd) := by
  have e : min (8 * (wd : Int)).toNat IntKind.i64.bits = 8 * wd := by simp only [IntKind.bits]; omega
  rw [e]
  have : wd = 0 ∨ wd = 1 ∨ wd = 2 ∨ wd = 3 ∨ wd = 4 ∨ wd = 5 ∨ wd = 6 ∨ wd = 7 := by omega
  rcases this with h | h | h | h | h | h | h | h <;> subst h <;> rfl
theorem byte_shr {n : Int} {wd k : Nat} {i : Int} (hi : i = (wd : Int) - 1 - k) (hk : k < wd) (hw : wd ≤ 8) :
    Value.int .u8 (IntKind.u8.wrap (n.fdiv (2 ^ (min (8 * i).toNat IntKind.i64.bits)))) = B8 (byteAt n (wd - 1 - k)) := by
  subst hi
  have e : min (8 * ((wd : Int) - 1 - k)).toNat IntKind.i64.bits = 8 * (wd - 1 - k) := by simp only [IntKind.bits]; omega
  rw [e, Int.fdiv_eq_ediv_of_nonneg _ (by exact Int.le_of_lt (Int.pow_pos (by omega)))]
  simp only [B8, byteAt, Value.int.injEq, true_and]
  generalize n / 2 ^ (8 * (wd - 1 - k)) = m
  have h1 : IntKind.u8.wrap m = m % 256 := by simp [IntKind.wrap, IntKind.bits, IntKind.signed]
  rw [h1, UInt8.toNat_ofNat']
  omega

attribute [local irreducible] Gl Gc Gx Gs Runs Wt

set_option maxHeartbeats 400000 in
theorem number_neg {w : World} {F : Nat → Prop} {g TE : Nat} {ea : Nat → Addr} {s : WS} {n : Int} {wd : Nat} (h : stars [WrR TE ea g s] w F) {es : List Nat} [Has es 1] (hE : GErr es w (fun k => ¬ F k) TE ea) (h1 : 1 ≤ wd) (h8 : wd ≤ 8) (hn : n < 0) :
    Calls Tryd.prog 58 #[.pointer (some ⟨g, 0, none⟩), .int .i64 n, .int .i64 (wd : Int)] w (Post w F (fun _ : Unit => .tuple #[]) (fun _ => [WrR TE ea g (wFail 1 s)])) := by
  obtain ⟨a0, c0, h'⟩ := wr_open h
  refine g_enter (env := [(0, .pointer (some ⟨g, 0, none⟩)), (1, .int .i64 n), (2, .int .i64 (wd : Int))]) Tryd.func58 rfl h' Tryd.ntmps58 rfl rfl ?_
  refine gc_seq ?_
  refine gsr ?_
  refine gp zmv ?_
  refine gp (r_bool (r_lss rfl rfl) (decide_eq_false (by omega))) ?_
  refine gp zmv ?_
  refine gq zmv ?_
  refine gq (r_bool (r_gtr rfl rfl) (decide_eq_false (by omega))) ?_
  refine gp zpk ?_
  refine gp zmv ?_
  refine gq zmv ?_
  refine gq (r_bool (r_lss rfl rfl) (decide_eq_true hn)) ?_
  refine gp zpk ?_
  refine gp zmv ?_
  refine gn ?_
  refine gn ?_
  refine gn ?_
  refine gn ?_
  refine gn ?_
  refine gn ?_
  refine gn ?_
  refine gn ?_
  refine gn ?_
  refine gp zpk ?_
  refine gnt ?_
  refine gc_condT rfl rfl ?_
  refine gc_seq ?_
  refine gc_regionT 4 (by kernel_rfl) (by kernel_rfl) ?_
  refine sp zmv ?_
  refine sp znc ?_
  refine sp zfa ?_
  refine sp (r_ld1o rfl Ty.row_35 (hE.c 1 Has.h) (hE.n 1 Has.h)) ?_
  refine gs_nil ?_
  refine zc (fun _ => ?_) (c := fun w1 F1 F2 h1 h2 hd hst => fail_ok h1)
  refine gnt ?_
  refine gc_ret ?_
  refine gx_then_ret ?_
  refine gx_ret0 rfl ?_
  exact fun w' hw => ⟨(), rfl, by rw [wFail]; by_cases he : s.err = 0 <;> simp only [he, if_true, if_false, ite_true, ite_false] at hw ⊢ <;> exact St.wr (hw.sel (by repeat (first | exact Sel.nil | (apply Sel.cons; · (repeat (first | exact Pick.here | apply Pick.there)))))) (by simp [he]) rfl rfl⟩

set_option maxHeartbeats 400000 in
theorem number_big {w : World} {F : Nat → Prop} {g TE : Nat} {ea : Nat → Addr} {s : WS} {n : Int} {wd : Nat} (h : stars [WrR TE ea g s] w F) {es : List Nat} [Has es 1] (hE : GErr es w (fun k => ¬ F k) TE ea) (h1 : 1 ≤ wd) (h8 : wd ≤ 8) (hn : 0 ≤ n) (hw8 : wd < 8) (hb : (2 : Int) ^ (8 * wd) ≤ n) :
    Calls Tryd.prog 58 #[.pointer (some ⟨g, 0, none⟩), .int .i64 n, .int .i64 (wd : Int)] w (Post w F (fun _ : Unit => .tuple #[]) (fun _ => [WrR TE ea g (wFail 1 s)])) := by
  obtain ⟨a0, c0, h'⟩ := wr_open h
  refine g_enter (env := [(0, .pointer (some ⟨g, 0, none⟩)), (1, .int .i64 n), (2, .int .i64 (wd : Int))]) Tryd.func58 rfl h' Tryd.ntmps58 rfl rfl ?_
  refine gc_seq ?_
  refine gsr ?_
  refine gp zmv ?_
  refine gp (r_bool (r_lss rfl rfl) (decide_eq_false (by omega))) ?_
  refine gp zmv ?_
  refine gq zmv ?_
  refine gq (r_bool (r_gtr rfl rfl) (decide_eq_false (by omega))) ?_
  refine gp zpk ?_
  refine gp zmv ?_
  refine gq zmv ?_
  refine gq (r_bool (r_lss rfl rfl) (decide_eq_false (by omega))) ?_
  refine gp zpk ?_
  refine gp zmv ?_
  refine gq zmv ?_
  refine gq (r_bool (r_lss rfl rfl) (decide_eq_true (by omega))) ?_
  refine gq zmv ?_
  refine gq zmv ?_
  refine gq zmv ?_
  refine gq (r_arith (op := .mul) rfl rfl (wrap_i64 (by omega) (by omega))) ?_
  refine gq (r_int (r_shl rfl rfl (by omega)) (shl_pow (by omega))) ?_
  refine gq (r_bool (r_geq rfl rfl) (decide_eq_true hb)) ?_
  refine gq zpk ?_
  refine gp zpk ?_
  refine gnt ?_
  refine gc_condT rfl rfl ?_
  refine gc_seq ?_
  refine gc_regionT 4 (by kernel_rfl) (by kernel_rfl) ?_
  refine sp zmv ?_
  refine sp znc ?_
  refine sp zfa ?_
  refine sp (r_ld1o rfl Ty.row_35 (hE.c 1 Has.h) (hE.n 1 Has.h)) ?_
  refine gs_nil ?_
  refine zc (fun _ => ?_) (c := fun w1 F1 F2 h1 h2 hd hst => fail_ok h1)
  refine gnt ?_
  refine gc_ret ?_
  refine gx_then_ret ?_
  refine gx_ret0 rfl ?_
  exact fun w' hw => ⟨(), rfl, by rw [wFail]; by_cases he : s.err = 0 <;> simp only [he, if_true, if_false, ite_true, ite_false] at hw ⊢ <;> exact St.wr (hw.sel (by repeat (first | exact Sel.nil | (apply Sel.cons; · (repeat (first | exact Pick.here | apply Pick.there)))))) (by simp [he]) rfl rfl⟩

set_option maxHeartbeats 400000 in
theorem number_fit7 {w : World} {F : Nat → Prop} {g TE : Nat} {ea : Nat → Addr} {s : WS} {n : Int} {wd : Nat} (h : stars [WrR TE ea g s] w F) {es : List Nat} [Has es 1] (hE : GErr es w (fun k => ¬ F k) TE ea) (h1 : 1 ≤ wd) (h8 : wd ≤ 8) (hl : s.bs.length + wd ≤ 1099511627776) (hn : 0 ≤ n) (hw8 : wd < 8) (hb : n < (2 : Int) ^ (8 * wd)) :
    Calls Tryd.prog 58 #[.pointer (some ⟨g, 0, none⟩), .int .i64 n, .int .i64 (wd : Int)] w (Post w F (fun _ : Unit => .tuple #[]) (fun _ => [WrR TE ea g (wFix (beN n wd) s)])) := by
  refine g_enter (env := [(0, .pointer (some ⟨g, 0, none⟩)), (1, .int .i64 n), (2, .int .i64 (wd : Int))]) Tryd.func58 rfl h Tryd.ntmps58 rfl rfl ?_
  refine gc_seq ?_
  refine gsr ?_
  refine gp zmv ?_
  refine gp (r_bool (r_lss rfl rfl) (decide_eq_false (by omega))) ?_
  refine gp zmv ?_
  refine gq zmv ?_
  refine gq (r_bool (r_gtr rfl rfl) (decide_eq_false (by omega))) ?_
  refine gp zpk ?_
  refine gp zmv ?_
  refine gq zmv ?_
  refine gq (r_bool (r_lss rfl rfl) (decide_eq_false (by omega))) ?_
  refine gp zpk ?_
  refine gp zmv ?_
  refine gq zmv ?_
  refine gq (r_bool (r_lss rfl rfl) (decide_eq_true (by omega))) ?_
  refine gq zmv ?_
  refine gq zmv ?_
  refine gq zmv ?_
  refine gq (r_arith (op := .mul) rfl rfl (wrap_i64 (by omega) (by omega))) ?_
  refine gq (r_int (r_shl rfl rfl (by omega)) (shl_pow (by omega))) ?_
  refine gq (r_bool (r_geq rfl rfl) (decide_eq_false (by omega))) ?_
  refine gq zpk ?_
  refine gp zpk ?_
  refine gnt ?_
  refine gc_condF rfl rfl ?_
  refine gc_skip ?_
  refine gx_then ?_
  refine gsr ?_
  refine gp zas ?_
  refine gnt ?_
  refine gc_seq ?_
  refine gsr ?_
  refine gp zmv ?_
  refine gp (r_int (r_arith (op := .sub) rfl rfl (wrap_i64 (by omega) (by omega))) (show (wd : Int) - 1 = (wd : Int) - 1 - ((0 : Nat) : Int) by omega)) ?_
  refine gp zas ?_
  refine gnt ?_
  refine gc_block ?_
  refine gc_loop (α := Nat × Option Addr × Nat) (fun x => [pureR (x.1 ≤ wd), rowR 5 1 x.2.1 x.1 x.2.2 (((List.range x.1).map fun j => byteAt n (wd - 1 - j)).map B8), WrR TE ea g s]) (fun x => [(6, .slice x.2.1 x.1 x.2.2), (7, .int .i64 ((wd : Int) - 1 - (x.1 : Int)))]) [36, 37, 38, 39, 40, 41, 42, 43, 44, 45, 46, 47] (fun x => wd - x.1) (0, none, 0) ?_ ?_ ?_
  · refine env_start (by kernel_rfl)
  · rintro w' ⟨F', hF', hst'⟩
    exact ⟨F', stars_pure_mk (Nat.zero_le _) (stars_row_nil hF'), hst'⟩
  · intro x u
    obtain ⟨k, a, c⟩ := x
    refine gc_pureR (fun hk => ?_)
    replace hk : k ≤ wd := hk
    refine gc_seq ?_
    refine gsr ?_
    refine gp zmv ?_
    refine gp zge ?_
    refine gnt ?_
    refine gif rfl (fun hc37 => ?_) (fun hc37 => ?_)
    · have hk' : k < wd := by (try simp only at hc37); omega
      refine gc_skip ?_
      refine gx_then ?_
      refine gc_seq ?_
      refine gc_block ?_
      refine gc_region ?_
      refine gp zmv ?_
      refine gp zmv ?_
      refine gp zmv ?_
      refine gp (r_arith (op := .mul) rfl rfl (wrap_i64 (by omega) (by omega))) ?_
      refine gp zhr ?_
      refine gp (r_val (r_conv_int rfl Ty.un_3 Ty.un_5) (byte_shr rfl hk' h8)) ?_
      refine gl_bsl1 (wt0 rfl) Ty.sl_33 Ty.sz_5 Ty.zc_5 (by conv => lhs; whnf) rfl ?_
      intro b46
      refine gl_append (news := [B8 (byteAt n (wd - 1 - k))]) (wt0 rfl) rfl rfl (by repeat (first | exact Pick.here | apply Pick.there)) Ty.el_33 (fun w' hw => hw.row (by repeat (first | exact Pick.here | apply Pick.there))) (all_cons' rfl all_nil') (by simp only [maxLen]; omega) (by omega) ?_
      intro a1 c1
      refine gp zas ?_
      refine gl_nil ?_
      refine gx_block_normal ?_
      refine gx_then ?_
      refine gc_region ?_
      refine gp zmv ?_
      refine gp (r_int (r_arith (op := .sub) rfl rfl (wrap_i64 (by omega) (by omega))) (show (wd : Int) - 1 - (k : Int) - 1 = (wd : Int) - 1 - ((k + 1 : Nat) : Int) by omega)) ?_
      refine gp zas ?_
      refine gl_nil ?_
      have hk' : k < wd := by omega
      refine zrd ((k + 1, a1, c1)) ?_ ?_
      · show wd - (k + 1) < wd - k
        omega
      · rintro w' hw
        obtain ⟨F', hF', hst'⟩ := hw.sel (M := [rowR 5 1 a1 (k + 1) c1 _, WrR TE ea g s]) (by repeat (first | exact Sel.nil | (apply Sel.cons; · (repeat (first | exact Pick.here | apply Pick.there)))))
        refine ⟨F', stars_pure_mk (by show k + 1 ≤ wd; omega) ?_, hst'⟩
        have e : ((List.range (k + 1)).map fun j => byteAt n (wd - 1 - j)).map B8 = ((List.range k).map fun j => byteAt n (wd - 1 - j)).map B8 ++ [B8 (byteAt n (wd - 1 - k))] := by simp [List.range_succ]
        show stars [rowR 5 1 a1 (k + 1) c1 (((List.range (k + 1)).map fun j => byteAt n (wd - 1 - j)).map B8), WrR TE ea g s] w' F'
        rw [e]
        exact hF'
    · have hk' : k = wd := by (try simp only at hc37); omega
      subst hk'
      refine gc_exit ?_
      refine gx_then_exit ?_
      refine gx_round_exit ?_
      refine gx_block_hit ?_
      refine gx_then ?_
      refine gc_region ?_
      refine gp zmv ?_
      refine gp zmv ?_
      refine zc (fun _ => ?_) (c := fun w1 F1 F2 h1 h2 hd hst => fixed_ok h1 (rd_row (xs := (beN n k).map B8) h2 hd (by repeat (first | exact Pick.here | apply Pick.there))) (by omega))
      refine gl_nil ?_
      refine gx_ret0' rfl ?_
      exact ze ()

set_option maxHeartbeats 400000 in
theorem number_fit8 {w : World} {F : Nat → Prop} {g TE : Nat} {ea : Nat → Addr} {s : WS} {n : Int} {wd : Nat} (h : stars [WrR TE ea g s] w F) {es : List Nat} [Has es 1] (hE : GErr es w (fun k => ¬ F k) TE ea) (h1 : 1 ≤ wd) (h8 : wd ≤ 8) (hl : s.bs.length + wd ≤ 1099511627776) (hn : 0 ≤ n) (hw8 : wd = 8) :
    Calls Tryd.prog 58 #[.pointer (some ⟨g, 0, none⟩), .int .i64 n, .int .i64 (wd : Int)] w (Post w F (fun _ : Unit => .tuple #[]) (fun _ => [WrR TE ea g (wFix (beN n wd) s)])) := by
  refine g_enter (env := [(0, .pointer (some ⟨g, 0, none⟩)), (1, .int .i64 n), (2, .int .i64 (wd : Int))]) Tryd.func58 rfl h Tryd.ntmps58 rfl rfl ?_
  refine gc_seq ?_
  refine gsr ?_
  refine gp zmv ?_
  refine gp (r_bool (r_lss rfl rfl) (decide_eq_false (by omega))) ?_
  refine gp zmv ?_
  refine gq zmv ?_
  refine gq (r_bool (r_gtr rfl rfl) (decide_eq_false (by omega))) ?_
  refine gp zpk ?_
  refine gp zmv ?_
  refine gq zmv ?_
  refine gq (r_bool (r_lss rfl rfl) (decide_eq_false (by omega))) ?_
  refine gp zpk ?_
  refine gp zmv ?_
  refine gq zmv ?_
  refine gq (r_bool (r_lss rfl rfl) (decide_eq_false (by omega))) ?_
  refine gq zmv ?_
  refine gn ?_
  refine gn ?_
  refine gn ?_
  refine gn ?_
  refine gn ?_
  refine gq zpk ?_
  refine gp zpk ?_
  refine gnt ?_
  refine gc_condF rfl rfl ?_
  refine gc_skip ?_
  refine gx_then ?_
  refine gsr ?_
  refine gp zas ?_
  refine gnt ?_
  refine gc_seq ?_
  refine gsr ?_
  refine gp zmv ?_
  refine gp (r_int (r_arith (op := .sub) rfl rfl (wrap_i64 (by omega) (by omega))) (show (wd : Int) - 1 = (wd : Int) - 1 - ((0 : Nat) : Int) by omega)) ?_
  refine gp zas ?_
  refine gnt ?_
  refine gc_block ?_
  refine gc_loop (α := Nat × Option Addr × Nat) (fun x => [pureR (x.1 ≤ wd), rowR 5 1 x.2.1 x.1 x.2.2 (((List.range x.1).map fun j => byteAt n (wd - 1 - j)).map B8), WrR TE ea g s]) (fun x => [(6, .slice x.2.1 x.1 x.2.2), (7, .int .i64 ((wd : Int) - 1 - (x.1 : Int)))]) [36, 37, 38, 39, 40, 41, 42, 43, 44, 45, 46, 47] (fun x => wd - x.1) (0, none, 0) ?_ ?_ ?_
  · refine env_start (by kernel_rfl)
  · rintro w' ⟨F', hF', hst'⟩
    exact ⟨F', stars_pure_mk (Nat.zero_le _) (stars_row_nil hF'), hst'⟩
  · intro x u
    obtain ⟨k, a, c⟩ := x
    refine gc_pureR (fun hk => ?_)
    replace hk : k ≤ wd := hk
    refine gc_seq ?_
    refine gsr ?_
    refine gp zmv ?_
    refine gp zge ?_
    refine gnt ?_
    refine gif rfl (fun hc37 => ?_) (fun hc37 => ?_)
    · have hk' : k < wd := by (try simp only at hc37); omega
      refine gc_skip ?_
      refine gx_then ?_
      refine gc_seq ?_
      refine gc_block ?_
      refine gc_region ?_
      refine gp zmv ?_
      refine gp zmv ?_
      refine gp zmv ?_
      refine gp (r_arith (op := .mul) rfl rfl (wrap_i64 (by omega) (by omega))) ?_
      refine gp zhr ?_
      refine gp (r_val (r_conv_int rfl Ty.un_3 Ty.un_5) (byte_shr rfl hk' h8)) ?_
      refine gl_bsl1 (wt0 rfl) Ty.sl_33 Ty.sz_5 Ty.zc_5 (by conv => lhs; whnf) rfl ?_
      intro b46
      refine gl_append (news := [B8 (byteAt n (wd - 1 - k))]) (wt0 rfl) rfl rfl (by repeat (first | exact Pick.here | apply Pick.there)) Ty.el_33 (fun w' hw => hw.row (by repeat (first | exact Pick.here | apply Pick.there))) (all_cons' rfl all_nil') (by simp only [maxLen]; omega) (by omega) ?_
      intro a1 c1
      refine gp zas ?_
      refine gl_nil ?_
      refine gx_block_normal ?_
      refine gx_then ?_
      refine gc_region ?_
      refine gp zmv ?_
      refine gp (r_int (r_arith (op := .sub) rfl rfl (wrap_i64 (by omega) (by omega))) (show (wd : Int) - 1 - (k : Int) - 1 = (wd : Int) - 1 - ((k + 1 : Nat) : Int) by omega)) ?_
      refine gp zas ?_
      refine gl_nil ?_
      have hk' : k < wd := by omega
      refine zrd ((k + 1, a1, c1)) ?_ ?_
      · show wd - (k + 1) < wd - k
        omega
      · rintro w' hw
        obtain ⟨F', hF', hst'⟩ := hw.sel (M := [rowR 5 1 a1 (k + 1) c1 _, WrR TE ea g s]) (by repeat (first | exact Sel.nil | (apply Sel.cons; · (repeat (first | exact Pick.here | apply Pick.there)))))
        refine ⟨F', stars_pure_mk (by show k + 1 ≤ wd; omega) ?_, hst'⟩
        have e : ((List.range (k + 1)).map fun j => byteAt n (wd - 1 - j)).map B8 = ((List.range k).map fun j => byteAt n (wd - 1 - j)).map B8 ++ [B8 (byteAt n (wd - 1 - k))] := by simp [List.range_succ]
        show stars [rowR 5 1 a1 (k + 1) c1 (((List.range (k + 1)).map fun j => byteAt n (wd - 1 - j)).map B8), WrR TE ea g s] w' F'
        rw [e]
        exact hF'
    · have hk' : k = wd := by (try simp only at hc37); omega
      subst hk'
      refine gc_exit ?_
      refine gx_then_exit ?_
      refine gx_round_exit ?_
      refine gx_block_hit ?_
      refine gx_then ?_
      refine gc_region ?_
      refine gp zmv ?_
      refine gp zmv ?_
      refine zc (fun _ => ?_) (c := fun w1 F1 F2 h1 h2 hd hst => fixed_ok h1 (rd_row (xs := (beN n k).map B8) h2 hd (by repeat (first | exact Pick.here | apply Pick.there))) (by omega))
      refine gl_nil ?_
      refine gx_ret0' rfl ?_
      exact ze ()


theorem number_ok {w : World} {F : Nat → Prop} {g TE : Nat} {ea : Nat → Addr} {s : WS} {n : Int} {wd : Nat} (h : stars [WrR TE ea g s] w F) {es : List Nat} [Has es 1] (hE : GErr es w (fun k => ¬ F k) TE ea) (h1 : 1 ≤ wd) (h8 : wd ≤ 8) (hl : s.bs.length + wd ≤ 1099511627776) :
    Calls Tryd.prog 58 #[.pointer (some ⟨g, 0, none⟩), .int .i64 n, .int .i64 (wd : Int)] w (Post w F (fun _ : Unit => .tuple #[]) (fun _ => [WrR TE ea g (wNum n wd s)])) := by
  unfold wNum
  by_cases hn : n < 0
  · rw [if_pos (.inl hn)]; exact number_neg h hE h1 h8 hn
  · by_cases hb : wd < 8 ∧ (2 : Int) ^ (8 * wd) ≤ n
    · rw [if_pos (.inr hb)]; exact number_big h hE h1 h8 (by omega) hb.1 hb.2
    · rw [if_neg (fun hh => hh.elim hn hb)]
      by_cases hw : wd < 8
      · exact number_fit7 h hE h1 h8 hl (by omega) hw (by have : ¬ (2 : Int) ^ (8 * wd) ≤ n := fun h' => hb ⟨hw, h'⟩; omega)
      · exact number_fit8 h hE h1 h8 hl (by omega) (by omega)

end Go.Proofs.YtkgbbnhdioghmaaDoor
