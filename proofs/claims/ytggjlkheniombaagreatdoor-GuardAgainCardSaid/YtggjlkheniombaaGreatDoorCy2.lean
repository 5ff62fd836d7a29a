/- Part 2. What is proved: see the last part: for every input the law returns true, and the input reads as it did. -/
import Derived.Test.YtggjlkheniombaaGreatDoorCy1
import Derived.KernelRfl
import Derived.Lib.LaidTab
import Derived.Lib.ConvBytes
import Derived.MapKept
import Derived.Laws.IdiomRangeMap
import Derived.Shelf.SlIterI.Nil
import Derived.Shelf.SlIterI.Sorted
import Derived.Shelf.SortM.Plain
import Derived.Shelf.SortM.SortNone
import Derived.Ground.GgzProg
import Derived.Ground.SlgmProg
import Derived.Test.YtggjlkheniombaaGreatDoorProg
namespace Go.Proofs
open Go.Shelf
def Tryz.keysA_ren : Go.Shelf.Ren := ⟨fun | 7 => 94 | 10 => 118 | n => n, fun | 23 => 83 | 26 => 3 | 3 => 98 | 28 => 160 | 0 => 0 | 27 => 159 | 33 => 123 | 4 => 4 | n => n, fun | n => n⟩
theorem Tryz.keysA : Go.Proofs.SlLaysZI.n7 Tryz.prog Tryz.keysA_ren := {
  mixed := by kernel_rfl
  f7 := ⟨Tryz.f94.name, by decide, Tryz.func94.trans (congrArg some (by kernel_rfl))⟩
  f10 := ⟨Tryz.f118.name, by decide, Tryz.func118.trans (congrArg some (by kernel_rfl))⟩
  t0 := Tryz.underlying0
  a0 := Tryz.isAgg0
  z0 := Tryz.sizeOf0
  v0 := Tryz.zeroValue0
  t4 := Tryz.underlying4
  a4 := Tryz.isAgg4
  z4 := Tryz.sizeOf4
  v4 := Tryz.zeroValue4
  t23 := Tryz.underlying83
  a23 := Tryz.isAgg83
  z23 := Tryz.sizeOf83
  v23 := Tryz.zeroValue83
  t26 := Tryz.underlying3
  a26 := Tryz.isAgg3
  z26 := Tryz.sizeOf3
  v26 := Tryz.zeroValue3
  t27 := Tryz.underlying159
  a27 := Tryz.isAgg159
  z27 := Tryz.sizeOf159
  v27 := Tryz.zeroValue159
  t28 := Tryz.underlying160
  a28 := Tryz.isAgg160
  z28 := Tryz.sizeOf160
  v28 := Tryz.zeroValue160
  t33 := Tryz.underlying123
  a33 := Tryz.isAgg123
  z33 := Tryz.sizeOf123
  v33 := Tryz.zeroValue123 }
def Tryz.sortedA_ren : Go.Shelf.Ren := ⟨fun | 6 => 93 | 8 => 116 | 9 => 117 | 11 => 128 | 13 => 130 | 12 => 129 | 23 => 144 | 24 => 145 | 14 => 135 | 15 => 136 | 16 => 137 | 17 => 138 | 18 => 139 | 19 => 140 | 20 => 141 | 21 => 142 | 22 => 143 | 25 => 146 | 26 => 147 | 27 => 148 | 28 => 149 | 29 => 150 | 30 => 151 | 31 => 152 | n => n, fun | 26 => 3 | 28 => 160 | 24 => 52 | 0 => 0 | 3 => 3 | 37 => 167 | 48 => 202 | 50 => 206 | 4 => 4 | 40 => 225 | 39 => 224 | 45 => 229 | 5 => 5 | 9 => 9 | 51 => 233 | 55 => 138 | 57 => 238 | 58 => 239 | 33 => 123 | n => n, fun | n => n⟩
theorem Tryz.sortedA : Go.Proofs.SlLaysZI.n6 Tryz.prog Tryz.sortedA_ren := {
  mixed := by kernel_rfl
  f6 := ⟨Tryz.f93.name, by decide, Tryz.func93.trans (congrArg some (by kernel_rfl))⟩
  f8 := ⟨Tryz.f116.name, by decide, Tryz.func116.trans (congrArg some (by kernel_rfl))⟩
  f11 := ⟨Tryz.f128.name, by decide, Tryz.func128.trans (congrArg some (by kernel_rfl))⟩
  t0 := Tryz.underlying0
  a0 := Tryz.isAgg0
  z0 := Tryz.sizeOf0
  v0 := Tryz.zeroValue0
  t24 := Tryz.underlying52
  a24 := Tryz.isAgg52
  z24 := Tryz.sizeOf52
  v24 := Tryz.zeroValue52
  t26 := Tryz.underlying3
  a26 := Tryz.isAgg3
  z26 := Tryz.sizeOf3
  v26 := Tryz.zeroValue3
  t28 := Tryz.underlying160
  a28 := Tryz.isAgg160
  z28 := Tryz.sizeOf160
  v28 := Tryz.zeroValue160
  i26 := by kernel_rfl }
def Tryz.sortA_ren : Go.Shelf.Ren := ⟨fun | 5 => 117 | 8 => 130 | 7 => 129 | 19 => 144 | 20 => 145 | 10 => 135 | 11 => 136 | 12 => 137 | 13 => 138 | 14 => 139 | 15 => 140 | 16 => 141 | 17 => 142 | 18 => 143 | 30 => 146 | 31 => 147 | 32 => 148 | 33 => 149 | 34 => 150 | 35 => 151 | 40 => 152 | n => n, fun | 23 => 52 | 25 => 3 | 3 => 3 | 32 => 167 | 22 => 52 | 0 => 0 | 44 => 202 | 46 => 206 | 4 => 4 | 36 => 225 | 35 => 224 | 41 => 229 | 5 => 5 | 9 => 9 | 53 => 233 | 57 => 138 | 63 => 238 | 64 => 239 | n => n, fun | n => n⟩
theorem Tryz.sortA : Go.Proofs.SlLaysM.n5 Tryz.prog Tryz.sortA_ren := {
  mixed := by kernel_rfl
  f5 := ⟨Tryz.f117.name, by decide, Tryz.func117.trans (congrArg some (by kernel_rfl))⟩
  f7 := ⟨Tryz.f129.name, by decide, Tryz.func129.trans (congrArg some (by kernel_rfl))⟩
  f8 := Tryz.func130.trans (congrArg some (by kernel_rfl))
  f10 := ⟨Tryz.f135.name, by decide, Tryz.func135.trans (congrArg some (by kernel_rfl))⟩
  f11 := ⟨Tryz.f136.name, by decide, Tryz.func136.trans (congrArg some (by kernel_rfl))⟩
  f12 := ⟨Tryz.f137.name, by decide, Tryz.func137.trans (congrArg some (by kernel_rfl))⟩
  f13 := ⟨Tryz.f138.name, by decide, Tryz.func138.trans (congrArg some (by kernel_rfl))⟩
  f14 := ⟨Tryz.f139.name, by decide, Tryz.func139.trans (congrArg some (by kernel_rfl))⟩
  f15 := ⟨Tryz.f140.name, by decide, Tryz.func140.trans (congrArg some (by kernel_rfl))⟩
  f16 := ⟨Tryz.f141.name, by decide, Tryz.func141.trans (congrArg some (by kernel_rfl))⟩
  f17 := ⟨Tryz.f142.name, by decide, Tryz.func142.trans (congrArg some (by kernel_rfl))⟩
  f18 := ⟨Tryz.f143.name, by decide, Tryz.func143.trans (congrArg some (by kernel_rfl))⟩
  f19 := Tryz.func144.trans (congrArg some (by kernel_rfl))
  f20 := Tryz.func145.trans (congrArg some (by kernel_rfl))
  f30 := ⟨Tryz.f146.name, by decide, Tryz.func146.trans (congrArg some (by kernel_rfl))⟩
  f31 := Tryz.func147.trans (congrArg some (by kernel_rfl))
  f32 := Tryz.func148.trans (congrArg some (by kernel_rfl))
  f33 := ⟨Tryz.f149.name, by decide, Tryz.func149.trans (congrArg some (by kernel_rfl))⟩
  f34 := ⟨Tryz.f150.name, by decide, Tryz.func150.trans (congrArg some (by kernel_rfl))⟩
  f35 := ⟨Tryz.f151.name, by decide, Tryz.func151.trans (congrArg some (by kernel_rfl))⟩
  f40 := ⟨Tryz.f152.name, by decide, Tryz.func152.trans (congrArg some (by kernel_rfl))⟩
  t0 := Tryz.underlying0
  a0 := Tryz.isAgg0
  z0 := Tryz.sizeOf0
  v0 := Tryz.zeroValue0
  t3 := Tryz.underlying3
  a3 := Tryz.isAgg3
  z3 := Tryz.sizeOf3
  v3 := Tryz.zeroValue3
  t4 := Tryz.underlying4
  a4 := Tryz.isAgg4
  z4 := Tryz.sizeOf4
  v4 := Tryz.zeroValue4
  t5 := Tryz.underlying5
  a5 := Tryz.isAgg5
  z5 := Tryz.sizeOf5
  v5 := Tryz.zeroValue5
  t9 := Tryz.underlying9
  a9 := Tryz.isAgg9
  z9 := Tryz.sizeOf9
  v9 := Tryz.zeroValue9
  t22 := Tryz.underlying52
  a22 := Tryz.isAgg52
  z22 := Tryz.sizeOf52
  v22 := Tryz.zeroValue52
  t23 := Tryz.underlying52
  a23 := Tryz.isAgg52
  z23 := Tryz.sizeOf52
  v23 := Tryz.zeroValue52
  t25 := Tryz.underlying3
  a25 := Tryz.isAgg3
  z25 := Tryz.sizeOf3
  v25 := Tryz.zeroValue3
  t32 := Tryz.underlying167
  a32 := Tryz.isAgg167
  z32 := Tryz.sizeOf167
  v32 := Tryz.zeroValue167
  t35 := Tryz.underlying224
  a35 := Tryz.isAgg224
  z35 := Tryz.sizeOf224
  v35 := Tryz.zeroValue224
  t36 := Tryz.underlying225
  a36 := Tryz.isAgg225
  z36 := Tryz.sizeOf225
  v36 := Tryz.zeroValue225
  t41 := Tryz.underlying229
  a41 := Tryz.isAgg229
  z41 := Tryz.sizeOf229
  v41 := Tryz.zeroValue229
  t44 := Tryz.underlying202
  a44 := Tryz.isAgg202
  z44 := Tryz.sizeOf202
  v44 := Tryz.zeroValue202
  t46 := Tryz.underlying206
  a46 := Tryz.isAgg206
  z46 := Tryz.sizeOf206
  v46 := Tryz.zeroValue206
  t53 := Tryz.underlying233
  a53 := Tryz.isAgg233
  z53 := Tryz.sizeOf233
  v53 := Tryz.zeroValue233
  t57 := Tryz.underlying138
  a57 := Tryz.isAgg138
  z57 := Tryz.sizeOf138
  v57 := Tryz.zeroValue138
  t63 := Tryz.underlying238
  a63 := Tryz.isAgg238
  z63 := Tryz.sizeOf238
  v63 := Tryz.zeroValue238
  t64 := Tryz.underlying239
  a64 := Tryz.isAgg239
  z64 := Tryz.sizeOf239
  v64 := Tryz.zeroValue239 }
end Go.Proofs
namespace Go.Proofs.YtggjlkheniombaaGreatDoor
open Go
set_option linter.unusedVariables false
set_option linter.unusedSimpArgs false
set_option linter.unusedSectionVars false
set_option maxHeartbeats 400000
section
def errG : Nat → Nat
  | 1 => 0
  | 2 => 2
  | 3 => 3
  | 4 => 4
  | 5 => 5
  | 6 => 6
  | 7 => 1
  | 8 => 7
  | 9 => 8
  | 10 => 9
  | 11 => 10
  | 12 => 11
  | 13 => 12
  | 14 => 13
  | 15 => 14
  | 16 => 15
  | 17 => 16
  | _ => 17
class Has (es : List Nat) (i : Nat) : Prop where
  h : i ∈ es
instance {i : Nat} {l : List Nat} : Has (i :: l) i := ⟨List.mem_cons_self⟩
instance {i j : Nat} {l : List Nat} [k : Has l i] : Has (j :: l) i := ⟨List.mem_cons_of_mem _ k.h⟩
structure GErr (es : List Nat) (w : World) (A : Nat → Prop) (TE : TypeId) (ea : Nat → Addr) : Prop where
  c : ∀ i, i ∈ es → w.cell? ⟨errG i, 0, none⟩ = some (eV TE ea i)
  n : ∀ i, i ∈ es → A (errG i)
theorem GErr.mv {es : List Nat} {w w' : World} {A A' : Nat → Prop} {TE : TypeId} {ea : Nat → Addr} (h : GErr es w A TE ea) (hk : ∀ k, k < w.heap.size → A k → w'.heap[k]? = w.heap[k]? ∧ A' k) : GErr es w' A' TE ea :=
  ⟨fun i hi => by
    have := hk _ (World.block_lt_of_cell? w ⟨errG i, 0, none⟩ (h.c i hi)) (h.n i hi)
    rw [World.cell?_of_block (w := w) (a := ⟨errG i, 0, none⟩) this.1]; exact h.c i hi,
   fun i hi => (hk _ (World.block_lt_of_cell? w ⟨errG i, 0, none⟩ (h.c i hi)) (h.n i hi)).2⟩
theorem shl_pow {wd : Nat} (h : wd < 8) : IntKind.i64.wrap (1 * 2 ^ (min (8 * (wd : Int)).toNat IntKind.i64.bits)) = 2 ^ (8 * wd) := by
  have e : min (8 * (wd : Int)).toNat IntKind.i64.bits = 8 * wd := by simp only [IntKind.bits]; omega
  rw [e]
  have : wd = 0 ∨ wd = 1 ∨ wd = 2 ∨ wd = 3 ∨ wd = 4 ∨ wd = 5 ∨ wd = 6 ∨ wd = 7 := by omega
  rcases this with h | h | h | h | h | h | h | h <;> subst h <;> rfl
theorem byte_shr {n : Int} {wd k : Nat} {i : Int} (hi : i = (wd : Int) - 1 - k) (hk : k < wd) (hw : wd ≤ 8) :
    Value.int .u8 (IntKind.u8.wrap (n.fdiv (2 ^ (min (8 * i).toNat IntKind.i64.bits)))) = B8 (byteAt n (wd - 1 - k)) := by
  subst hi
  have e : min (8 * ((wd : Int) - 1 - k)).toNat IntKind.i64.bits = 8 * (wd - 1 - k) := by simp only [IntKind.bits]; omega
  rw [e, Int.fdiv_eq_ediv_of_nonneg _ (by exact Int.le_of_lt (Int.pow_pos (by omega)))]
  simp only [B8, byteAt, Value.int.injEq, true_and]
  generalize n / 2 ^ (8 * (wd - 1 - k)) = m
  have h1 : IntKind.u8.wrap m = m % 256 := by simp [IntKind.wrap, IntKind.bits, IntKind.signed]
  rw [h1, UInt8.toNat_ofNat']
  omega
attribute [local irreducible] Gl Gc Gx Gs Runs Wt
theorem number_neg {w : World} {F : Nat → Prop} {g TE : Nat} {ea : Nat → Addr} {s : WS} {n : Int} {wd : Nat} (h : stars [WrR TE ea g s] w F) {es : List Nat} [Has es 1] (hE : GErr es w (fun k => ¬ F k) TE ea) (h1 : 1 ≤ wd) (h8 : wd ≤ 8) (hn : n < 0) :
    Calls Tryz.prog 105 #[.pointer (some ⟨g, 0, none⟩), .int .i64 n, .int .i64 (wd : Int)] w (Post w F (fun _ : Unit => .tuple #[]) (fun _ => [WrR TE ea g (wFail 1 s)])) := by
 obtain ⟨a0, c0, h'⟩ := wr_open h; refine g_enter (env := [(0, .pointer (some ⟨g, 0, none⟩)), (1, .int .i64 n), (2, .int .i64 (wd : Int))]) Tryz.func105 rfl h' Tryz.ntmps105 rfl rfl ?_; refine gc_seq (gsr (zxm ?_)); refine gp (r_bool (r_lss rfl rfl) (decide_eq_false (by omega))) ?_; refine zxm ?_; refine gq zmv ?_; refine gq (r_bool (r_gtr rfl rfl) (decide_eq_false (by omega))) ?_; refine gp zpk ?_; refine zxm ?_; refine gq zmv ?_; refine gq (r_bool (r_lss rfl rfl) (decide_eq_true hn)) ?_; refine gp zpk ?_; refine zxm ?_; refine gn ?_; refine gn ?_; refine gn ?_; refine gn ?_; refine gn ?_; refine gn ?_; refine gn ?_; refine gn ?_; refine gn ?_; refine gp zpk ?_; refine gnt (gc_condT rfl rfl ?_); refine gc_seq (gc_regionT 4 (by kernel_rfl) (by kernel_rfl) ?_); refine sp zmv ?_; refine sp znc ?_; refine sp zfa ?_; refine sp (r_ld1o rfl Ty.row_26 (hE.c 1 Has.h) (hE.n 1 Has.h)) ?_; refine gs_nil ?_; refine zc (fun _ => ?_) (c := fun w1 F1 F2 h1 h2 hd hst => fail_ok h1)
 refine gnt (gc_ret (gx_then_ret (gx_ret0 rfl ?_))); exact fun w' hw => ⟨(), rfl, by rw [wFail]; by_cases he : s.err = 0 <;> simp only [he, if_true, if_false, ite_true, ite_false] at hw ⊢ <;> exact St.wr (hw.z) (by simp [he]) rfl rfl⟩
theorem number_big {w : World} {F : Nat → Prop} {g TE : Nat} {ea : Nat → Addr} {s : WS} {n : Int} {wd : Nat} (h : stars [WrR TE ea g s] w F) {es : List Nat} [Has es 1] (hE : GErr es w (fun k => ¬ F k) TE ea) (h1 : 1 ≤ wd) (h8 : wd ≤ 8) (hn : 0 ≤ n) (hw8 : wd < 8) (hb : (2 : Int) ^ (8 * wd) ≤ n) :
    Calls Tryz.prog 105 #[.pointer (some ⟨g, 0, none⟩), .int .i64 n, .int .i64 (wd : Int)] w (Post w F (fun _ : Unit => .tuple #[]) (fun _ => [WrR TE ea g (wFail 1 s)])) := by
 obtain ⟨a0, c0, h'⟩ := wr_open h; refine g_enter (env := [(0, .pointer (some ⟨g, 0, none⟩)), (1, .int .i64 n), (2, .int .i64 (wd : Int))]) Tryz.func105 rfl h' Tryz.ntmps105 rfl rfl ?_; refine gc_seq (gsr (zxm ?_)); refine gp (r_bool (r_lss rfl rfl) (decide_eq_false (by omega))) ?_; refine zxm ?_; refine gq zmv ?_; refine gq (r_bool (r_gtr rfl rfl) (decide_eq_false (by omega))) ?_; refine gp zpk ?_; refine zxm ?_; refine gq zmv ?_; refine gq (r_bool (r_lss rfl rfl) (decide_eq_false (by omega))) ?_; refine gp zpk ?_; refine zxm ?_; refine gq zmv ?_; refine gq (r_bool (r_lss rfl rfl) (decide_eq_true (by omega))) ?_; refine gq zmv ?_; refine gq zmv ?_; refine gq zmv ?_; refine gq (r_arith (op := .mul) rfl rfl (wrap_i64 (by omega) (by omega))) ?_; refine gq (r_int (r_shl rfl rfl (by omega)) (shl_pow (by omega))) ?_; refine gq (r_bool (r_geq rfl rfl) (decide_eq_true hb)) ?_; refine gq zpk ?_; refine gp zpk ?_; refine gnt (gc_condT rfl rfl ?_); refine gc_seq (gc_regionT 4 (by kernel_rfl) (by kernel_rfl) ?_); refine sp zmv ?_; refine sp znc ?_; refine sp zfa ?_; refine sp (r_ld1o rfl Ty.row_26 (hE.c 1 Has.h) (hE.n 1 Has.h)) ?_; refine gs_nil ?_; refine zc (fun _ => ?_) (c := fun w1 F1 F2 h1 h2 hd hst => fail_ok h1)
 refine gnt (gc_ret (gx_then_ret (gx_ret0 rfl ?_))); exact fun w' hw => ⟨(), rfl, by rw [wFail]; by_cases he : s.err = 0 <;> simp only [he, if_true, if_false, ite_true, ite_false] at hw ⊢ <;> exact St.wr (hw.z) (by simp [he]) rfl rfl⟩
theorem number_fit7 {w : World} {F : Nat → Prop} {g TE : Nat} {ea : Nat → Addr} {s : WS} {n : Int} {wd : Nat} (h : stars [WrR TE ea g s] w F) {es : List Nat} [Has es 1] (hE : GErr es w (fun k => ¬ F k) TE ea) (h1 : 1 ≤ wd) (h8 : wd ≤ 8) (hl : s.bs.length + wd ≤ 1099511627776) (hn : 0 ≤ n) (hw8 : wd < 8) (hb : n < (2 : Int) ^ (8 * wd)) :
    Calls Tryz.prog 105 #[.pointer (some ⟨g, 0, none⟩), .int .i64 n, .int .i64 (wd : Int)] w (Post w F (fun _ : Unit => .tuple #[]) (fun _ => [WrR TE ea g (wFix (beN n wd) s)])) := by
 refine g_enter (env := [(0, .pointer (some ⟨g, 0, none⟩)), (1, .int .i64 n), (2, .int .i64 (wd : Int))]) Tryz.func105 rfl h Tryz.ntmps105 rfl rfl ?_; refine gc_seq (gsr (zxm ?_)); refine gp (r_bool (r_lss rfl rfl) (decide_eq_false (by omega))) ?_; refine zxm ?_; refine gq zmv ?_; refine gq (r_bool (r_gtr rfl rfl) (decide_eq_false (by omega))) ?_; refine gp zpk ?_; refine zxm ?_; refine gq zmv ?_; refine gq (r_bool (r_lss rfl rfl) (decide_eq_false (by omega))) ?_; refine gp zpk ?_; refine zxm ?_; refine gq zmv ?_; refine gq (r_bool (r_lss rfl rfl) (decide_eq_true (by omega))) ?_; refine gq zmv ?_; refine gq zmv ?_; refine gq zmv ?_; refine gq (r_arith (op := .mul) rfl rfl (wrap_i64 (by omega) (by omega))) ?_; refine gq (r_int (r_shl rfl rfl (by omega)) (shl_pow (by omega))) ?_; refine gq (r_bool (r_geq rfl rfl) (decide_eq_false (by omega))) ?_; refine gq zpk ?_; refine gp zpk ?_; refine gnt (gc_condF rfl rfl ?_); refine gc_skip (gx_then (gsr (zxa ?_))); refine gnt (gc_seq (gsr (zxm ?_))); refine gp (r_int (r_arith (op := .sub) rfl rfl (wrap_i64 (by omega) (by omega))) (show (wd : Int) - 1 = (wd : Int) - 1 - ((0 : Nat) : Int) by omega)) ?_; refine zxa ?_; refine gnt (gc_block (gc_loop (α := Nat × Option Addr × Nat) (fun x => [pureR (x.1 ≤ wd), rowR 5 1 x.2.1 x.1 x.2.2 (((List.range x.1).map fun j => byteAt n (wd - 1 - j)).map B8), WrR TE ea g s]) (fun x => [(6, .slice x.2.1 x.1 x.2.2), (7, .int .i64 ((wd : Int) - 1 - (x.1 : Int)))]) [36, 37, 38, 39, 40, 41, 42, 43, 44, 45, 46, 47] (fun x => wd - x.1) (0, none, 0) ?_ ?_ ?_))
 ·refine env_start (by kernel_rfl)
 ·rintro w' ⟨F', hF', hst'⟩
  exact ⟨F', stars_pure_mk (Nat.zero_le _) (stars_row_nil hF'), hst'⟩
 ·intro x u; obtain ⟨k, a, c⟩ := x; refine gc_pureR (fun hk => ?_)
  replace hk : k ≤ wd := hk
  refine gc_seq (gsr (zxm ?_)); refine gp zge ?_; refine gnt (gif rfl (fun hc37 => ?_) (fun hc37 => ?_))
  ·have hk' : k < wd := by (try simp only at hc37); omega
   refine gc_skip (gx_then (gc_seq (gc_block (gc_region (zxm ?_))))); refine zxm ?_; refine zxm ?_; refine gp (r_arith (op := .mul) rfl rfl (wrap_i64 (by omega) (by omega))) ?_; refine gp zhr ?_; refine gp (r_val (r_conv_int rfl Ty.un_3 Ty.un_5) (byte_shr rfl hk' h8)) ?_; refine gl_bsl1 (wt0 rfl) Ty.sl_22 Ty.sz_5 Ty.zc_5 (by conv => lhs; whnf) rfl ?_; intro b46; refine gl_append (news := [B8 (byteAt n (wd - 1 - k))]) (wt0 rfl) rfl rfl (by repeat (first | exact Pick.here | apply Pick.there)) Ty.el_22 (fun w' hw => hw.row (by repeat (first | exact Pick.here | apply Pick.there))) (all_cons' rfl all_nil') (by simp only [maxLen]; omega) (by omega) ?_; intro a1 c1; refine zxa ?_; refine gl_nil (gx_block_normal (gx_then (gc_region (zxm ?_)))); refine gp (r_int (r_arith (op := .sub) rfl rfl (wrap_i64 (by omega) (by omega))) (show (wd : Int) - 1 - (k : Int) - 1 = (wd : Int) - 1 - ((k + 1 : Nat) : Int) by omega)) ?_; refine zxa ?_; refine gl_nil ?_; have hk' : k < wd := by omega
   refine zrd ((k + 1, a1, c1)) ?_ ?_
   ·show wd - (k + 1) < wd - k
    omega
   ·rintro w' hw
    obtain ⟨F', hF', hst'⟩ := hw.sel (M := [rowR 5 1 a1 (k + 1) c1 _, WrR TE ea g s]) (by repeat (first | exact Sel.nil | (apply Sel.cons; · (repeat (first | exact Pick.here | apply Pick.there))))); refine ⟨F', stars_pure_mk (by show k + 1 ≤ wd; omega) ?_, hst'⟩
    have e : ((List.range (k + 1)).map fun j => byteAt n (wd - 1 - j)).map B8 = ((List.range k).map fun j => byteAt n (wd - 1 - j)).map B8 ++ [B8 (byteAt n (wd - 1 - k))] := by simp [List.range_succ]
    show stars [rowR 5 1 a1 (k + 1) c1 (((List.range (k + 1)).map fun j => byteAt n (wd - 1 - j)).map B8), WrR TE ea g s] w' F'
    rw [e]; exact hF'
  ·have hk' : k = wd := by (try simp only at hc37); omega
   subst hk'; refine gc_exit ?_; refine gx_then_exit ?_; refine gx_round_exit ?_; refine gx_block_hit ?_; refine gx_then (gc_region (zxm ?_)); refine zxm ?_; refine zc (fun _ => ?_) (c := fun w1 F1 F2 h1 h2 hd hst => fixed_ok h1 (rd_row (xs := (beN n k).map B8) h2 hd (by repeat (first | exact Pick.here | apply Pick.there))) (by omega))
   refine gl_nil (gx_ret0' rfl ?_); exact ze ()
theorem number_fit8 {w : World} {F : Nat → Prop} {g TE : Nat} {ea : Nat → Addr} {s : WS} {n : Int} {wd : Nat} (h : stars [WrR TE ea g s] w F) {es : List Nat} [Has es 1] (hE : GErr es w (fun k => ¬ F k) TE ea) (h1 : 1 ≤ wd) (h8 : wd ≤ 8) (hl : s.bs.length + wd ≤ 1099511627776) (hn : 0 ≤ n) (hw8 : wd = 8) :
    Calls Tryz.prog 105 #[.pointer (some ⟨g, 0, none⟩), .int .i64 n, .int .i64 (wd : Int)] w (Post w F (fun _ : Unit => .tuple #[]) (fun _ => [WrR TE ea g (wFix (beN n wd) s)])) := by
 refine g_enter (env := [(0, .pointer (some ⟨g, 0, none⟩)), (1, .int .i64 n), (2, .int .i64 (wd : Int))]) Tryz.func105 rfl h Tryz.ntmps105 rfl rfl ?_; refine gc_seq (gsr (zxm ?_)); refine gp (r_bool (r_lss rfl rfl) (decide_eq_false (by omega))) ?_; refine zxm ?_; refine gq zmv ?_; refine gq (r_bool (r_gtr rfl rfl) (decide_eq_false (by omega))) ?_; refine gp zpk ?_; refine zxm ?_; refine gq zmv ?_; refine gq (r_bool (r_lss rfl rfl) (decide_eq_false (by omega))) ?_; refine gp zpk ?_; refine zxm ?_; refine gq zmv ?_; refine gq (r_bool (r_lss rfl rfl) (decide_eq_false (by omega))) ?_; refine gq zmv ?_; refine gn ?_; refine gn ?_; refine gn ?_; refine gn ?_; refine gn ?_; refine gq zpk ?_; refine gp zpk ?_; refine gnt (gc_condF rfl rfl ?_); refine gc_skip (gx_then (gsr (zxa ?_))); refine gnt (gc_seq (gsr (zxm ?_))); refine gp (r_int (r_arith (op := .sub) rfl rfl (wrap_i64 (by omega) (by omega))) (show (wd : Int) - 1 = (wd : Int) - 1 - ((0 : Nat) : Int) by omega)) ?_; refine zxa ?_; refine gnt (gc_block (gc_loop (α := Nat × Option Addr × Nat) (fun x => [pureR (x.1 ≤ wd), rowR 5 1 x.2.1 x.1 x.2.2 (((List.range x.1).map fun j => byteAt n (wd - 1 - j)).map B8), WrR TE ea g s]) (fun x => [(6, .slice x.2.1 x.1 x.2.2), (7, .int .i64 ((wd : Int) - 1 - (x.1 : Int)))]) [36, 37, 38, 39, 40, 41, 42, 43, 44, 45, 46, 47] (fun x => wd - x.1) (0, none, 0) ?_ ?_ ?_))
 ·refine env_start (by kernel_rfl)
 ·rintro w' ⟨F', hF', hst'⟩
  exact ⟨F', stars_pure_mk (Nat.zero_le _) (stars_row_nil hF'), hst'⟩
 ·intro x u; obtain ⟨k, a, c⟩ := x; refine gc_pureR (fun hk => ?_)
  replace hk : k ≤ wd := hk
  refine gc_seq (gsr (zxm ?_)); refine gp zge ?_; refine gnt (gif rfl (fun hc37 => ?_) (fun hc37 => ?_))
  ·have hk' : k < wd := by (try simp only at hc37); omega
   refine gc_skip (gx_then (gc_seq (gc_block (gc_region (zxm ?_))))); refine zxm ?_; refine zxm ?_; refine gp (r_arith (op := .mul) rfl rfl (wrap_i64 (by omega) (by omega))) ?_; refine gp zhr ?_; refine gp (r_val (r_conv_int rfl Ty.un_3 Ty.un_5) (byte_shr rfl hk' h8)) ?_; refine gl_bsl1 (wt0 rfl) Ty.sl_22 Ty.sz_5 Ty.zc_5 (by conv => lhs; whnf) rfl ?_; intro b46; refine gl_append (news := [B8 (byteAt n (wd - 1 - k))]) (wt0 rfl) rfl rfl (by repeat (first | exact Pick.here | apply Pick.there)) Ty.el_22 (fun w' hw => hw.row (by repeat (first | exact Pick.here | apply Pick.there))) (all_cons' rfl all_nil') (by simp only [maxLen]; omega) (by omega) ?_; intro a1 c1; refine zxa ?_; refine gl_nil (gx_block_normal (gx_then (gc_region (zxm ?_)))); refine gp (r_int (r_arith (op := .sub) rfl rfl (wrap_i64 (by omega) (by omega))) (show (wd : Int) - 1 - (k : Int) - 1 = (wd : Int) - 1 - ((k + 1 : Nat) : Int) by omega)) ?_; refine zxa ?_; refine gl_nil ?_; have hk' : k < wd := by omega
   refine zrd ((k + 1, a1, c1)) ?_ ?_
   ·show wd - (k + 1) < wd - k
    omega
   ·rintro w' hw
    obtain ⟨F', hF', hst'⟩ := hw.sel (M := [rowR 5 1 a1 (k + 1) c1 _, WrR TE ea g s]) (by repeat (first | exact Sel.nil | (apply Sel.cons; · (repeat (first | exact Pick.here | apply Pick.there))))); refine ⟨F', stars_pure_mk (by show k + 1 ≤ wd; omega) ?_, hst'⟩
    have e : ((List.range (k + 1)).map fun j => byteAt n (wd - 1 - j)).map B8 = ((List.range k).map fun j => byteAt n (wd - 1 - j)).map B8 ++ [B8 (byteAt n (wd - 1 - k))] := by simp [List.range_succ]
    show stars [rowR 5 1 a1 (k + 1) c1 (((List.range (k + 1)).map fun j => byteAt n (wd - 1 - j)).map B8), WrR TE ea g s] w' F'
    rw [e]; exact hF'
  ·have hk' : k = wd := by (try simp only at hc37); omega
   subst hk'; refine gc_exit ?_; refine gx_then_exit ?_; refine gx_round_exit ?_; refine gx_block_hit ?_; refine gx_then (gc_region (zxm ?_)); refine zxm ?_; refine zc (fun _ => ?_) (c := fun w1 F1 F2 h1 h2 hd hst => fixed_ok h1 (rd_row (xs := (beN n k).map B8) h2 hd (by repeat (first | exact Pick.here | apply Pick.there))) (by omega))
   refine gl_nil (gx_ret0' rfl ?_); exact ze ()
theorem number_ok {w : World} {F : Nat → Prop} {g TE : Nat} {ea : Nat → Addr} {s : WS} {n : Int} {wd : Nat} (h : stars [WrR TE ea g s] w F) {es : List Nat} [Has es 1] (hE : GErr es w (fun k => ¬ F k) TE ea) (h1 : 1 ≤ wd) (h8 : wd ≤ 8) (hl : s.bs.length + wd ≤ 1099511627776) :
    Calls Tryz.prog 105 #[.pointer (some ⟨g, 0, none⟩), .int .i64 n, .int .i64 (wd : Int)] w (Post w F (fun _ : Unit => .tuple #[]) (fun _ => [WrR TE ea g (wNum n wd s)])) := by
  unfold wNum
  by_cases hn : n < 0
  · rw [if_pos (.inl hn)]; exact number_neg h hE h1 h8 hn
  · by_cases hb : wd < 8 ∧ (2 : Int) ^ (8 * wd) ≤ n
    · rw [if_pos (.inr hb)]; exact number_big h hE h1 h8 (by omega) hb.1 hb.2
    · rw [if_neg (fun hh => hh.elim hn hb)]
      by_cases hw : wd < 8
      · exact number_fit7 h hE h1 h8 hl (by omega) hw (by have : ¬ (2 : Int) ^ (8 * wd) ≤ n := fun h' => hb ⟨hw, h'⟩; omega)
      · exact number_fit8 h hE h1 h8 hl (by omega) (by omega)
end
section
structure NErr (w : World) (A : Nat → Prop) (ea : Nat → Addr) : Prop where
  g : GErr [1, 2, 3, 4, 5, 6, 7, 8, 9, 10, 11, 12, 13, 14, 15, 16, 17, 18] w A 241 ea
  c : ∀ i, 1 ≤ i → i ≤ 18 → (∃ c t, w.heap[(ea i).block]? = some (.cells c t (0, 0))) ∧ A (ea i).block
  j : ∀ i j, 1 ≤ i → i ≤ 18 → 1 ≤ j → j ≤ 18 → ea i = ea j → i = j
theorem NErr.mv {w w' : World} {A A' : Nat → Prop} {ea : Nat → Addr} (h : NErr w A ea) (k : Still w A w' A') : NErr w' A' ea :=
  ⟨h.g.mv k, fun i h1 h2 => by
    obtain ⟨⟨c, t, hc⟩, hA⟩ := h.c i h1 h2
    have hlt : (ea i).block < w.heap.size := (Array.getElem?_eq_some_iff.1 hc).1
    obtain ⟨e, hA'⟩ := k _ hlt hA
    exact ⟨⟨c, t, by rw [e]; exact hc⟩, hA'⟩, h.j⟩
theorem errIs_ok {w : World} {F : Nat → Prop} {ea : Nat → Addr} {n m : Nat} (h : stars [] w F) (hN : NErr w (fun k => ¬ F k) ea) (n1 : 1 ≤ n) (n2 : n ≤ 18) (m1 : 1 ≤ m) (m2 : m ≤ 18) :
    Calls Tryz.prog 35 #[eV 241 ea n, eV 241 ea m] w (Post w F (fun _ : Unit => .bool (decide (n = m))) (fun _ => [])) := by
  have en : eV 241 ea n = .iface 241 (.pointer (some (ea n))) := by cases n with | zero => omega | succ n => unfold eV; rfl
  have em : eV 241 ea m = .iface 241 (.pointer (some (ea m))) := by cases m with | zero => omega | succ n => unfold eV; rfl
  rw [en, em]
  by_cases hnm : n = m
  · subst hnm
    exact Calls.mono (is_same (ea n) w) fun e w' ⟨he, hw⟩ => ⟨(), by rw [he, decide_eq_true rfl], by rw [hw]; exact St.init h⟩
  · obtain ⟨⟨c1, t1, h1⟩, _⟩ := hN.c n n1 n2
    obtain ⟨⟨c2, t2, h2⟩, _⟩ := hN.c m m1 m2
    exact Calls.mono (is_other (ea n) (ea m) c1 c2 t1 t2 w (fun e => hnm (hN.j n m n1 n2 m1 m2 e)) h1 h2) fun e w' ⟨he, hw⟩ => ⟨(), by rw [he, decide_eq_false hnm], by rw [hw]; exact St.init h⟩
attribute [local irreducible] Gl Gc Gx Gs Runs Wt
theorem errNum_ok {w : World} {F : Nat → Prop} {ea : Nat → Addr} {n : Nat} (h : stars [] w F) (hN : NErr w (fun k => ¬ F k) ea) (hn : n ≤ 18) :
    Calls Tryz.prog 12 #[eV 241 ea n] w (Post w F (fun _ : Unit => .int .i64 (n : Int)) (fun _ => [])) := by
 have hE := hN.g
 refine g_enter (env := [(0, eV 241 ea n)]) Tryz.func12 rfl h Tryz.ntmps12 rfl rfl ?_; refine gsr (zxa ?_); refine gnt (gc_seq (gsr (zxm ?_))); refine gp (r_bool (c := decide (n = 0)) (r_eqnil rfl (by kernel_rfl)) rfl) ?_; refine gnt (gif rfl (fun hc7 => ?_) (fun hc7 => ?_))
 ·refine gsr (zxa ?_); refine gnt (gc_ret (gx_then_ret (gx_ret1 rfl (by conv => lhs; whnf) ?_))); have hn0 : n = 0 := hc7
  subst hn0; exact ze ()
 ·try simp only at hc7
  have hn0 : n ≠ 0 := hc7
  refine gc_skip (gx_then (gsr (gp (r_ld1o rfl Ty.row_26 (hE.c 1 Has.h) (hE.n 1 Has.h)) ?_))); refine gp (r_ld1o rfl Ty.row_26 (hE.c 2 Has.h) (hE.n 2 Has.h)) ?_; refine gp (r_ld1o rfl Ty.row_26 (hE.c 3 Has.h) (hE.n 3 Has.h)) ?_; refine gp (r_ld1o rfl Ty.row_26 (hE.c 4 Has.h) (hE.n 4 Has.h)) ?_; refine gp (r_ld1o rfl Ty.row_26 (hE.c 5 Has.h) (hE.n 5 Has.h)) ?_; refine gp (r_ld1o rfl Ty.row_26 (hE.c 6 Has.h) (hE.n 6 Has.h)) ?_; refine gp (r_ld1o rfl Ty.row_26 (hE.c 7 Has.h) (hE.n 7 Has.h)) ?_; refine gp (r_ld1o rfl Ty.row_26 (hE.c 8 Has.h) (hE.n 8 Has.h)) ?_; refine gp (r_ld1o rfl Ty.row_26 (hE.c 9 Has.h) (hE.n 9 Has.h)) ?_; refine gp (r_ld1o rfl Ty.row_26 (hE.c 10 Has.h) (hE.n 10 Has.h)) ?_; refine gp (r_ld1o rfl Ty.row_26 (hE.c 11 Has.h) (hE.n 11 Has.h)) ?_; refine gp (r_ld1o rfl Ty.row_26 (hE.c 12 Has.h) (hE.n 12 Has.h)) ?_; refine gp (r_ld1o rfl Ty.row_26 (hE.c 13 Has.h) (hE.n 13 Has.h)) ?_; refine gp (r_ld1o rfl Ty.row_26 (hE.c 14 Has.h) (hE.n 14 Has.h)) ?_; refine gp (r_ld1o rfl Ty.row_26 (hE.c 15 Has.h) (hE.n 15 Has.h)) ?_; refine gp (r_ld1o rfl Ty.row_26 (hE.c 16 Has.h) (hE.n 16 Has.h)) ?_; refine gp (r_ld1o rfl Ty.row_26 (hE.c 17 Has.h) (hE.n 17 Has.h)) ?_; refine gp (r_ld1o rfl Ty.row_26 (hE.c 18 Has.h) (hE.n 18 Has.h)) ?_; refine gl_bslice (s := 1) (e := 26) (len := 18) (cs := ((List.range 18).map fun i => eV 241 ea (i + 1))) (z := [.nilIface]) (wt0 rfl) Ty.sl_94 (by kernel_rfl) (by decide) (by decide) (by decide) (by kernel_rfl) (by kernel_rfl) rfl (fun b26 => ?_)
  refine zxa ?_; refine gnt (gc_seq (gsr (zxm ?_))); refine gp zln ?_; refine zxm ?_; refine gnt (gc_block (gc_loop (α := Nat) (fun k => [pureR (k ≤ 18 ∧ k < n), rowR 26 1 (some ⟨b26, 0, none⟩) 18 18 ((List.range 18).map fun i => eV 241 ea (i + 1))]) (fun k => [(29, .int .i64 (k : Int))]) [2, 4, 5, 30, 31, 32, 33, 34, 35, 36, 37, 38, 39] (fun k => 18 - k) 0 ?_ ?_ ?_))
  ·refine env_start (by kernel_rfl)
  ·exact fun w' hw => zlp ⟨Nat.zero_le _, by omega⟩ (by repeat (first | exact Sel.nil | (apply Sel.cons; · (repeat (first | exact Pick.here | apply Pick.there))))) w' hw
  ·intro k u; refine gc_pureR (fun hk => ?_)
   obtain ⟨hk, hkn⟩ := hk; replace hk : k ≤ 18 := hk
   replace hkn : k < n := hkn
   refine gsr (gp zlt ?_); refine gnt (gc_seq (gif rfl (fun hc30 => ?_) (fun hc30 => ?_)))
   ·try simp only at hc30
    have hk' : k < 18 := by omega
    refine gc_skip (gx_then (gc_seq (gc_block (gsr (zxm ?_))))); refine gp (zia) ?_; refine gp (r_ld1r (v := eV 241 ea (k + 1)) rfl Ty.row_26 (by repeat (first | exact Pick.here | apply Pick.there)) (by simp [hk'])) ?_; refine zxa ?_; refine zxa ?_; refine zxs ?_; refine zxm ?_; refine zxm ?_; refine zc (fun _ => ?_) (c := fun w1 F1 F2 h1 h2 hd hst => errIs_ok (n := n) (m := k + 1) h1 (hN.mv hst.still) (by omega) (by omega) (by omega) (by omega))
    refine gnt (gif rfl (fun hc36 => ?_) (fun hc36 => ?_))
    ·refine gsr (zxm ?_); refine gp zad ?_; refine zxa ?_; refine gnt (gc_ret (gx_block_ret ?_)); refine gx_then_ret (gx_round_ret ?_); refine gx_block_ret ?_; refine gx_then_ret (gx_ret1 rfl (by conv => lhs; whnf) ?_); have e : n = k + 1 := hc36
     subst e; exact ze ()
    ·refine gc_skip (gx_block_normal (gx_then (gc_region (gp zad ?_)))); refine zxm ?_; refine gl_nil (zrd (k + 1) ?_ ?_)
     ·show 18 - (k + 1) < 18 - k
      omega
     ·exact fun w' hw => zlp ⟨by show k + 1 ≤ 18; omega, by show k + 1 < n; omega⟩ (by repeat (first | exact Sel.nil | (apply Sel.cons; · (repeat (first | exact Pick.here | apply Pick.there))))) w' hw
   ·refine gc_exit ?_; refine gx_then_exit ?_; refine gx_round_exit ?_; refine gx_block_hit ?_; refine gx_then (gsr (zxa ?_)); refine gnt (gc_ret (gx_ret1 rfl (by conv => lhs; whnf) ?_)); exact absurd hkn (by omega)
end
section
open Go.ChangeShapes Go.WideShapes Go.RowKit
def errRow (x : String × List UInt8) : String × DataW Unit := (x.1, .iface "*errors.errorString" (.ptr (.agg [.lit (.string x.2)])))
theorem laid_sentinelF {P : Program} {n nm : String} {text : List UInt8} {r : List (String × DataW Unit)} {W : World} {g : Nat} {ti tp te ts : TypeId} {ms : Array (String × TypeId)} {f : Field}
    (h : laidMet P ((n, .iface nm (.ptr (.agg [.lit (.string text)]))) :: r) W)
    (hg : P.globalNamed n = some g) (ht : (P.globals[g]?).map (·.type) = some ti) (hi : P.underlying ti = some (.interface ms)) (hrow : ∀ u, P.typeName? 3 u = some nm → u = tp)
    (hp : P.underlying tp = some (.pointer te)) (he : P.underlying te = some (.struct #[f])) (hft : f.type = ts) (hfo : f.offset = 0) (hs : P.underlying ts = some .string) (hc : P.cellsOf te = 1) (hcs : P.cellsOf ts = 1) :
    ∃ (a : Addr) (s : ByteArray), W.var? P n = some #[.iface tp (.pointer (some a))] ∧ W.cell? a = some (.string s) ∧ s.data.toList = text ∧ ∃ c t, W.heap[a.block]? = some (.cells c t (0, 0)) := by
  obtain ⟨ps, ⟨g0', t0', cs0, f0, p0, q0, hg0', ht0', hv0, hd0, _, e0⟩, hnd, hrows⟩ := h
  obtain rfl := Option.some.inj (hg.symm.trans hg0')
  obtain rfl := Option.some.inj (ht.symm.trans ht0')
  subst e0
  obtain ⟨l0⟩ := cs0
  have ok0 : ∀ u v, l0 = [.iface u v] → Value.okWide P W .any 0 u v := fun u v e => by
    subst e
    exact (hrows g 0 (by simp [MemPlace.row])).2 u v (by simpa using World.var?_cell hg hv0 0)
  obtain ⟨a0, s0, rfl, hc0, hs0, hz0, rfl⟩ := errorString_of_trod hi hrow hp he hft hfo hs hc hcs hd0 ok0
  exact ⟨a0, s0, hv0, hc0, hs0, (hrows a0.block a0.off (by simp [MemPlace.row])).1⟩
theorem laid_err1 {W : World} {n : String} {text : List UInt8} {r : List (String × DataW Unit)} {g : Nat} (h : laidMet Tryz.prog ((n, .iface "*errors.errorString" (.ptr (.agg [.lit (.string text)]))) :: r) W) (hg : Tryz.prog.globalNamed n = some g) (ht : (Tryz.prog.globals[g]?).map (·.type) = some 26) :
    ∃ (a : Addr), W.cell? ⟨g, 0, none⟩ = some (.iface 241 (.pointer (some a))) ∧ (∃ s : ByteArray, W.cell? a = some (.string s) ∧ s.data.toList = text) ∧ ∃ c t, W.heap[a.block]? = some (.cells c t (0, 0)) := by
  obtain ⟨ms, hi⟩ := run_ifcT (P := Tryz.prog) (T := 26) (by kernel_rfl)
  obtain ⟨a, s, h1, h2, h3, h4⟩ := laid_sentinelF h hg ht hi err_row Tryz.underlying241 Tryz.underlying266 rfl rfl Tryz.underlying9 (by kernel_rfl) (by kernel_rfl)
  exact ⟨a, by simpa using World.var?_cell hg h1 0, ⟨s, h2, h3⟩, h4⟩
theorem laid_errs {W : World} : ∀ {ns : List (String × List UInt8)} {r : List (String × DataW Unit)}, laidMet Tryz.prog (ns.map errRow ++ r) W → (∀ x ∈ ns, ∃ g, Tryz.prog.globalNamed x.1 = some g ∧ (Tryz.prog.globals[g]?).map (·.type) = some 26) →
    ∃ al : List Addr, al.length = ns.length ∧ ∀ (i : Nat) (n : String) (t : List UInt8) (a : Addr), ns[i]? = some (n, t) → al[i]? = some a → (∀ g, Tryz.prog.globalNamed n = some g → W.cell? ⟨g, 0, none⟩ = some (.iface 241 (.pointer (some a)))) ∧ (∃ s : ByteArray, W.cell? a = some (.string s) ∧ s.data.toList = t) ∧ ∃ c t, W.heap[a.block]? = some (.cells c t (0, 0))
  | [], r, _, _ => ⟨[], rfl, fun i n t a h => by simp at h⟩
  | x :: ns, r, h, hg => by
    obtain ⟨al, hl, ha⟩ := laid_errs (ns := ns) (r := r) h.tail (fun y hy => hg y (List.mem_cons_of_mem _ hy))
    obtain ⟨g, hg1, hg2⟩ := hg x List.mem_cons_self
    obtain ⟨a0, h1, h2, h3⟩ := laid_err1 (n := x.1) (text := x.2) h hg1 hg2
    refine ⟨a0 :: al, by simp [hl], fun i n t a hi hai => ?_⟩
    cases i with
    | zero =>
      simp only [List.getElem?_cons_zero, Option.some.injEq] at hi hai
      subst hi; subst hai
      exact ⟨fun g' hg' => by rw [hg1] at hg'; cases hg'; exact h1, h2, h3⟩
    | succ i => exact ha i n t a (by simpa using hi) (by simpa using hai)
def errNames : List (String × List UInt8) := [("quorate/api.ErrRange", [113, 117, 111, 114, 97, 116, 101, 58, 32, 114, 97, 110, 103, 101]),
  ("quorate/api.ErrShort", [113, 117, 111, 114, 97, 116, 101, 58, 32, 115, 104, 111, 114, 116]),
  ("quorate/api.ErrLong", [113, 117, 111, 114, 97, 116, 101, 58, 32, 108, 111, 110, 103]),
  ("quorate/api.ErrForm", [113, 117, 111, 114, 97, 116, 101, 58, 32, 102, 111, 114, 109]),
  ("quorate/api.ErrSpent", [113, 117, 111, 114, 97, 116, 101, 58, 32, 115, 112, 101, 110, 116]),
  ("quorate/api.ErrPower", [113, 117, 111, 114, 97, 116, 101, 58, 32, 112, 111, 119, 101, 114]),
  ("quorate/api.ErrDisk", [113, 117, 111, 114, 97, 116, 101, 58, 32, 100, 105, 115, 107]),
  ("quorate/api.ErrFull", [113, 117, 111, 114, 97, 116, 101, 58, 32, 102, 117, 108, 108]),
  ("quorate/api.ErrNone", [113, 117, 111, 114, 97, 116, 101, 58, 32, 110, 111, 110, 101]),
  ("quorate/api.ErrOld", [113, 117, 111, 114, 97, 116, 101, 58, 32, 111, 108, 100]),
  ("quorate/api.ErrSet", [113, 117, 111, 114, 97, 116, 101, 58, 32, 115, 101, 116]),
  ("quorate/api.ErrProof", [113, 117, 111, 114, 97, 116, 101, 58, 32, 112, 114, 111, 111, 102]),
  ("quorate/api.ErrLeader", [113, 117, 111, 114, 97, 116, 101, 58, 32, 108, 101, 97, 100, 101, 114]),
  ("quorate/api.ErrRound", [113, 117, 111, 114, 97, 116, 101, 58, 32, 114, 111, 117, 110, 100]),
  ("quorate/api.ErrUnsafe", [113, 117, 111, 114, 97, 116, 101, 58, 32, 117, 110, 115, 97, 102, 101]),
  ("quorate/api.ErrParent", [113, 117, 111, 114, 97, 116, 101, 58, 32, 112, 97, 114, 101, 110, 116]),
  ("quorate/api.ErrTwice", [113, 117, 111, 114, 97, 116, 101, 58, 32, 116, 119, 105, 99, 101]),
  ("quorate/api.ErrEpoch", [113, 117, 111, 114, 97, 116, 101, 58, 32, 101, 112, 111, 99, 104])]
theorem errNames_glob : (List.range 18).all (fun i => match errNames[i]? with | some x => (Tryz.prog.globalNamed x.1 == some (errG (i + 1))) && ((Tryz.prog.globals[errG (i + 1)]?).map (·.type) == some 26) | none => false) = true := by kernel_rfl
theorem errNames_apart : (List.range 18).all (fun i => (List.range 18).all fun j => match errNames[i]?, errNames[j]? with | some x, some y => i == j || x.2 != y.2 | _, _ => false) = true := by kernel_rfl
theorem laid_nerr {W : World} {r : List (String × DataW Unit)} (h : laidMet Tryz.prog (errNames.map errRow ++ r) W) : ∃ ea, NErr W (fun k => ¬ (fun _ : Nat => False) k) ea := by
  have hgl := errNames_glob
  rw [List.all_eq_true] at hgl
  have hap := errNames_apart
  rw [List.all_eq_true] at hap
  have hlen : errNames.length = 18 := rfl
  have hglob : ∀ i, i < 18 → ∃ x, errNames[i]? = some x ∧ Tryz.prog.globalNamed x.1 = some (errG (i + 1)) ∧ (Tryz.prog.globals[errG (i + 1)]?).map (·.type) = some 26 := fun i hi => by
    have := hgl i (List.mem_range.2 hi)
    cases hx : errNames[i]? with
    | none => rw [hx] at this; cases this
    | some x => rw [hx] at this; simp only [Bool.and_eq_true, beq_iff_eq] at this; exact ⟨x, rfl, this⟩
  obtain ⟨al, hl, ha⟩ := laid_errs h (fun x hx => by
    obtain ⟨i, hi, hxi⟩ := List.mem_iff_getElem.1 hx
    obtain ⟨y, hy, h1, h2⟩ := hglob i (by omega)
    rw [List.getElem?_eq_getElem hi, hxi] at hy
    cases hy
    exact ⟨_, h1, h2⟩)
  rw [hlen] at hl
  have key : ∀ i, 1 ≤ i → i ≤ 18 → ∃ x a, errNames[i - 1]? = some x ∧ al[i - 1]? = some a ∧ al.getD (i - 1) ⟨0, 0, none⟩ = a ∧ W.cell? ⟨errG i, 0, none⟩ = some (.iface 241 (.pointer (some a))) ∧ (∃ s : ByteArray, W.cell? a = some (.string s) ∧ s.data.toList = x.2) ∧ ∃ c t, W.heap[a.block]? = some (.cells c t (0, 0)) := fun i h1 h2 => by
    obtain ⟨x, hx, hg, _⟩ := hglob (i - 1) (by omega)
    have haa : al[i - 1]? = some al[i - 1] := List.getElem?_eq_getElem (by omega)
    obtain ⟨k1, k2, k3⟩ := ha (i - 1) x.1 x.2 _ hx haa
    rw [show i - 1 + 1 = i by omega] at hg
    exact ⟨x, _, hx, haa, by rw [List.getD_eq_getElem?_getD, haa]; rfl, k1 _ hg, k2, k3⟩
  refine ⟨fun i => al.getD (i - 1) ⟨0, 0, none⟩, ⟨fun i hi => ?_, fun i _ => id⟩, fun i h1 h2 => ?_, fun i j h1 h2 k1 k2 e => ?_⟩
  · have hi' : 1 ≤ i ∧ i ≤ 18 := by
      simp only [List.mem_cons, List.not_mem_nil, or_false] at hi; omega
    obtain ⟨x, a, _, _, ea, hc, _⟩ := key i hi'.1 hi'.2
    rw [hc, ← ea]
    cases i with
    | zero => omega
    | succ i => unfold eV; rfl
  · obtain ⟨x, a, _, _, ea, _, _, hc⟩ := key i h1 h2
    simp only []
    rw [ea]
    exact ⟨hc, id⟩
  · obtain ⟨x, a, hx, _, ea, _, ⟨s, hs, ht⟩, _⟩ := key i h1 h2
    obtain ⟨y, b, hy, _, eb, _, ⟨s', hs', ht'⟩, _⟩ := key j k1 k2
    replace e : al.getD (i - 1) ⟨0, 0, none⟩ = al.getD (j - 1) ⟨0, 0, none⟩ := e
    rw [ea, eb] at e
    subst e
    rw [hs] at hs'
    injection hs' with hs'; injection hs' with hs'
    subst hs'
    have h3 := hap (i - 1) (List.mem_range.2 (by omega))
    rw [List.all_eq_true] at h3
    have h4 := h3 (j - 1) (List.mem_range.2 (by omega))
    rw [hx, hy] at h4
    simp only [Bool.or_eq_true, beq_iff_eq, bne_iff_ne] at h4
    rcases h4 with h4 | h4
    · omega
    · exact absurd (ht.symm.trans ht') h4
end
section
def rotr (x : UInt32) (n : Nat) : UInt32 := x <<< UInt32.ofNat (32 - n) ||| x >>> UInt32.ofNat n
def wordAt (b : List UInt8) (k : Nat) : UInt32 := ((b.getD (4 * k) 0).toUInt32 <<< UInt32.ofNat 24 ||| (b.getD (4 * k + 1) 0).toUInt32 <<< UInt32.ofNat 16) ||| (b.getD (4 * k + 2) 0).toUInt32 <<< UInt32.ofNat 8 ||| (b.getD (4 * k + 3) 0).toUInt32
def sg0 (x : UInt32) : UInt32 := rotr x 7 ^^^ rotr x 18 ^^^ x >>> UInt32.ofNat 3
def sg1 (x : UInt32) : UInt32 := rotr x 17 ^^^ rotr x 19 ^^^ x >>> UInt32.ofNat 10
def sch (b : List UInt8) (j : Nat) : UInt32 :=
  if h : j < 16 then wordAt b j else sch b (j - 16) + sg0 (sch b (j - 15)) + sch b (j - 7) + sg1 (sch b (j - 2))
termination_by j
structure V8 where
  a : UInt32
  b : UInt32
  c : UInt32
  d : UInt32
  e : UInt32
  f : UInt32
  g : UInt32
  h : UInt32
def rnd (k w : UInt32) (v : V8) : V8 :=
  let one := v.h + (rotr v.e 6 ^^^ rotr v.e 11 ^^^ rotr v.e 25) + ((v.e &&& v.f) ^^^ (~~~v.e &&& v.g)) + k + w
  let two := (rotr v.a 2 ^^^ rotr v.a 13 ^^^ rotr v.a 22) + (((v.a &&& v.b) ^^^ (v.a &&& v.c)) ^^^ (v.b &&& v.c))
  ⟨one + two, v.a, v.b, v.c, v.d + one, v.e, v.f, v.g⟩
def rnds (K W : Nat → UInt32) (v : V8) : Nat → V8
  | 0 => v
  | k + 1 => rnd (K k) (W k) (rnds K W v k)
def V8.add (x y : V8) : V8 := ⟨x.a + y.a, x.b + y.b, x.c + y.c, x.d + y.d, x.e + y.e, x.f + y.f, x.g + y.g, x.h + y.h⟩
def V8.get (x : V8) : Nat → UInt32
  | 0 => x.a | 1 => x.b | 2 => x.c | 3 => x.d | 4 => x.e | 5 => x.f | 6 => x.g | _ => x.h
def take64 (K : Nat → UInt32) (v : V8) (b : List UInt8) : V8 := v.add (rnds K (sch b) v 64)
def takes (K : Nat → UInt32) (v : V8) (b : List UInt8) : V8 × List UInt8 :=
  if h : 64 ≤ b.length then takes K (take64 K v (b.take 64)) (b.drop 64) else (v, b)
termination_by b.length
decreasing_by simp; omega
def v0 : V8 := ⟨1779033703, 3144134277, 1013904242, 2773480762, 1359893119, 2600822924, 528734635, 1541459225⟩
structure HS where
  v : V8
  rest : List UInt8
  len : Nat
def hs0 : HS := ⟨v0, [], 0⟩
def hWrite (K : Nat → UInt32) (s : HS) (b : List UInt8) : HS :=
  let p := takes K s.v (s.rest ++ b)
  ⟨p.1, p.2, s.len + b.length⟩
theorem takes_rest (K : Nat → UInt32) (v : V8) (b : List UInt8) : (takes K v b).2.length < 64 := by
  fun_induction takes K v b with
  | case1 v b h ih => exact ih
  | case2 v b h => simpa using h
def lenBytes (len : Nat) : List UInt8 := (List.range 8).map fun i => UInt8.ofNat (len * 8 / 2 ^ (8 * (7 - i)))
def padN (m : Nat) : Nat := (55 + 64 - m % 64) % 64
def padded (s : HS) : List UInt8 := s.rest ++ 128 :: (List.replicate (padN s.rest.length) 0 ++ lenBytes s.len)
def outByte (v : V8) (i : Nat) : UInt8 := (v.get (i / 4) >>> UInt32.ofNat (24 - 8 * (i % 4))).toUInt8
def hSum (K : Nat → UInt32) (s : HS) : List UInt8 := (List.range 32).map (outByte (takes K s.v (padded s)).1)
def part4 (n : Nat) : List UInt8 := [UInt8.ofNat (n / 2 ^ 24), UInt8.ofNat (n / 2 ^ 16), UInt8.ofNat (n / 2 ^ 8), UInt8.ofNat n]
def hOf (K : Nat → UInt32) (dom : Int) (parts : List (List UInt8)) : List UInt8 :=
  (hSum K (parts.foldl (fun s p => hWrite K (hWrite K s (part4 p.length)) p) (hWrite K hs0 [UInt8.ofNat (dom % 256).toNat]))).take 16
theorem hOf_length (K : Nat → UInt32) (dom : Int) (parts : List (List UInt8)) : (hOf K dom parts).length = 16 := by simp [hOf, hSum]
end
section
theorem sch_lo {b : List UInt8} {k : Nat} (h : k < 16) : sch b k = wordAt b k := by rw [sch, dif_pos h]
theorem sch_hi {b : List UInt8} {k : Nat} (h : 16 ≤ k) : sch b k = sch b (k - 16) + sg0 (sch b (k - 15)) + sch b (k - 7) + sg1 (sch b (k - 2)) := by rw [sch, dif_neg (by omega)]
def v8c (v : V8) : List Value := [W32 v.a, W32 v.b, W32 v.c, W32 v.d, W32 v.e, W32 v.f, W32 v.g, W32 v.h]
def kc : List UInt32 := [0x428a2f98, 0x71374491, 0xb5c0fbcf, 0xe9b5dba5, 0x3956c25b, 0x59f111f1, 0x923f82a4, 0xab1c5ed5, 0xd807aa98, 0x12835b01, 0x243185be, 0x550c7dc3, 0x72be5d74, 0x80deb1fe, 0x9bdc06a7, 0xc19bf174, 0xe49b69c1, 0xefbe4786, 0x0fc19dc6, 0x240ca1cc, 0x2de92c6f, 0x4a7484aa, 0x5cb0a9dc, 0x76f988da, 0x983e5152, 0xa831c66d, 0xb00327c8, 0xbf597fc7, 0xc6e00bf3, 0xd5a79147, 0x06ca6351, 0x14292967, 0x27b70a85, 0x2e1b2138, 0x4d2c6dfc, 0x53380d13, 0x650a7354, 0x766a0abb, 0x81c2c92e, 0x92722c85, 0xa2bfe8a1, 0xa81a664b, 0xc24b8b70, 0xc76c51a3, 0xd192e819, 0xd6990624, 0xf40e3585, 0x106aa070, 0x19a4c116, 0x1e376c08, 0x2748774c, 0x34b0bcb5, 0x391c0cb3, 0x4ed8aa4a, 0x5b9cca4f, 0x682e6ff3, 0x748f82ee, 0x78a5636f, 0x84c87814, 0x8cc70208, 0x90befffa, 0xa4506ceb, 0xbef9a3f7, 0xc67178f2]
def Kc (i : Nat) : UInt32 := kc.getD i 0
structure KR (w : World) (A : Nat → Prop) : Prop where
  c : ∀ i, i < 64 → w.cell? ⟨18, i, none⟩ = some (W32 (Kc i))
  n : A 18
theorem KR.mv {w w' : World} {A A' : Nat → Prop} (h : KR w A) (hk : Still w A w' A') : KR w' A' :=
  ⟨fun i hi => by
    have := hk _ (World.block_lt_of_cell? w ⟨18, i, none⟩ (h.c i hi)) h.n
    rw [World.cell?_of_block (w := w) (a := ⟨18, i, none⟩) this.1]; exact h.c i hi,
   (hk _ (World.block_lt_of_cell? w ⟨18, 0, none⟩ (h.c 0 (by decide))) h.n).2⟩
theorem KR.at {w : World} {A : Nat → Prop} (h : KR w A) {e i : Nat} (he : e = i) (hi : i < 64) : w.cell? ⟨18, e, none⟩ = some (W32 (Kc i)) := by subst he; exact h.c e hi
attribute [local irreducible] Gl Gc Gx Gs Runs Wt
theorem rot_ok {w : World} {F : Nat → Prop} {x : UInt32} {n : Nat} (h : stars [] w F) (h1 : 1 ≤ n) (h2 : n ≤ 31) :
    Calls Tryz.prog 132 #[W32 x, .int .i64 (-(n : Int))] w (Post w F (fun _ : Unit => W32 (rotr x n)) (fun _ => [])) := by
 refine g_enter (env := [(0, W32 x), (1, .int .i64 (-(n : Int)))]) Tryz.func132 rfl h Tryz.ntmps132 rfl rfl ?_; refine gsr (zxa ?_); refine zxs ?_; refine zxm ?_; refine gp zci ?_; refine gp (r_int (r_bits (op := .and) rfl rfl rfl) (rot_and h1 h2)) ?_; refine zxa ?_; refine zxs ?_; refine zxm ?_; refine zxm ?_; refine gp (r_shlw (j := 32 - n) rfl rfl rfl (by omega)) ?_; refine zxm ?_; refine zxm ?_; refine gp (r_int (r_sub rfl rfl) (show IntKind.u64.wrap (32 - ((32 - n : Nat) : Int)) = (n : Int) by rw [wrap_u64 (by omega) (by omega)]; omega)) ?_; refine gp (r_shrw (j := n) rfl rfl rfl (by omega)) ?_; refine gp zwo ?_; refine zxa ?_; refine gnt (gc_ret (gx_ret1 rfl (by conv => lhs; whnf) ?_)); exact ze ()
theorem schedule_ok {w : World} {F : Nat → Prop} (h : stars [] w F) {b : List UInt8} {a : Option Addr} {c : Nat} (hx : RdRow w (fun k => ¬ F k) 1 a 64 (b.map B8))  :
    Calls Tryz.prog 131 #[.slice a 64 c] w (Post w F (fun _ : Unit => .agg (fnc W32 64 (sch b)).toArray) (fun _ => [])) := by
 have hbl : b.length = 64 := by have := hx.1; simp at this; omega
 obtain ⟨ga, oa, rfl, hA, hg, hra⟩ := hx.2.2 (by decide); refine g_enter (env := [(0, .slice (some ⟨ga, oa, none⟩) 64 c)]) Tryz.func131 rfl h Tryz.ntmps131 rfl rfl ?_; refine gsr (zal fun b2 => ?_); refine zxs ?_; refine zal fun b3 => ?_; refine gnt (gc_seq (gsr (zxm ?_))); refine gnt (gc_block (gc_loop (α := Nat) (fun k => [pureR (k ≤ 16), blk b3 218 (fnc W32 64 (pfx (sch b) (fun _ => 0) k)), blk b2 218 (List.replicate 64 (.int .u32 0))]) (fun k => [(10, .int .i64 (k : Int))]) [4, 11, 12, 13, 14, 15, 16, 17, 18, 19, 20, 21, 22, 23, 24, 25, 26, 27, 28, 29, 30, 31, 32, 33, 34, 35, 36, 37, 38, 39, 40, 41, 42, 43, 44, 45, 46, 47, 48] (fun k => 16 - k) 0 ?_ ?_ ?_))
 ·refine env_start (by kernel_rfl)
 ·rintro w' hw
  obtain ⟨F', hF', hst'⟩ := hw.sel (M := [blk b3 218 (List.replicate 64 (.int .u32 0)), blk b2 218 (List.replicate 64 (.int .u32 0))]) (by repeat (first | exact Sel.nil | (apply Sel.cons; · (repeat (first | exact Pick.here | apply Pick.there))))); refine ⟨F', stars_pure_mk (Nat.zero_le _) ?_, hst'⟩
  show stars [blk b3 218 (fnc W32 64 (pfx (sch b) (fun _ => 0) 0)), blk b2 218 (List.replicate 64 (.int .u32 0))] w' F'
  rw [pfx_zero, fnc_const]; exact hF'
 ·intro k u; refine gc_pureR (fun hk => ?_)
  replace hk : k ≤ 16 := hk
  refine gsr (gp zlt ?_); refine gnt (gc_seq (gif rfl (fun hc11 => ?_) (fun hc11 => ?_)))
  ·have hk' : k < 16 := by (try simp only at hc11); omega
   refine gc_skip (gx_then (gc_seq (gc_block (gsr (zxm ?_))))); refine zxa ?_; refine gnt (gc_regionT 35 (by kernel_rfl) (by kernel_rfl) ?_); refine sp zmv ?_; refine sp zmv ?_; refine sp zmv ?_; refine sp zml ?_; refine sp (r_indexAddr_slice rfl rfl Ty.sl_22 Ty.sz_5 (by omega) (by omega)) ?_; refine sp (r_ld1o rfl Ty.row_5 (cellb hra (j := 4 * k) (by omega) (by omega)) hA) ?_; refine sp (r_conv8w rfl Ty.un_5 Ty.un_202) ?_; refine sp (r_shlw (j := 24) rfl rfl rfl (by decide)) ?_; refine sp zmv ?_; refine sp zmv ?_; refine sp zml ?_; refine sp zad ?_; refine sp (r_indexAddr_slice rfl rfl Ty.sl_22 Ty.sz_5 (by omega) (by omega)) ?_; refine sp (r_ld1o rfl Ty.row_5 (cellb hra (j := 4 * k + 1) (by omega) (by omega)) hA) ?_; refine sp (r_conv8w rfl Ty.un_5 Ty.un_202) ?_; refine sp (r_shlw (j := 16) rfl rfl rfl (by decide)) ?_; refine sp zwo ?_; refine sp zmv ?_; refine sp zmv ?_; refine sp zml ?_; refine sp zad ?_; refine sp (r_indexAddr_slice rfl rfl Ty.sl_22 Ty.sz_5 (by omega) (by omega)) ?_; refine sp (r_ld1o rfl Ty.row_5 (cellb hra (j := 4 * k + 2) (by omega) (by omega)) hA) ?_; refine sp (r_conv8w rfl Ty.un_5 Ty.un_202) ?_; refine sp (r_shlw (j := 8) rfl rfl rfl (by decide)) ?_; refine sp zwo ?_; refine sp zmv ?_; refine sp zmv ?_; refine sp zml ?_; refine sp zad ?_; refine sp (r_indexAddr_slice rfl rfl Ty.sl_22 Ty.sz_5 (by omega) (by omega)) ?_; refine sp (r_ld1o rfl Ty.row_5 (cellb hra (j := 4 * k + 3) (by omega) (by omega)) hA) ?_; refine sp (r_conv8w rfl Ty.un_5 Ty.un_202) ?_; refine sp zwo ?_; refine sp (r_indexAddr_arr rfl rfl Ty.arr_218 Ty.sz_202 (by omega) (by omega)) ?_; refine gs_nil ?_; refine gl_store1 (wt0 rfl) rfl rfl rfl Ty.sz_202 (by repeat (first | exact Pick.here | apply Pick.there)) (by rw [fnc_length]; omega) (pfx_set (k := k) (by omega) (by omega) (congrArg W32 (sch_lo hk').symm)) ?_; refine gl_nil (gx_block_normal (gx_then (gc_region (gp zad ?_)))); refine zxm ?_
   refine gl_nil (zrd (k + 1) ?_ ?_)
   ·show 16 - (k + 1) < 16 - k
    omega
   ·rintro w' hw
    obtain ⟨F', hF', hst'⟩ := hw.sel (M := [blk b3 218 _, blk b2 218 _]) (by repeat (first | exact Sel.nil | (apply Sel.cons; · (repeat (first | exact Pick.here | apply Pick.there))))); exact ⟨F', stars_pure_mk (show k + 1 ≤ 16 by omega) hF', hst'⟩
  ·have hk' : k = 16 := by (try simp only at hc11); omega
   subst hk'; refine gc_exit ?_; refine gx_then_exit ?_; refine gx_round_exit ?_; refine gx_block_hit ?_; refine gx_then (gc_seq (gsr (zxa ?_))); refine gnt (gc_block (gc_loop (α := Nat) (fun k => [pureR (16 ≤ k ∧ k ≤ 64), blk b3 218 (fnc W32 64 (pfx (sch b) (fun _ => 0) k)), blk b2 218 (List.replicate 64 (.int .u32 0))]) (fun k => [(5, .int .i64 (k : Int))]) [6, 7, 8, 9, 49, 50, 51, 52, 53, 54, 55, 56, 57, 58, 59, 60, 61, 62, 63, 64, 65, 66, 67, 68, 69, 70, 71, 72, 73, 74, 75, 76, 77, 78, 79, 80, 81, 82, 83, 84, 85, 86, 87, 88, 89, 90, 91] (fun k => 64 - k) 16 ?_ ?_ ?_))
   ·refine env_start (by kernel_rfl)
   ·rintro w' hw
    obtain ⟨F', hF', hst'⟩ := hw.sel (M := [blk b3 218 _, blk b2 218 _]) (by repeat (first | exact Sel.nil | (apply Sel.cons; · (repeat (first | exact Pick.here | apply Pick.there))))); exact ⟨F', stars_pure_mk (by decide) hF', hst'⟩
   ·intro k u; refine gc_pureR (fun hk => ?_)
    replace hk : 16 ≤ k ∧ k ≤ 64 := hk
    refine gc_seq (gsr (zxm ?_)); refine gp zlt ?_; refine gnt (gif rfl (fun hc50 => ?_) (fun hc50 => ?_))
    ·have hk' : k < 64 := by (try simp only at hc50); omega
     refine gc_skip (gx_then (gc_seq (gc_block (gc_seq (gc_regionS (by kernel_rfl) (by kernel_rfl) ?_))))); refine sp zmv ?_; refine sp zsb ?_; refine sp (r_indexAddr_arr rfl rfl Ty.arr_218 Ty.sz_202 (by omega) (by omega)) ?_; refine sp (r_ld1 (v := W32 ((sch b) (k - 15))) rfl Ty.row_202 (by repeat (first | exact Pick.here | apply Pick.there)) (pfx_get (by omega) (by omega) (by omega))) ?_; refine sp zmv ?_; refine sp zsb ?_; refine sp (r_indexAddr_arr rfl rfl Ty.arr_218 Ty.sz_202 (by omega) (by omega)) ?_; refine sp (r_ld1 (v := W32 ((sch b) (k - 2))) rfl Ty.row_202 (by repeat (first | exact Pick.here | apply Pick.there)) (pfx_get (by omega) (by omega) (by omega))) ?_; refine sp zas ?_; refine sp zas ?_; refine gs_nil ?_; refine gx_then (gsr (zxm ?_)); refine zc (fun _ => ?_) (c := fun w1 F1 F2 h1 h2 hd hst => rot_ok (n := 7) h1 (by decide) (by decide))
     refine zxm ?_; refine zc (fun _ => ?_) (c := fun w1 F1 F2 h1 h2 hd hst => rot_ok (n := 18) h1 (by decide) (by decide))
     refine gp zwx ?_; refine zxm ?_; refine gp (r_shrw (j := 3) rfl rfl rfl (by decide)) ?_; refine gp zwx ?_; refine zxa ?_; refine zxs ?_; refine zxm ?_; refine zc (fun _ => ?_) (c := fun w1 F1 F2 h1 h2 hd hst => rot_ok (n := 17) h1 (by decide) (by decide))
     refine zxm ?_; refine zc (fun _ => ?_) (c := fun w1 F1 F2 h1 h2 hd hst => rot_ok (n := 19) h1 (by decide) (by decide))
     refine gp zwx ?_; refine zxm ?_; refine gp (r_shrw (j := 10) rfl rfl rfl (by decide)) ?_; refine gp zwx ?_; refine zxa ?_; refine gnt (gc_regionT 15 (by kernel_rfl) (by kernel_rfl) ?_); refine sp zmv ?_; refine sp zmv ?_; refine sp zsb ?_; refine sp (r_indexAddr_arr rfl rfl Ty.arr_218 Ty.sz_202 (by omega) (by omega)) ?_; refine sp (r_ld1 (v := W32 ((sch b) (k - 16))) rfl Ty.row_202 (by repeat (first | exact Pick.here | apply Pick.there)) (pfx_get (by omega) (by omega) (by omega))) ?_; refine sp zmv ?_; refine sp zwa ?_; refine sp zmv ?_; refine sp zsb ?_; refine sp (r_indexAddr_arr rfl rfl Ty.arr_218 Ty.sz_202 (by omega) (by omega)) ?_; refine sp (r_ld1 (v := W32 ((sch b) (k - 7))) rfl Ty.row_202 (by repeat (first | exact Pick.here | apply Pick.there)) (pfx_get (by omega) (by omega) (by omega))) ?_; refine sp zwa ?_; refine sp zmv ?_; refine sp zwa ?_; refine sp (r_indexAddr_arr rfl rfl Ty.arr_218 Ty.sz_202 (by omega) (by omega)) ?_; refine gs_nil ?_; refine gl_store1 (wt0 rfl) rfl rfl rfl Ty.sz_202 (by repeat (first | exact Pick.here | apply Pick.there)) (by rw [fnc_length]; omega) (pfx_set (k := k) (by omega) (by omega) (congrArg W32 (sch_hi hk.1).symm)) ?_; refine gl_nil (gx_block_normal (gx_then (gc_region (zxm ?_)))); refine gp zad ?_; refine zxa ?_; refine gl_nil (zrd (k + 1) ?_ ?_)
     ·show 64 - (k + 1) < 64 - k
      omega
     ·rintro w' hw
      obtain ⟨F', hF', hst'⟩ := hw.sel (M := [blk b3 218 _, blk b2 218 _]) (by repeat (first | exact Sel.nil | (apply Sel.cons; · (repeat (first | exact Pick.here | apply Pick.there))))); exact ⟨F', stars_pure_mk (show 16 ≤ k + 1 ∧ k + 1 ≤ 64 by omega) hF', hst'⟩
    ·have hk' : k = 64 := by (try simp only at hc50); omega
     subst hk'; refine gc_exit ?_; refine gx_then_exit ?_; refine gx_round_exit ?_; refine gx_block_hit ?_; refine gx_then (gsr (gp (r_ldN rfl Ty.row_218 Ty.sz_218 (by repeat (first | exact Pick.here | apply Pick.there)) (seg_all fnc_length) fnc_length) ?_)); refine gl_storeN (wt0 rfl) rfl rfl Ty.sz_218 fnc_length (by repeat (first | exact Pick.here | apply Pick.there)) (by simp) (fnc_one fun _ => rfl) (updL_all (by simp [fnc_length])) ?_; refine gnt (gc_ret (gx_retc rfl rfl (ld_aggS Ty.row_218 Ty.sz_218 (by repeat (first | exact Pick.here | apply Pick.there)) (seg_all fnc_length) fnc_length) ?_)); rw [pfx_full]; exact ze ()
end
section
open Go.ChangeShapes Go.WideShapes Go.RowKit
theorem laid_kr {W : World} {r : List (String × DataW Unit)} (h : laidMet Tryz.prog (("quorate/hash.constants", Lib.tabData .u32 (kc.map fun x => (x.toNat : Int))) :: r) W) : KR W (fun k => ¬ (fun _ : Nat => False) k) := by
  have hT := Lib.tabIs_of_head (g := 18) (by kernel_rfl) (by kernel_rfl) (run_arrT Ty.arr_218) Ty.un_202 (by kernel_rfl) (by kernel_rfl) h
  refine ⟨fun i hi => ?_, id⟩
  have := World.var?_cell (g := 18) (by kernel_rfl) hT i
  rw [this]
  have hk : i < kc.length := hi
  simp only [List.map_map, List.getElem?_toArray, List.getElem?_map, List.getElem?_eq_getElem hk, Option.map_some]
  simp [W32, Kc, List.getD, List.getElem?_eq_getElem hk]
def RdLists (w : World) (A : Nat → Prop) (cs : List Value) (l : List (List UInt8)) : Prop := ∃ a n c, cs = [.slice a n c] ∧ n ≤ c ∧ RdList (RdBytes w A) w A 1 a n l
theorem RdLists.list {w : World} {A : Nat → Prop} {a : Option Addr} {n c : Nat} {l : List (List UInt8)} (h : RdLists w A [.slice a n c] l) : RdList (RdBytes w A) w A 1 a n l := by
  obtain ⟨a', n', c', e, _, hr⟩ := h
  injection e with e _
  injection e with e1 e2 e3
  subst e1; subst e2
  exact hr
section
variable {H : Type} {enc : TypeId × Value → H} {w : World} {base : Nat} {sp : Nat → Bool} {held : Bool}
end
end
section
open Go.ChangeShapes Go.WideShapes Go.ChangeAt Go.RowKit
def digD {H : Type} : DataW H := .agg (List.replicate 16 (.lit (.int .u8 0)))
theorem o_dig {H : Type} {enc : TypeId × Value → H} {w : World} {base : Nat} {sp : Nat → Bool} {held : Bool} : Opens enc Tryz.prog w base sp held 32 RdDig := opens_dig Ty.arr_32 Ty.un_5 Ty.sz_5 Ty.sz_32
end
section
theorem St.mapL0 {w0 w : World} {F0 : Nat → Prop} {L L' : List Res} (h : St w0 F0 L w) (k : ∀ F, stars L w F → stars L' w F) : St w0 F0 L' w := by
  obtain ⟨F, hF, hst⟩ := h; exact ⟨F, k F hF, hst⟩
section
variable {P : Program} {w0 : World} {F0 : Nat → Prop} {L : List Res} {Q : Exit → Act → World → Prop} {n : Fm} {env : Env} {ops : Array Oper} {rest : List Oper}
variable {d : Option Tmp} {t : Tmp} {ty : TypeId} {pos : String} {af : Array Edge} {gd : Option (Nat × Bool)}
theorem gl_copy {x y : Operand} {T S e size g o m c j c2 T' : Nat} {a2 : Option Addr} {cs news : List Value} {L' : List Res} [SLT P T e] [SZ P e size]
    (hx : ev n env x = .slice (some ⟨g, o, none⟩) m c := by exact rfl) (hy : ev n env y = .slice a2 j c2 := by exact rfl) (hp : Pick L (blk g T' cs) L' := by repeat (first | exact Pick.here | apply Pick.there))
    (hr : ∀ w, St w0 F0 L w → RdRow w (fun _ => True) size a2 j news) (hj : j ≤ m) (h1 : ∀ u ∈ news, u.oneCell' = true) (hl : o + j * size ≤ cs.length)
    (k : Gl P w0 F0 (blk g T' (updL cs o news) :: L') ops Q rest n ((t, .int .i64 j) :: env))
    (hw : Wt ops n env ⟨some t, .call ⟨.builtin .copy, #[x, y], #[T, S]⟩, ty, pos, af, gd⟩ true := by first | exact wt0 rfl | exact wtgT rfl rfl rfl rfl) : Gl P w0 F0 L ops Q (⟨some t, .call ⟨.builtin .copy, #[x, y], #[T, S]⟩, ty, pos, af, gd⟩ :: rest) n env := by
  refine gl_eff (L' := blk g T' (updL cs o news) :: L') (v := .int .i64 j) hw (fun w hst => ?_) k
  have hrow := hr w hst
  obtain ⟨w', hs, hst'⟩ := hst.store (P := P) (new := news) hp (by rw [hrow.1]; exact hl) h1
  refine ⟨w', ?_, hst'⟩
  have hf := hrow.first (P := P) (c := c2)
  have hmin : Nat.min j m = j := Nat.min_eq_left hj
  simp [execOp, resolve, invoke, builtin, Builtin.copy_, hx, hy, run_underlying (run_sliceT (SLT.h (P := P) (T := T))), Builtin.lenOf, run_sz (SZ.h (P := P) (T := e)), hmin, hf, hs, goInt]
theorem gl_eqc {g T : Nat} {cs cs' : List Value} {L' : List Res} (hp : Pick L (blk g T cs) L') (e : cs = cs') (k : Gl P w0 F0 (blk g T cs' :: L') ops Q rest n env) : Gl P w0 F0 L ops Q rest n env := by
  subst e
  exact fun w hw => k w (hw.mapL0 fun F hF => hp.stars hF)
theorem gc_eqc {c : Code} {g T : Nat} {cs cs' : List Value} {L' : List Res} (hp : Pick L (blk g T cs) L') (e : cs = cs') (k : Gc P w0 F0 (blk g T cs' :: L') c Q n env) : Gc P w0 F0 L c Q n env := by
  subst e
  exact fun w hw => k w (hw.mapL0 fun F hF => hp.stars hF)
end
instance {b : ByteArray} : One1 (.string b) := ⟨rfl⟩
end
section
def wOut (s : WS) : List UInt8 := if s.err = 0 then s.bs else []
theorem wr_new {w0 w : World} {F0 : Nat → Prop} {TE : TypeId} {ea : Nat → Addr} {g : Nat}
    (h : St w0 F0 [blk g 209 [.nilIface, .slice none 0 0]] w) : St w0 F0 [WrR TE ea g ⟨0, []⟩] w := by
  obtain ⟨F, hF, hst⟩ := h
  have h1 : St w0 F0 [rowR 5 1 none 0 0 [], blk g 209 [.nilIface, .slice none 0 0]] w := ⟨F, stars_row_nil hF, hst⟩
  obtain ⟨F', hF', hst'⟩ := h1.sel (M := [blk g 209 [.nilIface, .slice none 0 0], rowR 5 1 none 0 0 []]) (by repeat (first | exact Sel.nil | (apply Sel.cons; · (repeat (first | exact Pick.here | apply Pick.there)))))
  refine ⟨F', wr_shut (k := 0) (m := 0) (c := 0) (a := none) (xs := []) ?_ rfl rfl rfl, hst'⟩
  rw [eV_zero]; exact hF'
theorem St.rowNil {w0 w : World} {F0 : Nat → Prop} {e size : Nat} {L : List Res} (h : St w0 F0 L w) : St w0 F0 (rowR e size none 0 0 [] :: L) w := by
  obtain ⟨F, hF, hst⟩ := h; exact ⟨F, stars_row_nil hF, hst⟩
theorem RdRow.none {w : World} {A : Nat → Prop} {size n : Nat} {xs : List Value} (h : RdRow w A size none n xs) : n = 0 ∧ xs = [] := by
  have h0 : n = 0 := by
    rcases Nat.eq_zero_or_pos n with h0 | h0
    · exact h0
    · obtain ⟨_, _, ha, _⟩ := h.2.2 h0; cases ha
  subst h0
  exact ⟨rfl, List.length_eq_zero_iff.1 (by simpa using h.1)⟩
attribute [local irreducible] Gl Gc Gx Gs Runs Wt
theorem newwriter_ok {w : World} {F : Nat → Prop} {TE : Nat} {ea : Nat → Addr} (h : stars [] w F) :
    Calls Tryz.prog 104 #[] w (Post w F (fun g : Nat => .pointer (some ⟨g, 0, none⟩)) (fun g => [WrR TE ea g ⟨0, []⟩])) := by
 refine g_enter (env := []) Tryz.func104 rfl h Tryz.ntmps104 rfl rfl ?_; refine gsr (zxa ?_); refine zxs ?_; refine gp zbu ?_; refine zbN fun b2 => ?_; refine zxa ?_; refine gnt (gc_ret (gx_ret1 rfl (by conv => lhs; whnf) ?_)); exact fun w' hw => ⟨b2, rfl, wr_new (hw.z)⟩
theorem cloneBytes_ok {w : World} {F : Nat → Prop} {n c : Nat} {a : Option Addr} {xs : List Value} (h : stars [] w F) (hx : RdRow w (fun k => ¬ F k) 1 a n xs) (h1 : ∀ u ∈ xs, u.oneCell' = true) (hb : n ≤ 1099511627776) :
    Calls Tryz.prog 40 #[.slice a n c] w (Post w F (fun r : Option Addr × Nat => .slice r.1 n r.2) (fun r => [rowR 5 1 r.1 n r.2 xs])) := by
 refine g_enter (env := [(0, .slice a n c)]) Tryz.func40 rfl h Tryz.ntmps40 rfl rfl ?_; refine gsr (zxa ?_); refine gnt (gc_seq (gsr (zxm ?_))); refine gp zen ?_; refine gnt (gif rfl (fun hc4 => ?_) (fun hc4 => ?_))
 ·refine gsr (zxa ?_); refine gnt (gc_ret (gx_then_ret (gx_ret1 rfl (by conv => lhs; whnf) ?_))); have ha : a = none := by cases a <;> simp_all
  subst ha; obtain ⟨rfl, rfl⟩ := hx.none; exact fun w' hw => ⟨(none, 0), rfl, hw.rowNil.z⟩
 ·refine gc_skip (gx_then (gsr (ze0 fun b5 => ?_))); refine zxm ?_; refine gl_append (wt0 rfl) rfl rfl (by repeat (first | exact Pick.here | apply Pick.there)) Ty.el_22 (fun w' hw => hw.rdOld hx) h1 (by simp only [maxLen]; omega) (by omega) ?_; intro a1 c1; refine zxa ?_; refine gnt (gc_ret (gx_ret1 rfl (by conv => lhs; whnf) ?_)); rw [Nat.zero_add]; exact fun w' hw => ⟨(a1, c1), rfl, hw.z⟩
theorem done_ok {w : World} {F : Nat → Prop} {g TE : Nat} {ea : Nat → Addr} {s : WS} (h : stars [WrR TE ea g s] w F) (hb : s.bs.length ≤ 1099511627776) :
    Calls Tryz.prog 106 #[.pointer (some ⟨g, 0, none⟩)] w (Post w F (fun r : Option Addr × Nat => .tuple #[.slice r.1 (wOut (s)).length r.2, eV TE ea (s).err]) (fun r => [rowR 5 1 r.1 (wOut (s)).length r.2 ((wOut (s)).map B8)])) := by
 obtain ⟨a0, c0, h'⟩ := wr_open h; refine g_enter (env := [(0, .pointer (some ⟨g, 0, none⟩))]) Tryz.func106 rfl h' Tryz.ntmps106 rfl rfl ?_; refine gsr (zxa ?_); refine zxa ?_; refine gnt (gc_seq (gsr (zxm ?_))); refine gp znc ?_; refine gp zfa ?_; refine gp zfa ?_; refine gp zl ?_; refine gp (r_nenil rfl (by kernel_rfl)) ?_; refine gnt (gif rfl (fun hc9 => ?_) (fun hc9 => ?_))
 ·refine gc_seq (gc_regionS (by kernel_rfl) (by kernel_rfl) ?_); refine sp zmv ?_; refine sp znc ?_; refine sp zfa ?_; refine sp zfa ?_; refine sp zl ?_; refine sp zas ?_; refine sp zas ?_; refine gs_nil ?_; refine gx_then (gc_ret (gx_then_ret (gx_ret2 rfl (by conv => lhs; whnf) (by conv => lhs; whnf) ?_))); exact fun w' hw => ⟨(none, 0), by simp [wOut, hc9], by simpa [wOut, hc9] using hw.rowNil.z⟩
 ·refine gc_skip (gx_then (gsr (zxm ?_))); refine gp znc ?_; refine gp zfa ?_; refine gp zl ?_; refine zc (fun r19 => ?_) (c := fun w1 F1 F2 h1 h2 hd hst => cloneBytes_ok (xs := s.bs.map B8) h1 (rd_row h2 hd (by repeat (first | exact Pick.here | apply Pick.there))) (one_B8 _) (by omega))
  refine zxa ?_; refine zxa ?_; refine gnt (gc_ret (gx_ret2 rfl (by conv => lhs; whnf) (by conv => lhs; whnf) ?_)); have e : wOut s = s.bs := by simp [wOut, hc9]
  rw [e]; exact fun w' hw => ⟨r19, by rw [hc9, eV_zero], hw.z⟩
end
section
abbrev PR (α : Type) := List UInt8 → Except Nat (α × List UInt8)
def pBind {α β : Type} (p : PR α) (f : α → PR β) : PR β := fun b => match p b with
  | .error e => .error e
  | .ok x => f x.1 x.2
def pPure {α : Type} (x : α) : PR α := fun b => .ok (x, b)
def pErr {α : Type} (e : Nat) : PR α := fun _ => .error e
def pTake (n : Nat) : PR (List UInt8) := fun b => if b.length < n then .error 2 else .ok (b.take n, b.drop n)
def valN (l : List UInt8) : Nat := l.foldl (fun n c => n * 256 + c.toNat) 0
def pNum (wd : Nat) : PR Int := pBind (pTake wd) fun l => pPure (valN l : Int)
def pMany {α : Type} (one : PR α) : Nat → PR (List α)
  | 0 => pPure []
  | k + 1 => pBind one fun x => pBind (pMany one k) fun l => pPure (x :: l)
def pAll {α : Type} (p : PR α) (b : List UInt8) : Except Nat α := match p b with
  | .error e => .error e
  | .ok x => if x.2 = [] then .ok x.1 else .error 3
theorem valN_go (l : List UInt8) (a : Nat) : l.foldl (fun n c => n * 256 + c.toNat) a = a * 256 ^ l.length + valN l := by
  unfold valN
  induction l generalizing a with
  | nil => simp
  | cons c l ih =>
    rw [List.foldl_cons, ih, List.foldl_cons, ih (0 * 256 + c.toNat), List.length_cons, Nat.pow_succ, Nat.add_mul, Nat.zero_mul, Nat.zero_add, Nat.mul_comm (256 ^ l.length) 256, ← Nat.mul_assoc]
    omega
theorem valN_cons (c : UInt8) (l : List UInt8) : valN (c :: l) = c.toNat * 256 ^ l.length + valN l := by
  conv => lhs; unfold valN
  rw [List.foldl_cons, valN_go, Nat.zero_mul, Nat.zero_add]
theorem valN_lt (l : List UInt8) : valN l < 256 ^ l.length := by
  induction l with
  | nil => simp [valN]
  | cons c l ih =>
    rw [valN_cons, List.length_cons, Nat.pow_succ]
    have := c.toNat_lt
    have h2 : c.toNat * 256 ^ l.length ≤ 255 * 256 ^ l.length := Nat.mul_le_mul_right _ (by omega)
    omega
theorem beN_succ (n : Int) (wd : Nat) : beN n (wd + 1) = byteAt n wd :: beN n wd := by
  simp only [beN, List.range_succ_eq_map, List.map_cons, List.map_map]
  congr 1
  apply List.map_congr_left
  intro j hj
  simp only [Function.comp]
  congr 1
  omega
theorem byteAt_nat (n i : Nat) : byteAt (n : Int) i = UInt8.ofNat (n / 256 ^ i) := by
  unfold byteAt
  have e : (2 : Int) ^ (8 * i) = ((256 ^ i : Nat) : Int) := by
    rw [Int.pow_mul]; simp
  rw [e, ← Int.natCast_ediv, show ((n / 256 ^ i : Nat) : Int) % 256 = ((n / 256 ^ i % 256 : Nat) : Int) by simp, Int.toNat_natCast]
  apply UInt8.toNat_inj.1
  simp
theorem valN_beN (n wd : Nat) : valN (beN (n : Int) wd) = n % 256 ^ wd := by
  induction wd with
  | zero => simp [beN, valN, Nat.mod_one]
  | succ wd ih =>
    have e : n % 256 ^ (wd + 1) = n % 256 ^ wd + 256 ^ wd * (n / 256 ^ wd % 256) := by rw [Nat.pow_succ, Nat.mod_mul]
    rw [beN_succ, valN_cons, ih, beN_length, byteAt_nat, UInt8.toNat_ofNat', e]
    rw [Nat.add_comm, Nat.mul_comm]
theorem pBind_ok {α β : Type} {p : PR α} {f : α → PR β} {b r : List UInt8} {y : β} (h : pBind p f b = .ok (y, r)) : ∃ x r1, p b = .ok (x, r1) ∧ f x r1 = .ok (y, r) := by
  unfold pBind at h
  cases hp : p b with
  | error e => rw [hp] at h; cases h
  | ok x => rw [hp] at h; exact ⟨x.1, x.2, rfl, h⟩
theorem pBind_eq {α β : Type} {p : PR α} {f : α → PR β} {b r : List UInt8} {x : α} (h : p b = .ok (x, r)) : pBind p f b = f x r := by
  unfold pBind; rw [h]
theorem pBind_err {α β : Type} {p : PR α} {f : α → PR β} {b : List UInt8} {e : Nat} (h : p b = .error e) : pBind p f b = .error e := by
  unfold pBind; rw [h]
theorem pTake_app (l r : List UInt8) : pTake l.length (l ++ r) = .ok (l, r) := by
  simp [pTake]
theorem pNum_app {wd n : Nat} (h : n < 256 ^ wd) (r : List UInt8) : pNum wd (beN (n : Int) wd ++ r) = .ok ((n : Int), r) := by
  have := pTake_app (beN (n : Int) wd) r
  rw [beN_length] at this
  rw [pNum, pBind_eq this, valN_beN, Nat.mod_eq_of_lt h]; rfl
theorem pPure_ok {α : Type} {x y : α} {b r : List UInt8} (h : pPure x b = .ok (y, r)) : x = y ∧ b = r := by
  simpa only [pPure, Except.ok.injEq, Prod.mk.injEq] using h
end
section
abbrev RSt := Except Nat (List UInt8)
def rstep {α : Type} (p : PR α) : RSt → RSt
  | .error e => .error e
  | .ok b => match p b with
    | .error e => .error e
    | .ok x => .ok x.2
def Ag {α : Type} (p : PR α) (σ : RSt) (x : α) : Prop := ∀ b y r, σ = .ok b → p b = .ok (y, r) → x = y
def errOf : RSt → Nat
  | .ok _ => 0
  | .error e => e
def WS.st (s : WS) : RSt := if s.err = 0 then .ok s.bs else .error s.err
theorem WS.errOf_st (s : WS) : errOf s.st = s.err := by
  unfold WS.st; split
  · rename_i h; exact h.symm
  · rfl
theorem Ag.bind {α β : Type} {p : PR α} {f : α → PR β} {σ : RSt} {x : α} {y : β} (h : Ag p σ x) (k : Ag (f x) (rstep p σ) y) : Ag (pBind p f) σ y := by
  rintro b y' r rfl hb
  obtain ⟨x', r1, h1, h2⟩ := pBind_ok hb
  obtain rfl := h b x' r1 rfl h1
  refine k r1 y' r ?_ h2
  simp only [rstep, h1]
theorem rstep_bind {α β : Type} {p : PR α} {f : α → PR β} {σ : RSt} {x : α} (h : Ag p σ x) : rstep (pBind p f) σ = rstep (f x) (rstep p σ) := by
  cases σ with
  | error e => rfl
  | ok b =>
    cases hp : p b with
    | error e => simp only [rstep, pBind_err hp, hp]
    | ok x' =>
      obtain ⟨x', r⟩ := x'
      obtain rfl := h b x' r rfl hp
      simp only [rstep, pBind_eq hp, hp]
theorem Ag.pure {α : Type} {σ : RSt} (x : α) : Ag (pPure x) σ x := by
  rintro b y r rfl h
  exact (pPure_ok h).1
theorem rstep_pure {α : Type} {σ : RSt} (x : α) : rstep (pPure x) σ = σ := by cases σ <;> rfl
theorem Ag.err {α : Type} {σ : RSt} {k : Nat} (x : α) : Ag (pErr k) σ x := by rintro b y r _ h; cases h
theorem Ag.error {α : Type} {p : PR α} {e : Nat} (x : α) : Ag p (.error e) x := by rintro b y r h _; cases h
theorem Ag.of {α : Type} {p : PR α} {b r : List UInt8} {x : α} (h : p b = .ok (x, r)) : Ag p (.ok b) x := by
  rintro b' y r' he h'
  cases he; rw [h] at h'; cases h'; rfl
theorem Ag.ne {α : Type} {p : PR α} {b : List UInt8} {e : Nat} (h : p b = .error e) (x : α) : Ag p (.ok b) x := by
  rintro b' y r' he h'
  cases he; rw [h] at h'; cases h'
theorem errOf_rstep {α : Type} (p : PR α) {σ : RSt} (h : errOf σ ≠ 0) : rstep p σ = σ := by
  cases σ with
  | error e => rfl
  | ok b => exact absurd rfl h
theorem Ag.bad {α : Type} {p : PR α} {σ : RSt} (h : errOf σ ≠ 0) (x : α) : Ag p σ x := by
  cases σ with
  | error e => exact Ag.error x
  | ok b => exact absurd rfl h
structure Many {α : Type} (one : PR α) (n : Nat) (σ0 : RSt) (m : Nat) (σ : RSt) (out : List α) : Prop where
  st : rstep (pMany one n) σ0 = rstep (pMany one m) σ
  ag : ∀ l, Ag (pMany one m) σ l → Ag (pMany one n) σ0 (out ++ l)
theorem Many.start {α : Type} {one : PR α} {n : Nat} {σ0 : RSt} : Many one n σ0 n σ0 [] := ⟨rfl, fun l h => h⟩
theorem Many.next {α : Type} {one : PR α} {n m : Nat} {σ0 σ : RSt} {out : List α} {x : α} (h : Many one n σ0 (m + 1) σ out) (hx : Ag one σ x) : Many one n σ0 m (rstep one σ) (out ++ [x]) := by
  refine ⟨?_, fun l hl => ?_⟩
  · rw [h.st, pMany, rstep_bind hx]
    cases hσ : rstep one σ with
    | error e => rfl
    | ok b =>
      cases hm : pMany one m b with
      | error e => simp only [rstep, pBind_err hm, hm]
      | ok y => simp only [rstep, pBind_eq (x := y.1) (r := y.2) hm, hm, pPure]
  · have := h.ag (x :: l) (by rw [pMany]; exact Ag.bind hx (Ag.bind hl (Ag.pure _)))
    simpa using this
theorem Many.done {α : Type} {one : PR α} {n : Nat} {σ0 σ : RSt} {out : List α} (h : Many one n σ0 0 σ out) : rstep (pMany one n) σ0 = σ ∧ Ag (pMany one n) σ0 out := by
  refine ⟨by rw [h.st]; exact rstep_pure _, ?_⟩
  have := h.ag [] (Ag.pure _)
  simpa using this
theorem Many.bad {α : Type} {one : PR α} {n m : Nat} {σ0 σ : RSt} {out : List α} (h : Many one n σ0 m σ out) (he : errOf σ ≠ 0) : rstep (pMany one n) σ0 = σ ∧ ∀ l, Ag (pMany one n) σ0 l := by
  have h1 : rstep (pMany one n) σ0 = σ := by rw [h.st]; exact errOf_rstep _ he
  refine ⟨h1, fun l => ?_⟩
  rintro b y r rfl hb
  exfalso
  apply he
  rw [← h1]
  simp only [rstep, hb]; rfl
end
section
class RdK {α : Type} (rd : World → (Nat → Prop) → List Value → α → Prop) : Prop where
  mv : ∀ {w w' : World} {A A' : Nat → Prop} {cs : List Value} {x : α}, rd w A cs x → Still w A w' A' → rd w' A' cs x
instance : RdK (fun _ _ => RdDig) := ⟨fun h _ => h⟩
instance : RdK (fun _ _ => RdVdr) := ⟨fun h _ => h⟩
instance : RdK RdBytes := ⟨fun h k => h.mv k⟩
instance : RdK RdSig := ⟨fun h k => h.mv k⟩
instance : RdK RdSigned := ⟨fun h k => h.mv k⟩
instance : RdK RdLate := ⟨fun h k => h.mv k⟩
instance : RdK RdQC := ⟨fun h k => h.mv k⟩
instance : RdK RdTC := ⟨fun h k => h.mv k⟩
instance : RdK RdBlock := ⟨fun h k => h.mv k⟩
instance : RdK RdVote := ⟨fun h k => h.mv k⟩
instance : RdK RdTmo := ⟨fun h k => h.mv k⟩
instance : RdK RdProp := ⟨fun h k => h.mv k⟩
instance : RdK RdChg := ⟨fun h k => h.mv k⟩
instance : RdK RdMsg := ⟨fun h k => h.mv k⟩
theorem still_of {w w' : World} {F : Nat → Prop} (hk : ∀ k, k < w.heap.size → F k → w'.heap[k]? = w.heap[k]?) : Still w F w' F := fun k h hF => ⟨hk k h hF, hF⟩
theorem still_sub {w : World} {F G : Nat → Prop} (h : ∀ k, F k → G k) : Still w F w G := fun k _ hF => ⟨rfl, h k hF⟩
section
variable {α : Type} (rd : World → (Nat → Prop) → List Value → α → Prop) [RdK rd]
end
theorem stars_swap {r s : Res} {L : List Res} {w : World} {F : Nat → Prop} (h : stars (r :: s :: L) w F) : stars (s :: r :: L) w F := Pick.stars (.there .here) h
theorem rdR_mk {φ : World → (Nat → Prop) → Prop} {hl} {w : World} {F : Nat → Prop} {L : List Res} (h : φ w F) (hs : stars L w F) : stars [rdR φ hl] w F := stars_one ⟨h, stars_ok hs⟩
section
variable {α : Type} {rd : World → (Nat → Prop) → List Value → α → Prop} [RdK rd]
end
theorem St.pureI {w0 w : World} {F0 : Nat → Prop} {L : List Res} {p : Prop} (hp : p) (h : St w0 F0 L w) : St w0 F0 (pureR p :: L) w := by
  obtain ⟨F, hF, hst⟩ := h; exact ⟨F, stars_pure_mk hp hF, hst⟩
theorem St.mapL {w0 w : World} {F0 : Nat → Prop} {L L' : List Res} (h : St w0 F0 L w) (k : ∀ F, stars L w F → stars L' w F) : St w0 F0 L' w := by
  obtain ⟨F, hF, hst⟩ := h; exact ⟨F, k F hF, hst⟩
def BtR (a : Option Addr) (bs : List UInt8) (a2 : Option Addr) (l : List UInt8) : Res :=
  rdR (fun w F => RdRow w F 1 a bs.length (bs.map B8) ∧ RdRow w F 1 a2 l.length (l.map B8)) (fun h hk => ⟨h.1.mv (still_of hk), h.2.mv (still_of hk)⟩)
def RdrB (TE : TypeId) (ea : Nat → Addr) (g : Nat) (σ : RSt) (a2 : Option Addr) (l : List UInt8) : Res := exR fun p : WS × Option Addr × Nat => allR [pureR (p.1.st = σ ∧ p.1.bs.length ≤ p.2.2), blk g 171 [eV TE ea p.1.err, .slice p.2.1 p.1.bs.length p.2.2], BtR p.2.1 p.1.bs a2 l]
abbrev RdrR (TE : TypeId) (ea : Nat → Addr) (g : Nat) (σ : RSt) : Res := RdrB TE ea g σ none []
section
variable {TE : TypeId} {ea : Nat → Addr} {g : Nat} {σ : RSt} {a2 : Option Addr} {l : List UInt8} {L : List Res} {w : World} {F : Nat → Prop}
theorem rr_open (h : stars (RdrB TE ea g σ a2 l :: L) w F) : ∃ s a c, WS.st s = σ ∧ s.bs.length ≤ c ∧ stars (blk g 171 [eV TE ea s.err, .slice a s.bs.length c] :: BtR a s.bs a2 l :: L) w F := by
  obtain ⟨⟨s, a, c⟩, h⟩ := stars_ex h
  obtain ⟨⟨h1, h2⟩, h3⟩ := stars_pure (stars_all h)
  exact ⟨s, a, c, h1, h2, h3⟩
theorem rr_shut {s : WS} {k m c : Nat} {a : Option Addr} (h : stars (blk g 171 [eV TE ea k, .slice a m c] :: BtR a s.bs a2 l :: L) w F) (hk : k = s.err) (hm : m = s.bs.length) (hs : s.st = σ) (hc : m ≤ c) : stars (RdrB TE ea g σ a2 l :: L) w F := by
  subst hk; subst hm
  exact stars_ex_mk (s, a, c) (stars_all_mk (stars_pure_mk ⟨hs, hc⟩ h))
theorem St.rdr {w0 : World} {F0 : Nat → Prop} {s : WS} {k m c : Nat} {a : Option Addr} (h : St w0 F0 (blk g 171 [eV TE ea k, .slice a m c] :: BtR a s.bs a2 l :: L) w) (hk : k = s.err) (hm : m = s.bs.length) (hs : s.st = σ) (hc : m ≤ c) : St w0 F0 (RdrB TE ea g σ a2 l :: L) w :=
  h.mapL fun F hF => rr_shut hF hk hm hs hc
theorem bt_weak {a : Option Addr} {bs : List UInt8} (h : stars (BtR a bs a2 l :: L) w F) : stars (BtR a bs none [] :: L) w F := by
  obtain ⟨F1, F2, ⟨h1, hl⟩, h2, hF, hd⟩ := h
  exact ⟨F1, F2, ⟨⟨h1.1, RdRow.nil⟩, hl⟩, h2, hF, hd⟩
theorem rr_weak (h : stars (RdrB TE ea g σ a2 l :: L) w F) : stars (RdrR TE ea g σ :: L) w F := by
  obtain ⟨s, a, c, h1, h2, F1, F3, g1, g2, hF, hd⟩ := rr_open h
  exact rr_shut ⟨F1, F3, g1, bt_weak g2, hF, hd⟩ rfl rfl h1 h2
theorem St.rrw {w0 : World} {F0 : Nat → Prop} (h : St w0 F0 (RdrB TE ea g σ a2 l :: L) w) : St w0 F0 (RdrR TE ea g σ :: L) w := h.mapL fun F hF => rr_weak hF
theorem bt_cut {a : Option Addr} {bs : List UInt8} {n c : Nat} (h : stars (BtR a bs a2 l :: L) w F) (hn : n ≤ bs.length) (hc : bs.length ≤ c) :
    stars (BtR (if c = n then a else a.map (·.add (n * 1))) (bs.drop n) (if c = 0 then a else a.map (·.add (0 * 1))) (bs.take n) :: L) w F := by
  obtain ⟨F1, F2, ⟨h1, hl⟩, h2, hF, hd⟩ := h
  have e1 := h1.1.cut8 (l := n) (h := bs.length) hn (Nat.le_refl _) hc
  have e2 := h1.1.cut8 (l := 0) (h := n) (Nat.zero_le _) hn hc
  rw [show (bs.drop n).take (bs.length - n) = bs.drop n from List.take_of_length_le (by simp)] at e1
  rw [List.drop_zero, Nat.sub_zero] at e2
  refine ⟨F1, F2, ⟨⟨?_, ?_⟩, hl⟩, h2, hF, hd⟩
  · rw [List.length_drop]; exact e1
  · rw [List.length_take, Nat.min_eq_left hn]; exact e2
theorem rdB_row {L' : List Res} {w : World} {F1 F2 : Nat → Prop} (h2 : stars L w F2) (hd : ∀ k, F1 k → ¬ F2 k) (hp : Pick L (RdrB TE ea g σ a2 l) L') : RdRow w (fun k => ¬ F1 k) 1 a2 l.length (l.map B8) := by
  obtain ⟨s, a, c, _, _, G1, G2, _, ⟨G3, G4, ⟨⟨_, hr⟩, _⟩, _, hG2, _⟩, hG, _⟩ := rr_open (hp.stars h2)
  exact hr.mv fun k _ hk => ⟨rfl, fun h => hd k h ((hG k).2 (.inr ((hG2 k).2 (.inl hk))))⟩
theorem St.rdB {w0 : World} {F0 : Nat → Prop} {L' : List Res} (h : St w0 F0 L w) (hp : Pick L (RdrB TE ea g σ a2 l) L') : RdRow w (fun _ => True) 1 a2 l.length (l.map B8) := by
  obtain ⟨F, hF, _⟩ := h
  exact (rdB_row (F1 := fun _ => False) hF (fun _ h => h.elim) hp).mv fun _ _ _ => ⟨rfl, trivial⟩
end
section
variable {P : Program} {w0 : World} {F0 : Nat → Prop} {L : List Res} {n : Fm} {env : Env} {d : Option Tmp} {ty : TypeId} {pos : String} {af : Array Edge} {gd : Option (Nat × Bool)}
theorem r_lde {x : Operand} {T : TypeId} {TE : TypeId} {ea : Nat → Addr} {g : Nat} {σ : RSt} {a2 : Option Addr} {l : List UInt8} {L' : List Res} [RO P T] (hx : ev n env x = .pointer (some ⟨g, 0, none⟩) := by exact rfl) (hp : Pick L (RdrB TE ea g σ a2 l) L' := by repeat (first | exact Pick.here | apply Pick.there)) :
    Runs P w0 F0 L n env ⟨d, .load T x, ty, pos, af, gd⟩ (eV TE ea (errOf σ)) := r_load hx fun w ⟨F, hF, _⟩ => run_loadVar_one RO.h (by
  obtain ⟨s, a, c, hs, _, G1, G2, hb, _⟩ := rr_open (hp.stars hF)
  rw [cell_blk hb, ← hs, WS.errOf_st]; rfl)
theorem r_ldb {x : Operand} {T : TypeId} {TE : TypeId} {ea : Nat → Addr} {g : Nat} {σ : RSt} {ga o i k : Nat} {l : List UInt8} {L' : List Res} [RO P T] (hx : ev n env x = .pointer (some ⟨ga, o + i, none⟩) := by exact rfl) (hp : Pick L (RdrB TE ea g σ (some ⟨ga, o, none⟩) l) L' := by repeat (first | exact Pick.here | apply Pick.there)) (hi : i = k) (hk : k < l.length) :
    Runs P w0 F0 L n env ⟨d, .load T x, ty, pos, af, gd⟩ (B8 (l.getD k 0)) := r_load hx fun w hw => run_loadVar_one RO.h (by
  obtain ⟨g', o', e, _, _, hr⟩ := (hw.rdB hp).2.2 (by omega)
  cases e
  subst hi
  refine hr i _ ?_
  rw [List.getElem?_map, List.getElem?_eq_getElem hk]; simp [List.getD, List.getElem?_eq_getElem hk])
end
theorem valN_snoc (l : List UInt8) (b : UInt8) : valN (l ++ [b]) = valN l * 256 + b.toNat := by simp [valN, List.foldl_append]
theorem or_byte {m : Nat} {b : UInt8} (h : m * 256 + b.toNat < 9223372036854775808) : bitop .or .i64 ((m * 256 : Nat) : Int) (b.toNat : Int) = ((m * 256 + b.toNat : Nat) : Int) := by
  have hb := b.toNat_lt
  have e : m * 256 ||| b.toNat = m * 256 + b.toNat := by
    have := Nat.shiftLeft_add_eq_or_of_lt (i := 8) (b := b.toNat) (by omega) m
    rw [Nat.shiftLeft_eq] at this
    exact this.symm
  have h1 : (BitVec.ofInt IntKind.i64.bits ((m * 256 : Nat) : Int) ||| BitVec.ofInt IntKind.i64.bits ((b.toNat : Nat) : Int)).toNat = m * 256 + b.toNat := by
    rw [BitVec.ofInt_natCast, BitVec.ofInt_natCast, BitVec.toNat_or, BitVec.toNat_ofNat, BitVec.toNat_ofNat]
    simp only [IntKind.bits]
    have h64 : (2 : Nat) ^ 64 = 18446744073709551616 := by decide
    rw [h64, Nat.mod_eq_of_lt (show m * 256 < 18446744073709551616 from Nat.lt_of_le_of_lt (Nat.le_add_right _ _) (Nat.lt_trans h (by decide))), Nat.mod_eq_of_lt (show b.toNat < 18446744073709551616 from Nat.lt_trans hb (by decide)), e]
  show IntKind.i64.wrap ((BitVec.ofInt IntKind.i64.bits ((m * 256 : Nat) : Int) ||| BitVec.ofInt IntKind.i64.bits ((b.toNat : Nat) : Int)).toNat : Int) = _
  rw [h1, wrap_i64 (by omega) (by omega)]
theorem rstep_num {wd : Nat} {σ : RSt} {l : List UInt8} (h : Ag (pTake wd) σ l) : rstep (pNum wd) σ = rstep (pTake wd) σ := by rw [pNum, rstep_bind h, rstep_pure]
theorem ag_num {wd : Nat} {σ : RSt} {l : List UInt8} (h : Ag (pTake wd) σ l) : Ag (pNum wd) σ (valN l : Int) := h.bind (Ag.pure _)
attribute [local irreducible] Gl Gc Gx Gs Runs Wt
theorem newReader_ok {w : World} {F : Nat → Prop} {TE : Nat} {ea : Nat → Addr} {a : Option Addr} {n c : Nat} {b : List UInt8} (h : stars [] w F) (hx : RdRow w (fun k => ¬ F k) 1 a n (b.map B8)) (hb : n ≤ 1099511627776) :
    Calls Tryz.prog 65 #[.slice a n c] w (Post w F (fun g : Nat => .pointer (some ⟨g, 0, none⟩)) (fun g => [RdrR TE ea g (.ok b)])) := by
 have hnb : n = b.length := by have := hx.1; simp at this; omega
 refine g_enter (env := [(0, .slice a n c)]) Tryz.func65 rfl h Tryz.ntmps65 rfl rfl ?_; refine gsr (zxa ?_); refine zxs ?_; refine zxm ?_; refine zc ?_ (c := fun w1 F1 F2 h1 h2 hd hst => cloneBytes_ok h1 (hx.mv hst.still) (one_B8 _) hb)
 rintro ⟨a4, c4⟩
 refine gp (r_build (cs := [.nilIface, .slice a4 n c4]) Ty.zc_171 Ty.pl_171 rfl) ?_; refine zbN fun b6 => ?_; refine zxa ?_; refine gnt (gc_ret (gx_ret1 rfl (by conv => lhs; whnf) ?_)); intro w' hw; have hle := (hw.rowLe (e := 5) (size := 1) (a := a4) (m := n) (c := c4) (xs := b.map B8) (by repeat (first | exact Pick.here | apply Pick.there))).1
 refine ⟨b6, rfl, St.rdr (s := ⟨0, b⟩) (k := 0) (m := n) (c := c4) (a := a4) ?_ rfl hnb rfl hle⟩
 rw [eV_zero]; refine (hw.sel (M := [blk b6 _ _, rowR 5 1 a4 n c4 _]) (by repeat (first | exact Sel.nil | (apply Sel.cons; · (repeat (first | exact Pick.here | apply Pick.there)))))).mapL fun F' hF' => ?_; obtain ⟨G1, G2, h1, h2, hF, hd⟩ := hF'; refine ⟨G1, G2, h1, ?_, hF, hd⟩
 obtain ⟨G3, G4, g3, g4, hG, _⟩ := h2; have hr := rowR.rd g3
 rw [hnb] at hr; exact rdR_mk (L := [rowR 5 1 a4 n c4 (b.map B8)]) ⟨hr.mv (still_sub fun k hk => (hG k).2 (.inl hk)), RdRow.nil⟩ ⟨G3, G4, g3, g4, hG, by assumption⟩
theorem take_ok' {w : World} {F : Nat → Prop} {TE : Nat} {ea : Nat → Addr} {g : Nat} {σ : RSt} (h : stars [RdrR TE ea g σ] w F) {es : List Nat} [Has es 2] (hE : GErr es w (fun k => ¬ F k) TE ea) {n : Nat}  :
    Calls Tryz.prog 100 #[.pointer (some ⟨g, 0, none⟩), .int .i64 (n : Int)] w (Post w F (fun r : Option Addr × Nat × List UInt8 => .slice r.1 r.2.2.length r.2.1) (fun r => [pureR (Ag (pTake n) σ r.2.2 ∧ r.2.2.length ≤ r.2.1 ∧ r.2.2.length ≤ n), RdrB TE ea g (rstep (pTake n) σ) r.1 r.2.2])) := by
 obtain ⟨s, a, c, hs, hc, h'⟩ := rr_open h; refine g_enter (env := [(0, .pointer (some ⟨g, 0, none⟩)), (1, .int .i64 (n : Int))]) Tryz.func100 rfl h' Tryz.ntmps100 rfl rfl ?_; refine gsr (zxa ?_); refine gnt (gc_seq (gsr (zxm ?_))); refine gp znc ?_; refine gp zfa ?_; refine gp zfa ?_; refine gp zl ?_; refine gp (r_nenil rfl (by kernel_rfl)) ?_; refine gnt (gif rfl (fun hc11 => ?_) (fun hc11 => ?_))
 ·try simp only at hc11
  have e1 : errOf σ ≠ 0 := by rw [← hs, WS.errOf_st]; exact hc11
  refine gsr (zxa ?_); refine gnt (gc_ret (gx_then_ret (gx_ret1 rfl (by conv => lhs; whnf) ?_))); exact fun w' hw => ⟨(none, 0, []), rfl, St.pureI ⟨Ag.bad e1 _, Nat.le_refl _, Nat.zero_le _⟩ (St.rdr (hw.sel (M := [blk g 171 [_, .slice a _ c], BtR a s.bs none []]) (by repeat (first | exact Sel.nil | (apply Sel.cons; · (repeat (first | exact Pick.here | apply Pick.there)))))) rfl rfl (by rw [errOf_rstep _ e1]; exact hs) hc)⟩
 ·try simp only at hc11
  have hs' : σ = .ok s.bs := by rw [← hs, WS.st, if_pos hc11]
  refine gc_skip (gx_then (gc_seq (gsr (zxm ?_)))); refine zxm ?_; refine gp znc ?_; refine gp zfa ?_; refine gp zl ?_; refine gp zln ?_; refine gp zgt ?_; refine gnt (gif rfl (fun hc18 => ?_) (fun hc18 => ?_))
  ·try simp only at hc18
   have hn : s.bs.length < n := by omega
   have hp : pTake n s.bs = .error 2 := by rw [pTake, if_pos hn]
   refine gc_seq (gc_regionT 4 (by kernel_rfl) (by kernel_rfl) ?_); refine sp zmv ?_; refine sp znc ?_; refine sp zfa ?_; refine sp (r_ld1o rfl Ty.row_26 (hE.c 2 Has.h) (hE.n 2 Has.h)) ?_; refine gs_nil ?_; refine zc (fun _ => ?_) (c := fun w1 F1 F2 h1 h2 hd hst => fail_ok h1)
   refine zxs ?_; refine zxa ?_; refine gnt (gc_ret (gx_then_ret (gx_ret1 rfl (by conv => lhs; whnf) ?_))); rw [if_pos hc11]; exact fun w' hw => ⟨(none, 0, []), rfl, St.pureI ⟨by rw [hs']; exact Ag.ne hp _, Nat.le_refl _, Nat.zero_le _⟩ (St.rdr (s := ⟨2, s.bs⟩) (hw.sel (M := [blk g 171 [_, .slice a _ c], BtR a s.bs none []]) (by repeat (first | exact Sel.nil | (apply Sel.cons; · (repeat (first | exact Pick.here | apply Pick.there)))))) rfl rfl (by rw [hs']; simp only [rstep, hp]; rfl) hc)⟩
  ·try simp only at hc18
   have hn : n ≤ s.bs.length := by omega
   have hp : pTake n s.bs = .ok (s.bs.take n, s.bs.drop n) := by rw [pTake, if_neg (by omega)]
   refine gc_skip (gx_then (gsr (zxm ?_))); refine gp znc ?_; refine gp zfa ?_; refine gp zl ?_; refine zxm ?_; refine gp (r_slice_slice (a := a) (m := s.bs.length) (c := c) (l := 0) (h := n) rfl Ty.sl_22 Ty.sz_5 rfl ⟨_, rfl⟩ (by omega) (by omega)) ?_; refine zxa ?_; refine zxs ?_; refine zxm ?_; refine zxm ?_; refine gp znc ?_; refine gp zfa ?_; refine gp zl ?_; refine zxm ?_; refine gp (r_slice_slice (a := a) (m := s.bs.length) (c := c) (l := n) (h := s.bs.length) rfl Ty.sl_22 Ty.sz_5 ⟨_, rfl⟩ rfl (by omega) (by omega)) ?_; refine gp znc ?_; refine gp zfa ?_; refine zs1 ?_; refine zxs ?_; refine zxm ?_; refine zxa ?_; refine gnt (gc_ret (gx_ret1 rfl (by conv => lhs; whnf) ?_)); have hdl : (s.bs.drop n).length = s.bs.length - n := List.length_drop
   have htl : (s.bs.take n).length = n := by rw [List.length_take]; omega
   refine fun w' hw => ⟨((if c = 0 then a else a.map (·.add (0 * 1))), c - 0, s.bs.take n), by simp only [htl]; rfl, St.pureI ⟨by rw [hs']; exact Ag.of hp, by simp only [htl]; omega, by simp only [htl]; omega⟩ (St.rdr (s := ⟨0, s.bs.drop n⟩) (k := s.err) (m := s.bs.length - n) (c := c - n) (a := if c = n then a else a.map (·.add (n * 1))) ?_ hc11 hdl.symm (by rw [hs']; simp only [rstep, hp]; rfl) (by omega))⟩
   refine (hw.sel (M := [BtR a s.bs none [], blk g 171 [_, .slice (if c = n then a else a.map (·.add (n * 1))) _ _]]) (by repeat (first | exact Sel.nil | (apply Sel.cons; · (repeat (first | exact Pick.here | apply Pick.there)))))).mapL fun F' hF' => ?_; have := bt_cut (n := n) hF' hn hc
   exact stars_swap this
end
section
theorem V8.add_get (x y : V8) (k : Nat) : (x.add y).get k = x.get k + y.get k := by
  unfold V8.get V8.add; split <;> rfl
theorem v8c_length (v : V8) : (v8c v).length = 8 := rfl
instance {v : V8} : Len (v8c v) 8 := ⟨v8c_length v⟩
theorem v8c_one (v : V8) : ∀ u ∈ v8c v, u.oneCell' = true := fun u hu => fnc_one (V := W32) (m := 8) (f := v.get) (fun _ => rfl) u hu
attribute [local irreducible] Gl Gc Gx Gs Runs Wt
theorem take_ok {w : World} {F : Nat → Prop} {g T : Nat} {v : V8} {tl : List Value} (h : stars [blk g T (v8c v ++ tl)] w F) (hK : KR w (fun k => ¬ F k)) {b : List UInt8} {a : Option Addr} {c : Nat} (hx : RdRow w (fun k => ¬ F k) 1 a 64 (b.map B8))  :
    Calls Tryz.prog 121 #[.pointer (some ⟨g, 0, none⟩), .slice a 64 c] w (Post w F (fun _ : Unit => .tuple #[]) (fun _ => [blk g T (v8c (take64 Kc v b) ++ tl)])) := by
 refine g_enter (env := [(0, .pointer (some ⟨g, 0, none⟩)), (1, .slice a 64 c)]) Tryz.func121 rfl h Tryz.ntmps121 rfl rfl ?_; refine gsr (zxm ?_); refine zc (fun _ => ?_) (c := fun w1 F1 F2 h1 h2 hd hst => schedule_ok h1 (hx.mv hst.still))
 refine zal fun b4 => ?_; refine gl_storeN (wt0 rfl) rfl rfl Ty.sz_218 fnc_length (by repeat (first | exact Pick.here | apply Pick.there)) (by simp) (fnc_one fun _ => rfl) (updL_all (by simp [fnc_length])) ?_; refine gnt (gc_seq (gc_regionS (by kernel_rfl) (by kernel_rfl) ?_)); refine sp zmv ?_; refine sp znc ?_; refine sp (r_indexAddr_arr rfl rfl Ty.arr_204 Ty.sz_202 (by decide) (by decide)) ?_; refine sp zl ?_; refine sp zmv ?_; refine sp znc ?_; refine sp (r_indexAddr_arr rfl rfl Ty.arr_204 Ty.sz_202 (by decide) (by decide)) ?_; refine sp zl ?_; refine sp zmv ?_; refine sp znc ?_; refine sp (r_indexAddr_arr rfl rfl Ty.arr_204 Ty.sz_202 (by decide) (by decide)) ?_; refine sp zl ?_; refine sp zmv ?_; refine sp znc ?_; refine sp (r_indexAddr_arr rfl rfl Ty.arr_204 Ty.sz_202 (by decide) (by decide)) ?_; refine sp zl ?_; refine sp zas ?_; refine sp zas ?_; refine sp zas ?_; refine sp zas ?_; refine gs_nil ?_; refine gx_then (gc_seq (gc_regionS (by kernel_rfl) (by kernel_rfl) ?_)); refine sp zmv ?_; refine sp znc ?_; refine sp (r_indexAddr_arr rfl rfl Ty.arr_204 Ty.sz_202 (by decide) (by decide)) ?_; refine sp zl ?_; refine sp zmv ?_; refine sp znc ?_; refine sp (r_indexAddr_arr rfl rfl Ty.arr_204 Ty.sz_202 (by decide) (by decide)) ?_; refine sp zl ?_; refine sp zmv ?_; refine sp znc ?_; refine sp (r_indexAddr_arr rfl rfl Ty.arr_204 Ty.sz_202 (by decide) (by decide)) ?_; refine sp zl ?_; refine sp zmv ?_; refine sp znc ?_; refine sp (r_indexAddr_arr rfl rfl Ty.arr_204 Ty.sz_202 (by decide) (by decide)) ?_; refine sp zl ?_; refine sp zas ?_; refine sp zas ?_; refine sp zas ?_; refine sp zas ?_; refine gs_nil ?_; refine gx_then (gc_seq (gsr (zxm ?_))); refine gnt (gc_block (gc_loop (α := Nat) (fun k => [pureR (k ≤ 64), blk b4 218 (fnc W32 64 (sch b)), blk g T (v8c v ++ tl)]) (fun k => [(54, .int .i64 (k : Int)), (5, W32 (rnds Kc (sch b) v k).a), (9, W32 (rnds Kc (sch b) v k).b), (6, W32 (rnds Kc (sch b) v k).c), (10, W32 (rnds Kc (sch b) v k).d), (7, W32 (rnds Kc (sch b) v k).e), (11, W32 (rnds Kc (sch b) v k).f), (8, W32 (rnds Kc (sch b) v k).g), (12, W32 (rnds Kc (sch b) v k).h)]) [13, 14, 15, 16, 17, 55, 56, 57, 58, 59, 60, 61, 62, 63, 64, 65, 66, 67, 68, 69, 70, 71, 72, 73, 74, 75, 76, 77, 78, 79, 80, 81, 82, 83, 84, 85, 86, 87, 88, 89, 90, 91, 92, 93, 94, 95, 96, 97, 98, 99, 100, 101, 102, 103, 104, 105, 106, 107, 108, 109, 110, 111, 112, 113, 114, 115, 116, 117, 118] (fun k => 64 - k) 0 ?_ ?_ ?_))
 ·refine env_start (by kernel_rfl)
 ·rintro w' hw
  obtain ⟨F', hF', hst'⟩ := hw.sel (M := [blk b4 218 _, blk g T _]) (by repeat (first | exact Sel.nil | (apply Sel.cons; · (repeat (first | exact Pick.here | apply Pick.there))))); exact ⟨F', stars_pure_mk (Nat.zero_le _) hF', hst'⟩
 ·intro k u; refine gc_pureR (fun hk => ?_)
  replace hk : k ≤ 64 := hk
  refine gsr (gp zlt ?_); refine gnt (gc_seq (gif rfl (fun hc55 => ?_) (fun hc55 => ?_)))
  ·have hk' : k < 64 := by (try simp only at hc55); omega
   refine gc_skip (gx_then (gc_seq (gc_block (gsr (zxm ?_))))); refine zxa ?_; refine zxs ?_; refine zxm ?_; refine zc (fun _ => ?_) (c := fun w1 F1 F2 h1 h2 hd hst => rot_ok (n := 6) h1 (by decide) (by decide))
   refine zxm ?_; refine zc (fun _ => ?_) (c := fun w1 F1 F2 h1 h2 hd hst => rot_ok (n := 11) h1 (by decide) (by decide))
   refine gp zwx ?_; refine zxm ?_; refine zc (fun _ => ?_) (c := fun w1 F1 F2 h1 h2 hd hst => rot_ok (n := 25) h1 (by decide) (by decide))
   refine gp zwx ?_; refine zxa ?_; refine gnt (gc_seq (gc_regionS (by kernel_rfl) (by kernel_rfl) ?_)); refine sp zmv ?_; refine sp zmv ?_; refine sp zwa ?_; refine sp zmv ?_; refine sp zmv ?_; refine sp zwn ?_; refine sp zmv ?_; refine sp zwc ?_; refine sp zmv ?_; refine sp zwn ?_; refine sp zwx ?_; refine sp zwa ?_; refine sp zmv ?_; refine sp (r_indexAddr_arr rfl rfl Ty.arr_218 Ty.sz_202 (by omega) (by omega)) ?_; refine sp (r_ld1o rfl Ty.row_202 (hK.at (i := k) (by omega) hk') hK.n) ?_; refine sp zwa ?_; refine sp zmv ?_; refine sp (r_indexAddr_arr rfl rfl Ty.arr_218 Ty.sz_202 (by omega) (by omega)) ?_; refine sp (r_ld1 (v := W32 (sch b k)) rfl Ty.row_202 (by repeat (first | exact Pick.here | apply Pick.there)) (by rw [show 0 + (k : Int).toNat * 1 = k by omega]; exact fnc_get hk')) ?_; refine sp zwa ?_; refine sp zas ?_; refine gs_nil ?_; refine gx_then (gsr (zxm ?_)); refine zc (fun _ => ?_) (c := fun w1 F1 F2 h1 h2 hd hst => rot_ok (n := 2) h1 (by decide) (by decide))
   refine zxm ?_; refine zc (fun _ => ?_) (c := fun w1 F1 F2 h1 h2 hd hst => rot_ok (n := 13) h1 (by decide) (by decide))
   refine gp zwx ?_; refine zxm ?_; refine zc (fun _ => ?_) (c := fun w1 F1 F2 h1 h2 hd hst => rot_ok (n := 22) h1 (by decide) (by decide))
   refine gp zwx ?_; refine zxa ?_; refine zxs ?_; refine zxm ?_; refine zxm ?_; refine zxm ?_; refine gp zwn ?_; refine zxm ?_; refine zxm ?_; refine gp zwn ?_; refine gp zwx ?_; refine zxm ?_; refine zxm ?_; refine gp zwn ?_; refine gp zwx ?_; refine gp zwa ?_; refine zxa ?_; refine gnt (gc_region (zxm ?_)); refine zxm ?_; refine zxm ?_; refine zxm ?_; refine zxm ?_; refine gp zwa ?_; refine zxm ?_; refine zxm ?_; refine zxm ?_; refine zxm ?_; refine zxm ?_; refine gp zwa ?_; refine zxa ?_; refine zxa ?_; refine zxa ?_; refine zxa ?_; refine zxa ?_; refine zxa ?_; refine zxa ?_; refine zxa ?_; refine gl_nil (gx_block_normal (gx_then (gc_region (gp zad ?_)))); refine zxm ?_; refine gl_nil (zrd (k + 1) ?_ ?_)
   ·show 64 - (k + 1) < 64 - k
    omega
   ·rintro w' hw
    obtain ⟨F', hF', hst'⟩ := hw.sel (M := [blk b4 218 _, blk g T _]) (by repeat (first | exact Sel.nil | (apply Sel.cons; · (repeat (first | exact Pick.here | apply Pick.there))))); exact ⟨F', stars_pure_mk (show k + 1 ≤ 64 by omega) hF', hst'⟩
  ·have hk' : k = 64 := by (try simp only at hc55); omega
   subst hk'; refine gc_exit ?_; refine gx_then_exit ?_; refine gx_round_exit ?_; refine gx_block_hit ?_; refine gx_then (gsr (zxm ?_)); refine zxm ?_; refine zxm ?_; refine zxm ?_; refine zxm ?_; refine zxm ?_; refine zxm ?_; refine zxm ?_; refine gp zba ?_; refine zxm ?_; refine gnt (gc_block ?_); generalize hV : rnds Kc (sch b) v 64 = V
   refine gc_loop (α := Nat) (fun k => [pureR (k ≤ 8), blk g T (fnc W32 8 (pfx (v.add V).get v.get k) ++ tl)]) (fun k => [(128, .int .i64 (k : Int))]) [18, 19, 129, 130, 131, 132, 133, 134, 135, 136, 137, 138, 139, 140, 141] (fun k => 8 - k) 0 ?_ ?_ ?_
   ·refine env_start (by kernel_rfl)
   ·rintro w' hw
    obtain ⟨F', hF', hst'⟩ := hw.sel (M := [blk g T _]) (by repeat (first | exact Sel.nil | (apply Sel.cons; · (repeat (first | exact Pick.here | apply Pick.there))))); refine ⟨F', stars_pure_mk (Nat.zero_le _) ?_, hst'⟩
    show stars [blk g T (fnc W32 8 (pfx (v.add V).get v.get 0) ++ tl)] w' F'
    rw [pfx_zero]; exact hF'
   ·intro k u; refine gc_pureR (fun hk => ?_)
    replace hk : k ≤ 8 := hk
    refine gsr (gp zlt ?_); refine gnt (gc_seq (gif rfl (fun hc129 => ?_) (fun hc129 => ?_)))
    ·have hk' : k < 8 := by (try simp only at hc129); omega
     refine gc_skip (gx_then (gc_seq (gc_block (gsr (zxm ?_))))); refine gp (r_index1 (cs := fnc W32 8 V.get) (v := W32 (V.get k)) rfl rfl Ty.arr_203 Ty.sz_202 Ty.row_202 (by omega) (by omega) (by rw [show (k : Int).toNat * 1 = k by omega]; exact fnc_get hk')) ?_; refine zxa ?_; refine zxa ?_; refine gnt (gc_regionT 9 (by kernel_rfl) (by kernel_rfl) ?_); refine sp zmv ?_; refine sp zmv ?_; refine sp znc ?_; refine sp (r_indexAddr_arr rfl rfl Ty.arr_204 Ty.sz_202 (by omega) (by omega)) ?_; refine sp (r_ld1 (v := W32 (v.get k)) rfl Ty.row_202 (by repeat (first | exact Pick.here | apply Pick.there)) (get_left (pfx_get2 (by omega) (by omega) (by omega)))) ?_; refine sp zmv ?_; refine sp zwa ?_; refine sp znc ?_; refine sp (r_indexAddr_arr rfl rfl Ty.arr_204 Ty.sz_202 (by omega) (by omega)) ?_; refine gs_nil ?_; refine gl_store1 (wt0 rfl) rfl rfl rfl Ty.sz_202 (by repeat (first | exact Pick.here | apply Pick.there)) (by rw [List.length_append, fnc_length]; omega) ((updL_left (by rw [fnc_length]; simp; omega)).trans (congrArg (· ++ tl) (pfx_set (k := k) (by omega) (by omega) (congrArg W32 (V8.add_get _ _ _).symm)))) ?_; refine gl_nil (gx_block_normal (gx_then (gc_region (gp zad ?_)))); refine zxm ?_; refine gl_nil (zrd (k + 1) ?_ ?_)
     ·show 8 - (k + 1) < 8 - k
      omega
     ·rintro w' hw
      obtain ⟨F', hF', hst'⟩ := hw.sel (M := [blk g T _]) (by repeat (first | exact Sel.nil | (apply Sel.cons; · (repeat (first | exact Pick.here | apply Pick.there))))); exact ⟨F', stars_pure_mk (show k + 1 ≤ 8 by omega) hF', hst'⟩
    ·have hk' : k = 8 := by (try simp only at hc129); omega
     subst hk'; refine gc_exit ?_; refine gx_then_exit ?_; refine gx_round_exit ?_; refine gx_block_hit ?_; refine gx_ret0' rfl ?_; have e : v8c (take64 Kc v b) = fnc W32 8 (pfx (v.add V).get v.get 8) := by rw [pfx_full, ← hV]; rfl
     rw [e]; exact ze ()
end
section
def HashR (g : Nat) (s : HS) : Res := exR fun p : Option Addr × Nat => allR [blk g 208 (v8c s.v ++ [.slice p.1 s.rest.length p.2, .int .u64 (s.len : Int)]), rowR 5 1 p.1 s.rest.length p.2 (s.rest.map B8)]
theorem h_open {g : Nat} {s : HS} {L : List Res} {w : World} {F : Nat → Prop} (h : stars (HashR g s :: L) w F) :
    ∃ a c, stars (blk g 208 (v8c s.v ++ [.slice a s.rest.length c, .int .u64 (s.len : Int)]) :: rowR 5 1 a s.rest.length c (s.rest.map B8) :: L) w F := by
  obtain ⟨⟨a, c⟩, h⟩ := stars_ex h
  exact ⟨a, c, stars_all h⟩
theorem St.hash {w0 w : World} {F0 : Nat → Prop} {g m c : Nat} {a : Option Addr} {v : V8} {l : Nat} {s : HS} {L : List Res} {xs : List Value}
    (h : St w0 F0 (blk g 208 (v8c v ++ [.slice a m c, .int .u64 (l : Int)]) :: rowR 5 1 a m c xs :: L) w) (hv : v = s.v) (hr : xs = s.rest.map B8) (hm : m = s.rest.length) (hl : l = s.len) : St w0 F0 (HashR g s :: L) w := by
  subst hv; subst hr; subst hl; subst hm
  obtain ⟨F, hF, hst⟩ := h
  exact ⟨F, stars_ex_mk (a, c) (stars_all_mk hF), hst⟩
theorem h_new {w0 w : World} {F0 : Nat → Prop} {g : Nat} (h : St w0 F0 [blk g 208 (v8c v0 ++ [.slice none 0 0, .int .u64 0])] w) : St w0 F0 [HashR g hs0] w := by
  obtain ⟨F, hF, hst⟩ := h
  have h1 : St w0 F0 [rowR 5 1 none 0 0 [], blk g 208 (v8c v0 ++ [.slice none 0 0, .int .u64 0])] w := ⟨F, stars_row_nil hF, hst⟩
  exact St.hash (l := 0) (h1.sel (M := [blk g 208 (v8c v0 ++ [.slice none 0 0, .int .u64 ((0 : Nat) : Int)]), rowR 5 1 none 0 0 []]) (by repeat (first | exact Sel.nil | (apply Sel.cons; · (repeat (first | exact Pick.here | apply Pick.there)))))) rfl rfl rfl rfl
attribute [local irreducible] Gl Gc Gx Gs Runs Wt
theorem begin_ok {w : World} {F : Nat → Prop} (h : stars [] w F) :
    Calls Tryz.prog 120 #[] w (Post w F (fun _ : Unit => .agg (v8c v0).toArray) (fun _ => [])) := by
 refine g_enter (env := []) Tryz.func120 rfl h Tryz.ntmps120 rfl rfl ?_; refine gsr (zal fun b0 => ?_); refine zxs ?_; refine gp zba ?_; refine zsN ?_; refine gnt (gc_ret (gx_retc rfl rfl (ldA Ty.row_204 Ty.sz_204) ?_)); exact fun w' hw => ⟨(), congrArg (fun l : List Value => Ending.returned (.agg l.toArray)) (by kernel_rfl), hw.z⟩
theorem hnew_ok {w : World} {F : Nat → Prop} (h : stars [] w F) :
    Calls Tryz.prog 101 #[] w (Post w F (fun g : Nat => .pointer (some ⟨g, 0, none⟩)) (fun g => [HashR g hs0])) := by
 refine g_enter (env := []) Tryz.func101 rfl h Tryz.ntmps101 rfl rfl ?_; refine gsr (zxa ?_); refine zxs ?_; refine zc (fun _ => ?_) (c := fun w1 F1 F2 h1 h2 hd hst => begin_ok h1)
 refine gp zbu ?_; refine zbN fun b3 => ?_; refine zxa ?_; refine gnt (gc_ret (gx_ret1 rfl (by conv => lhs; whnf) ?_)); exact fun w' hw => ⟨b3, rfl, h_new (hw.z)⟩
theorem hwrite_ok {w : World} {F : Nat → Prop} {g : Nat} {s : HS} {b : List UInt8} {a : Option Addr} {n c : Nat} (h : stars [HashR g s] w F) (hK : KR w (fun k => ¬ F k)) (hx : RdRow w (fun k => ¬ F k) 1 a n (b.map B8)) (hr : s.rest.length < 64) (hb : s.len + b.length ≤ 1099511627776) :
    Calls Tryz.prog 102 #[.pointer (some ⟨g, 0, none⟩), .slice a n c] w (Post w F (fun _ : Unit => .tuple #[]) (fun _ => [HashR g (hWrite Kc s b)])) := by
 obtain ⟨a0, c0, h'⟩ := h_open h; have hnb : n = b.length := by have := hx.1; simp at this; omega
 refine g_enter (env := [(0, .pointer (some ⟨g, 0, none⟩)), (1, .slice a n c)]) Tryz.func102 rfl h' Tryz.ntmps102 rfl rfl ?_; refine gsr (zxm ?_); refine gp znc ?_; refine gp zfa ?_; refine gp zl ?_; refine zxm ?_; refine gp zln ?_; refine gp (r_int (r_conv_int rfl Ty.un_3 Ty.un_206) (wrap_u64 (by omega) (by omega))) ?_; refine gp (r_int (r_arith (op := .add) rfl rfl (wrap_u64 (by omega) (by omega))) (show (s.len : Int) + (n : Int) = ((s.len + b.length : Nat) : Int) by omega)) ?_; refine gp znc ?_; refine gp zfa ?_; refine zs1 ?_; refine zxs ?_; refine zxm ?_; refine zxm ?_; refine gp znc ?_; refine gp zfa ?_; refine gp zl ?_; refine zxm ?_; refine gl_append (wt0 rfl) rfl rfl (by repeat (first | exact Pick.here | apply Pick.there)) Ty.el_22 (fun w' hw => hw.rdOld hx) (one_B8 _) (by simp only [maxLen]; omega) (by omega) ?_; intro a1 c1; refine gp znc ?_; refine gp zfa ?_; refine zs1 ?_; refine gnt (gc_block (gc_loop (α := V8 × List UInt8 × Option Addr × Nat) (fun x => [pureR (takes Kc x.1 x.2.1 = takes Kc s.v (s.rest ++ b) ∧ x.2.1.length ≤ 1099511627840), blk g 208 (v8c x.1 ++ [.slice x.2.2.1 x.2.1.length x.2.2.2, .int .u64 ((s.len + b.length : Nat) : Int)]), rowR 5 1 x.2.2.1 x.2.1.length x.2.2.2 (x.2.1.map B8)]) (fun x => []) [23, 24, 25, 26, 27, 28, 29, 30, 31, 32, 33, 34, 35, 36, 37, 38, 39, 40, 41, 42, 43, 44, 45] (fun x => x.2.1.length) (s.v, s.rest ++ b, a1, c1) ?_ ?_ ?_))
 ·refine env_start (by kernel_rfl)
 ·rintro w' hw
  obtain ⟨F', hF', hst'⟩ := hw.sel (M := [blk g 208 _, rowR 5 1 a1 _ c1 _]) (by repeat (first | exact Sel.nil | (apply Sel.cons; · (repeat (first | exact Pick.here | apply Pick.there))))); refine ⟨F', stars_pure_mk ⟨rfl, by simp; omega⟩ ?_, hst'⟩
  show stars [blk g 208 (v8c s.v ++ [.slice a1 (s.rest ++ b).length c1, .int .u64 ((s.len + b.length : Nat) : Int)]), rowR 5 1 a1 (s.rest ++ b).length c1 ((s.rest ++ b).map B8)] w' F'
  rw [List.length_append, List.map_append]; rw [hnb] at hF'; exact hF'
 ·intro x u; obtain ⟨v, r, a1, c1⟩ := x; refine gc_pureR (fun hk => ?_)
  replace hk : takes Kc v r = takes Kc s.v (s.rest ++ b) ∧ r.length ≤ 1099511627840 := hk
  refine gc_fact (p := r.length ≤ c1) (fun w hw => (hw.rowLe (e := 5) (size := 1) (a := a1) (m := r.length) (c := c1) (xs := r.map B8) (by repeat (first | exact Pick.here | apply Pick.there))).1) (fun hc1 => ?_)
  refine gc_seq (gsr (zxm ?_)); refine gp znc ?_; refine gp zfa ?_; refine gp zl ?_; refine gp zln ?_; refine gp zge ?_; refine gnt (gif rfl (fun hc28 => ?_) (fun hc28 => ?_))
  ·have hk' : 64 ≤ r.length := by (try simp only at hc28); omega
   refine gc_skip (gx_then (gc_block (gc_seq (gc_regionT 8 (by kernel_rfl) (by kernel_rfl) ?_)))); refine sp zmv ?_; refine sp znc ?_; refine sp zfa ?_; refine sp zmv ?_; refine sp znc ?_; refine sp zfa ?_; refine sp zl ?_; refine sp (r_slice_slice (a := a1) (m := r.length) (c := c1) (l := 0) (h := 64) rfl Ty.sl_22 Ty.sz_5 rfl ⟨_, rfl⟩ (by omega) (by omega)) ?_; refine gs_nil ?_; refine zc (fun _ => ?_) (c := fun w1 F1 F2 h1 h2 hd hst => take_ok (tl := [.slice a1 r.length c1, .int .u64 ((s.len + b.length : Nat) : Int)]) h1 (hK.mv hst.still) ((rd_row h2 hd (by repeat (first | exact Pick.here | apply Pick.there))).cut8 (l := 0) (h := 64) (by omega) hk' hc1))
   refine gnt (gc_region (zxm ?_)); refine zxm ?_; refine gp znc ?_; refine gp zfa ?_; refine gp zl ?_; refine gp (r_slice_slice (a := a1) (m := r.length) (c := c1) (l := 64) (h := r.length) rfl Ty.sl_22 Ty.sz_5 ⟨_, rfl⟩ rfl (by omega) (by omega)) ?_; refine gp znc ?_; refine gp zfa ?_; refine zs1 ?_; refine gl_nil (gx_block_normal (zrd ((take64 Kc v (r.take 64), r.drop 64, (if c1 = 64 then a1 else a1.map (·.add (64 * 1))), c1 - 64)) ?_ ?_))
   ·show (r.drop 64).length < r.length
    rw [List.length_drop]; omega
   ·rintro w' hw
    obtain ⟨F', hF', hst'⟩ := hw.sel (M := [rowR 5 1 a1 r.length c1 (r.map B8), blk g 208 _]) (by repeat (first | exact Sel.nil | (apply Sel.cons; · (repeat (first | exact Pick.here | apply Pick.there))))); have h2 : St w F [rowR 5 1 (if c1 = 64 then a1 else a1.map (·.add (64 * 1))) (r.length - 64) (c1 - 64) ((r.drop 64).map B8), blk g 208 _] w' := ⟨F', stars_tail8 (by omega) hF', hst'⟩
    obtain ⟨F2, hF2, hst2⟩ := h2.sel (M := [blk g 208 _, rowR 5 1 _ _ _ ((r.drop 64).map B8)]) (by repeat (first | exact Sel.nil | (apply Sel.cons; · (repeat (first | exact Pick.here | apply Pick.there))))); refine ⟨F2, stars_pure_mk ⟨?_, ?_⟩ ?_, hst2⟩
    ·rw [← hk.1, takes.eq_1 Kc v r, dif_pos (by omega)]
    ·show (r.drop 64).length ≤ _; rw [List.length_drop]; omega
    ·show stars [blk g 208 (v8c (take64 Kc v (r.take 64)) ++ [.slice (if c1 = 64 then a1 else a1.map (·.add (64 * 1))) (r.drop 64).length (c1 - 64), .int .u64 ((s.len + b.length : Nat) : Int)]), rowR 5 1 (if c1 = 64 then a1 else a1.map (·.add (64 * 1))) (r.drop 64).length (c1 - 64) ((r.drop 64).map B8)] w' F2
     rw [List.length_drop]; exact hF2
  ·have hk' : ¬ 64 ≤ r.length := by (try simp only at hc28); omega
   refine gc_exit ?_; refine gx_then_exit ?_; refine gx_round_exit ?_; refine gx_block_hit ?_; refine gx_ret0' rfl ?_; have e : takes Kc s.v (s.rest ++ b) = (v, r) := by rw [← hk.1, takes.eq_1, dif_neg hk']
   exact fun w' hw => ⟨(), rfl, St.hash (s := hWrite Kc s b) (hw.sel (M := [blk g 208 _, rowR 5 1 a1 _ c1 _]) (by repeat (first | exact Sel.nil | (apply Sel.cons; · (repeat (first | exact Pick.here | apply Pick.there)))))) (by simp [hWrite, e]) (by simp [hWrite, e]) (by simp [hWrite, e]) rfl⟩
end
section
theorem padN_le (m : Nat) : padN m ≤ 63 := by unfold padN; omega
theorem pad_hit {m k : Nat} (h : k ≤ padN m) (hm : m < 64) : (m + 1 + k) % 64 = 56 ↔ k = padN m := by unfold padN at *; omega
theorem fnc_sum (v : V8) : fnc B8 32 (outByte v) = ((List.range 32).map (outByte v)).map B8 := by simp [fnc]
theorem padded_length (s : HS) : (padded s).length = s.rest.length + 1 + padN s.rest.length + 8 := by simp [padded, lenBytes]; omega
theorem takes_nil (K : Nat → UInt32) (v : V8) : takes K v [] = (v, []) := by rw [takes.eq_1, dif_neg (by simp)]
theorem rem_nat {m k : Nat} : Int.tmod (m : Int) (k : Int) = ((m % k : Nat) : Int) := by rw [Int.tmod_eq_emod_of_nonneg (by omega)]; rfl
theorem quo_nat {m k : Nat} : Int.tdiv (m : Int) (k : Int) = ((m / k : Nat) : Int) := by rw [Int.tdiv_eq_ediv_of_nonneg (by omega)]; rfl
def padRow (s : HS) (k : Nat) : List UInt8 := s.rest ++ 128 :: List.replicate k 0
def lenRow (s : HS) (k : Nat) : List UInt8 := s.rest ++ 128 :: (List.replicate (padN s.rest.length) 0 ++ (List.range k).map fun i => UInt8.ofNat (s.len * 8 / 2 ^ (8 * (7 - i))))
theorem padRow_succ (s : HS) (k : Nat) : (padRow s k).map B8 ++ [.int .u8 0] = (padRow s (k + 1)).map B8 := by
  have e : (.int .u8 0 : Value) = B8 0 := rfl
  rw [e]; simp [padRow, List.replicate_succ']
theorem lenRow_zero (s : HS) : lenRow s 0 = padRow s (padN s.rest.length) := by simp [lenRow, padRow]
theorem lenRow_succ (s : HS) (k : Nat) : (lenRow s k).map B8 ++ [B8 (UInt8.ofNat (s.len * 8 / 2 ^ (8 * (7 - k))))] = (lenRow s (k + 1)).map B8 := by simp [lenRow, List.range_succ]
attribute [local irreducible] Gl Gc Gx Gs Runs Wt
theorem hsum_ok {w : World} {F : Nat → Prop} {g : Nat} {s : HS} (h : stars [HashR g s] w F) (hK : KR w (fun k => ¬ F k)) (hr : s.rest.length < 64) (hb : s.len ≤ 1099511627776) :
    Calls Tryz.prog 103 #[.pointer (some ⟨g, 0, none⟩)] w (Post w F (fun _ : Unit => .agg (fnc B8 32 (outByte (takes Kc s.v (padded s)).1)).toArray) (fun _ => [HashR g s])) := by
 obtain ⟨a0, c0, h'⟩ := h_open h; refine g_enter (env := [(0, .pointer (some ⟨g, 0, none⟩))]) Tryz.func103 rfl h' Tryz.ntmps103 rfl rfl ?_; refine gsr (zal fun b2 => ?_); refine zxs ?_; refine zxm ?_; refine gp znc ?_; refine gp zfa ?_; refine gp zL ?_; refine zal fun b3 => ?_; refine gl_storeN (wt0 rfl) (cs' := v8c s.v ++ []) rfl rfl Ty.sz_204 (v8c_length _) (by repeat (first | exact Pick.here | apply Pick.there)) (by simp) (v8c_one _) ((updL_all (by simp [v8c_length])).trans (List.append_nil _).symm) ?_; refine zxs ?_; refine ze0 fun b12 => ?_; refine zxm ?_; refine gp znc ?_; refine gp zfa ?_; refine gp zl ?_; refine gl_append (wt0 rfl) rfl rfl (by repeat (first | exact Pick.here | apply Pick.there)) Ty.el_22 (fun w' hw => hw.row (a := a0) (m := s.rest.length) (c := c0) (by repeat (first | exact Pick.here | apply Pick.there))) (one_B8 _) (by simp only [maxLen]; omega) (by omega) ?_; intro a17 c17; rw [show 0 + s.rest.length = s.rest.length from Nat.zero_add _]; refine ze1 fun b18 => ?_; refine gl_append (news := [.int .u8 128]) (wt0 rfl) rfl rfl (by repeat (first | exact Pick.here | apply Pick.there)) Ty.el_22 (fun w' hw => hw.row (m := 1) (xs := [.int .u8 128]) (by repeat (first | exact Pick.here | apply Pick.there))) (all_cons' rfl all_nil') (by simp only [maxLen]; omega) (by omega) ?_; intro a19 c19; refine zxa ?_; refine gnt (gc_seq (gc_block (gc_loop (α := Nat × Option Addr × Nat) (fun x => [pureR (x.1 ≤ padN s.rest.length), rowR 5 1 x.2.1 (s.rest.length + 1 + x.1) x.2.2 ((padRow s x.1).map B8), blk b3 204 (v8c s.v ++ []), blk b2 186 (List.replicate 32 (.int .u8 0)), blk g 208 (v8c s.v ++ [.slice a0 s.rest.length c0, .int .u64 (s.len : Int)]), rowR 5 1 a0 s.rest.length c0 (s.rest.map B8)]) (fun x => [(4, .slice x.2.1 (s.rest.length + 1 + x.1) x.2.2)]) [20, 21, 22, 23, 24, 25, 26] (fun x => padN s.rest.length - x.1) (0, a19, c19) ?_ ?_ ?_)))
 ·refine env_start (by kernel_rfl)
 ·rintro w' hw
  obtain ⟨F', hF', hst'⟩ := hw.sel (M := [rowR 5 1 a19 _ c19 _, blk b3 204 (v8c s.v ++ []), blk b2 186 (List.replicate 32 (.int .u8 0)), blk g 208 (v8c s.v ++ [.slice a0 s.rest.length c0, .int .u64 (s.len : Int)]), rowR 5 1 a0 s.rest.length c0 (s.rest.map B8)]) (by repeat (first | exact Sel.nil | (apply Sel.cons; · (repeat (first | exact Pick.here | apply Pick.there))))); refine ⟨F', stars_pure_mk (Nat.zero_le _) ?_, hst'⟩
  have e : ([] ++ s.rest.map B8 ++ [.int .u8 128] : List Value) = (padRow s 0).map B8 := by simp [padRow]
  rw [e] at hF'; exact hF'
 ·intro x u; obtain ⟨k, a4, c4⟩ := x; refine gc_pureR (fun hk => ?_)
  replace hk : k ≤ padN s.rest.length := hk
  have hp63 := padN_le s.rest.length
  refine gc_seq (gsr (zxm ?_)); refine gp zln ?_; refine gp (r_int (r_rem rfl rfl (by decide)) (rem_nat (m := s.rest.length + 1 + k) (k := 64))) ?_; refine gp zni ?_; refine gnt (gif rfl (fun hc23 => ?_) (fun hc23 => ?_))
  ·have hk' : k < padN s.rest.length := by have := pad_hit hk hr; (try simp only at hc23); omega
   refine gc_skip (gx_then (gc_block (gc_region (zxm ?_)))); refine ze1 fun b25 => ?_; refine gl_append (news := [.int .u8 0]) (a := a4) (m := s.rest.length + 1 + k) (c := c4) (wt0 rfl) rfl rfl (by repeat (first | exact Pick.here | apply Pick.there)) Ty.el_22 (fun w' hw => hw.row (m := 1) (xs := [.int .u8 0]) (by repeat (first | exact Pick.here | apply Pick.there))) (all_cons' rfl all_nil') (by simp only [maxLen]; omega) (by omega) ?_; intro a26 c26; refine zxa ?_; refine gl_nil (gx_block_normal (zrd ((k + 1, a26, c26)) ?_ ?_))
   ·show padN s.rest.length - (k + 1) < padN s.rest.length - k
    omega
   ·rintro w' hw
    obtain ⟨F', hF', hst'⟩ := hw.sel (M := [rowR 5 1 a26 _ c26 _, blk b3 204 (v8c s.v ++ []), blk b2 186 (List.replicate 32 (.int .u8 0)), blk g 208 (v8c s.v ++ [.slice a0 s.rest.length c0, .int .u64 (s.len : Int)]), rowR 5 1 a0 s.rest.length c0 (s.rest.map B8)]) (by repeat (first | exact Sel.nil | (apply Sel.cons; · (repeat (first | exact Pick.here | apply Pick.there))))); refine ⟨F', stars_pure_mk (show k + 1 ≤ _ by omega) ?_, hst'⟩
    rw [padRow_succ] at hF'; exact hF'
  ·have hk' : k = padN s.rest.length := by have := pad_hit hk hr; (try simp only at hc23); omega
   subst hk'; refine gc_exit ?_; refine gx_then_exit ?_; refine gx_round_exit ?_; refine gx_block_hit ?_; refine gx_then (gc_seq (gsr (zxa ?_))); refine gnt (gc_block (gc_loop (α := Nat × Option Addr × Nat) (fun x => [pureR (x.1 ≤ 8), rowR 5 1 x.2.1 (s.rest.length + 1 + padN s.rest.length + x.1) x.2.2 ((lenRow s x.1).map B8), blk b3 204 (v8c s.v ++ []), blk b2 186 (List.replicate 32 (.int .u8 0)), blk g 208 (v8c s.v ++ [.slice a0 s.rest.length c0, .int .u64 (s.len : Int)]), rowR 5 1 a0 s.rest.length c0 (s.rest.map B8)]) (fun x => [(4, .slice x.2.1 (s.rest.length + 1 + padN s.rest.length + x.1) x.2.2), (5, .int .i64 (7 - (x.1 : Int)))]) [27, 28, 29, 30, 31, 32, 33, 34, 35, 36, 37, 38, 39, 40, 41, 42] (fun x => 8 - x.1) (0, a4, c4) ?_ ?_ ?_))
   ·refine env_start (by kernel_rfl)
   ·rintro w' hw
    obtain ⟨F', hF', hst'⟩ := hw.sel (M := [rowR 5 1 a4 _ c4 _, blk b3 204 (v8c s.v ++ []), blk b2 186 (List.replicate 32 (.int .u8 0)), blk g 208 (v8c s.v ++ [.slice a0 s.rest.length c0, .int .u64 (s.len : Int)]), rowR 5 1 a0 s.rest.length c0 (s.rest.map B8)]) (by repeat (first | exact Sel.nil | (apply Sel.cons; · (repeat (first | exact Pick.here | apply Pick.there))))); refine ⟨F', stars_pure_mk (Nat.zero_le _) ?_, hst'⟩
    rw [← lenRow_zero] at hF'; exact hF'
   ·intro x u; obtain ⟨k, a5, c5⟩ := x; refine gc_pureR (fun hk => ?_)
    replace hk : k ≤ 8 := hk
    refine gc_seq (gsr (zxm ?_)); refine gp zge ?_; refine gnt (gif rfl (fun hc28 => ?_) (fun hc28 => ?_))
    ·have hk' : k < 8 := by (try simp only at hc28); omega
     refine gc_skip (gx_then (gc_seq (gc_block (gc_region (zxm ?_))))); refine zxm ?_; refine gp znc ?_; refine gp zfa ?_; refine gp zl ?_; refine gp (r_int (r_arith (op := .mul) rfl rfl (wrap_u64 (by omega) (by omega))) (show (s.len : Int) * 8 = ((s.len * 8 : Nat) : Int) by omega)) ?_; refine zxm ?_; refine gp zml ?_; refine gp zhr ?_; refine gp (r_val (r_conv_int rfl Ty.un_206 Ty.un_5) (byte_shrU (j := 7 - k) (by omega) (by omega))) ?_; refine ze1 fun b41 => ?_; refine gl_append (news := [B8 (UInt8.ofNat (s.len * 8 / 2 ^ (8 * (7 - k))))]) (a := a5) (m := s.rest.length + 1 + padN s.rest.length + k) (c := c5) (wt0 rfl) rfl rfl (by repeat (first | exact Pick.here | apply Pick.there)) Ty.el_22 (fun w' hw => hw.row (m := 1) (xs := [B8 (UInt8.ofNat (s.len * 8 / 2 ^ (8 * (7 - k))))]) (by repeat (first | exact Pick.here | apply Pick.there))) (all_cons' rfl all_nil') (by simp only [maxLen]; omega) (by omega) ?_; intro a42 c42; refine zxa ?_; refine gl_nil (gx_block_normal (gx_then (gc_region (zxm ?_)))); refine gp (r_int (r_arith (op := .sub) rfl rfl (wrap_i64 (by omega) (by omega))) (show 7 - (k : Int) - 1 = 7 - ((k + 1 : Nat) : Int) by omega)) ?_; refine zxa ?_; refine gl_nil (zrd ((k + 1, a42, c42)) ?_ ?_)
     ·show 8 - (k + 1) < 8 - k
      omega
     ·rintro w' hw
      obtain ⟨F', hF', hst'⟩ := hw.sel (M := [rowR 5 1 a42 _ c42 _, blk b3 204 (v8c s.v ++ []), blk b2 186 (List.replicate 32 (.int .u8 0)), blk g 208 (v8c s.v ++ [.slice a0 s.rest.length c0, .int .u64 (s.len : Int)]), rowR 5 1 a0 s.rest.length c0 (s.rest.map B8)]) (by repeat (first | exact Sel.nil | (apply Sel.cons; · (repeat (first | exact Pick.here | apply Pick.there))))); refine ⟨F', stars_pure_mk (show k + 1 ≤ _ by omega) ?_, hst'⟩
      rw [lenRow_succ] at hF'; exact hF'
    ·have hk' : k = 8 := by (try simp only at hc28); omega
     subst hk'; refine gc_exit ?_; refine gx_then_exit ?_; refine gx_round_exit ?_; refine gx_block_hit ?_; refine gx_then (gc_seq (gc_block ?_)); have hpl := padded_length s
     refine gc_loop (α := V8 × List UInt8 × Option Addr × Nat × Nat) (fun x => [pureR (takes Kc x.1 x.2.1 = takes Kc s.v (padded s) ∧ x.2.1.length % 64 = 0 ∧ x.2.1.length ≤ 256 ∧ x.2.2.2.1 = x.2.1.length), rowR 5 1 x.2.2.1 x.2.2.2.1 x.2.2.2.2 (x.2.1.map B8), blk b3 204 (v8c x.1 ++ []), blk b2 186 (List.replicate 32 (.int .u8 0)), blk g 208 (v8c s.v ++ [.slice a0 s.rest.length c0, .int .u64 (s.len : Int)]), rowR 5 1 a0 s.rest.length c0 (s.rest.map B8)]) (fun x => [(4, .slice x.2.2.1 x.2.2.2.1 x.2.2.2.2)]) [43, 44, 45, 46, 47, 48, 49, 50] (fun x => x.2.1.length) (s.v, padded s, a5, s.rest.length + 1 + padN s.rest.length + 8, c5) ?_ ?_ ?_
     ·refine env_start (by kernel_rfl)
     ·rintro w' hw
      obtain ⟨F', hF', hst'⟩ := hw.sel (M := [rowR 5 1 a5 _ c5 _, blk b3 204 (v8c s.v ++ []), blk b2 186 (List.replicate 32 (.int .u8 0)), blk g 208 (v8c s.v ++ [.slice a0 s.rest.length c0, .int .u64 (s.len : Int)]), rowR 5 1 a0 s.rest.length c0 (s.rest.map B8)]) (by repeat (first | exact Sel.nil | (apply Sel.cons; · (repeat (first | exact Pick.here | apply Pick.there))))); refine ⟨F', stars_pure_mk ⟨rfl, ?_, ?_, hpl.symm⟩ ?_, hst'⟩
      ·show (padded s).length % 64 = 0
       have := (pad_hit (Nat.le_refl _) hr).2 rfl
       omega
      ·show (padded s).length ≤ 256; omega
      ·exact hF'
     ·intro x u; obtain ⟨v, r, a6, n6, c6⟩ := x; refine gc_pureR (fun hk => ?_)
      replace hk : takes Kc v r = takes Kc s.v (padded s) ∧ r.length % 64 = 0 ∧ r.length ≤ 256 ∧ n6 = r.length := hk
      obtain ⟨hk, hk64, hk256, rfl⟩ := hk; refine gc_fact (p := r.length ≤ c6) (fun w hw => (hw.rowLe (e := 5) (size := 1) (a := a6) (m := r.length) (c := c6) (xs := r.map B8) (by repeat (first | exact Pick.here | apply Pick.there))).1) (fun hc6 => ?_)
      refine gc_seq (gsr (zxm ?_)); refine gp zln ?_; refine gp zgt ?_; refine gnt (gif rfl (fun hc45 => ?_) (fun hc45 => ?_))
      ·have hk' : 64 ≤ r.length := by (try simp only at hc45); omega
       refine gc_skip (gx_then (gc_block (gsr (zxm ?_)))); refine gp (r_slice_slice (a := a6) (m := r.length) (c := c6) (l := 0) (h := 64) rfl Ty.sl_22 Ty.sz_5 rfl ⟨_, rfl⟩ (by omega) (by omega)) ?_; refine zc (fun _ => ?_) (c := fun w1 F1 F2 h1 h2 hd hst => take_ok (tl := []) h1 (hK.mv hst.still) ((rd_row (a := a6) (n := r.length) (c := c6) (xs := r.map B8) h2 hd (by repeat (first | exact Pick.here | apply Pick.there))).cut8 (l := 0) (h := 64) (by omega) hk' hc6))
       refine gnt (gc_region (zxm ?_)); refine gp (r_slice_slice (a := a6) (m := r.length) (c := c6) (l := 64) (h := r.length) rfl Ty.sl_22 Ty.sz_5 ⟨_, rfl⟩ rfl (by omega) (by omega)) ?_; refine zxa ?_; refine gl_nil (gx_block_normal ?_); have hdl : (r.drop 64).length = r.length - 64 := List.length_drop
       refine zrd ((take64 Kc v (r.take 64), r.drop 64, (if c6 = 64 then a6 else a6.map (·.add (64 * 1))), r.length - 64, c6 - 64)) ?_ ?_
       ·show (r.drop 64).length < r.length
        omega
       ·rintro w' hw
        obtain ⟨F', hF', hst'⟩ := hw.sel (M := [rowR 5 1 a6 r.length c6 (r.map B8), blk b3 204 (v8c (take64 Kc v (r.take 64)) ++ []), blk b2 186 (List.replicate 32 (.int .u8 0)), blk g 208 (v8c s.v ++ [.slice a0 s.rest.length c0, .int .u64 (s.len : Int)]), rowR 5 1 a0 s.rest.length c0 (s.rest.map B8)]) (by repeat (first | exact Sel.nil | (apply Sel.cons; · (repeat (first | exact Pick.here | apply Pick.there))))); refine ⟨F', stars_pure_mk ⟨?_, ?_, ?_, hdl.symm⟩ ?_, hst'⟩
        ·rw [← hk, takes.eq_1 Kc v r, dif_pos (by omega)]
        ·show (r.drop 64).length % 64 = 0; omega
        ·show (r.drop 64).length ≤ 256; omega
        ·have := stars_tail8 (l := 64) (by omega) hF'
         exact this
      ·have hk' : r = [] := by (try simp only at hc45); exact List.eq_nil_of_length_eq_zero (by omega)
       have hV : (takes Kc s.v (padded s)).1 = v := by rw [← hk, hk', takes_nil]
       rw [hV]; refine gc_exit ?_; refine gx_then_exit ?_; refine gx_round_exit ?_; refine gx_block_hit ?_; refine gx_then (gsr (zal fun b6 => ?_)); refine gnt (gc_seq (gsr (zxm ?_))); refine gnt (gc_block (gc_loop (α := Nat) (fun k => [pureR (k ≤ 32), blk b6 186 (fnc B8 32 (pfx (outByte v) (fun _ => 0) k)), blk b3 204 (v8c v ++ []), blk b2 186 (List.replicate 32 (.int .u8 0)), blk g 208 (v8c s.v ++ [.slice a0 s.rest.length c0, .int .u64 (s.len : Int)]), rowR 5 1 a0 s.rest.length c0 (s.rest.map B8)]) (fun k => [(51, .int .i64 (k : Int))]) [7, 52, 53, 54, 55, 56, 57, 58, 59, 60, 61, 62, 63, 64, 65, 66] (fun k => 32 - k) 0 ?_ ?_ ?_))
       ·refine env_start (by kernel_rfl)
       ·rintro w' hw
        obtain ⟨F', hF', hst'⟩ := hw.sel (M := [blk b6 186 _, blk b3 204 (v8c v ++ []), blk b2 186 (List.replicate 32 (.int .u8 0)), blk g 208 (v8c s.v ++ [.slice a0 s.rest.length c0, .int .u64 (s.len : Int)]), rowR 5 1 a0 s.rest.length c0 (s.rest.map B8)]) (by repeat (first | exact Sel.nil | (apply Sel.cons; · (repeat (first | exact Pick.here | apply Pick.there))))); refine ⟨F', stars_pure_mk (Nat.zero_le _) ?_, hst'⟩
        rw [pfx_zero, fnc_const]; exact hF'
       ·intro k u; refine gc_pureR (fun hk2 => ?_)
        replace hk2 : k ≤ 32 := hk2
        refine gsr (gp zlt ?_); refine gnt (gc_seq (gif rfl (fun hc52 => ?_) (fun hc52 => ?_)))
        ·have hk3 : k < 32 := by (try simp only at hc52); omega
         refine gc_skip (gx_then (gc_seq (gc_block (gsr (zxm ?_))))); refine zxa ?_; refine gnt (gc_region (zxm ?_)); refine zxm ?_; refine gp (r_int (r_val (r_quo rfl rfl (by decide)) (congrArg (Value.int .i64) ((congrArg IntKind.i64.wrap (quo_nat (m := k) (k := 4))).trans (wrap_i64 (by omega) (by omega))))) rfl) ?_; refine gp (r_indexAddr_arr rfl rfl Ty.arr_204 Ty.sz_202 (by omega) (by omega)) ?_; refine gp (r_ld1 (v := W32 (v.get (k / 4))) rfl Ty.row_202 (by repeat (first | exact Pick.here | apply Pick.there)) (by rw [show 0 + ((k / 4 : Nat) : Int).toNat * 1 = k / 4 by omega]; exact get_left (fnc_get (V := W32) (m := 8) (f := v.get) (by omega)))) ?_; refine zxm ?_; refine gp (r_int (r_rem rfl rfl (by decide)) (rem_nat (m := k) (k := 4))) ?_; refine gp zml ?_; refine gp zsb ?_; refine gp (r_shrw (j := 24 - 8 * (k % 4)) rfl rfl (by omega) (by omega)) ?_; refine gp (r_convw8 rfl Ty.un_202 Ty.un_5) ?_; refine gp (r_indexAddr_arr rfl rfl Ty.arr_186 Ty.sz_5 (by omega) (by omega)) ?_; refine gl_store1 (wt0 rfl) rfl rfl rfl Ty.sz_5 (by repeat (first | exact Pick.here | apply Pick.there)) (by rw [fnc_length]; omega) (pfx_set (k := k) (by omega) (by omega) rfl) ?_; refine gl_nil (gx_block_normal (gx_then (gc_region (gp zad ?_)))); refine zxm ?_; refine gl_nil (zrd (k + 1) ?_ ?_)
         ·show 32 - (k + 1) < 32 - k
          omega
         ·rintro w' hw
          obtain ⟨F', hF', hst'⟩ := hw.sel (M := [blk b6 186 _, blk b3 204 (v8c v ++ []), blk b2 186 (List.replicate 32 (.int .u8 0)), blk g 208 (v8c s.v ++ [.slice a0 s.rest.length c0, .int .u64 (s.len : Int)]), rowR 5 1 a0 s.rest.length c0 (s.rest.map B8)]) (by repeat (first | exact Sel.nil | (apply Sel.cons; · (repeat (first | exact Pick.here | apply Pick.there))))); exact ⟨F', stars_pure_mk (show k + 1 ≤ 32 by omega) hF', hst'⟩
        ·have hk3 : k = 32 := by (try simp only at hc52); omega
         subst hk3; refine gc_exit ?_; refine gx_then_exit ?_; refine gx_round_exit ?_; refine gx_block_hit ?_; refine gx_then (gsr (gp (r_ldN rfl Ty.row_186 Ty.sz_186 (by repeat (first | exact Pick.here | apply Pick.there)) (seg_all fnc_length) fnc_length) ?_)); refine gl_storeN (wt0 rfl) rfl rfl Ty.sz_186 fnc_length (by repeat (first | exact Pick.here | apply Pick.there)) (by simp) (fnc_one fun _ => rfl) (updL_all (by simp [fnc_length])) ?_; refine gnt (gc_ret (gx_retc rfl rfl (ld_aggS Ty.row_186 Ty.sz_186 (by repeat (first | exact Pick.here | apply Pick.there)) (seg_all fnc_length) fnc_length) ?_)); rw [pfx_full]; exact fun w' hw => ⟨(), rfl, St.hash (hw.sel (M := [blk g 208 (v8c s.v ++ [.slice a0 s.rest.length c0, .int .u64 (s.len : Int)]), rowR 5 1 a0 s.rest.length c0 (s.rest.map B8)]) (by repeat (first | exact Sel.nil | (apply Sel.cons; · (repeat (first | exact Pick.here | apply Pick.there)))))) rfl rfl rfl rfl⟩
end
section
def dOf (K : Nat → UInt32) (dom : Int) (parts : List (List UInt8)) : Dig := ⟨hOf K dom parts, hOf_length K dom parts⟩
def hStep (K : Nat → UInt32) (s : HS) (p : List UInt8) : HS := hWrite K (hWrite K s (part4 p.length)) p
def hBeg (K : Nat → UInt32) (dom : Int) : HS := hWrite K hs0 [UInt8.ofNat (dom % 256).toNat]
def pcost (l : List (List UInt8)) : Nat := (l.map fun p => p.length + 4).sum
theorem hWrite_rest (K : Nat → UInt32) (s : HS) (b : List UInt8) : (hWrite K s b).rest.length < 64 := takes_rest K s.v (s.rest ++ b)
theorem hWrite_len (K : Nat → UInt32) (s : HS) (b : List UInt8) : (hWrite K s b).len = s.len + b.length := rfl
theorem hFold (K : Nat → UInt32) : ∀ (l : List (List UInt8)) (s : HS), s.rest.length < 64 → (l.foldl (hStep K) s).rest.length < 64 ∧ (l.foldl (hStep K) s).len = s.len + pcost l
  | [], s, h => ⟨h, by simp [pcost]⟩
  | p :: l, s, h => by
    have := hFold K l (hStep K s p) (hWrite_rest _ _ _)
    refine ⟨this.1, ?_⟩
    rw [List.foldl_cons, this.2]
    simp only [hStep, hWrite_len, part4, pcost, List.map_cons, List.sum_cons, List.length_cons, List.length_nil]
    omega
theorem pcost_take {l : List (List UInt8)} {k : Nat} {p : List UInt8} (h : l[k]? = some p) : pcost (l.take k) + (p.length + 4) ≤ pcost l := by
  have e : l = l.take k ++ p :: l.drop (k + 1) := by
    have hk : k < l.length := (List.getElem?_eq_some_iff.1 h).1
    rw [← (List.getElem?_eq_some_iff.1 h).2, List.getElem_cons_drop, List.take_append_drop]
  have : pcost l = pcost (l.take k) + (p.length + 4) + pcost (l.drop (k + 1)) := by
    conv => lhs; rw [e]
    simp [pcost]; omega
  omega
theorem byte_nat {n : Nat} : Value.int .u8 (IntKind.u8.wrap (n : Int)) = B8 (UInt8.ofNat n) := by
  have h1 : ∀ m : Int, IntKind.u8.wrap m = m % 256 := fun m => by simp [IntKind.wrap, IntKind.bits, IntKind.signed]
  simp only [B8, Value.int.injEq, true_and]
  rw [h1, UInt8.toNat_ofNat']; omega
theorem hOf_cut (K : Nat → UInt32) (dom : Int) (parts : List (List UInt8)) : ((fnc B8 32 (outByte (takes K (parts.foldl (hStep K) (hBeg K dom)).v (padded (parts.foldl (hStep K) (hBeg K dom)))).1)).drop 0).take 16 = dc (dOf K dom parts) := by
  rw [List.drop_zero, fnc_sum, ← List.map_take]; rfl
theorem foldl_step {α β : Type} (f : β → α → β) (l : List α) (s : β) {k : Nat} {x : α} (h : l[k]? = some x) : (l.take (k + 1)).foldl f s = f ((l.take k).foldl f s) x := by
  rw [List.take_add_one, h]; simp
attribute [local irreducible] Gl Gc Gx Gs Runs Wt
theorem of_ok {w : World} {F : Nat → Prop} {dom : Int} {parts : List (List UInt8)} {a : Option Addr} {n c : Nat} (h : stars [] w F) (hK : KR w (fun k => ¬ F k)) (hx : RdList (RdBytes w fun k => ¬ F k) w (fun k => ¬ F k) 1 a n parts) (hb : 1 + pcost parts ≤ 1099511627776) :
    Calls Tryz.prog 73 #[.int .i64 dom, .slice a n c] w (Post w F (fun _ : Unit => .agg (dc (dOf Kc dom parts)).toArray) (fun _ => [])) := by
 have hnl := hx.len (by decide)
 have hmx := hx.max
 simp only [maxLen] at hmx
 refine g_enter (env := [(0, .int .i64 dom), (1, .slice a n c)]) Tryz.func73 rfl h Tryz.ntmps73 rfl rfl ?_; refine gsr (zal fun b4 => ?_); refine zxs ?_; refine zc (fun g => ?_) (c := fun w1 F1 F2 h1 h2 hd hst => hnew_ok h1)
 refine zxa ?_; refine zxs ?_; refine zxm ?_; refine zxm ?_; refine gp (r_val (r_conv_int rfl Ty.un_3 Ty.un_5) byte_int) ?_; refine ze1 fun b14 => ?_; refine zc (fun _ => ?_) (c := fun w1 F1 F2 h1 h2 hd hst => hwrite_ok (b := [UInt8.ofNat (dom % 256).toNat]) h1 (hK.mv hst.still) (rd_row (xs := [B8 (UInt8.ofNat (dom % 256).toNat)]) h2 hd (by repeat (first | exact Pick.here | apply Pick.there))) (by decide) (by simp [hs0]))
 refine gnt (gc_seq (gsr (zxm ?_))); refine gp zln ?_; refine zxm ?_; refine gnt (gc_block (gc_loop (α := Nat) (fun k => [pureR (k ≤ n), HashR g ((parts.take k).foldl (hStep Kc) (hBeg Kc dom)), blk b4 32 zD]) (fun k => [(18, .int .i64 (k : Int))]) [7, 8, 19, 20, 21, 22, 23, 24, 25, 26, 27, 28, 29, 30, 31, 32, 33, 34, 35, 36, 37, 38, 39, 40, 41] (fun k => n - k) 0 ?_ ?_ ?_))
 ·refine env_start (by kernel_rfl)
 ·rintro w' hw
  obtain ⟨F', hF', hst'⟩ := hw.sel (M := [HashR g (hBeg Kc dom), blk b4 32 zD]) (by repeat (first | exact Sel.nil | (apply Sel.cons; · (repeat (first | exact Pick.here | apply Pick.there))))); exact ⟨F', stars_pure_mk (Nat.zero_le _) hF', hst'⟩
 ·intro k u; refine gc_pureR (fun hk => ?_)
  replace hk : k ≤ n := hk
  refine gsr (gp zlt ?_); refine gnt (gc_seq (gif rfl (fun hc19 => ?_) (fun hc19 => ?_)))
  ·have hk' : k < n := by (try simp only at hc19); omega
   obtain ⟨ga, o, cs, y, ha, hA, hg, hra, hcl, hly, hrd⟩ := hx.elem (by decide) hk'; subst ha; obtain ⟨a', n', c', rfl, hn', hrb⟩ := hrd; have hny : n' = y.length := by have := hrb.1; simp at this; omega
   have hpc := pcost_take hly
   have hf := hFold Kc (parts.take k) (hBeg Kc dom) (hWrite_rest _ _ _)
   have hbl : (hBeg Kc dom).len = 1 := rfl
   refine gc_skip (gx_then (gc_seq (gc_block (gsr (gp (r_indexAddr_slice rfl rfl Ty.sl_182 Ty.sz_22 (by omega) (by omega)) ?_))))); refine gp (r_ld1o rfl Ty.row_22 (hra 0 _ rfl) hA) ?_; refine zxa ?_; refine zxs ?_; refine zxm ?_; refine gp zln ?_; refine zxa ?_; refine zxs ?_; refine zxm ?_; refine zxm ?_; refine gp zhr ?_; refine gp (r_val (r_conv_int rfl Ty.un_3 Ty.un_5) (byte_shrI (j := 24) rfl (by decide))) ?_; refine zxm ?_; refine gp zhr ?_; refine gp (r_val (r_conv_int rfl Ty.un_3 Ty.un_5) (byte_shrI (j := 16) rfl (by decide))) ?_; refine zxm ?_; refine gp zhr ?_; refine gp (r_val (r_conv_int rfl Ty.un_3 Ty.un_5) (byte_shrI (j := 8) rfl (by decide))) ?_; refine zxm ?_; refine gp (r_val (r_conv_int rfl Ty.un_3 Ty.un_5) byte_nat) ?_; refine gl_bsls (vs := (part4 n').map B8) (wt0 rfl) Ty.sl_22 Ty.sz_5 Ty.zc_5 rfl rfl (one_B8 _) rfl rfl rfl ?_; intro b36; refine zc (fun _ => ?_) (c := fun w1 F1 F2 h1 h2 hd hst => hwrite_ok (b := part4 n') h1 (hK.mv hst.still) (rd_row (xs := (part4 n').map B8) h2 hd (by repeat (first | exact Pick.here | apply Pick.there))) hf.1 (by rw [hf.2]; simp only [part4, List.length_cons, List.length_nil]; omega))
   refine gnt (gc_region (zxm ?_)); refine zxm ?_; refine zc (fun _ => ?_) (c := fun w1 F1 F2 h1 h2 hd hst => hwrite_ok (b := y) h1 (hK.mv hst.still) (hrb.mv hst.still) (hWrite_rest _ _ _) (by rw [hWrite_len, hf.2]; simp only [part4, List.length_cons, List.length_nil]; omega))
   refine gl_nil (gx_block_normal (gx_then (gc_region (gp zad ?_)))); refine zxm ?_; refine gl_nil (zrd (k + 1) ?_ ?_)
   ·show n - (k + 1) < n - k
    omega
   ·rintro w' hw
    obtain ⟨F', hF', hst'⟩ := hw.sel (M := [HashR g _, blk b4 32 zD]) (by repeat (first | exact Sel.nil | (apply Sel.cons; · (repeat (first | exact Pick.here | apply Pick.there))))); refine ⟨F', stars_pure_mk (show k + 1 ≤ n by omega) ?_, hst'⟩
    rw [foldl_step _ _ _ hly]; rw [hny] at hF'; exact hF'
  ·have hk' : k = parts.length := by (try simp only at hc19); omega
   subst hk'; have hf := hFold Kc (parts.take parts.length) (hBeg Kc dom) (hWrite_rest _ _ _)
   rw [List.take_length] at hf; have hbl : (hBeg Kc dom).len = 1 := rfl
   refine gc_exit ?_; refine gx_then_exit ?_; refine gx_round_exit ?_; refine gx_block_hit ?_; refine gx_then (gsr (zxm ?_)); refine zc (fun _ => ?_) (c := fun w1 F1 F2 h1 h2 hd hst => hsum_ok h1 (hK.mv hst.still) (by rw [List.take_length]; exact hf.1) (by rw [List.take_length, hf.2]; omega))
   rw [List.take_length]; refine zal fun b9 => ?_; refine gl_storeN (wt0 rfl) rfl rfl Ty.sz_186 fnc_length (by repeat (first | exact Pick.here | apply Pick.there)) (by simp) (fnc_one fun _ => rfl) (updL_all (by simp [fnc_length])) ?_; refine zxs ?_; refine gp (r_slice_arr (l := 0) (h := 16) rfl Ty.arr_186 Ty.sz_5 rfl ⟨_, rfl⟩ (by decide) (by decide) (by decide)) ?_; refine gp (r_toArr rfl Ty.arr_32 (by decide)) ?_; refine gp (r_ldN rfl Ty.row_32 Ty.sz_32 (by repeat (first | exact Pick.here | apply Pick.there)) (hOf_cut Kc dom parts) (dc_length _)) ?_; refine gl_storeN (wt0 rfl) rfl rfl Ty.sz_32 (dc_length _) (by repeat (first | exact Pick.here | apply Pick.there)) (by decide) (dc_one _) (updL_all (by rw [dc_length]; rfl)) ?_; refine gnt (gc_ret (gx_retc rfl rfl (ldA Ty.row_32 Ty.sz_32) ?_)); exact ze ()
end
section
def refPad (b : List UInt8) : List UInt8 := b ++ 128 :: (List.replicate (padN b.length) 0 ++ lenBytes b.length)
def refSum (K : Nat → UInt32) (b : List UInt8) : List UInt8 := (List.range 32).map (outByte (takes K v0 (refPad b)).1)
theorem takes_append (K : Nat → UInt32) (v : V8) (a b : List UInt8) : takes K v (a ++ b) = takes K (takes K v a).1 ((takes K v a).2 ++ b) := by
  fun_induction takes K v a with
  | case1 v a h ih =>
    rw [takes.eq_1 K v (a ++ b), dif_pos (by simp; omega), List.take_append_of_le_length h, List.drop_append_of_le_length h]
    exact ih
  | case2 v a h => rfl
theorem takes_mod (K : Nat → UInt32) (v : V8) (a : List UInt8) : (takes K v a).2.length % 64 = a.length % 64 := by
  fun_induction takes K v a with
  | case1 v a h ih => rw [ih, List.length_drop]; omega
  | case2 v a h => rfl
def HAll (K : Nat → UInt32) (s : HS) (b : List UInt8) : Prop := takes K v0 b = (s.v, s.rest) ∧ s.len = b.length
theorem HAll.nil (K : Nat → UInt32) : HAll K hs0 [] := ⟨by rw [takes.eq_1, dif_neg (by simp)]; rfl, rfl⟩
theorem HAll.write {K : Nat → UInt32} {s : HS} {a : List UInt8} (h : HAll K s a) (b : List UInt8) : HAll K (hWrite K s b) (a ++ b) := by
  refine ⟨?_, ?_⟩
  · rw [takes_append, h.1]; rfl
  · simp [hWrite, h.2]
theorem HAll.sum {K : Nat → UInt32} {s : HS} {a : List UInt8} (h : HAll K s a) : hSum K s = refSum K a := by
  have hm : padN s.rest.length = padN a.length := by
    have e : s.rest.length % 64 = a.length % 64 := by
      have := takes_mod K v0 a
      rw [h.1] at this
      exact this
    unfold padN; rw [e]
  have e : takes K s.v (padded s) = takes K v0 (refPad a) := by
    rw [refPad, takes_append, h.1, padded, hm, h.2]
  rw [hSum, refSum, e]
end
section
instance {n : Nat} {x : Value} : Len (List.replicate n x) n := ⟨List.length_replicate⟩
theorem byte_sh56 {n : Int} {k : Nat} {i : Int} (hi : i = 56 - 8 * (k : Int)) (hk : k < 8) : Value.int .u8 (IntKind.u8.wrap (n.fdiv (2 ^ (min i.toNat IntKind.i64.bits)))) = B8 (byteAt n (7 - k)) := by
  have e : i = 8 * (((8 : Nat) : Int) - 1 - k) := by omega
  have h := byte_shr (n := n) (wd := 8) (k := k) rfl hk (by decide)
  rw [show 8 - 1 - k = 7 - k by omega] at h
  rw [e]; exact h
theorem range_succ_map {α : Type} (f : Nat → α) (k : Nat) : (List.range (k + 1)).map f = (List.range k).map f ++ [f k] := by simp [List.range_succ]
theorem map_B8_snoc (l : List UInt8) (x : UInt8) : (l ++ [x]).map B8 = l.map B8 ++ [B8 x] := by simp
theorem take_snoc {l : List UInt8} {k : Nat} (h : k < l.length) : l.take (k + 1) = l.take k ++ [l.getD k 0] := by
  rw [List.take_add_one]; simp [List.getD, List.getElem?_eq_getElem h]
theorem row_byte {r : List UInt8} {e j : Nat} (he : e = j) (hj : j < r.length) : (r.map B8)[e]? = some (B8 (r.getD j 0)) := by
  subst he; rw [List.getElem?_map, List.getElem?_eq_getElem hj]; simp [List.getD, List.getElem?_eq_getElem hj]
attribute [local irreducible] Gl Gc Gx Gs Runs Wt
theorem number9_ok {w : World} {F : Nat → Prop} {n : Int} (h : stars [] w F) :
    Calls Tryz.prog 81 #[.int .i64 n] w (Post w F (fun r : Option Addr × Nat => .slice r.1 8 r.2) (fun r => [rowR 5 1 r.1 8 r.2 ((beN n 8).map B8)])) := by
 refine g_enter (env := [(0, .int .i64 n)]) Tryz.func81 rfl h Tryz.ntmps81 rfl rfl ?_; refine gsr (zxa ?_); refine zxs ?_; refine zxa ?_; refine gnt (gc_seq (gsr (zxa ?_))); refine gnt (gc_block (gc_loop (α := Nat × Option Addr × Nat) (fun x => [pureR (x.1 ≤ 8), rowR 5 1 x.2.1 x.1 x.2.2 (((List.range x.1).map fun j => byteAt n (7 - j)).map B8)]) (fun x => [(3, .slice x.2.1 x.1 x.2.2), (4, .int .i64 (56 - 8 * (x.1 : Int)))]) [5, 6, 7, 8, 9, 10, 11, 12, 13, 14, 15] (fun x => 8 - x.1) (0, none, 0) ?_ ?_ ?_))
 ·refine env_start (by kernel_rfl)
 ·exact fun w' hw => zlp (Nat.zero_le _) (by repeat (first | exact Sel.nil | (apply Sel.cons; · (repeat (first | exact Pick.here | apply Pick.there))))) w' hw.rowNil
 ·intro x u; obtain ⟨k, a, c⟩ := x; refine gc_pureR (fun hk => ?_)
  replace hk : k ≤ 8 := hk
  refine gc_seq (gsr (zxm ?_)); refine gp zge ?_; refine gnt (gif rfl (fun hc6 => ?_) (fun hc6 => ?_))
  ·try simp only at hc6
   have hk' : k < 8 := by omega
   refine gc_skip (gx_then (gc_seq (gc_block (gc_region (zxm ?_))))); refine zxm ?_; refine zxm ?_; refine gp zhr ?_; refine gp (r_val zci (byte_sh56 rfl hk')) ?_; refine ze1 fun b14 => ?_; refine zapo fun a15 c15 => ?_; refine zxa ?_; refine gl_nil (gx_block_normal (gx_then (gc_region (zxm ?_)))); refine gp (r_int zsb (show 56 - 8 * (k : Int) - 8 = 56 - 8 * ((k + 1 : Nat) : Int) by omega)) ?_; refine zxa ?_; refine gl_nil (zrd ((k + 1, a15, c15)) ?_ ?_)
   ·show 8 - (k + 1) < 8 - k
    omega
   ·exact zlq (show k + 1 ≤ 8 by omega) (by rw [range_succ_map, map_B8_snoc])
  ·try simp only at hc6
   have hk' : k = 8 := by omega
   subst hk'; refine gc_exit ?_; refine gx_then_exit ?_; refine gx_round_exit ?_; refine gx_block_hit ?_; refine gx_then (gsr (zxm ?_)); refine zxa ?_; refine gnt (gc_ret (gx_ret1 rfl (by conv => lhs; whnf) ?_)); exact ze (a, c)
end
section
attribute [local irreducible] Gl Gc Gx Gs Runs Wt
theorem rnum_ok {w : World} {F : Nat → Prop} {TE : Nat} {ea : Nat → Addr} {g : Nat} {σ : RSt} (h : stars [RdrR TE ea g σ] w F) {es : List Nat} [Has es 1] [Has es 2] (hE : GErr es w (fun k => ¬ F k) TE ea) {wd : Nat} (h1 : 1 ≤ wd) (h7 : wd ≤ 7) :
    Calls Tryz.prog 66 #[.pointer (some ⟨g, 0, none⟩), .int .i64 (wd : Int)] w (Post w F (fun x : Nat => .int .i64 (x : Int)) (fun x => [pureR (Ag (pNum wd) σ (x : Int) ∧ x < 256 ^ wd), RdrR TE ea g (rstep (pNum wd) σ)])) := by
 refine g_enter (env := [(0, .pointer (some ⟨g, 0, none⟩)), (1, .int .i64 (wd : Int))]) Tryz.func66 rfl h Tryz.ntmps66 rfl rfl ?_; refine gsr (zxa ?_); refine gnt (gc_seq (gsr (zxm ?_))); refine gp (r_bool zlt (decide_eq_false (by omega))) ?_; refine zxm ?_; refine gq zmv ?_; refine gq (r_bool zgt (decide_eq_false (by omega))) ?_; refine gp zpk ?_; refine gnt (gc_condF rfl rfl ?_); refine gc_skip (gx_then (gc_seq (gc_join (α := Unit) (fun z => [RdrR TE ea g σ]) (fun z => [(45, .bool false)]) [19, 20, 21, 22, 23, 24, 25, 26, 27, 28, 29, 30, 31, 32, 33, 34, 35, 36, 37, 38, 39, 40, 41, 42, 43, 44] ?_ ?_)))
 ·by_cases he : errOf σ = 0
  ·refine gc_region (zxm ?_); refine gp znc ?_; refine gp zfa ?_; refine gp zfa ?_; refine gp r_lde ?_; refine gp (r_bool (c := true) (r_eqnil rfl (by kernel_rfl)) (decide_eq_true he)) ?_; refine zxm ?_; refine gq zmv ?_; refine gq (r_bool zei (decide_eq_false (by omega))) ?_; refine gp zpk ?_; refine zxm ?_; refine gn ?_; refine gn ?_; refine gn ?_; refine gn ?_; refine gn ?_; refine gn ?_; refine gp zpk ?_; refine zxm ?_; refine gn ?_; refine gn ?_; refine gn ?_; refine gn ?_; refine gn ?_; refine gn ?_; refine gn ?_; refine gp zpk ?_; refine gl_nil (zjn (()) ?_)
   ·exact zsel
  ·refine gc_region (zxm ?_); refine gp znc ?_; refine gp zfa ?_; refine gp zfa ?_; refine gp r_lde ?_; refine gp (r_bool (c := false) (r_eqnil rfl (by kernel_rfl)) (decide_eq_false he)) ?_; refine zxm ?_; refine gn ?_; refine gn ?_; refine gp zpk ?_; refine zxm ?_; refine gn ?_; refine gn ?_; refine gn ?_; refine gn ?_; refine gn ?_; refine gn ?_; refine gp zpk ?_; refine zxm ?_; refine gn ?_; refine gn ?_; refine gn ?_; refine gn ?_; refine gn ?_; refine gn ?_; refine gn ?_; refine gp zpk ?_; refine gl_nil (zjn (()) ?_)
   ·exact zsel
 ·intro z u; refine gc_condF rfl rfl ?_; refine gc_skip (gx_then (gsr (zxa ?_))); refine gnt (gc_seq (gsr (zxm ?_))); refine zxm ?_; refine zc ?_ (c := fun w1 F1 F2 h1 h2 hd hst => take_ok' (n := wd) h1 (hE.mv hst.still))
  rintro ⟨a53, c53, l⟩
  refine gl_pureR (fun h53 => ?_)
  obtain ⟨hag, hlc, hlw⟩ := h53; replace hag : Ag (pTake wd) σ l := hag
  replace hlw : l.length ≤ wd := hlw
  refine gp zln ?_; refine zxm ?_; refine gnt (gc_block (gc_loop (α := Nat) (fun k => [pureR (k ≤ l.length), RdrB TE ea g (rstep (pTake wd) σ) a53 l]) (fun k => [(55, .int .i64 (k : Int)), (5, .int .i64 ((valN (l.take k) : Nat) : Int))]) [7, 56, 57, 58, 59, 60, 61, 62, 63, 64] (fun k => l.length - k) 0 ?_ ?_ ?_))
  ·refine env_start (by kernel_rfl)
  ·exact zlp (by first | exact Nat.zero_le _ | omega)
  ·intro k u; refine gc_pureR (fun hk => ?_)
   replace hk : k ≤ l.length := hk
   refine gsr (gp zlt ?_); refine gnt (gc_seq (gif rfl (fun hc56 => ?_) (fun hc56 => ?_)))
   ·try simp only at hc56
    have hk' : k < l.length := by omega
    refine gc_fact (p := ∃ g o, a53 = some ⟨g, o, none⟩) (fun w hw => (by obtain ⟨g, o, e, _⟩ := (hw.rdB (l := l) (a2 := a53) (by repeat (first | exact Pick.here | apply Pick.there))).2.2 (by omega); exact ⟨g, o, e⟩)) (fun ha => ?_)
    obtain ⟨g6, o6, rfl⟩ := ha; have hv := valN_lt (l.take k)
    have hp : 256 ^ (l.take k).length ≤ 256 ^ 6 := Nat.pow_le_pow_right (by decide) (by rw [List.length_take]; omega)
    have h56 : (256 : Nat) ^ 6 = 281474976710656 := by decide
    have hbl := (l.getD k 0).toNat_lt
    refine gc_skip (gx_then (gc_seq (gc_block (gsr (gp zia ?_))))); refine gp (r_ldb (hi := by omega) (hk := hk')) ?_; refine zxa ?_; refine gnt (gc_region (zxm ?_)); refine gp (r_int zhl (show IntKind.i64.wrap (((valN (l.take k) : Nat) : Int) * 2 ^ (min (8 : Int).toNat IntKind.i64.bits)) = ((valN (l.take k) * 256 : Nat) : Int) by rw [show (2 : Int) ^ (min (8 : Int).toNat IntKind.i64.bits) = 256 from rfl, wrap_i64 (by omega) (by omega)]; omega)) ?_; refine zxm ?_; refine gp (r_int zci (wrap_i64 (by omega) (by omega))) ?_; refine gp (r_int (j := ((valN (l.take (k + 1)) : Nat) : Int)) zbt ((or_byte (by omega)).trans (by rw [take_snoc hk', valN_snoc]))) ?_; refine zxa ?_; refine gl_nil (gx_block_normal (gx_then (gc_region (gp zad ?_)))); refine zxm ?_; refine gl_nil (zrd (k + 1) ?_ ?_)
    ·show l.length - (k + 1) < l.length - k
     omega
    ·exact zlp (show k + 1 ≤ l.length by omega)
   ·try simp only at hc56
    have hk' : k = l.length := by omega
    subst hk'; have hv := valN_lt l
    have hp : 256 ^ l.length ≤ 256 ^ wd := Nat.pow_le_pow_right (by decide) hlw
    refine gc_exit ?_; refine gx_then_exit ?_; refine gx_round_exit ?_; refine gx_block_hit ?_; refine gx_then (gsr (zxm ?_)); refine zxa ?_; refine gnt (gc_ret (gx_ret1 rfl (by conv => lhs; whnf) ?_)); exact fun w' hw => ⟨valN l, congrArg (fun m : List UInt8 => Ending.returned (.int .i64 (valN m : Int))) List.take_length, St.pureI ⟨ag_num hag, Nat.lt_of_lt_of_le hv hp⟩ (by rw [rstep_num hag]; exact (hw.sel (M := [RdrB TE ea g _ _ l]) (by repeat (first | exact Sel.nil | (apply Sel.cons; · (repeat (first | exact Pick.here | apply Pick.there)))))).rrw)⟩
end
section
theorem RdMsg.three {w : World} {A : Nat → Prop} {cs : List Value} {m : Msg} (h : RdMsg w A cs m) : m.chg.blocks.length = 3 := by
  obtain ⟨v, t, p, r, c, h1, h2, h3, h4, h5, h6⟩ := h; obtain ⟨css, q, h1, h2, h3, h4, h5, h6⟩ := h6; exact h4
theorem RdList.single {α : Type} {rd : List Value → α → Prop} {w : World} {A : Nat → Prop} {size : Nat} {a : Option Addr} {cs : List Value} {x : α} (hr : RdRow w A size a 1 cs) (hx : rd cs x) : RdList rd w A size a 1 [x] :=
  ⟨[cs], by simpa using hr, by simpa using hr.1, rfl, fun i c y h1 h2 => by
    cases i with
    | zero => simp at h1 h2; subst h1; subst h2; exact hx
    | succ i => simp at h1⟩
theorem rd_le {L L' : List Res} {w : World} {F2 : Nat → Prop} {e size n c : Nat} {a : Option Addr} {xs : List Value} (h2 : stars L w F2) (hp : Pick L (rowR e size a n c xs) L') : n ≤ c := by
  obtain ⟨F', h', hs⟩ := stars_pick hp h2; exact h'.2.1
attribute [local irreducible] Gl Gc Gx Gs Runs Wt
end
section
theorem Sel.head {r : Res} {L M L' : List Res} (h : Sel L M L') : Sel (r :: L) M (r :: L') := by
  induction h with
  | nil => exact Sel.nil
  | cons p _ ih => exact Sel.cons (Pick.there p) ih
section
variable {P : Program} {w0 : World} {F0 : Nat → Prop} {K L : List Res} {Q : Exit → Act → World → Prop} {n : Fm} {env : Env} {ops : Array Oper} {listed : Array Bool} {fuel z : Nat}
end
end
section
section rows
variable {α : Type} [DecidableEq α]
def atK (k : α) : List (α × Value) → Nat → Option (Nat × Value)
  | [], _ => none
  | p :: l, i => if k = p.1 then some (i, p.2) else atK k l (i + 1)
def getK (k : α) (l : List (α × Value)) : Option Value := (atK k l 0).map (·.2)
def putK (k : α) (v : Value) : List (α × Value) → List (α × Value)
  | [] => [(k, v)]
  | p :: l => if k = p.1 then (k, v) :: l else p :: putK k v l
def delK (k : α) : List (α × Value) → List (α × Value)
  | [] => []
  | p :: l => if k = p.1 then l else p :: delK k l
def encK (K : α → Value) (l : List (α × Value)) : List (Value × Value) := l.map fun p => (K p.1, p.2)
theorem encK_length (K : α → Value) (l : List (α × Value)) : (encK K l).length = l.length := by simp [encK]
theorem atK_none {k : α} {v : Value} : ∀ {l : List (α × Value)} {i : Nat}, atK k l i = none → putK k v l = l ++ [(k, v)] ∧ delK k l = l
  | [], _, _ => ⟨rfl, rfl⟩
  | p :: l, i, h => by
    simp only [atK] at h
    split at h
    · cases h
    · rename_i hne
      have ih := atK_none (v := v) h
      simp only [putK, delK, if_neg hne, ih.1, ih.2, List.cons_append, and_self]
theorem atK_some {k : α} {v u : Value} : ∀ {l : List (α × Value)} {i j : Nat}, atK k l i = some (j, u) → ∃ m, j = i + m ∧ l[m]? = some (k, u) ∧ putK k v l = l.set m (k, v) ∧ delK k l = l.eraseIdx m
  | [], _, _, h => by cases h
  | p :: l, i, j, h => by
    simp only [atK] at h
    split at h
    · rename_i he
      simp only [Option.some.injEq, Prod.mk.injEq] at h
      obtain ⟨rfl, rfl⟩ := h
      refine ⟨0, rfl, ?_, ?_, ?_⟩
      · simp [he]
      · simp only [putK, if_pos he, List.set_cons_zero]
      · simp only [delK, if_pos he, List.eraseIdx_cons_zero]
    · rename_i hne
      obtain ⟨m, h1, h2, h3, h4⟩ := atK_some (v := v) h
      refine ⟨m + 1, by omega, by simpa using h2, ?_, ?_⟩
      · simp only [putK, if_neg hne, h3, List.set_cons_succ]
      · simp only [delK, if_neg hne, h4, List.eraseIdx_cons_succ]
end rows
def kvs (es : Array MapEntry) : List (Value × Value) := es.toList.map fun e => (e.key, e.val)
theorem kvs_length (es : Array MapEntry) : (kvs es).length = es.size := by simp [kvs]
def mapR (g : Nat) (l : List (Value × Value)) : Res where
  on w F := (∀ k, F k ↔ k = g) ∧ ∃ es clock, w.heap[g]? = some (.map es clock) ∧ kvs es = l ∧ (∀ x ∈ es.toList, x.born < clock) ∧ (es.toList.map (fun e : MapEntry => e.born)).Nodup
  loc := fun ⟨hF, es, clock, h, r⟩ hk => ⟨hF, es, clock, (hk g ((hF g).2 rfl)).trans h, r⟩
  ok := fun ⟨hF, es, clock, h, _⟩ k hk => by
    rw [(hF k).1 hk]
    exact ⟨_, h, trivial⟩
def itR (b g : Nat) (l left : List (Value × Value)) (last : Option (Value × Value)) : Res where
  on w F := (∀ k, F k ↔ k = b ∨ k = g) ∧ b ≠ g ∧ ∃ es clock since c0 seen, w.heap[g]? = some (.map es clock) ∧ w.heap[b]? = some (.mapIter (some g) since seen c0) ∧ kvs es = l ∧ (∀ x ∈ es.toList, x.born < clock) ∧ (es.toList.map (fun e : MapEntry => e.born)).Nodup ∧
    (∀ x ∈ es.toList, x.born < since) ∧ since ≤ c0 ∧ since ≤ clock ∧ kvs (es.filter fun e => !seen.contains e.born) = left ∧ ∀ p, last = some p → c0 = clock ∧ ∃ e, e ∈ es.toList ∧ seen.back? = some e.born ∧ (e.key, e.val) = p
  loc := fun ⟨hF, hne, es, clock, since, c0, seen, h, hb, r⟩ hk => ⟨hF, hne, es, clock, since, c0, seen, (hk g ((hF g).2 (.inr rfl))).trans h, (hk b ((hF b).2 (.inl rfl))).trans hb, r⟩
  ok := fun ⟨hF, _, es, clock, since, c0, seen, h, hb, _⟩ k hk => by
    rcases (hF k).1 hk with rfl | rfl
    · exact ⟨_, hb, trivial⟩
    · exact ⟨_, h, trivial⟩
class KeyT (P : Program) (T : TypeId) {α : Type} [DecidableEq α] (K : α → Value) : Prop where
  check : ∀ (w : World) (b : Bool) (k : α), (Instr.checkKey b 10000 T (K k)).run P w = .ok () w
  find : ∀ (w : World) (k : α) (es : List MapEntry) (l : List (α × Value)), es.map (fun e => (e.key, e.val)) = encK K l → (Instr.findKey T (K k) es).run P w = .ok (atK k l 0) w
  stays : ∀ (w : World) (k : α), (Instr.keyThatStays (K k) (K k)).run P w = .ok (K k) w
theorem findNow_int {ty : TypeDesc} {kd : IntKind} (hty : ty = .int kd) (k : Int) : ∀ (es : List MapEntry) (l : List (Int × Value)) (i : Nat), es.map (fun e => (e.key, e.val)) = encK (Value.int kd) l → Instr.findNow ty (.int kd k) es i = some (atK k l i)
  | [], l, i, h => by
    cases l with
    | nil => rfl
    | cons p l => simp [encK] at h
  | e :: es, l, i, h => by
    cases l with
    | nil => simp [encK] at h
    | cons p l =>
      simp only [encK, List.map_cons, List.cons.injEq, Prod.mk.injEq] at h
      obtain ⟨⟨h1, h2⟩, h3⟩ := h
      subst hty
      simp only [Instr.findNow, h1, Instr.sameNow, if_pos, atK, h2]
      by_cases hk : k = p.1
      · simp [hk]
      · simp only [hk, if_false, beq_eq_false_iff_ne.2 hk]
        exact findNow_int rfl k es l (i + 1) h3
theorem keyT_int {P : Program} {T : TypeId} {kd : IntKind} (h : P.underlying T = some (.int kd)) : KeyT P T (Value.int kd) where
  check w b k := by
    rw [show (10000 : Nat) = 9999 + 1 from rfl]
    exact MapKept.run_checkKey (d := .int kd) h (by rfl) b 9999
  find w k es l he := MapKept.run_findKey h (findNow_int rfl k es l 0 he)
  stays w k := by simp [Instr.keyThatStays, Instr.sameBits]
section
variable {P : Program} {w0 : World} {F0 : Nat → Prop} {L : List Res}
theorem St.pushR {w : World} {o : Obj} {r : Res} (hs : St w0 F0 L w) (hr : ∀ w' : World, w'.heap[w.heap.size]? = some o → r.on w' (fun k => k = w.heap.size)) : St w0 F0 (r :: L) { w with heap := w.heap.push o } := by
  obtain ⟨F, hF, hst⟩ := hs
  refine ⟨fun k => k = w.heap.size ∨ F k, ⟨fun k => k = w.heap.size, F, hr _ (by simp), ?_, fun k => Iff.rfl, ?_⟩, ?_⟩
  · exact stars_loc hF fun k hk => by
      have := stars_lt hF k hk
      simp [Array.getElem?_push, Nat.ne_of_lt this]
  · rintro k rfl hk
    exact absurd (stars_lt hF _ hk) (Nat.lt_irrefl _)
  · have hsz := hst.size
    refine ⟨hst.os, hst.tape, hst.output, by simp; omega, fun k hk hn => ?_, ?_⟩
    · rw [← hst.block k hk hn]
      show (w.heap.push _)[k]? = _
      rw [Array.getElem?_push, if_neg (by omega)]
    · rintro k (rfl | hk)
      · exact .inr hsz
      · exact hst.own k hk
theorem St.setR {w : World} {g : Nat} {o' : Obj} {r r' : Res} {L' : List Res} (hs : St w0 F0 L w) (hp : Pick L r L') (hg : ∀ F, r.on w F → F g ∧ g < w.heap.size)
    (hr : ∀ (w' : World) F, r.on w F → w'.heap[g]? = some o' → (∀ k, k ≠ g → w'.heap[k]? = w.heap[k]?) → r'.on w' F) : St w0 F0 (r' :: L') { w with heap := w.heap.setIfInBounds g o' } := by
  obtain ⟨F, hF, hst⟩ := hs
  obtain ⟨F1, F2, h1, h2, hE, hd⟩ := hp.stars hF
  obtain ⟨hg1, hlt⟩ := hg F1 h1
  refine ⟨F, ⟨F1, F2, hr _ F1 h1 (by simp [hlt]) (fun k hk => by simp [Array.getElem?_setIfInBounds, Ne.symm hk]), ?_, hE, hd⟩, ?_⟩
  · refine stars_loc h2 fun k hk => ?_
    have : ¬ g = k := fun e => hd k (e ▸ hg1) hk
    simp [Array.getElem?_setIfInBounds, this]
  · refine ⟨hst.os, hst.tape, hst.output, by simpa using hst.size, fun k hk hn => ?_, hst.own⟩
    rw [← hst.block k hk hn]
    have : ¬ g = k := fun e => (hst.old hk hn).2 ((hE k).2 (.inl (e ▸ hg1)))
    simp [Array.getElem?_setIfInBounds, this]
theorem St.mapAt {w : World} {g : Nat} {l : List (Value × Value)} {L' : List Res} (hs : St w0 F0 L w) (hp : Pick L (mapR g l) L') : ∃ es clock, w.heap[g]? = some (.map es clock) ∧ kvs es = l ∧ (∀ x ∈ es.toList, x.born < clock) ∧ (es.toList.map (·.born)).Nodup := by
  obtain ⟨F, hF, _⟩ := hs
  obtain ⟨F1, h1, _⟩ := stars_pick hp hF
  exact h1.2
variable {Q : Exit → Act → World → Prop} {n : Fm} {env : Env} {ops : Array Oper} {rest : List Oper}
variable {d : Option Tmp} {t : Tmp} {ty : TypeId} {pos : String} {af : Array Edge} {gd : Option (Nat × Bool)}
theorem gl_mkMap {T : TypeId} (hw : Wt ops n env ⟨some t, .makeMap T none, ty, pos, af, gd⟩ true) (k : ∀ g, Gl P w0 F0 (mapR g [] :: L) ops Q rest n ((t, .map (some g)) :: env)) : Gl P w0 F0 L ops Q (⟨some t, .makeMap T none, ty, pos, af, gd⟩ :: rest) n env := by
  refine gl_effx (α := Nat) (L' := fun g => mapR g [] :: L) (v := fun g => .map (some g)) hw (fun w hst => ?_) k
  refine ⟨w.heap.size, { w with heap := w.heap.push (.map #[] 0) }, ?_, hst.pushR fun w' h => ⟨fun k => Iff.rfl, #[], 0, h, rfl, by simp, by simp⟩⟩
  simp [execOp, Instr.makeMap, newObj, Sem.run]
variable {α : Type} [DecidableEq α] {K : α → Value}
theorem r_look {x y : Operand} {T kt e g : Nat} {l : List (α × Value)} {L' : List Res} {z : Value} {key : α} {b : Bool} [KeyT P kt K] (hx : ev n env x = .map (some g)) (hy : ev n env y = K key) (hm : P.underlying T = some (.map kt e)) (hz : zeroT P e = some z) (hp : Pick L (mapR g (encK K l)) L') :
    Runs P w0 F0 L n env ⟨d, .lookup T x y b, ty, pos, af, gd⟩ (if b then .tuple #[(getK key l).getD z, .bool (getK key l).isSome] else (getK key l).getD z) := fun w hst => by
  obtain ⟨es, clock, hh, hk, _⟩ := hst.mapAt hp
  have hf := KeyT.find (P := P) (T := kt) (K := K) w key es.toList l hk
  have hc := KeyT.check (P := P) (T := kt) (K := K) w es.isEmpty key
  simp only [execOp, hx, hy, Instr.lookup, Sem.run_bind, run_underlying hm, Result.andThen_ok, MapKept.run_getObj_map hh, Sem.run_pure, hc, hf, getK]
  cases atK key l 0 with
  | none => simp only [Sem.run_bind, run_zeroT hz, Result.andThen_ok, Sem.run_pure]; cases b <;> rfl
  | some p => simp only [Sem.run_pure, Result.andThen_ok]; cases b <;> rfl
theorem kvs_modify {es : Array MapEntry} {m : Nat} {k v : Value} : kvs (es.modify m fun e => { e with key := k, val := v }) = (kvs es).set m (k, v) := by
  apply List.ext_getElem?
  intro i
  simp only [kvs, List.getElem?_map, Array.getElem?_toList, Array.getElem?_modify, List.getElem?_set, List.length_map, Array.length_toList]
  by_cases h : m = i
  · subst h
    by_cases hi : m < es.size
    · simp [hi]
    · simp [hi]
  · simp [h]
theorem born_modify {es : Array MapEntry} {m : Nat} {k v : Value} : (es.modify m fun e => { e with key := k, val := v }).toList.map (·.born) = es.toList.map (·.born) := by
  apply List.ext_getElem?
  intro i
  simp only [List.getElem?_map, Array.getElem?_toList, Array.getElem?_modify]
  by_cases h : m = i
  · subst h; cases es[m]? <;> simp
  · simp [h]
theorem all_born {es es' : Array MapEntry} {clock : Nat} (h : ∀ x ∈ es.toList, x.born < clock) (e : es'.toList.map (·.born) = es.toList.map (·.born)) : ∀ x ∈ es'.toList, x.born < clock := fun x hx => by
  have : x.born ∈ es.toList.map (·.born) := by rw [← e]; exact List.mem_map.2 ⟨x, hx, rfl⟩
  obtain ⟨y, hy, h2⟩ := List.mem_map.1 this
  rw [← h2]; exact h y hy
theorem encK_set {l : List (α × Value)} {m : Nat} {k : α} {v : Value} : encK K (l.set m (k, v)) = (encK K l).set m (K k, v) := by simp [encK, List.map_set]
theorem encK_append {l : List (α × Value)} {k : α} {v : Value} : encK K (l ++ [(k, v)]) = encK K l ++ [(K k, v)] := by simp [encK]
theorem encK_get {l : List (α × Value)} {m : Nat} {k : α} {v : Value} (h : l[m]? = some (k, v)) : (encK K l)[m]? = some (K k, v) := by simp [encK, h]
theorem gl_put {x y u : Operand} {T kt e g : Nat} {l : List (α × Value)} {L' : List Res} {key : α} {v : Value} [KeyT P kt K] (hw : Wt ops n env ⟨d, .mapUpdate T x y u, ty, pos, af, gd⟩ true) (hx : ev n env x = .map (some g)) (hy : ev n env y = K key) (hu : ev n env u = v)
    (hm : P.underlying T = some (.map kt e)) (hp : Pick L (mapR g (encK K l)) L') (k : Gl P w0 F0 (mapR g (encK K (putK key v l)) :: L') ops Q rest n (pu d undef env)) : Gl P w0 F0 L ops Q (⟨d, .mapUpdate T x y u, ty, pos, af, gd⟩ :: rest) n env :=
  gl_skip hw (fun w hst => by
    obtain ⟨es, clock, hh, hk, hb, hn⟩ := hst.mapAt hp
    have hlt : g < w.heap.size := (Array.getElem?_eq_some_iff.1 hh).1
    have hf := KeyT.find (P := P) (T := kt) (K := K) w key es.toList l hk
    have hc := KeyT.check (P := P) (T := kt) (K := K) w false key
    cases ha : atK key l 0 with
    | none =>
      refine ⟨{ w with heap := w.heap.setIfInBounds g (.map (es.push ⟨K key, v, clock⟩) (clock + 1)) }, ?_, ?_⟩
      · simp only [execOp, hx, hy, hu, Instr.mapUpdate, Sem.run_bind, run_underlying hm, Result.andThen_ok, MapKept.run_getObj_map hh, hc, hf, ha, MapKept.run_setObj_map _ hh]
        rfl
      · refine hst.setR hp (fun F h => ⟨(h.1 g).2 rfl, hlt⟩) (fun w' F h hg' _ => ⟨h.1, _, _, hg', ?_, ?_, ?_⟩)
        · rw [(atK_none (v := v) ha).1, encK_append, ← hk]; simp [kvs]
        · intro z hz
          simp only [Array.toList_push, List.mem_append, List.mem_singleton] at hz
          rcases hz with hz | rfl
          · have := hb z hz; omega
          · exact Nat.lt_succ_self _
        · simp only [Array.toList_push, List.map_append, List.map_cons, List.map_nil]
          refine List.nodup_append.2 ⟨hn, by simp, ?_⟩
          intro a ha' b hb' e
          obtain ⟨z, hz, rfl⟩ := List.mem_map.1 ha'
          simp only [List.mem_singleton] at hb'
          have := hb z hz
          omega
    | some p =>
      obtain ⟨j, u0⟩ := p
      obtain ⟨m, rfl, h2, h3, _⟩ := atK_some (v := v) ha
      rw [Nat.zero_add] at ha
      have hkey : ((es[m]?).map (·.key)).getD (K key) = K key := by
        have := encK_get (K := K) h2
        rw [← hk, kvs, List.getElem?_map, Array.getElem?_toList] at this
        cases he : es[m]? with
        | none => rfl
        | some e' => rw [he] at this; simp at this; simp [this.1]
      refine ⟨{ w with heap := w.heap.setIfInBounds g (.map (es.modify m fun e => { e with key := K key, val := v }) clock) }, ?_, ?_⟩
      · simp only [execOp, hx, hy, hu, Instr.mapUpdate, Sem.run_bind, run_underlying hm, Result.andThen_ok, MapKept.run_getObj_map hh, hc, hf, ha, hkey, KeyT.stays (P := P) (T := kt) (K := K), MapKept.run_setObj_map _ hh]
        rfl
      · refine hst.setR hp (fun F h => ⟨(h.1 g).2 rfl, hlt⟩) (fun w' F h hg' _ => ⟨h.1, _, _, hg', ?_, ?_, ?_⟩)
        · rw [kvs_modify, h3, encK_set, ← hk]
        · exact all_born hb born_modify
        · rw [born_modify]; exact hn) k
theorem gl_clear {x : Operand} {T kt e g : Nat} {l : List (Value × Value)} {L' : List Res} (hw : Wt ops n env ⟨d, .call ⟨.builtin .clear, #[x], #[T]⟩, ty, pos, af, gd⟩ true) (hx : ev n env x = .map (some g)) (hm : P.underlying T = some (.map kt e)) (hp : Pick L (mapR g l) L')
    (k : Gl P w0 F0 (mapR g [] :: L') ops Q rest n (pu d (.tuple #[]) env)) : Gl P w0 F0 L ops Q (⟨d, .call ⟨.builtin .clear, #[x], #[T]⟩, ty, pos, af, gd⟩ :: rest) n env :=
  gl_eff hw (fun w hst => by
    obtain ⟨es, clock, hh, hk, _⟩ := hst.mapAt hp
    have hlt : g < w.heap.size := (Array.getElem?_eq_some_iff.1 hh).1
    refine ⟨{ w with heap := w.heap.setIfInBounds g (.map #[] clock) }, ?_, hst.setR hp (fun F h => ⟨(h.1 g).2 rfl, hlt⟩) (fun w' F h hg' _ => ⟨h.1, _, _, hg', rfl, by simp, by simp⟩)⟩
    simp only [execOp, resolve, invoke, builtin, Builtin.clear_, hx]
    simp [run_underlying hm, MapKept.run_getObj_map hh, MapKept.run_setObj_map _ hh, hx, Builtin.clear_]) k
theorem St.pushR2 {w : World} {o : Obj} {r r' : Res} {L' : List Res} (hs : St w0 F0 L w) (hp : Pick L r L') (hr : ∀ (w' : World) F, r.on w F → w'.heap[w.heap.size]? = some o → (∀ k, k < w.heap.size → w'.heap[k]? = w.heap[k]?) → r'.on w' (fun k => k = w.heap.size ∨ F k)) :
    St w0 F0 (r' :: L') { w with heap := w.heap.push o } := by
  obtain ⟨F, hF, hst⟩ := hs
  have hlt := stars_lt hF
  obtain ⟨F1, F2, h1, h2, hE, hd⟩ := hp.stars hF
  have hold : ∀ k, k < w.heap.size → (w.heap.push o)[k]? = w.heap[k]? := fun k hk => by rw [Array.getElem?_push, if_neg (by omega)]
  refine ⟨fun k => k = w.heap.size ∨ F k, ⟨fun k => k = w.heap.size ∨ F1 k, F2, hr _ F1 h1 (by simp) hold, stars_loc h2 fun k hk => hold k (hlt k ((hE k).2 (.inr hk))), fun k => ?_, ?_⟩, ?_⟩
  · show (k = w.heap.size ∨ F k) ↔ ((k = w.heap.size ∨ F1 k) ∨ F2 k)
    rw [hE]; exact or_assoc.symm
  · rintro k (rfl | hk) h
    · exact absurd (hlt _ ((hE _).2 (.inr h))) (Nat.lt_irrefl _)
    · exact hd k hk h
  · have hsz := hst.size
    refine ⟨hst.os, hst.tape, hst.output, by simp; omega, fun k hk hn => ?_, ?_⟩
    · rw [← hst.block k hk hn]; exact hold k (by omega)
    · rintro k (rfl | hk)
      · exact .inr hsz
      · exact hst.own k hk
theorem filter_all {es : Array MapEntry} : es.filter (fun e => !(#[] : Array Nat).contains e.born) = es := by simp
theorem gl_range {x : Operand} {T kt e g : Nat} {l : List (Value × Value)} {L' : List Res} (hw : Wt ops n env ⟨some t, .range T x, ty, pos, af, gd⟩ true) (hx : ev n env x = .map (some g)) (hm : P.underlying T = some (.map kt e)) (hp : Pick L (mapR g l) L')
    (k : ∀ b, Gl P w0 F0 (itR b g l l none :: L') ops Q rest n ((t, .pointer (some ⟨b, 0, none⟩)) :: env)) : Gl P w0 F0 L ops Q (⟨some t, .range T x, ty, pos, af, gd⟩ :: rest) n env := by
  refine gl_effx (α := Nat) (L' := fun b => itR b g l l none :: L') (v := fun b => .pointer (some ⟨b, 0, none⟩)) hw (fun w hst => ?_) k
  obtain ⟨es, clock, hh, hk, hb, hn⟩ := hst.mapAt hp
  have hlt : g < w.heap.size := (Array.getElem?_eq_some_iff.1 hh).1
  refine ⟨w.heap.size, { w with heap := w.heap.push (.mapIter (some g) clock #[] clock) }, ?_, hst.pushR2 hp fun w' F h hnew hold => ⟨fun k => ?_, by omega, es, clock, clock, clock, #[], (hold g hlt).trans hh, hnew, hk, hb, hn, hb, Nat.le_refl _, Nat.le_refl _, by rw [filter_all]; exact hk, fun p hp => by cases hp⟩⟩
  · simp only [execOp, hx, Instr.range, Sem.run_bind, run_underlying hm, Result.andThen_ok, MapKept.run_getObj_map hh, Sem.run_pure]
    simp [newObj, Sem.run]
  · show (k = w.heap.size ∨ F k) ↔ _
    rw [h.1 k]
theorem St.drewR {w : World} (hs : St w0 F0 L w) : St w0 F0 L w.drew := by
  obtain ⟨F, hF, hst⟩ := hs
  exact ⟨F, stars_loc hF fun _ _ => rfl, ⟨hst.os, hst.tape, hst.output, hst.size, hst.block, hst.own⟩⟩
theorem choose_next (w : World) (m : Nat) (hm : 0 < m) : ∃ j w1, j < m ∧ (w1 = w ∨ w1 = w.drew) ∧ (choose (Question.mapNext m)).run P w = .ok j w1 := by
  by_cases hf : m ≤ 1
  · exact ⟨0, w, hm, .inl rfl, by simp [choose, Sem.run, Question.forced, hf]⟩
  · exact ⟨_, w.drew, Nat.mod_lt _ (by omega), .inr rfl, by
      simp only [choose, Sem.run, Question.forced, decide_eq_true_eq, hf, if_false, Question.cut]
      rfl⟩
theorem getObj_it {w : World} {r : Nat} {a : Option Nat} {b c : Nat} {s : Array Nat} (hb : w.heap[r]? = some (.mapIter a b s c)) : (getObj r).run P w = .ok (.mapIter a b s c) w := by simp [getObj, Sem.run, hb]
theorem setObj_it {w : World} {r : Nat} {a : Option Nat} {b c : Nat} {s : Array Nat} (o : Obj) (hb : w.heap[r]? = some (.mapIter a b s c)) : (setObj r o).run P w = .ok () { w with heap := w.heap.setIfInBounds r o } := by simp [setObj, Sem.run, hb]
theorem filter_split {p : MapEntry → Bool} {e : MapEntry} {A B l : List MapEntry} (hn : (l.map (fun e : MapEntry => e.born)).Nodup) (h : l.filter p = A ++ e :: B) : l.filter (fun x => p x && !(x.born == e.born)) = A ++ B := by
  have hs : (l.filter p).filter (fun x => !(x.born == e.born)) = A ++ B := by
    have hnf : ((l.filter p).map (fun e : MapEntry => e.born)).Nodup := hn.sublist ((List.filter_sublist).map _)
    rw [h] at hnf ⊢
    rw [List.map_append, List.map_cons] at hnf
    have h1 := List.nodup_append.1 hnf
    have h2 := List.nodup_cons.1 h1.2.1
    have hA : A.filter (fun x => !(x.born == e.born)) = A := List.filter_eq_self.2 fun x hx => by
      have := h1.2.2 x.born (List.mem_map.2 ⟨x, hx, rfl⟩) e.born (by simp)
      simpa using this
    have hB : B.filter (fun x => !(x.born == e.born)) = B := List.filter_eq_self.2 fun x hx => by
      have : x.born ≠ e.born := fun he => h2.1 (by rw [← he]; exact List.mem_map.2 ⟨x, hx, rfl⟩)
      simpa using this
    rw [List.filter_append, List.filter_cons, hA, hB]
    simp
  rw [← hs, List.filter_filter]
  congr 1
  funext x
  exact Bool.and_comm _ _
theorem gl_next {x : Operand} {b g : Nat} {l left : List (Value × Value)} {last : Option (Value × Value)} {L' : List Res} (hw : Wt ops n env ⟨some t, .next x false, ty, pos, af, gd⟩ true) (hx : ev n env x = .pointer (some ⟨b, 0, none⟩)) (hp : Pick L (itR b g l left last) L')
    (k0 : left = [] → Gl P w0 F0 L ops Q rest n ((t, .tuple #[.bool false]) :: env))
    (k1 : ∀ A p B, left = A ++ p :: B → Gl P w0 F0 (itR b g l (A ++ B) (some p) :: L') ops Q rest n ((t, .tuple #[.bool true, p.1, p.2]) :: env)) : Gl P w0 F0 L ops Q (⟨some t, .next x false, ty, pos, af, gd⟩ :: rest) n env := by
  intro w hst
  have hst0 := hst
  obtain ⟨F, hF, hstp⟩ := hst0
  obtain ⟨F1, F2, ⟨hFk, hne, es, clock, since, c0, seen, hh, hb, hk, hbn, hn, hold, hsc, hscl, hleft, _⟩, h2, hE, hd⟩ := hp.stars hF
  have hltb : b < w.heap.size := (Array.getElem?_eq_some_iff.1 hb).1
  have t1 := next_test_false seen es since c0 hold hsc
  have hmem : ∀ x ∈ (es.filter fun e => !seen.contains e.born), x.born < since := fun x hx => hold x (by simp at hx ⊢; exact hx.1)
  have e1 : (es.filter fun e => !seen.contains e.born).filter (fun x => decide (x.born < since)) = es.filter fun e => !seen.contains e.born := Array.filter_eq_self.2 (fun x hx => by simpa using hmem x hx)
  have e2 : (es.filter fun e => !seen.contains e.born).filter (fun x => decide (x.born ≥ since)) = #[] := by
    rw [Array.filter_eq_empty_iff]
    intro x hx
    have := hmem x hx
    simp; omega
  have fin : ∀ (v : Value) (w' : World), (execOp (ev n env) ⟨some t, .next x false, ty, pos, af, gd⟩).run P w = .ok (.value v) w' → wpListIn (FR n.ro) 0 P ops Q rest (fr n ((t, v) :: env)) w' → wpListIn (FR n.ro) 0 P ops Q (⟨some t, .next x false, ty, pos, af, gd⟩ :: rest) (fr n env) w := fun v w' hr hk' => by
    unfold wpListIn
    rw [if_pos (show Region.wanted _ _ = true from hw)]
    exact Oper.wpIn_value (by rw [fr_eval]; exact hr) (by rw [fr_put]; exact hk')
  by_cases h0 : (es.filter fun e => !seen.contains e.born).size = 0
  · have hem : (es.filter fun e => !seen.contains e.born) = #[] := Array.eq_empty_of_size_eq_zero h0
    have hl : left = [] := by rw [← hleft, hem]; rfl
    refine fin _ w ?_ (k0 hl w hst)
    simp only [execOp, hx, Instr.next, Sem.run_bind, getObj_it hb, Result.andThen_ok, MapKept.run_getObj_map hh, t1, Bool.false_eq_true, if_false, e1, e2, hem]
    simp [choose, Sem.run, Question.forced]
  · obtain ⟨j, w1, hj, hw1, hrun⟩ := choose_next (P := P) w (es.filter fun e => !seen.contains e.born).size (by omega)
    have hemp : (es.filter fun e => !seen.contains e.born).isEmpty = false := by unfold Array.isEmpty; exact decide_eq_false h0
    obtain ⟨e, he⟩ : ∃ e, (es.filter fun e => !seen.contains e.born)[j]? = some e := ⟨_, Array.getElem?_eq_getElem hj⟩
    have hsplit : (es.toList.filter fun e => !seen.contains e.born) = ((es.toList.filter fun e => !seen.contains e.born).take j) ++ e :: (es.toList.filter fun e => !seen.contains e.born).drop (j + 1) := by
      have h3 : (es.toList.filter fun e => !seen.contains e.born)[j]? = some e := by rw [← Array.toList_filter, Array.getElem?_toList]; exact he
      have h4 := (List.getElem?_eq_some_iff.1 h3)
      obtain ⟨h5, h6⟩ := h4
      rw [← h6, List.getElem_cons_drop, List.take_append_drop]
    have hkv : left = ((es.toList.filter fun e => !seen.contains e.born).take j).map (fun e => (e.key, e.val)) ++ (e.key, e.val) :: ((es.toList.filter fun e => !seen.contains e.born).drop (j + 1)).map (fun e => (e.key, e.val)) := by
      rw [← hleft, kvs, Array.toList_filter]
      conv => lhs; rw [hsplit]
      rw [List.map_append, List.map_cons]
    have hh1 : w1.heap[g]? = some (.map es clock) := by rcases hw1 with rfl | rfl <;> exact hh
    have hb1 : w1.heap[b]? = some (.mapIter (some g) since seen c0) := by rcases hw1 with rfl | rfl <;> exact hb
    have hs1 : St w0 F0 L w1 := by rcases hw1 with rfl | rfl; exact hst; exact hst.drewR
    refine fin (.tuple #[.bool true, e.key, e.val]) { w1 with heap := w1.heap.setIfInBounds b (.mapIter (some g) since (seen.push e.born) clock) } ?_ (k1 _ _ _ hkv _ (hs1.setR hp (fun F h => ⟨(h.1 b).2 (.inl rfl), (Array.getElem?_eq_some_iff.1 hb1).1⟩) (fun w' F h hb' hoth => ⟨h.1, h.2.1, es, clock, since, clock, seen.push e.born, (hoth g (Ne.symm h.2.1)).trans hh1, hb', hk, hbn, hn, hold, hscl, hscl, ?_, fun p hp => ⟨rfl, e, ?_, by simp, Option.some.inj hp⟩⟩)))
    · simp only [execOp, hx, Instr.next, Sem.run_bind, getObj_it hb, Result.andThen_ok, MapKept.run_getObj_map hh, t1, Bool.false_eq_true, if_false, e1, e2, hemp, Array.empty_append, Array.append_empty, Array.size_map, hrun, Array.getElem?_map, he, Option.map_some, setObj_it _ hb1, Sem.run_pure]
    · have h7 := filter_split (p := fun e => !seen.contains e.born) hn hsplit
      rw [kvs, Array.toList_filter, ← List.map_append, ← h7]
      congr 1
      congr 1
      funext x
      rw [Array.contains_push]
      cases seen.contains x.born <;> simp
    · have h3 : e ∈ (es.toList.filter fun e => !seen.contains e.born) := by rw [hsplit]; simp
      exact (List.mem_filter.1 h3).1
theorem r_entry {x : Operand} {b g : Nat} {l left : List (Value × Value)} {p : Value × Value} {L' : List Res} (hx : ev n env x = .pointer (some ⟨b, 0, none⟩)) (hp : Pick L (itR b g l left (some p)) L') :
    Runs P w0 F0 L n env ⟨d, .entry x, ty, pos, af, gd⟩ (.tuple #[p.1, p.2]) := fun w hst => by
  obtain ⟨F, hF, hstp⟩ := hst
  obtain ⟨F1, F2, ⟨hFk, hne, es, clock, since, c0, seen, hh, hb, hk, hbn, hn, hold, hsc, hscl, hleft, hlast⟩, h2, hE, hd⟩ := hp.stars hF
  obtain ⟨rfl, e, he, hbk, rfl⟩ := hlast p rfl
  have hf : es.find? (·.born == e.born) = some e := by rw [← Array.find?_toList]; exact find_born e es.toList hn he
  simp only [execOp, hx, Instr.entry, Sem.run_bind, getObj_it hb, Result.andThen_ok, hbk, MapKept.run_getObj_map hh, bne_self_eq_false, Bool.false_eq_true, if_false, hf, Sem.run_pure]
theorem St.itMap {w : World} {b g : Nat} {l left : List (Value × Value)} {last : Option (Value × Value)} (hs : St w0 F0 (itR b g l left last :: L) w) : St w0 F0 (mapR g l :: L) w := by
  obtain ⟨F, ⟨F1, F2, ⟨hFk, hne, es, clock, since, c0, seen, hh, hb, hk, hbn, hn, _⟩, h2, hE, hd⟩, hst⟩ := hs
  refine ⟨fun k => k = g ∨ F2 k, ⟨fun k => k = g, F2, ⟨fun k => Iff.rfl, es, clock, hh, hk, hbn, hn⟩, h2, fun k => Iff.rfl, fun k hk h => hd k ((hFk k).2 (.inr hk)) h⟩, hst.weak fun k hk => (hE k).2 ?_⟩
  rcases hk with rfl | hk
  · exact .inl ((hFk _).2 (.inr rfl))
  · exact .inr hk
end
end
section
structure Sec where
  l : List UInt8
  h : l.length = 64
theorem Sec.ext' {a b : Sec} (h : a.l = b.l) : a = b := by cases a; cases b; cases h; rfl
def sec0 : Sec := ⟨List.replicate 64 0, by simp⟩
def sc (s : Sec) : List Value := s.l.map B8
theorem sc_length (s : Sec) : (sc s).length = 64 := by rw [sc, List.length_map, s.h]
theorem sc_one (s : Sec) : ∀ v ∈ sc s, v.oneCell' = true := one_B8 _
instance {s : Sec} : Len (sc s) 64 := ⟨sc_length s⟩
instance {s : Sec} : One (sc s) := One.of (sc_one s)
def scV (s : Sec) : Value := .agg (sc s).toArray
def secs (n : Nat) (f : Nat → Sec) : List Value := ((List.range n).map fun i => sc (f i)).flatten
def updS (f : Nat → Sec) (i : Nat) (v : Sec) : Nat → Sec := fun j => if j = i then v else f j
theorem secs_all {n : Nat} {f : Nat → Sec} : ∀ c ∈ (List.range n).map fun i => sc (f i), c.length = 64 := fun c hc => by
  obtain ⟨i, _, rfl⟩ := List.mem_map.1 hc; exact sc_length _
theorem secs_len (n : Nat) (f : Nat → Sec) : (secs n f).length = n * 64 := by rw [secs, flatten_len secs_all]; simp
theorem secs_get {n i o : Nat} {f : Nat → Sec} (h : i < n) (ho : o = i * 64) : ((secs n f).drop o).take 64 = sc (f i) := by
  subst ho; exact flatten_at secs_all (by simp [h])
theorem secs_ext {n : Nat} {f g : Nat → Sec} (h : ∀ i, i < n → f i = g i) : secs n f = secs n g := by
  unfold secs; congr 1
  exact List.map_congr_left fun i hi => by rw [h i (List.mem_range.1 hi)]
theorem flatten_set {size : Nat} : ∀ {css : List (List Value)} {i : Nat} {c : List Value}, (∀ c ∈ css, c.length = size) → c.length = size → i < css.length → updL css.flatten (i * size) c = (css.set i c).flatten
  | [], i, c, _, _, h => by simp at h
  | d :: l, 0, c, h, hc, _ => by
    have hd := h d (by simp)
    simp only [updL, Nat.zero_mul, List.take_zero, List.nil_append, Nat.zero_add, List.flatten_cons, List.set_cons_zero, hc]
    rw [List.drop_append, List.drop_eq_nil_of_le (by omega), hd, Nat.sub_self, List.drop_zero, List.nil_append]
  | d :: l, i + 1, c, h, hc, hi => by
    have hd := h d (by simp)
    have ih := flatten_set (css := l) (i := i) (fun c' hc' => h c' (by simp [hc'])) hc (by simpa using hi)
    have e : (i + 1) * size = size + i * size := by rw [Nat.add_mul, Nat.one_mul, Nat.add_comm]
    simp only [updL, List.flatten_cons, List.set_cons_succ, hc] at ih ⊢
    rw [← ih, e, List.take_append, List.take_of_length_le (by omega), hd, show size + i * size - size = i * size by omega, List.drop_append, List.drop_eq_nil_of_le (by omega), hd, show size + i * size + size - size = i * size + size by omega]
    simp
theorem secs_set {n i o : Nat} {f : Nat → Sec} {v : Sec} (h : i < n) (ho : o = i * 64) : updL (secs n f) o (sc v) = secs n (updS f i v) := by
  subst ho
  rw [secs, flatten_set secs_all (sc_length v) (by simpa using h), secs]
  congr 1
  apply List.ext_getElem?
  intro j
  rw [List.getElem?_set, List.getElem?_map, List.getElem?_map]
  by_cases hj : j < n
  · by_cases hij : i = j
    · subst hij; simp [hj, updS]
    · simp [hj, hij, updS, Ne.symm hij]
  · rw [List.getElem?_eq_none (l := List.range n) (by simp; omega)]
    by_cases hij : i = j
    · omega
    · simp [hij]
def lookW (i : Int) : List (Int × Sec) → Option Sec
  | [] => none
  | p :: l => if i = p.1 then some p.2 else lookW i l
def putW (i : Int) (v : Sec) : List (Int × Sec) → List (Int × Sec)
  | [] => [(i, v)]
  | p :: l => if i = p.1 then (i, v) :: l else p :: putW i v l
def encW (ws : List (Int × Sec)) : List (Int × Value) := ws.map fun p => (p.1, scV p.2)
theorem encW_at (i : Int) : ∀ (ws : List (Int × Sec)) (k : Nat), (atK i (encW ws) k).map (·.2) = (lookW i ws).map scV
  | [], _ => rfl
  | p :: l, k => by
    simp only [encW, List.map_cons, atK, lookW]
    by_cases h : i = p.1
    · simp [h]
    · rw [if_neg h, if_neg h]; exact encW_at i l (k + 1)
theorem encW_get (i : Int) (ws : List (Int × Sec)) : getK i (encW ws) = (lookW i ws).map scV := encW_at i ws 0
theorem encW_put (i : Int) (v : Sec) : ∀ (ws : List (Int × Sec)), putK i (scV v) (encW ws) = encW (putW i v ws)
  | [] => rfl
  | p :: l => by
    simp only [encW, List.map_cons, putK, putW]
    by_cases h : i = p.1
    · simp [h]
    · rw [if_neg h, if_neg h, List.map_cons]
      have := encW_put i v l
      simp only [encW] at this
      rw [this]
def keysW (ws : List (Int × Sec)) : List Int := ws.map (·.1)
theorem keys_put (k : Int) (v : Sec) : ∀ (ws : List (Int × Sec)), keysW (putW k v ws) = if k ∈ keysW ws then keysW ws else keysW ws ++ [k]
  | [] => by simp [putW, keysW]
  | p :: l => by
    by_cases h : k = p.1
    · simp [putW, h, keysW]
    · have ih := keys_put k v l
      have e1 : keysW (putW k v (p :: l)) = p.1 :: keysW (putW k v l) := by simp [putW, if_neg h, keysW]
      have e2 : keysW (p :: l) = p.1 :: keysW l := rfl
      rw [e1, e2, ih]
      by_cases hk : k ∈ keysW l
      · rw [if_pos hk, if_pos (List.mem_cons_of_mem _ hk)]
      · rw [if_neg hk, if_neg (by simp [h, hk])]; rfl
theorem nodup_put {k : Int} {v : Sec} {ws : List (Int × Sec)} (h : (keysW ws).Nodup) : (keysW (putW k v ws)).Nodup := by
  rw [keys_put]; split
  · exact h
  · rename_i hk
    refine List.nodup_append.2 ⟨h, by simp, fun a ha b hb e => ?_⟩
    simp only [List.mem_singleton] at hb
    exact hk (by rw [← hb, ← e]; exact ha)
theorem lookW_none {i : Int} : ∀ {ws : List (Int × Sec)}, i ∉ keysW ws → lookW i ws = none
  | [], _ => rfl
  | p :: l, h => by
    simp only [keysW, List.map_cons, List.mem_cons, not_or] at h
    simp only [lookW, if_neg h.1]; exact lookW_none h.2
theorem lookW_mem {i : Int} {v : Sec} : ∀ {ws : List (Int × Sec)}, (keysW ws).Nodup → (i, v) ∈ ws → lookW i ws = some v
  | p :: l, hn, h => by
    have hn' := List.nodup_cons.1 hn
    rcases List.mem_cons.1 h with rfl | h
    · simp [lookW]
    · have : i ≠ p.1 := fun e => hn'.1 (by show p.1 ∈ l.map (·.1); rw [← e]; exact List.mem_map.2 ⟨_, h, rfl⟩)
      simp only [lookW, if_neg this]; exact lookW_mem hn'.2 h
structure DS where
  n : Nat
  ss : Nat → Sec
  ws : List (Int × Sec)
  off : Bool
  armed : Bool
  left : Int
def DS.at (d : DS) (i : Nat) : Sec := (lookW (i : Int) d.ws).getD (d.ss i)
def oper (d : DS) : DS := if d.armed = true ∧ d.off = false then { d with off := decide (d.left = 0), left := d.left - 1 } else d
structure DOk (d : DS) : Prop where
  n : d.n ≤ 4096
  nd : (keysW d.ws).Nodup
  ks : ∀ k ∈ keysW d.ws, 0 ≤ k ∧ k < d.n
  lf : d.armed = true → d.off = false → 0 ≤ d.left
  rg : -9223372036854775808 ≤ d.left ∧ d.left ≤ 9223372036854775807
theorem oper_ok {d : DS} (h : DOk d) : DOk (oper d) := by
  unfold oper; split
  · rename_i hc
    have hl := h.lf hc.1 hc.2
    refine ⟨h.n, h.nd, h.ks, fun _ h2 => ?_, ?_⟩
    · simp only [decide_eq_false_iff_not] at h2
      show 0 ≤ d.left - 1
      omega
    · have := h.rg
      show -9223372036854775808 ≤ d.left - 1 ∧ d.left - 1 ≤ 9223372036854775807
      omega
  · exact h
def DS.write (d : DS) (i : Int) (v : Sec) : DS := { d with ws := putW i v d.ws }
theorem write_ok {d : DS} {i : Int} {v : Sec} (h : DOk d) (h0 : 0 ≤ i) (h1 : i < d.n) : DOk (d.write i v) :=
  ⟨h.n, nodup_put h.nd, fun k hk => by
    simp only [DS.write, keys_put] at hk
    split at hk
    · exact h.ks k hk
    · rcases List.mem_append.1 hk with hk | hk
      · exact h.ks k hk
      · simp only [List.mem_singleton] at hk; subst hk; exact ⟨h0, h1⟩, h.lf, h.rg⟩
def DS.sync (d : DS) : DS := { d with ss := d.at, ws := [] }
def sortZ (l : List Int) : List Int := l.mergeSort (fun x y => decide (x ≤ y))
def keepF (ks : List Int) (keep : List Bool) (ws : List (Int × Sec)) (ss : Nat → Sec) : Nat → Nat → Sec
  | 0 => ss
  | j + 1 => if keep.getD j false = true then updS (keepF ks keep ws ss j) (ks.getD j 0).toNat ((lookW (ks.getD j 0) ws).getD sec0) else keepF ks keep ws ss j
def DS.crash (d : DS) (keep : List Bool) : DS := { d with ss := keepF (sortZ (keysW d.ws)) keep d.ws d.ss (sortZ (keysW d.ws)).length, ws := [], off := false, armed := false }
def DS.has (d : DS) (i : Int) : Bool := decide (0 ≤ i) && decide (i < d.n)
theorem has_iff {d : DS} {i : Int} : d.has i = true ↔ 0 ≤ i ∧ i < d.n := by simp [DS.has]
theorem oper_n (d : DS) : (oper d).n = d.n := by unfold oper; split <;> rfl
theorem oper_ss (d : DS) : (oper d).ss = d.ss := by unfold oper; split <;> rfl
theorem oper_ws (d : DS) : (oper d).ws = d.ws := by unfold oper; split <;> rfl
theorem oper_yes {d : DS} (h1 : d.armed = true) (h2 : d.off = false) : (oper d).off = decide (d.left = 0) ∧ (oper d).armed = d.armed ∧ (oper d).left = d.left - 1 := by
  unfold oper; rw [if_pos ⟨h1, h2⟩]; exact ⟨rfl, rfl, rfl⟩
theorem oper_no {d : DS} (h : d.armed = false ∨ d.off = true) : oper d = d := by
  unfold oper; rw [if_neg]; rintro ⟨h1, h2⟩; rcases h with h | h <;> simp_all
def DS.wr (d : DS) (i : Int) (v : Sec) : Nat × DS := if d.has i then (if (oper d).off then 6 else 0, if (oper d).off then oper d else (oper d).write i v) else (1, d)
theorem wr_out {d : DS} {i : Int} {v : Sec} (h : d.has i = false) : d.wr i v = (1, d) := by simp [DS.wr, h]
theorem wr_off {d : DS} {i : Int} {v : Sec} (h : d.has i = true) (ho : (oper d).off = true) : d.wr i v = (6, oper d) := by simp [DS.wr, h, ho]
theorem wr_on {d : DS} {i : Int} {v : Sec} (h : d.has i = true) (ho : (oper d).off = false) : d.wr i v = (0, (oper d).write i v) := by simp [DS.wr, h, ho]
theorem wr_ok {d : DS} {i : Int} {v : Sec} (h : DOk d) : DOk (d.wr i v).2 := by
  unfold DS.wr; split
  · rename_i hi
    have := has_iff.1 hi
    simp only; split
    · exact oper_ok h
    · exact write_ok (oper_ok h) this.1 (by rw [oper_n]; exact this.2)
  · exact h
def DS.rd (d : DS) (i : Int) : Nat × Sec := if d.has i then (if d.off then (6, sec0) else (0, d.at i.toNat)) else (1, sec0)
theorem rd_out {d : DS} {i : Int} (h : d.has i = false) : d.rd i = (1, sec0) := by simp [DS.rd, h]
theorem rd_off {d : DS} {i : Int} (h : d.has i = true) (ho : d.off = true) : d.rd i = (6, sec0) := by simp [DS.rd, h, ho]
theorem rd_some {d : DS} {i : Int} (h : d.has i = true) (ho : d.off = false) (hs : (lookW i d.ws).isSome = true) : d.rd i = (0, (lookW i d.ws).getD sec0) := by
  have h0 := (has_iff.1 h).1
  simp only [DS.rd, h, ho, if_true, Bool.false_eq_true, if_false, DS.at, Int.toNat_of_nonneg h0]
  cases he : lookW i d.ws with
  | none => rw [he] at hs; cases hs
  | some v => rfl
theorem rd_none {d : DS} {i : Int} (h : d.has i = true) (ho : d.off = false) (hs : (lookW i d.ws).isSome = false) : d.rd i = (0, d.ss i.toNat) := by
  have h0 := (has_iff.1 h).1
  simp only [DS.rd, h, ho, if_true, Bool.false_eq_true, if_false, DS.at, Int.toNat_of_nonneg h0]
  cases he : lookW i d.ws with
  | some v => rw [he] at hs; cases hs
  | none => rfl
theorem encW_keys {ws : List (Int × Sec)} : (encW ws).map (·.1) = keysW ws := by simp [encW, keysW, Function.comp_def]
theorem encW_range {d : DS} (h : DOk d) : ∀ p ∈ encW d.ws, 0 ≤ p.1 ∧ p.1 ≤ 4096 := fun p hp => by
  have : p.1 ∈ keysW d.ws := by rw [← encW_keys]; exact List.mem_map.2 ⟨p, hp, rfl⟩
  have h2 := h.ks _ this; have := h.n; omega
theorem nodup_len : ∀ {n : Nat} {l : List Int}, l.Nodup → (∀ k ∈ l, 0 ≤ k ∧ k < n) → l.length ≤ n
  | 0, l, _, h => by
    cases l with
    | nil => simp
    | cons k l => have := h k (by simp); omega
  | n + 1, l, hn, h => by
    have h1 := nodup_len (n := n) (l := l.erase (n : Int)) (hn.erase _) fun k hk => by
      have h2 := hn.mem_erase_iff.1 hk
      have h3 := h k h2.2
      have := h2.1; omega
    have h4 := List.length_erase (a := (n : Int)) (l := l)
    split at h4 <;> omega
theorem ws_len {d : DS} (h : DOk d) : d.ws.length ≤ d.n := by
  have := nodup_len h.nd h.ks
  rwa [keysW, List.length_map] at this
theorem encW_len {d : DS} (h : DOk d) : (encW d.ws).length ≤ 4096 := by
  have := ws_len h; have := h.n; rw [encW, List.length_map]; omega
theorem sortZ_perm (l : List Int) : (sortZ l).Perm l := List.mergeSort_perm _ _
theorem sortZ_len (d : DS) : (sortZ (keysW d.ws)).length = d.ws.length := by rw [(sortZ_perm _).length_eq, keysW, List.length_map]
theorem sortZ_key {d : DS} (h : DOk d) {j : Nat} (hj : j < (sortZ (keysW d.ws)).length) : 0 ≤ (sortZ (keysW d.ws)).getD j 0 ∧ (sortZ (keysW d.ws)).getD j 0 < d.n := by
  have e : (sortZ (keysW d.ws)).getD j 0 = (sortZ (keysW d.ws))[j] := by simp [List.getD, hj]
  rw [e]
  exact h.ks _ ((sortZ_perm _).mem_iff.1 (List.getElem_mem hj))
def DS.syncd (d : DS) : DS := if (oper d).off then oper d else (oper d).sync
def SyncInv (d : DS) (lw : List (Int × Sec)) (f : Nat → Sec) : Prop := lw.Sublist d.ws ∧ ∀ i : Nat, f i = if (i : Int) ∈ keysW lw then d.ss i else d.at i
theorem SyncInv.start (d : DS) : SyncInv d d.ws d.ss := ⟨List.Sublist.refl _, fun i => by
  split
  · rfl
  · rename_i h; simp [DS.at, lookW_none h]⟩
theorem SyncInv.done {d : DS} {f : Nat → Sec} (h : SyncInv d [] f) (i : Nat) : f i = d.at i := by
  have := h.2 i; simpa [keysW] using this
theorem SyncInv.key {d : DS} {A B : List (Int × Sec)} {k : Int} {v : Sec} {f : Nat → Sec} (h : SyncInv d (A ++ (k, v) :: B) f) (hk : DOk d) : 0 ≤ k ∧ k < d.n :=
  hk.ks k (List.mem_map.2 ⟨(k, v), h.1.subset (by simp), rfl⟩)
theorem SyncInv.step {d : DS} {A B : List (Int × Sec)} {k : Int} {v : Sec} {f : Nat → Sec} (h : SyncInv d (A ++ (k, v) :: B) f) (hk : DOk d) : SyncInv d (A ++ B) (updS f k.toNat v) := by
  have hsub : (A ++ B).Sublist (A ++ (k, v) :: B) := List.Sublist.append (List.Sublist.refl _) (List.sublist_cons_self _ _)
  have hnd : (keysW (A ++ (k, v) :: B)).Nodup := hk.nd.sublist (h.1.map _)
  have h0 := (h.key hk).1
  have hnot : k ∉ keysW (A ++ B) := by
    simp only [keysW, List.map_append, List.map_cons] at hnd ⊢
    have h1 := List.nodup_append.1 hnd
    intro hm
    rcases List.mem_append.1 hm with hm | hm
    · exact h1.2.2 k hm k (by simp) rfl
    · exact (List.nodup_cons.1 h1.2.1).1 hm
  refine ⟨hsub.trans h.1, fun i => ?_⟩
  simp only [updS]
  by_cases hi : i = k.toNat
  · subst hi
    have e : (k.toNat : Int) = k := Int.toNat_of_nonneg h0
    rw [if_pos rfl, e, if_neg hnot, DS.at, e, lookW_mem (v := v) hk.nd (h.1.subset (by simp))]
    rfl
  · rw [if_neg hi, h.2 i]
    have : (i : Int) ∈ keysW (A ++ (k, v) :: B) ↔ (i : Int) ∈ keysW (A ++ B) := by
      have hne : (i : Int) ≠ k := by omega
      simp [keysW, hne]
    simp only [this]
theorem encKW_nil {lw : List (Int × Sec)} (h : encK (Value.int .i64) (encW lw) = []) : lw = [] := by simpa [encK, encW] using h
theorem encKW_split {lw : List (Int × Sec)} {A' B' : List (Value × Value)} {p : Value × Value} (h : encK (Value.int .i64) (encW lw) = A' ++ p :: B') :
    ∃ A k v B, lw = A ++ (k, v) :: B ∧ A' = encK (Value.int .i64) (encW A) ∧ p = (.int .i64 k, scV v) ∧ B' = encK (Value.int .i64) (encW B) := by
  simp only [encK, encW, List.map_map] at h
  obtain ⟨l1, l2, h1, h2, h3⟩ := List.map_eq_append_iff.1 h
  obtain ⟨q, l3, h4, h5, h6⟩ := List.map_eq_cons_iff.1 h3
  subst h1; subst h4
  exact ⟨l1, q.1, q.2, l3, rfl, by rw [← h2]; simp [encK, encW], by rw [← h5]; rfl, by rw [← h6]; simp [encK, encW]⟩
theorem keepF_yes {ks : List Int} {kb : List Bool} {ws : List (Int × Sec)} {ss : Nat → Sec} {j : Nat} (h : kb.getD j false = true) : keepF ks kb ws ss (j + 1) = updS (keepF ks kb ws ss j) (ks.getD j 0).toNat ((lookW (ks.getD j 0) ws).getD sec0) := by rw [keepF, if_pos h]
theorem keepF_no {ks : List Int} {kb : List Bool} {ws : List (Int × Sec)} {ss : Nat → Sec} {j : Nat} (h : kb.getD j false = false) : keepF ks kb ws ss (j + 1) = keepF ks kb ws ss j := by rw [keepF, if_neg (by rw [h]; decide)]
end
section
open Go Go.RowKit Go.Maps Go.Sort Go.Shelf
theorem sortsA (m : Nat) : AnyZI.SortsIn Tryz.prog Tryz.sortedA_ren Fence.wide m :=
  ⟨fun blk off cap ss W hH hblk hsz => callsIn_wide.2 (AnyM.slices_Sort_int Tryz.sortA blk off cap ss W hH hblk hsz),
   fun p cap W => callsIn_wide.2 (AnyM.slices_Sort_int_none Tryz.sortA p cap W)⟩
theorem keys_ok {w : World} {F : Nat → Prop} {m : Nat} (h : stars [] w F) : Calls Tryz.prog 94 #[.map (some m)] w
    (Post w F (fun b : Nat => .func (.func 118) #[] #[.pointer (some ⟨b, 0, none⟩)]) (fun b => [blk b 83 [.map (some m)]])) :=
  Calls.mono (callsIn_wide.1 (AnyZI.keys_in Tryz.keysA Fence.wide 5 trivial rfl (some m) w)) fun e w' ⟨he, hw⟩ => ⟨w.heap.size, he, by rw [hw]; exact (St.init h).new (T := 83) (cs := [.map (some m)])⟩
theorem keyOf_int {x : Int} (h : 0 ≤ x ∧ x ≤ 4096) : keyOf Tryz.prog 3 (.int .i64 x) = some (.int .i64 x) := by
  have hw : (Lit.int .i64 x).wf = true := by simp [Lit.wf, IntKind.min, IntKind.max, IntKind.signed, IntKind.bits]; omega
  simp [keyOf, Ty.un_3, mapKey, hw]
section
variable {w : World} {F : Nat → Prop} {m b : Nat} {l : List (Int × Value)}
abbrev RZ : Value → Option (DataW Nat × List MemPlace) := fun _ => some (.nil, [])
theorem es_keys {es : Array MapEntry} (hk : kvs es = encK (Value.int .i64) l) : es.toList.map (·.key) = l.map fun p => Value.int .i64 p.1 := by
  have := congrArg (List.map Prod.fst) hk
  simpa [kvs, encK, Function.comp_def] using this
theorem sortedK_ok (h : stars [mapR m (encK (Value.int .i64) l), blk b 83 [.map (some m)]] w F) (hn : (l.map (·.1)).Nodup) (hr : ∀ p ∈ l, 0 ≤ p.1 ∧ p.1 ≤ 4096) (hl : l.length ≤ 4096) :
    Calls Tryz.prog 93 #[.func (.func 118) #[] #[.pointer (some ⟨b, 0, none⟩)]] w
      (Post w F (fun r : Option Addr × Nat => .slice r.1 l.length r.2) (fun r => [rowR 3 1 r.1 l.length r.2 ((sortZ (l.map (·.1))).map (Value.int .i64)), mapR m (encK (Value.int .i64) l), blk b 83 [.map (some m)]])) := by
  have hst := St.init h
  obtain ⟨es, clock, hh, hk, hb, hbn⟩ := hst.mapAt Pick.here
  have hcell := hst.cellOf (Pick.there .here) 0
  have hblt : b < w.heap.size := by
    obtain ⟨F1, F2, _, h2, _⟩ := h
    exact stars_lt h2 b (by obtain ⟨G1, G2, g1, _, hG, _⟩ := h2; exact (hG b).2 (.inl ((g1.1 b).2 rfl)))
  have hkeys := es_keys hk
  have hes : es.size = l.length := by rw [← kvs_length, hk, encK_length]
  have hkey : ∀ x ∈ es.toList, ∃ i : Int, x.key = .int .i64 i ∧ 0 ≤ i ∧ i ≤ 4096 := fun x hx => by
    have : x.key ∈ es.toList.map (·.key) := List.mem_map.2 ⟨x, hx, rfl⟩
    rw [hkeys] at this
    obtain ⟨p, hp, e⟩ := List.mem_map.1 this
    exact ⟨p.1, e.symm, hr p hp⟩
  have hrg : ∀ x ∈ es.toList, ∀ i : Int, x.key = .int .i64 i → WideElems.rd Tryz.prog 3 RZ x = some (.int .i64 i, .nil) := fun x hx i e => by
    obtain ⟨i', e', hi⟩ := hkey x hx
    rw [e'] at e; cases e
    unfold WideElems.rd
    rw [e', keyOf_int hi]; rfl
  let D0 : DataW Nat := .map ((es.toList.map (WideElems.rg Tryz.prog 3 RZ)).foldr DataW.insert [])
  have hperm : (intKeys D0).Perm (l.map (·.1)) := by
    have h1 : (intKeys D0).Perm ((es.toList.map (WideElems.rg Tryz.prog 3 RZ)).map fun p => Go.intOf p.1) := (WideShapes.sorted_perm _).map _
    have h2 : ((es.toList.map (WideElems.rg Tryz.prog 3 RZ)).map fun p => Go.intOf p.1) = l.map (·.1) := by
      have h3 : (es.toList.map (WideElems.rg Tryz.prog 3 RZ)).map (fun p => Go.intOf p.1) = (es.toList.map (·.key)).map fun v => match v with | .int _ i => i | _ => 0 := by
        rw [List.map_map, List.map_map]
        refine List.map_congr_left fun x hx => ?_
        obtain ⟨i, e, _⟩ := hkey x hx
        simp only [Function.comp, WideElems.rg, hrg x hx i e, e, Option.getD_some, Go.intOf]
      rw [h3, hkeys, List.map_map]; rfl
    rw [h2] at h1; exact h1
  have hsize : Maps.size D0 = l.length := by
    have := hperm.length_eq
    have h2 : (intKeys D0).length = Maps.size D0 := by simp [D0, intKeys, Maps.size]
    rw [← h2, this, List.length_map]
  have hown : w.ownsMap Tryz.prog 3 RZ m l.length D0 := ⟨es, clock, hh, ⟨by rw [hes]; simp only [maxLen]; omega, ⟨hb, hbn, by rw [hkeys]; unfold List.Nodup at hn ⊢; rw [List.pairwise_map] at hn ⊢; exact hn.imp fun h e => h (by injection e)⟩, fun x hx => by obtain ⟨i, e, _⟩ := hkey x hx; exact ⟨_, hrg x hx i e⟩⟩, by omega, rfl⟩
  have hseq := AnyZI.keys_gives (ρ := Tryz.keysA_ren) { Tryz.keysA with } Fence.wide 2 trivial rfl (by omega) b m l.length D0 w hblt hcell hown
  have cS := callsIn_wide.1 (AnyZI.sorted_in Tryz.sortedA Fence.wide 5 trivial trivial trivial trivial rfl (by omega) (sortsA _) (enters_of Tryz.func117 (by kernel_rfl) rfl) 118 #[.pointer (some ⟨b, 0, none⟩)] trivial (enters_of Tryz.func118 (by kernel_rfl) rfl) (fun ss => ss.Perm (intKeys D0)) (Maps.size D0) (by rw [hsize]; simp only [maxLen]; omega) (by rw [hsize]; omega) w hseq)
  refine Calls.mono cS fun e w' ⟨v, ss, he, hS, hrow, hnil, hbel⟩ => ?_
  have hss : ss.Perm (l.map (·.1)) := hS.trans hperm
  have hsort : ss.mergeSort (fun x y => decide (x ≤ y)) = sortZ (l.map (·.1)) := mergeSort_of_perm_i hss
  have hlen : ss.length = l.length := by rw [hss.length_eq, List.length_map]
  rw [hsort, hlen] at hrow
  have hst2 := stars_loc h fun k hk => hbel.block k (stars_lt h k hk)
  have hstp : Stp w F w' F := ⟨hbel.os, hbel.tape, hbel.output, hbel.size, fun k hk _ => hbel.block k hk, fun k hk => .inl hk⟩
  rcases hrow.2 with ⟨hv, h0⟩ | ⟨g, cap, cur, hv, hg, hgh, hle, hmax, hcs, htake⟩
  · have hxs : (sortZ (l.map (·.1))).map (Value.int .i64) = [] := List.eq_nil_of_length_eq_zero (by rw [hrow.1, h0])
    refine ⟨(none, 0), by rw [he, hv, h0], ?_⟩
    simp only [hxs, h0]
    exact ⟨F, stars_row_nil hst2, hstp⟩
  · refine ⟨(some ⟨g, 0, none⟩, cap), by rw [he, hv], fun k => k = g ∨ F k, ⟨fun k => k = g, F, ⟨hrow.1, hle, hmax, .inr ⟨g, 0, cur, (0, 0), rfl, fun k => Iff.rfl, hgh, fun i _ h => absurd h.2 (Nat.not_lt_zero _), by simp only [Nat.zero_add, Nat.mul_one]; omega, by simpa using htake⟩⟩, hst2, fun k => Iff.rfl, ?_⟩, ?_⟩
    · rintro k rfl hk
      exact absurd (stars_lt h k hk) (by omega)
    · refine ⟨hbel.os, hbel.tape, hbel.output, hbel.size, fun k hk _ => hbel.block k hk, ?_⟩
      rintro k (rfl | hk)
      · exact .inr hg
      · exact .inl hk
end
end
section
theorem madeCells_rep (v : Value) (s n : Nat) (hs : 0 < s) : (madeCells (List.replicate s v).toArray n).toList = List.replicate n v := by
  apply List.ext_getElem?
  intro i
  simp only [madeCells, Array.toList_map, Array.toList_range, List.getElem?_map, List.getElem?_replicate]
  by_cases h : i < n
  · have h2 : i % (List.replicate s v).toArray.size < (List.replicate s v).toArray.size := Nat.mod_lt _ (by simpa using hs)
    rw [List.getElem?_range h, Option.map_some, if_pos h]
    rw [getElem!_pos (List.replicate s v).toArray _ h2]
    simp
  · rw [if_neg h, List.getElem?_eq_none (l := List.range n) (by simp; omega)]; rfl
theorem madeCells_secs (m : Nat) : (madeCells (List.replicate 64 (Value.int .u8 0)).toArray (m * 64)).toList = secs m fun _ => sec0 := by
  rw [madeCells_rep _ _ _ (by decide), secs]
  have e : sc sec0 = List.replicate 64 (Value.int .u8 0) := by simp [sc, sec0, B8]
  rw [e]
  generalize Value.int .u8 0 = v
  induction m with
  | zero => simp
  | succ m ih =>
    rw [List.range_succ, List.map_append, List.flatten_append, ← ih, Nat.add_mul, Nat.one_mul, ← List.replicate_append_replicate]
    simp only [List.map_cons, List.map_nil, List.flatten_cons, List.flatten_nil, List.append_nil]
section
variable {P : Program} {w0 : World} {F0 : Nat → Prop} {L : List Res} {Q : Exit → Act → World → Prop} {n : Fm} {env : Env} {ops : Array Oper} {rest : List Oper} {ty : TypeId} {pos : String} {af : Array Edge} {gd : Option (Nat × Bool)} {d : Option Tmp}
theorem gl_mkN {t : Tmp} {T e bytes m s : Nat} {x y : Operand} {z : Value} {k k' : IntKind} (hw : Wt ops n env ⟨some t, .makeSlice T x y, ty, pos, af, gd⟩ true) (ht : ElemT P T e s bytes) (hz : (P.info? e).map (·.zero) = some (some z))
    (hx : ev n env x = .int k (m : Int)) (hy : ev n env y = .int k' (m : Int)) (hb : bytes * m ≤ 16777216) (hm : m * s ≤ 16777216) (hm' : m ≤ 16777216)
    (K : ∀ b, Gl P w0 F0 (blk b e (madeCells z.cells (m * s)).toList :: L) ops Q rest n ((t, .slice (some ⟨b, 0, none⟩) m m) :: env)) : Gl P w0 F0 L ops Q (⟨some t, .makeSlice T x y, ty, pos, af, gd⟩ :: rest) n env := by
  refine gl_effx (α := Nat) (L' := fun b => blk b e (madeCells z.cells (m * s)).toList :: L) (v := fun b => .slice (some ⟨b, 0, none⟩) m m) hw (fun w hst => ?_) K
  obtain ⟨i, z', hi, hz', hs, hby, _⟩ := ht.info
  have hzz : z' = z := by rw [hi] at hz; simp only [Option.map_some, Option.some.injEq] at hz; rw [hz'] at hz; exact Option.some.inj hz
  subst hzz
  refine ⟨w.heap.size, { w with heap := w.heap.push (.cells (madeCells z'.cells (m * s)).toList.toArray e) }, ?_, hst.new⟩
  have hbb : (i.bytes : Int) * (m : Int) ≤ 281474976710656 := by
    rw [hby, ← Int.natCast_mul]; omega
  have hr := run_makeSlice (P := P) (w := w) T e i z' ht.sl hi hz' k k' (m : Int) (m : Int) (by omega) (Int.le_refl _) (by simp [hs]; omega) hbb (by omega)
  simp only [execOp, hx, hy, Sem.run_bind, hr, Result.andThen_ok, Sem.run_pure]
  simp only [Int.toNat_natCast, hs]
  first | rfl | simp [World.alloc]
theorem St.pick {w : World} {r : Res} {L' : List Res} (hw : St w0 F0 L w) (h : Pick L r L') : St w0 F0 (r :: L') w := hw.mapL0 fun F hF => h.stars hF
theorem gl_nextO {t : Tmp} {x : Operand} {b g : Nat} {l left : List (Value × Value)} {last : Option (Value × Value)} {L' : List Res} (hw : Wt ops n env ⟨some t, .next x false, ty, pos, af, gd⟩ true) (hx : ev n env x = .pointer (some ⟨b, 0, none⟩)) (hp : Pick L (itR b g l left last) L')
    (k : ∀ o : Option (List (Value × Value) × (Value × Value) × List (Value × Value)), (match o with | none => left = [] | some q => left = q.1 ++ q.2.1 :: q.2.2) →
      Gl P w0 F0 (itR b g l (match o with | none => left | some q => q.1 ++ q.2.2) (match o with | none => last | some q => some q.2.1) :: L') ops Q rest n ((t, match o with | none => .tuple #[.bool false] | some q => .tuple #[.bool true, q.2.1.1, q.2.1.2]) :: env)) :
    Gl P w0 F0 L ops Q (⟨some t, .next x false, ty, pos, af, gd⟩ :: rest) n env :=
  gl_next hw hx hp (fun h w hw => k none h w (hw.pick hp)) fun A p B h => k (some (A, p, B)) h
theorem gl_itMap {b g : Nat} {l left : List (Value × Value)} {last : Option (Value × Value)} {L' : List Res} (hp : Pick L (itR b g l left last) L') (k : Gl P w0 F0 (mapR g l :: L') ops Q rest n env) : Gl P w0 F0 L ops Q rest n env := fun w hw =>
  k w (hw.pick hp).itMap
theorem r_ldS {x : Operand} {T g m o : Nat} {f : Nat → Sec} {L' : List Res} {T' : Nat} [RA P T] [SZ P T 64] (i : Nat) (hi : i < m) (hx : ev n env x = .pointer (some ⟨g, o, none⟩) := by exact rfl) (ho : o = i * 64 := by omega) (hp : Pick L (blk g T' (secs m f)) L' := by repeat (first | exact Pick.here | apply Pick.there)) :
    Runs P w0 F0 L n env ⟨d, .load T x, ty, pos, af, gd⟩ (scV (f i)) := r_ldN hx RA.h SZ.h hp (secs_get hi ho) (sc_length _)
theorem gl_stS {x y : Operand} {T g m o : Nat} {f : Nat → Sec} {v : Sec} {L' : List Res} {T' : Nat} [SZ P T 64] (i : Nat) (hi : i < m) (k : Gl P w0 F0 (blk g T' (secs m (updS f i v)) :: L') ops Q rest n env) (hx : ev n env x = .pointer (some ⟨g, o, none⟩) := by exact rfl) (hy : ev n env y = scV v := by exact rfl) (ho : o = i * 64 := by omega)
    (hp : Pick L (blk g T' (secs m f)) L' := by repeat (first | exact Pick.here | apply Pick.there)) (hw : Wt ops n env ⟨none, .store T x y, ty, pos, af, gd⟩ true := by first | exact wt0 rfl | exact wtgT rfl rfl rfl rfl) :
    Gl P w0 F0 L ops Q (⟨none, .store T x y, ty, pos, af, gd⟩ :: rest) n env :=
  gl_storeN hw hx hy SZ.h (sc_length v) hp (by rw [secs_len]; omega) (sc_one v) (secs_set hi ho) k
theorem r_min {x y : Operand} {T1 T2 : TypeId} {k : IntKind} {i j : Int} (hx : ev n env x = .int k i := by exact rfl) (hy : ev n env y = .int k j := by exact rfl) :
    Runs P w0 F0 L n env ⟨d, .call ⟨.builtin .min, #[x, y], #[T1, T2]⟩, ty, pos, af, gd⟩ (.int k (if j < i then j else i)) := fun w _ => by
  simp only [execOp, resolve, invoke, builtin]
  simp [hx, hy, Builtin.min_, Builtin.min2]
theorem r_eqpn {x : Operand} {T T' e : TypeId} {a : Option Addr} (hx : ev n env x = .pointer a := by exact rfl) (ht : P.underlying T = some (.pointer e)) :
    Runs P w0 F0 L n env ⟨d, .binOp .eql T x (.const (.pointer none)) T', ty, pos, af, gd⟩ (.bool a.isNone) := fun w _ => by
  have h : ∀ d : Nat, (Op.equalIn (d + 1) T (.pointer a) (.pointer none)).run P w = .ok a.isNone w := fun d => by
    cases a <;> simp [Op.equalIn, run_underlying ht]
  have h9 := h 9999
  have hc : ev n env (.const (.pointer none)) = .pointer none := rfl
  simp only [execOp, hx, hc]
  simp [eqGuard, binOp, Op.equal, Op.maxDepth, h9]
instance : DecidableEq Sec := fun a b => decidable_of_iff (a.l = b.l) ⟨Sec.ext', fun h => h ▸ rfl⟩
theorem run_equal_sec {T e : TypeId} {w : World} {a b : Sec} (ht : arrT P T = some (64, e)) (he : P.underlying e = some (.int .u8)) (hs : szT P e = some 1) : (Op.equalIn 10000 T (scV a) (scV b)).run P w = .ok (decide (a = b)) w := by
  cases hi : P.info? e with
  | none => simp [szT, hi] at hs
  | some i =>
    have hz : i.size = 1 := by simpa [szT, hi] using hs
    have hc : P.cellsOf e = 1 := by simp [Program.cellsOf, hi, hz]
    have hd : decide (a.l = b.l) = decide (a = b) := by
      by_cases h : a = b
      · simp [h]
      · simp [h]; exact fun e => h (Sec.ext' e)
    rw [show scV a = .agg (sc a).toArray from rfl, show scV b = .agg (sc b).toArray from rfl, run_equalIn_array w 9999 _ _ (run_arrT ht) hi, hc]
    rw [show sc a = a.l.map B8 from rfl, show sc b = b.l.map B8 from rfl, run_eqItems8 (d := 9998) he a.l b.l w _ (fun i hi => by have := List.mem_range.1 hi; rw [a.h, b.h]; omega), all_range_eq a.h b.h, hd]
theorem r_neq_sec {x y : Operand} {T T' e : TypeId} {a b : Sec} (ht : arrT P T = some (64, e)) (he : P.underlying e = some (.int .u8)) (hs : szT P e = some 1) (hg : P.eqGuardType P.depth T = false) (hx : ev n env x = scV a := by exact rfl) (hy : ev n env y = scV b := by exact rfl) :
    Runs P w0 F0 L n env ⟨d, .binOp .neq T x y T', ty, pos, af, gd⟩ (.bool (!decide (a = b))) := fun w _ => by
  have h := run_equal_sec (P := P) (w := w) (a := a) (b := b) ht he hs
  simp only [scV] at hx hy h
  simp only [execOp, hx, hy, Sem.run_bind, run_eqGuard_agg w _ _ _ _ _ _ hg, Result.andThen_ok, run_neq_struct, h, Sem.run_pure]
def Sec.b (s : Sec) : UInt8 := s.l.getD 0 0
end
section three
variable {P : Program} {w0 : World} {F0 : Nat → Prop} {K L : List Res} {Q : Exit → Act → World → Prop} {n : Fm} {env : Env} {ops : Array Oper} {listed : Array Bool} {fuel z : Nat}
end three
end
section
instance : KeyT Tryz.prog 3 (Value.int .i64) := keyT_int Ty.un_3
def DiskR (g : Nat) (d : DS) : Res := exR fun p : Nat × Nat => allR [blk g 85 [.slice (some ⟨p.1, 0, none⟩) d.n d.n, .map (some p.2), .bool d.off, .bool d.armed, .int .i64 d.left], blk p.1 98 (secs d.n d.ss), mapR p.2 (encK (Value.int .i64) (encW d.ws))]
section
variable {w0 w : World} {F F0 : Nat → Prop} {g : Nat} {d : DS} {L : List Res} {Q : Exit → Act → World → Prop} {n : Fm} {env : Env} {ops : Array Oper} {rest : List Oper}
theorem dk_open (h : stars (DiskR g d :: L) w F) : ∃ b m, stars (blk g 85 [.slice (some ⟨b, 0, none⟩) d.n d.n, .map (some m), .bool d.off, .bool d.armed, .int .i64 d.left] :: blk b 98 (secs d.n d.ss) :: mapR m (encK (Value.int .i64) (encW d.ws)) :: L) w F := by
  obtain ⟨⟨a, c⟩, h⟩ := stars_ex h
  exact ⟨a, c, stars_all h⟩
theorem St.dk {b m n : Nat} {off armed : Bool} {left : Int} {cs : List Value} {l : List (Value × Value)} (h : St w0 F0 (blk g 85 [.slice (some ⟨b, 0, none⟩) n n, .map (some m), .bool off, .bool armed, .int .i64 left] :: blk b 98 cs :: mapR m l :: L) w)
    (h1 : n = d.n) (h2 : off = d.off) (h3 : armed = d.armed) (h4 : left = d.left) (h5 : cs = secs d.n d.ss) (h6 : l = encK (Value.int .i64) (encW d.ws)) : St w0 F0 (DiskR g d :: L) w := by
  subst h1; subst h2; subst h3; subst h4; subst h5; subst h6
  obtain ⟨F, hF, hst⟩ := h
  exact ⟨F, stars_ex_mk (b, m) (stars_all_mk hF), hst⟩
theorem gc_dk {c : Code} {L' : List Res} (hp : Pick L (DiskR g d) L') (k : ∀ b m, Gc Tryz.prog w0 F0 (blk g 85 [.slice (some ⟨b, 0, none⟩) d.n d.n, .map (some m), .bool d.off, .bool d.armed, .int .i64 d.left] :: blk b 98 (secs d.n d.ss) :: mapR m (encK (Value.int .i64) (encW d.ws)) :: L') c Q n env) : Gc Tryz.prog w0 F0 L c Q n env := fun w hw => by
  obtain ⟨F, hF, hst⟩ := hw.pick hp
  obtain ⟨b, m, h⟩ := dk_open hF
  exact k b m w ⟨F, h, hst⟩
theorem gl_dk {L' : List Res} (hp : Pick L (DiskR g d) L') (k : ∀ b m, Gl Tryz.prog w0 F0 (blk g 85 [.slice (some ⟨b, 0, none⟩) d.n d.n, .map (some m), .bool d.off, .bool d.armed, .int .i64 d.left] :: blk b 98 (secs d.n d.ss) :: mapR m (encK (Value.int .i64) (encW d.ws)) :: L') ops Q rest n env) : Gl Tryz.prog w0 F0 L ops Q rest n env := fun w hw => by
  obtain ⟨F, hF, hst⟩ := hw.pick hp
  obtain ⟨b, m, h⟩ := dk_open hF
  exact k b m w ⟨F, h, hst⟩
variable {dd : Option Tmp} {ty : TypeId} {pos : String} {af : Array Edge} {gd : Option (Nat × Bool)}
theorem r_lookW {x y : Operand} {m : Nat} {ws : List (Int × Sec)} {L' : List Res} {i : Int} (hx : ev n env x = .map (some m)) (hy : ev n env y = .int .i64 i) (hp : Pick L (mapR m (encK (Value.int .i64) (encW ws))) L') :
    Runs Tryz.prog w0 F0 L n env ⟨dd, .lookup 83 x y true, ty, pos, af, gd⟩ (.tuple #[scV ((lookW i ws).getD sec0), .bool (lookW i ws).isSome]) :=
  r_val (r_look (K := Value.int .i64) (z := scV sec0) (key := i) hx hy Ty.un_83 (by kernel_rfl) hp) (by rw [encW_get]; cases lookW i ws <;> rfl)
theorem r_lookW1 {x y : Operand} {m : Nat} {ws : List (Int × Sec)} {L' : List Res} {i : Int} (hx : ev n env x = .map (some m)) (hy : ev n env y = .int .i64 i) (hp : Pick L (mapR m (encK (Value.int .i64) (encW ws))) L') :
    Runs Tryz.prog w0 F0 L n env ⟨dd, .lookup 83 x y false, ty, pos, af, gd⟩ (scV ((lookW i ws).getD sec0)) :=
  r_val (r_look (K := Value.int .i64) (z := scV sec0) (key := i) hx hy Ty.un_83 (by kernel_rfl) hp) (by rw [encW_get]; cases lookW i ws <;> rfl)
end
attribute [local irreducible] Gl Gc Gx Gs Runs Wt
theorem new_ok {w : World} {F : Nat → Prop} {n : Nat} {ea : Nat → Addr} (h : stars [] w F) (h1 : 1 ≤ n) (h2 : n ≤ 4096) :
    Calls Tryz.prog 9 #[.int .i64 (n : Int)] w (Post w F (fun g : Nat => .tuple #[.pointer (some ⟨g, 0, none⟩), eV 241 ea 0]) (fun g => [DiskR g ⟨n, fun _ => sec0, [], false, false, 0⟩])) := by
 refine g_enter (env := [(0, .int .i64 (n : Int))]) Tryz.func9 rfl h Tryz.ntmps9 rfl rfl ?_; refine gsr (zxa ?_); refine zxa ?_; refine gnt (gc_seq (gsr (zxm ?_))); refine gp (r_bool (c := false) zlt (decide_eq_false (by omega))) ?_; refine zxm ?_; refine gq zmv ?_; refine gq (r_bool (c := false) zgt (decide_eq_false (by omega))) ?_; refine gp zpk ?_; refine gnt (gc_condF rfl rfl ?_); refine gc_skip (gx_then (gsr (zxm ?_))); refine gl_mkN (m := n) (z := .agg (List.replicate 64 (Value.int .u8 0)).toArray) (wt0 rfl) ELT.h (by kernel_rfl) rfl rfl (by omega) (by omega) (by omega) (fun b12 => ?_)
 refine gl_eqc (cs' := secs n fun _ => sec0) (by repeat (first | exact Pick.here | apply Pick.there)) (madeCells_secs n) ?_; refine gl_mkMap (wt0 rfl) (fun m13 => ?_)
 refine gp zbu ?_; refine zbN fun b15 => ?_; refine zxa ?_; refine zxa ?_; refine gnt (gc_ret (gx_ret2 rfl (by conv => lhs; whnf) (by conv => lhs; whnf) ?_)); exact fun w' hw => ⟨b15, by rw [eV_zero], St.dk (n := n) (b := b12) (m := m13) (hw.z) rfl rfl rfl rfl rfl rfl⟩
theorem has_ok {w : World} {F : Nat → Prop} {g : Nat} {d : DS} (h : stars [DiskR g d] w F) {i : Int} :
    Calls Tryz.prog 71 #[.pointer (some ⟨g, 0, none⟩), .int .i64 i] w (Post w F (fun _ : Unit => .bool (d.has i)) (fun _ => [DiskR g d])) := by
 obtain ⟨b, m, h⟩ := dk_open h; refine g_enter (env := [(0, .pointer (some ⟨g, 0, none⟩)), (1, .int .i64 i)]) Tryz.func71 rfl h Tryz.ntmps71 rfl rfl ?_; refine gsr (zxa ?_); refine gnt (gc_seq ?_); by_cases hi : 0 ≤ i
 ·refine gc_region (zxm ?_); refine gp (r_bool (c := true) zge (decide_eq_true hi)) ?_; refine zxm ?_; refine gq zmv ?_; refine gq zmv ?_; refine gq znc ?_; refine gq zfa ?_; refine gq zl ?_; refine gq zln ?_; refine gq zlt ?_; refine gp zpk ?_; refine zxa ?_; refine gnt (gc_ret (gx_ret1 rfl (by conv => lhs; whnf) ?_)); exact fun w' hw => ⟨(), by rw [DS.has, decide_eq_true hi, Bool.true_and], St.dk (hw.z) rfl rfl rfl rfl rfl rfl⟩
 ·refine gc_region (zxm ?_); refine gp (r_bool (c := false) zge (decide_eq_false hi)) ?_; refine zxm ?_; refine gn ?_; refine gn ?_; refine gn ?_; refine gn ?_; refine gn ?_; refine gn ?_; refine gn ?_; refine gp zpk ?_; refine zxa ?_; refine gnt (gc_ret (gx_ret1 rfl (by conv => lhs; whnf) ?_)); exact fun w' hw => ⟨(), by rw [DS.has, decide_eq_false hi, Bool.false_and], St.dk (hw.z) rfl rfl rfl rfl rfl rfl⟩
theorem operate_ok {w : World} {F : Nat → Prop} {g : Nat} {d : DS} (h : stars [DiskR g d] w F) (hk : DOk d) {ea : Nat → Addr} {es : List Nat} [Has es 1] [Has es 6] (hE : GErr es w (fun k => ¬ F k) 241 ea) :
    Calls Tryz.prog 72 #[.pointer (some ⟨g, 0, none⟩)] w (Post w F (fun _ : Unit => eV 241 ea (if (oper d).off then 6 else 0)) (fun _ => [DiskR g (oper d)])) := by
 obtain ⟨b, m, h⟩ := dk_open h; refine g_enter (env := [(0, .pointer (some ⟨g, 0, none⟩))]) Tryz.func72 rfl h Tryz.ntmps72 rfl rfl ?_; refine gsr (zxa ?_); refine gnt (gc_join (α := Unit) (fun z => [blk g 85 [.slice (some ⟨b, 0, none⟩) d.n d.n, .map (some m), .bool (oper d).off, .bool (oper d).armed, .int .i64 (oper d).left], blk b 98 (secs d.n d.ss), mapR m (encK (Value.int .i64) (encW d.ws))]) (fun z => []) [3, 4, 5, 6, 7, 8, 9, 10, 11, 12, 13, 14, 15, 16, 17, 18, 19, 20, 21, 22, 23, 24, 25, 26, 27, 28] ?_ ?_)
 ·refine gc_seq ?_; by_cases hA : d.armed = true
  ·refine gc_region (zxm ?_); refine gp znc ?_; refine gp zfa ?_; refine gp (r_bool (c := true) zl hA) ?_; refine zxm ?_; refine gq zmv ?_; refine gq znc ?_; refine gq zfa ?_; refine gq zl ?_; refine gq znt ?_; refine gp zpk ?_; refine gnt (gif rfl (fun hc13 => ?_) (fun hc13 => ?_))
   ·try simp only at hc13
    have ho : d.off = false := by simpa using hc13
    have hl := hk.lf hA ho
    have hrg := hk.rg
    refine gsr (zxm ?_); refine zxm ?_; refine gp znc ?_; refine gp zfa ?_; refine gp zl ?_; refine gp zei ?_; refine gp znc ?_; refine gp zfa ?_; refine zs1 ?_; refine gnt (gc_region (zxm ?_)); refine gp znc ?_; refine gp zfa ?_; refine gp zl ?_; refine gp zsb ?_; refine gp znc ?_; refine gp zfa ?_; refine zs1 ?_; refine gl_nil (zjn (()) ?_)
    ·rw [(oper_yes hA ho).1, (oper_yes hA ho).2.1, (oper_yes hA ho).2.2]; exact zsel
   ·try simp only at hc13
    have ho : d.off = true := by simpa using hc13
    refine gc_skip (zjn (()) ?_)
    ·rw [oper_no (.inr ho)]; exact zsel
  ·refine gc_region (zxm ?_); refine gp znc ?_; refine gp zfa ?_; refine gp (r_bool (c := false) zl (by simpa using hA)) ?_; refine zxm ?_; refine gn ?_; refine gn ?_; refine gn ?_; refine gn ?_; refine gn ?_; refine gp zpk ?_; refine gnt (gc_condF rfl rfl ?_); refine gc_skip (zjn (()) ?_)
   ·rw [oper_no (.inl (by simpa using hA))]; exact zsel
 ·intro z u; refine gc_seq (gsr (zxm ?_)); refine gp znc ?_; refine gp zfa ?_; refine gp zl ?_; refine gnt (gif rfl (fun hc32 => ?_) (fun hc32 => ?_))
  ·refine gsr (gp (r_ld1o rfl Ty.row_26 (hE.c 6 Has.h) (hE.n 6 Has.h)) ?_); refine zxa ?_; refine gnt (gc_ret (gx_then_ret (gx_ret1 rfl (by conv => lhs; whnf) ?_))); exact fun w' hw => ⟨(), by rw [if_pos hc32], St.dk (n := d.n) (hw.z) (oper_n d).symm rfl rfl rfl (by rw [oper_n, oper_ss]) (by rw [oper_ws])⟩
  ·refine gc_skip (gx_then (gsr (zxa ?_))); refine gnt (gc_ret (gx_ret1 rfl (by conv => lhs; whnf) ?_)); exact fun w' hw => ⟨(), by rw [if_neg (by simpa using hc32), eV_zero], St.dk (n := d.n) (hw.z) (oper_n d).symm rfl rfl rfl (by rw [oper_n, oper_ss]) (by rw [oper_ws])⟩
theorem write_ok' {w : World} {F : Nat → Prop} {g : Nat} {d : DS} (h : stars [DiskR g d] w F) (hk : DOk d) {ea : Nat → Addr} {es : List Nat} [Has es 1] [Has es 6] (hE : GErr es w (fun k => ¬ F k) 241 ea) {i : Int} {v : Sec} :
    Calls Tryz.prog 37 #[.pointer (some ⟨g, 0, none⟩), .int .i64 i, scV v] w (Post w F (fun _ : Unit => eV 241 ea (d.wr i v).1) (fun _ => [DiskR g (d.wr i v).2])) := by
 refine g_enter (env := [(0, .pointer (some ⟨g, 0, none⟩)), (1, .int .i64 i), (2, scV v)]) Tryz.func37 rfl h Tryz.ntmps37 rfl rfl ?_; refine gsr (zbN fun b5 => ?_); refine zxa ?_; refine gnt (gc_seq (gsr (zxm ?_))); refine zxm ?_; refine zc (fun _ => ?_) (c := fun w1 F1 F2 h1 h2 hd hst => has_ok (i := i) h1)
 refine gp znt ?_; refine gnt (gif rfl (fun hc11 => ?_) (fun hc11 => ?_))
 ·try simp only at hc11
  have hi : d.has i = false := hc11
  have e := wr_out (v := v) hi
  refine gsr (gp (r_ld1o rfl Ty.row_26 (hE.c 1 Has.h) (hE.n 1 Has.h)) ?_); refine zxa ?_; refine gnt (gc_ret (gx_then_ret (gx_ret1 rfl (by conv => lhs; whnf) ?_))); exact fun w' hw => ⟨(), by rw [e], by rw [e]; exact hw.z⟩
 ·try simp only at hc11
  have hi : d.has i = true := hc11
  refine gc_skip (gx_then (gc_seq (gsr (zxm ?_)))); refine zc (fun _ => ?_) (c := fun w1 F1 F2 h1 h2 hd hst => operate_ok h1 hk (hE.mv hst.still))
  refine zxa ?_; refine zxs ?_; refine zxm ?_; refine gp (r_bool (c := (oper d).off) (r_nenil rfl (by kernel_rfl)) (by cases (oper d).off <;> rfl)) ?_; refine gnt (gif rfl (fun hc16 => ?_) (fun hc16 => ?_))
  ·try simp only at hc16
   have e := wr_off (v := v) hi hc16
   refine gsr (zxm ?_); refine zxa ?_; refine gnt (gc_ret (gx_then_ret (gx_ret1 rfl (by conv => lhs; whnf) ?_))); exact fun w' hw => ⟨(), by rw [e, if_pos hc16], by rw [e]; exact hw.z⟩
  ·try simp only at hc16
   have e := wr_on (v := v) hi hc16
   refine gc_dk (by repeat (first | exact Pick.here | apply Pick.there)) (fun b m => ?_)
   refine gc_skip (gx_then (gc_seq (gc_regionT 6 (by kernel_rfl) (by kernel_rfl) ?_))); refine sp zmv ?_; refine sp znc ?_; refine sp zfa ?_; refine sp zl ?_; refine sp zmv ?_; refine sp zL ?_; refine gs_nil ?_; refine gl_put (K := Value.int .i64) (v := scV v) (wt0 rfl) rfl rfl rfl Ty.un_83 (by repeat (first | exact Pick.here | apply Pick.there)) ?_; refine zxs ?_; refine zxa ?_; refine gnt (gc_ret (gx_ret1 rfl (by conv => lhs; whnf) ?_)); exact fun w' hw => ⟨(), by rw [e, eV_zero], by rw [e]; exact St.dk (d := (oper d).write i v) (hw.z) rfl rfl rfl rfl rfl (by rw [encW_put]; rfl)⟩
theorem read_ok {w : World} {F : Nat → Prop} {g : Nat} {d : DS} (h : stars [DiskR g d] w F) {ea : Nat → Addr} {es : List Nat} [Has es 1] [Has es 6] (hE : GErr es w (fun k => ¬ F k) 241 ea) {i : Int} :
    Calls Tryz.prog 63 #[.pointer (some ⟨g, 0, none⟩), .int .i64 i] w (Post w F (fun _ : Unit => .tuple #[scV (d.rd i).2, eV 241 ea (d.rd i).1]) (fun _ => [DiskR g d])) := by
 refine g_enter (env := [(0, .pointer (some ⟨g, 0, none⟩)), (1, .int .i64 i)]) Tryz.func63 rfl h Tryz.ntmps63 rfl rfl ?_; refine gsr (zal fun b4 => ?_); refine zxa ?_; refine gnt (gc_seq (gc_block (gsr (zxm ?_)))); refine zxm ?_; refine zc (fun _ => ?_) (c := fun w1 F1 F2 h1 h2 hd hst => has_ok (i := i) h1)
 refine gp znt ?_; refine zxa ?_; refine gnt (gif rfl (fun hc8 => ?_) (fun hc8 => ?_))
 ·try simp only at hc8
  have e := rd_out (i := i) hc8
  refine gc_seq (gc_regionZ 3 [] ?_); refine yps 0 rfl zba ?_; refine yps 1 rfl (r_ld1o rfl Ty.row_26 (hE.c 1 Has.h) (hE.n 1 Has.h)) ?_; refine yos 2 rfl ?_; refine zsA (new := sc (sec0)) (sc_length _) (sc_one _) ?_; refine yxs ?_; refine yzs rfl ?_; refine zxa ?_; refine gnt (gc_ret (gx_block_ret ?_)); refine gx_then_ret (gx_retct rfl rfl (by conv => lhs; whnf) (ldA Ty.row_98 Ty.sz_98) ?_); exact fun w' hw => ⟨(), by rw [e]; rfl, hw.z⟩
 ·try simp only at hc8
  have hi : d.has i = true := hc8
  obtain ⟨hi0, hi1⟩ := has_iff.1 hi; refine gc_dk (by repeat (first | exact Pick.here | apply Pick.there)) (fun b m => ?_)
  refine gsr (zxm ?_); refine gp znc ?_; refine gp zfa ?_; refine gp zl ?_; refine zxa ?_; refine gnt (gif rfl (fun hc15 => ?_) (fun hc15 => ?_))
  ·try simp only at hc15
   have e := rd_off hi hc15
   refine gc_seq (gc_regionZ 3 [] ?_); refine yps 0 rfl zba ?_; refine yps 1 rfl (r_ld1o rfl Ty.row_26 (hE.c 6 Has.h) (hE.n 6 Has.h)) ?_; refine yos 2 rfl ?_; refine zsA (new := sc (sec0)) (sc_length _) (sc_one _) ?_; refine yxs ?_; refine yzs rfl ?_; refine zxa ?_; refine gnt (gc_ret (gx_block_ret ?_)); refine gx_then_ret (gx_retct rfl rfl (by conv => lhs; whnf) (ldA Ty.row_98 Ty.sz_98) ?_); exact fun w' hw => ⟨(), by rw [e]; rfl, St.dk (hw.z) rfl rfl rfl rfl rfl rfl⟩
  ·refine gc_skip (gx_block_normal (gx_then (gc_seq (gsr (zxm ?_))))); refine gp znc ?_; refine gp zfa ?_; refine gp zl ?_; refine zxm ?_; refine gp (r_lookW rfl rfl (by repeat (first | exact Pick.here | apply Pick.there))) ?_; refine zxm ?_; refine gp zex ?_; refine gp zex ?_; refine zal fun b6 => ?_; refine zsA (new := sc ((lookW i d.ws).getD sec0)) (sc_length _) (sc_one _) ?_; refine zxa ?_; refine zxs ?_; refine zxm ?_; refine gnt (gif rfl (fun hc31 => ?_) (fun hc31 => ?_))
   ·try simp only at hc31
    have e := rd_some hi hc15 hc31
    refine gsr (gp zL ?_); refine zsA (new := sc ((lookW i d.ws).getD sec0)) (sc_length _) (sc_one _) ?_; refine zxa ?_; refine gnt (gc_ret (gx_then_ret (gx_retct rfl rfl (by conv => lhs; whnf) (ldA Ty.row_98 Ty.sz_98) ?_))); exact fun w' hw => ⟨(), by rw [e, eV_zero]; rfl, St.dk (hw.z) rfl rfl rfl rfl rfl rfl⟩
   ·try simp only at hc31
    have e := rd_none hi hc15 hc31
    refine gc_skip (gx_then (gsr (zxm ?_))); refine gp znc ?_; refine gp zfa ?_; refine gp zl ?_; refine zxm ?_; refine gp zia ?_; refine gp (r_ldS (m := d.n) (f := d.ss) i.toNat (by omega)) ?_; refine zsA (new := sc (d.ss i.toNat)) (sc_length _) (sc_one _) ?_; refine zxa ?_; refine gnt (gc_ret (gx_retct rfl rfl (by conv => lhs; whnf) (ldA Ty.row_98 Ty.sz_98) ?_)); exact fun w' hw => ⟨(), by rw [e, eV_zero]; rfl, St.dk (hw.z) rfl rfl rfl rfl rfl rfl⟩
theorem size_ok {w : World} {F : Nat → Prop} {g : Nat} {d : DS} (h : stars [DiskR g d] w F) :
    Calls Tryz.prog 70 #[.pointer (some ⟨g, 0, none⟩)] w (Post w F (fun _ : Unit => .int .i64 d.n) (fun _ => [DiskR g d])) := by
 obtain ⟨b, m, h⟩ := dk_open h; refine g_enter (env := [(0, .pointer (some ⟨g, 0, none⟩))]) Tryz.func70 rfl h Tryz.ntmps70 rfl rfl ?_; refine gsr (zxa ?_); refine zxs ?_; refine zxm ?_; refine gp znc ?_; refine gp zfa ?_; refine gp zl ?_; refine gp zln ?_; refine zxa ?_; refine gnt (gc_ret (gx_ret1 rfl (by conv => lhs; whnf) ?_)); exact fun w' hw => ⟨(), rfl, St.dk (hw.z) rfl rfl rfl rfl rfl rfl⟩
end
section
attribute [local irreducible] Gl Gc Gx Gs Runs Wt
theorem unsynced_ok {w : World} {F : Nat → Prop} {g : Nat} {d : DS} (h : stars [DiskR g d] w F) (hk : DOk d) :
    Calls Tryz.prog 56 #[.pointer (some ⟨g, 0, none⟩)] w (Post w F (fun r : Option Addr × Nat => .slice r.1 d.ws.length r.2) (fun r => [rowR 3 1 r.1 d.ws.length r.2 ((sortZ (keysW d.ws)).map (Value.int .i64)), DiskR g d])) := by
 obtain ⟨b, m, h⟩ := dk_open h; refine g_enter (env := [(0, .pointer (some ⟨g, 0, none⟩))]) Tryz.func56 rfl h Tryz.ntmps56 rfl rfl ?_; refine gsr (zxa ?_); refine zxs ?_; refine zxm ?_; refine gp znc ?_; refine gp zfa ?_; refine gp zl ?_; refine zc (fun b7 => ?_) (c := fun w1 F1 F2 h1 h2 hd hst => keys_ok (m := m) h1)
 refine zc ?_ (c := fun w1 F1 F2 h1 h2 hd hst => sortedK_ok (l := encW d.ws) h1 (by rw [encW_keys]; exact hk.nd) (encW_range hk) (encW_len hk))
 rintro ⟨a8, c8⟩
 rw [encW_keys]; rw [show (encW d.ws).length = d.ws.length from List.length_map _]; refine zxa ?_; refine gnt (gc_ret (gx_ret1 rfl (by conv => lhs; whnf) ?_)); exact fun w' hw => ⟨(a8, c8), rfl, (St.dk (L := [rowR 3 1 a8 d.ws.length c8 ((sortZ (keysW d.ws)).map (Value.int .i64))]) (hw.z) rfl rfl rfl rfl rfl rfl).z⟩
theorem sync_ok' {w : World} {F : Nat → Prop} {g : Nat} {d : DS} (h : stars [DiskR g d] w F) (hk : DOk d) {ea : Nat → Addr} {es : List Nat} [Has es 1] [Has es 6] (hE : GErr es w (fun k => ¬ F k) 241 ea) :
    Calls Tryz.prog 39 #[.pointer (some ⟨g, 0, none⟩)] w (Post w F (fun _ : Unit => eV 241 ea (if (oper d).off then 6 else 0)) (fun _ => [DiskR g d.syncd])) := by
 refine g_enter (env := [(0, .pointer (some ⟨g, 0, none⟩))]) Tryz.func39 rfl h Tryz.ntmps39 rfl rfl ?_; refine gsr (zxa ?_); refine gnt (gc_seq (gsr (zxm ?_))); refine zc (fun _ => ?_) (c := fun w1 F1 F2 h1 h2 hd hst => operate_ok h1 hk (hE.mv hst.still))
 refine zxa ?_; refine zxs ?_; refine zxm ?_; refine gp (r_bool (c := (oper d).off) (r_nenil rfl (by kernel_rfl)) (by cases (oper d).off <;> rfl)) ?_; refine gnt (gif rfl (fun hc9 => ?_) (fun hc9 => ?_))
 ·refine gsr (zxm ?_); refine zxa ?_; refine gnt (gc_ret (gx_then_ret (gx_ret1 rfl (by conv => lhs; whnf) ?_))); exact fun w' hw => ⟨(), by rw [if_pos hc9], by rw [DS.syncd, if_pos hc9]; exact hw.z⟩
 ·try simp only at hc9
  have hk2 := oper_ok hk
  have ed : d.syncd = (oper d).sync := by rw [DS.syncd, if_neg (by rw [hc9]; decide)]
  generalize hd2 : oper d = d2 at *
  refine gc_dk (by repeat (first | exact Pick.here | apply Pick.there)) (fun b m => ?_)
  refine gc_skip (gx_then (gc_seq (gsr (zxm ?_)))); refine gp znc ?_; refine gp zfa ?_; refine gp zl ?_; refine gl_range (wt0 rfl) rfl Ty.un_83 (by repeat (first | exact Pick.here | apply Pick.there)) (fun r => ?_)
  refine gnt (gc_block (gc_loop (α := List (Int × Sec) × (Nat → Sec) × Option (Value × Value)) (fun q => [pureR (SyncInv d2 q.1 q.2.1), blk g 85 [.slice (some ⟨b, 0, none⟩) d2.n d2.n, .map (some m), .bool d2.off, .bool d2.armed, .int .i64 d2.left], blk b 98 (secs d2.n q.2.1), itR r m (encK (Value.int .i64) (encW d2.ws)) (encK (Value.int .i64) (encW q.1)) q.2.2]) (fun q => []) [4, 5, 16, 17, 18, 19, 20, 21, 22, 23, 24, 25, 26, 27] (fun q => q.1.length) (d2.ws, d2.ss, none) ?_ ?_ ?_))
  ·refine env_start (by kernel_rfl)
  ·exact zlp (SyncInv.start d2)
  ·intro q u; obtain ⟨lw, f, la⟩ := q; refine gc_pureR (fun hi => ?_)
   replace hi : SyncInv d2 lw f := hi
   refine gsr (gl_nextO (wt0 rfl) rfl (by repeat (first | exact Pick.here | apply Pick.there)) (fun o16 h16 => ?_))
   rcases o16 with _ | ⟨A', p, B'⟩
   ·have h16 : encK (Value.int .i64) (encW lw) = [] := h16
    have hlw := encKW_nil h16
    subst hlw; refine gp zex ?_; refine gnt (gc_seq (gc_condF rfl rfl ?_)); refine gc_exit ?_; refine gx_then_exit ?_; refine gx_round_exit ?_; refine gx_block_hit ?_; refine gx_then (gsr (gl_itMap (by repeat (first | exact Pick.here | apply Pick.there)) ?_)); refine zxm ?_; refine gp znc ?_; refine gp zfa ?_; refine gp zl ?_; refine gl_clear (wt0 rfl) rfl Ty.un_83 (by repeat (first | exact Pick.here | apply Pick.there)) ?_; refine zxs ?_; refine zxa ?_; refine gnt (gc_ret (gx_ret1 rfl (by conv => lhs; whnf) ?_)); exact fun w' hw => ⟨(), by rw [if_neg (by rw [hc9]; decide), eV_zero], by rw [ed]; exact St.dk (d := d2.sync) (hw.z) rfl rfl rfl rfl (secs_ext fun i hi' => hi.done i) rfl⟩
   ·have h16 : encK (Value.int .i64) (encW lw) = A' ++ p :: B' := h16
    obtain ⟨A, kk, v, B, rfl, rfl, rfl, rfl⟩ := encKW_split h16; have hkk := hi.key hk2
    refine gp zex ?_; refine gnt (gc_seq (gc_condT rfl rfl ?_)); refine gc_skip (gx_then (gc_block (gsr (gp (r_entry rfl (by repeat (first | exact Pick.here | apply Pick.there))) ?_)))); refine gp zex ?_; refine gp zex ?_; refine zal fun b5 => ?_; refine zxa ?_; refine zsA (sc_length _) (sc_one _) ?_; refine gnt (gc_regionT 7 (by kernel_rfl) (by kernel_rfl) ?_); refine sp zmv ?_; refine sp znc ?_; refine sp zfa ?_; refine sp (zl) ?_; refine sp zmv ?_; refine sp zL ?_; refine sp (zia) ?_; refine gs_nil ?_; refine gl_stS (m := d2.n) (f := f) (v := v) kk.toNat (by omega) ?_; refine gl_nil (gx_block_normal (zrd ((A ++ B, updS f kk.toNat v, some (Value.int .i64 kk, scV v))) ?_ ?_))
    ·simp
    ·have eAB : encK (Value.int .i64) (encW (A ++ B)) = encK (Value.int .i64) (encW A) ++ encK (Value.int .i64) (encW B) := by simp [encK, encW]
     simp only [eAB]
     exact zlp (hi.step hk2)
theorem crash_ok' {w : World} {F : Nat → Prop} {g : Nat} {d : DS} (h : stars [DiskR g d] w F) (hk : DOk d) {kb : List Bool} {ak : Option Addr} {nk ck : Nat} (hb : RdRow w (fun k => ¬ F k) 1 ak nk (kb.map Value.bool)) :
    Calls Tryz.prog 29 #[.pointer (some ⟨g, 0, none⟩), .slice ak nk ck] w (Post w F (fun _ : Unit => .tuple #[]) (fun _ => [DiskR g (d.crash kb)])) := by
 have hnk : nk = kb.length := by have := hb.1; simp at this; omega
 have hsl := sortZ_len d
 have hwl := ws_len hk
 have hn4 := hk.n
 refine g_enter (env := [(0, .pointer (some ⟨g, 0, none⟩)), (1, .slice ak nk ck)]) Tryz.func29 rfl h Tryz.ntmps29 rfl rfl ?_; refine gc_seq (gsr (zxm ?_)); refine zc ?_ (c := fun w1 F1 F2 h1 h2 hd hst => unsynced_ok h1 hk)
 rintro ⟨a7, c7⟩
 refine gl_dk (by repeat (first | exact Pick.here | apply Pick.there)) (fun b m => ?_)
 refine gp zln ?_; refine zxm ?_; refine gnt (gc_block (gc_loop (α := Nat) (fun j => [pureR (j ≤ d.ws.length), blk g 85 [.slice (some ⟨b, 0, none⟩) d.n d.n, .map (some m), .bool d.off, .bool d.armed, .int .i64 d.left], blk b 98 (secs d.n (keepF (sortZ (keysW d.ws)) kb d.ws d.ss j)), mapR m (encK (Value.int .i64) (encW d.ws)), rowR 3 1 a7 d.ws.length c7 ((sortZ (keysW d.ws)).map (Value.int .i64))]) (fun j => [(9, .int .i64 (j : Int))]) [4, 5, 10, 11, 12, 13, 14, 15, 16, 17, 18, 19, 20, 21, 22, 23, 24, 25, 26, 27, 28, 29, 30, 31, 32, 33, 34, 35, 36] (fun j => d.ws.length - j) 0 ?_ ?_ ?_))
 ·refine env_start (by kernel_rfl)
 ·exact zlp (Nat.zero_le _)
 ·intro j u; refine gc_pureR (fun hj => ?_)
  replace hj : j ≤ d.ws.length := hj
  refine gsr (gp zlt ?_); refine gnt (gc_seq (gif rfl (fun hc10 => ?_) (fun hc10 => ?_)))
  ·try simp only at hc10
   have hj' : j < d.ws.length := by omega
   have hkk := sortZ_key hk (j := j) (by omega)
   refine gc_fact (p := ∃ ga oa, a7 = some ⟨ga, oa, none⟩) (fun w hw => (by obtain ⟨ga, oa, ha, _⟩ := (hw.row (a := a7) (by repeat (first | exact Pick.here | apply Pick.there))).2.2 (by omega); exact ⟨ga, oa, ha⟩)) (fun hx7 => ?_)
   obtain ⟨ga, oa, ha⟩ := hx7; subst ha; refine gc_skip (gx_then (gc_seq (gc_block (gsr (zxm ?_))))); refine gp (zia) ?_; refine gp (r_ld1r (v := .int .i64 ((sortZ (keysW d.ws)).getD j 0)) rfl Ty.row_3 (by repeat (first | exact Pick.here | apply Pick.there)) (by simp [List.getD, hsl, hj'])) ?_; refine zxa ?_; refine zxa ?_; refine gnt (gc_seq ?_); by_cases hjn : j < nk
   ·obtain ⟨gk, ok, hak, hAk, _, hrk⟩ := hb.elem hjn; subst hak; refine gc_region (zxm ?_); refine zxm ?_; refine gp zln ?_; refine gp (r_bool (c := true) zlt (decide_eq_true (by omega))) ?_; refine zxm ?_; refine gq zmv ?_; refine gq zmv ?_; refine gq (zia) ?_; refine gq (r_ld1o (v := .bool (kb.getD j false)) rfl Ty.row_4 (hrk 0 _ (by simp [List.getD, ← hnk, hjn, show j < kb.length by omega])) hAk) ?_; refine gp zpk ?_; refine gnt (gif rfl (fun hc23 => ?_) (fun hc23 => ?_))
    ·refine gc_regionT 12 (by kernel_rfl) (by kernel_rfl) ?_; refine sp zmv ?_; refine sp znc ?_; refine sp zfa ?_; refine sp zl ?_; refine sp zmv ?_; refine sp zmv ?_; refine sp znc ?_; refine sp zfa ?_; refine sp zl ?_; refine sp zmv ?_; refine sp (r_lookW1 rfl rfl (by repeat (first | exact Pick.here | apply Pick.there))) ?_; refine sp (zia) ?_; refine gs_nil ?_; refine gl_stS (m := d.n) ((sortZ (keysW d.ws)).getD j 0).toNat (by omega) ?_; refine gl_nil (gx_block_normal (gx_then (gc_region (gp zad ?_)))); refine zxm ?_; refine gl_nil (zrd (j + 1) ?_ ?_)
     ·show d.ws.length - (j + 1) < d.ws.length - j
      omega
     ·simp only [keepF_yes hc23]
      exact zlp (show j + 1 ≤ d.ws.length by omega)
    ·refine gc_skip (gx_block_normal (gx_then (gc_region (gp zad ?_)))); refine zxm ?_; refine gl_nil (zrd (j + 1) ?_ ?_)
     ·show d.ws.length - (j + 1) < d.ws.length - j
      omega
     ·simp only [keepF_no (show kb.getD j false = false by exact hc23)]
      exact zlp (show j + 1 ≤ d.ws.length by omega)
   ·refine gc_region (zxm ?_); refine zxm ?_; refine gp zln ?_; refine gp (r_bool (c := false) zlt (decide_eq_false (by omega))) ?_; refine zxm ?_; refine gn ?_; refine gn ?_; refine gn ?_; refine gn ?_; refine gp zpk ?_; refine gnt (gc_condF rfl rfl ?_); refine gc_skip (gx_block_normal (gx_then (gc_region (gp zad ?_)))); refine zxm ?_; refine gl_nil (zrd (j + 1) ?_ ?_)
    ·show d.ws.length - (j + 1) < d.ws.length - j
     omega
    ·simp only [keepF_no (show kb.getD j false = false by (have h9 : kb[j]? = none := List.getElem?_eq_none (by omega)); simp only [List.getD, h9, Option.getD_none])]
     exact zlp (show j + 1 ≤ d.ws.length by omega)
  ·try simp only at hc10
   have hj' : j = d.ws.length := by omega
   refine gc_exit ?_; refine gx_then_exit ?_; refine gx_round_exit ?_; refine gx_block_hit ?_; refine gx_then (gsr (zxm ?_)); refine gp znc ?_; refine gp zfa ?_; refine gp zl ?_; refine gl_clear (wt0 rfl) rfl Ty.un_83 (by repeat (first | exact Pick.here | apply Pick.there)) ?_; refine gnt (gc_region (zxm ?_)); refine zxm ?_; refine gp znc ?_; refine gp zfa ?_; refine zs1 ?_; refine gp znc ?_; refine gp zfa ?_; refine zs1 ?_; refine gl_nil (gx_ret0' rfl ?_); exact fun w' hw => ⟨(), rfl, St.dk (d := d.crash kb) (hw.z) rfl rfl rfl rfl (by rw [hj', ← hsl]; rfl) rfl⟩
end
section
theorem updL_set {α : Type} {V : α → Value} {l : List α} {i : Nat} {y : α} (h : i < l.length) : updL (l.map V) i [V y] = (l.set i y).map V := by
  apply List.ext_getElem?
  intro j
  simp only [updL, List.length_singleton]
  rw [List.getElem?_map, List.getElem?_set]
  by_cases h1 : j < i
  · rw [List.getElem?_append_left (by simp; omega), List.getElem?_take, if_pos h1, List.getElem?_map, if_neg (by omega)]
  · by_cases h2 : j = i
    · subst h2
      rw [List.getElem?_append_right (by simp; omega)]
      simp [show min j l.length = j by omega, h]
    · rw [List.getElem?_append_right (by simp; omega), List.getElem?_append_right (by simp; omega), List.getElem?_drop, List.getElem?_map, if_neg (fun e => h2 e.symm)]
      congr 2
      simp; omega
def updY (o : Nat) (m l : List UInt8) : List UInt8 := l.take o ++ (m ++ l.drop (o + m.length))
theorem updL_updY (o : Nat) (m l : List UInt8) : updL (l.map B8) o (m.map B8) = (updY o m l).map B8 := by
  simp [updL, updY, List.map_take, List.map_drop]
section
variable {P : Program} {w0 : World} {F0 : Nat → Prop} {L : List Res} {Q : Exit → Act → World → Prop} {n : Fm} {env : Env} {ops : Array Oper} {rest : List Oper} {ty : TypeId} {pos : String} {af : Array Edge} {gd : Option (Nat × Bool)} {d : Option Tmp}
theorem r_ldY {x : Operand} {T g o : Nat} {l : List UInt8} {L' : List Res} {T' : Nat} [RO P T] (i : Nat) (hi : i < l.length) (hx : ev n env x = .pointer (some ⟨g, o, none⟩) := by exact rfl) (ho : o = i := by omega) (hp : Pick L (blk g T' (l.map B8)) L' := by repeat (first | exact Pick.here | apply Pick.there)) :
    Runs P w0 F0 L n env ⟨d, .load T x, ty, pos, af, gd⟩ (B8 (l.getD i 0)) := r_ld1 hx RO.h hp (by subst ho; simp [List.getD, hi])
theorem gl_stY {x y : Operand} {T g o : Nat} {l l' : List UInt8} {v : UInt8} {L' : List Res} {T' : Nat} [SZ P T 1] (i : Nat) (hi : i < l.length) (hf : l.set i v = l') (k : Gl P w0 F0 (blk g T' (l'.map B8) :: L') ops Q rest n env) (hx : ev n env x = .pointer (some ⟨g, o, none⟩) := by exact rfl) (hy : ev n env y = B8 v := by exact rfl) (ho : o = i := by omega)
    (hp : Pick L (blk g T' (l.map B8)) L' := by repeat (first | exact Pick.here | apply Pick.there)) (hw : Wt ops n env ⟨none, .store T x y, ty, pos, af, gd⟩ true := by first | exact wt0 rfl | exact wtgT rfl rfl rfl rfl) :
    Gl P w0 F0 L ops Q (⟨none, .store T x y, ty, pos, af, gd⟩ :: rest) n env := by
  subst ho; subst hf
  exact gl_store1 hw hx hy rfl SZ.h hp (by rw [List.length_map]; omega) (updL_set hi) k
theorem r_max {x y : Operand} {T1 T2 : TypeId} {k : IntKind} {i j : Int} (hx : ev n env x = .int k i := by exact rfl) (hy : ev n env y = .int k j := by exact rfl) :
    Runs P w0 F0 L n env ⟨d, .call ⟨.builtin .max, #[x, y], #[T1, T2]⟩, ty, pos, af, gd⟩ (.int k (if i < j then j else i)) := fun w _ => by
  simp only [execOp, resolve, invoke, builtin]
  simp [hx, hy, Builtin.max_, Builtin.max2]
theorem r_nepn {x : Operand} {T T' e : TypeId} {a : Option Addr} (hx : ev n env x = .pointer a := by exact rfl) (ht : P.underlying T = some (.pointer e)) :
    Runs P w0 F0 L n env ⟨d, .binOp .neq T x (.const (.pointer none)) T', ty, pos, af, gd⟩ (.bool (!a.isNone)) := fun w _ => by
  have h : ∀ d : Nat, (Op.equalIn (d + 1) T (.pointer a) (.pointer none)).run P w = .ok a.isNone w := fun d => by
    cases a <;> simp [Op.equalIn, run_underlying ht]
  have h9 := h 9999
  have hc : ev n env (.const (.pointer none)) = .pointer none := rfl
  simp only [execOp, hx, hc]
  simp [eqGuard, binOp, Op.equal, Op.maxDepth, h9]
theorem rd_blkY {L L' : List Res} {w : World} {F1 F2 : Nat → Prop} {g T o m : Nat} {l : List UInt8} (h2 : stars L w F2) (hd : ∀ k, F1 k → ¬ F2 k) (hp : Pick L (blk g T (l.map B8)) L') (hl : o + m ≤ l.length) (hm : m ≤ maxLen) :
    RdRow w (fun k => ¬ F1 k) 1 (some ⟨g, o, none⟩) m (((l.drop o).take m).map B8) := by
  obtain ⟨F', h', hs⟩ := stars_pick hp h2
  exact (RdRow.of_blk h' (n := m) (size := 1) (o := o) (by rw [Nat.mul_one, List.map_take, List.map_drop]) (by simp; omega) hm).mv fun k _ hk => ⟨rfl, fun h1 => hd k h1 (hs k hk)⟩
theorem St.rdBlkY {w : World} {g T o m : Nat} {l : List UInt8} {L' : List Res} (hs : St w0 F0 L w) (hp : Pick L (blk g T (l.map B8)) L') (hl : o + m ≤ l.length) (hm : m ≤ maxLen) : RdRow w (fun _ => True) 1 (some ⟨g, o, none⟩) m (((l.drop o).take m).map B8) := by
  obtain ⟨F, hF, _⟩ := hs
  obtain ⟨F', h', _⟩ := stars_pick hp hF
  exact (RdRow.of_blk h' (n := m) (size := 1) (o := o) (by rw [Nat.mul_one, List.map_take, List.map_drop]) (by simp; omega) hm).mv fun k _ hk => ⟨rfl, trivial⟩
theorem RdRow.cutY {w : World} {A : Nat → Prop} {n c h : Nat} {a : Option Addr} {xs : List UInt8} (hr : RdRow w A 1 a n (xs.map B8)) (h2 : h ≤ n) (h3 : n ≤ c) : RdRow w A 1 (if c = 0 then a else a.map (·.add (0 * 1))) h ((xs.take h).map B8) := by
  have := hr.cut8 (l := 0) (h := h) (Nat.zero_le _) h2 h3
  rwa [List.drop_zero, Nat.sub_zero] at this
end
end
section
def mx0 (c : Int) : Int := if c < 0 then 0 else c
def body7 (c : Int) (r : List UInt8) : List UInt8 := beN c 8 ++ UInt8.ofNat r.length :: (r ++ List.replicate (31 - r.length) 0)
theorem body7_len {c : Int} {r : List UInt8} (h : r.length ≤ 31) : (body7 c r).length = 40 := by simp [body7, beN_length]; omega
theorem take31 (r : List UInt8) : (r.take 31).length ≤ 31 := by rw [List.length_take]; omega
def sum7 (c : Int) (r : List UInt8) : List UInt8 := (dOf Kc 5 [body7 c r]).l
theorem sum7_len (c : Int) (r : List UInt8) : (sum7 c r).length = 16 := (dOf Kc 5 [body7 c r]).h
def slotL (c : Int) (r : List UInt8) : List UInt8 := body7 c r ++ (sum7 c r ++ List.replicate 8 0)
def slotS (c : Int) (r : List UInt8) : Sec := ⟨slotL (mx0 c) (r.take 31), by rw [slotL, List.length_append, List.length_append, body7_len (take31 r), sum7_len]; simp⟩
theorem slot_build {c : Int} {r : List UInt8} (h : r.length ≤ 31) : updY 40 (sum7 c r) ((updY 9 r (beN c 8 ++ List.replicate 56 0)).set 8 (UInt8.ofNat r.length)) = slotL c r := by
  have hb := beN_length c 8
  have e1 : updY 9 r (beN c 8 ++ List.replicate 56 0) = beN c 8 ++ 0 :: (r ++ List.replicate (55 - r.length) 0) := by
    rw [updY, List.take_append, List.drop_append, hb, List.take_of_length_le (by omega), List.drop_eq_nil_of_le (by omega)]
    simp only [List.nil_append, List.drop_replicate, List.append_assoc]
    rw [show List.take (9 - 8) (List.replicate 56 (0 : UInt8)) = [0] from rfl]
    simp only [List.cons_append, List.nil_append]
    rw [show 56 - (9 + r.length - 8) = 55 - r.length by omega]
  have e2 : (beN c 8 ++ 0 :: (r ++ List.replicate (55 - r.length) 0)).set 8 (UInt8.ofNat r.length) = body7 c r ++ List.replicate 24 0 := by
    rw [List.set_append_right _ _ (by omega), hb, body7]
    simp only [Nat.sub_self, List.set_cons_zero, List.append_assoc, List.cons_append]
    rw [show 55 - r.length = (31 - r.length) + 24 by omega, ← List.replicate_append_replicate]
  rw [e1, e2, updY, List.take_append, List.drop_append, body7_len h, List.take_of_length_le (by rw [body7_len h]; omega), List.drop_eq_nil_of_le (by rw [body7_len h]; omega), sum7_len, slotL]
  simp
theorem slot_body {c : Int} {r : List UInt8} (h : r.length ≤ 31) : (((updY 9 r (beN c 8 ++ List.replicate 56 0)).set 8 (UInt8.ofNat r.length)).drop 0).take 40 = body7 c r := by
  have e := congrArg (List.take 40) (slot_build (c := c) h)
  have hl : ((updY 9 r (beN c 8 ++ List.replicate 56 0)).set 8 (UInt8.ofNat r.length)).length = 64 := by simp [updY, beN_length]; omega
  rw [updY, List.take_append_of_le_length (by rw [List.length_take, hl]; omega), List.take_take] at e
  rw [List.drop_zero]
  simp only [Nat.min_self] at e
  rw [e, slotL, List.take_append_of_le_length (by rw [body7_len h]; omega), List.take_of_length_le (by rw [body7_len h]; omega)]
theorem slot_step {c : Int} {k : Nat} (hk : k < 8) : ((beN c 8).take k ++ List.replicate (64 - k) 0).set k (byteAt c (8 - 1 - k)) = (beN c 8).take (k + 1) ++ List.replicate (64 - (k + 1)) 0 := by
  have hb := beN_length c 8
  have hk2 : ((beN c 8).take k).length = k := by rw [List.length_take]; omega
  rw [List.set_append_right _ _ (by omega), hk2, Nat.sub_self, show 64 - k = (64 - (k + 1)) + 1 by omega, List.replicate_succ, List.set_cons_zero, List.take_add_one]
  have : (beN c 8)[k]? = some (byteAt c (8 - 1 - k)) := by simp [beN, hk]
  rw [this]
  simp
def cntS (s : Sec) : Nat := valN (s.l.take 8)
def lenS (s : Sec) : Nat := (s.l.getD 8 0).toNat
def recS (s : Sec) : List UInt8 := (s.l.drop 9).take (lenS s)
theorem cntS_lt (s : Sec) : cntS s < 18446744073709551616 := by
  have := valN_lt (s.l.take 8)
  have e : (s.l.take 8).length = 8 := by rw [List.length_take, s.h]; rfl
  rw [e] at this
  exact Nat.lt_of_lt_of_le this (by decide)
theorem recS_len {s : Sec} (h : lenS s ≤ 31) : (recS s).length = lenS s := by rw [recS, List.length_take, List.length_drop, s.h]; omega
def rdSlot (s : Sec) (p : Nat) : Option (Nat × List UInt8) := if cntS s < 9223372036854775808 ∧ cntS s % 2 = p ∧ lenS s ≤ 31 ∧ slotS (cntS s) (recS s) = s then some (cntS s, recS s) else none
theorem rdSlot_some {s : Sec} {p c : Nat} {r : List UInt8} (h : rdSlot s p = some (c, r)) : c = cntS s ∧ r = recS s ∧ c < 9223372036854775808 ∧ c % 2 = p ∧ lenS s ≤ 31 ∧ slotS c r = s ∧ r.length = lenS s := by
  unfold rdSlot at h
  split at h
  · rename_i hc
    cases h
    exact ⟨rfl, rfl, hc.1, hc.2.1, hc.2.2.1, hc.2.2.2, recS_len hc.2.2.1⟩
  · cases h
theorem slot_take8 {c : Nat} {r : List UInt8} (h : c < 9223372036854775808) : (slotS c r).l.take 8 = beN (c : Int) 8 := by
  show (slotL (mx0 c) (r.take 31)).take 8 = _
  rw [mx0, if_neg (by omega), slotL, body7, List.append_assoc, List.take_append_of_le_length (by rw [beN_length]; omega), List.take_of_length_le (by rw [beN_length]; omega)]
theorem slot_cnt {c : Nat} {r : List UInt8} (h : c < 9223372036854775808) : cntS (slotS c r) = c := by
  rw [cntS, slot_take8 h, valN_beN, Nat.mod_eq_of_lt (Nat.lt_trans h (by decide))]
theorem slot_drop8 {c : Nat} {r : List UInt8} (h : c < 9223372036854775808) (hr : r.length ≤ 31) : (slotS c r).l.drop 8 = UInt8.ofNat r.length :: (r ++ (List.replicate (31 - r.length) 0 ++ (sum7 c r ++ List.replicate 8 0))) := by
  show (slotL (mx0 c) (r.take 31)).drop 8 = _
  rw [mx0, if_neg (by omega), List.take_of_length_le hr, slotL, body7, List.append_assoc, List.drop_append, beN_length, List.drop_eq_nil_of_le (by rw [beN_length]; omega)]
  simp
theorem slot_len {c : Nat} {r : List UInt8} (h : c < 9223372036854775808) (hr : r.length ≤ 31) : lenS (slotS c r) = r.length := by
  have e : (slotS c r).l.getD 8 0 = UInt8.ofNat r.length := by
    have := congrArg (fun l => l[0]?) (slot_drop8 (r := r) h hr)
    simp only [List.getElem?_drop, List.getElem?_cons_zero, Nat.add_zero] at this
    simp [List.getD, this]
  rw [lenS, e, UInt8.toNat_ofNat']
  omega
theorem slot_rec {c : Nat} {r : List UInt8} (h : c < 9223372036854775808) (hr : r.length ≤ 31) : recS (slotS c r) = r := by
  rw [recS, slot_len h hr, show (slotS c r).l.drop 9 = ((slotS c r).l.drop 8).drop 1 by rw [List.drop_drop], slot_drop8 h hr]
  simp
theorem rd_slot {c : Nat} {r : List UInt8} (h : c < 9223372036854775808) (hr : r.length ≤ 31) : rdSlot (slotS c r) (c % 2) = some (c, r) := by
  rw [rdSlot, slot_cnt h, slot_len h hr, slot_rec h hr, if_pos ⟨h, rfl, hr, rfl⟩]
theorem rd_zero1 : rdSlot sec0 1 = none := by
  have : cntS sec0 = 0 := by simp [cntS, sec0, valN]
  rw [rdSlot, this, if_neg (by omega)]
end
section
theorem take_snoc' {l : List UInt8} {k : Nat} (h : k < l.length) : l.take (k + 1) = l.take k ++ [l.getD k 0] := by
  rw [List.take_add_one, List.getElem?_eq_getElem h]; simp [List.getD, h]
theorem take_take31 (r : List UInt8) : r.take (r.take 31).length = r.take 31 := by
  rw [List.length_take]
  by_cases h : r.length ≤ 31
  · rw [Nat.min_eq_right h, List.take_length, List.take_of_length_le h]
  · rw [Nat.min_eq_left (by omega)]
theorem conv_len {m : Nat} (h : m ≤ 255) : Value.int .u8 (IntKind.u8.wrap (m : Int)) = B8 (UInt8.ofNat m) := by
  rw [wrap_u8 (by omega) (by omega), B8, UInt8.toNat_ofNat', Nat.mod_eq_of_lt (by omega)]
theorem wrap_cong {x : Int} : IntKind.i64.wrap x % 18446744073709551616 = x % 18446744073709551616 := by
  simp only [IntKind.wrap, IntKind.bits, IntKind.signed]
  simp
  split <;> omega
theorem wrap_eq {x y : Int} (h : x % 18446744073709551616 = y % 18446744073709551616) : IntKind.i64.wrap x = IntKind.i64.wrap y := by
  simp only [IntKind.wrap, IntKind.bits, IntKind.signed]
  simp only [show ((2 : Int) ^ 64) = 18446744073709551616 by decide, h]
theorem shl8 {m : Nat} : IntKind.i64.wrap (IntKind.i64.wrap (m : Int) * 2 ^ (min (8 : Int).toNat IntKind.i64.bits)) = IntKind.i64.wrap ((m * 256 : Nat) : Int) := by
  have e : (2 : Int) ^ (min (8 : Int).toNat IntKind.i64.bits) = 256 := by decide
  rw [e]
  apply wrap_eq
  have := wrap_cong (x := (m : Int))
  rw [Int.mul_emod, this, ← Int.mul_emod]
  simp
theorem orW {m : Nat} {b : UInt8} (h : m < 72057594037927936) : bitop .or .i64 (IntKind.i64.wrap ((m * 256 : Nat) : Int)) (b.toNat : Int) = IntKind.i64.wrap ((m * 256 + b.toNat : Nat) : Int) := by
  have hb := b.toNat_lt
  have e : m * 256 ||| b.toNat = m * 256 + b.toNat := by
    have := Nat.shiftLeft_add_eq_or_of_lt (i := 8) (b := b.toNat) (by omega) m
    rw [Nat.shiftLeft_eq] at this
    exact this.symm
  have h64 : (2 : Nat) ^ 64 = 18446744073709551616 := by decide
  have h0 : (BitVec.ofInt IntKind.i64.bits (IntKind.i64.wrap ((m * 256 : Nat) : Int))).toNat = m * 256 := by
    show (BitVec.ofInt 64 _).toNat = _
    rw [BitVec.toNat_ofInt, show (((2 ^ 64 : Nat)) : Int) = 18446744073709551616 by decide, wrap_cong]
    omega
  have h1 : (BitVec.ofInt IntKind.i64.bits (IntKind.i64.wrap ((m * 256 : Nat) : Int)) ||| BitVec.ofInt IntKind.i64.bits ((b.toNat : Nat) : Int)).toNat = m * 256 + b.toNat := by
    rw [BitVec.toNat_or, h0, BitVec.ofInt_natCast, BitVec.toNat_ofNat]
    simp only [IntKind.bits]
    rw [h64, Nat.mod_eq_of_lt (by omega), e]
  show IntKind.i64.wrap ((BitVec.ofInt IntKind.i64.bits (IntKind.i64.wrap ((m * 256 : Nat) : Int)) ||| BitVec.ofInt IntKind.i64.bits ((b.toNat : Nat) : Int)).toNat : Int) = _
  rw [h1]
theorem wrap_big {x : Nat} (h : 9223372036854775808 ≤ x) (h2 : x < 18446744073709551616) : IntKind.i64.wrap (x : Int) < 0 := by
  simp only [IntKind.wrap, IntKind.bits, IntKind.signed]
  simp
  split <;> omega
theorem valN_lt7 {l : List UInt8} {k : Nat} (h : k < 8) : valN (l.take k) < 72057594037927936 := by
  refine Nat.lt_of_lt_of_le (valN_lt _) ?_
  have : (l.take k).length ≤ 7 := by rw [List.length_take]; omega
  exact Nat.le_trans (Nat.pow_le_pow_right (by decide) this) (by decide)
section
variable {P : Program} {w0 : World} {F0 : Nat → Prop} {L : List Res} {n : Fm} {env : Env}
theorem gx_ret3 {fn : Func} {R : Ending → World → Prop} {t u s : Tmp} {v x y : Value} (hr : fn.results = #[.tmp t, .tmp u, .tmp s]) (hv : ev n env (.tmp t) = v) (hx : ev n env (.tmp u) = x) (hy : ev n env (.tmp s) = y)
    (hR : ∀ w, St w0 F0 L w → R (.returned (.tuple #[v, x, y])) w) (hd : n.ds = [] := by rfl) : Gx w0 F0 L (bodyPost P fn R) .ret n env :=
  gx_end (fun w _ => by simp [results, hr, fr_tmp' hv, fr_tmp' hx, fr_tmp' hy]) hR hd
end
attribute [local irreducible] Gl Gc Gx Gs Runs Wt
theorem slot_ok {w : World} {F : Nat → Prop} {c : Int} {a : Option Addr} {n cc : Nat} {r : List UInt8} (h : stars [] w F) (hK : KR w (fun k => ¬ F k)) (hr : RdRow w (fun k => ¬ F k) 1 a n (r.map B8)) (hc : n ≤ cc) :
    Calls Tryz.prog 38 #[.int .i64 c, .slice a n cc] w (Post w F (fun _ : Unit => scV (slotS c r)) (fun _ => [])) := by
 have hn : n = r.length := by have := hr.1; simp at this; omega
 have hm31 := take31 r
 have hm : (r.take 31).length = min 31 r.length := List.length_take
 have hrow := hr.cutY (h := (r.take 31).length) (by omega) hc
 rw [take_take31] at hrow; have hb8 := beN_length (mx0 c) 8
 refine g_enter (env := [(0, .int .i64 c), (1, .slice a n cc)]) Tryz.func38 rfl h Tryz.ntmps38 rfl rfl ?_; refine gsr (zal fun b4 => ?_); refine zxs ?_; refine zal fun b5 => ?_; refine gl_eqc (cs' := (List.replicate 64 (0 : UInt8)).map B8) (by repeat (first | exact Pick.here | apply Pick.there)) (by simp [B8]) ?_; refine zxs ?_; refine zxm ?_; refine gp (r_int (j := mx0 c) r_max rfl) ?_; refine zxa ?_; refine gnt (gc_seq (gsr (zxm ?_))); refine gnt (gc_block (gc_loop (α := Nat) (fun k => [pureR (k ≤ 8), blk b4 98 (List.replicate 64 (.int .u8 0)), blk b5 98 (((beN (mx0 c) 8).take k ++ List.replicate (64 - k) 0).map B8)]) (fun k => [(11, .int .i64 (k : Int))]) [6, 12, 13, 14, 15, 16, 17, 18, 19, 20, 21, 22] (fun k => 8 - k) 0 ?_ ?_ ?_))
 ·refine env_start (by kernel_rfl)
 ·simp only [List.take_zero, List.nil_append, Nat.sub_zero]
  exact zlp (Nat.zero_le _)
 ·intro k u; refine gc_pureR (fun hk => ?_)
  replace hk : k ≤ 8 := hk
  refine gsr (gp zlt ?_); refine gnt (gc_seq (gif rfl (fun hc12 => ?_) (fun hc12 => ?_)))
  ·try simp only at hc12
   have hk' : k < 8 := by omega
   refine gc_skip (gx_then (gc_seq (gc_block (gsr (zxm ?_))))); refine zxa ?_; refine gnt (gc_region (zxm ?_)); refine zxm ?_; refine zxm ?_; refine gp zsb ?_; refine gp zml ?_; refine gp zhr ?_; refine gp (r_val zci (byte_shr (wd := 8) (k := k) (i := 7 - (k : Int)) (by omega) hk' (by decide))) ?_; refine gp zib ?_; refine gl_stY (l := (beN (mx0 c) 8).take k ++ List.replicate (64 - k) 0) k (by simp; omega) (slot_step hk') ?_; refine gl_nil (gx_block_normal (gx_then (gc_region (gp zad ?_)))); refine zxm ?_; refine gl_nil (zrd (k + 1) ?_ ?_)
   ·show 8 - (k + 1) < 8 - k
    omega
   ·exact zlp (show k + 1 ≤ 8 by omega)
  ·try simp only at hc12
   have hk' : k = 8 := by omega
   subst hk'; refine gc_eqc (g := b5) (cs' := (beN (mx0 c) 8 ++ List.replicate 56 0).map B8) (by repeat (first | exact Pick.here | apply Pick.there)) (by rw [List.take_of_length_le (by omega)]) ?_; refine gc_exit ?_; refine gx_then_exit ?_; refine gx_round_exit ?_; refine gx_block_hit ?_; refine gx_then (gc_seq (gc_regionT 6 (by kernel_rfl) (by kernel_rfl) ?_)); refine sp (r_slice_arr (l := 9) (h := 40) rfl Ty.arr_98 Ty.sz_5 ⟨_, rfl⟩ ⟨_, rfl⟩ (by omega) (by omega) (by omega)) ?_; refine sp zmv ?_; refine sp zmv ?_; refine sp zln ?_; refine sp (r_int (j := (((r.take 31).length : Nat) : Int)) r_min (by split <;> omega)) ?_; refine sp (r_slice_slice (a := a) (m := n) (c := cc) (l := 0) (h := (r.take 31).length) rfl Ty.sl_22 Ty.sz_5 rfl ⟨_, rfl⟩ (Nat.zero_le _) (by omega)) ?_; refine gs_nil ?_; refine gl_copy (news := (r.take 31).map B8) (hr := fun w' hw => hw.rdOld hrow) (hj := by omega) (h1 := one_B8 _) (hl := by simp; omega) (k := ?_)
   refine gl_eqc (cs' := (updY 9 (r.take 31) (beN (mx0 c) 8 ++ List.replicate 56 0)).map B8) (by repeat (first | exact Pick.here | apply Pick.there)) (updL_updY 9 _ _) ?_; refine zxa ?_; refine zxs ?_; refine zxm ?_; refine gp (r_val zci (conv_len (m := (r.take 31).length) (by omega))) ?_; refine gp zib ?_; refine gl_stY (l := (updY 9 (r.take 31) (beN (mx0 c) 8 ++ List.replicate 56 0))) (v := UInt8.ofNat (r.take 31).length) 8 (by simp [updY]; omega) rfl ?_; refine zxs ?_; refine gp (r_slice_arr (l := 0) (h := 40) rfl Ty.arr_98 Ty.sz_5 rfl ⟨_, rfl⟩ (by omega) (by omega) (by omega)) ?_; refine ze1 fun b34 => ?_; refine zc (fun _ => ?_) (c := fun w1 F1 F2 h1 h2 hd hst => of_ok (dom := 5) (parts := [body7 (mx0 c) (r.take 31)]) h1 (hK.mv hst.still) (RdList.single (rd_row (xs := [.slice (some ⟨b5, 0 + 0 * 1, none⟩) (40 - 0) (64 - 0)]) h2 hd (by repeat (first | exact Pick.here | apply Pick.there))) ⟨_, _, _, rfl, by decide, (by have hx := rd_blkY (l := ((updY 9 (r.take 31) (beN (mx0 c) 8 ++ List.replicate 56 0)).set 8 (UInt8.ofNat (r.take 31).length))) (o := 0) (m := 40) h2 hd (by repeat (first | exact Pick.here | apply Pick.there)) (by simp [updY]; omega) (by decide); rw [slot_body hm31] at hx; exact hx)⟩) (by simp only [pcost, List.map_cons, List.map_nil, List.sum_cons, List.sum_nil, body7_len hm31]; omega))
   refine zal fun b8 => ?_; refine zsN ?_; refine gnt (gc_seq (gc_regionT 2 (by kernel_rfl) (by kernel_rfl) ?_)); refine sp (r_slice_arr (l := 40) (h := 64) rfl Ty.arr_98 Ty.sz_5 ⟨_, rfl⟩ rfl (by omega) (by omega) (by omega)) ?_; refine sp (r_slice_arr (l := 0) (h := 16) rfl Ty.arr_32 Ty.sz_5 rfl rfl (by omega) (by omega) (by omega)) ?_; refine gs_nil ?_; refine gl_copy (news := (sum7 (mx0 c) (r.take 31)).map B8) (hr := fun w' hw => (by have hx := hw.rdBlkY (l := sum7 (mx0 c) (r.take 31)) (o := 0) (m := 16) (by repeat (first | exact Pick.here | apply Pick.there)) (by rw [sum7_len]; omega) (by decide); rw [List.drop_zero, List.take_of_length_le (by rw [sum7_len]; omega)] at hx; exact hx)) (hj := by omega) (h1 := one_B8 _) (hl := by simp [updY]; omega) (k := ?_)
   refine gl_eqc (cs' := sc (slotS c r)) (by repeat (first | exact Pick.here | apply Pick.there)) ((updL_updY 40 _ _).trans (congrArg (List.map B8) (slot_build hm31))) ?_; refine zxs ?_; refine gp (zL (sg := sc (slotS c r))) ?_; refine zsA (new := sc (slotS c r)) (sc_length _) (sc_one _) ?_; refine gnt (gc_ret (gx_retc rfl rfl (ldA Ty.row_98 Ty.sz_98) ?_)); exact ze ()
theorem slright_ok {w : World} {F : Nat → Prop} {g : Nat} {d : DS} (h : stars [DiskR g d] w F) (hk : DOk d) {i : Int} :
    Calls Tryz.prog 36 #[.pointer (some ⟨g, 0, none⟩), .int .i64 i] w (Post w F (fun _ : Unit => .bool (decide (0 ≤ i) && decide (i < (d.n : Int) - 1))) (fun _ => [DiskR g d])) := by
 have hn4 := hk.n
 refine g_enter (env := [(0, .pointer (some ⟨g, 0, none⟩)), (1, .int .i64 i)]) Tryz.func36 rfl h Tryz.ntmps36 rfl rfl ?_; refine gsr (zxa ?_); refine gnt (gc_seq ?_); by_cases hi : 0 ≤ i
 ·refine gc_region (zxm ?_); refine gp (r_bool (c := true) zge (decide_eq_true hi)) ?_; refine zxm ?_; refine gq zmv ?_; refine gq zmv ?_; refine zc (fun _ => ?_) (c := fun w1 F1 F2 h1 h2 hd hst => size_ok h1)
  refine gq zsb ?_; refine gq zlt ?_; refine gp zpk ?_; refine zxa ?_; refine gnt (gc_ret (gx_ret1 rfl (by conv => lhs; whnf) ?_)); exact fun w' hw => ⟨(), by rw [decide_eq_true hi, Bool.true_and], hw.z⟩
 ·refine gc_region (zxm ?_); refine gp (r_bool (c := false) zge (decide_eq_false hi)) ?_; refine zxm ?_; refine gn ?_; refine gn ?_; refine gn ?_; refine gn ?_; refine gn ?_; refine gp zpk ?_; refine zxa ?_; refine gnt (gc_ret (gx_ret1 rfl (by conv => lhs; whnf) ?_)); exact fun w' hw => ⟨(), by rw [decide_eq_false hi, Bool.false_and], hw.z⟩
end
section
attribute [local irreducible] Gl Gc Gx Gs Runs Wt
theorem read_some {w : World} {F : Nat → Prop} {s : Sec} {p : Nat} (h : stars [] w F) (hK : KR w (fun k => ¬ F k)) {c : Nat} {r : List UInt8} (hS : rdSlot s p = some (c, r)) :
    Calls Tryz.prog 64 #[scV s, .int .i64 (p : Int)] w (Post w F (fun x : Option Addr × Nat => .tuple #[.int .i64 (c : Int), .slice x.1 r.length x.2, .bool true]) (fun x => [rowR 5 1 x.1 r.length x.2 (r.map B8)])) := by
 obtain ⟨hcc, hrr, hc63, hpar, hl31, hsl7, hlr⟩ := rdSlot_some hS; have e9 : 9 + lenS s - 9 = r.length := by omega
 refine g_enter (env := [(0, scV s), (1, .int .i64 (p : Int))]) Tryz.func64 rfl h Tryz.ntmps64 rfl rfl ?_; refine gsr (zbN fun b2 => ?_); refine zxa ?_; refine zxa ?_; refine zxa ?_; refine zxs ?_; refine zxa ?_; refine gnt (gc_seq (gsr (gp (r_slice_arr (l := 0) (h := 8) rfl Ty.arr_98 Ty.sz_5 rfl ⟨_, rfl⟩ (by omega) (by omega) (by omega)) ?_))); refine gp zln ?_; refine zxm ?_; refine gnt (gc_block (gc_loop (α := Nat) (fun k => [pureR (k ≤ 8), blk b2 98 (sc s)]) (fun k => [(13, .int .i64 (k : Int)), (7, .int .i64 (IntKind.i64.wrap ((valN (s.l.take k) : Nat) : Int)))]) [9, 14, 15, 16, 17, 18, 19, 20, 21, 22] (fun k => 8 - k) 0 ?_ ?_ ?_))
 ·refine env_start (by kernel_rfl)
 ·exact zlp (Nat.zero_le _)
 ·intro k u; refine gc_pureR (fun hk => ?_)
  replace hk : k ≤ 8 := hk
  refine gsr (gp zlt ?_); refine gnt (gc_seq (gif rfl (fun hc14 => ?_) (fun hc14 => ?_)))
  ·try simp only at hc14
   have hk' : k < 8 := by omega
   have hb := (s.l.getD k 0).toNat_lt
   have hsl := s.h
   refine gc_skip (gx_then (gc_seq (gc_block (gsr (gp zia ?_))))); refine gp (r_ldY (l := s.l) k (by omega)) ?_; refine zxa ?_; refine gnt (gc_region (zxm ?_)); refine gp (r_int (j := IntKind.i64.wrap ((valN (s.l.take k) * 256 : Nat) : Int)) zhl shl8) ?_; refine zxm ?_; refine gp (r_int (j := ((s.l.getD k 0).toNat : Int)) zci (wrap_i64 (by omega) (by omega))) ?_; refine gp (r_int (j := IntKind.i64.wrap ((valN (s.l.take (k + 1)) : Nat) : Int)) zbt ((orW (valN_lt7 hk')).trans (by rw [take_snoc' (by omega), valN_snoc]))) ?_; refine zxa ?_; refine gl_nil (gx_block_normal (gx_then (gc_region (gp zad ?_)))); refine zxm ?_; refine gl_nil (zrd (k + 1) ?_ ?_)
   ·show 8 - (k + 1) < 8 - k
    omega
   ·exact zlp (show k + 1 ≤ 8 by omega)
  ·try simp only at hc14
   have hk' : k = 8 := by omega
   subst hk'; have hsl := s.h
   have hn0 := (s.l.getD 8 0).toNat_lt
   have hl255 : lenS s < 256 := hn0
   have hw8 : IntKind.i64.wrap ((valN (s.l.take 8) : Nat) : Int) = (c : Int) := by rw [show valN (s.l.take 8) = c from hcc.symm]; exact wrap_i64 (by omega) (by omega)
   refine gc_exit ?_; refine gx_then_exit ?_; refine gx_round_exit ?_; refine gx_block_hit ?_; refine gx_then (gsr (gp zib ?_)); refine gp (r_ldY (l := s.l) 8 (by omega)) ?_; refine gp (r_int (j := ((lenS s : Nat) : Int)) zci (wrap_i64 (by omega) (by omega))) ?_; refine zxa ?_; refine gnt (gc_seq (gc_seq (gc_regionH ([blk b2 98 (sc s)]) ?_))); refine yp 0 rfl (r_int (j := (c : Int)) (zmv rfl) hw8) ?_; refine yp 1 rfl (r_bool (c := false) zlt (decide_eq_false (by omega))) ?_; refine yp 2 rfl zmv ?_; refine yp 3 rfl (r_int (j := (c : Int)) (zmv rfl) hw8) ?_; refine yp 4 rfl (r_int (j := ((c % 2 : Nat) : Int)) zrm rfl) ?_; refine yp 5 rfl zmv ?_; refine yp 6 rfl (r_bool (c := false) zni (by rw [hpar]; simp)) ?_; refine yp 7 rfl zpk ?_; refine yp 8 rfl zmv ?_; refine yp 9 rfl zmv ?_; refine yp 10 rfl (r_bool (c := false) zgt (decide_eq_false (by omega))) ?_; refine yp 11 rfl zpk ?_; refine yp 12 rfl zmv ?_; refine yp 13 rfl (r_int (j := (c : Int)) (zmv rfl) hw8) ?_; refine yp 14 rfl zmv ?_; refine yp 15 rfl (r_int (j := ((9 + lenS s : Nat) : Int)) zad (by omega)) ?_; refine yp 16 rfl (r_val (r_slice_arr (l := 9) (h := 9 + lenS s) rfl Ty.arr_98 Ty.sz_5 ⟨_, rfl⟩ ⟨_, rfl⟩ (by omega) (by omega) (by omega)) (by rw [e9])) ?_; refine yp 18 rfl (zL (sg := sc s)) ?_; refine yo 17 rfl ?_; refine zc (fun _ => ?_) (c := fun w1 F1 F2 h1 h2 hd hst => slot_ok (c := (c : Int)) (r := r) (n := (r).length) h1 (hK.mv hst.still) (by have hx := rd_blkY (l := s.l) (o := 9) (m := lenS s) h2 hd (by repeat (first | exact Pick.here | apply Pick.there)) (by omega) (by simp only [maxLen]; omega); rw [show ((s.l.drop 9).take (lenS s)) = recS s from rfl] at hx; rw [← hrr, ← hlr] at hx; exact hx) (by omega))
   refine yx ?_; refine yp 19 rfl (r_bool (c := false) (r_neq_sec (a := slotS c r) (b := s) Ty.arr_98 Ty.un_5 Ty.sz_5 (by kernel_rfl)) (by rw [hsl7]; simp)) ?_; refine yp 20 rfl zpk ?_; refine yd ?_; refine gx_then (gc_condF rfl rfl ?_); refine gc_skip (gx_then (gsr (gp (r_int (j := (c : Int)) (zmv rfl) hw8) ?_))); refine zxm ?_; refine gp (r_int (j := ((9 + lenS s : Nat) : Int)) zad (by omega)) ?_; refine gp (r_val (r_slice_arr (l := 9) (h := 9 + lenS s) rfl Ty.arr_98 Ty.sz_5 ⟨_, rfl⟩ ⟨_, rfl⟩ (by omega) (by omega) (by omega)) (by rw [e9])) ?_; refine zc (fun x51 => ?_) (c := fun w1 F1 F2 h1 h2 hd hst => cloneBytes_ok (n := r.length) (xs := r.map B8) h1 (by have hx := rd_blkY (l := s.l) (o := 9) (m := lenS s) h2 hd (by repeat (first | exact Pick.here | apply Pick.there)) (by omega) (by simp only [maxLen]; omega); rw [show ((s.l.drop 9).take (lenS s)) = recS s from rfl, ← hrr, ← hlr] at hx; exact hx) (one_B8 _) (by omega))
   refine zxa ?_; refine zxa ?_; refine zxa ?_; refine gnt (gc_ret (gx_ret3 rfl (by conv => lhs; whnf) (by conv => lhs; whnf) (by conv => lhs; whnf) ?_)); exact ze x51
theorem read_none {w : World} {F : Nat → Prop} {s : Sec} {p : Nat} (h : stars [] w F) (hK : KR w (fun k => ¬ F k)) (hS : rdSlot s p = none) :
    Calls Tryz.prog 64 #[scV s, .int .i64 (p : Int)] w (Post w F (fun _ : Unit => .tuple #[.int .i64 0, .slice none 0 0, .bool false]) (fun _ => [])) := by
 have hcl := cntS_lt s
 refine g_enter (env := [(0, scV s), (1, .int .i64 (p : Int))]) Tryz.func64 rfl h Tryz.ntmps64 rfl rfl ?_; refine gsr (zbN fun b2 => ?_); refine zxa ?_; refine zxa ?_; refine zxa ?_; refine zxs ?_; refine zxa ?_; refine gnt (gc_seq (gsr (gp (r_slice_arr (l := 0) (h := 8) rfl Ty.arr_98 Ty.sz_5 rfl ⟨_, rfl⟩ (by omega) (by omega) (by omega)) ?_))); refine gp zln ?_; refine zxm ?_; refine gnt (gc_block (gc_loop (α := Nat) (fun k => [pureR (k ≤ 8), blk b2 98 (sc s)]) (fun k => [(13, .int .i64 (k : Int)), (7, .int .i64 (IntKind.i64.wrap ((valN (s.l.take k) : Nat) : Int)))]) [9, 14, 15, 16, 17, 18, 19, 20, 21, 22] (fun k => 8 - k) 0 ?_ ?_ ?_))
 ·refine env_start (by kernel_rfl)
 ·exact zlp (Nat.zero_le _)
 ·intro k u; refine gc_pureR (fun hk => ?_)
  replace hk : k ≤ 8 := hk
  refine gsr (gp zlt ?_); refine gnt (gc_seq (gif rfl (fun hc14 => ?_) (fun hc14 => ?_)))
  ·try simp only at hc14
   have hk' : k < 8 := by omega
   have hb := (s.l.getD k 0).toNat_lt
   have hsl := s.h
   refine gc_skip (gx_then (gc_seq (gc_block (gsr (gp zia ?_))))); refine gp (r_ldY (l := s.l) k (by omega)) ?_; refine zxa ?_; refine gnt (gc_region (zxm ?_)); refine gp (r_int (j := IntKind.i64.wrap ((valN (s.l.take k) * 256 : Nat) : Int)) zhl shl8) ?_; refine zxm ?_; refine gp (r_int (j := ((s.l.getD k 0).toNat : Int)) zci (wrap_i64 (by omega) (by omega))) ?_; refine gp (r_int (j := IntKind.i64.wrap ((valN (s.l.take (k + 1)) : Nat) : Int)) zbt ((orW (valN_lt7 hk')).trans (by rw [take_snoc' (by omega), valN_snoc]))) ?_; refine zxa ?_; refine gl_nil (gx_block_normal (gx_then (gc_region (gp zad ?_)))); refine zxm ?_; refine gl_nil (zrd (k + 1) ?_ ?_)
   ·show 8 - (k + 1) < 8 - k
    omega
   ·exact zlp (show k + 1 ≤ 8 by omega)
  ·try simp only at hc14
   have hk' : k = 8 := by omega
   subst hk'; have hsl := s.h
   have hn0 := (s.l.getD 8 0).toNat_lt
   have hl255 : lenS s < 256 := hn0
   refine gc_exit ?_; refine gx_then_exit ?_; refine gx_round_exit ?_; refine gx_block_hit ?_; refine gx_then (gsr (gp zib ?_)); refine gp (r_ldY (l := s.l) 8 (by omega)) ?_; refine gp (r_int (j := ((lenS s : Nat) : Int)) zci (wrap_i64 (by omega) (by omega))) ?_; refine zxa ?_; refine gnt (gc_seq (gc_seq ?_)); by_cases h63 : 9223372036854775808 ≤ cntS s
   ·refine gc_regionH ([blk b2 98 (sc s)]) ?_; refine yp 0 rfl zmv ?_; refine yp 1 rfl (r_bool (c := true) zlt (decide_eq_true (wrap_big (x := cntS s) h63 hcl))) ?_; refine yp 2 rfl zmv ?_; refine yn 3 rfl ?_; refine yn 4 rfl ?_; refine yn 5 rfl ?_; refine yn 6 rfl ?_; refine yp 7 rfl zpk ?_; refine yp 8 rfl zmv ?_; refine yn 9 rfl ?_; refine yn 10 rfl ?_; refine yp 11 rfl zpk ?_; refine yp 12 rfl zmv ?_; refine yn 13 rfl ?_; refine yn 14 rfl ?_; refine yn 15 rfl ?_; refine yn 16 rfl ?_; refine yn 17 rfl ?_; refine yn 18 rfl ?_; refine yn 19 rfl ?_; refine yp 20 rfl zpk ?_; refine yd ?_; refine gx_then (gc_condT rfl rfl ?_); refine gsr (zxa ?_); refine zxa ?_; refine zxa ?_; refine gnt (gc_ret (gx_then_ret (gx_ret3 rfl (by conv => lhs; whnf) (by conv => lhs; whnf) (by conv => lhs; whnf) ?_))); exact ze ()
   ·have hw8 : IntKind.i64.wrap ((valN (s.l.take 8) : Nat) : Int) = (cntS s : Int) := wrap_i64 (by omega) (by have : valN (s.l.take 8) = cntS s := rfl; omega)
    by_cases hpar : cntS s % 2 = p
    ·by_cases hl31 : 31 < lenS s
     ·refine gc_regionH ([blk b2 98 (sc s)]) ?_; refine yp 0 rfl (r_int (j := (cntS s : Int)) (zmv rfl) hw8) ?_; refine yp 1 rfl (r_bool (c := false) zlt (decide_eq_false (by omega))) ?_; refine yp 2 rfl zmv ?_; refine yp 3 rfl (r_int (j := (cntS s : Int)) (zmv rfl) hw8) ?_; refine yp 4 rfl (r_int (j := ((cntS s % 2 : Nat) : Int)) zrm rfl) ?_; refine yp 5 rfl zmv ?_; refine yp 6 rfl (r_bool (c := false) zni (by rw [hpar]; simp)) ?_; refine yp 7 rfl zpk ?_; refine yp 8 rfl zmv ?_; refine yp 9 rfl zmv ?_; refine yp 10 rfl (r_bool (c := true) zgt (decide_eq_true (by omega))) ?_; refine yp 11 rfl zpk ?_; refine yp 12 rfl zmv ?_; refine yn 13 rfl ?_; refine yn 14 rfl ?_; refine yn 15 rfl ?_; refine yn 16 rfl ?_; refine yn 17 rfl ?_; refine yn 18 rfl ?_; refine yn 19 rfl ?_; refine yp 20 rfl zpk ?_; refine yd ?_; refine gx_then (gc_condT rfl rfl ?_); refine gsr (zxa ?_); refine zxa ?_; refine zxa ?_; refine gnt (gc_ret (gx_then_ret (gx_ret3 rfl (by conv => lhs; whnf) (by conv => lhs; whnf) (by conv => lhs; whnf) ?_))); exact ze ()
     ·have hlr := recS_len (s := s) (by omega)
      have e9 : 9 + lenS s - 9 = (recS s).length := by omega
      have hne : slotS (cntS s) (recS s) ≠ s := fun e => by rw [rdSlot, if_pos ⟨by omega, hpar, by omega, e⟩] at hS; cases hS
      refine gc_regionH ([blk b2 98 (sc s)]) ?_; refine yp 0 rfl (r_int (j := (cntS s : Int)) (zmv rfl) hw8) ?_; refine yp 1 rfl (r_bool (c := false) zlt (decide_eq_false (by omega))) ?_; refine yp 2 rfl zmv ?_; refine yp 3 rfl (r_int (j := (cntS s : Int)) (zmv rfl) hw8) ?_; refine yp 4 rfl (r_int (j := ((cntS s % 2 : Nat) : Int)) zrm rfl) ?_; refine yp 5 rfl zmv ?_; refine yp 6 rfl (r_bool (c := false) zni (by rw [hpar]; simp)) ?_; refine yp 7 rfl zpk ?_; refine yp 8 rfl zmv ?_; refine yp 9 rfl zmv ?_; refine yp 10 rfl (r_bool (c := false) zgt (decide_eq_false (by omega))) ?_; refine yp 11 rfl zpk ?_; refine yp 12 rfl zmv ?_; refine yp 13 rfl (r_int (j := (cntS s : Int)) (zmv rfl) hw8) ?_; refine yp 14 rfl zmv ?_; refine yp 15 rfl (r_int (j := ((9 + lenS s : Nat) : Int)) zad (by omega)) ?_; refine yp 16 rfl (r_val (r_slice_arr (l := 9) (h := 9 + lenS s) rfl Ty.arr_98 Ty.sz_5 ⟨_, rfl⟩ ⟨_, rfl⟩ (by omega) (by omega) (by omega)) (by rw [e9])) ?_; refine yp 18 rfl (zL (sg := sc s)) ?_; refine yo 17 rfl ?_; refine zc (fun _ => ?_) (c := fun w1 F1 F2 h1 h2 hd hst => slot_ok (c := (cntS s : Int)) (r := recS s) (n := (recS s).length) h1 (hK.mv hst.still) (by have hx := rd_blkY (l := s.l) (o := 9) (m := lenS s) h2 hd (by repeat (first | exact Pick.here | apply Pick.there)) (by omega) (by simp only [maxLen]; omega); rw [show ((s.l.drop 9).take (lenS s)) = recS s from rfl] at hx; rw [← hlr] at hx; exact hx) (by omega))
      refine yx ?_; refine yp 19 rfl (r_bool (c := true) (r_neq_sec (a := slotS (cntS s) (recS s)) (b := s) Ty.arr_98 Ty.un_5 Ty.sz_5 (by kernel_rfl)) (by simp [hne])) ?_; refine yp 20 rfl zpk ?_; refine yd ?_; refine gx_then (gc_condT rfl rfl ?_); refine gsr (zxa ?_); refine zxa ?_; refine zxa ?_; refine gnt (gc_ret (gx_then_ret (gx_ret3 rfl (by conv => lhs; whnf) (by conv => lhs; whnf) (by conv => lhs; whnf) ?_))); exact ze ()
    ·refine gc_regionH ([blk b2 98 (sc s)]) ?_; refine yp 0 rfl (r_int (j := (cntS s : Int)) (zmv rfl) hw8) ?_; refine yp 1 rfl (r_bool (c := false) zlt (decide_eq_false (by omega))) ?_; refine yp 2 rfl zmv ?_; refine yp 3 rfl (r_int (j := (cntS s : Int)) (zmv rfl) hw8) ?_; refine yp 4 rfl (r_int (j := ((cntS s % 2 : Nat) : Int)) zrm rfl) ?_; refine yp 5 rfl zmv ?_; refine yp 6 rfl (r_bool (c := true) zni (by simp; omega)) ?_; refine yp 7 rfl zpk ?_; refine yp 8 rfl zmv ?_; refine yn 9 rfl ?_; refine yn 10 rfl ?_; refine yp 11 rfl zpk ?_; refine yp 12 rfl zmv ?_; refine yn 13 rfl ?_; refine yn 14 rfl ?_; refine yn 15 rfl ?_; refine yn 16 rfl ?_; refine yn 17 rfl ?_; refine yn 18 rfl ?_; refine yn 19 rfl ?_; refine yp 20 rfl zpk ?_; refine yd ?_; refine gx_then (gc_condT rfl rfl ?_); refine gsr (zxa ?_); refine zxa ?_; refine zxa ?_; refine gnt (gc_ret (gx_then_ret (gx_ret3 rfl (by conv => lhs; whnf) (by conv => lhs; whnf) (by conv => lhs; whnf) ?_))); exact ze ()
end
section
theorem oper_calm {d : DS} (h : d.armed = false) : oper d = d := oper_no (.inl h)
theorem wr_calm {d : DS} {i : Int} {v : Sec} (h : d.armed = false) (ho : d.off = false) (hi : d.has i = true) : d.wr i v = (0, d.write i v) := by
  rw [wr_on hi (by rw [oper_calm h]; exact ho), oper_calm h]
theorem syncd_calm {d : DS} (h : d.armed = false) (ho : d.off = false) : d.syncd = d.sync := by rw [DS.syncd, oper_calm h, if_neg (by rw [ho]; decide)]
theorem crash_idle {d : DS} {kb : List Bool} (h : d.ws = []) : d.crash kb = { d with off := false, armed := false } := by
  obtain ⟨n, ss, ws, off, armed, left⟩ := d
  simp only at h
  subst h
  simp [DS.crash, keysW, sortZ, keepF]
theorem rd_at {d : DS} {i : Int} (hi : d.has i = true) (ho : d.off = false) : d.rd i = (0, d.at i.toNat) := by simp [DS.rd, hi, ho]
end
section
namespace ZN
def M : Nat := 4294967296
def rot (x n : Nat) : Nat := (x <<< (32 - n)) % M ||| x >>> n
def s0 (x : Nat) : Nat := rot x 7 ^^^ rot x 18 ^^^ x >>> 3
def s1 (x : Nat) : Nat := rot x 17 ^^^ rot x 19 ^^^ x >>> 10
def step (l : List Nat) : List Nat := ((((l.getD 15 0 + s0 (l.getD 14 0)) % M + l.getD 6 0) % M + s1 (l.getD 1 0)) % M) :: l
def rounds : List Nat → List Nat → Nat → Nat → Nat → Nat → Nat → Nat → Nat → Nat → Nat
  | k :: ks, w :: ws, a, b, c, d, e, f, g, h =>
    let one := ((((h + (rot e 6 ^^^ rot e 11 ^^^ rot e 25)) % M + ((e &&& f) ^^^ ((4294967295 - e) &&& g))) % M + k) % M + w) % M
    let two := ((rot a 2 ^^^ rot a 13 ^^^ rot a 22) + (((a &&& b) ^^^ (a &&& c)) ^^^ (b &&& c))) % M
    rounds ks ws ((one + two) % M) a b c ((d + one) % M) e f g
  | _, _, a, _, _, _, _, _, _, _ => a
end ZN
end
end Go.Proofs.YtggjlkheniombaaGreatDoor
