/- Walks, by program (wg.py) out of a spec. -/
import Derived.Test.YtffkjjakceojfaaDoorWa
import Derived.Test.YtffkjjakceojfaaDoorEngH
import Derived.Test.YtffkjjakceojfaaDoorPlH
import Derived.Test.YtffkjjakceojfaaDoorRd
namespace Go.Proofs.YtffkjjakceojfaaDoor
open Go
set_option linter.unusedVariables false
set_option linter.unusedSimpArgs false


theorem sch_lo {b : List UInt8} {k : Nat} (h : k < 16) : sch b k = wordAt b k := by rw [sch, dif_pos h]
theorem sch_hi {b : List UInt8} {k : Nat} (h : 16 ≤ k) : sch b k = sch b (k - 16) + sg0 (sch b (k - 15)) + sch b (k - 7) + sg1 (sch b (k - 2)) := by rw [sch, dif_neg (by omega)]
def v8c (v : V8) : List Value := [W32 v.a, W32 v.b, W32 v.c, W32 v.d, W32 v.e, W32 v.f, W32 v.g, W32 v.h]
theorem v8c_fnc (v : V8) : v8c v = fnc W32 8 v.get := rfl
def kc : List UInt32 := [0x428a2f98, 0x71374491, 0xb5c0fbcf, 0xe9b5dba5, 0x3956c25b, 0x59f111f1, 0x923f82a4, 0xab1c5ed5, 0xd807aa98, 0x12835b01, 0x243185be, 0x550c7dc3, 0x72be5d74, 0x80deb1fe, 0x9bdc06a7, 0xc19bf174, 0xe49b69c1, 0xefbe4786, 0x0fc19dc6, 0x240ca1cc, 0x2de92c6f, 0x4a7484aa, 0x5cb0a9dc, 0x76f988da, 0x983e5152, 0xa831c66d, 0xb00327c8, 0xbf597fc7, 0xc6e00bf3, 0xd5a79147, 0x06ca6351, 0x14292967, 0x27b70a85, 0x2e1b2138, 0x4d2c6dfc, 0x53380d13, 0x650a7354, 0x766a0abb, 0x81c2c92e, 0x92722c85, 0xa2bfe8a1, 0xa81a664b, 0xc24b8b70, 0xc76c51a3, 0xd192e819, 0xd6990624, 0xf40e3585, 0x106aa070, 0x19a4c116, 0x1e376c08, 0x2748774c, 0x34b0bcb5, 0x391c0cb3, 0x4ed8aa4a, 0x5b9cca4f, 0x682e6ff3, 0x748f82ee, 0x78a5636f, 0x84c87814, 0x8cc70208, 0x90befffa, 0xa4506ceb, 0xbef9a3f7, 0xc67178f2]
def Kc (i : Nat) : UInt32 := kc.getD i 0
/-- The constants' variable holds them, and lies in A. -/
structure KR (w : World) (A : Nat → Prop) : Prop where
  c : ∀ i, i < 64 → w.cell? ⟨18, i, none⟩ = some (W32 (Kc i))
  n : A 18
theorem KR.mv {w w' : World} {A A' : Nat → Prop} (h : KR w A) (hk : Still w A w' A') : KR w' A' :=
  ⟨fun i hi => by
    have := hk _ (World.block_lt_of_cell? w ⟨18, i, none⟩ (h.c i hi)) h.n
    rw [World.cell?_of_block (w := w) (a := ⟨18, i, none⟩) this.1]; exact h.c i hi,
   (hk _ (World.block_lt_of_cell? w ⟨18, 0, none⟩ (h.c 0 (by decide))) h.n).2⟩
theorem KR.at {w : World} {A : Nat → Prop} (h : KR w A) {e i : Nat} (he : e = i) (hi : i < 64) : w.cell? ⟨18, e, none⟩ = some (W32 (Kc i)) := by subst he; exact h.c e hi

attribute [local irreducible] Gl Gc Gx Gs Runs Wt

set_option maxHeartbeats 400000 in
theorem rot_ok {w : World} {F : Nat → Prop} {x : UInt32} {n : Nat} (h : stars [] w F) (h1 : 1 ≤ n) (h2 : n ≤ 31) :
    Calls Tryd.prog 55 #[W32 x, .int .i64 (-(n : Int))] w (Post w F (fun _ : Unit => W32 (rotr x n)) (fun _ => [])) := by
  refine g_enter (env := [(0, W32 x), (1, .int .i64 (-(n : Int)))]) Tryd.func55 rfl h Tryd.ntmps55 rfl rfl ?_
  refine gsr ?_
  refine gp zas ?_
  refine gnt ?_
  refine gsr ?_
  refine gp zmv ?_
  refine gp zci ?_
  refine gp (r_int (r_bits (op := .and) rfl rfl rfl) (rot_and h1 h2)) ?_
  refine gp zas ?_
  refine gnt ?_
  refine gsr ?_
  refine gp zmv ?_
  refine gp zmv ?_
  refine gp (r_shlw (j := 32 - n) rfl rfl rfl (by omega)) ?_
  refine gp zmv ?_
  refine gp zmv ?_
  refine gp (r_int (r_sub rfl rfl) (show IntKind.u64.wrap (32 - ((32 - n : Nat) : Int)) = (n : Int) by rw [wrap_u64 (by omega) (by omega)]; omega)) ?_
  refine gp (r_shrw (j := n) rfl rfl rfl (by omega)) ?_
  refine gp zwo ?_
  refine gp zas ?_
  refine gnt ?_
  refine gc_ret ?_
  refine gx_ret1 rfl (by conv => lhs; whnf) ?_
  exact ze ()

set_option maxHeartbeats 400000 in
theorem schedule_ok {w : World} {F : Nat → Prop} (h : stars [] w F) {b : List UInt8} {a : Option Addr} {c : Nat} (hx : RdRow w (fun k => ¬ F k) 1 a 64 (b.map B8))  :
    Calls Tryd.prog 54 #[.slice a 64 c] w (Post w F (fun _ : Unit => .agg (fnc W32 64 (sch b)).toArray) (fun _ => [])) := by
  have hbl : b.length = 64 := by have := hx.1; simp at this; omega
  obtain ⟨ga, oa, rfl, hA, hg, hra⟩ := hx.2.2 (by decide)
  refine g_enter (env := [(0, .slice (some ⟨ga, oa, none⟩) 64 c)]) Tryd.func54 rfl h Tryd.ntmps54 rfl rfl ?_
  refine gsr ?_
  refine zal fun b2 => ?_
  refine gnt ?_
  refine gsr ?_
  refine zal fun b3 => ?_
  refine gnt ?_
  refine gc_seq ?_
  refine gsr ?_
  refine gp zmv ?_
  refine gnt ?_
  refine gc_block ?_
  refine gc_loop (α := Nat) (fun k => [pureR (k ≤ 16), blk b3 100 (fnc W32 64 (pfx (sch b) (fun _ => 0) k)), blk b2 100 (List.replicate 64 (.int .u32 0))]) (fun k => [(10, .int .i64 (k : Int))]) [4, 11, 12, 13, 14, 15, 16, 17, 18, 19, 20, 21, 22, 23, 24, 25, 26, 27, 28, 29, 30, 31, 32, 33, 34, 35, 36, 37, 38, 39, 40, 41, 42, 43, 44, 45, 46, 47, 48] (fun k => 16 - k) 0 ?_ ?_ ?_
  · refine env_start (by kernel_rfl)
  · rintro w' hw
    obtain ⟨F', hF', hst'⟩ := hw.sel (M := [blk b3 100 (List.replicate 64 (.int .u32 0)), blk b2 100 (List.replicate 64 (.int .u32 0))]) (by repeat (first | exact Sel.nil | (apply Sel.cons; · (repeat (first | exact Pick.here | apply Pick.there)))))
    refine ⟨F', stars_pure_mk (Nat.zero_le _) ?_, hst'⟩
    show stars [blk b3 100 (fnc W32 64 (pfx (sch b) (fun _ => 0) 0)), blk b2 100 (List.replicate 64 (.int .u32 0))] w' F'
    rw [pfx_zero, fnc_const]
    exact hF'
  · intro k u
    refine gc_pureR (fun hk => ?_)
    replace hk : k ≤ 16 := hk
    refine gsr ?_
    refine gp zlt ?_
    refine gnt ?_
    refine gc_seq ?_
    refine gif rfl (fun hc11 => ?_) (fun hc11 => ?_)
    · have hk' : k < 16 := by (try simp only at hc11); omega
      refine gc_skip ?_
      refine gx_then ?_
      refine gc_seq ?_
      refine gc_block ?_
      refine gsr ?_
      refine gp zmv ?_
      refine gp zas ?_
      refine gnt ?_
      refine gc_regionT 35 (by kernel_rfl) (by kernel_rfl) ?_
      refine sp zmv ?_
      refine sp zmv ?_
      refine sp zmv ?_
      refine sp zml ?_
      refine sp (r_indexAddr_slice rfl rfl Ty.sl_32 Ty.sz_5 (by omega) (by omega)) ?_
      refine sp (r_ld1o rfl Ty.row_5 (cellb hra (j := 4 * k) (by omega) (by omega)) hA) ?_
      refine sp (r_conv8w rfl Ty.un_5 Ty.un_93) ?_
      refine sp (r_shlw (j := 24) rfl rfl rfl (by decide)) ?_
      refine sp zmv ?_
      refine sp zmv ?_
      refine sp zml ?_
      refine sp zad ?_
      refine sp (r_indexAddr_slice rfl rfl Ty.sl_32 Ty.sz_5 (by omega) (by omega)) ?_
      refine sp (r_ld1o rfl Ty.row_5 (cellb hra (j := 4 * k + 1) (by omega) (by omega)) hA) ?_
      refine sp (r_conv8w rfl Ty.un_5 Ty.un_93) ?_
      refine sp (r_shlw (j := 16) rfl rfl rfl (by decide)) ?_
      refine sp zwo ?_
      refine sp zmv ?_
      refine sp zmv ?_
      refine sp zml ?_
      refine sp zad ?_
      refine sp (r_indexAddr_slice rfl rfl Ty.sl_32 Ty.sz_5 (by omega) (by omega)) ?_
      refine sp (r_ld1o rfl Ty.row_5 (cellb hra (j := 4 * k + 2) (by omega) (by omega)) hA) ?_
      refine sp (r_conv8w rfl Ty.un_5 Ty.un_93) ?_
      refine sp (r_shlw (j := 8) rfl rfl rfl (by decide)) ?_
      refine sp zwo ?_
      refine sp zmv ?_
      refine sp zmv ?_
      refine sp zml ?_
      refine sp zad ?_
      refine sp (r_indexAddr_slice rfl rfl Ty.sl_32 Ty.sz_5 (by omega) (by omega)) ?_
      refine sp (r_ld1o rfl Ty.row_5 (cellb hra (j := 4 * k + 3) (by omega) (by omega)) hA) ?_
      refine sp (r_conv8w rfl Ty.un_5 Ty.un_93) ?_
      refine sp zwo ?_
      refine sp (r_indexAddr_arr rfl rfl Ty.arr_100 Ty.sz_93 (by omega) (by omega)) ?_
      refine gs_nil ?_
      refine gl_store1 (wt0 rfl) rfl rfl rfl Ty.sz_93 (by repeat (first | exact Pick.here | apply Pick.there)) (by rw [fnc_length]; omega) (pfx_set (k := k) (by omega) (by omega) (congrArg W32 (sch_lo hk').symm)) ?_
      refine gl_nil ?_
      refine gx_block_normal ?_
      refine gx_then ?_
      refine gc_region ?_
      refine gp zad ?_
      refine gp zmv ?_
      refine gl_nil ?_
      refine zrd (k + 1) ?_ ?_
      · show 16 - (k + 1) < 16 - k
        omega
      · rintro w' hw
        obtain ⟨F', hF', hst'⟩ := hw.sel (M := [blk b3 100 _, blk b2 100 _]) (by repeat (first | exact Sel.nil | (apply Sel.cons; · (repeat (first | exact Pick.here | apply Pick.there)))))
        exact ⟨F', stars_pure_mk (show k + 1 ≤ 16 by omega) hF', hst'⟩
    · have hk' : k = 16 := by (try simp only at hc11); omega
      subst hk'
      refine gc_exit ?_
      refine gx_then_exit ?_
      refine gx_round_exit ?_
      refine gx_block_hit ?_
      refine gx_then ?_
      refine gc_seq ?_
      refine gsr ?_
      refine gp zas ?_
      refine gnt ?_
      refine gc_block ?_
      refine gc_loop (α := Nat) (fun k => [pureR (16 ≤ k ∧ k ≤ 64), blk b3 100 (fnc W32 64 (pfx (sch b) (fun _ => 0) k)), blk b2 100 (List.replicate 64 (.int .u32 0))]) (fun k => [(5, .int .i64 (k : Int))]) [6, 7, 8, 9, 49, 50, 51, 52, 53, 54, 55, 56, 57, 58, 59, 60, 61, 62, 63, 64, 65, 66, 67, 68, 69, 70, 71, 72, 73, 74, 75, 76, 77, 78, 79, 80, 81, 82, 83, 84, 85, 86, 87, 88, 89, 90, 91] (fun k => 64 - k) 16 ?_ ?_ ?_
      · refine env_start (by kernel_rfl)
      · rintro w' hw
        obtain ⟨F', hF', hst'⟩ := hw.sel (M := [blk b3 100 _, blk b2 100 _]) (by repeat (first | exact Sel.nil | (apply Sel.cons; · (repeat (first | exact Pick.here | apply Pick.there)))))
        exact ⟨F', stars_pure_mk (by decide) hF', hst'⟩
      · intro k u
        refine gc_pureR (fun hk => ?_)
        replace hk : 16 ≤ k ∧ k ≤ 64 := hk
        refine gc_seq ?_
        refine gsr ?_
        refine gp zmv ?_
        refine gp zlt ?_
        refine gnt ?_
        refine gif rfl (fun hc50 => ?_) (fun hc50 => ?_)
        · have hk' : k < 64 := by (try simp only at hc50); omega
          refine gc_skip ?_
          refine gx_then ?_
          refine gc_seq ?_
          refine gc_block ?_
          refine gc_seq ?_
          refine gc_regionS (by kernel_rfl) (by kernel_rfl) ?_
          refine sp zmv ?_
          refine sp zsb ?_
          refine sp (r_indexAddr_arr rfl rfl Ty.arr_100 Ty.sz_93 (by omega) (by omega)) ?_
          refine sp (r_ld1 (v := W32 ((sch b) (k - 15))) rfl Ty.row_93 (by repeat (first | exact Pick.here | apply Pick.there)) (pfx_get (by omega) (by omega) (by omega))) ?_
          refine sp zmv ?_
          refine sp zsb ?_
          refine sp (r_indexAddr_arr rfl rfl Ty.arr_100 Ty.sz_93 (by omega) (by omega)) ?_
          refine sp (r_ld1 (v := W32 ((sch b) (k - 2))) rfl Ty.row_93 (by repeat (first | exact Pick.here | apply Pick.there)) (pfx_get (by omega) (by omega) (by omega))) ?_
          refine sp zas ?_
          refine sp zas ?_
          refine gs_nil ?_
          refine gx_then ?_
          refine gsr ?_
          refine gp zmv ?_
          refine zc (fun _ => ?_) (c := fun w1 F1 F2 h1 h2 hd hst => rot_ok (n := 7) h1 (by decide) (by decide))
          refine gp zmv ?_
          refine zc (fun _ => ?_) (c := fun w1 F1 F2 h1 h2 hd hst => rot_ok (n := 18) h1 (by decide) (by decide))
          refine gp zwx ?_
          refine gp zmv ?_
          refine gp (r_shrw (j := 3) rfl rfl rfl (by decide)) ?_
          refine gp zwx ?_
          refine gp zas ?_
          refine gnt ?_
          refine gsr ?_
          refine gp zmv ?_
          refine zc (fun _ => ?_) (c := fun w1 F1 F2 h1 h2 hd hst => rot_ok (n := 17) h1 (by decide) (by decide))
          refine gp zmv ?_
          refine zc (fun _ => ?_) (c := fun w1 F1 F2 h1 h2 hd hst => rot_ok (n := 19) h1 (by decide) (by decide))
          refine gp zwx ?_
          refine gp zmv ?_
          refine gp (r_shrw (j := 10) rfl rfl rfl (by decide)) ?_
          refine gp zwx ?_
          refine gp zas ?_
          refine gnt ?_
          refine gc_regionT 15 (by kernel_rfl) (by kernel_rfl) ?_
          refine sp zmv ?_
          refine sp zmv ?_
          refine sp zsb ?_
          refine sp (r_indexAddr_arr rfl rfl Ty.arr_100 Ty.sz_93 (by omega) (by omega)) ?_
          refine sp (r_ld1 (v := W32 ((sch b) (k - 16))) rfl Ty.row_93 (by repeat (first | exact Pick.here | apply Pick.there)) (pfx_get (by omega) (by omega) (by omega))) ?_
          refine sp zmv ?_
          refine sp zwa ?_
          refine sp zmv ?_
          refine sp zsb ?_
          refine sp (r_indexAddr_arr rfl rfl Ty.arr_100 Ty.sz_93 (by omega) (by omega)) ?_
          refine sp (r_ld1 (v := W32 ((sch b) (k - 7))) rfl Ty.row_93 (by repeat (first | exact Pick.here | apply Pick.there)) (pfx_get (by omega) (by omega) (by omega))) ?_
          refine sp zwa ?_
          refine sp zmv ?_
          refine sp zwa ?_
          refine sp (r_indexAddr_arr rfl rfl Ty.arr_100 Ty.sz_93 (by omega) (by omega)) ?_
          refine gs_nil ?_
          refine gl_store1 (wt0 rfl) rfl rfl rfl Ty.sz_93 (by repeat (first | exact Pick.here | apply Pick.there)) (by rw [fnc_length]; omega) (pfx_set (k := k) (by omega) (by omega) (congrArg W32 (sch_hi hk.1).symm)) ?_
          refine gl_nil ?_
          refine gx_block_normal ?_
          refine gx_then ?_
          refine gc_region ?_
          refine gp zmv ?_
          refine gp zad ?_
          refine gp zas ?_
          refine gl_nil ?_
          refine zrd (k + 1) ?_ ?_
          · show 64 - (k + 1) < 64 - k
            omega
          · rintro w' hw
            obtain ⟨F', hF', hst'⟩ := hw.sel (M := [blk b3 100 _, blk b2 100 _]) (by repeat (first | exact Sel.nil | (apply Sel.cons; · (repeat (first | exact Pick.here | apply Pick.there)))))
            exact ⟨F', stars_pure_mk (show 16 ≤ k + 1 ∧ k + 1 ≤ 64 by omega) hF', hst'⟩
        · have hk' : k = 64 := by (try simp only at hc50); omega
          subst hk'
          refine gc_exit ?_
          refine gx_then_exit ?_
          refine gx_round_exit ?_
          refine gx_block_hit ?_
          refine gx_then ?_
          refine gsr ?_
          refine gp (r_ldN rfl Ty.row_100 Ty.sz_100 (by repeat (first | exact Pick.here | apply Pick.there)) (seg_all fnc_length) fnc_length) ?_
          refine gl_storeN (wt0 rfl) rfl rfl Ty.sz_100 fnc_length (by repeat (first | exact Pick.here | apply Pick.there)) (by simp) (fnc_one fun _ => rfl) (updL_all (by simp [fnc_length])) ?_
          refine gnt ?_
          refine gc_ret ?_
          refine gx_retc rfl rfl (ld_aggS Ty.row_100 Ty.sz_100 (by repeat (first | exact Pick.here | apply Pick.there)) (seg_all fnc_length) fnc_length) ?_
          rw [pfx_full]
          exact ze ()

end Go.Proofs.YtffkjjakceojfaaDoor
