/- Part 2. What is proved: see the last part: for every input the law returns true, and the input reads as it did. -/
import Derived.Test.YtheonhgffglegaaDoorCr1
import Derived.Lib.LaidTab
import Derived.Lib.ConvBytes
import Derived.Laws.MakeOwn
import Derived.RangeFuncLeaves
import Derived.RangeFuncRecord
import Derived.RangeFuncSeq
import Derived.MapKept
import Derived.Laws.IdiomRangeMap
/- Walks, by program (wg.py) out of a spec. -/
namespace Go.Proofs.YtheonhgffglegaaDoor
open Go
set_option linter.unusedVariables false
set_option linter.unusedSimpArgs false


theorem sch_lo {b : List UInt8} {k : Nat} (h : k < 16) : sch b k = wordAt b k := by rw [sch, dif_pos h]
theorem sch_hi {b : List UInt8} {k : Nat} (h : 16 ≤ k) : sch b k = sch b (k - 16) + sg0 (sch b (k - 15)) + sch b (k - 7) + sg1 (sch b (k - 2)) := by rw [sch, dif_neg (by omega)]
def v8c (v : V8) : List Value := [W32 v.a, W32 v.b, W32 v.c, W32 v.d, W32 v.e, W32 v.f, W32 v.g, W32 v.h]
def kc : List UInt32 := [0x428a2f98, 0x71374491, 0xb5c0fbcf, 0xe9b5dba5, 0x3956c25b, 0x59f111f1, 0x923f82a4, 0xab1c5ed5, 0xd807aa98, 0x12835b01, 0x243185be, 0x550c7dc3, 0x72be5d74, 0x80deb1fe, 0x9bdc06a7, 0xc19bf174, 0xe49b69c1, 0xefbe4786, 0x0fc19dc6, 0x240ca1cc, 0x2de92c6f, 0x4a7484aa, 0x5cb0a9dc, 0x76f988da, 0x983e5152, 0xa831c66d, 0xb00327c8, 0xbf597fc7, 0xc6e00bf3, 0xd5a79147, 0x06ca6351, 0x14292967, 0x27b70a85, 0x2e1b2138, 0x4d2c6dfc, 0x53380d13, 0x650a7354, 0x766a0abb, 0x81c2c92e, 0x92722c85, 0xa2bfe8a1, 0xa81a664b, 0xc24b8b70, 0xc76c51a3, 0xd192e819, 0xd6990624, 0xf40e3585, 0x106aa070, 0x19a4c116, 0x1e376c08, 0x2748774c, 0x34b0bcb5, 0x391c0cb3, 0x4ed8aa4a, 0x5b9cca4f, 0x682e6ff3, 0x748f82ee, 0x78a5636f, 0x84c87814, 0x8cc70208, 0x90befffa, 0xa4506ceb, 0xbef9a3f7, 0xc67178f2]
def Kc (i : Nat) : UInt32 := kc.getD i 0
/-- The constants' variable holds them, and lies in A. -/
structure KR (w : World) (A : Nat → Prop) : Prop where
  c : ∀ i, i < 64 → w.cell? ⟨8, i, none⟩ = some (W32 (Kc i))
  n : A 8
theorem KR.mv {w w' : World} {A A' : Nat → Prop} (h : KR w A) (hk : Still w A w' A') : KR w' A' :=
  ⟨fun i hi => by
    have := hk _ (World.block_lt_of_cell? w ⟨8, i, none⟩ (h.c i hi)) h.n
    rw [World.cell?_of_block (w := w) (a := ⟨8, i, none⟩) this.1]; exact h.c i hi,
   (hk _ (World.block_lt_of_cell? w ⟨8, 0, none⟩ (h.c 0 (by decide))) h.n).2⟩
theorem KR.at {w : World} {A : Nat → Prop} (h : KR w A) {e i : Nat} (he : e = i) (hi : i < 64) : w.cell? ⟨8, e, none⟩ = some (W32 (Kc i)) := by subst he; exact h.c e hi

attribute [local irreducible] Gl Gc Gx Gs Runs Wt

set_option maxHeartbeats 400000 in
theorem rot_ok {w : World} {F : Nat → Prop} {x : UInt32} {n : Nat} (h : stars [] w F) (h1 : 1 ≤ n) (h2 : n ≤ 31) :
    Calls Tryd.prog 67 #[W32 x, .int .i64 (-(n : Int))] w (Post w F (fun _ : Unit => W32 (rotr x n)) (fun _ => [])) := by
  refine g_enter (env := [(0, W32 x), (1, .int .i64 (-(n : Int)))]) Tryd.func67 rfl h Tryd.ntmps67 rfl rfl ?_
  refine gsr ?_
  refine gp zas ?_
  refine gnt ?_
  refine gsr ?_
  refine gp zmv ?_
  refine gp zci ?_
  refine gp (r_int (r_bits (op := .and) rfl rfl rfl) (rot_and h1 h2)) ?_
  refine gp zas ?_
  refine gnt ?_
  refine gsr ?_
  refine gp zmv ?_
  refine gp zmv ?_
  refine gp (r_shlw (j := 32 - n) rfl rfl rfl (by omega)) ?_
  refine gp zmv ?_
  refine gp zmv ?_
  refine gp (r_int (r_sub rfl rfl) (show IntKind.u64.wrap (32 - ((32 - n : Nat) : Int)) = (n : Int) by rw [wrap_u64 (by omega) (by omega)]; omega)) ?_
  refine gp (r_shrw (j := n) rfl rfl rfl (by omega)) ?_
  refine gp zwo ?_
  refine gp zas ?_
  refine gnt ?_
  refine gc_ret ?_
  refine gx_ret1 rfl (by conv => lhs; whnf) ?_
  exact ze ()

set_option maxHeartbeats 400000 in
theorem schedule_ok {w : World} {F : Nat → Prop} (h : stars [] w F) {b : List UInt8} {a : Option Addr} {c : Nat} (hx : RdRow w (fun k => ¬ F k) 1 a 64 (b.map B8))  :
    Calls Tryd.prog 66 #[.slice a 64 c] w (Post w F (fun _ : Unit => .agg (fnc W32 64 (sch b)).toArray) (fun _ => [])) := by
  have hbl : b.length = 64 := by have := hx.1; simp at this; omega
  obtain ⟨ga, oa, rfl, hA, hg, hra⟩ := hx.2.2 (by decide)
  refine g_enter (env := [(0, .slice (some ⟨ga, oa, none⟩) 64 c)]) Tryd.func66 rfl h Tryd.ntmps66 rfl rfl ?_
  refine gsr ?_
  refine zal fun b2 => ?_
  refine gnt ?_
  refine gsr ?_
  refine zal fun b3 => ?_
  refine gnt ?_
  refine gc_seq ?_
  refine gsr ?_
  refine gp zmv ?_
  refine gnt ?_
  refine gc_block ?_
  refine gc_loop (α := Nat) (fun k => [pureR (k ≤ 16), blk b3 133 (fnc W32 64 (pfx (sch b) (fun _ => 0) k)), blk b2 133 (List.replicate 64 (.int .u32 0))]) (fun k => [(10, .int .i64 (k : Int))]) [4, 11, 12, 13, 14, 15, 16, 17, 18, 19, 20, 21, 22, 23, 24, 25, 26, 27, 28, 29, 30, 31, 32, 33, 34, 35, 36, 37, 38, 39, 40, 41, 42, 43, 44, 45, 46, 47, 48] (fun k => 16 - k) 0 ?_ ?_ ?_
  · refine env_start (by kernel_rfl)
  · rintro w' hw
    obtain ⟨F', hF', hst'⟩ := hw.sel (M := [blk b3 133 (List.replicate 64 (.int .u32 0)), blk b2 133 (List.replicate 64 (.int .u32 0))]) (by repeat (first | exact Sel.nil | (apply Sel.cons; · (repeat (first | exact Pick.here | apply Pick.there)))))
    refine ⟨F', stars_pure_mk (Nat.zero_le _) ?_, hst'⟩
    show stars [blk b3 133 (fnc W32 64 (pfx (sch b) (fun _ => 0) 0)), blk b2 133 (List.replicate 64 (.int .u32 0))] w' F'
    rw [pfx_zero, fnc_const]
    exact hF'
  · intro k u
    refine gc_pureR (fun hk => ?_)
    replace hk : k ≤ 16 := hk
    refine gsr ?_
    refine gp zlt ?_
    refine gnt ?_
    refine gc_seq ?_
    refine gif rfl (fun hc11 => ?_) (fun hc11 => ?_)
    · have hk' : k < 16 := by (try simp only at hc11); omega
      refine gc_skip ?_
      refine gx_then ?_
      refine gc_seq ?_
      refine gc_block ?_
      refine gsr ?_
      refine gp zmv ?_
      refine gp zas ?_
      refine gnt ?_
      refine gc_regionT 35 (by kernel_rfl) (by kernel_rfl) ?_
      refine sp zmv ?_
      refine sp zmv ?_
      refine sp zmv ?_
      refine sp zml ?_
      refine sp (r_indexAddr_slice rfl rfl Ty.sl_53 Ty.sz_5 (by omega) (by omega)) ?_
      refine sp (r_ld1o rfl Ty.row_5 (cellb hra (j := 4 * k) (by omega) (by omega)) hA) ?_
      refine sp (r_conv8w rfl Ty.un_5 Ty.un_117) ?_
      refine sp (r_shlw (j := 24) rfl rfl rfl (by decide)) ?_
      refine sp zmv ?_
      refine sp zmv ?_
      refine sp zml ?_
      refine sp zad ?_
      refine sp (r_indexAddr_slice rfl rfl Ty.sl_53 Ty.sz_5 (by omega) (by omega)) ?_
      refine sp (r_ld1o rfl Ty.row_5 (cellb hra (j := 4 * k + 1) (by omega) (by omega)) hA) ?_
      refine sp (r_conv8w rfl Ty.un_5 Ty.un_117) ?_
      refine sp (r_shlw (j := 16) rfl rfl rfl (by decide)) ?_
      refine sp zwo ?_
      refine sp zmv ?_
      refine sp zmv ?_
      refine sp zml ?_
      refine sp zad ?_
      refine sp (r_indexAddr_slice rfl rfl Ty.sl_53 Ty.sz_5 (by omega) (by omega)) ?_
      refine sp (r_ld1o rfl Ty.row_5 (cellb hra (j := 4 * k + 2) (by omega) (by omega)) hA) ?_
      refine sp (r_conv8w rfl Ty.un_5 Ty.un_117) ?_
      refine sp (r_shlw (j := 8) rfl rfl rfl (by decide)) ?_
      refine sp zwo ?_
      refine sp zmv ?_
      refine sp zmv ?_
      refine sp zml ?_
      refine sp zad ?_
      refine sp (r_indexAddr_slice rfl rfl Ty.sl_53 Ty.sz_5 (by omega) (by omega)) ?_
      refine sp (r_ld1o rfl Ty.row_5 (cellb hra (j := 4 * k + 3) (by omega) (by omega)) hA) ?_
      refine sp (r_conv8w rfl Ty.un_5 Ty.un_117) ?_
      refine sp zwo ?_
      refine sp (r_indexAddr_arr rfl rfl Ty.arr_133 Ty.sz_117 (by omega) (by omega)) ?_
      refine gs_nil ?_
      refine gl_store1 (wt0 rfl) rfl rfl rfl Ty.sz_117 (by repeat (first | exact Pick.here | apply Pick.there)) (by rw [fnc_length]; omega) (pfx_set (k := k) (by omega) (by omega) (congrArg W32 (sch_lo hk').symm)) ?_
      refine gl_nil ?_
      refine gx_block_normal ?_
      refine gx_then ?_
      refine gc_region ?_
      refine gp zad ?_
      refine gp zmv ?_
      refine gl_nil ?_
      refine zrd (k + 1) ?_ ?_
      · show 16 - (k + 1) < 16 - k
        omega
      · rintro w' hw
        obtain ⟨F', hF', hst'⟩ := hw.sel (M := [blk b3 133 _, blk b2 133 _]) (by repeat (first | exact Sel.nil | (apply Sel.cons; · (repeat (first | exact Pick.here | apply Pick.there)))))
        exact ⟨F', stars_pure_mk (show k + 1 ≤ 16 by omega) hF', hst'⟩
    · have hk' : k = 16 := by (try simp only at hc11); omega
      subst hk'
      refine gc_exit ?_
      refine gx_then_exit ?_
      refine gx_round_exit ?_
      refine gx_block_hit ?_
      refine gx_then ?_
      refine gc_seq ?_
      refine gsr ?_
      refine gp zas ?_
      refine gnt ?_
      refine gc_block ?_
      refine gc_loop (α := Nat) (fun k => [pureR (16 ≤ k ∧ k ≤ 64), blk b3 133 (fnc W32 64 (pfx (sch b) (fun _ => 0) k)), blk b2 133 (List.replicate 64 (.int .u32 0))]) (fun k => [(5, .int .i64 (k : Int))]) [6, 7, 8, 9, 49, 50, 51, 52, 53, 54, 55, 56, 57, 58, 59, 60, 61, 62, 63, 64, 65, 66, 67, 68, 69, 70, 71, 72, 73, 74, 75, 76, 77, 78, 79, 80, 81, 82, 83, 84, 85, 86, 87, 88, 89, 90, 91] (fun k => 64 - k) 16 ?_ ?_ ?_
      · refine env_start (by kernel_rfl)
      · rintro w' hw
        obtain ⟨F', hF', hst'⟩ := hw.sel (M := [blk b3 133 _, blk b2 133 _]) (by repeat (first | exact Sel.nil | (apply Sel.cons; · (repeat (first | exact Pick.here | apply Pick.there)))))
        exact ⟨F', stars_pure_mk (by decide) hF', hst'⟩
      · intro k u
        refine gc_pureR (fun hk => ?_)
        replace hk : 16 ≤ k ∧ k ≤ 64 := hk
        refine gc_seq ?_
        refine gsr ?_
        refine gp zmv ?_
        refine gp zlt ?_
        refine gnt ?_
        refine gif rfl (fun hc50 => ?_) (fun hc50 => ?_)
        · have hk' : k < 64 := by (try simp only at hc50); omega
          refine gc_skip ?_
          refine gx_then ?_
          refine gc_seq ?_
          refine gc_block ?_
          refine gc_seq ?_
          refine gc_regionS (by kernel_rfl) (by kernel_rfl) ?_
          refine sp zmv ?_
          refine sp zsb ?_
          refine sp (r_indexAddr_arr rfl rfl Ty.arr_133 Ty.sz_117 (by omega) (by omega)) ?_
          refine sp (r_ld1 (v := W32 ((sch b) (k - 15))) rfl Ty.row_117 (by repeat (first | exact Pick.here | apply Pick.there)) (pfx_get (by omega) (by omega) (by omega))) ?_
          refine sp zmv ?_
          refine sp zsb ?_
          refine sp (r_indexAddr_arr rfl rfl Ty.arr_133 Ty.sz_117 (by omega) (by omega)) ?_
          refine sp (r_ld1 (v := W32 ((sch b) (k - 2))) rfl Ty.row_117 (by repeat (first | exact Pick.here | apply Pick.there)) (pfx_get (by omega) (by omega) (by omega))) ?_
          refine sp zas ?_
          refine sp zas ?_
          refine gs_nil ?_
          refine gx_then ?_
          refine gsr ?_
          refine gp zmv ?_
          refine zc (fun _ => ?_) (c := fun w1 F1 F2 h1 h2 hd hst => rot_ok (n := 7) h1 (by decide) (by decide))
          refine gp zmv ?_
          refine zc (fun _ => ?_) (c := fun w1 F1 F2 h1 h2 hd hst => rot_ok (n := 18) h1 (by decide) (by decide))
          refine gp zwx ?_
          refine gp zmv ?_
          refine gp (r_shrw (j := 3) rfl rfl rfl (by decide)) ?_
          refine gp zwx ?_
          refine gp zas ?_
          refine gnt ?_
          refine gsr ?_
          refine gp zmv ?_
          refine zc (fun _ => ?_) (c := fun w1 F1 F2 h1 h2 hd hst => rot_ok (n := 17) h1 (by decide) (by decide))
          refine gp zmv ?_
          refine zc (fun _ => ?_) (c := fun w1 F1 F2 h1 h2 hd hst => rot_ok (n := 19) h1 (by decide) (by decide))
          refine gp zwx ?_
          refine gp zmv ?_
          refine gp (r_shrw (j := 10) rfl rfl rfl (by decide)) ?_
          refine gp zwx ?_
          refine gp zas ?_
          refine gnt ?_
          refine gc_regionT 15 (by kernel_rfl) (by kernel_rfl) ?_
          refine sp zmv ?_
          refine sp zmv ?_
          refine sp zsb ?_
          refine sp (r_indexAddr_arr rfl rfl Ty.arr_133 Ty.sz_117 (by omega) (by omega)) ?_
          refine sp (r_ld1 (v := W32 ((sch b) (k - 16))) rfl Ty.row_117 (by repeat (first | exact Pick.here | apply Pick.there)) (pfx_get (by omega) (by omega) (by omega))) ?_
          refine sp zmv ?_
          refine sp zwa ?_
          refine sp zmv ?_
          refine sp zsb ?_
          refine sp (r_indexAddr_arr rfl rfl Ty.arr_133 Ty.sz_117 (by omega) (by omega)) ?_
          refine sp (r_ld1 (v := W32 ((sch b) (k - 7))) rfl Ty.row_117 (by repeat (first | exact Pick.here | apply Pick.there)) (pfx_get (by omega) (by omega) (by omega))) ?_
          refine sp zwa ?_
          refine sp zmv ?_
          refine sp zwa ?_
          refine sp (r_indexAddr_arr rfl rfl Ty.arr_133 Ty.sz_117 (by omega) (by omega)) ?_
          refine gs_nil ?_
          refine gl_store1 (wt0 rfl) rfl rfl rfl Ty.sz_117 (by repeat (first | exact Pick.here | apply Pick.there)) (by rw [fnc_length]; omega) (pfx_set (k := k) (by omega) (by omega) (congrArg W32 (sch_hi hk.1).symm)) ?_
          refine gl_nil ?_
          refine gx_block_normal ?_
          refine gx_then ?_
          refine gc_region ?_
          refine gp zmv ?_
          refine gp zad ?_
          refine gp zas ?_
          refine gl_nil ?_
          refine zrd (k + 1) ?_ ?_
          · show 64 - (k + 1) < 64 - k
            omega
          · rintro w' hw
            obtain ⟨F', hF', hst'⟩ := hw.sel (M := [blk b3 133 _, blk b2 133 _]) (by repeat (first | exact Sel.nil | (apply Sel.cons; · (repeat (first | exact Pick.here | apply Pick.there)))))
            exact ⟨F', stars_pure_mk (show 16 ≤ k + 1 ∧ k + 1 ≤ 64 by omega) hF', hst'⟩
        · have hk' : k = 64 := by (try simp only at hc50); omega
          subst hk'
          refine gc_exit ?_
          refine gx_then_exit ?_
          refine gx_round_exit ?_
          refine gx_block_hit ?_
          refine gx_then ?_
          refine gsr ?_
          refine gp (r_ldN rfl Ty.row_133 Ty.sz_133 (by repeat (first | exact Pick.here | apply Pick.there)) (seg_all fnc_length) fnc_length) ?_
          refine gl_storeN (wt0 rfl) rfl rfl Ty.sz_133 fnc_length (by repeat (first | exact Pick.here | apply Pick.there)) (by simp) (fnc_one fun _ => rfl) (updL_all (by simp [fnc_length])) ?_
          refine gnt ?_
          refine gc_ret ?_
          refine gx_retc rfl rfl (ld_aggS Ty.row_133 Ty.sz_133 (by repeat (first | exact Pick.here | apply Pick.there)) (seg_all fnc_length) fnc_length) ?_
          rw [pfx_full]
          exact ze ()

end Go.Proofs.YtheonhgffglegaaDoor

/- The shell, part J: the hash's constants; rows of rows of bytes. -/
namespace Go.Proofs.YtheonhgffglegaaDoor
open Go
open Go.ChangeShapes Go.WideShapes Go.RowKit
set_option linter.unusedVariables false
theorem laid_kr {W : World} {r : List (String × DataW Unit)} (h : laidMet Tryd.prog (("quorate/hash.constants", Lib.tabData .u32 (kc.map fun x => (x.toNat : Int))) :: r) W) : KR W (fun k => ¬ (fun _ : Nat => False) k) := by
  have hT := Lib.tabIs_of_head (g := 8) (by kernel_rfl) (by kernel_rfl) (run_arrT Ty.arr_133) Ty.un_117 (by kernel_rfl) (by kernel_rfl) h
  refine ⟨fun i hi => ?_, id⟩
  have := World.var?_cell (g := 8) (by kernel_rfl) hT i
  rw [this]
  have hk : i < kc.length := hi
  simp only [List.map_map, List.getElem?_toArray, List.getElem?_map, List.getElem?_eq_getElem hk, Option.map_some]
  simp [W32, Kc, List.getD, List.getElem?_eq_getElem hk]
theorem RdRowC.le {α : Type} {V : α → Value} {w : World} {A : Nat → Prop} {a : Option Addr} {n c : Nat} {l : List α} (h : RdRowC V w A [.slice a n c] l) : n ≤ c := by
  obtain ⟨a', n', c', e, hle, _⟩ := h
  injection e with e _
  injection e with e1 e2 e3
  subst e2; subst e3
  exact hle
def RdLists (w : World) (A : Nat → Prop) (cs : List Value) (l : List (List UInt8)) : Prop := ∃ a n c, cs = [.slice a n c] ∧ n ≤ c ∧ RdList (RdBytes w A) w A 1 a n l
theorem RdLists.list {w : World} {A : Nat → Prop} {a : Option Addr} {n c : Nat} {l : List (List UInt8)} (h : RdLists w A [.slice a n c] l) : RdList (RdBytes w A) w A 1 a n l := by
  obtain ⟨a', n', c', e, _, hr⟩ := h
  injection e with e _
  injection e with e1 e2 e3
  subst e1; subst e2
  exact hr
section
variable {H : Type} {enc : TypeId × Value → H} {w : World} {base : Nat} {sp : Nat → Bool} {held : Bool}
end
end Go.Proofs.YtheonhgffglegaaDoor

/- Walks, by program (wg.py) out of a spec. -/
namespace Go.Proofs.YtheonhgffglegaaDoor
open Go
set_option linter.unusedVariables false
set_option linter.unusedSimpArgs false


def errG : Nat → Nat
  | 1 => 7
  | 4 => 2
  | 8 => 6
  | 9 => 0
  | 12 => 1
  | 14 => 5
  | 16 => 4
  | 17 => 3
  | _ => 0
/-- es has this error. -/
class Has (es : List Nat) (i : Nat) : Prop where
  h : i ∈ es
instance {i : Nat} {l : List Nat} : Has (i :: l) i := ⟨List.mem_cons_self⟩
instance {i j : Nat} {l : List Nat} [k : Has l i] : Has (j :: l) i := ⟨List.mem_cons_of_mem _ k.h⟩
/-- These errors' variables hold their errors, and lie in A. -/
structure GErr (es : List Nat) (w : World) (A : Nat → Prop) (TE : TypeId) (ea : Nat → Addr) : Prop where
  c : ∀ i, i ∈ es → w.cell? ⟨errG i, 0, none⟩ = some (eV TE ea i)
  n : ∀ i, i ∈ es → A (errG i)
theorem GErr.mv {es : List Nat} {w w' : World} {A A' : Nat → Prop} {TE : TypeId} {ea : Nat → Addr} (h : GErr es w A TE ea) (hk : ∀ k, k < w.heap.size → A k → w'.heap[k]? = w.heap[k]? ∧ A' k) : GErr es w' A' TE ea :=
  ⟨fun i hi => by
    have := hk _ (World.block_lt_of_cell? w ⟨errG i, 0, none⟩ (h.c i hi)) (h.n i hi)
    rw [World.cell?_of_block (w := w) (a := ⟨errG i, 0, none⟩) this.1]; exact h.c i hi,
   fun i hi => (hk _ (World.block_lt_of_cell? w ⟨errG i, 0, none⟩ (h.c i hi)) (h.n i hi)).2⟩
theorem shl_pow {wd : Nat} (h : wd < 8) : IntKind.i64.wrap (1 * 2 ^ (min (8 * (wd : Int)).toNat IntKind.i64.bits)) = 2 ^ (8 * wd) := by
  have e : min (8 * (wd : Int)).toNat IntKind.i64.bits = 8 * wd := by simp only [IntKind.bits]; omega
  rw [e]
  have : wd = 0 ∨ wd = 1 ∨ wd = 2 ∨ wd = 3 ∨ wd = 4 ∨ wd = 5 ∨ wd = 6 ∨ wd = 7 := by omega
  rcases this with h | h | h | h | h | h | h | h <;> subst h <;> rfl
theorem byte_shr {n : Int} {wd k : Nat} {i : Int} (hi : i = (wd : Int) - 1 - k) (hk : k < wd) (hw : wd ≤ 8) :
    Value.int .u8 (IntKind.u8.wrap (n.fdiv (2 ^ (min (8 * i).toNat IntKind.i64.bits)))) = B8 (byteAt n (wd - 1 - k)) := by
  subst hi
  have e : min (8 * ((wd : Int) - 1 - k)).toNat IntKind.i64.bits = 8 * (wd - 1 - k) := by simp only [IntKind.bits]; omega
  rw [e, Int.fdiv_eq_ediv_of_nonneg _ (by exact Int.le_of_lt (Int.pow_pos (by omega)))]
  simp only [B8, byteAt, Value.int.injEq, true_and]
  generalize n / 2 ^ (8 * (wd - 1 - k)) = m
  have h1 : IntKind.u8.wrap m = m % 256 := by simp [IntKind.wrap, IntKind.bits, IntKind.signed]
  rw [h1, UInt8.toNat_ofNat']
  omega

attribute [local irreducible] Gl Gc Gx Gs Runs Wt

set_option maxHeartbeats 400000 in
theorem number_neg {w : World} {F : Nat → Prop} {g TE : Nat} {ea : Nat → Addr} {s : WS} {n : Int} {wd : Nat} (h : stars [WrR TE ea g s] w F) {es : List Nat} [Has es 1] (hE : GErr es w (fun k => ¬ F k) TE ea) (h1 : 1 ≤ wd) (h8 : wd ≤ 8) (hn : n < 0) :
    Calls Tryd.prog 58 #[.pointer (some ⟨g, 0, none⟩), .int .i64 n, .int .i64 (wd : Int)] w (Post w F (fun _ : Unit => .tuple #[]) (fun _ => [WrR TE ea g (wFail 1 s)])) := by
  obtain ⟨a0, c0, h'⟩ := wr_open h
  refine g_enter (env := [(0, .pointer (some ⟨g, 0, none⟩)), (1, .int .i64 n), (2, .int .i64 (wd : Int))]) Tryd.func58 rfl h' Tryd.ntmps58 rfl rfl ?_
  refine gc_seq ?_
  refine gsr ?_
  refine gp zmv ?_
  refine gp (r_bool (r_lss rfl rfl) (decide_eq_false (by omega))) ?_
  refine gp zmv ?_
  refine gq zmv ?_
  refine gq (r_bool (r_gtr rfl rfl) (decide_eq_false (by omega))) ?_
  refine gp zpk ?_
  refine gp zmv ?_
  refine gq zmv ?_
  refine gq (r_bool (r_lss rfl rfl) (decide_eq_true hn)) ?_
  refine gp zpk ?_
  refine gp zmv ?_
  refine gn ?_
  refine gn ?_
  refine gn ?_
  refine gn ?_
  refine gn ?_
  refine gn ?_
  refine gn ?_
  refine gn ?_
  refine gn ?_
  refine gp zpk ?_
  refine gnt ?_
  refine gc_condT rfl rfl ?_
  refine gc_seq ?_
  refine gc_regionT 4 (by kernel_rfl) (by kernel_rfl) ?_
  refine sp zmv ?_
  refine sp znc ?_
  refine sp zfa ?_
  refine sp (r_ld1o rfl Ty.row_40 (hE.c 1 Has.h) (hE.n 1 Has.h)) ?_
  refine gs_nil ?_
  refine zc (fun _ => ?_) (c := fun w1 F1 F2 h1 h2 hd hst => fail_ok h1)
  refine gnt ?_
  refine gc_ret ?_
  refine gx_then_ret ?_
  refine gx_ret0 rfl ?_
  exact fun w' hw => ⟨(), rfl, by rw [wFail]; by_cases he : s.err = 0 <;> simp only [he, if_true, if_false, ite_true, ite_false] at hw ⊢ <;> exact St.wr (hw.sel (by repeat (first | exact Sel.nil | (apply Sel.cons; · (repeat (first | exact Pick.here | apply Pick.there)))))) (by simp [he]) rfl rfl⟩

set_option maxHeartbeats 400000 in
theorem number_big {w : World} {F : Nat → Prop} {g TE : Nat} {ea : Nat → Addr} {s : WS} {n : Int} {wd : Nat} (h : stars [WrR TE ea g s] w F) {es : List Nat} [Has es 1] (hE : GErr es w (fun k => ¬ F k) TE ea) (h1 : 1 ≤ wd) (h8 : wd ≤ 8) (hn : 0 ≤ n) (hw8 : wd < 8) (hb : (2 : Int) ^ (8 * wd) ≤ n) :
    Calls Tryd.prog 58 #[.pointer (some ⟨g, 0, none⟩), .int .i64 n, .int .i64 (wd : Int)] w (Post w F (fun _ : Unit => .tuple #[]) (fun _ => [WrR TE ea g (wFail 1 s)])) := by
  obtain ⟨a0, c0, h'⟩ := wr_open h
  refine g_enter (env := [(0, .pointer (some ⟨g, 0, none⟩)), (1, .int .i64 n), (2, .int .i64 (wd : Int))]) Tryd.func58 rfl h' Tryd.ntmps58 rfl rfl ?_
  refine gc_seq ?_
  refine gsr ?_
  refine gp zmv ?_
  refine gp (r_bool (r_lss rfl rfl) (decide_eq_false (by omega))) ?_
  refine gp zmv ?_
  refine gq zmv ?_
  refine gq (r_bool (r_gtr rfl rfl) (decide_eq_false (by omega))) ?_
  refine gp zpk ?_
  refine gp zmv ?_
  refine gq zmv ?_
  refine gq (r_bool (r_lss rfl rfl) (decide_eq_false (by omega))) ?_
  refine gp zpk ?_
  refine gp zmv ?_
  refine gq zmv ?_
  refine gq (r_bool (r_lss rfl rfl) (decide_eq_true (by omega))) ?_
  refine gq zmv ?_
  refine gq zmv ?_
  refine gq zmv ?_
  refine gq (r_arith (op := .mul) rfl rfl (wrap_i64 (by omega) (by omega))) ?_
  refine gq (r_int (r_shl rfl rfl (by omega)) (shl_pow (by omega))) ?_
  refine gq (r_bool (r_geq rfl rfl) (decide_eq_true hb)) ?_
  refine gq zpk ?_
  refine gp zpk ?_
  refine gnt ?_
  refine gc_condT rfl rfl ?_
  refine gc_seq ?_
  refine gc_regionT 4 (by kernel_rfl) (by kernel_rfl) ?_
  refine sp zmv ?_
  refine sp znc ?_
  refine sp zfa ?_
  refine sp (r_ld1o rfl Ty.row_40 (hE.c 1 Has.h) (hE.n 1 Has.h)) ?_
  refine gs_nil ?_
  refine zc (fun _ => ?_) (c := fun w1 F1 F2 h1 h2 hd hst => fail_ok h1)
  refine gnt ?_
  refine gc_ret ?_
  refine gx_then_ret ?_
  refine gx_ret0 rfl ?_
  exact fun w' hw => ⟨(), rfl, by rw [wFail]; by_cases he : s.err = 0 <;> simp only [he, if_true, if_false, ite_true, ite_false] at hw ⊢ <;> exact St.wr (hw.sel (by repeat (first | exact Sel.nil | (apply Sel.cons; · (repeat (first | exact Pick.here | apply Pick.there)))))) (by simp [he]) rfl rfl⟩

set_option maxHeartbeats 400000 in
theorem number_fit7 {w : World} {F : Nat → Prop} {g TE : Nat} {ea : Nat → Addr} {s : WS} {n : Int} {wd : Nat} (h : stars [WrR TE ea g s] w F) {es : List Nat} [Has es 1] (hE : GErr es w (fun k => ¬ F k) TE ea) (h1 : 1 ≤ wd) (h8 : wd ≤ 8) (hl : s.bs.length + wd ≤ 1099511627776) (hn : 0 ≤ n) (hw8 : wd < 8) (hb : n < (2 : Int) ^ (8 * wd)) :
    Calls Tryd.prog 58 #[.pointer (some ⟨g, 0, none⟩), .int .i64 n, .int .i64 (wd : Int)] w (Post w F (fun _ : Unit => .tuple #[]) (fun _ => [WrR TE ea g (wFix (beN n wd) s)])) := by
  refine g_enter (env := [(0, .pointer (some ⟨g, 0, none⟩)), (1, .int .i64 n), (2, .int .i64 (wd : Int))]) Tryd.func58 rfl h Tryd.ntmps58 rfl rfl ?_
  refine gc_seq ?_
  refine gsr ?_
  refine gp zmv ?_
  refine gp (r_bool (r_lss rfl rfl) (decide_eq_false (by omega))) ?_
  refine gp zmv ?_
  refine gq zmv ?_
  refine gq (r_bool (r_gtr rfl rfl) (decide_eq_false (by omega))) ?_
  refine gp zpk ?_
  refine gp zmv ?_
  refine gq zmv ?_
  refine gq (r_bool (r_lss rfl rfl) (decide_eq_false (by omega))) ?_
  refine gp zpk ?_
  refine gp zmv ?_
  refine gq zmv ?_
  refine gq (r_bool (r_lss rfl rfl) (decide_eq_true (by omega))) ?_
  refine gq zmv ?_
  refine gq zmv ?_
  refine gq zmv ?_
  refine gq (r_arith (op := .mul) rfl rfl (wrap_i64 (by omega) (by omega))) ?_
  refine gq (r_int (r_shl rfl rfl (by omega)) (shl_pow (by omega))) ?_
  refine gq (r_bool (r_geq rfl rfl) (decide_eq_false (by omega))) ?_
  refine gq zpk ?_
  refine gp zpk ?_
  refine gnt ?_
  refine gc_condF rfl rfl ?_
  refine gc_skip ?_
  refine gx_then ?_
  refine gsr ?_
  refine gp zas ?_
  refine gnt ?_
  refine gc_seq ?_
  refine gsr ?_
  refine gp zmv ?_
  refine gp (r_int (r_arith (op := .sub) rfl rfl (wrap_i64 (by omega) (by omega))) (show (wd : Int) - 1 = (wd : Int) - 1 - ((0 : Nat) : Int) by omega)) ?_
  refine gp zas ?_
  refine gnt ?_
  refine gc_block ?_
  refine gc_loop (α := Nat × Option Addr × Nat) (fun x => [pureR (x.1 ≤ wd), rowR 5 1 x.2.1 x.1 x.2.2 (((List.range x.1).map fun j => byteAt n (wd - 1 - j)).map B8), WrR TE ea g s]) (fun x => [(6, .slice x.2.1 x.1 x.2.2), (7, .int .i64 ((wd : Int) - 1 - (x.1 : Int)))]) [36, 37, 38, 39, 40, 41, 42, 43, 44, 45, 46, 47] (fun x => wd - x.1) (0, none, 0) ?_ ?_ ?_
  · refine env_start (by kernel_rfl)
  · rintro w' ⟨F', hF', hst'⟩
    exact ⟨F', stars_pure_mk (Nat.zero_le _) (stars_row_nil hF'), hst'⟩
  · intro x u
    obtain ⟨k, a, c⟩ := x
    refine gc_pureR (fun hk => ?_)
    replace hk : k ≤ wd := hk
    refine gc_seq ?_
    refine gsr ?_
    refine gp zmv ?_
    refine gp zge ?_
    refine gnt ?_
    refine gif rfl (fun hc37 => ?_) (fun hc37 => ?_)
    · have hk' : k < wd := by (try simp only at hc37); omega
      refine gc_skip ?_
      refine gx_then ?_
      refine gc_seq ?_
      refine gc_block ?_
      refine gc_region ?_
      refine gp zmv ?_
      refine gp zmv ?_
      refine gp zmv ?_
      refine gp (r_arith (op := .mul) rfl rfl (wrap_i64 (by omega) (by omega))) ?_
      refine gp zhr ?_
      refine gp (r_val (r_conv_int rfl Ty.un_3 Ty.un_5) (byte_shr rfl hk' h8)) ?_
      refine gl_bsl1 (wt0 rfl) Ty.sl_53 Ty.sz_5 Ty.zc_5 (by conv => lhs; whnf) rfl ?_
      intro b46
      refine gl_append (news := [B8 (byteAt n (wd - 1 - k))]) (wt0 rfl) rfl rfl (by repeat (first | exact Pick.here | apply Pick.there)) Ty.el_53 (fun w' hw => hw.row (by repeat (first | exact Pick.here | apply Pick.there))) (all_cons' rfl all_nil') (by simp only [maxLen]; omega) (by omega) ?_
      intro a1 c1
      refine gp zas ?_
      refine gl_nil ?_
      refine gx_block_normal ?_
      refine gx_then ?_
      refine gc_region ?_
      refine gp zmv ?_
      refine gp (r_int (r_arith (op := .sub) rfl rfl (wrap_i64 (by omega) (by omega))) (show (wd : Int) - 1 - (k : Int) - 1 = (wd : Int) - 1 - ((k + 1 : Nat) : Int) by omega)) ?_
      refine gp zas ?_
      refine gl_nil ?_
      have hk' : k < wd := by omega
      refine zrd ((k + 1, a1, c1)) ?_ ?_
      · show wd - (k + 1) < wd - k
        omega
      · rintro w' hw
        obtain ⟨F', hF', hst'⟩ := hw.sel (M := [rowR 5 1 a1 (k + 1) c1 _, WrR TE ea g s]) (by repeat (first | exact Sel.nil | (apply Sel.cons; · (repeat (first | exact Pick.here | apply Pick.there)))))
        refine ⟨F', stars_pure_mk (by show k + 1 ≤ wd; omega) ?_, hst'⟩
        have e : ((List.range (k + 1)).map fun j => byteAt n (wd - 1 - j)).map B8 = ((List.range k).map fun j => byteAt n (wd - 1 - j)).map B8 ++ [B8 (byteAt n (wd - 1 - k))] := by simp [List.range_succ]
        show stars [rowR 5 1 a1 (k + 1) c1 (((List.range (k + 1)).map fun j => byteAt n (wd - 1 - j)).map B8), WrR TE ea g s] w' F'
        rw [e]
        exact hF'
    · have hk' : k = wd := by (try simp only at hc37); omega
      subst hk'
      refine gc_exit ?_
      refine gx_then_exit ?_
      refine gx_round_exit ?_
      refine gx_block_hit ?_
      refine gx_then ?_
      refine gc_region ?_
      refine gp zmv ?_
      refine gp zmv ?_
      refine zc (fun _ => ?_) (c := fun w1 F1 F2 h1 h2 hd hst => fixed_ok h1 (rd_row (xs := (beN n k).map B8) h2 hd (by repeat (first | exact Pick.here | apply Pick.there))) (by omega))
      refine gl_nil ?_
      refine gx_ret0' rfl ?_
      exact ze ()

set_option maxHeartbeats 400000 in
theorem number_fit8 {w : World} {F : Nat → Prop} {g TE : Nat} {ea : Nat → Addr} {s : WS} {n : Int} {wd : Nat} (h : stars [WrR TE ea g s] w F) {es : List Nat} [Has es 1] (hE : GErr es w (fun k => ¬ F k) TE ea) (h1 : 1 ≤ wd) (h8 : wd ≤ 8) (hl : s.bs.length + wd ≤ 1099511627776) (hn : 0 ≤ n) (hw8 : wd = 8) :
    Calls Tryd.prog 58 #[.pointer (some ⟨g, 0, none⟩), .int .i64 n, .int .i64 (wd : Int)] w (Post w F (fun _ : Unit => .tuple #[]) (fun _ => [WrR TE ea g (wFix (beN n wd) s)])) := by
  refine g_enter (env := [(0, .pointer (some ⟨g, 0, none⟩)), (1, .int .i64 n), (2, .int .i64 (wd : Int))]) Tryd.func58 rfl h Tryd.ntmps58 rfl rfl ?_
  refine gc_seq ?_
  refine gsr ?_
  refine gp zmv ?_
  refine gp (r_bool (r_lss rfl rfl) (decide_eq_false (by omega))) ?_
  refine gp zmv ?_
  refine gq zmv ?_
  refine gq (r_bool (r_gtr rfl rfl) (decide_eq_false (by omega))) ?_
  refine gp zpk ?_
  refine gp zmv ?_
  refine gq zmv ?_
  refine gq (r_bool (r_lss rfl rfl) (decide_eq_false (by omega))) ?_
  refine gp zpk ?_
  refine gp zmv ?_
  refine gq zmv ?_
  refine gq (r_bool (r_lss rfl rfl) (decide_eq_false (by omega))) ?_
  refine gq zmv ?_
  refine gn ?_
  refine gn ?_
  refine gn ?_
  refine gn ?_
  refine gn ?_
  refine gq zpk ?_
  refine gp zpk ?_
  refine gnt ?_
  refine gc_condF rfl rfl ?_
  refine gc_skip ?_
  refine gx_then ?_
  refine gsr ?_
  refine gp zas ?_
  refine gnt ?_
  refine gc_seq ?_
  refine gsr ?_
  refine gp zmv ?_
  refine gp (r_int (r_arith (op := .sub) rfl rfl (wrap_i64 (by omega) (by omega))) (show (wd : Int) - 1 = (wd : Int) - 1 - ((0 : Nat) : Int) by omega)) ?_
  refine gp zas ?_
  refine gnt ?_
  refine gc_block ?_
  refine gc_loop (α := Nat × Option Addr × Nat) (fun x => [pureR (x.1 ≤ wd), rowR 5 1 x.2.1 x.1 x.2.2 (((List.range x.1).map fun j => byteAt n (wd - 1 - j)).map B8), WrR TE ea g s]) (fun x => [(6, .slice x.2.1 x.1 x.2.2), (7, .int .i64 ((wd : Int) - 1 - (x.1 : Int)))]) [36, 37, 38, 39, 40, 41, 42, 43, 44, 45, 46, 47] (fun x => wd - x.1) (0, none, 0) ?_ ?_ ?_
  · refine env_start (by kernel_rfl)
  · rintro w' ⟨F', hF', hst'⟩
    exact ⟨F', stars_pure_mk (Nat.zero_le _) (stars_row_nil hF'), hst'⟩
  · intro x u
    obtain ⟨k, a, c⟩ := x
    refine gc_pureR (fun hk => ?_)
    replace hk : k ≤ wd := hk
    refine gc_seq ?_
    refine gsr ?_
    refine gp zmv ?_
    refine gp zge ?_
    refine gnt ?_
    refine gif rfl (fun hc37 => ?_) (fun hc37 => ?_)
    · have hk' : k < wd := by (try simp only at hc37); omega
      refine gc_skip ?_
      refine gx_then ?_
      refine gc_seq ?_
      refine gc_block ?_
      refine gc_region ?_
      refine gp zmv ?_
      refine gp zmv ?_
      refine gp zmv ?_
      refine gp (r_arith (op := .mul) rfl rfl (wrap_i64 (by omega) (by omega))) ?_
      refine gp zhr ?_
      refine gp (r_val (r_conv_int rfl Ty.un_3 Ty.un_5) (byte_shr rfl hk' h8)) ?_
      refine gl_bsl1 (wt0 rfl) Ty.sl_53 Ty.sz_5 Ty.zc_5 (by conv => lhs; whnf) rfl ?_
      intro b46
      refine gl_append (news := [B8 (byteAt n (wd - 1 - k))]) (wt0 rfl) rfl rfl (by repeat (first | exact Pick.here | apply Pick.there)) Ty.el_53 (fun w' hw => hw.row (by repeat (first | exact Pick.here | apply Pick.there))) (all_cons' rfl all_nil') (by simp only [maxLen]; omega) (by omega) ?_
      intro a1 c1
      refine gp zas ?_
      refine gl_nil ?_
      refine gx_block_normal ?_
      refine gx_then ?_
      refine gc_region ?_
      refine gp zmv ?_
      refine gp (r_int (r_arith (op := .sub) rfl rfl (wrap_i64 (by omega) (by omega))) (show (wd : Int) - 1 - (k : Int) - 1 = (wd : Int) - 1 - ((k + 1 : Nat) : Int) by omega)) ?_
      refine gp zas ?_
      refine gl_nil ?_
      have hk' : k < wd := by omega
      refine zrd ((k + 1, a1, c1)) ?_ ?_
      · show wd - (k + 1) < wd - k
        omega
      · rintro w' hw
        obtain ⟨F', hF', hst'⟩ := hw.sel (M := [rowR 5 1 a1 (k + 1) c1 _, WrR TE ea g s]) (by repeat (first | exact Sel.nil | (apply Sel.cons; · (repeat (first | exact Pick.here | apply Pick.there)))))
        refine ⟨F', stars_pure_mk (by show k + 1 ≤ wd; omega) ?_, hst'⟩
        have e : ((List.range (k + 1)).map fun j => byteAt n (wd - 1 - j)).map B8 = ((List.range k).map fun j => byteAt n (wd - 1 - j)).map B8 ++ [B8 (byteAt n (wd - 1 - k))] := by simp [List.range_succ]
        show stars [rowR 5 1 a1 (k + 1) c1 (((List.range (k + 1)).map fun j => byteAt n (wd - 1 - j)).map B8), WrR TE ea g s] w' F'
        rw [e]
        exact hF'
    · have hk' : k = wd := by (try simp only at hc37); omega
      subst hk'
      refine gc_exit ?_
      refine gx_then_exit ?_
      refine gx_round_exit ?_
      refine gx_block_hit ?_
      refine gx_then ?_
      refine gc_region ?_
      refine gp zmv ?_
      refine gp zmv ?_
      refine zc (fun _ => ?_) (c := fun w1 F1 F2 h1 h2 hd hst => fixed_ok h1 (rd_row (xs := (beN n k).map B8) h2 hd (by repeat (first | exact Pick.here | apply Pick.there))) (by omega))
      refine gl_nil ?_
      refine gx_ret0' rfl ?_
      exact ze ()


theorem number_ok {w : World} {F : Nat → Prop} {g TE : Nat} {ea : Nat → Addr} {s : WS} {n : Int} {wd : Nat} (h : stars [WrR TE ea g s] w F) {es : List Nat} [Has es 1] (hE : GErr es w (fun k => ¬ F k) TE ea) (h1 : 1 ≤ wd) (h8 : wd ≤ 8) (hl : s.bs.length + wd ≤ 1099511627776) :
    Calls Tryd.prog 58 #[.pointer (some ⟨g, 0, none⟩), .int .i64 n, .int .i64 (wd : Int)] w (Post w F (fun _ : Unit => .tuple #[]) (fun _ => [WrR TE ea g (wNum n wd s)])) := by
  unfold wNum
  by_cases hn : n < 0
  · rw [if_pos (.inl hn)]; exact number_neg h hE h1 h8 hn
  · by_cases hb : wd < 8 ∧ (2 : Int) ^ (8 * wd) ≤ n
    · rw [if_pos (.inr hb)]; exact number_big h hE h1 h8 (by omega) hb.1 hb.2
    · rw [if_neg (fun hh => hh.elim hn hb)]
      by_cases hw : wd < 8
      · exact number_fit7 h hE h1 h8 hl (by omega) hw (by have : ¬ (2 : Int) ^ (8 * wd) ≤ n := fun h' => hb ⟨hw, h'⟩; omega)
      · exact number_fit8 h hE h1 h8 hl (by omega) (by omega)

end Go.Proofs.YtheonhgffglegaaDoor

/- Plain words: what the writer of layer 9 makes of messages' parts. No program in sight. -/
namespace Go.Proofs.YtheonhgffglegaaDoor
set_option linter.unusedVariables false

def wPut {α : Type} (wX : α → WS → WS) (l : List α) (most : Nat) (s : WS) : WS :=
  if most < l.length ∨ 255 < l.length then wFail 1 s else l.foldl (fun s x => wX x s) (wNum (l.length : Int) 1 s)
def wDig (d : Dig) (s : WS) : WS := wFix d.l s
def wBytes (b : List UInt8) (most : Nat) (s : WS) : WS := if most < b.length ∨ 65535 < b.length then wFail 1 s else wFix b (wNum (b.length : Int) 2 s)
def wSig (x : Sig) (s : WS) : WS := wPut wDig x.path 5 (wPut wDig x.chains 68 (wNum x.leaf 1 s))
def wSigned (x : Signed) (s : WS) : WS := wSig x.sig (wNum x.who 1 s)
def wAt (e r : Int) (s : WS) : WS := wNum r 6 (wNum e 4 s)
def wQC (q : QC) (s : WS) : WS := wPut wSigned q.votes 7 (wDig q.block (wAt q.epoch q.round s))
def wVdr (v : Vdr) (s : WS) : WS := wNum v.power 6 (wDig v.key s)
def wBlock (b : Block) (s : WS) : WS := wPut wVdr b.next 7 (wPut (fun t => wBytes t 16) b.payload 4 (wQC b.justify (wDig b.parent (wAt b.epoch b.round s))))

theorem wDig_len (d : Dig) (s : WS) : (wDig d s).bs.length ≤ s.bs.length + 16 := by have := wFix_len d.l s; rw [d.h] at this; exact this
theorem wFail_len (k : Nat) (s : WS) : (wFail k s).bs.length ≤ s.bs.length := by rw [wFail_bs]; omega
theorem foldl_len {α : Type} {wX : α → WS → WS} {c : Nat} (h : ∀ x s, (wX x s).bs.length ≤ s.bs.length + c) : ∀ (l : List α) (s : WS), (l.foldl (fun s x => wX x s) s).bs.length ≤ s.bs.length + l.length * c
  | [], s => by simp
  | x :: l, s => by
    have h1 := h x s
    have h2 := foldl_len h l (wX x s)
    simp only [List.foldl_cons, List.length_cons, Nat.add_mul, Nat.one_mul] at h2 ⊢
    omega
theorem wPut_len {α : Type} {wX : α → WS → WS} {c : Nat} (h : ∀ x s, (wX x s).bs.length ≤ s.bs.length + c) (l : List α) (most : Nat) (s : WS) : (wPut wX l most s).bs.length ≤ s.bs.length + (1 + most * c) := by
  unfold wPut; split
  · have := wFail_len 1 s; omega
  · rename_i hh
    have h1 := foldl_len h l (wNum (l.length : Int) 1 s)
    have h2 := wNum_len (l.length : Int) 1 s
    have h3 : l.length * c ≤ most * c := Nat.mul_le_mul_right _ (by omega)
    omega
theorem wBytes_len (b : List UInt8) (most : Nat) (s : WS) : (wBytes b most s).bs.length ≤ s.bs.length + (2 + most) := by
  unfold wBytes; split
  · have := wFail_len 1 s; omega
  · have h1 := wFix_len b (wNum (b.length : Int) 2 s); have h2 := wNum_len (b.length : Int) 2 s; omega
theorem wSig_len (x : Sig) (s : WS) : (wSig x s).bs.length ≤ s.bs.length + 1171 := by
  have h1 := wNum_len x.leaf 1 s
  have h2 := wPut_len wDig_len x.chains 68 (wNum x.leaf 1 s)
  have h3 := wPut_len wDig_len x.path 5 (wPut wDig x.chains 68 (wNum x.leaf 1 s))
  unfold wSig; omega
theorem wSigned_len (x : Signed) (s : WS) : (wSigned x s).bs.length ≤ s.bs.length + 1172 := by
  have h1 := wNum_len x.who 1 s; have h2 := wSig_len x.sig (wNum x.who 1 s); unfold wSigned; omega
theorem wAt_len (e r : Int) (s : WS) : (wAt e r s).bs.length ≤ s.bs.length + 10 := by
  have h1 := wNum_len e 4 s; have h2 := wNum_len r 6 (wNum e 4 s); unfold wAt; omega
theorem wQC_len (q : QC) (s : WS) : (wQC q s).bs.length ≤ s.bs.length + 8231 := by
  have h1 := wAt_len q.epoch q.round s; have h2 := wDig_len q.block (wAt q.epoch q.round s); have h3 := wPut_len wSigned_len q.votes 7 (wDig q.block (wAt q.epoch q.round s)); unfold wQC; omega
theorem wVdr_len (v : Vdr) (s : WS) : (wVdr v s).bs.length ≤ s.bs.length + 22 := by
  have h1 := wDig_len v.key s; have h2 := wNum_len v.power 6 (wDig v.key s); unfold wVdr; omega
theorem wBlock_len (b : Block) (s : WS) : (wBlock b s).bs.length ≤ s.bs.length + 8485 := by
  have h1 := wAt_len b.epoch b.round s; have h2 := wDig_len b.parent (wAt b.epoch b.round s); have h3 := wQC_len b.justify (wDig b.parent (wAt b.epoch b.round s))
  have h4 := wPut_len (wX := fun t => wBytes t 16) (c := 18) (fun x s => wBytes_len x 16 s) b.payload 4 (wQC b.justify (wDig b.parent (wAt b.epoch b.round s)))
  have h5 := wPut_len wVdr_len b.next 7 (wPut (fun t => wBytes t 16) b.payload 4 (wQC b.justify (wDig b.parent (wAt b.epoch b.round s))))
  unfold wBlock; omega
theorem foldl_take_succ {α β : Type} (f : β → α → β) (l : List α) (s : β) {k : Nat} {x : α} (h : l[k]? = some x) : (l.take (k + 1)).foldl f s = f ((l.take k).foldl f s) x := by
  have hk : k < l.length := (List.getElem?_eq_some_iff.1 h).1
  rw [List.take_add_one, h]
  simp
end Go.Proofs.YtheonhgffglegaaDoor

/- Walks, by program (wg.py) out of a spec. -/
namespace Go.Proofs.YtheonhgffglegaaDoor
open Go
set_option linter.unusedVariables false
set_option linter.unusedSimpArgs false


theorem put_bound {α : Type} {wX : α → WS → WS} {c M : Nat} (h : ∀ x s, (wX x s).bs.length ≤ s.bs.length + c) {l : List α} {s : WS} {most k : Nat} (hk : k < l.length) (hm : l.length ≤ most) (hb : s.bs.length + (1 + most * c) ≤ M) :
    ((l.take k).foldl (fun s x => wX x s) (wNum (l.length : Int) 1 s)).bs.length + c ≤ M := by
  have h1 := foldl_len h (l.take k) (wNum (l.length : Int) 1 s)
  have h2 := wNum_len (l.length : Int) 1 s
  have h3 : (l.take k).length = k := by rw [List.length_take]; omega
  have h4 : (k + 1) * c ≤ most * c := Nat.mul_le_mul_right _ (by omega)
  rw [h3] at h1
  rw [Nat.add_mul, Nat.one_mul] at h4
  omega

attribute [local irreducible] Gl Gc Gx Gs Runs Wt

set_option maxHeartbeats 400000 in
theorem digest_ok {w : World} {F : Nat → Prop} {g TE : Nat} {ea : Nat → Addr} {s : WS} {d : Dig} (h : stars [WrR TE ea g s] w F) {es : List Nat} [Has es 1] (hE : GErr es w (fun k => ¬ F k) TE ea) (hb : s.bs.length + 16 ≤ 1099511627776) :
    Calls Tryd.prog 50 #[.agg (List.toArray [.pointer (some ⟨g, 0, none⟩)]), .agg (dc d).toArray] w (Post w F (fun _ : Unit => .tuple #[]) (fun _ => [WrR TE ea g (wDig d s)])) := by
  refine g_enter (env := [(0, .agg (List.toArray [.pointer (some ⟨g, 0, none⟩)])), (1, .agg (dc d).toArray)]) Tryd.func50 rfl h Tryd.ntmps50 rfl rfl ?_
  refine gsr ?_
  refine zbN fun b2 => ?_
  refine zbN fun b3 => ?_
  refine gnt ?_
  refine gc_regionT 3 (by kernel_rfl) (by kernel_rfl) ?_
  refine sp zfa ?_
  refine sp zl ?_
  refine sp (r_slice_arr (l := 0) (h := 16) rfl Ty.arr_26 Ty.sz_5 rfl rfl (by decide) (by decide) (by decide)) ?_
  refine gs_nil ?_
  refine zc (fun _ => ?_) (c := fun w1 F1 F2 h1 h2 hd hst => fixed_ok (b := d.l) h1 (rd_blk h2 hd (by repeat (first | exact Pick.here | apply Pick.there)) (by have := d.h; simp only [dc, List.drop_zero]; exact List.take_of_length_le (by simp [this])) (by simp [d.h]) (by decide)) hb)
  refine gl_nil ?_
  refine gx_ret0' rfl ?_
  exact ze ()

set_option maxHeartbeats 400000 in
theorem putDigest_ok {w : World} {F : Nat → Prop} {g TE : Nat} {ea : Nat → Addr} {s : WS} {d : Dig} (h : stars [WrR TE ea g s] w F) {es : List Nat} [Has es 1] (hE : GErr es w (fun k => ¬ F k) TE ea) (hb : s.bs.length + 16 ≤ 1099511627776) :
    Calls Tryd.prog 57 #[.pointer (some ⟨g, 0, none⟩), .agg (dc d).toArray] w (Post w F (fun _ : Unit => .tuple #[]) (fun _ => [WrR TE ea g (wDig d s)])) := by
  refine g_enter (env := [(0, .pointer (some ⟨g, 0, none⟩)), (1, .agg (dc d).toArray)]) Tryd.func57 rfl h Tryd.ntmps57 rfl rfl ?_
  refine gsr ?_
  refine zbN fun b3 => ?_
  refine gnt ?_
  refine gc_region ?_
  refine gp zmv ?_
  refine gp zbu ?_
  refine gp zL ?_
  refine zc (fun _ => ?_) (c := fun w1 F1 F2 h1 h2 hd hst => digest_ok h1 (hE.mv hst.still) hb)
  refine gl_nil ?_
  refine gx_ret0' rfl ?_
  exact ze ()

set_option maxHeartbeats 400000 in
theorem at_ok {w : World} {F : Nat → Prop} {g TE : Nat} {ea : Nat → Addr} {s : WS} {e r : Int} (h : stars [WrR TE ea g s] w F) {es : List Nat} [Has es 1] (hE : GErr es w (fun k => ¬ F k) TE ea) (hb : s.bs.length + 10 ≤ 1099511627776) :
    Calls Tryd.prog 49 #[.agg (List.toArray [.pointer (some ⟨g, 0, none⟩)]), .int .i64 e, .int .i64 r] w (Post w F (fun _ : Unit => .tuple #[]) (fun _ => [WrR TE ea g (wAt e r s)])) := by
  refine g_enter (env := [(0, .agg (List.toArray [.pointer (some ⟨g, 0, none⟩)])), (1, .int .i64 e), (2, .int .i64 r)]) Tryd.func49 rfl h Tryd.ntmps49 rfl rfl ?_
  refine gsr ?_
  refine zbN fun b3 => ?_
  refine gnt ?_
  refine gsr ?_
  refine gp zfa ?_
  refine gp zl ?_
  refine gp zmv ?_
  refine zc (fun _ => ?_) (c := fun w1 F1 F2 h1 h2 hd hst => number_ok (wd := 4) h1 (hE.mv hst.still) (by decide) (by decide) (by omega))
  refine gnt ?_
  refine gc_region ?_
  refine gp zfa ?_
  refine gp zl ?_
  refine gp zmv ?_
  refine zc (fun _ => ?_) (c := fun w1 F1 F2 h1 h2 hd hst => number_ok (wd := 6) h1 (hE.mv hst.still) (by decide) (by decide) (by have := wNum_len e 4 s; omega))
  refine gl_nil ?_
  refine gx_ret0' rfl ?_
  exact ze ()

set_option maxHeartbeats 400000 in
theorem wbytes_big {w : World} {F : Nat → Prop} {g TE : Nat} {ea : Nat → Addr} {s : WS} {n c : Nat} {a : Option Addr} {b : List UInt8} {most : Nat} (h : stars [WrR TE ea g s] w F) {es : List Nat} [Has es 1] (hE : GErr es w (fun k => ¬ F k) TE ea) (hx : RdRow w (fun k => ¬ F k) 1 a n (b.map B8)) (hm : most ≤ 65535) (hn : most < n) :
    Calls Tryd.prog 54 #[.pointer (some ⟨g, 0, none⟩), .slice a n c, .int .i64 (most : Int)] w (Post w F (fun _ : Unit => .tuple #[]) (fun _ => [WrR TE ea g (wFail 1 s)])) := by
  obtain ⟨a0, c0, h'⟩ := wr_open h
  refine g_enter (env := [(0, .pointer (some ⟨g, 0, none⟩)), (1, .slice a n c), (2, .int .i64 (most : Int))]) Tryd.func54 rfl h' Tryd.ntmps54 rfl rfl ?_
  refine gc_seq ?_
  refine gsr ?_
  refine gp zmv ?_
  refine gp zln ?_
  refine gp zmv ?_
  refine gp (r_bool (r_gtr rfl rfl) (decide_eq_true (by omega))) ?_
  refine gp zmv ?_
  refine gn ?_
  refine gn ?_
  refine gn ?_
  refine gp zpk ?_
  refine gnt ?_
  refine gc_condT rfl rfl ?_
  refine gc_seq ?_
  refine gc_regionT 4 (by kernel_rfl) (by kernel_rfl) ?_
  refine sp zmv ?_
  refine sp znc ?_
  refine sp zfa ?_
  refine sp (r_ld1o rfl Ty.row_40 (hE.c 1 Has.h) (hE.n 1 Has.h)) ?_
  refine gs_nil ?_
  refine zc (fun _ => ?_) (c := fun w1 F1 F2 h1 h2 hd hst => fail_ok h1)
  refine gnt ?_
  refine gc_ret ?_
  refine gx_then_ret ?_
  refine gx_ret0 rfl ?_
  exact fun w' hw => ⟨(), rfl, by rw [wFail]; by_cases he : s.err = 0 <;> simp only [he, if_true, if_false, ite_true, ite_false] at hw ⊢ <;> exact St.wr (hw.sel (by repeat (first | exact Sel.nil | (apply Sel.cons; · (repeat (first | exact Pick.here | apply Pick.there)))))) (by simp [he]) rfl rfl⟩

set_option maxHeartbeats 400000 in
theorem wbytes_fit {w : World} {F : Nat → Prop} {g TE : Nat} {ea : Nat → Addr} {s : WS} {n c : Nat} {a : Option Addr} {b : List UInt8} {most : Nat} (h : stars [WrR TE ea g s] w F) {es : List Nat} [Has es 1] (hE : GErr es w (fun k => ¬ F k) TE ea) (hx : RdRow w (fun k => ¬ F k) 1 a n (b.map B8)) (hm : most ≤ 65535) (hn : n ≤ most) (hb : s.bs.length + (2 + most) ≤ 1099511627776) :
    Calls Tryd.prog 54 #[.pointer (some ⟨g, 0, none⟩), .slice a n c, .int .i64 (most : Int)] w (Post w F (fun _ : Unit => .tuple #[]) (fun _ => [WrR TE ea g (wFix b (wNum (b.length : Int) 2 s))])) := by
  have hnb : n = b.length := by have := hx.1; simp at this; omega
  refine g_enter (env := [(0, .pointer (some ⟨g, 0, none⟩)), (1, .slice a n c), (2, .int .i64 (most : Int))]) Tryd.func54 rfl h Tryd.ntmps54 rfl rfl ?_
  refine gc_seq ?_
  refine gsr ?_
  refine gp zmv ?_
  refine gp zln ?_
  refine gp zmv ?_
  refine gp (r_bool (r_gtr rfl rfl) (decide_eq_false (by omega))) ?_
  refine gp zmv ?_
  refine gq zmv ?_
  refine gq zln ?_
  refine gq (r_bool (r_gtr rfl rfl) (decide_eq_false (by omega))) ?_
  refine gp zpk ?_
  refine gnt ?_
  refine gc_condF rfl rfl ?_
  refine gc_skip ?_
  refine gx_then ?_
  refine gsr ?_
  refine gp zmv ?_
  refine gp zmv ?_
  refine gp zln ?_
  refine zc (fun _ => ?_) (c := fun w1 F1 F2 h1 h2 hd hst => number_ok (wd := 2) h1 (hE.mv hst.still) (by decide) (by decide) (by omega))
  refine gnt ?_
  refine gc_region ?_
  refine gp zmv ?_
  refine gp zmv ?_
  refine zc (fun _ => ?_) (c := fun w1 F1 F2 h1 h2 hd hst => fixed_ok h1 (hx.mv hst.still) (by have := wNum_len n 2 s; omega))
  refine gl_nil ?_
  refine gx_ret0' rfl ?_
  rw [← hnb]
  exact ze ()


theorem wbytes_ok {w : World} {F : Nat → Prop} {g TE : Nat} {ea : Nat → Addr} {s : WS} {n c : Nat} {a : Option Addr} {b : List UInt8} {most : Nat} (h : stars [WrR TE ea g s] w F) {es : List Nat} [Has es 1] (hE : GErr es w (fun k => ¬ F k) TE ea) (hx : RdRow w (fun k => ¬ F k) 1 a n (b.map B8)) (hm : most ≤ 65535) (hb : s.bs.length + (2 + most) ≤ 1099511627776) :
    Calls Tryd.prog 54 #[.pointer (some ⟨g, 0, none⟩), .slice a n c, .int .i64 (most : Int)] w (Post w F (fun _ : Unit => .tuple #[]) (fun _ => [WrR TE ea g (wBytes b most s)])) := by
  have hnb : n = b.length := by have := hx.1; simp at this; omega
  unfold wBytes
  by_cases hn : most < n
  · rw [if_pos (.inl (by omega))]; exact wbytes_big h hE hx hm hn
  · rw [if_neg (by omega)]; exact wbytes_fit h hE hx hm (by omega) hb

set_option maxHeartbeats 400000 in
theorem putDigs_big {w : World} {F : Nat → Prop} {g TE : Nat} {ea : Nat → Addr} {s : WS} {n c : Nat} {a : Option Addr} {l : List Dig} {most : Nat} (h : stars [WrR TE ea g s] w F) {es : List Nat} [Has es 1] (hE : GErr es w (fun k => ¬ F k) TE ea) (hl : RdList (RdDig) w (fun k => ¬ F k) 16 a n l) (hm : most ≤ 255) (hn : most < n) :
    Calls Tryd.prog 69 #[.pointer (some ⟨g, 0, none⟩), .slice a n c, .int .i64 (most : Int), .func (.func 57) #[] #[]] w (Post w F (fun _ : Unit => .tuple #[]) (fun _ => [WrR TE ea g (wFail 1 s)])) := by
  obtain ⟨a0, c0, h'⟩ := wr_open h
  refine g_enter (env := [(0, .pointer (some ⟨g, 0, none⟩)), (1, .slice a n c), (2, .int .i64 (most : Int)), (3, .func (.func 57) #[] #[])]) Tryd.func69 rfl h' Tryd.ntmps69 rfl rfl ?_
  refine gc_seq ?_
  refine gsr ?_
  refine gp zmv ?_
  refine gp zln ?_
  refine gp zmv ?_
  refine gp (r_bool (r_gtr rfl rfl) (decide_eq_true (by omega))) ?_
  refine gp zmv ?_
  refine gn ?_
  refine gn ?_
  refine gn ?_
  refine gp zpk ?_
  refine gnt ?_
  refine gc_condT rfl rfl ?_
  refine gc_seq ?_
  refine gc_regionT 4 (by kernel_rfl) (by kernel_rfl) ?_
  refine sp zmv ?_
  refine sp znc ?_
  refine sp zfa ?_
  refine sp (r_ld1o rfl Ty.row_40 (hE.c 1 Has.h) (hE.n 1 Has.h)) ?_
  refine gs_nil ?_
  refine zc (fun _ => ?_) (c := fun w1 F1 F2 h1 h2 hd hst => fail_ok h1)
  refine gnt ?_
  refine gc_ret ?_
  refine gx_then_ret ?_
  refine gx_ret0 rfl ?_
  exact fun w' hw => ⟨(), rfl, by rw [wFail]; by_cases he : s.err = 0 <;> simp only [he, if_true, if_false, ite_true, ite_false] at hw ⊢ <;> exact St.wr (hw.sel (by repeat (first | exact Sel.nil | (apply Sel.cons; · (repeat (first | exact Pick.here | apply Pick.there)))))) (by simp [he]) rfl rfl⟩

set_option maxHeartbeats 400000 in
theorem putDigs_fit {w : World} {F : Nat → Prop} {g TE : Nat} {ea : Nat → Addr} {s : WS} {n c : Nat} {a : Option Addr} {l : List Dig} {most : Nat} (h : stars [WrR TE ea g s] w F) {es : List Nat} [Has es 1] (hE : GErr es w (fun k => ¬ F k) TE ea) (hl : RdList (RdDig) w (fun k => ¬ F k) 16 a n l) (hm : most ≤ 255) (hn : n ≤ most) (hb : s.bs.length + (1 + most * 16) ≤ 1099511627776) :
    Calls Tryd.prog 69 #[.pointer (some ⟨g, 0, none⟩), .slice a n c, .int .i64 (most : Int), .func (.func 57) #[] #[]] w (Post w F (fun _ : Unit => .tuple #[]) (fun _ => [WrR TE ea g (l.foldl (fun s x => wDig x s) (wNum (l.length : Int) 1 s))])) := by
  have hnl := hl.len (by decide)
  refine g_enter (env := [(0, .pointer (some ⟨g, 0, none⟩)), (1, .slice a n c), (2, .int .i64 (most : Int)), (3, .func (.func 57) #[] #[])]) Tryd.func69 rfl h Tryd.ntmps69 rfl rfl ?_
  refine gc_seq ?_
  refine gsr ?_
  refine gp zmv ?_
  refine gp zln ?_
  refine gp zmv ?_
  refine gp (r_bool (r_gtr rfl rfl) (decide_eq_false (by omega))) ?_
  refine gp zmv ?_
  refine gq zmv ?_
  refine gq zln ?_
  refine gq (r_bool (r_gtr rfl rfl) (decide_eq_false (by omega))) ?_
  refine gp zpk ?_
  refine gnt ?_
  refine gc_condF rfl rfl ?_
  refine gc_skip ?_
  refine gx_then ?_
  refine gsr ?_
  refine gp zmv ?_
  refine gp zmv ?_
  refine gp zln ?_
  refine zc (fun _ => ?_) (c := fun w1 F1 F2 h1 h2 hd hst => number_ok (wd := 1) h1 (hE.mv hst.still) (by decide) (by decide) (by omega))
  refine gnt ?_
  refine gsr ?_
  refine gp zmv ?_
  refine gp zln ?_
  refine gp zmv ?_
  refine gnt ?_
  refine gc_block ?_
  refine gc_loop (α := Nat) (fun k => [pureR (k ≤ n), WrR TE ea g ((l.take k).foldl (fun s x => wDig x s) (wNum (l.length : Int) 1 s))]) (fun k => [(30, .int .i64 (k : Int))]) [9, 31, 32, 33, 34, 35, 36, 37, 38] (fun k => n - k) 0 ?_ ?_ ?_
  · refine env_start (by kernel_rfl)
  · rintro w' hw
    obtain ⟨F', hF', hst'⟩ := hw.sel (M := [WrR TE ea g (wNum (n : Int) 1 s)]) (by repeat (first | exact Sel.nil | (apply Sel.cons; · (repeat (first | exact Pick.here | apply Pick.there)))))
    rw [hnl] at hF'
    exact ⟨F', stars_pure_mk (Nat.zero_le _) hF', hst'⟩
  · intro k u
    refine gc_pureR (fun hk => ?_)
    replace hk : k ≤ n := hk
    refine gsr ?_
    refine gp zlt ?_
    refine gnt ?_
    refine gc_seq ?_
    refine gif rfl (fun hc31 => ?_) (fun hc31 => ?_)
    · have hk' : k < n := by (try simp only at hc31); omega
      obtain ⟨ga, o, cs, y, ha, hA, hg, hra, hcl, hly, hrd⟩ := hl.elem (by decide) hk'
      subst ha
      unfold RdDig at hrd
      subst hrd
      refine gc_skip ?_
      refine gx_then ?_
      refine gc_seq ?_
      refine gc_block ?_
      refine gsr ?_
      refine gp (r_indexAddr_slice rfl rfl Ty.sl_36 Ty.sz_26 (by omega) (by omega)) ?_
      refine gp (r_ldNo rfl Ty.row_26 Ty.sz_26 hra hcl (by decide) hA) ?_
      refine zal fun b9 => ?_
      refine gl_storeN (wt0 rfl) rfl rfl Ty.sz_26 hcl (by repeat (first | exact Pick.here | apply Pick.there)) (by first | rfl | (simp only [List.drop_succ_cons, List.drop_zero, List.take_succ_cons, List.take_zero, List.cons_append, List.nil_append, List.append_assoc, drop_dc, drop_dc', take_dc, take_dc', drop_L, drop_L', take_L, take_L', len_L, Nat.reduceLeDiff, Nat.reduceSub, Nat.reduceAdd, Nat.le_refl, List.length_cons, List.length_append, List.length_nil, dc_length, List.drop_nil, List.take_nil, List.append_nil, List.length_map, List.length_replicate, zD_length]; first | done | omega)) (dc_one _) (updL_all (by rw [hcl]; first | rfl | (simp only [List.drop_succ_cons, List.drop_zero, List.take_succ_cons, List.take_zero, List.cons_append, List.nil_append, List.append_assoc, drop_dc, drop_dc', take_dc, take_dc', drop_L, drop_L', take_L, take_L', len_L, Nat.reduceLeDiff, Nat.reduceSub, Nat.reduceAdd, Nat.le_refl, List.length_cons, List.length_append, List.length_nil, dc_length, List.drop_nil, List.take_nil, List.append_nil, List.length_map, List.length_replicate, zD_length]))) ?_
      refine gnt ?_
      refine gc_region ?_
      refine gp zmv ?_
      refine gp zmv ?_
      refine gp (r_ldN rfl Ty.row_26 Ty.sz_26 (by repeat (first | exact Pick.here | apply Pick.there)) (seg_all hcl) hcl) ?_
      refine gl_call (wt0 rfl) (e_callv (us := []) rfl Ty.call_57 rfl) (by repeat (first | exact Sel.nil | (apply Sel.cons; · (repeat (first | exact Pick.here | apply Pick.there))))) (fun w1 F1 F2 h1 h2 hd hst => putDigest_ok h1 (hE.mv hst.still)  (put_bound wDig_len (by omega) (by omega) hb)) ?_
      intro _
      refine gl_nil ?_
      refine gx_block_normal ?_
      refine gx_then ?_
      refine gc_region ?_
      refine gp (r_arith (op := .add) rfl rfl (wrap_i64 (by omega) (by omega))) ?_
      refine gp zmv ?_
      refine gl_nil ?_
      refine zrd (k + 1) ?_ ?_
      · show n - (k + 1) < n - k
        omega
      · rintro w' hw
        obtain ⟨F', hF', hst'⟩ := hw.sel (M := [WrR TE ea g _]) (by repeat (first | exact Sel.nil | (apply Sel.cons; · (repeat (first | exact Pick.here | apply Pick.there)))))
        refine ⟨F', stars_pure_mk (show k + 1 ≤ n by omega) ?_, hst'⟩
        rw [foldl_take_succ _ _ _ hly]
        exact hF'
    · have hk' : k = l.length := by (try simp only at hc31); omega
      subst hk'
      refine gc_exit ?_
      refine gx_then_exit ?_
      refine gx_round_exit ?_
      refine gx_block_hit ?_
      refine gx_ret0' rfl ?_
      rw [List.take_length]
      exact ze ()


theorem putDigs_ok {w : World} {F : Nat → Prop} {g TE : Nat} {ea : Nat → Addr} {s : WS} {n c : Nat} {a : Option Addr} {l : List Dig} {most : Nat} (h : stars [WrR TE ea g s] w F) {es : List Nat} [Has es 1] (hE : GErr es w (fun k => ¬ F k) TE ea) (hl : RdList (RdDig) w (fun k => ¬ F k) 16 a n l) (hm : most ≤ 255) (hb : s.bs.length + (1 + most * 16) ≤ 1099511627776) :
    Calls Tryd.prog 69 #[.pointer (some ⟨g, 0, none⟩), .slice a n c, .int .i64 (most : Int), .func (.func 57) #[] #[]] w (Post w F (fun _ : Unit => .tuple #[]) (fun _ => [WrR TE ea g (wPut (wDig) l most s)])) := by
  have hnl := hl.len (by decide)
  unfold wPut
  by_cases hn : most < n
  · rw [if_pos (.inl (by omega))]; exact putDigs_big h hE hl hm hn
  · rw [if_neg (by omega)]; exact putDigs_fit h hE hl hm (by omega) hb

end Go.Proofs.YtheonhgffglegaaDoor

/- Walks, by program (wg.py) out of a spec. -/
namespace Go.Proofs.YtheonhgffglegaaDoor
open Go
set_option linter.unusedVariables false
set_option linter.unusedSimpArgs false

attribute [local irreducible] Gl Gc Gx Gs Runs Wt

set_option maxHeartbeats 400000 in
theorem sig_ok {w : World} {F : Nat → Prop} {g TE : Nat} {ea : Nat → Addr} {s : WS} {cs : List Value} {x : Sig} (h : stars [WrR TE ea g s] w F) {es : List Nat} [Has es 1] (hE : GErr es w (fun k => ¬ F k) TE ea) (hx : RdSig w (fun k => ¬ F k) cs x) (hb : s.bs.length + 1171 ≤ 1099511627776) :
    Calls Tryd.prog 68 #[.agg (List.toArray [.pointer (some ⟨g, 0, none⟩)]), .agg cs.toArray] w (Post w F (fun _ : Unit => .tuple #[]) (fun _ => [WrR TE ea g (wSig x s)])) := by
  obtain ⟨a1, n1, c1, a2, n2, c2, rfl, hk1, hk2, hd1, hd2⟩ := hx
  refine g_enter (env := [(0, .agg (List.toArray [.pointer (some ⟨g, 0, none⟩)])), (1, .agg (List.toArray ([.int .i64 x.leaf, .slice a1 n1 c1, .slice a2 n2 c2])))]) Tryd.func68 rfl h Tryd.ntmps68 rfl rfl ?_
  refine gsr ?_
  refine zbN fun b2 => ?_
  refine zbN fun b3 => ?_
  refine gnt ?_
  refine gsr ?_
  refine gp zfa ?_
  refine gp zl ?_
  refine gp zfa ?_
  refine gp zl ?_
  refine zc (fun _ => ?_) (c := fun w1 F1 F2 h1 h2 hd hst => number_ok (wd := 1) h1 (hE.mv hst.still) (by decide) (by decide) (by omega))
  refine gnt ?_
  refine gsr ?_
  refine gp zfa ?_
  refine gp zl ?_
  refine gp zfa ?_
  refine gp zl ?_
  refine zc (fun _ => ?_) (c := fun w1 F1 F2 h1 h2 hd hst => putDigs_ok (most := 68) h1 (hE.mv hst.still) (hd1.mv hst.still) (by decide) (by have e0 := wNum_len x.leaf 1 s; omega))
  refine gnt ?_
  refine gc_region ?_
  refine gp zfa ?_
  refine gp zl ?_
  refine gp zfa ?_
  refine gp zl ?_
  refine zc (fun _ => ?_) (c := fun w1 F1 F2 h1 h2 hd hst => putDigs_ok (most := 5) h1 (hE.mv hst.still) (hd2.mv hst.still) (by decide) (by have e0 := wNum_len x.leaf 1 s; have e1 := wPut_len wDig_len x.chains 68 (wNum x.leaf 1 s); omega))
  refine gl_nil ?_
  refine gx_ret0' rfl ?_
  exact ze ()

set_option maxHeartbeats 400000 in
theorem signed_ok {w : World} {F : Nat → Prop} {g TE : Nat} {ea : Nat → Addr} {s : WS} {cs : List Value} {x : Signed} (h : stars [WrR TE ea g s] w F) {es : List Nat} [Has es 1] (hE : GErr es w (fun k => ¬ F k) TE ea) (hx : RdSigned w (fun k => ¬ F k) cs x) (hb : s.bs.length + 1172 ≤ 1099511627776) :
    Calls Tryd.prog 64 #[.agg (List.toArray [.pointer (some ⟨g, 0, none⟩)]), .agg cs.toArray] w (Post w F (fun _ : Unit => .tuple #[]) (fun _ => [WrR TE ea g (wSigned x s)])) := by
  obtain ⟨ss, rfl, hs⟩ := hx
  have hl := hs.len
  have z_hl := Len.of hl
  refine g_enter (env := [(0, .agg (List.toArray [.pointer (some ⟨g, 0, none⟩)])), (1, .agg (List.toArray (.int .i64 x.who :: ss)))]) Tryd.func64 rfl h Tryd.ntmps64 rfl rfl ?_
  refine gsr ?_
  refine zbN fun b2 => ?_
  refine zbN fun b3 => ?_
  refine gnt ?_
  refine gsr ?_
  refine gp zfa ?_
  refine gp zl ?_
  refine gp zfa ?_
  refine gp zl ?_
  refine zc (fun _ => ?_) (c := fun w1 F1 F2 h1 h2 hd hst => number_ok (wd := 1) h1 (hE.mv hst.still) (by decide) (by decide) (by omega))
  refine gnt ?_
  refine gc_region ?_
  refine gp zL ?_
  refine gp zfa ?_
  refine gp zL ?_
  refine zc (fun _ => ?_) (c := fun w1 F1 F2 h1 h2 hd hst => sig_ok h1 (hE.mv hst.still) (hs.mv hst.still) (by have e0 := wNum_len x.who 1 s; omega))
  refine gl_nil ?_
  refine gx_ret0' rfl ?_
  exact ze ()

set_option maxHeartbeats 400000 in
theorem qc1_ok {w : World} {F : Nat → Prop} {g TE : Nat} {ea : Nat → Addr} {s : WS} {cs : List Value} {x : Signed} (h : stars [WrR TE ea g s] w F) {es : List Nat} [Has es 1] (hE : GErr es w (fun k => ¬ F k) TE ea) (hx : RdSigned w (fun k => ¬ F k) cs x) (hb : s.bs.length + 1172 ≤ 1099511627776) :
    Calls Tryd.prog 63 #[.pointer (some ⟨g, 0, none⟩), .agg cs.toArray] w (Post w F (fun _ : Unit => .tuple #[]) (fun _ => [WrR TE ea g (wSigned x s)])) := by
  have hl := hx.len
  refine g_enter (env := [(0, .pointer (some ⟨g, 0, none⟩)), (1, .agg cs.toArray)]) Tryd.func63 rfl h Tryd.ntmps63 rfl rfl ?_
  refine gsr ?_
  refine zbN fun b3 => ?_
  refine gnt ?_
  refine gc_region ?_
  refine gp zmv ?_
  refine gp zbu ?_
  refine gp (r_ldN rfl Ty.row_105 Ty.sz_105 (by repeat (first | exact Pick.here | apply Pick.there)) (seg_all hl) hl) ?_
  refine zc (fun _ => ?_) (c := fun w1 F1 F2 h1 h2 hd hst => signed_ok h1 (hE.mv hst.still) (hx.mv hst.still) hb)
  refine gl_nil ?_
  refine gx_ret0' rfl ?_
  exact ze ()

set_option maxHeartbeats 400000 in
theorem putSigneds_big {w : World} {F : Nat → Prop} {g TE : Nat} {ea : Nat → Addr} {s : WS} {n c : Nat} {a : Option Addr} {l : List Signed} {most : Nat} (h : stars [WrR TE ea g s] w F) {es : List Nat} [Has es 1] (hE : GErr es w (fun k => ¬ F k) TE ea) (hl : RdList (RdSigned w (fun k => ¬ F k)) w (fun k => ¬ F k) 4 a n l) (hm : most ≤ 255) (hn : most < n) :
    Calls Tryd.prog 62 #[.pointer (some ⟨g, 0, none⟩), .slice a n c, .int .i64 (most : Int), .func (.func 63) #[] #[]] w (Post w F (fun _ : Unit => .tuple #[]) (fun _ => [WrR TE ea g (wFail 1 s)])) := by
  obtain ⟨a0, c0, h'⟩ := wr_open h
  refine g_enter (env := [(0, .pointer (some ⟨g, 0, none⟩)), (1, .slice a n c), (2, .int .i64 (most : Int)), (3, .func (.func 63) #[] #[])]) Tryd.func62 rfl h' Tryd.ntmps62 rfl rfl ?_
  refine gc_seq ?_
  refine gsr ?_
  refine gp zmv ?_
  refine gp zln ?_
  refine gp zmv ?_
  refine gp (r_bool (r_gtr rfl rfl) (decide_eq_true (by omega))) ?_
  refine gp zmv ?_
  refine gn ?_
  refine gn ?_
  refine gn ?_
  refine gp zpk ?_
  refine gnt ?_
  refine gc_condT rfl rfl ?_
  refine gc_seq ?_
  refine gc_regionT 4 (by kernel_rfl) (by kernel_rfl) ?_
  refine sp zmv ?_
  refine sp znc ?_
  refine sp zfa ?_
  refine sp (r_ld1o rfl Ty.row_40 (hE.c 1 Has.h) (hE.n 1 Has.h)) ?_
  refine gs_nil ?_
  refine zc (fun _ => ?_) (c := fun w1 F1 F2 h1 h2 hd hst => fail_ok h1)
  refine gnt ?_
  refine gc_ret ?_
  refine gx_then_ret ?_
  refine gx_ret0 rfl ?_
  exact fun w' hw => ⟨(), rfl, by rw [wFail]; by_cases he : s.err = 0 <;> simp only [he, if_true, if_false, ite_true, ite_false] at hw ⊢ <;> exact St.wr (hw.sel (by repeat (first | exact Sel.nil | (apply Sel.cons; · (repeat (first | exact Pick.here | apply Pick.there)))))) (by simp [he]) rfl rfl⟩

set_option maxHeartbeats 400000 in
theorem putSigneds_fit {w : World} {F : Nat → Prop} {g TE : Nat} {ea : Nat → Addr} {s : WS} {n c : Nat} {a : Option Addr} {l : List Signed} {most : Nat} (h : stars [WrR TE ea g s] w F) {es : List Nat} [Has es 1] (hE : GErr es w (fun k => ¬ F k) TE ea) (hl : RdList (RdSigned w (fun k => ¬ F k)) w (fun k => ¬ F k) 4 a n l) (hm : most ≤ 255) (hn : n ≤ most) (hb : s.bs.length + (1 + most * 1172) ≤ 1099511627776) :
    Calls Tryd.prog 62 #[.pointer (some ⟨g, 0, none⟩), .slice a n c, .int .i64 (most : Int), .func (.func 63) #[] #[]] w (Post w F (fun _ : Unit => .tuple #[]) (fun _ => [WrR TE ea g (l.foldl (fun s x => wSigned x s) (wNum (l.length : Int) 1 s))])) := by
  have hnl := hl.len (by decide)
  refine g_enter (env := [(0, .pointer (some ⟨g, 0, none⟩)), (1, .slice a n c), (2, .int .i64 (most : Int)), (3, .func (.func 63) #[] #[])]) Tryd.func62 rfl h Tryd.ntmps62 rfl rfl ?_
  refine gc_seq ?_
  refine gsr ?_
  refine gp zmv ?_
  refine gp zln ?_
  refine gp zmv ?_
  refine gp (r_bool (r_gtr rfl rfl) (decide_eq_false (by omega))) ?_
  refine gp zmv ?_
  refine gq zmv ?_
  refine gq zln ?_
  refine gq (r_bool (r_gtr rfl rfl) (decide_eq_false (by omega))) ?_
  refine gp zpk ?_
  refine gnt ?_
  refine gc_condF rfl rfl ?_
  refine gc_skip ?_
  refine gx_then ?_
  refine gsr ?_
  refine gp zmv ?_
  refine gp zmv ?_
  refine gp zln ?_
  refine zc (fun _ => ?_) (c := fun w1 F1 F2 h1 h2 hd hst => number_ok (wd := 1) h1 (hE.mv hst.still) (by decide) (by decide) (by omega))
  refine gnt ?_
  refine gsr ?_
  refine gp zmv ?_
  refine gp zln ?_
  refine gp zmv ?_
  refine gnt ?_
  refine gc_block ?_
  refine gc_loop (α := Nat) (fun k => [pureR (k ≤ n), WrR TE ea g ((l.take k).foldl (fun s x => wSigned x s) (wNum (l.length : Int) 1 s))]) (fun k => [(30, .int .i64 (k : Int))]) [9, 31, 32, 33, 34, 35, 36, 37, 38] (fun k => n - k) 0 ?_ ?_ ?_
  · refine env_start (by kernel_rfl)
  · rintro w' hw
    obtain ⟨F', hF', hst'⟩ := hw.sel (M := [WrR TE ea g (wNum (n : Int) 1 s)]) (by repeat (first | exact Sel.nil | (apply Sel.cons; · (repeat (first | exact Pick.here | apply Pick.there)))))
    rw [hnl] at hF'
    exact ⟨F', stars_pure_mk (Nat.zero_le _) hF', hst'⟩
  · intro k u
    refine gc_pureR (fun hk => ?_)
    replace hk : k ≤ n := hk
    refine gsr ?_
    refine gp zlt ?_
    refine gnt ?_
    refine gc_seq ?_
    refine gif rfl (fun hc31 => ?_) (fun hc31 => ?_)
    · have hk' : k < n := by (try simp only at hc31); omega
      obtain ⟨ga, o, cs, y, ha, hA, hg, hra, hcl, hly, hrd⟩ := hl.elem (by decide) hk'
      subst ha
      refine gc_skip ?_
      refine gx_then ?_
      refine gc_seq ?_
      refine gc_block ?_
      refine gsr ?_
      refine gp (r_indexAddr_slice rfl rfl Ty.sl_27 Ty.sz_105 (by omega) (by omega)) ?_
      refine gp (r_ldNo rfl Ty.row_105 Ty.sz_105 hra hcl (by decide) hA) ?_
      refine zal fun b9 => ?_
      refine gl_storeN (wt0 rfl) rfl rfl Ty.sz_105 hcl (by repeat (first | exact Pick.here | apply Pick.there)) (by first | rfl | (simp only [List.drop_succ_cons, List.drop_zero, List.take_succ_cons, List.take_zero, List.cons_append, List.nil_append, List.append_assoc, drop_dc, drop_dc', take_dc, take_dc', drop_L, drop_L', take_L, take_L', len_L, Nat.reduceLeDiff, Nat.reduceSub, Nat.reduceAdd, Nat.le_refl, List.length_cons, List.length_append, List.length_nil, dc_length, List.drop_nil, List.take_nil, List.append_nil, List.length_map, List.length_replicate, zD_length]; first | done | omega)) (hrd.one) (updL_all (by rw [hcl]; first | rfl | (simp only [List.drop_succ_cons, List.drop_zero, List.take_succ_cons, List.take_zero, List.cons_append, List.nil_append, List.append_assoc, drop_dc, drop_dc', take_dc, take_dc', drop_L, drop_L', take_L, take_L', len_L, Nat.reduceLeDiff, Nat.reduceSub, Nat.reduceAdd, Nat.le_refl, List.length_cons, List.length_append, List.length_nil, dc_length, List.drop_nil, List.take_nil, List.append_nil, List.length_map, List.length_replicate, zD_length]))) ?_
      refine gnt ?_
      refine gc_region ?_
      refine gp zmv ?_
      refine gp zmv ?_
      refine gp (r_ldN rfl Ty.row_105 Ty.sz_105 (by repeat (first | exact Pick.here | apply Pick.there)) (seg_all hcl) hcl) ?_
      refine gl_call (wt0 rfl) (e_callv (us := []) rfl Ty.call_63 rfl) (by repeat (first | exact Sel.nil | (apply Sel.cons; · (repeat (first | exact Pick.here | apply Pick.there))))) (fun w1 F1 F2 h1 h2 hd hst => qc1_ok h1 (hE.mv hst.still) (hrd.mv hst.still) (put_bound wSigned_len (by omega) (by omega) hb)) ?_
      intro _
      refine gl_nil ?_
      refine gx_block_normal ?_
      refine gx_then ?_
      refine gc_region ?_
      refine gp (r_arith (op := .add) rfl rfl (wrap_i64 (by omega) (by omega))) ?_
      refine gp zmv ?_
      refine gl_nil ?_
      refine zrd (k + 1) ?_ ?_
      · show n - (k + 1) < n - k
        omega
      · rintro w' hw
        obtain ⟨F', hF', hst'⟩ := hw.sel (M := [WrR TE ea g _]) (by repeat (first | exact Sel.nil | (apply Sel.cons; · (repeat (first | exact Pick.here | apply Pick.there)))))
        refine ⟨F', stars_pure_mk (show k + 1 ≤ n by omega) ?_, hst'⟩
        rw [foldl_take_succ _ _ _ hly]
        exact hF'
    · have hk' : k = l.length := by (try simp only at hc31); omega
      subst hk'
      refine gc_exit ?_
      refine gx_then_exit ?_
      refine gx_round_exit ?_
      refine gx_block_hit ?_
      refine gx_ret0' rfl ?_
      rw [List.take_length]
      exact ze ()


theorem putSigneds_ok {w : World} {F : Nat → Prop} {g TE : Nat} {ea : Nat → Addr} {s : WS} {n c : Nat} {a : Option Addr} {l : List Signed} {most : Nat} (h : stars [WrR TE ea g s] w F) {es : List Nat} [Has es 1] (hE : GErr es w (fun k => ¬ F k) TE ea) (hl : RdList (RdSigned w (fun k => ¬ F k)) w (fun k => ¬ F k) 4 a n l) (hm : most ≤ 255) (hb : s.bs.length + (1 + most * 1172) ≤ 1099511627776) :
    Calls Tryd.prog 62 #[.pointer (some ⟨g, 0, none⟩), .slice a n c, .int .i64 (most : Int), .func (.func 63) #[] #[]] w (Post w F (fun _ : Unit => .tuple #[]) (fun _ => [WrR TE ea g (wPut (wSigned) l most s)])) := by
  have hnl := hl.len (by decide)
  unfold wPut
  by_cases hn : most < n
  · rw [if_pos (.inl (by omega))]; exact putSigneds_big h hE hl hm hn
  · rw [if_neg (by omega)]; exact putSigneds_fit h hE hl hm (by omega) hb





set_option maxHeartbeats 400000 in
theorem block2_ok {w : World} {F : Nat → Prop} {g TE : Nat} {ea : Nat → Addr} {s : WS} {cs : List Value} {x : Vdr} (h : stars [WrR TE ea g s] w F) {es : List Nat} [Has es 1] (hE : GErr es w (fun k => ¬ F k) TE ea) (hx : RdVdr cs x) (hb : s.bs.length + 22 ≤ 1099511627776) :
    Calls Tryd.prog 56 #[.pointer (some ⟨g, 0, none⟩), .agg cs.toArray] w (Post w F (fun _ : Unit => .tuple #[]) (fun _ => [WrR TE ea g (wVdr x s)])) := by
  unfold RdVdr at hx
  subst hx
  refine g_enter (env := [(0, .pointer (some ⟨g, 0, none⟩)), (1, .agg (List.toArray (dc x.key ++ [.int .i64 x.power])))]) Tryd.func56 rfl h Tryd.ntmps56 rfl rfl ?_
  refine gsr ?_
  refine zbN fun b3 => ?_
  refine gnt ?_
  refine gsr ?_
  refine gp zmv ?_
  refine gp zfa ?_
  refine gp zL ?_
  refine zc (fun _ => ?_) (c := fun w1 F1 F2 h1 h2 hd hst => putDigest_ok h1 (hE.mv hst.still) (by omega))
  refine gnt ?_
  refine gc_region ?_
  refine gp zmv ?_
  refine gp zfa ?_
  refine gp zl ?_
  refine zc (fun _ => ?_) (c := fun w1 F1 F2 h1 h2 hd hst => number_ok (wd := 6) h1 (hE.mv hst.still) (by decide) (by decide) (by have e0 := wDig_len x.key s; omega))
  refine gl_nil ?_
  refine gx_ret0' rfl ?_
  exact ze ()

set_option maxHeartbeats 400000 in
theorem putVdrs_big {w : World} {F : Nat → Prop} {g TE : Nat} {ea : Nat → Addr} {s : WS} {n c : Nat} {a : Option Addr} {l : List Vdr} {most : Nat} (h : stars [WrR TE ea g s] w F) {es : List Nat} [Has es 1] (hE : GErr es w (fun k => ¬ F k) TE ea) (hl : RdList (RdVdr) w (fun k => ¬ F k) 17 a n l) (hm : most ≤ 255) (hn : most < n) :
    Calls Tryd.prog 55 #[.pointer (some ⟨g, 0, none⟩), .slice a n c, .int .i64 (most : Int), .func (.func 56) #[] #[]] w (Post w F (fun _ : Unit => .tuple #[]) (fun _ => [WrR TE ea g (wFail 1 s)])) := by
  obtain ⟨a0, c0, h'⟩ := wr_open h
  refine g_enter (env := [(0, .pointer (some ⟨g, 0, none⟩)), (1, .slice a n c), (2, .int .i64 (most : Int)), (3, .func (.func 56) #[] #[])]) Tryd.func55 rfl h' Tryd.ntmps55 rfl rfl ?_
  refine gc_seq ?_
  refine gsr ?_
  refine gp zmv ?_
  refine gp zln ?_
  refine gp zmv ?_
  refine gp (r_bool (r_gtr rfl rfl) (decide_eq_true (by omega))) ?_
  refine gp zmv ?_
  refine gn ?_
  refine gn ?_
  refine gn ?_
  refine gp zpk ?_
  refine gnt ?_
  refine gc_condT rfl rfl ?_
  refine gc_seq ?_
  refine gc_regionT 4 (by kernel_rfl) (by kernel_rfl) ?_
  refine sp zmv ?_
  refine sp znc ?_
  refine sp zfa ?_
  refine sp (r_ld1o rfl Ty.row_40 (hE.c 1 Has.h) (hE.n 1 Has.h)) ?_
  refine gs_nil ?_
  refine zc (fun _ => ?_) (c := fun w1 F1 F2 h1 h2 hd hst => fail_ok h1)
  refine gnt ?_
  refine gc_ret ?_
  refine gx_then_ret ?_
  refine gx_ret0 rfl ?_
  exact fun w' hw => ⟨(), rfl, by rw [wFail]; by_cases he : s.err = 0 <;> simp only [he, if_true, if_false, ite_true, ite_false] at hw ⊢ <;> exact St.wr (hw.sel (by repeat (first | exact Sel.nil | (apply Sel.cons; · (repeat (first | exact Pick.here | apply Pick.there)))))) (by simp [he]) rfl rfl⟩

set_option maxHeartbeats 400000 in
theorem putVdrs_fit {w : World} {F : Nat → Prop} {g TE : Nat} {ea : Nat → Addr} {s : WS} {n c : Nat} {a : Option Addr} {l : List Vdr} {most : Nat} (h : stars [WrR TE ea g s] w F) {es : List Nat} [Has es 1] (hE : GErr es w (fun k => ¬ F k) TE ea) (hl : RdList (RdVdr) w (fun k => ¬ F k) 17 a n l) (hm : most ≤ 255) (hn : n ≤ most) (hb : s.bs.length + (1 + most * 22) ≤ 1099511627776) :
    Calls Tryd.prog 55 #[.pointer (some ⟨g, 0, none⟩), .slice a n c, .int .i64 (most : Int), .func (.func 56) #[] #[]] w (Post w F (fun _ : Unit => .tuple #[]) (fun _ => [WrR TE ea g (l.foldl (fun s x => wVdr x s) (wNum (l.length : Int) 1 s))])) := by
  have hnl := hl.len (by decide)
  refine g_enter (env := [(0, .pointer (some ⟨g, 0, none⟩)), (1, .slice a n c), (2, .int .i64 (most : Int)), (3, .func (.func 56) #[] #[])]) Tryd.func55 rfl h Tryd.ntmps55 rfl rfl ?_
  refine gc_seq ?_
  refine gsr ?_
  refine gp zmv ?_
  refine gp zln ?_
  refine gp zmv ?_
  refine gp (r_bool (r_gtr rfl rfl) (decide_eq_false (by omega))) ?_
  refine gp zmv ?_
  refine gq zmv ?_
  refine gq zln ?_
  refine gq (r_bool (r_gtr rfl rfl) (decide_eq_false (by omega))) ?_
  refine gp zpk ?_
  refine gnt ?_
  refine gc_condF rfl rfl ?_
  refine gc_skip ?_
  refine gx_then ?_
  refine gsr ?_
  refine gp zmv ?_
  refine gp zmv ?_
  refine gp zln ?_
  refine zc (fun _ => ?_) (c := fun w1 F1 F2 h1 h2 hd hst => number_ok (wd := 1) h1 (hE.mv hst.still) (by decide) (by decide) (by omega))
  refine gnt ?_
  refine gsr ?_
  refine gp zmv ?_
  refine gp zln ?_
  refine gp zmv ?_
  refine gnt ?_
  refine gc_block ?_
  refine gc_loop (α := Nat) (fun k => [pureR (k ≤ n), WrR TE ea g ((l.take k).foldl (fun s x => wVdr x s) (wNum (l.length : Int) 1 s))]) (fun k => [(30, .int .i64 (k : Int))]) [9, 31, 32, 33, 34, 35, 36, 37, 38] (fun k => n - k) 0 ?_ ?_ ?_
  · refine env_start (by kernel_rfl)
  · rintro w' hw
    obtain ⟨F', hF', hst'⟩ := hw.sel (M := [WrR TE ea g (wNum (n : Int) 1 s)]) (by repeat (first | exact Sel.nil | (apply Sel.cons; · (repeat (first | exact Pick.here | apply Pick.there)))))
    rw [hnl] at hF'
    exact ⟨F', stars_pure_mk (Nat.zero_le _) hF', hst'⟩
  · intro k u
    refine gc_pureR (fun hk => ?_)
    replace hk : k ≤ n := hk
    refine gsr ?_
    refine gp zlt ?_
    refine gnt ?_
    refine gc_seq ?_
    refine gif rfl (fun hc31 => ?_) (fun hc31 => ?_)
    · have hk' : k < n := by (try simp only at hc31); omega
      obtain ⟨ga, o, cs, y, ha, hA, hg, hra, hcl, hly, hrd⟩ := hl.elem (by decide) hk'
      subst ha
      refine gc_skip ?_
      refine gx_then ?_
      refine gc_seq ?_
      refine gc_block ?_
      refine gsr ?_
      refine gp (r_indexAddr_slice rfl rfl Ty.sl_31 Ty.sz_95 (by omega) (by omega)) ?_
      refine gp (r_ldNo rfl Ty.row_95 Ty.sz_95 hra hcl (by decide) hA) ?_
      refine zal fun b9 => ?_
      refine gl_storeN (wt0 rfl) rfl rfl Ty.sz_95 hcl (by repeat (first | exact Pick.here | apply Pick.there)) (by first | rfl | (simp only [List.drop_succ_cons, List.drop_zero, List.take_succ_cons, List.take_zero, List.cons_append, List.nil_append, List.append_assoc, drop_dc, drop_dc', take_dc, take_dc', drop_L, drop_L', take_L, take_L', len_L, Nat.reduceLeDiff, Nat.reduceSub, Nat.reduceAdd, Nat.le_refl, List.length_cons, List.length_append, List.length_nil, dc_length, List.drop_nil, List.take_nil, List.append_nil, List.length_map, List.length_replicate, zD_length]; first | done | omega)) (hrd.one) (updL_all (by rw [hcl]; first | rfl | (simp only [List.drop_succ_cons, List.drop_zero, List.take_succ_cons, List.take_zero, List.cons_append, List.nil_append, List.append_assoc, drop_dc, drop_dc', take_dc, take_dc', drop_L, drop_L', take_L, take_L', len_L, Nat.reduceLeDiff, Nat.reduceSub, Nat.reduceAdd, Nat.le_refl, List.length_cons, List.length_append, List.length_nil, dc_length, List.drop_nil, List.take_nil, List.append_nil, List.length_map, List.length_replicate, zD_length]))) ?_
      refine gnt ?_
      refine gc_region ?_
      refine gp zmv ?_
      refine gp zmv ?_
      refine gp (r_ldN rfl Ty.row_95 Ty.sz_95 (by repeat (first | exact Pick.here | apply Pick.there)) (seg_all hcl) hcl) ?_
      refine gl_call (wt0 rfl) (e_callv (us := []) rfl Ty.call_56 rfl) (by repeat (first | exact Sel.nil | (apply Sel.cons; · (repeat (first | exact Pick.here | apply Pick.there))))) (fun w1 F1 F2 h1 h2 hd hst => block2_ok h1 (hE.mv hst.still) hrd (put_bound wVdr_len (by omega) (by omega) hb)) ?_
      intro _
      refine gl_nil ?_
      refine gx_block_normal ?_
      refine gx_then ?_
      refine gc_region ?_
      refine gp (r_arith (op := .add) rfl rfl (wrap_i64 (by omega) (by omega))) ?_
      refine gp zmv ?_
      refine gl_nil ?_
      refine zrd (k + 1) ?_ ?_
      · show n - (k + 1) < n - k
        omega
      · rintro w' hw
        obtain ⟨F', hF', hst'⟩ := hw.sel (M := [WrR TE ea g _]) (by repeat (first | exact Sel.nil | (apply Sel.cons; · (repeat (first | exact Pick.here | apply Pick.there)))))
        refine ⟨F', stars_pure_mk (show k + 1 ≤ n by omega) ?_, hst'⟩
        rw [foldl_take_succ _ _ _ hly]
        exact hF'
    · have hk' : k = l.length := by (try simp only at hc31); omega
      subst hk'
      refine gc_exit ?_
      refine gx_then_exit ?_
      refine gx_round_exit ?_
      refine gx_block_hit ?_
      refine gx_ret0' rfl ?_
      rw [List.take_length]
      exact ze ()


theorem putVdrs_ok {w : World} {F : Nat → Prop} {g TE : Nat} {ea : Nat → Addr} {s : WS} {n c : Nat} {a : Option Addr} {l : List Vdr} {most : Nat} (h : stars [WrR TE ea g s] w F) {es : List Nat} [Has es 1] (hE : GErr es w (fun k => ¬ F k) TE ea) (hl : RdList (RdVdr) w (fun k => ¬ F k) 17 a n l) (hm : most ≤ 255) (hb : s.bs.length + (1 + most * 22) ≤ 1099511627776) :
    Calls Tryd.prog 55 #[.pointer (some ⟨g, 0, none⟩), .slice a n c, .int .i64 (most : Int), .func (.func 56) #[] #[]] w (Post w F (fun _ : Unit => .tuple #[]) (fun _ => [WrR TE ea g (wPut (wVdr) l most s)])) := by
  have hnl := hl.len (by decide)
  unfold wPut
  by_cases hn : most < n
  · rw [if_pos (.inl (by omega))]; exact putVdrs_big h hE hl hm hn
  · rw [if_neg (by omega)]; exact putVdrs_fit h hE hl hm (by omega) hb

set_option maxHeartbeats 400000 in
theorem block1_ok {w : World} {F : Nat → Prop} {g TE : Nat} {ea : Nat → Addr} {s : WS} {x : List UInt8} {a : Option Addr} {n c : Nat} (h : stars [WrR TE ea g s] w F) {es : List Nat} [Has es 1] (hE : GErr es w (fun k => ¬ F k) TE ea) (hx : RdRow w (fun k => ¬ F k) 1 a n (x.map B8)) (hb : s.bs.length + 18 ≤ 1099511627776) :
    Calls Tryd.prog 53 #[.pointer (some ⟨g, 0, none⟩), .slice a n c] w (Post w F (fun _ : Unit => .tuple #[]) (fun _ => [WrR TE ea g (wBytes x 16 s)])) := by
  refine g_enter (env := [(0, .pointer (some ⟨g, 0, none⟩)), (1, .slice a n c)]) Tryd.func53 rfl h Tryd.ntmps53 rfl rfl ?_
  refine gc_region ?_
  refine gp zmv ?_
  refine gp zmv ?_
  refine zc (fun _ => ?_) (c := fun w1 F1 F2 h1 h2 hd hst => wbytes_ok (most := 16) h1 (hE.mv hst.still) (hx.mv hst.still) (by decide) (by omega))
  refine gl_nil ?_
  refine gx_ret0' rfl ?_
  exact ze ()

set_option maxHeartbeats 400000 in
theorem putTxs_big {w : World} {F : Nat → Prop} {g TE : Nat} {ea : Nat → Addr} {s : WS} {n c : Nat} {a : Option Addr} {l : List (List UInt8)} {most : Nat} (h : stars [WrR TE ea g s] w F) {es : List Nat} [Has es 1] (hE : GErr es w (fun k => ¬ F k) TE ea) (hl : RdList (RdBytes w (fun k => ¬ F k)) w (fun k => ¬ F k) 1 a n l) (hm : most ≤ 255) (hn : most < n) :
    Calls Tryd.prog 52 #[.pointer (some ⟨g, 0, none⟩), .slice a n c, .int .i64 (most : Int), .func (.func 53) #[] #[]] w (Post w F (fun _ : Unit => .tuple #[]) (fun _ => [WrR TE ea g (wFail 1 s)])) := by
  obtain ⟨a0, c0, h'⟩ := wr_open h
  refine g_enter (env := [(0, .pointer (some ⟨g, 0, none⟩)), (1, .slice a n c), (2, .int .i64 (most : Int)), (3, .func (.func 53) #[] #[])]) Tryd.func52 rfl h' Tryd.ntmps52 rfl rfl ?_
  refine gc_seq ?_
  refine gsr ?_
  refine gp zmv ?_
  refine gp zln ?_
  refine gp zmv ?_
  refine gp (r_bool (r_gtr rfl rfl) (decide_eq_true (by omega))) ?_
  refine gp zmv ?_
  refine gn ?_
  refine gn ?_
  refine gn ?_
  refine gp zpk ?_
  refine gnt ?_
  refine gc_condT rfl rfl ?_
  refine gc_seq ?_
  refine gc_regionT 4 (by kernel_rfl) (by kernel_rfl) ?_
  refine sp zmv ?_
  refine sp znc ?_
  refine sp zfa ?_
  refine sp (r_ld1o rfl Ty.row_40 (hE.c 1 Has.h) (hE.n 1 Has.h)) ?_
  refine gs_nil ?_
  refine zc (fun _ => ?_) (c := fun w1 F1 F2 h1 h2 hd hst => fail_ok h1)
  refine gnt ?_
  refine gc_ret ?_
  refine gx_then_ret ?_
  refine gx_ret0 rfl ?_
  exact fun w' hw => ⟨(), rfl, by rw [wFail]; by_cases he : s.err = 0 <;> simp only [he, if_true, if_false, ite_true, ite_false] at hw ⊢ <;> exact St.wr (hw.sel (by repeat (first | exact Sel.nil | (apply Sel.cons; · (repeat (first | exact Pick.here | apply Pick.there)))))) (by simp [he]) rfl rfl⟩

set_option maxHeartbeats 400000 in
theorem putTxs_fit {w : World} {F : Nat → Prop} {g TE : Nat} {ea : Nat → Addr} {s : WS} {n c : Nat} {a : Option Addr} {l : List (List UInt8)} {most : Nat} (h : stars [WrR TE ea g s] w F) {es : List Nat} [Has es 1] (hE : GErr es w (fun k => ¬ F k) TE ea) (hl : RdList (RdBytes w (fun k => ¬ F k)) w (fun k => ¬ F k) 1 a n l) (hm : most ≤ 255) (hn : n ≤ most) (hb : s.bs.length + (1 + most * 18) ≤ 1099511627776) :
    Calls Tryd.prog 52 #[.pointer (some ⟨g, 0, none⟩), .slice a n c, .int .i64 (most : Int), .func (.func 53) #[] #[]] w (Post w F (fun _ : Unit => .tuple #[]) (fun _ => [WrR TE ea g (l.foldl (fun s x => (fun t => wBytes t 16) x s) (wNum (l.length : Int) 1 s))])) := by
  have hnl := hl.len (by decide)
  refine g_enter (env := [(0, .pointer (some ⟨g, 0, none⟩)), (1, .slice a n c), (2, .int .i64 (most : Int)), (3, .func (.func 53) #[] #[])]) Tryd.func52 rfl h Tryd.ntmps52 rfl rfl ?_
  refine gc_seq ?_
  refine gsr ?_
  refine gp zmv ?_
  refine gp zln ?_
  refine gp zmv ?_
  refine gp (r_bool (r_gtr rfl rfl) (decide_eq_false (by omega))) ?_
  refine gp zmv ?_
  refine gq zmv ?_
  refine gq zln ?_
  refine gq (r_bool (r_gtr rfl rfl) (decide_eq_false (by omega))) ?_
  refine gp zpk ?_
  refine gnt ?_
  refine gc_condF rfl rfl ?_
  refine gc_skip ?_
  refine gx_then ?_
  refine gsr ?_
  refine gp zmv ?_
  refine gp zmv ?_
  refine gp zln ?_
  refine zc (fun _ => ?_) (c := fun w1 F1 F2 h1 h2 hd hst => number_ok (wd := 1) h1 (hE.mv hst.still) (by decide) (by decide) (by omega))
  refine gnt ?_
  refine gsr ?_
  refine gp zmv ?_
  refine gp zln ?_
  refine gp zmv ?_
  refine gnt ?_
  refine gc_block ?_
  refine gc_loop (α := Nat) (fun k => [pureR (k ≤ n), WrR TE ea g ((l.take k).foldl (fun s x => (fun t => wBytes t 16) x s) (wNum (l.length : Int) 1 s))]) (fun k => [(30, .int .i64 (k : Int))]) [9, 31, 32, 33, 34, 35, 36, 37, 38] (fun k => n - k) 0 ?_ ?_ ?_
  · refine env_start (by kernel_rfl)
  · rintro w' hw
    obtain ⟨F', hF', hst'⟩ := hw.sel (M := [WrR TE ea g (wNum (n : Int) 1 s)]) (by repeat (first | exact Sel.nil | (apply Sel.cons; · (repeat (first | exact Pick.here | apply Pick.there)))))
    rw [hnl] at hF'
    exact ⟨F', stars_pure_mk (Nat.zero_le _) hF', hst'⟩
  · intro k u
    refine gc_pureR (fun hk => ?_)
    replace hk : k ≤ n := hk
    refine gsr ?_
    refine gp zlt ?_
    refine gnt ?_
    refine gc_seq ?_
    refine gif rfl (fun hc31 => ?_) (fun hc31 => ?_)
    · have hk' : k < n := by (try simp only at hc31); omega
      obtain ⟨ga, o, cs, y, ha, hA, hg, hra, hcl, hly, hrd⟩ := hl.elem (by decide) hk'
      subst ha
      obtain ⟨a', n', c', rfl, hn', hrb⟩ := hrd
      refine gc_skip ?_
      refine gx_then ?_
      refine gc_seq ?_
      refine gc_block ?_
      refine gsr ?_
      refine gp (r_indexAddr_slice rfl rfl Ty.sl_30 Ty.sz_53 (by omega) (by omega)) ?_
      refine gp (r_ld1o rfl Ty.row_53 (hra 0 _ rfl) hA) ?_
      refine gp zas ?_
      refine gnt ?_
      refine gc_region ?_
      refine gp zmv ?_
      refine gp zmv ?_
      refine gp zmv ?_
      refine gl_call (wt0 rfl) (e_callv (us := []) rfl Ty.call_53 rfl) (by repeat (first | exact Sel.nil | (apply Sel.cons; · (repeat (first | exact Pick.here | apply Pick.there))))) (fun w1 F1 F2 h1 h2 hd hst => block1_ok h1 (hE.mv hst.still) (hrb.mv hst.still) (put_bound (fun x s => wBytes_len x 16 s) (by omega) (by omega) hb)) ?_
      intro _
      refine gl_nil ?_
      refine gx_block_normal ?_
      refine gx_then ?_
      refine gc_region ?_
      refine gp (r_arith (op := .add) rfl rfl (wrap_i64 (by omega) (by omega))) ?_
      refine gp zmv ?_
      refine gl_nil ?_
      refine zrd (k + 1) ?_ ?_
      · show n - (k + 1) < n - k
        omega
      · rintro w' hw
        obtain ⟨F', hF', hst'⟩ := hw.sel (M := [WrR TE ea g _]) (by repeat (first | exact Sel.nil | (apply Sel.cons; · (repeat (first | exact Pick.here | apply Pick.there)))))
        refine ⟨F', stars_pure_mk (show k + 1 ≤ n by omega) ?_, hst'⟩
        rw [foldl_take_succ _ _ _ hly]
        exact hF'
    · have hk' : k = l.length := by (try simp only at hc31); omega
      subst hk'
      refine gc_exit ?_
      refine gx_then_exit ?_
      refine gx_round_exit ?_
      refine gx_block_hit ?_
      refine gx_ret0' rfl ?_
      rw [List.take_length]
      exact ze ()


theorem putTxs_ok {w : World} {F : Nat → Prop} {g TE : Nat} {ea : Nat → Addr} {s : WS} {n c : Nat} {a : Option Addr} {l : List (List UInt8)} {most : Nat} (h : stars [WrR TE ea g s] w F) {es : List Nat} [Has es 1] (hE : GErr es w (fun k => ¬ F k) TE ea) (hl : RdList (RdBytes w (fun k => ¬ F k)) w (fun k => ¬ F k) 1 a n l) (hm : most ≤ 255) (hb : s.bs.length + (1 + most * 18) ≤ 1099511627776) :
    Calls Tryd.prog 52 #[.pointer (some ⟨g, 0, none⟩), .slice a n c, .int .i64 (most : Int), .func (.func 53) #[] #[]] w (Post w F (fun _ : Unit => .tuple #[]) (fun _ => [WrR TE ea g (wPut ((fun t => wBytes t 16)) l most s)])) := by
  have hnl := hl.len (by decide)
  unfold wPut
  by_cases hn : most < n
  · rw [if_pos (.inl (by omega))]; exact putTxs_big h hE hl hm hn
  · rw [if_neg (by omega)]; exact putTxs_fit h hE hl hm (by omega) hb

set_option maxHeartbeats 400000 in
theorem qc_ok {w : World} {F : Nat → Prop} {g TE : Nat} {ea : Nat → Addr} {s : WS} {cs : List Value} {x : QC} (h : stars [WrR TE ea g s] w F) {es : List Nat} [Has es 1] (hE : GErr es w (fun k => ¬ F k) TE ea) (hx : RdQC w (fun k => ¬ F k) cs x) (hb : s.bs.length + 8231 ≤ 1099511627776) :
    Calls Tryd.prog 51 #[.agg (List.toArray [.pointer (some ⟨g, 0, none⟩)]), .agg cs.toArray] w (Post w F (fun _ : Unit => .tuple #[]) (fun _ => [WrR TE ea g (wQC x s)])) := by
  obtain ⟨a1, n1, c1, rfl, hk1, hd1⟩ := hx
  refine g_enter (env := [(0, .agg (List.toArray [.pointer (some ⟨g, 0, none⟩)])), (1, .agg (List.toArray (.int .i64 x.epoch :: .int .i64 x.round :: (dc x.block ++ [.slice a1 n1 c1]))))]) Tryd.func51 rfl h Tryd.ntmps51 rfl rfl ?_
  refine gsr ?_
  refine zbN fun b2 => ?_
  refine zbN fun b3 => ?_
  refine gnt ?_
  refine gsr ?_
  refine gp zL ?_
  refine gp zfa ?_
  refine gp zl ?_
  refine gp zfa ?_
  refine gp zl ?_
  refine zc (fun _ => ?_) (c := fun w1 F1 F2 h1 h2 hd hst => at_ok h1 (hE.mv hst.still) (by omega))
  refine gnt ?_
  refine gsr ?_
  refine gp zL ?_
  refine gp zfa ?_
  refine gp zL ?_
  refine zc (fun _ => ?_) (c := fun w1 F1 F2 h1 h2 hd hst => digest_ok h1 (hE.mv hst.still) (by have e0 := wAt_len x.epoch x.round s; omega))
  refine gnt ?_
  refine gc_region ?_
  refine gp zfa ?_
  refine gp zl ?_
  refine gp zfa ?_
  refine gp zl ?_
  refine zc (fun _ => ?_) (c := fun w1 F1 F2 h1 h2 hd hst => putSigneds_ok (most := 7) h1 (hE.mv hst.still) (RdList.mv hd1 hst.still fun _ _ h => h.mv hst.still) (by decide) (by have e0 := wAt_len x.epoch x.round s; have e1 := wDig_len x.block (wAt x.epoch x.round s); omega))
  refine gl_nil ?_
  refine gx_ret0' rfl ?_
  exact ze ()


set_option maxHeartbeats 400000 in
theorem block_ok {w : World} {F : Nat → Prop} {g TE : Nat} {ea : Nat → Addr} {s : WS} {cs : List Value} {x : Block} (h : stars [WrR TE ea g s] w F) {es : List Nat} [Has es 1] (hE : GErr es w (fun k => ¬ F k) TE ea) (hx : RdBlock w (fun k => ¬ F k) cs x) (hb : s.bs.length + 8485 ≤ 1099511627776) :
    Calls Tryd.prog 34 #[.agg (List.toArray [.pointer (some ⟨g, 0, none⟩)]), .agg cs.toArray] w (Post w F (fun _ : Unit => .tuple #[]) (fun _ => [WrR TE ea g (wBlock x s)])) := by
  obtain ⟨q, a1, n1, c1, a2, n2, c2, rfl, hq, hk1, hd1, hk2, hd2⟩ := hx
  have hl := hq.len
  have z_hl := Len.of hl
  refine g_enter (env := [(0, .agg (List.toArray [.pointer (some ⟨g, 0, none⟩)])), (1, .agg (List.toArray (.int .i64 x.epoch :: .int .i64 x.round :: (dc x.parent ++ (q ++ [.slice a1 n1 c1, .slice a2 n2 c2])))))]) Tryd.func34 rfl h Tryd.ntmps34 rfl rfl ?_
  refine gsr ?_
  refine zbN fun b2 => ?_
  refine zbN fun b3 => ?_
  refine gnt ?_
  refine gsr ?_
  refine gp zL ?_
  refine gp zfa ?_
  refine gp zl ?_
  refine gp zfa ?_
  refine gp zl ?_
  refine zc (fun _ => ?_) (c := fun w1 F1 F2 h1 h2 hd hst => at_ok h1 (hE.mv hst.still) (by omega))
  refine gnt ?_
  refine gsr ?_
  refine gp zL ?_
  refine gp zfa ?_
  refine gp zL ?_
  refine zc (fun _ => ?_) (c := fun w1 F1 F2 h1 h2 hd hst => digest_ok h1 (hE.mv hst.still) (by have e0 := wAt_len x.epoch x.round s; omega))
  refine gnt ?_
  refine gsr ?_
  refine gp zL ?_
  refine gp zfa ?_
  refine gp zL ?_
  refine zc (fun _ => ?_) (c := fun w1 F1 F2 h1 h2 hd hst => qc_ok h1 (hE.mv hst.still) (hq.mv hst.still) (by have e0 := wAt_len x.epoch x.round s; have e1 := wDig_len x.parent (wAt x.epoch x.round s); omega))
  refine gnt ?_
  refine gsr ?_
  refine gp zfa ?_
  refine gp zl ?_
  refine gp zfa ?_
  refine gp zl ?_
  refine zc (fun _ => ?_) (c := fun w1 F1 F2 h1 h2 hd hst => putTxs_ok (most := 4) h1 (hE.mv hst.still) (RdList.mv hd1 hst.still fun _ _ h => h.mv hst.still) (by decide) (by have e0 := wAt_len x.epoch x.round s; have e1 := wDig_len x.parent (wAt x.epoch x.round s); have e2 := wQC_len x.justify (wDig x.parent (wAt x.epoch x.round s)); omega))
  refine gnt ?_
  refine gc_region ?_
  refine gp zfa ?_
  refine gp zl ?_
  refine gp zfa ?_
  refine gp zl ?_
  refine zc (fun _ => ?_) (c := fun w1 F1 F2 h1 h2 hd hst => putVdrs_ok (most := 7) h1 (hE.mv hst.still) (RdList.mv hd2 hst.still fun _ _ h => h) (by decide) (by have e0 := wAt_len x.epoch x.round s; have e1 := wDig_len x.parent (wAt x.epoch x.round s); have e2 := wQC_len x.justify (wDig x.parent (wAt x.epoch x.round s)); have e3 := wPut_len (wX := fun t => wBytes t 16) (c := 18) (fun x s => wBytes_len x 16 s) x.payload 4 (wQC x.justify (wDig x.parent (wAt x.epoch x.round s))); omega))
  refine gl_nil ?_
  refine gx_ret0' rfl ?_
  exact ze ()

end Go.Proofs.YtheonhgffglegaaDoor

/- Walks, by program (wg.py) out of a spec. -/
namespace Go.Proofs.YtheonhgffglegaaDoor
open Go
set_option linter.unusedVariables false
set_option linter.unusedSimpArgs false


def wOut (s : WS) : List UInt8 := if s.err = 0 then s.bs else []
theorem wr_new {w0 w : World} {F0 : Nat → Prop} {TE : TypeId} {ea : Nat → Addr} {g : Nat}
    (h : St w0 F0 [blk g 127 [.nilIface, .slice none 0 0]] w) : St w0 F0 [WrR TE ea g ⟨0, []⟩] w := by
  obtain ⟨F, hF, hst⟩ := h
  have h1 : St w0 F0 [rowR 5 1 none 0 0 [], blk g 127 [.nilIface, .slice none 0 0]] w := ⟨F, stars_row_nil hF, hst⟩
  obtain ⟨F', hF', hst'⟩ := h1.sel (M := [blk g 127 [.nilIface, .slice none 0 0], rowR 5 1 none 0 0 []]) (by repeat (first | exact Sel.nil | (apply Sel.cons; · (repeat (first | exact Pick.here | apply Pick.there)))))
  refine ⟨F', wr_shut (k := 0) (m := 0) (c := 0) (a := none) (xs := []) ?_ rfl rfl rfl, hst'⟩
  rw [eV_zero]; exact hF'
theorem St.rowNil {w0 w : World} {F0 : Nat → Prop} {e size : Nat} {L : List Res} (h : St w0 F0 L w) : St w0 F0 (rowR e size none 0 0 [] :: L) w := by
  obtain ⟨F, hF, hst⟩ := h; exact ⟨F, stars_row_nil hF, hst⟩
theorem RdRow.none {w : World} {A : Nat → Prop} {size n : Nat} {xs : List Value} (h : RdRow w A size none n xs) : n = 0 ∧ xs = [] := by
  have h0 : n = 0 := by
    rcases Nat.eq_zero_or_pos n with h0 | h0
    · exact h0
    · obtain ⟨_, _, ha, _⟩ := h.2.2 h0; cases ha
  subst h0
  exact ⟨rfl, List.length_eq_zero_iff.1 (by simpa using h.1)⟩

attribute [local irreducible] Gl Gc Gx Gs Runs Wt

set_option maxHeartbeats 400000 in
theorem newwriter_ok {w : World} {F : Nat → Prop} {TE : Nat} {ea : Nat → Addr} (h : stars [] w F) :
    Calls Tryd.prog 47 #[] w (Post w F (fun g : Nat => .pointer (some ⟨g, 0, none⟩)) (fun g => [WrR TE ea g ⟨0, []⟩])) := by
  refine g_enter (env := []) Tryd.func47 rfl h Tryd.ntmps47 rfl rfl ?_
  refine gsr ?_
  refine gp zas ?_
  refine gnt ?_
  refine gsr ?_
  refine gp zbu ?_
  refine zbN fun b2 => ?_
  refine gp zas ?_
  refine gnt ?_
  refine gc_ret ?_
  refine gx_ret1 rfl (by conv => lhs; whnf) ?_
  exact fun w' hw => ⟨b2, rfl, wr_new (hw.sel (by repeat (first | exact Sel.nil | (apply Sel.cons; · (repeat (first | exact Pick.here | apply Pick.there))))))⟩

set_option maxHeartbeats 400000 in
theorem cloneBytes_ok {w : World} {F : Nat → Prop} {n c : Nat} {a : Option Addr} {xs : List Value} (h : stars [] w F) (hx : RdRow w (fun k => ¬ F k) 1 a n xs) (h1 : ∀ u ∈ xs, u.oneCell' = true) (hb : n ≤ 1099511627776) :
    Calls Tryd.prog 39 #[.slice a n c] w (Post w F (fun r : Option Addr × Nat => .slice r.1 n r.2) (fun r => [rowR 5 1 r.1 n r.2 xs])) := by
  refine g_enter (env := [(0, .slice a n c)]) Tryd.func39 rfl h Tryd.ntmps39 rfl rfl ?_
  refine gsr ?_
  refine gp zas ?_
  refine gnt ?_
  refine gc_seq ?_
  refine gsr ?_
  refine gp zmv ?_
  refine gp zen ?_
  refine gnt ?_
  refine gif rfl (fun hc4 => ?_) (fun hc4 => ?_)
  · refine gsr ?_
    refine gp zas ?_
    refine gnt ?_
    refine gc_ret ?_
    refine gx_then_ret ?_
    refine gx_ret1 rfl (by conv => lhs; whnf) ?_
    have ha : a = none := by cases a <;> simp_all
    subst ha
    obtain ⟨rfl, rfl⟩ := hx.none
    exact fun w' hw => ⟨(none, 0), rfl, hw.rowNil.sel (by repeat (first | exact Sel.nil | (apply Sel.cons; · (repeat (first | exact Pick.here | apply Pick.there)))))⟩
  · refine gc_skip ?_
    refine gx_then ?_
    refine gsr ?_
    refine ze0 fun b5 => ?_
    refine gp zmv ?_
    refine gl_append (wt0 rfl) rfl rfl (by repeat (first | exact Pick.here | apply Pick.there)) Ty.el_53 (fun w' hw => hw.rdOld hx) h1 (by simp only [maxLen]; omega) (by omega) ?_
    intro a1 c1
    refine gp zas ?_
    refine gnt ?_
    refine gc_ret ?_
    refine gx_ret1 rfl (by conv => lhs; whnf) ?_
    rw [Nat.zero_add]
    exact fun w' hw => ⟨(a1, c1), rfl, hw.sel (by repeat (first | exact Sel.nil | (apply Sel.cons; · (repeat (first | exact Pick.here | apply Pick.there)))))⟩

set_option maxHeartbeats 400000 in
theorem done_ok {w : World} {F : Nat → Prop} {g TE : Nat} {ea : Nat → Addr} {s : WS} (h : stars [WrR TE ea g s] w F) (hb : s.bs.length ≤ 1099511627776) :
    Calls Tryd.prog 48 #[.pointer (some ⟨g, 0, none⟩)] w (Post w F (fun r : Option Addr × Nat => .tuple #[.slice r.1 (wOut (s)).length r.2, eV TE ea (s).err]) (fun r => [rowR 5 1 r.1 (wOut (s)).length r.2 ((wOut (s)).map B8)])) := by
  obtain ⟨a0, c0, h'⟩ := wr_open h
  refine g_enter (env := [(0, .pointer (some ⟨g, 0, none⟩))]) Tryd.func48 rfl h' Tryd.ntmps48 rfl rfl ?_
  refine gsr ?_
  refine gp zas ?_
  refine gp zas ?_
  refine gnt ?_
  refine gc_seq ?_
  refine gsr ?_
  refine gp zmv ?_
  refine gp znc ?_
  refine gp zfa ?_
  refine gp zfa ?_
  refine gp zl ?_
  refine gp (r_nenil rfl (by kernel_rfl)) ?_
  refine gnt ?_
  refine gif rfl (fun hc9 => ?_) (fun hc9 => ?_)
  · refine gc_seq ?_
    refine gc_regionS (by kernel_rfl) (by kernel_rfl) ?_
    refine sp zmv ?_
    refine sp znc ?_
    refine sp zfa ?_
    refine sp zfa ?_
    refine sp zl ?_
    refine sp zas ?_
    refine sp zas ?_
    refine gs_nil ?_
    refine gx_then ?_
    refine gc_ret ?_
    refine gx_then_ret ?_
    refine gx_ret2 rfl (by conv => lhs; whnf) (by conv => lhs; whnf) ?_
    exact fun w' hw => ⟨(none, 0), by simp [wOut, hc9], by simpa [wOut, hc9] using hw.rowNil.sel (by repeat (first | exact Sel.nil | (apply Sel.cons; · (repeat (first | exact Pick.here | apply Pick.there)))))⟩
  · refine gc_skip ?_
    refine gx_then ?_
    refine gsr ?_
    refine gp zmv ?_
    refine gp znc ?_
    refine gp zfa ?_
    refine gp zl ?_
    refine zc (fun r19 => ?_) (c := fun w1 F1 F2 h1 h2 hd hst => cloneBytes_ok (xs := s.bs.map B8) h1 (rd_row h2 hd (by repeat (first | exact Pick.here | apply Pick.there))) (one_B8 _) (by omega))
    refine gp zas ?_
    refine gp zas ?_
    refine gnt ?_
    refine gc_ret ?_
    refine gx_ret2 rfl (by conv => lhs; whnf) (by conv => lhs; whnf) ?_
    have e : wOut s = s.bs := by simp [wOut, hc9]
    rw [e]
    exact fun w' hw => ⟨r19, by rw [hc9, eV_zero], hw.sel (by repeat (first | exact Sel.nil | (apply Sel.cons; · (repeat (first | exact Pick.here | apply Pick.there)))))⟩

set_option maxHeartbeats 400000 in
theorem written_ok {w : World} {F : Nat → Prop} {b T k TE : Nat} {ea : Nat → Addr} {cs : List Value} {fw : WS → WS} (h : stars [blk b T cs] w F) (hok : okCall Tryd.prog k = true) (hk : ∀ g w1 F1, stars [WrR TE ea g ⟨0, []⟩, blk b T cs] w1 F1 → Still w (fun k => ¬ F k) w1 (fun k => ¬ F1 k) → Calls Tryd.prog k #[.agg (List.toArray [.pointer (some ⟨g, 0, none⟩)]), .pointer (some ⟨b, 0, none⟩)] w1 (Post w1 F1 (fun _ : Unit => .tuple #[]) (fun _ => [WrR TE ea g (fw ⟨0, []⟩), blk b T cs]))) (hb : (fw ⟨0, []⟩).bs.length ≤ 1099511627776) :
    Calls Tryd.prog 32 #[.func (.func k) #[] (List.toArray [.pointer (some ⟨b, 0, none⟩)])] w (Post w F (fun r : Option Addr × Nat => .tuple #[.slice r.1 (wOut (fw ⟨0, []⟩)).length r.2, eV TE ea (fw ⟨0, []⟩).err]) (fun r => [rowR 5 1 r.1 (wOut (fw ⟨0, []⟩)).length r.2 ((wOut (fw ⟨0, []⟩)).map B8)])) := by
  refine g_enter (env := [(0, .func (.func k) #[] (List.toArray [.pointer (some ⟨b, 0, none⟩)]))]) Tryd.func32 rfl h Tryd.ntmps32 rfl rfl ?_
  refine gsr ?_
  refine gp zas ?_
  refine gp zas ?_
  refine gnt ?_
  refine gsr ?_
  refine zc (fun g => ?_) (c := fun w1 F1 F2 h1 h2 hd hst => newwriter_ok (TE := TE) (ea := ea) h1)
  refine gp zbu ?_
  refine zal fun b4 => ?_
  refine zsN ?_
  refine gnt ?_
  refine gsr ?_
  refine gp zmv ?_
  refine gp zL ?_
  refine gl_call (wt0 rfl) (e_callv (us := [.pointer (some ⟨b, 0, none⟩)]) rfl hok rfl) (by repeat (first | exact Sel.nil | (apply Sel.cons; · (repeat (first | exact Pick.here | apply Pick.there))))) (fun w1 F1 F2 h1 h2 hd hst => hk _ _ _ h1 hst.still) ?_
  intro _
  refine gnt ?_
  refine gsr ?_
  refine gp zfa ?_
  refine gp zl ?_
  refine zc (fun r12 => ?_) (c := fun w1 F1 F2 h1 h2 hd hst => done_ok h1 hb)
  refine gp zex ?_
  refine gp zex ?_
  refine gp zas ?_
  refine gp zas ?_
  refine gnt ?_
  refine gc_ret ?_
  refine gx_ret2 rfl (by conv => lhs; whnf) (by conv => lhs; whnf) ?_
  exact ze r12

set_option maxHeartbeats 400000 in
theorem bytes1_ok {w : World} {F : Nat → Prop} {g TE : Nat} {ea : Nat → Addr} {s : WS} {b : Nat} {cs : List Value} {x : Block} (h : stars [WrR TE ea g s, blk b 33 cs] w F) {es : List Nat} [Has es 1] (hE : GErr es w (fun k => ¬ F k) TE ea) (hx : RdBlock w (fun k => ¬ F k) cs x) (hb : s.bs.length + 8485 ≤ 1099511627776) :
    Calls Tryd.prog 33 #[.agg (List.toArray [.pointer (some ⟨g, 0, none⟩)]), .pointer (some ⟨b, 0, none⟩)] w (Post w F (fun _ : Unit => .tuple #[]) (fun _ => [WrR TE ea g (wBlock x s), blk b 33 cs])) := by
  have hl := hx.len
  refine g_enter (env := [(0, .agg (List.toArray [.pointer (some ⟨g, 0, none⟩)])), (1, .pointer (some ⟨b, 0, none⟩))]) Tryd.func33 rfl h Tryd.ntmps33 rfl rfl ?_
  refine gsr ?_
  refine zbN fun b2 => ?_
  refine gnt ?_
  refine gc_region ?_
  refine gp zL ?_
  refine gp (r_ldN rfl Ty.row_33 Ty.sz_33 (by repeat (first | exact Pick.here | apply Pick.there)) (seg_all hl) hl) ?_
  refine zc (fun _ => ?_) (c := fun w1 F1 F2 h1 h2 hd hst => block_ok h1 (hE.mv hst.still) (hx.mv hst.still) hb)
  refine gl_nil ?_
  refine gx_ret0' rfl ?_
  exact ze ()

set_option maxHeartbeats 400000 in
theorem bytes_ok {w : World} {F : Nat → Prop} {TE : Nat} {ea : Nat → Addr} {cs : List Value} {x : Block} (h : stars [] w F) {es : List Nat} [Has es 1] (hE : GErr es w (fun k => ¬ F k) TE ea) (hx : RdBlock w (fun k => ¬ F k) cs x) :
    Calls Tryd.prog 16 #[.agg cs.toArray] w (Post w F (fun r : Option Addr × Nat => .tuple #[.slice r.1 (wOut (wBlock x ⟨0, []⟩)).length r.2, eV TE ea (wBlock x ⟨0, []⟩).err]) (fun r => [rowR 5 1 r.1 (wOut (wBlock x ⟨0, []⟩)).length r.2 ((wOut (wBlock x ⟨0, []⟩)).map B8)])) := by
  refine g_enter (env := [(0, .agg cs.toArray)]) Tryd.func16 rfl h Tryd.ntmps16 rfl rfl ?_
  refine gsr ?_
  refine zbN fun b1 => ?_
  refine gp zas ?_
  refine gp zas ?_
  refine gnt ?_
  refine gsr ?_
  refine gp zmf ?_
  refine zc (fun r5 => ?_) (c := fun w1 F1 F2 h1 h2 hd hst => written_ok (fw := wBlock x) h1 Ty.call_33 (fun g w2 F3 h2 hs2 => bytes1_ok h2 ((hE.mv hst.still).mv hs2) ((hx.mv hst.still).mv hs2) (by simp)) (by have e0 := wBlock_len x ⟨0, []⟩; simp at e0 ⊢; omega))
  refine gp zex ?_
  refine gp zex ?_
  refine gp zas ?_
  refine gp zas ?_
  refine gnt ?_
  refine gc_ret ?_
  refine gx_ret2 rfl (by conv => lhs; whnf) (by conv => lhs; whnf) ?_
  exact ze r5

end Go.Proofs.YtheonhgffglegaaDoor

/- Walks, by program (wg.py) out of a spec. -/
namespace Go.Proofs.YtheonhgffglegaaDoor
open Go
set_option linter.unusedVariables false
set_option linter.unusedSimpArgs false


theorem V8.add_get (x y : V8) (k : Nat) : (x.add y).get k = x.get k + y.get k := by
  unfold V8.get V8.add; split <;> rfl
theorem v8c_length (v : V8) : (v8c v).length = 8 := rfl
instance {v : V8} : Len (v8c v) 8 := ⟨v8c_length v⟩
theorem v8c_one (v : V8) : ∀ u ∈ v8c v, u.oneCell' = true := fun u hu => fnc_one (V := W32) (m := 8) (f := v.get) (fun _ => rfl) u hu

attribute [local irreducible] Gl Gc Gx Gs Runs Wt

set_option maxHeartbeats 400000 in
theorem take_ok {w : World} {F : Nat → Prop} {g T : Nat} {v : V8} {tl : List Value} (h : stars [blk g T (v8c v ++ tl)] w F) (hK : KR w (fun k => ¬ F k)) {b : List UInt8} {a : Option Addr} {c : Nat} (hx : RdRow w (fun k => ¬ F k) 1 a 64 (b.map B8))  :
    Calls Tryd.prog 60 #[.pointer (some ⟨g, 0, none⟩), .slice a 64 c] w (Post w F (fun _ : Unit => .tuple #[]) (fun _ => [blk g T (v8c (take64 Kc v b) ++ tl)])) := by
  refine g_enter (env := [(0, .pointer (some ⟨g, 0, none⟩)), (1, .slice a 64 c)]) Tryd.func60 rfl h Tryd.ntmps60 rfl rfl ?_
  refine gsr ?_
  refine gp zmv ?_
  refine zc (fun _ => ?_) (c := fun w1 F1 F2 h1 h2 hd hst => schedule_ok h1 (hx.mv hst.still))
  refine zal fun b4 => ?_
  refine gl_storeN (wt0 rfl) rfl rfl Ty.sz_133 fnc_length (by repeat (first | exact Pick.here | apply Pick.there)) (by simp) (fnc_one fun _ => rfl) (updL_all (by simp [fnc_length])) ?_
  refine gnt ?_
  refine gc_seq ?_
  refine gc_regionS (by kernel_rfl) (by kernel_rfl) ?_
  refine sp zmv ?_
  refine sp znc ?_
  refine sp (r_indexAddr_arr rfl rfl Ty.arr_119 Ty.sz_117 (by decide) (by decide)) ?_
  refine sp zl ?_
  refine sp zmv ?_
  refine sp znc ?_
  refine sp (r_indexAddr_arr rfl rfl Ty.arr_119 Ty.sz_117 (by decide) (by decide)) ?_
  refine sp zl ?_
  refine sp zmv ?_
  refine sp znc ?_
  refine sp (r_indexAddr_arr rfl rfl Ty.arr_119 Ty.sz_117 (by decide) (by decide)) ?_
  refine sp zl ?_
  refine sp zmv ?_
  refine sp znc ?_
  refine sp (r_indexAddr_arr rfl rfl Ty.arr_119 Ty.sz_117 (by decide) (by decide)) ?_
  refine sp zl ?_
  refine sp zas ?_
  refine sp zas ?_
  refine sp zas ?_
  refine sp zas ?_
  refine gs_nil ?_
  refine gx_then ?_
  refine gc_seq ?_
  refine gc_regionS (by kernel_rfl) (by kernel_rfl) ?_
  refine sp zmv ?_
  refine sp znc ?_
  refine sp (r_indexAddr_arr rfl rfl Ty.arr_119 Ty.sz_117 (by decide) (by decide)) ?_
  refine sp zl ?_
  refine sp zmv ?_
  refine sp znc ?_
  refine sp (r_indexAddr_arr rfl rfl Ty.arr_119 Ty.sz_117 (by decide) (by decide)) ?_
  refine sp zl ?_
  refine sp zmv ?_
  refine sp znc ?_
  refine sp (r_indexAddr_arr rfl rfl Ty.arr_119 Ty.sz_117 (by decide) (by decide)) ?_
  refine sp zl ?_
  refine sp zmv ?_
  refine sp znc ?_
  refine sp (r_indexAddr_arr rfl rfl Ty.arr_119 Ty.sz_117 (by decide) (by decide)) ?_
  refine sp zl ?_
  refine sp zas ?_
  refine sp zas ?_
  refine sp zas ?_
  refine sp zas ?_
  refine gs_nil ?_
  refine gx_then ?_
  refine gc_seq ?_
  refine gsr ?_
  refine gp zmv ?_
  refine gnt ?_
  refine gc_block ?_
  refine gc_loop (α := Nat) (fun k => [pureR (k ≤ 64), blk b4 133 (fnc W32 64 (sch b)), blk g T (v8c v ++ tl)]) (fun k => [(54, .int .i64 (k : Int)), (5, W32 (rnds Kc (sch b) v k).a), (9, W32 (rnds Kc (sch b) v k).b), (6, W32 (rnds Kc (sch b) v k).c), (10, W32 (rnds Kc (sch b) v k).d), (7, W32 (rnds Kc (sch b) v k).e), (11, W32 (rnds Kc (sch b) v k).f), (8, W32 (rnds Kc (sch b) v k).g), (12, W32 (rnds Kc (sch b) v k).h)]) [13, 14, 15, 16, 17, 55, 56, 57, 58, 59, 60, 61, 62, 63, 64, 65, 66, 67, 68, 69, 70, 71, 72, 73, 74, 75, 76, 77, 78, 79, 80, 81, 82, 83, 84, 85, 86, 87, 88, 89, 90, 91, 92, 93, 94, 95, 96, 97, 98, 99, 100, 101, 102, 103, 104, 105, 106, 107, 108, 109, 110, 111, 112, 113, 114, 115, 116, 117, 118] (fun k => 64 - k) 0 ?_ ?_ ?_
  · refine env_start (by kernel_rfl)
  · rintro w' hw
    obtain ⟨F', hF', hst'⟩ := hw.sel (M := [blk b4 133 _, blk g T _]) (by repeat (first | exact Sel.nil | (apply Sel.cons; · (repeat (first | exact Pick.here | apply Pick.there)))))
    exact ⟨F', stars_pure_mk (Nat.zero_le _) hF', hst'⟩
  · intro k u
    refine gc_pureR (fun hk => ?_)
    replace hk : k ≤ 64 := hk
    refine gsr ?_
    refine gp zlt ?_
    refine gnt ?_
    refine gc_seq ?_
    refine gif rfl (fun hc55 => ?_) (fun hc55 => ?_)
    · have hk' : k < 64 := by (try simp only at hc55); omega
      refine gc_skip ?_
      refine gx_then ?_
      refine gc_seq ?_
      refine gc_block ?_
      refine gsr ?_
      refine gp zmv ?_
      refine gp zas ?_
      refine gnt ?_
      refine gsr ?_
      refine gp zmv ?_
      refine zc (fun _ => ?_) (c := fun w1 F1 F2 h1 h2 hd hst => rot_ok (n := 6) h1 (by decide) (by decide))
      refine gp zmv ?_
      refine zc (fun _ => ?_) (c := fun w1 F1 F2 h1 h2 hd hst => rot_ok (n := 11) h1 (by decide) (by decide))
      refine gp zwx ?_
      refine gp zmv ?_
      refine zc (fun _ => ?_) (c := fun w1 F1 F2 h1 h2 hd hst => rot_ok (n := 25) h1 (by decide) (by decide))
      refine gp zwx ?_
      refine gp zas ?_
      refine gnt ?_
      refine gc_seq ?_
      refine gc_regionS (by kernel_rfl) (by kernel_rfl) ?_
      refine sp zmv ?_
      refine sp zmv ?_
      refine sp zwa ?_
      refine sp zmv ?_
      refine sp zmv ?_
      refine sp zwn ?_
      refine sp zmv ?_
      refine sp zwc ?_
      refine sp zmv ?_
      refine sp zwn ?_
      refine sp zwx ?_
      refine sp zwa ?_
      refine sp zmv ?_
      refine sp (r_indexAddr_arr rfl rfl Ty.arr_133 Ty.sz_117 (by omega) (by omega)) ?_
      refine sp (r_ld1o rfl Ty.row_117 (hK.at (i := k) (by omega) hk') hK.n) ?_
      refine sp zwa ?_
      refine sp zmv ?_
      refine sp (r_indexAddr_arr rfl rfl Ty.arr_133 Ty.sz_117 (by omega) (by omega)) ?_
      refine sp (r_ld1 (v := W32 (sch b k)) rfl Ty.row_117 (by repeat (first | exact Pick.here | apply Pick.there)) (by rw [show 0 + (k : Int).toNat * 1 = k by omega]; exact fnc_get hk')) ?_
      refine sp zwa ?_
      refine sp zas ?_
      refine gs_nil ?_
      refine gx_then ?_
      refine gsr ?_
      refine gp zmv ?_
      refine zc (fun _ => ?_) (c := fun w1 F1 F2 h1 h2 hd hst => rot_ok (n := 2) h1 (by decide) (by decide))
      refine gp zmv ?_
      refine zc (fun _ => ?_) (c := fun w1 F1 F2 h1 h2 hd hst => rot_ok (n := 13) h1 (by decide) (by decide))
      refine gp zwx ?_
      refine gp zmv ?_
      refine zc (fun _ => ?_) (c := fun w1 F1 F2 h1 h2 hd hst => rot_ok (n := 22) h1 (by decide) (by decide))
      refine gp zwx ?_
      refine gp zas ?_
      refine gnt ?_
      refine gsr ?_
      refine gp zmv ?_
      refine gp zmv ?_
      refine gp zmv ?_
      refine gp zwn ?_
      refine gp zmv ?_
      refine gp zmv ?_
      refine gp zwn ?_
      refine gp zwx ?_
      refine gp zmv ?_
      refine gp zmv ?_
      refine gp zwn ?_
      refine gp zwx ?_
      refine gp zwa ?_
      refine gp zas ?_
      refine gnt ?_
      refine gc_region ?_
      refine gp zmv ?_
      refine gp zmv ?_
      refine gp zmv ?_
      refine gp zmv ?_
      refine gp zmv ?_
      refine gp zwa ?_
      refine gp zmv ?_
      refine gp zmv ?_
      refine gp zmv ?_
      refine gp zmv ?_
      refine gp zmv ?_
      refine gp zwa ?_
      refine gp zas ?_
      refine gp zas ?_
      refine gp zas ?_
      refine gp zas ?_
      refine gp zas ?_
      refine gp zas ?_
      refine gp zas ?_
      refine gp zas ?_
      refine gl_nil ?_
      refine gx_block_normal ?_
      refine gx_then ?_
      refine gc_region ?_
      refine gp zad ?_
      refine gp zmv ?_
      refine gl_nil ?_
      refine zrd (k + 1) ?_ ?_
      · show 64 - (k + 1) < 64 - k
        omega
      · rintro w' hw
        obtain ⟨F', hF', hst'⟩ := hw.sel (M := [blk b4 133 _, blk g T _]) (by repeat (first | exact Sel.nil | (apply Sel.cons; · (repeat (first | exact Pick.here | apply Pick.there)))))
        exact ⟨F', stars_pure_mk (show k + 1 ≤ 64 by omega) hF', hst'⟩
    · have hk' : k = 64 := by (try simp only at hc55); omega
      subst hk'
      refine gc_exit ?_
      refine gx_then_exit ?_
      refine gx_round_exit ?_
      refine gx_block_hit ?_
      refine gx_then ?_
      refine gsr ?_
      refine gp zmv ?_
      refine gp zmv ?_
      refine gp zmv ?_
      refine gp zmv ?_
      refine gp zmv ?_
      refine gp zmv ?_
      refine gp zmv ?_
      refine gp zmv ?_
      refine gp zba ?_
      refine gp zmv ?_
      refine gnt ?_
      refine gc_block ?_
      generalize hV : rnds Kc (sch b) v 64 = V
      refine gc_loop (α := Nat) (fun k => [pureR (k ≤ 8), blk g T (fnc W32 8 (pfx (v.add V).get v.get k) ++ tl)]) (fun k => [(128, .int .i64 (k : Int))]) [18, 19, 129, 130, 131, 132, 133, 134, 135, 136, 137, 138, 139, 140, 141] (fun k => 8 - k) 0 ?_ ?_ ?_
      · refine env_start (by kernel_rfl)
      · rintro w' hw
        obtain ⟨F', hF', hst'⟩ := hw.sel (M := [blk g T _]) (by repeat (first | exact Sel.nil | (apply Sel.cons; · (repeat (first | exact Pick.here | apply Pick.there)))))
        refine ⟨F', stars_pure_mk (Nat.zero_le _) ?_, hst'⟩
        show stars [blk g T (fnc W32 8 (pfx (v.add V).get v.get 0) ++ tl)] w' F'
        rw [pfx_zero]
        exact hF'
      · intro k u
        refine gc_pureR (fun hk => ?_)
        replace hk : k ≤ 8 := hk
        refine gsr ?_
        refine gp zlt ?_
        refine gnt ?_
        refine gc_seq ?_
        refine gif rfl (fun hc129 => ?_) (fun hc129 => ?_)
        · have hk' : k < 8 := by (try simp only at hc129); omega
          refine gc_skip ?_
          refine gx_then ?_
          refine gc_seq ?_
          refine gc_block ?_
          refine gsr ?_
          refine gp zmv ?_
          refine gp (r_index1 (cs := fnc W32 8 V.get) (v := W32 (V.get k)) rfl rfl Ty.arr_118 Ty.sz_117 Ty.row_117 (by omega) (by omega) (by rw [show (k : Int).toNat * 1 = k by omega]; exact fnc_get hk')) ?_
          refine gp zas ?_
          refine gp zas ?_
          refine gnt ?_
          refine gc_regionT 9 (by kernel_rfl) (by kernel_rfl) ?_
          refine sp zmv ?_
          refine sp zmv ?_
          refine sp znc ?_
          refine sp (r_indexAddr_arr rfl rfl Ty.arr_119 Ty.sz_117 (by omega) (by omega)) ?_
          refine sp (r_ld1 (v := W32 (v.get k)) rfl Ty.row_117 (by repeat (first | exact Pick.here | apply Pick.there)) (get_left (pfx_get2 (by omega) (by omega) (by omega)))) ?_
          refine sp zmv ?_
          refine sp zwa ?_
          refine sp znc ?_
          refine sp (r_indexAddr_arr rfl rfl Ty.arr_119 Ty.sz_117 (by omega) (by omega)) ?_
          refine gs_nil ?_
          refine gl_store1 (wt0 rfl) rfl rfl rfl Ty.sz_117 (by repeat (first | exact Pick.here | apply Pick.there)) (by rw [List.length_append, fnc_length]; omega) ((updL_left (by rw [fnc_length]; simp; omega)).trans (congrArg (· ++ tl) (pfx_set (k := k) (by omega) (by omega) (congrArg W32 (V8.add_get _ _ _).symm)))) ?_
          refine gl_nil ?_
          refine gx_block_normal ?_
          refine gx_then ?_
          refine gc_region ?_
          refine gp zad ?_
          refine gp zmv ?_
          refine gl_nil ?_
          refine zrd (k + 1) ?_ ?_
          · show 8 - (k + 1) < 8 - k
            omega
          · rintro w' hw
            obtain ⟨F', hF', hst'⟩ := hw.sel (M := [blk g T _]) (by repeat (first | exact Sel.nil | (apply Sel.cons; · (repeat (first | exact Pick.here | apply Pick.there)))))
            exact ⟨F', stars_pure_mk (show k + 1 ≤ 8 by omega) hF', hst'⟩
        · have hk' : k = 8 := by (try simp only at hc129); omega
          subst hk'
          refine gc_exit ?_
          refine gx_then_exit ?_
          refine gx_round_exit ?_
          refine gx_block_hit ?_
          refine gx_ret0' rfl ?_
          have e : v8c (take64 Kc v b) = fnc W32 8 (pfx (v.add V).get v.get 8) := by rw [pfx_full, ← hV]; rfl
          rw [e]
          exact ze ()

end Go.Proofs.YtheonhgffglegaaDoor

/- Walks, by program (wg.py) out of a spec. -/
namespace Go.Proofs.YtheonhgffglegaaDoor
open Go
set_option linter.unusedVariables false
set_option linter.unusedSimpArgs false


def HashR (g : Nat) (s : HS) : Res := exR fun p : Option Addr × Nat => allR [blk g 123 (v8c s.v ++ [.slice p.1 s.rest.length p.2, .int .u64 (s.len : Int)]), rowR 5 1 p.1 s.rest.length p.2 (s.rest.map B8)]
theorem h_open {g : Nat} {s : HS} {L : List Res} {w : World} {F : Nat → Prop} (h : stars (HashR g s :: L) w F) :
    ∃ a c, stars (blk g 123 (v8c s.v ++ [.slice a s.rest.length c, .int .u64 (s.len : Int)]) :: rowR 5 1 a s.rest.length c (s.rest.map B8) :: L) w F := by
  obtain ⟨⟨a, c⟩, h⟩ := stars_ex h
  exact ⟨a, c, stars_all h⟩
theorem St.hash {w0 w : World} {F0 : Nat → Prop} {g m c : Nat} {a : Option Addr} {v : V8} {l : Nat} {s : HS} {L : List Res} {xs : List Value}
    (h : St w0 F0 (blk g 123 (v8c v ++ [.slice a m c, .int .u64 (l : Int)]) :: rowR 5 1 a m c xs :: L) w) (hv : v = s.v) (hr : xs = s.rest.map B8) (hm : m = s.rest.length) (hl : l = s.len) : St w0 F0 (HashR g s :: L) w := by
  subst hv; subst hr; subst hl; subst hm
  obtain ⟨F, hF, hst⟩ := h
  exact ⟨F, stars_ex_mk (a, c) (stars_all_mk hF), hst⟩
theorem h_new {w0 w : World} {F0 : Nat → Prop} {g : Nat} (h : St w0 F0 [blk g 123 (v8c v0 ++ [.slice none 0 0, .int .u64 0])] w) : St w0 F0 [HashR g hs0] w := by
  obtain ⟨F, hF, hst⟩ := h
  have h1 : St w0 F0 [rowR 5 1 none 0 0 [], blk g 123 (v8c v0 ++ [.slice none 0 0, .int .u64 0])] w := ⟨F, stars_row_nil hF, hst⟩
  exact St.hash (l := 0) (h1.sel (M := [blk g 123 (v8c v0 ++ [.slice none 0 0, .int .u64 ((0 : Nat) : Int)]), rowR 5 1 none 0 0 []]) (by repeat (first | exact Sel.nil | (apply Sel.cons; · (repeat (first | exact Pick.here | apply Pick.there)))))) rfl rfl rfl rfl

attribute [local irreducible] Gl Gc Gx Gs Runs Wt

set_option maxHeartbeats 400000 in
theorem begin_ok {w : World} {F : Nat → Prop} (h : stars [] w F) :
    Calls Tryd.prog 59 #[] w (Post w F (fun _ : Unit => .agg (v8c v0).toArray) (fun _ => [])) := by
  refine g_enter (env := []) Tryd.func59 rfl h Tryd.ntmps59 rfl rfl ?_
  refine gsr ?_
  refine zal fun b0 => ?_
  refine gnt ?_
  refine gsr ?_
  refine gp zba ?_
  refine zsN ?_
  refine gnt ?_
  refine gc_ret ?_
  refine gx_retc rfl rfl (ld_aggS Ty.row_119 Ty.sz_119 (by repeat (first | exact Pick.here | apply Pick.there)) (by (simp only [List.drop_succ_cons, List.drop_zero, List.take_succ_cons, List.take_zero, List.cons_append, List.nil_append, List.append_assoc, drop_dc, drop_dc', take_dc, take_dc', drop_L, drop_L', take_L, take_L', len_L, Nat.reduceLeDiff, Nat.reduceSub, Nat.reduceAdd, Nat.le_refl, List.length_cons, List.length_append, List.length_nil, dc_length, List.drop_nil, List.take_nil, List.append_nil, List.length_map, List.length_replicate]; first | done | rfl)) (by first | rfl | (simp only [List.drop_succ_cons, List.drop_zero, List.take_succ_cons, List.take_zero, List.cons_append, List.nil_append, List.append_assoc, drop_dc, drop_dc', take_dc, take_dc', drop_L, drop_L', take_L, take_L', len_L, Nat.reduceLeDiff, Nat.reduceSub, Nat.reduceAdd, Nat.le_refl, List.length_cons, List.length_append, List.length_nil, dc_length, List.drop_nil, List.take_nil, List.append_nil, List.length_map, List.length_replicate]; first | done | omega))) ?_
  exact fun w' hw => ⟨(), congrArg (fun l : List Value => Ending.returned (.agg l.toArray)) (by kernel_rfl), hw.sel (by repeat (first | exact Sel.nil | (apply Sel.cons; · (repeat (first | exact Pick.here | apply Pick.there)))))⟩

set_option maxHeartbeats 400000 in
theorem hnew_ok {w : World} {F : Nat → Prop} (h : stars [] w F) :
    Calls Tryd.prog 35 #[] w (Post w F (fun g : Nat => .pointer (some ⟨g, 0, none⟩)) (fun g => [HashR g hs0])) := by
  refine g_enter (env := []) Tryd.func35 rfl h Tryd.ntmps35 rfl rfl ?_
  refine gsr ?_
  refine gp zas ?_
  refine gnt ?_
  refine gsr ?_
  refine zc (fun _ => ?_) (c := fun w1 F1 F2 h1 h2 hd hst => begin_ok h1)
  refine gp zbu ?_
  refine zbN fun b3 => ?_
  refine gp zas ?_
  refine gnt ?_
  refine gc_ret ?_
  refine gx_ret1 rfl (by conv => lhs; whnf) ?_
  exact fun w' hw => ⟨b3, rfl, h_new (hw.sel (by repeat (first | exact Sel.nil | (apply Sel.cons; · (repeat (first | exact Pick.here | apply Pick.there))))))⟩

set_option maxHeartbeats 400000 in
theorem hwrite_ok {w : World} {F : Nat → Prop} {g : Nat} {s : HS} {b : List UInt8} {a : Option Addr} {n c : Nat} (h : stars [HashR g s] w F) (hK : KR w (fun k => ¬ F k)) (hx : RdRow w (fun k => ¬ F k) 1 a n (b.map B8)) (hr : s.rest.length < 64) (hb : s.len + b.length ≤ 1099511627776) :
    Calls Tryd.prog 36 #[.pointer (some ⟨g, 0, none⟩), .slice a n c] w (Post w F (fun _ : Unit => .tuple #[]) (fun _ => [HashR g (hWrite Kc s b)])) := by
  obtain ⟨a0, c0, h'⟩ := h_open h
  have hnb : n = b.length := by have := hx.1; simp at this; omega
  refine g_enter (env := [(0, .pointer (some ⟨g, 0, none⟩)), (1, .slice a n c)]) Tryd.func36 rfl h' Tryd.ntmps36 rfl rfl ?_
  refine gsr ?_
  refine gp zmv ?_
  refine gp znc ?_
  refine gp zfa ?_
  refine gp zl ?_
  refine gp zmv ?_
  refine gp zln ?_
  refine gp (r_int (r_conv_int rfl Ty.un_3 Ty.un_121) (wrap_u64 (by omega) (by omega))) ?_
  refine gp (r_int (r_arith (op := .add) rfl rfl (wrap_u64 (by omega) (by omega))) (show (s.len : Int) + (n : Int) = ((s.len + b.length : Nat) : Int) by omega)) ?_
  refine gp znc ?_
  refine gp zfa ?_
  refine zs1 ?_
  refine gnt ?_
  refine gsr ?_
  refine gp zmv ?_
  refine gp zmv ?_
  refine gp znc ?_
  refine gp zfa ?_
  refine gp zl ?_
  refine gp zmv ?_
  refine gl_append (wt0 rfl) rfl rfl (by repeat (first | exact Pick.here | apply Pick.there)) Ty.el_53 (fun w' hw => hw.rdOld hx) (one_B8 _) (by simp only [maxLen]; omega) (by omega) ?_
  intro a1 c1
  refine gp znc ?_
  refine gp zfa ?_
  refine zs1 ?_
  refine gnt ?_
  refine gc_block ?_
  refine gc_loop (α := V8 × List UInt8 × Option Addr × Nat) (fun x => [pureR (takes Kc x.1 x.2.1 = takes Kc s.v (s.rest ++ b) ∧ x.2.1.length ≤ 1099511627840), blk g 123 (v8c x.1 ++ [.slice x.2.2.1 x.2.1.length x.2.2.2, .int .u64 ((s.len + b.length : Nat) : Int)]), rowR 5 1 x.2.2.1 x.2.1.length x.2.2.2 (x.2.1.map B8)]) (fun x => []) [23, 24, 25, 26, 27, 28, 29, 30, 31, 32, 33, 34, 35, 36, 37, 38, 39, 40, 41, 42, 43, 44, 45] (fun x => x.2.1.length) (s.v, s.rest ++ b, a1, c1) ?_ ?_ ?_
  · refine env_start (by kernel_rfl)
  · rintro w' hw
    obtain ⟨F', hF', hst'⟩ := hw.sel (M := [blk g 123 _, rowR 5 1 a1 _ c1 _]) (by repeat (first | exact Sel.nil | (apply Sel.cons; · (repeat (first | exact Pick.here | apply Pick.there)))))
    refine ⟨F', stars_pure_mk ⟨rfl, by simp; omega⟩ ?_, hst'⟩
    show stars [blk g 123 (v8c s.v ++ [.slice a1 (s.rest ++ b).length c1, .int .u64 ((s.len + b.length : Nat) : Int)]), rowR 5 1 a1 (s.rest ++ b).length c1 ((s.rest ++ b).map B8)] w' F'
    rw [List.length_append, List.map_append]
    rw [hnb] at hF'
    exact hF'
  · intro x u
    obtain ⟨v, r, a1, c1⟩ := x
    refine gc_pureR (fun hk => ?_)
    replace hk : takes Kc v r = takes Kc s.v (s.rest ++ b) ∧ r.length ≤ 1099511627840 := hk
    refine gc_fact (p := r.length ≤ c1) (fun w hw => (hw.rowLe (e := 5) (size := 1) (a := a1) (m := r.length) (c := c1) (xs := r.map B8) (by repeat (first | exact Pick.here | apply Pick.there))).1) (fun hc1 => ?_)
    refine gc_seq ?_
    refine gsr ?_
    refine gp zmv ?_
    refine gp znc ?_
    refine gp zfa ?_
    refine gp zl ?_
    refine gp zln ?_
    refine gp zge ?_
    refine gnt ?_
    refine gif rfl (fun hc28 => ?_) (fun hc28 => ?_)
    · have hk' : 64 ≤ r.length := by (try simp only at hc28); omega
      refine gc_skip ?_
      refine gx_then ?_
      refine gc_block ?_
      refine gc_seq ?_
      refine gc_regionT 8 (by kernel_rfl) (by kernel_rfl) ?_
      refine sp zmv ?_
      refine sp znc ?_
      refine sp zfa ?_
      refine sp zmv ?_
      refine sp znc ?_
      refine sp zfa ?_
      refine sp zl ?_
      refine sp (r_slice_slice (a := a1) (m := r.length) (c := c1) (l := 0) (h := 64) rfl Ty.sl_53 Ty.sz_5 rfl ⟨_, rfl⟩ (by omega) (by omega)) ?_
      refine gs_nil ?_
      refine zc (fun _ => ?_) (c := fun w1 F1 F2 h1 h2 hd hst => take_ok (tl := [.slice a1 r.length c1, .int .u64 ((s.len + b.length : Nat) : Int)]) h1 (hK.mv hst.still) ((rd_row h2 hd (by repeat (first | exact Pick.here | apply Pick.there))).cut8 (l := 0) (h := 64) (by omega) hk' hc1))
      refine gnt ?_
      refine gc_region ?_
      refine gp zmv ?_
      refine gp zmv ?_
      refine gp znc ?_
      refine gp zfa ?_
      refine gp zl ?_
      refine gp (r_slice_slice (a := a1) (m := r.length) (c := c1) (l := 64) (h := r.length) rfl Ty.sl_53 Ty.sz_5 ⟨_, rfl⟩ rfl (by omega) (by omega)) ?_
      refine gp znc ?_
      refine gp zfa ?_
      refine zs1 ?_
      refine gl_nil ?_
      refine gx_block_normal ?_
      refine zrd ((take64 Kc v (r.take 64), r.drop 64, (if c1 = 64 then a1 else a1.map (·.add (64 * 1))), c1 - 64)) ?_ ?_
      · show (r.drop 64).length < r.length
        rw [List.length_drop]
        omega
      · rintro w' hw
        obtain ⟨F', hF', hst'⟩ := hw.sel (M := [rowR 5 1 a1 r.length c1 (r.map B8), blk g 123 _]) (by repeat (first | exact Sel.nil | (apply Sel.cons; · (repeat (first | exact Pick.here | apply Pick.there)))))
        have h2 : St w F [rowR 5 1 (if c1 = 64 then a1 else a1.map (·.add (64 * 1))) (r.length - 64) (c1 - 64) ((r.drop 64).map B8), blk g 123 _] w' := ⟨F', stars_tail8 (by omega) hF', hst'⟩
        obtain ⟨F2, hF2, hst2⟩ := h2.sel (M := [blk g 123 _, rowR 5 1 _ _ _ ((r.drop 64).map B8)]) (by repeat (first | exact Sel.nil | (apply Sel.cons; · (repeat (first | exact Pick.here | apply Pick.there)))))
        refine ⟨F2, stars_pure_mk ⟨?_, ?_⟩ ?_, hst2⟩
        · rw [← hk.1, takes.eq_1 Kc v r, dif_pos (by omega)]
        · show (r.drop 64).length ≤ _; rw [List.length_drop]; omega
        · show stars [blk g 123 (v8c (take64 Kc v (r.take 64)) ++ [.slice (if c1 = 64 then a1 else a1.map (·.add (64 * 1))) (r.drop 64).length (c1 - 64), .int .u64 ((s.len + b.length : Nat) : Int)]), rowR 5 1 (if c1 = 64 then a1 else a1.map (·.add (64 * 1))) (r.drop 64).length (c1 - 64) ((r.drop 64).map B8)] w' F2
          rw [List.length_drop]; exact hF2
    · have hk' : ¬ 64 ≤ r.length := by (try simp only at hc28); omega
      refine gc_exit ?_
      refine gx_then_exit ?_
      refine gx_round_exit ?_
      refine gx_block_hit ?_
      refine gx_ret0' rfl ?_
      have e : takes Kc s.v (s.rest ++ b) = (v, r) := by rw [← hk.1, takes.eq_1, dif_neg hk']
      exact fun w' hw => ⟨(), rfl, St.hash (s := hWrite Kc s b) (hw.sel (M := [blk g 123 _, rowR 5 1 a1 _ c1 _]) (by repeat (first | exact Sel.nil | (apply Sel.cons; · (repeat (first | exact Pick.here | apply Pick.there)))))) (by simp [hWrite, e]) (by simp [hWrite, e]) (by simp [hWrite, e]) rfl⟩

end Go.Proofs.YtheonhgffglegaaDoor

/- Walks, by program (wg.py) out of a spec. -/
namespace Go.Proofs.YtheonhgffglegaaDoor
open Go
set_option linter.unusedVariables false
set_option linter.unusedSimpArgs false


theorem padN_le (m : Nat) : padN m ≤ 63 := by unfold padN; omega
theorem pad_hit {m k : Nat} (h : k ≤ padN m) (hm : m < 64) : (m + 1 + k) % 64 = 56 ↔ k = padN m := by unfold padN at *; omega
theorem fnc_sum (v : V8) : fnc B8 32 (outByte v) = ((List.range 32).map (outByte v)).map B8 := by simp [fnc]
theorem padded_length (s : HS) : (padded s).length = s.rest.length + 1 + padN s.rest.length + 8 := by simp [padded, lenBytes]; omega
theorem takes_nil (K : Nat → UInt32) (v : V8) : takes K v [] = (v, []) := by rw [takes.eq_1, dif_neg (by simp)]
theorem rem_nat {m k : Nat} : Int.tmod (m : Int) (k : Int) = ((m % k : Nat) : Int) := by rw [Int.tmod_eq_emod_of_nonneg (by omega)]; rfl
theorem quo_nat {m k : Nat} : Int.tdiv (m : Int) (k : Int) = ((m / k : Nat) : Int) := by rw [Int.tdiv_eq_ediv_of_nonneg (by omega)]; rfl
def padRow (s : HS) (k : Nat) : List UInt8 := s.rest ++ 128 :: List.replicate k 0
def lenRow (s : HS) (k : Nat) : List UInt8 := s.rest ++ 128 :: (List.replicate (padN s.rest.length) 0 ++ (List.range k).map fun i => UInt8.ofNat (s.len * 8 / 2 ^ (8 * (7 - i))))
theorem padRow_succ (s : HS) (k : Nat) : (padRow s k).map B8 ++ [.int .u8 0] = (padRow s (k + 1)).map B8 := by
  have e : (.int .u8 0 : Value) = B8 0 := rfl
  rw [e]; simp [padRow, List.replicate_succ']
theorem lenRow_zero (s : HS) : lenRow s 0 = padRow s (padN s.rest.length) := by simp [lenRow, padRow]
theorem lenRow_succ (s : HS) (k : Nat) : (lenRow s k).map B8 ++ [B8 (UInt8.ofNat (s.len * 8 / 2 ^ (8 * (7 - k))))] = (lenRow s (k + 1)).map B8 := by simp [lenRow, List.range_succ]
attribute [local irreducible] Gl Gc Gx Gs Runs Wt

set_option maxHeartbeats 400000 in
theorem hsum_ok {w : World} {F : Nat → Prop} {g : Nat} {s : HS} (h : stars [HashR g s] w F) (hK : KR w (fun k => ¬ F k)) (hr : s.rest.length < 64) (hb : s.len ≤ 1099511627776) :
    Calls Tryd.prog 37 #[.pointer (some ⟨g, 0, none⟩)] w (Post w F (fun _ : Unit => .agg (fnc B8 32 (outByte (takes Kc s.v (padded s)).1)).toArray) (fun _ => [HashR g s])) := by
  obtain ⟨a0, c0, h'⟩ := h_open h
  refine g_enter (env := [(0, .pointer (some ⟨g, 0, none⟩))]) Tryd.func37 rfl h' Tryd.ntmps37 rfl rfl ?_
  refine gsr ?_
  refine zal fun b2 => ?_
  refine gnt ?_
  refine gsr ?_
  refine gp zmv ?_
  refine gp znc ?_
  refine gp zfa ?_
  refine gp zL ?_
  refine zal fun b3 => ?_
  refine gl_storeN (wt0 rfl) (cs' := v8c s.v ++ []) rfl rfl Ty.sz_119 (v8c_length _) (by repeat (first | exact Pick.here | apply Pick.there)) (by simp) (v8c_one _) ((updL_all (by simp [v8c_length])).trans (List.append_nil _).symm) ?_
  refine gnt ?_
  refine gsr ?_
  refine ze0 fun b12 => ?_
  refine gp zmv ?_
  refine gp znc ?_
  refine gp zfa ?_
  refine gp zl ?_
  refine gl_append (wt0 rfl) rfl rfl (by repeat (first | exact Pick.here | apply Pick.there)) Ty.el_53 (fun w' hw => hw.row (a := a0) (m := s.rest.length) (c := c0) (by repeat (first | exact Pick.here | apply Pick.there))) (one_B8 _) (by simp only [maxLen]; omega) (by omega) ?_
  intro a17 c17
  rw [show 0 + s.rest.length = s.rest.length from Nat.zero_add _]
  refine ze1 fun b18 => ?_
  refine gl_append (news := [.int .u8 128]) (wt0 rfl) rfl rfl (by repeat (first | exact Pick.here | apply Pick.there)) Ty.el_53 (fun w' hw => hw.row (m := 1) (xs := [.int .u8 128]) (by repeat (first | exact Pick.here | apply Pick.there))) (all_cons' rfl all_nil') (by simp only [maxLen]; omega) (by omega) ?_
  intro a19 c19
  refine gp zas ?_
  refine gnt ?_
  refine gc_seq ?_
  refine gc_block ?_
  refine gc_loop (α := Nat × Option Addr × Nat) (fun x => [pureR (x.1 ≤ padN s.rest.length), rowR 5 1 x.2.1 (s.rest.length + 1 + x.1) x.2.2 ((padRow s x.1).map B8), blk b3 119 (v8c s.v ++ []), blk b2 91 (List.replicate 32 (.int .u8 0)), blk g 123 (v8c s.v ++ [.slice a0 s.rest.length c0, .int .u64 (s.len : Int)]), rowR 5 1 a0 s.rest.length c0 (s.rest.map B8)]) (fun x => [(4, .slice x.2.1 (s.rest.length + 1 + x.1) x.2.2)]) [20, 21, 22, 23, 24, 25, 26] (fun x => padN s.rest.length - x.1) (0, a19, c19) ?_ ?_ ?_
  · refine env_start (by kernel_rfl)
  · rintro w' hw
    obtain ⟨F', hF', hst'⟩ := hw.sel (M := [rowR 5 1 a19 _ c19 _, blk b3 119 (v8c s.v ++ []), blk b2 91 (List.replicate 32 (.int .u8 0)), blk g 123 (v8c s.v ++ [.slice a0 s.rest.length c0, .int .u64 (s.len : Int)]), rowR 5 1 a0 s.rest.length c0 (s.rest.map B8)]) (by repeat (first | exact Sel.nil | (apply Sel.cons; · (repeat (first | exact Pick.here | apply Pick.there)))))
    refine ⟨F', stars_pure_mk (Nat.zero_le _) ?_, hst'⟩
    have e : ([] ++ s.rest.map B8 ++ [.int .u8 128] : List Value) = (padRow s 0).map B8 := by simp [padRow]
    rw [e] at hF'
    exact hF'
  · intro x u
    obtain ⟨k, a4, c4⟩ := x
    refine gc_pureR (fun hk => ?_)
    replace hk : k ≤ padN s.rest.length := hk
    have hp63 := padN_le s.rest.length
    refine gc_seq ?_
    refine gsr ?_
    refine gp zmv ?_
    refine gp zln ?_
    refine gp (r_int (r_rem rfl rfl (by decide)) (rem_nat (m := s.rest.length + 1 + k) (k := 64))) ?_
    refine gp zni ?_
    refine gnt ?_
    refine gif rfl (fun hc23 => ?_) (fun hc23 => ?_)
    · have hk' : k < padN s.rest.length := by have := pad_hit hk hr; (try simp only at hc23); omega
      refine gc_skip ?_
      refine gx_then ?_
      refine gc_block ?_
      refine gc_region ?_
      refine gp zmv ?_
      refine ze1 fun b25 => ?_
      refine gl_append (news := [.int .u8 0]) (a := a4) (m := s.rest.length + 1 + k) (c := c4) (wt0 rfl) rfl rfl (by repeat (first | exact Pick.here | apply Pick.there)) Ty.el_53 (fun w' hw => hw.row (m := 1) (xs := [.int .u8 0]) (by repeat (first | exact Pick.here | apply Pick.there))) (all_cons' rfl all_nil') (by simp only [maxLen]; omega) (by omega) ?_
      intro a26 c26
      refine gp zas ?_
      refine gl_nil ?_
      refine gx_block_normal ?_
      refine zrd ((k + 1, a26, c26)) ?_ ?_
      · show padN s.rest.length - (k + 1) < padN s.rest.length - k
        omega
      · rintro w' hw
        obtain ⟨F', hF', hst'⟩ := hw.sel (M := [rowR 5 1 a26 _ c26 _, blk b3 119 (v8c s.v ++ []), blk b2 91 (List.replicate 32 (.int .u8 0)), blk g 123 (v8c s.v ++ [.slice a0 s.rest.length c0, .int .u64 (s.len : Int)]), rowR 5 1 a0 s.rest.length c0 (s.rest.map B8)]) (by repeat (first | exact Sel.nil | (apply Sel.cons; · (repeat (first | exact Pick.here | apply Pick.there)))))
        refine ⟨F', stars_pure_mk (show k + 1 ≤ _ by omega) ?_, hst'⟩
        rw [padRow_succ] at hF'
        exact hF'
    · have hk' : k = padN s.rest.length := by have := pad_hit hk hr; (try simp only at hc23); omega
      subst hk'
      refine gc_exit ?_
      refine gx_then_exit ?_
      refine gx_round_exit ?_
      refine gx_block_hit ?_
      refine gx_then ?_
      refine gc_seq ?_
      refine gsr ?_
      refine gp zas ?_
      refine gnt ?_
      refine gc_block ?_
      refine gc_loop (α := Nat × Option Addr × Nat) (fun x => [pureR (x.1 ≤ 8), rowR 5 1 x.2.1 (s.rest.length + 1 + padN s.rest.length + x.1) x.2.2 ((lenRow s x.1).map B8), blk b3 119 (v8c s.v ++ []), blk b2 91 (List.replicate 32 (.int .u8 0)), blk g 123 (v8c s.v ++ [.slice a0 s.rest.length c0, .int .u64 (s.len : Int)]), rowR 5 1 a0 s.rest.length c0 (s.rest.map B8)]) (fun x => [(4, .slice x.2.1 (s.rest.length + 1 + padN s.rest.length + x.1) x.2.2), (5, .int .i64 (7 - (x.1 : Int)))]) [27, 28, 29, 30, 31, 32, 33, 34, 35, 36, 37, 38, 39, 40, 41, 42] (fun x => 8 - x.1) (0, a4, c4) ?_ ?_ ?_
      · refine env_start (by kernel_rfl)
      · rintro w' hw
        obtain ⟨F', hF', hst'⟩ := hw.sel (M := [rowR 5 1 a4 _ c4 _, blk b3 119 (v8c s.v ++ []), blk b2 91 (List.replicate 32 (.int .u8 0)), blk g 123 (v8c s.v ++ [.slice a0 s.rest.length c0, .int .u64 (s.len : Int)]), rowR 5 1 a0 s.rest.length c0 (s.rest.map B8)]) (by repeat (first | exact Sel.nil | (apply Sel.cons; · (repeat (first | exact Pick.here | apply Pick.there)))))
        refine ⟨F', stars_pure_mk (Nat.zero_le _) ?_, hst'⟩
        rw [← lenRow_zero] at hF'
        exact hF'
      · intro x u
        obtain ⟨k, a5, c5⟩ := x
        refine gc_pureR (fun hk => ?_)
        replace hk : k ≤ 8 := hk
        refine gc_seq ?_
        refine gsr ?_
        refine gp zmv ?_
        refine gp zge ?_
        refine gnt ?_
        refine gif rfl (fun hc28 => ?_) (fun hc28 => ?_)
        · have hk' : k < 8 := by (try simp only at hc28); omega
          refine gc_skip ?_
          refine gx_then ?_
          refine gc_seq ?_
          refine gc_block ?_
          refine gc_region ?_
          refine gp zmv ?_
          refine gp zmv ?_
          refine gp znc ?_
          refine gp zfa ?_
          refine gp zl ?_
          refine gp (r_int (r_arith (op := .mul) rfl rfl (wrap_u64 (by omega) (by omega))) (show (s.len : Int) * 8 = ((s.len * 8 : Nat) : Int) by omega)) ?_
          refine gp zmv ?_
          refine gp zml ?_
          refine gp zhr ?_
          refine gp (r_val (r_conv_int rfl Ty.un_121 Ty.un_5) (byte_shrU (j := 7 - k) (by omega) (by omega))) ?_
          refine ze1 fun b41 => ?_
          refine gl_append (news := [B8 (UInt8.ofNat (s.len * 8 / 2 ^ (8 * (7 - k))))]) (a := a5) (m := s.rest.length + 1 + padN s.rest.length + k) (c := c5) (wt0 rfl) rfl rfl (by repeat (first | exact Pick.here | apply Pick.there)) Ty.el_53 (fun w' hw => hw.row (m := 1) (xs := [B8 (UInt8.ofNat (s.len * 8 / 2 ^ (8 * (7 - k))))]) (by repeat (first | exact Pick.here | apply Pick.there))) (all_cons' rfl all_nil') (by simp only [maxLen]; omega) (by omega) ?_
          intro a42 c42
          refine gp zas ?_
          refine gl_nil ?_
          refine gx_block_normal ?_
          refine gx_then ?_
          refine gc_region ?_
          refine gp zmv ?_
          refine gp (r_int (r_arith (op := .sub) rfl rfl (wrap_i64 (by omega) (by omega))) (show 7 - (k : Int) - 1 = 7 - ((k + 1 : Nat) : Int) by omega)) ?_
          refine gp zas ?_
          refine gl_nil ?_
          refine zrd ((k + 1, a42, c42)) ?_ ?_
          · show 8 - (k + 1) < 8 - k
            omega
          · rintro w' hw
            obtain ⟨F', hF', hst'⟩ := hw.sel (M := [rowR 5 1 a42 _ c42 _, blk b3 119 (v8c s.v ++ []), blk b2 91 (List.replicate 32 (.int .u8 0)), blk g 123 (v8c s.v ++ [.slice a0 s.rest.length c0, .int .u64 (s.len : Int)]), rowR 5 1 a0 s.rest.length c0 (s.rest.map B8)]) (by repeat (first | exact Sel.nil | (apply Sel.cons; · (repeat (first | exact Pick.here | apply Pick.there)))))
            refine ⟨F', stars_pure_mk (show k + 1 ≤ _ by omega) ?_, hst'⟩
            rw [lenRow_succ] at hF'
            exact hF'
        · have hk' : k = 8 := by (try simp only at hc28); omega
          subst hk'
          refine gc_exit ?_
          refine gx_then_exit ?_
          refine gx_round_exit ?_
          refine gx_block_hit ?_
          refine gx_then ?_
          refine gc_seq ?_
          refine gc_block ?_
          have hpl := padded_length s
          refine gc_loop (α := V8 × List UInt8 × Option Addr × Nat × Nat) (fun x => [pureR (takes Kc x.1 x.2.1 = takes Kc s.v (padded s) ∧ x.2.1.length % 64 = 0 ∧ x.2.1.length ≤ 256 ∧ x.2.2.2.1 = x.2.1.length), rowR 5 1 x.2.2.1 x.2.2.2.1 x.2.2.2.2 (x.2.1.map B8), blk b3 119 (v8c x.1 ++ []), blk b2 91 (List.replicate 32 (.int .u8 0)), blk g 123 (v8c s.v ++ [.slice a0 s.rest.length c0, .int .u64 (s.len : Int)]), rowR 5 1 a0 s.rest.length c0 (s.rest.map B8)]) (fun x => [(4, .slice x.2.2.1 x.2.2.2.1 x.2.2.2.2)]) [43, 44, 45, 46, 47, 48, 49, 50] (fun x => x.2.1.length) (s.v, padded s, a5, s.rest.length + 1 + padN s.rest.length + 8, c5) ?_ ?_ ?_
          · refine env_start (by kernel_rfl)
          · rintro w' hw
            obtain ⟨F', hF', hst'⟩ := hw.sel (M := [rowR 5 1 a5 _ c5 _, blk b3 119 (v8c s.v ++ []), blk b2 91 (List.replicate 32 (.int .u8 0)), blk g 123 (v8c s.v ++ [.slice a0 s.rest.length c0, .int .u64 (s.len : Int)]), rowR 5 1 a0 s.rest.length c0 (s.rest.map B8)]) (by repeat (first | exact Sel.nil | (apply Sel.cons; · (repeat (first | exact Pick.here | apply Pick.there)))))
            refine ⟨F', stars_pure_mk ⟨rfl, ?_, ?_, hpl.symm⟩ ?_, hst'⟩
            · show (padded s).length % 64 = 0
              have := (pad_hit (Nat.le_refl _) hr).2 rfl
              omega
            · show (padded s).length ≤ 256; omega
            · exact hF'
          · intro x u
            obtain ⟨v, r, a6, n6, c6⟩ := x
            refine gc_pureR (fun hk => ?_)
            replace hk : takes Kc v r = takes Kc s.v (padded s) ∧ r.length % 64 = 0 ∧ r.length ≤ 256 ∧ n6 = r.length := hk
            obtain ⟨hk, hk64, hk256, rfl⟩ := hk
            refine gc_fact (p := r.length ≤ c6) (fun w hw => (hw.rowLe (e := 5) (size := 1) (a := a6) (m := r.length) (c := c6) (xs := r.map B8) (by repeat (first | exact Pick.here | apply Pick.there))).1) (fun hc6 => ?_)
            refine gc_seq ?_
            refine gsr ?_
            refine gp zmv ?_
            refine gp zln ?_
            refine gp zgt ?_
            refine gnt ?_
            refine gif rfl (fun hc45 => ?_) (fun hc45 => ?_)
            · have hk' : 64 ≤ r.length := by (try simp only at hc45); omega
              refine gc_skip ?_
              refine gx_then ?_
              refine gc_block ?_
              refine gsr ?_
              refine gp zmv ?_
              refine gp (r_slice_slice (a := a6) (m := r.length) (c := c6) (l := 0) (h := 64) rfl Ty.sl_53 Ty.sz_5 rfl ⟨_, rfl⟩ (by omega) (by omega)) ?_
              refine zc (fun _ => ?_) (c := fun w1 F1 F2 h1 h2 hd hst => take_ok (tl := []) h1 (hK.mv hst.still) ((rd_row (a := a6) (n := r.length) (c := c6) (xs := r.map B8) h2 hd (by repeat (first | exact Pick.here | apply Pick.there))).cut8 (l := 0) (h := 64) (by omega) hk' hc6))
              refine gnt ?_
              refine gc_region ?_
              refine gp zmv ?_
              refine gp (r_slice_slice (a := a6) (m := r.length) (c := c6) (l := 64) (h := r.length) rfl Ty.sl_53 Ty.sz_5 ⟨_, rfl⟩ rfl (by omega) (by omega)) ?_
              refine gp zas ?_
              refine gl_nil ?_
              refine gx_block_normal ?_
              have hdl : (r.drop 64).length = r.length - 64 := List.length_drop
              refine zrd ((take64 Kc v (r.take 64), r.drop 64, (if c6 = 64 then a6 else a6.map (·.add (64 * 1))), r.length - 64, c6 - 64)) ?_ ?_
              · show (r.drop 64).length < r.length
                omega
              · rintro w' hw
                obtain ⟨F', hF', hst'⟩ := hw.sel (M := [rowR 5 1 a6 r.length c6 (r.map B8), blk b3 119 (v8c (take64 Kc v (r.take 64)) ++ []), blk b2 91 (List.replicate 32 (.int .u8 0)), blk g 123 (v8c s.v ++ [.slice a0 s.rest.length c0, .int .u64 (s.len : Int)]), rowR 5 1 a0 s.rest.length c0 (s.rest.map B8)]) (by repeat (first | exact Sel.nil | (apply Sel.cons; · (repeat (first | exact Pick.here | apply Pick.there)))))
                refine ⟨F', stars_pure_mk ⟨?_, ?_, ?_, hdl.symm⟩ ?_, hst'⟩
                · rw [← hk, takes.eq_1 Kc v r, dif_pos (by omega)]
                · show (r.drop 64).length % 64 = 0; omega
                · show (r.drop 64).length ≤ 256; omega
                · have := stars_tail8 (l := 64) (by omega) hF'
                  exact this
            · have hk' : r = [] := by (try simp only at hc45); exact List.eq_nil_of_length_eq_zero (by omega)
              have hV : (takes Kc s.v (padded s)).1 = v := by rw [← hk, hk', takes_nil]
              rw [hV]
              refine gc_exit ?_
              refine gx_then_exit ?_
              refine gx_round_exit ?_
              refine gx_block_hit ?_
              refine gx_then ?_
              refine gsr ?_
              refine zal fun b6 => ?_
              refine gnt ?_
              refine gc_seq ?_
              refine gsr ?_
              refine gp zmv ?_
              refine gnt ?_
              refine gc_block ?_
              refine gc_loop (α := Nat) (fun k => [pureR (k ≤ 32), blk b6 91 (fnc B8 32 (pfx (outByte v) (fun _ => 0) k)), blk b3 119 (v8c v ++ []), blk b2 91 (List.replicate 32 (.int .u8 0)), blk g 123 (v8c s.v ++ [.slice a0 s.rest.length c0, .int .u64 (s.len : Int)]), rowR 5 1 a0 s.rest.length c0 (s.rest.map B8)]) (fun k => [(51, .int .i64 (k : Int))]) [7, 52, 53, 54, 55, 56, 57, 58, 59, 60, 61, 62, 63, 64, 65, 66] (fun k => 32 - k) 0 ?_ ?_ ?_
              · refine env_start (by kernel_rfl)
              · rintro w' hw
                obtain ⟨F', hF', hst'⟩ := hw.sel (M := [blk b6 91 _, blk b3 119 (v8c v ++ []), blk b2 91 (List.replicate 32 (.int .u8 0)), blk g 123 (v8c s.v ++ [.slice a0 s.rest.length c0, .int .u64 (s.len : Int)]), rowR 5 1 a0 s.rest.length c0 (s.rest.map B8)]) (by repeat (first | exact Sel.nil | (apply Sel.cons; · (repeat (first | exact Pick.here | apply Pick.there)))))
                refine ⟨F', stars_pure_mk (Nat.zero_le _) ?_, hst'⟩
                rw [pfx_zero, fnc_const]
                exact hF'
              · intro k u
                refine gc_pureR (fun hk2 => ?_)
                replace hk2 : k ≤ 32 := hk2
                refine gsr ?_
                refine gp zlt ?_
                refine gnt ?_
                refine gc_seq ?_
                refine gif rfl (fun hc52 => ?_) (fun hc52 => ?_)
                · have hk3 : k < 32 := by (try simp only at hc52); omega
                  refine gc_skip ?_
                  refine gx_then ?_
                  refine gc_seq ?_
                  refine gc_block ?_
                  refine gsr ?_
                  refine gp zmv ?_
                  refine gp zas ?_
                  refine gnt ?_
                  refine gc_region ?_
                  refine gp zmv ?_
                  refine gp zmv ?_
                  refine gp (r_int (r_val (r_quo rfl rfl (by decide)) (congrArg (Value.int .i64) ((congrArg IntKind.i64.wrap (quo_nat (m := k) (k := 4))).trans (wrap_i64 (by omega) (by omega))))) rfl) ?_
                  refine gp (r_indexAddr_arr rfl rfl Ty.arr_119 Ty.sz_117 (by omega) (by omega)) ?_
                  refine gp (r_ld1 (v := W32 (v.get (k / 4))) rfl Ty.row_117 (by repeat (first | exact Pick.here | apply Pick.there)) (by rw [show 0 + ((k / 4 : Nat) : Int).toNat * 1 = k / 4 by omega]; exact get_left (fnc_get (V := W32) (m := 8) (f := v.get) (by omega)))) ?_
                  refine gp zmv ?_
                  refine gp (r_int (r_rem rfl rfl (by decide)) (rem_nat (m := k) (k := 4))) ?_
                  refine gp zml ?_
                  refine gp zsb ?_
                  refine gp (r_shrw (j := 24 - 8 * (k % 4)) rfl rfl (by omega) (by omega)) ?_
                  refine gp (r_convw8 rfl Ty.un_117 Ty.un_5) ?_
                  refine gp (r_indexAddr_arr rfl rfl Ty.arr_91 Ty.sz_5 (by omega) (by omega)) ?_
                  refine gl_store1 (wt0 rfl) rfl rfl rfl Ty.sz_5 (by repeat (first | exact Pick.here | apply Pick.there)) (by rw [fnc_length]; omega) (pfx_set (k := k) (by omega) (by omega) rfl) ?_
                  refine gl_nil ?_
                  refine gx_block_normal ?_
                  refine gx_then ?_
                  refine gc_region ?_
                  refine gp zad ?_
                  refine gp zmv ?_
                  refine gl_nil ?_
                  refine zrd (k + 1) ?_ ?_
                  · show 32 - (k + 1) < 32 - k
                    omega
                  · rintro w' hw
                    obtain ⟨F', hF', hst'⟩ := hw.sel (M := [blk b6 91 _, blk b3 119 (v8c v ++ []), blk b2 91 (List.replicate 32 (.int .u8 0)), blk g 123 (v8c s.v ++ [.slice a0 s.rest.length c0, .int .u64 (s.len : Int)]), rowR 5 1 a0 s.rest.length c0 (s.rest.map B8)]) (by repeat (first | exact Sel.nil | (apply Sel.cons; · (repeat (first | exact Pick.here | apply Pick.there)))))
                    exact ⟨F', stars_pure_mk (show k + 1 ≤ 32 by omega) hF', hst'⟩
                · have hk3 : k = 32 := by (try simp only at hc52); omega
                  subst hk3
                  refine gc_exit ?_
                  refine gx_then_exit ?_
                  refine gx_round_exit ?_
                  refine gx_block_hit ?_
                  refine gx_then ?_
                  refine gsr ?_
                  refine gp (r_ldN rfl Ty.row_91 Ty.sz_91 (by repeat (first | exact Pick.here | apply Pick.there)) (seg_all fnc_length) fnc_length) ?_
                  refine gl_storeN (wt0 rfl) rfl rfl Ty.sz_91 fnc_length (by repeat (first | exact Pick.here | apply Pick.there)) (by simp) (fnc_one fun _ => rfl) (updL_all (by simp [fnc_length])) ?_
                  refine gnt ?_
                  refine gc_ret ?_
                  refine gx_retc rfl rfl (ld_aggS Ty.row_91 Ty.sz_91 (by repeat (first | exact Pick.here | apply Pick.there)) (seg_all fnc_length) fnc_length) ?_
                  rw [pfx_full]
                  exact fun w' hw => ⟨(), rfl, St.hash (hw.sel (M := [blk g 123 (v8c s.v ++ [.slice a0 s.rest.length c0, .int .u64 (s.len : Int)]), rowR 5 1 a0 s.rest.length c0 (s.rest.map B8)]) (by repeat (first | exact Sel.nil | (apply Sel.cons; · (repeat (first | exact Pick.here | apply Pick.there)))))) rfl rfl rfl rfl⟩

end Go.Proofs.YtheonhgffglegaaDoor

/- Walks, by program (wg.py) out of a spec. -/
namespace Go.Proofs.YtheonhgffglegaaDoor
open Go
set_option linter.unusedVariables false
set_option linter.unusedSimpArgs false


def dOf (K : Nat → UInt32) (dom : Int) (parts : List (List UInt8)) : Dig := ⟨hOf K dom parts, hOf_length K dom parts⟩
def hStep (K : Nat → UInt32) (s : HS) (p : List UInt8) : HS := hWrite K (hWrite K s (part4 p.length)) p
def hBeg (K : Nat → UInt32) (dom : Int) : HS := hWrite K hs0 [UInt8.ofNat (dom % 256).toNat]
def pcost (l : List (List UInt8)) : Nat := (l.map fun p => p.length + 4).sum
theorem hWrite_rest (K : Nat → UInt32) (s : HS) (b : List UInt8) : (hWrite K s b).rest.length < 64 := takes_rest K s.v (s.rest ++ b)
theorem hWrite_len (K : Nat → UInt32) (s : HS) (b : List UInt8) : (hWrite K s b).len = s.len + b.length := rfl
theorem hFold (K : Nat → UInt32) : ∀ (l : List (List UInt8)) (s : HS), s.rest.length < 64 → (l.foldl (hStep K) s).rest.length < 64 ∧ (l.foldl (hStep K) s).len = s.len + pcost l
  | [], s, h => ⟨h, by simp [pcost]⟩
  | p :: l, s, h => by
    have := hFold K l (hStep K s p) (hWrite_rest _ _ _)
    refine ⟨this.1, ?_⟩
    rw [List.foldl_cons, this.2]
    simp only [hStep, hWrite_len, part4, pcost, List.map_cons, List.sum_cons, List.length_cons, List.length_nil]
    omega
theorem pcost_take {l : List (List UInt8)} {k : Nat} {p : List UInt8} (h : l[k]? = some p) : pcost (l.take k) + (p.length + 4) ≤ pcost l := by
  have e : l = l.take k ++ p :: l.drop (k + 1) := by
    have hk : k < l.length := (List.getElem?_eq_some_iff.1 h).1
    rw [← (List.getElem?_eq_some_iff.1 h).2, List.getElem_cons_drop, List.take_append_drop]
  have : pcost l = pcost (l.take k) + (p.length + 4) + pcost (l.drop (k + 1)) := by
    conv => lhs; rw [e]
    simp [pcost]; omega
  omega
theorem byte_nat {n : Nat} : Value.int .u8 (IntKind.u8.wrap (n : Int)) = B8 (UInt8.ofNat n) := by
  have h1 : ∀ m : Int, IntKind.u8.wrap m = m % 256 := fun m => by simp [IntKind.wrap, IntKind.bits, IntKind.signed]
  simp only [B8, Value.int.injEq, true_and]
  rw [h1, UInt8.toNat_ofNat']; omega
theorem hOf_cut (K : Nat → UInt32) (dom : Int) (parts : List (List UInt8)) : ((fnc B8 32 (outByte (takes K (parts.foldl (hStep K) (hBeg K dom)).v (padded (parts.foldl (hStep K) (hBeg K dom)))).1)).drop 0).take 16 = dc (dOf K dom parts) := by
  rw [List.drop_zero, fnc_sum, ← List.map_take]; rfl
theorem foldl_step {α β : Type} (f : β → α → β) (l : List α) (s : β) {k : Nat} {x : α} (h : l[k]? = some x) : (l.take (k + 1)).foldl f s = f ((l.take k).foldl f s) x := by
  rw [List.take_add_one, h]; simp

attribute [local irreducible] Gl Gc Gx Gs Runs Wt

set_option maxHeartbeats 400000 in
theorem of_ok {w : World} {F : Nat → Prop} {dom : Int} {parts : List (List UInt8)} {a : Option Addr} {n c : Nat} (h : stars [] w F) (hK : KR w (fun k => ¬ F k)) (hx : RdList (RdBytes w fun k => ¬ F k) w (fun k => ¬ F k) 1 a n parts) (hb : 1 + pcost parts ≤ 1099511627776) :
    Calls Tryd.prog 17 #[.int .i64 dom, .slice a n c] w (Post w F (fun _ : Unit => .agg (dc (dOf Kc dom parts)).toArray) (fun _ => [])) := by
  have hnl := hx.len (by decide)
  have hmx := hx.max
  simp only [maxLen] at hmx
  refine g_enter (env := [(0, .int .i64 dom), (1, .slice a n c)]) Tryd.func17 rfl h Tryd.ntmps17 rfl rfl ?_
  refine gsr ?_
  refine zal fun b4 => ?_
  refine gnt ?_
  refine gsr ?_
  refine zc (fun g => ?_) (c := fun w1 F1 F2 h1 h2 hd hst => hnew_ok h1)
  refine gp zas ?_
  refine gnt ?_
  refine gsr ?_
  refine gp zmv ?_
  refine gp zmv ?_
  refine gp (r_val (r_conv_int rfl Ty.un_3 Ty.un_5) byte_int) ?_
  refine ze1 fun b14 => ?_
  refine zc (fun _ => ?_) (c := fun w1 F1 F2 h1 h2 hd hst => hwrite_ok (b := [UInt8.ofNat (dom % 256).toNat]) h1 (hK.mv hst.still) (rd_row (xs := [B8 (UInt8.ofNat (dom % 256).toNat)]) h2 hd (by repeat (first | exact Pick.here | apply Pick.there))) (by decide) (by simp [hs0]))
  refine gnt ?_
  refine gc_seq ?_
  refine gsr ?_
  refine gp zmv ?_
  refine gp zln ?_
  refine gp zmv ?_
  refine gnt ?_
  refine gc_block ?_
  refine gc_loop (α := Nat) (fun k => [pureR (k ≤ n), HashR g ((parts.take k).foldl (hStep Kc) (hBeg Kc dom)), blk b4 26 zD]) (fun k => [(18, .int .i64 (k : Int))]) [7, 8, 19, 20, 21, 22, 23, 24, 25, 26, 27, 28, 29, 30, 31, 32, 33, 34, 35, 36, 37, 38, 39, 40, 41] (fun k => n - k) 0 ?_ ?_ ?_
  · refine env_start (by kernel_rfl)
  · rintro w' hw
    obtain ⟨F', hF', hst'⟩ := hw.sel (M := [HashR g (hBeg Kc dom), blk b4 26 zD]) (by repeat (first | exact Sel.nil | (apply Sel.cons; · (repeat (first | exact Pick.here | apply Pick.there)))))
    exact ⟨F', stars_pure_mk (Nat.zero_le _) hF', hst'⟩
  · intro k u
    refine gc_pureR (fun hk => ?_)
    replace hk : k ≤ n := hk
    refine gsr ?_
    refine gp zlt ?_
    refine gnt ?_
    refine gc_seq ?_
    refine gif rfl (fun hc19 => ?_) (fun hc19 => ?_)
    · have hk' : k < n := by (try simp only at hc19); omega
      obtain ⟨ga, o, cs, y, ha, hA, hg, hra, hcl, hly, hrd⟩ := hx.elem (by decide) hk'
      subst ha
      obtain ⟨a', n', c', rfl, hn', hrb⟩ := hrd
      have hny : n' = y.length := by have := hrb.1; simp at this; omega
      have hpc := pcost_take hly
      have hf := hFold Kc (parts.take k) (hBeg Kc dom) (hWrite_rest _ _ _)
      have hbl : (hBeg Kc dom).len = 1 := rfl
      refine gc_skip ?_
      refine gx_then ?_
      refine gc_seq ?_
      refine gc_block ?_
      refine gsr ?_
      refine gp (r_indexAddr_slice rfl rfl Ty.sl_30 Ty.sz_53 (by omega) (by omega)) ?_
      refine gp (r_ld1o rfl Ty.row_53 (hra 0 _ rfl) hA) ?_
      refine gp zas ?_
      refine gnt ?_
      refine gsr ?_
      refine gp zmv ?_
      refine gp zln ?_
      refine gp zas ?_
      refine gnt ?_
      refine gsr ?_
      refine gp zmv ?_
      refine gp zmv ?_
      refine gp zhr ?_
      refine gp (r_val (r_conv_int rfl Ty.un_3 Ty.un_5) (byte_shrI (j := 24) rfl (by decide))) ?_
      refine gp zmv ?_
      refine gp zhr ?_
      refine gp (r_val (r_conv_int rfl Ty.un_3 Ty.un_5) (byte_shrI (j := 16) rfl (by decide))) ?_
      refine gp zmv ?_
      refine gp zhr ?_
      refine gp (r_val (r_conv_int rfl Ty.un_3 Ty.un_5) (byte_shrI (j := 8) rfl (by decide))) ?_
      refine gp zmv ?_
      refine gp (r_val (r_conv_int rfl Ty.un_3 Ty.un_5) byte_nat) ?_
      refine gl_bsls (vs := (part4 n').map B8) (wt0 rfl) Ty.sl_53 Ty.sz_5 Ty.zc_5 rfl rfl (one_B8 _) rfl rfl rfl ?_
      intro b36
      refine zc (fun _ => ?_) (c := fun w1 F1 F2 h1 h2 hd hst => hwrite_ok (b := part4 n') h1 (hK.mv hst.still) (rd_row (xs := (part4 n').map B8) h2 hd (by repeat (first | exact Pick.here | apply Pick.there))) hf.1 (by rw [hf.2]; simp only [part4, List.length_cons, List.length_nil]; omega))
      refine gnt ?_
      refine gc_region ?_
      refine gp zmv ?_
      refine gp zmv ?_
      refine zc (fun _ => ?_) (c := fun w1 F1 F2 h1 h2 hd hst => hwrite_ok (b := y) h1 (hK.mv hst.still) (hrb.mv hst.still) (hWrite_rest _ _ _) (by rw [hWrite_len, hf.2]; simp only [part4, List.length_cons, List.length_nil]; omega))
      refine gl_nil ?_
      refine gx_block_normal ?_
      refine gx_then ?_
      refine gc_region ?_
      refine gp zad ?_
      refine gp zmv ?_
      refine gl_nil ?_
      refine zrd (k + 1) ?_ ?_
      · show n - (k + 1) < n - k
        omega
      · rintro w' hw
        obtain ⟨F', hF', hst'⟩ := hw.sel (M := [HashR g _, blk b4 26 zD]) (by repeat (first | exact Sel.nil | (apply Sel.cons; · (repeat (first | exact Pick.here | apply Pick.there)))))
        refine ⟨F', stars_pure_mk (show k + 1 ≤ n by omega) ?_, hst'⟩
        rw [foldl_step _ _ _ hly]
        rw [hny] at hF'
        exact hF'
    · have hk' : k = parts.length := by (try simp only at hc19); omega
      subst hk'
      have hf := hFold Kc (parts.take parts.length) (hBeg Kc dom) (hWrite_rest _ _ _)
      rw [List.take_length] at hf
      have hbl : (hBeg Kc dom).len = 1 := rfl
      refine gc_exit ?_
      refine gx_then_exit ?_
      refine gx_round_exit ?_
      refine gx_block_hit ?_
      refine gx_then ?_
      refine gsr ?_
      refine gp zmv ?_
      refine zc (fun _ => ?_) (c := fun w1 F1 F2 h1 h2 hd hst => hsum_ok h1 (hK.mv hst.still) (by rw [List.take_length]; exact hf.1) (by rw [List.take_length, hf.2]; omega))
      rw [List.take_length]
      refine zal fun b9 => ?_
      refine gl_storeN (wt0 rfl) rfl rfl Ty.sz_91 fnc_length (by repeat (first | exact Pick.here | apply Pick.there)) (by simp) (fnc_one fun _ => rfl) (updL_all (by simp [fnc_length])) ?_
      refine gnt ?_
      refine gsr ?_
      refine gp (r_slice_arr (l := 0) (h := 16) rfl Ty.arr_91 Ty.sz_5 rfl ⟨_, rfl⟩ (by decide) (by decide) (by decide)) ?_
      refine gp (r_toArr rfl Ty.arr_26 (by decide)) ?_
      refine gp (r_ldN rfl Ty.row_26 Ty.sz_26 (by repeat (first | exact Pick.here | apply Pick.there)) (hOf_cut Kc dom parts) (dc_length _)) ?_
      refine gl_storeN (wt0 rfl) rfl rfl Ty.sz_26 (dc_length _) (by repeat (first | exact Pick.here | apply Pick.there)) (by decide) (dc_one _) (updL_all (by rw [dc_length]; rfl)) ?_
      refine gnt ?_
      refine gc_ret ?_
      refine gx_retc rfl rfl (ld_aggS Ty.row_26 Ty.sz_26 (by repeat (first | exact Pick.here | apply Pick.there)) (by (simp only [List.drop_succ_cons, List.drop_zero, List.take_succ_cons, List.take_zero, List.cons_append, List.nil_append, List.append_assoc, drop_dc, drop_dc', take_dc, take_dc', drop_L, drop_L', take_L, take_L', len_L, Nat.reduceLeDiff, Nat.reduceSub, Nat.reduceAdd, Nat.le_refl, List.length_cons, List.length_append, List.length_nil, dc_length, List.drop_nil, List.take_nil, List.append_nil, List.length_map, List.length_replicate]; first | done | rfl)) (by first | rfl | (simp only [List.drop_succ_cons, List.drop_zero, List.take_succ_cons, List.take_zero, List.cons_append, List.nil_append, List.append_assoc, drop_dc, drop_dc', take_dc, take_dc', drop_L, drop_L', take_L, take_L', len_L, Nat.reduceLeDiff, Nat.reduceSub, Nat.reduceAdd, Nat.le_refl, List.length_cons, List.length_append, List.length_nil, dc_length, List.drop_nil, List.take_nil, List.append_nil, List.length_map, List.length_replicate]; first | done | omega))) ?_
      exact ze ()

end Go.Proofs.YtheonhgffglegaaDoor

/- Walks, by program (wg.py) out of a spec. -/
namespace Go.Proofs.YtheonhgffglegaaDoor
open Go
set_option linter.unusedVariables false
set_option linter.unusedSimpArgs false


def idOf (b : Block) : Dig := if (wBlock b ⟨0, []⟩).err = 0 then dOf Kc 6 [(wBlock b ⟨0, []⟩).bs] else dig0
theorem RdMsg.three {w : World} {A : Nat → Prop} {cs : List Value} {m : Msg} (h : RdMsg w A cs m) : m.chg.blocks.length = 3 := by
  obtain ⟨v, t, p, r, c, h1, h2, h3, h4, h5, h6⟩ := h; obtain ⟨css, q, h1, h2, h3, h4, h5, h6⟩ := h6; exact h4
theorem RdList.single {α : Type} {rd : List Value → α → Prop} {w : World} {A : Nat → Prop} {size : Nat} {a : Option Addr} {cs : List Value} {x : α} (hr : RdRow w A size a 1 cs) (hx : rd cs x) : RdList rd w A size a 1 [x] :=
  ⟨[cs], by simpa using hr, by simpa using hr.1, rfl, fun i c y h1 h2 => by
    cases i with
    | zero => simp at h1 h2; subst h1; subst h2; exact hx
    | succ i => simp at h1⟩
theorem rd_le {L L' : List Res} {w : World} {F2 : Nat → Prop} {e size n c : Nat} {a : Option Addr} {xs : List Value} (h2 : stars L w F2) (hp : Pick L (rowR e size a n c xs) L') : n ≤ c := by
  obtain ⟨F', h', hs⟩ := stars_pick hp h2; exact h'.2.1

attribute [local irreducible] Gl Gc Gx Gs Runs Wt






set_option maxHeartbeats 400000 in
theorem id_ok {w : World} {F : Nat → Prop} {TE : Nat} {ea : Nat → Addr} {cs : List Value} {x : Block} (h : stars [] w F) {es : List Nat} [Has es 1] (hE : GErr es w (fun k => ¬ F k) TE ea) (hK : KR w (fun k => ¬ F k)) (hx : RdBlock w (fun k => ¬ F k) cs x) :
    Calls Tryd.prog 7 #[.agg cs.toArray] w (Post w F (fun _ : Unit => .tuple #[.agg (dc (idOf x)).toArray, eV TE ea (wBlock x ⟨0, []⟩).err]) (fun _ => [])) := by
  have hl := hx.len
  have hbl := wBlock_len x ⟨0, []⟩
  simp only [List.length_nil] at hbl
  refine g_enter (env := [(0, .agg cs.toArray)]) Tryd.func7 rfl h Tryd.ntmps7 rfl rfl ?_
  refine gsr ?_
  refine zbN fun b1 => ?_
  refine zal fun b2 => ?_
  refine gp zas ?_
  refine gnt ?_
  refine gsr ?_
  refine gp (r_ldN rfl Ty.row_33 Ty.sz_33 (by repeat (first | exact Pick.here | apply Pick.there)) (seg_all hl) hl) ?_
  refine zc (fun r8 => ?_) (c := fun w1 F1 F2 h1 h2 hd hst => bytes_ok h1 (hE.mv hst.still) (hx.mv hst.still))
  refine gp zmv ?_
  refine gp zex ?_
  refine gp zex ?_
  refine gp zas ?_
  refine gp zas ?_
  refine gnt ?_
  refine gc_seq ?_
  refine gsr ?_
  refine gp zmv ?_
  refine gp (r_nenil rfl (by kernel_rfl)) ?_
  refine gnt ?_
  refine gif rfl (fun hc12 => ?_) (fun hc12 => ?_)
  · try simp only at hc12
    have he : ¬ (wBlock x ⟨0, []⟩).err = 0 := by simpa using hc12
    refine gsr ?_
    refine gp zba ?_
    refine gp zmv ?_
    refine gl_storeN (wt0 rfl) (new := dc dig0) rfl rfl Ty.sz_26 (dc_length _) (by repeat (first | exact Pick.here | apply Pick.there)) (by decide) (dc_one _) (updL_all (by rw [dc_length]; rfl)) ?_
    refine gp zas ?_
    refine gnt ?_
    refine gc_ret ?_
    refine gx_then_ret ?_
    refine gx_retct rfl rfl (by conv => lhs; whnf) (ld_aggS Ty.row_26 Ty.sz_26 (by repeat (first | exact Pick.here | apply Pick.there)) (by (simp only [List.drop_succ_cons, List.drop_zero, List.take_succ_cons, List.take_zero, List.cons_append, List.nil_append, List.append_assoc, drop_dc, drop_dc', take_dc, take_dc', drop_L, drop_L', take_L, take_L', len_L, Nat.reduceLeDiff, Nat.reduceSub, Nat.reduceAdd, Nat.le_refl, List.length_cons, List.length_append, List.length_nil, dc_length, List.drop_nil, List.take_nil, List.append_nil, List.length_map, List.length_replicate]; first | done | rfl)) (by first | rfl | (simp only [List.drop_succ_cons, List.drop_zero, List.take_succ_cons, List.take_zero, List.cons_append, List.nil_append, List.append_assoc, drop_dc, drop_dc', take_dc, take_dc', drop_L, drop_L', take_L, take_L', len_L, Nat.reduceLeDiff, Nat.reduceSub, Nat.reduceAdd, Nat.le_refl, List.length_cons, List.length_append, List.length_nil, dc_length, List.drop_nil, List.take_nil, List.append_nil, List.length_map, List.length_replicate]; first | done | omega))) ?_
    exact fun w' hw => ⟨(), by rw [idOf, if_neg he], hw.sel (by repeat (first | exact Sel.nil | (apply Sel.cons; · (repeat (first | exact Pick.here | apply Pick.there)))))⟩
  · try simp only at hc12
    have he : (wBlock x ⟨0, []⟩).err = 0 := by simpa using hc12
    refine gc_skip ?_
    refine gx_then ?_
    refine gsr ?_
    refine gp zmv ?_
    refine ze1 fun b16 => ?_
    refine zc (fun _ => ?_) (c := fun w1 F1 F2 h1 h2 hd hst => of_ok (parts := [wOut (wBlock x ⟨0, []⟩)]) h1 (hK.mv hst.still) (RdList.single (rd_row (xs := [.slice r8.1 (wOut (wBlock x ⟨0, []⟩)).length r8.2]) h2 hd (by repeat (first | exact Pick.here | apply Pick.there))) ⟨_, _, _, rfl, rd_le (xs := (wOut (wBlock x ⟨0, []⟩)).map B8) h2 (by repeat (first | exact Pick.here | apply Pick.there)), rd_row (xs := (wOut (wBlock x ⟨0, []⟩)).map B8) h2 hd (by repeat (first | exact Pick.here | apply Pick.there))⟩) (by simp only [pcost, wOut, List.map_cons, List.map_nil, List.sum_cons, List.sum_nil]; split <;> simp <;> omega))
    refine gl_storeN (wt0 rfl) rfl rfl Ty.sz_26 (dc_length _) (by repeat (first | exact Pick.here | apply Pick.there)) (by decide) (dc_one _) (updL_all (by rw [dc_length]; rfl)) ?_
    refine gp zas ?_
    refine gnt ?_
    refine gc_ret ?_
    refine gx_retct rfl rfl (by conv => lhs; whnf) (ld_aggS Ty.row_26 Ty.sz_26 (by repeat (first | exact Pick.here | apply Pick.there)) (by (simp only [List.drop_succ_cons, List.drop_zero, List.take_succ_cons, List.take_zero, List.cons_append, List.nil_append, List.append_assoc, drop_dc, drop_dc', take_dc, take_dc', drop_L, drop_L', take_L, take_L', len_L, Nat.reduceLeDiff, Nat.reduceSub, Nat.reduceAdd, Nat.le_refl, List.length_cons, List.length_append, List.length_nil, dc_length, List.drop_nil, List.take_nil, List.append_nil, List.length_map, List.length_replicate]; first | done | rfl)) (by first | rfl | (simp only [List.drop_succ_cons, List.drop_zero, List.take_succ_cons, List.take_zero, List.cons_append, List.nil_append, List.append_assoc, drop_dc, drop_dc', take_dc, take_dc', drop_L, drop_L', take_L, take_L', len_L, Nat.reduceLeDiff, Nat.reduceSub, Nat.reduceAdd, Nat.le_refl, List.length_cons, List.length_append, List.length_nil, dc_length, List.drop_nil, List.take_nil, List.append_nil, List.length_map, List.length_replicate]; first | done | omega))) ?_
    exact fun w' hw => ⟨(), by rw [idOf, if_pos he, wOut, if_pos he, he, eV_zero], hw.sel (by repeat (first | exact Sel.nil | (apply Sel.cons; · (repeat (first | exact Pick.here | apply Pick.there)))))⟩

end Go.Proofs.YtheonhgffglegaaDoor

/- Plain words: what the reader of layer 9 makes of bytes; that it undoes the writer, and the writer it. No program in sight. -/
namespace Go.Proofs.YtheonhgffglegaaDoor
set_option linter.unusedVariables false

def qc0 : QC := ⟨0, 0, dig0, []⟩
def blk0 : Block := ⟨0, 0, dig0, qc0, [], []⟩
/-! ### Numbers -/
/-! ### What is written is read -/
/-! ### Cut short -/
/-! ### The parts of messages -/
end Go.Proofs.YtheonhgffglegaaDoor

/- Zero values: their cells, and what they read as. -/
namespace Go.Proofs.YtheonhgffglegaaDoor
open Go
set_option linter.unusedVariables false

def nilS : Value := .slice none 0 0
def i0 : Value := .int .i64 0
def qcC : List Value := i0 :: i0 :: (dc dig0 ++ [nilS])
def blkC : List Value := i0 :: i0 :: (dc dig0 ++ (qcC ++ [nilS, nilS]))
section zero
variable {w : World} {A : Nat → Prop}
theorem rdQC0 : RdQC w A qcC qc0 := ⟨none, 0, 0, rfl, Nat.le_refl _, RdList.nil⟩
theorem rdBlock0 : RdBlock w A blkC blk0 := ⟨qcC, none, 0, 0, none, 0, 0, rfl, rdQC0, Nat.le_refl _, RdList.nil, Nat.le_refl _, RdList.nil⟩
end zero
section zero2
variable {w : World} {A : Nat → Prop}
end zero2
end Go.Proofs.YtheonhgffglegaaDoor

/- The engine, part K: strings. -/
namespace Go.Proofs.YtheonhgffglegaaDoor
open Go
set_option linter.unusedVariables false
set_option linter.unusedSimpArgs false

theorem St.mapL0 {w0 w : World} {F0 : Nat → Prop} {L L' : List Res} (h : St w0 F0 L w) (k : ∀ F, stars L w F → stars L' w F) : St w0 F0 L' w := by
  obtain ⟨F, hF, hst⟩ := h; exact ⟨F, k F hF, hst⟩
section
variable {P : Program} {w0 : World} {F0 : Nat → Prop} {L : List Res} {Q : Exit → Act → World → Prop} {n : Fm} {env : Env} {ops : Array Oper} {rest : List Oper}
variable {d : Option Tmp} {t : Tmp} {ty : TypeId} {pos : String} {af : Array Edge} {gd : Option (Nat × Bool)}
/-- A block's cells, written another way. -/
theorem gl_eqc {g T : Nat} {cs cs' : List Value} {L' : List Res} (hp : Pick L (blk g T cs) L') (e : cs = cs') (k : Gl P w0 F0 (blk g T cs' :: L') ops Q rest n env) : Gl P w0 F0 L ops Q rest n env := by
  subst e
  exact fun w hw => k w (hw.mapL0 fun F hF => hp.stars hF)
end
instance {b : ByteArray} : One1 (.string b) := ⟨rfl⟩
end Go.Proofs.YtheonhgffglegaaDoor

/- The engine, part L: two variables made in either order. -/
namespace Go.Proofs.YtheonhgffglegaaDoor
open Go
set_option linter.unusedVariables false
theorem Sel.head {r : Res} {L M L' : List Res} (h : Sel L M L') : Sel (r :: L) M (r :: L') := by
  induction h with
  | nil => exact Sel.nil
  | cons p _ ih => exact Sel.cons (Pick.there p) ih
section
variable {P : Program} {w0 : World} {F0 : Nat → Prop} {K L : List Res} {Q : Exit → Act → World → Prop} {n : Fm} {env : Env} {ops : Array Oper} {listed : Array Bool} {fuel z : Nat}
end
end Go.Proofs.YtheonhgffglegaaDoor

/- The engine, part M: make([]T, n), n read off; a block as a row. -/
namespace Go.Proofs.YtheonhgffglegaaDoor
open Go
set_option linter.unusedVariables false
set_option linter.unusedSimpArgs false
section
variable {P : Program} {w0 : World} {F0 : Nat → Prop} {L : List Res} {Q : Exit → Act → World → Prop} {n : Fm} {env : Env} {ops : Array Oper} {rest : List Oper} {ty : TypeId} {pos : String} {af : Array Edge} {gd : Option (Nat × Bool)}
end
section two
variable {P : Program} {w0 : World} {F0 : Nat → Prop} {K L : List Res} {Q : Exit → Act → World → Prop} {n : Fm} {env : Env} {ops : Array Oper} {listed : Array Bool} {fuel z : Nat}
/-- One of two comes, then the other. -/
theorem yo2 (i j : Nat) {oi oj : Oper} (hi : ops[i]? = some oi) (hj : ops[j]? = some oj)
    (ki : Gl P w0 F0 L ops (Exit.then (NextH P w0 F0 K ops Q fuel (listed.setIfInBounds i true) n) Q) [oi] n env) (kj : Gl P w0 F0 L ops (Exit.then (NextH P w0 F0 K ops Q fuel (listed.setIfInBounds j true) n) Q) [oj] n env)
    (hr : Region.ready .any ops listed = [i, j] := by kernel_rfl) : Gh P w0 F0 K L ops Q (fuel + 1) listed n env := fun w hst =>
  ⟨fun h => (by rw [hr] at h; cases h), fun x hx => by
    rw [hr] at hx
    rcases List.mem_cons.1 hx with rfl | hx
    · exact wpOpIn_of_list hi (ki w hst)
    · obtain rfl : x = j := by simpa using hx
      exact wpOpIn_of_list hj (kj w hst)⟩
theorem yo2s (i j : Nat) {oi oj : Oper} (hi : ops[i]? = some oi) (hj : ops[j]? = some oj)
    (ki : Gl P w0 F0 L ops (Exit.then (NextT P w0 F0 K ops Q z fuel (listed.setIfInBounds i true) n) Q) [oi] n env) (kj : Gl P w0 F0 L ops (Exit.then (NextT P w0 F0 K ops Q z fuel (listed.setIfInBounds j true) n) Q) [oj] n env)
    (hr : Region.ready .any ops listed = [i, j] := by kernel_rfl) : Gt P w0 F0 K L ops Q z (fuel + 1) listed n env := fun w hst =>
  ⟨fun h => (by rw [hr] at h; cases h), by rw [hr]; simp, fun x hx _ => by
    rw [hr] at hx
    rcases List.mem_cons.1 hx with rfl | hx
    · exact wpOpIn_of_list hi (ki w hst)
    · obtain rfl : x = j := by simpa using hx
      exact wpOpIn_of_list hj (kj w hst)⟩
end two
end Go.Proofs.YtheonhgffglegaaDoor

/- The engine, part R: ranges over functions: the iterator's calls of yield, and the statement. -/
namespace Go.Proofs.YtheonhgffglegaaDoor
open Go
set_option linter.unusedVariables false
set_option linter.unusedSimpArgs false

/-- A loop's record, and the block of its rounds' deferred calls. -/
def lpR (l : Nat) (r : Loop) : Res where
  on w F := (∀ k, F k ↔ k = l) ∧ w.heap[l]? = some (.loop r)
  loc := fun ⟨hF, h⟩ hk => ⟨hF, (hk l ((hF l).2 rfl)).trans h⟩
  ok := fun ⟨hF, h⟩ k hk => by rw [(hF k).1 hk]; exact ⟨_, h, trivial⟩
def dfR (b : Nat) : Res where
  on w F := (∀ k, F k ↔ k = b) ∧ w.heap[b]? = some (.deferred (some []))
  loc := fun ⟨hF, h⟩ hk => ⟨hF, (hk b ((hF b).2 rfl)).trans h⟩
  ok := fun ⟨hF, h⟩ k hk => by rw [(hF k).1 hk]; exact ⟨_, h, trivial⟩
def mkD (b : Nat) : Deferred := { target := .collected b, args := #[] }

/-- What the rounds promise: at the i-th call of yield, with x. -/
def RoundsAt (P : Program) (l : Nat) {α : Type} (enc : Nat → α → Array Value) (G : Nat → α → List Res) (J : Nat → Res) (Jx : Res) (w0 : World) (F0 : Nat → Prop) : Prop :=
  ∀ i x w (F1 F2 : Nat → Prop), stars (G i x ++ [J i]) w F1 → (∀ k, F1 k → ¬ F2 k) → Stp w0 F0 w (fun k => F1 k ∨ F2 k) →
    YieldAt (FR none) 0 P l (enc i x) w (Post w F1 (fun b : Bool => .bool b) fun b => [bif b then J (i + 1) else Jx])

theorem pick_app {r : Res} {L : List Res} : ∀ (G : List Res), Pick (G ++ r :: L) r (G ++ L)
  | [] => .here
  | _ :: G => .there (pick_app G)
theorem stars_out1 {r : Res} {G L : List Res} {w : World} {F : Nat → Prop} (h : stars (G ++ r :: L) w F) : stars (r :: (G ++ L)) w F := (pick_app G).stars h
theorem stars_in1 {r : Res} : ∀ {G L : List Res} {w : World} {F : Nat → Prop}, stars (r :: (G ++ L)) w F → stars (G ++ r :: L) w F
  | [], _, _, _, h => h
  | g :: G, L, w, F, h => by
    have h2 : stars (g :: (r :: (G ++ L))) w F := (Pick.there (Pick.here)).stars h
    obtain ⟨F1, F2, h1, h2, hF, hd⟩ := h2
    exact ⟨F1, F2, h1, stars_in1 h2, hF, hd⟩

theorem stars_tail {B : List Res} : ∀ {A : List Res} {w : World} {F : Nat → Prop}, stars (A ++ B) w F → stars (A ++ [allR B]) w F
  | [], w, F, h => stars_one h
  | a :: A, w, F, ⟨F1, F2, h1, h2, hF, hd⟩ => ⟨F1, F2, h1, stars_tail h2, hF, hd⟩
theorem stars_untail {B : List Res} : ∀ {A : List Res} {w : World} {F : Nat → Prop}, stars (A ++ [allR B]) w F → stars (A ++ B) w F
  | [], w, F, h => stars_one' h
  | a :: A, w, F, ⟨F1, F2, h1, h2, hF, hd⟩ => ⟨F1, F2, h1, stars_untail h2, hF, hd⟩
/-- An owned block that isn't wanted any more, or stands for something else, is turned. -/
theorem Stp.turn {w0 w : World} {F0 F : Nat → Prop} {b : Nat} {o : Obj} (h : Stp w0 F0 w F) (hb : F b) : Stp w0 F0 (w.putObj b o) F :=
  ⟨h.os, h.tape, h.output, by rw [World.putObj_size]; exact h.size, fun k hk hn => by
    rw [World.putObj_heap_other (fun e => by subst e; exact (h.own _ hb).elim hn (fun h' => absurd h' (by omega)))]
    exact h.block k hk hn, h.own⟩
theorem stars_put {L : List Res} {w : World} {F : Nat → Prop} {b : Nat} {o : Obj} (h : stars L w F) (hb : ¬ F b) : stars L (w.putObj b o) F :=
  stars_loc h fun k hk => World.putObj_heap_other (fun e => hb (e ▸ hk))
theorem St.lp {w0 w : World} {F0 : Nat → Prop} {l : Nat} {r r' : Loop} {L : List Res} (h : St w0 F0 (lpR l r :: L) w) : w.heap[l]? = some (.loop r) ∧ St w0 F0 (lpR l r' :: L) (w.putObj l (.loop r')) := by
  obtain ⟨F, ⟨F1, F2, ⟨hF1, h1⟩, h2, hF, hd⟩, hst⟩ := h
  have hl : F l := (hF l).2 (.inl ((hF1 l).2 rfl))
  exact ⟨h1, F, ⟨F1, F2, ⟨hF1, World.putObj_heap_same (Array.getElem?_eq_some_iff.1 h1).1⟩, stars_put h2 (hd l ((hF1 l).2 rfl)), hF, hd⟩, hst.turn hl⟩
theorem St.lp_out {w0 w : World} {F0 : Nat → Prop} {l : Nat} {r : Loop} {o : Obj} {L : List Res} (h : St w0 F0 (lpR l r :: L) w) : w.heap[l]? = some (.loop r) ∧ St w0 F0 L (w.putObj l o) := by
  obtain ⟨F, ⟨F1, F2, ⟨hF1, h1⟩, h2, hF, hd⟩, hst⟩ := h
  have hl : F l := (hF l).2 (.inl ((hF1 l).2 rfl))
  exact ⟨h1, F2, stars_put h2 (hd l ((hF1 l).2 rfl)), (hst.turn hl).weak fun k hk => (hF k).2 (.inr hk)⟩
theorem St.df_out {w0 w : World} {F0 : Nat → Prop} {b : Nat} {o : Obj} {L L' : List Res} (h : St w0 F0 L w) (hp : Pick L (dfR b) L') : w.heap[b]? = some (.deferred (some [])) ∧ St w0 F0 L' (w.putObj b o) := by
  obtain ⟨F, hF0, hst⟩ := h
  obtain ⟨F1, F2, ⟨hF1, h1⟩, h2, hF, hd⟩ := hp.stars hF0
  have hl : F b := (hF b).2 (.inl ((hF1 b).2 rfl))
  exact ⟨h1, F2, stars_put h2 (hd b ((hF1 b).2 rfl)), (hst.turn hl).weak fun k hk => (hF k).2 (.inr hk)⟩

section
variable {P : Program} {w0 : World} {F0 : Nat → Prop} {L : List Res} {Q : Exit → Act → World → Prop} {n : Fm} {env : Env} {ops : Array Oper} {rest : List Oper}
/-! ### A call of yield -/
theorem roundIn_FR {ro : Option Nat} {l : Nat} {f : FuncId} {tmps : Array Value} {asg bd : Code} {w : World} {R : Ending → World → Prop} : RoundIn (FR ro) 0 P l f tmps asg bd w R ↔ RoundIn (FR none) 0 P l f tmps asg bd w R := Iff.rfl
theorem gl_yield {o : Oper} {l : Nat} {args : Array Value} {L' M : List Res} {α : Type} {V : α → Value} {N : α → List Res} (hw : Wt ops n env o true)
    (he : ∀ w, (execOp (ev n env) o).run P w = (Instr.yield l args).run P w) (hsel : Sel L M L')
    (hc : ∀ w F1 F2, stars M w F1 → stars L' w F2 → (∀ k, F1 k → ¬ F2 k) → Stp w0 F0 w (fun k => F1 k ∨ F2 k) → YieldAt (FR none) 0 P l args w (Post w F1 V N))
    (k : ∀ x, Gl P w0 F0 (N x ++ L') ops Q rest n (pu o.dst (V x) env)) : Gl P w0 F0 L ops Q (o :: rest) n env := by
  intro w hs
  obtain ⟨F, hF, hst⟩ := hs
  obtain ⟨F1, F2, h1, h2, hE, hd⟩ := hsel.split hF
  have hst' : Stp w0 F0 w (fun k => F1 k ∨ F2 k) := by rw [← fp_eq hE]; exact hst
  unfold wpListIn
  rw [if_pos (show Region.wanted o _ = true from hw)]
  obtain ⟨fn, tmps, asg, bd, hy, hr⟩ := hc w F1 F2 h1 h2 hd hst'
  refine Oper.wpIn_round (by rw [fr_eval, he]; exact hy) (RoundIn.mono (roundIn_FR.2 hr) ?_)
  rintro e w' ⟨x, rfl, hx⟩
  exact ⟨V x, rfl, by rw [fr_put]; exact k x w' (St.call hst h2 hE hd hx)⟩
theorem e_yield {d : Option Tmp} {ty : TypeId} {pos : String} {af : Array Edge} {gd : Option (Nat × Bool)} {y : Operand} {l : Nat} {xs : List Operand} {ts : Array TypeId} {vs : List Value} (hy : ev n env y = .func (.yield l) #[] #[]) (hv : xs.map (ev n env) = vs) (w : World) :
    (execOp (ev n env) ⟨d, .call ⟨.value y, xs.toArray, ts⟩, ty, pos, af, gd⟩).run P w = (Instr.yield l vs.toArray).run P w := by
  simp [execOp, resolve, hy, Deferred.ofValue, invoke, hv]
/-- The i-th round. -/
theorem gyd {t : Tmp} {ty : TypeId} {pos : String} {af : Array Edge} {gd : Option (Nat × Bool)} {y : Operand} {l : Nat} {xs : List Operand} {ts : Array TypeId} {vs : List Value} {α : Type} {enc : Nat → α → Array Value} {G : Nat → α → List Res} {J : Nat → Res} {Jx : Res} {L' : List Res}
    (h : RoundsAt P l enc G J Jx w0 F0) (i : Nat) (x : α) (hv2 : enc i x = vs.toArray) (hsel : Sel L (G i x ++ [J i]) L') (k : ∀ b : Bool, Gl P w0 F0 ((bif b then J (i + 1) else Jx) :: L') ops Q rest n ((t, .bool b) :: env))
    (hy : ev n env y = .func (.yield l) #[] #[] := by exact rfl) (hv : xs.map (ev n env) = vs := by exact rfl)
    (hw : Wt ops n env ⟨some t, .call ⟨.value y, xs.toArray, ts⟩, ty, pos, af, gd⟩ true := by exact wt0 rfl) : Gl P w0 F0 L ops Q (⟨some t, .call ⟨.value y, xs.toArray, ts⟩, ty, pos, af, gd⟩ :: rest) n env :=
  gl_yield hw (e_yield hy hv) hsel (fun w F1 F2 h1 _ hd hst => by rw [← hv2]; exact h i x w F1 F2 h1 hd hst) k

theorem gl_pI {p : Prop} (hp : p) (k : Gl P w0 F0 (pureR p :: L) ops Q rest n env) : Gl P w0 F0 L ops Q rest n env := fun w ⟨F, hF, hst⟩ => k w ⟨F, stars_pure_mk hp hF, hst⟩
theorem gc_pI {c : Code} {p : Prop} (hp : p) (k : Gc P w0 F0 (pureR p :: L) c Q n env) : Gc P w0 F0 L c Q n env := fun w ⟨F, hF, hst⟩ => k w ⟨F, stars_pure_mk hp hF, hst⟩
theorem gx_pure1 {e : Exit} {p : Prop} {L' : List Res} (hp : Pick L (pureR p) L') (k : p → Gx w0 F0 L Q e n env) : Gx w0 F0 L Q e n env := fun w hw => by
  have hw' := hw
  obtain ⟨F, hF, _⟩ := hw'
  obtain ⟨F1, h1, _⟩ := stars_pick hp hF
  exact k h1.2 w hw
/-! ### A round's body -/
def zipE : List Tmp → List Value → Env → Env
  | t :: ts, v :: vs, e => zipE ts vs ((t, v) :: e)
  | _, _, e => e
theorem fr_zip {n : Fm} : ∀ (ts : List Tmp) (vs : List Value) (e : Env), { (fr n e) with tmps := (ts.zip vs).foldl (fun tmps (t, a) => tmps.setIfInBounds t a) (fr n e).tmps } = fr n (zipE ts vs e)
  | [], _, _ => by simp [zipE, fr]
  | _ :: _, [], _ => by simp [zipE, fr]
  | t :: ts, v :: vs, e => by
    have h : (fr n e).tmps.setIfInBounds t v = (fr n ((t, v) :: e)).tmps := by
      have := fr_put n e (some t) v
      simp only [Act.put, pu] at this
      exact congrArg Act.tmps this
    simp only [List.zip_cons_cons, List.foldl_cons, zipE]
    rw [h]
    exact fr_zip ts vs ((t, v) :: e)
/-- How a round ends. -/
def RoundP (w : World) (F : Nat → Prop) (l : Nat) (r : Loop) (I : Nat → List Res) (X : Nat → Code → List Res) (i : Nat) : Exit → Act → World → Prop
  | .normal, _, w' => St w F (lpR l r :: I (i + 1)) w'
  | .ret, _, w' => St w F (lpR l r :: X i .ret) w'
  | .exit id, _, w' => St w F (lpR l r :: X i (.exit id)) w'
  | _, _, _ => False
/-- The body is walked once the left sides are assigned. -/
def BegK (P : Program) (w : World) (F : Nat → Prop) (l : Nat) (r r' : Loop) (body : Code) (R : Exit → Act → World → Prop) (n : Fm) (a : Act) (w' : World) : Prop :=
  ∃ L env, a = fr n env ∧ St w F (lpR l r :: L) w' ∧ Gc P w F (lpR l r' :: L) body R n env
theorem gx_begin {l : Nat} {r r' : Loop} {body : Code} {R : Exit → Act → World → Prop} (h : Gc P w0 F0 (lpR l r' :: L) body R n env) : Gx w0 F0 (lpR l r :: L) (Exit.then (BegK P w0 F0 l r r' body R n) (fun _ _ _ => False)) .normal n env :=
  fun w hw => ⟨L, env, rfl, hw, h⟩
theorem gx_rdn {l : Nat} {r : Loop} {I : Nat → List Res} {X : Nat → Code → List Res} {i : Nat} (h : ∀ w, St w0 F0 L w → St w0 F0 (lpR l r :: I (i + 1)) w) : Gx w0 F0 L (RoundP w0 F0 l r I X i) .normal n env := h
theorem gx_rdr {l : Nat} {r : Loop} {I : Nat → List Res} {X : Nat → Code → List Res} {i : Nat} (h : ∀ w, St w0 F0 L w → St w0 F0 (lpR l r :: X i .ret) w) : Gx w0 F0 L (RoundP w0 F0 l r I X i) .ret n env := h
theorem gx_rde {l : Nat} {r : Loop} {I : Nat → List Res} {X : Nat → Code → List Res} {i id : Nat} (h : ∀ w, St w0 F0 L w → St w0 F0 (lpR l r :: X i (.exit id)) w) : Gx w0 F0 L (RoundP w0 F0 l r I X i) (.exit id) n env := h

/-! ### The statement -/
def IterAt (P : Program) {α β : Type} (gf : Nat) (lb : Array Value) (enc : Nat → α → Array Value) (G : Nat → α → List Res) (fin : β → Option Nat) (O : β → List Res) (vv : β → Value) (l : Nat) (J : Nat → Res) (Jx : Res) (w : World) (F : Nat → Prop) : Prop :=
  RoundsAt P l enc G J Jx w F → Calls P gf (#[.func (.yield l) #[] #[]] ++ lb) w (Post w F vv fun y => (match fin y with | some m => J m | none => Jx) :: O y)
theorem gc_range {g : Operand} {ps : Array Tmp} {assign body : Code} {gf : Nat} {lb : Array Value} {α β : Type} {enc : Nat → α → Array Value} {G : Nat → α → List Res}
    {own L' : List Res} {vv : β → Value} {fin : β → Option Nat} {O : β → List Res} (I : Nat → List Res) (X : Nat → Code → List Res) {ds : List Deferred} {nt : Nat}
    (hg : ev ⟨nt, ds, none⟩ env g = .func (.func gf) #[] lb) (eg : okCall P gf = true) (hsel : Sel L (own ++ I 0) L') (hsz : ∀ i x, (enc i x).size = ps.size)
    (hit : ∀ (l : Nat) (J : Nat → Res) (Jx : Res) w F1 F2, stars (own ++ [J 0]) w F1 → stars L' w F2 → (∀ k, F1 k → ¬ F2 k) → Stp w0 F0 w (fun k => F1 k ∨ F2 k) → IterAt P gf lb enc G fin O vv l J Jx w F1)
    (hrd : ∀ (l : Nat) (r r' : Loop) i x w F1 F2, stars (lpR l r :: (G i x ++ I i)) w F1 → stars L' w F2 → (∀ k, F1 k → ¬ F2 k) → Stp w0 F0 w (fun k => F1 k ∨ F2 k) →
      Gc P w F1 (lpR l r :: (G i x ++ I i)) assign (Exit.then (BegK P w F1 l r r' body (RoundP w F1 l r' I X i) ⟨nt, [], some l⟩) (fun _ _ _ => False)) ⟨nt, [], some l⟩ (zipE ps.toList (enc i x).toList env))
    (hdone : ∀ b y m, fin y = some m → Gx w0 F0 (dfR b :: (I m ++ O y) ++ L') Q .normal ⟨nt, mkD b :: ds, none⟩ env)
    (hstop : ∀ b y i c, fin y = none → Gc P w0 F0 (dfR b :: (X i c ++ O y) ++ L') c Q ⟨nt, mkD b :: ds, none⟩ env) : Gc P w0 F0 L (.rangeFunc g ps assign body) Q ⟨nt, ds, none⟩ env := by
  intro w hw
  refine wpIn_rangeFunc fun fn _ => ?_
  have hrun := run_enterLoop_outer (P := P) (w := w) fn (fr ⟨nt, ds, none⟩ env).tmps ps assign body
  have hl0 : ∀ st pe, ∃ r : Loop, r = { state := st, pending := pe, fn, tmps := (fr ⟨nt, ds, none⟩ env).tmps, params := ps, assign, body, defers := w.heap.size } := fun _ _ => ⟨_, rfl⟩
  obtain ⟨rec, hrec⟩ : ∃ rec : LoopState → Option Code → Loop, rec = fun st pe => { state := st, pending := pe, fn, tmps := (fr ⟨nt, ds, none⟩ env).tmps, params := ps, assign, body, defers := w.heap.size } := ⟨_, rfl⟩
  obtain ⟨F, hF, hst⟩ := hw
  obtain ⟨F1, F2, h1, h2, hE, hd⟩ := hsel.split hF
  have hlt1 := stars_lt h1
  have hlt2 := stars_lt h2
  obtain ⟨wa, hwa⟩ : ∃ wa, (w.alloc (.deferred (some []))).alloc (.loop (rec .ready none)) = wa := ⟨_, rfl⟩
  have hsize : wa.heap.size = w.heap.size + 2 := by rw [← hwa]; simp
  have hold : ∀ k, k < w.heap.size → wa.heap[k]? = w.heap[k]? := fun k hk => by
    rw [← hwa]
    exact (RowKit.Below.heap_alloc _ _ k (by simp; omega)).trans (RowKit.Below.heap_alloc w _ k hk)
  have hL1 : wa.heap[w.heap.size + 1]? = some (.loop (rec .ready none)) := by
    rw [← hwa]; have := World.alloc_heap_new (w.alloc (.deferred (some []))) (.loop (rec .ready none)); rwa [World.size_alloc] at this
  have hB1 : wa.heap[w.heap.size]? = some (.deferred (some [])) := by
    rw [← hwa]; exact (RowKit.Below.heap_alloc _ _ _ (by simp)).trans (World.alloc_heap_new w _)
  have hos : wa.os = w.os ∧ wa.tape = w.tape ∧ wa.output = w.output := by rw [← hwa]; exact ⟨rfl, rfl, rfl⟩
  have h1a : stars (own ++ I 0) wa F1 := stars_loc h1 fun k hk => hold k (hlt1 k hk)
  have h2a : stars L' wa F2 := stars_loc h2 fun k hk => hold k (hlt2 k hk)
  -- what the iterator is handed
  let F1a : Nat → Prop := fun k => k = w.heap.size + 1 ∨ F1 k
  have hown : stars (own ++ lpR (w.heap.size + 1) (rec .ready none) :: I 0) wa F1a :=
    stars_in1 ⟨fun k => k = w.heap.size + 1, F1, ⟨fun k => Iff.rfl, hL1⟩, h1a, fun k => Iff.rfl, fun k hk h => by have := hlt1 k h; omega⟩
  have hown := stars_tail hown
  have hda : ∀ k, F1a k → ¬ F2 k := fun k hk h => hk.elim (fun e => by have := hlt2 k h; omega) (fun h' => hd k h' h)
  let F2a : Nat → Prop := fun k => k = w.heap.size ∨ F2 k
  have h2d : stars (dfR w.heap.size :: L') wa F2a := ⟨fun k => k = w.heap.size, F2, ⟨fun k => Iff.rfl, hB1⟩, h2a, fun k => Iff.rfl, fun k hk h => by have := hlt2 k h; omega⟩
  have hda2 : ∀ k, F1a k → ¬ F2a k := fun k hk h => h.elim (fun e => hk.elim (fun e' => by omega) (fun h' => by have := hlt1 k h'; omega)) (hda k hk)
  have hsta : Stp w0 F0 wa (fun k => F1a k ∨ F2a k) :=
    ⟨hos.1.trans hst.os, hos.2.1.trans hst.tape, hos.2.2.trans hst.output, by rw [hsize]; have := hst.size; omega, fun k hk hn => (hold k (Nat.lt_of_lt_of_le hk hst.size)).trans (hst.block k hk hn),
      fun k hk => by
        have : F k ∨ w.heap.size ≤ k := by
          rcases hk with (h | h) | (h | h)
          · right; omega
          · exact .inl ((hE k).2 (.inl h))
          · right; omega
          · exact .inl ((hE k).2 (.inr h))
        rcases this with h | h
        · exact hst.own k h
        · right; have := hst.size; omega⟩
  let J : Nat → Res := fun i => allR (lpR (w.heap.size + 1) (rec .ready none) :: I i)
  let Jx : Res := exR fun i => exR fun c => allR (lpR (w.heap.size + 1) (rec .done (some c)) :: X i c)
  have hrounds : RoundsAt P (w.heap.size + 1) enc G J Jx wa F1a := by
    intro i x W G1 G2 g1 gd gst
    have g1' : stars (lpR (w.heap.size + 1) (rec .ready none) :: (G i x ++ I i)) W G1 := stars_out1 (stars_untail g1)
    have hl : W.heap[w.heap.size + 1]? = some (.loop (rec .ready none)) := by
      obtain ⟨A, B, ⟨_, h⟩, _⟩ := g1'
      exact h
    have hy := run_yield (P := P) (args := enc i x) hl (by rw [hrec]; exact hsz i x)
    rw [hrec] at hy
    have g2 : stars L' W F2 := stars_loc h2a fun k hk => gst.block k (by have := hlt2 k hk; omega) (fun h => hda k h hk)
    have gd2 : ∀ k, G1 k → ¬ F2 k := fun k hk h => (gst.own k (.inl hk)).elim (fun h' => hda k h' h) (fun h' => by have := hlt2 k h; omega)
    have hall : Stp w0 F0 W (fun k => G1 k ∨ F2 k) := (hsta.trans (gst.frame (F2 := F2a))).weak fun k hk => hk.elim (fun h => .inl (.inl h)) (fun h => .inr (.inr h))
    have hb := hrd (w.heap.size + 1) (rec .ready none) (rec .busy none) i x W G1 F2 g1' g2 gd2 hall
    refine ⟨fn, _, assign, body, hy, roundIn_of_wpIn trivial ?_⟩
    have hA : ({ tmps := ((ps.zip (enc i x)).foldl (fun tmps (t, a) => tmps.setIfInBounds t a) (fr ⟨nt, ds, none⟩ env).tmps), defers := [] } : Act) = fr ⟨nt, [], some (w.heap.size + 1)⟩ (zipE ps.toList (enc i x).toList env) := by
      rw [← fr_zip]
      simp only [fr, Act.mk.injEq, and_true]
      rw [← Array.foldl_toList, Array.toList_zip]
    have hb' := hb W (St.init g1')
    rw [← hA] at hb'
    refine wpIn_mono hb' ?_
    intro e a1 w1 hq
    cases e with
    | normal =>
      obtain ⟨L1, env1, rfl, hs1, hbody⟩ := hq
      obtain ⟨hl1, hs2⟩ := hs1.lp (r' := rec .busy none)
      refine ⟨_, run_beginRound hl1 (by rw [hrec]), ?_⟩
      have hbb := hbody _ (by rw [hrec] at hs2 ⊢; exact hs2)
      rw [hrec] at hbb ⊢
      refine wpIn_mono hbb ?_
      intro e2 a2 w2 hq2
      cases e2 with
      | normal =>
        obtain ⟨hl2, hs3⟩ := St.lp (r' := rec .ready none) hq2
        refine ⟨_, _, run_endRound none hl2, true, rfl, ?_⟩
        rw [hrec] at hs3
        simp only [J, hrec]
        obtain ⟨H, hH, hh⟩ := hs3
        exact ⟨H, stars_all_mk (by rw [List.append_nil]; exact hH), hh⟩
      | ret =>
        obtain ⟨hl2, hs3⟩ := St.lp (r' := rec .done (some .ret)) hq2
        refine ⟨_, _, run_endRound (some .ret) hl2, false, rfl, ?_⟩
        rw [hrec] at hs3
        obtain ⟨H, hH, hh⟩ := hs3
        exact ⟨H, stars_ex_mk i (stars_ex_mk Code.ret (stars_all_mk (by rw [List.append_nil, hrec]; exact hH))), hh⟩
      | exit id =>
        obtain ⟨hl2, hs3⟩ := St.lp (r' := rec .done (some (.exit id))) hq2
        refine ⟨_, _, run_endRound (some (.exit id)) hl2, false, rfl, ?_⟩
        rw [hrec] at hs3
        obtain ⟨H, hH, hh⟩ := hs3
        exact ⟨H, stars_ex_mk i (stars_ex_mk (Code.exit id) (stars_all_mk (by rw [List.append_nil, hrec]; exact hH))), hh⟩
      | goto t => exact hq2.elim
      | panic c => exact hq2.elim
      | outgrown => exact hq2.elim
    | exit id => exact hq.elim
    | ret => exact hq.elim
    | goto t => exact hq.elim
    | panic c => exact hq.elim
    | outgrown => exact hq.elim
  have hcall := hit (w.heap.size + 1) J Jx wa F1a F2 hown h2a hda (hsta.weak fun k hk => hk.elim .inl (fun h => .inr (.inr h))) hrounds
  refine ⟨w.heap.size + 1, [mkD w.heap.size], wa, { target := .fn (.func gf) lb, args := #[.func (.yield (w.heap.size + 1)) #[] #[]] }, wa, gf, #[.func (.yield (w.heap.size + 1)) #[] #[]] ++ lb, wa, ?_, ?_, ?_, ?_, ?_, ?_⟩
  · rw [show (FR (⟨nt, ds, none⟩ : Fm).ro).round = none from rfl, ← hwa, hrec]; exact hrun
  · have hg' : (fr ⟨nt, ds, none⟩ env).eval g = .func (.func gf) #[] lb := by rw [fr_eval]; exact hg
    simp only [resolve, hg']
    simp [go_sem]
  · intro f' _; trivial
  · unfold okCall at eg
    cases hp : P.funcs[gf]? with
    | none => simp [hp] at eg
    | some fn' =>
      cases hb : fn'.body with
      | none => simp [hp, hb] at eg
      | some c =>
        have hn : ¬ fn'.name = "runtime.NumGoroutine" := by simpa [hp, hb] using eg
        simp [invoke, callFunc, program, Sem.run, hp, hb, hn]
  · exact deep_FR _
  · refine callsIn_FR.2 (hcall.mono ?_)
    rintro e w2 ⟨y, rfl, hs⟩
    have hs2 := St.call hsta h2d (fun k => Iff.rfl) hda2 hs
    cases hy : fin y with
    | some m =>
      simp only [hy] at hs2
      have hs3 : St w0 F0 (lpR (w.heap.size + 1) (rec .ready none) :: ((I m ++ O y) ++ (dfR w.heap.size :: L'))) w2 := by
        obtain ⟨H, hH, hh⟩ := hs2
        exact ⟨H, by simpa using stars_all hH, hh⟩
      obtain ⟨hl, hs4⟩ := St.lp_out (o := .loop { (rec .ready none) with state := .exhausted }) hs3
      have hpe : (rec .ready none).pending = none := by rw [hrec]
      refine ⟨none, _, (run_endLoop (P := P) hl (by rw [hrec]; simp)).trans (congrArg (fun p => Result.ok p _) hpe), ?_⟩
      exact hdone w.heap.size y m hy _ (by
        obtain ⟨H, hH, hh⟩ := hs4
        exact ⟨H, stars_out1 hH, hh⟩)
    | none =>
      simp only [hy] at hs2
      obtain ⟨H, hH, hh⟩ := hs2
      obtain ⟨i, hH⟩ := stars_ex hH
      obtain ⟨c, hH⟩ := stars_ex hH
      have hH := stars_all hH
      have hs3 : St w0 F0 (lpR (w.heap.size + 1) (rec .done (some c)) :: ((X i c ++ O y) ++ (dfR w.heap.size :: L'))) w2 := ⟨H, by simpa using hH, hh⟩
      obtain ⟨hl, hs4⟩ := St.lp_out (o := .loop { (rec .done (some c)) with state := .exhausted }) hs3
      have hpe : (rec .done (some c)).pending = some c := by rw [hrec]
      refine ⟨some c, _, (run_endLoop (P := P) hl (by rw [hrec]; simp)).trans (congrArg (fun p => Result.ok p _) hpe), ?_⟩
      exact hstop w.heap.size y i c hy _ (by
        obtain ⟨H, hH, hh⟩ := hs4
        exact ⟨H, stars_out1 hH, hh⟩)

theorem gc_noway {c : Code} {b : Nat} {O L' : List Res} : Gc P w0 F0 (dfR b :: ([pureR False] ++ O) ++ L') c Q n env := fun w hw => by
  obtain ⟨F, hF, _⟩ := hw
  obtain ⟨F1, F2, _, h2, _⟩ := hF
  exact (stars_pure h2).1.elim

theorem gx_thenM {n m : Fm} {y : Code} {Q' : Exit → Act → World → Prop} (h : Gc P w0 F0 L y Q n env) (hr : m.ro = n.ro := by rfl) : Gx w0 F0 L (Exit.then (cwp m P y Q) Q') .normal n env := fun w hw => by
  show y.wpIn (FR m.ro) 0 P Q _ w
  rw [hr]; exact h w hw

/-! ### A function that holds such a statement -/
def bodyPostN (P : Program) (fn : Func) (R : Ending → World → Prop) : Exit → Act → World → Prop
  | .normal, a, w | .ret, a, w => LeavesInM (FR none) 0 P fn a.tmps R a.defers .returning w
  | _, _, _ => False
theorem g_enterM {f : FuncId} {fn : Func} {c : Code} {args : Array Value} {w : World} {F : Nat → Prop} {R : Ending → World → Prop} (hf : P.funcs[f]? = some fn) (hb : fn.body = some c)
    (hs : stars L w F) {nt : Nat} (hnt : fn.ntmps = nt) (hn : Nat.ble args.size nt = true) (henv : enumE 0 args.toList = env) (h : Gc P w F L c (bodyPostN P fn R) ⟨nt, [], none⟩ env) : Calls P f args w R :=
  callsIn_FR.1 (callsIn_of_wp_marks (F := FR none) (n := 0) hf hb trivial (by subst hnt; subst henv; rw [fr_init _ _ (by exact Nat.le_of_ble_eq_true hn)]; exact wpIn_mono (h w (St.init hs)) (fun e a w' hq => by cases e <;> first | exact hq | exact hq.elim)))
theorem gx_mark {fn : Func} {R : Ending → World → Prop} {b nt : Nat} {ds : List Deferred} {ro : Option Nat} {L' : List Res} (hp : Pick L (dfR b) L') (h : Gx w0 F0 L' (bodyPostN P fn R) .ret ⟨nt, ds, ro⟩ env) : Gx w0 F0 L (bodyPostN P fn R) .ret ⟨nt, mkD b :: ds, ro⟩ env := fun w hw => by
  obtain ⟨hb, hs⟩ := hw.df_out (o := .deferred none) hp
  exact ⟨by simp, .inl ⟨b, _, rfl, run_takeDeferred hb, h _ hs⟩⟩
theorem gx_mark0 {fn : Func} {R : Ending → World → Prop} {nt : Nat} {ro : Option Nat} (h : Gx w0 F0 L (bodyPost P fn R) .ret ⟨nt, [], ro⟩ env) : Gx w0 F0 L (bodyPostN P fn R) .ret ⟨nt, [], ro⟩ env := fun w hw => (h w hw).2
end
end Go.Proofs.YtheonhgffglegaaDoor

/- The engine, part U: regions that draw their order, the last operations (one by one behind all others) free of what is kept. -/
namespace Go.Proofs.YtheonhgffglegaaDoor
open Go
set_option linter.unusedVariables false
set_option linter.unusedSimpArgs false
section tail
variable {ro : Option Nat} {P : Program} {ops : Array Oper} {Q : Exit → Act → World → Prop} {md : Region.Mode} {S : World → Prop} {z : Nat}
/-- The operations from z on wait for all ahead of z, and each for the one ahead of it. -/
def tailU (md : Region.Mode) (ops : Array Oper) (z : Nat) : Bool := Nat.blt z ops.size && (List.range ops.size).all fun i => Nat.blt i z || match ops[i]? with
  | some o => ((List.range z).all fun j => o.after.any fun e => Region.binds md e && Nat.beq e.on j) && (Nat.beq i z || o.after.any fun e => Region.binds md e && Nat.beq e.on (i - 1))
  | none => false
def listedU (m z : Nat) : Array Bool := ((List.replicate z true) ++ (List.replicate (m - z) false)).toArray
theorem listedU_lo {m z i : Nat} (h : i < z) : (listedU m z)[i]? = some true := by
  simp only [listedU, List.getElem?_toArray]
  rw [List.getElem?_append_left (by simpa using h), List.getElem?_replicate, if_pos h]
theorem listedU_hi {m z i : Nat} (h : z ≤ i) (hm : i < m) : (listedU m z)[i]? = some false := by
  simp only [listedU, List.getElem?_toArray]
  rw [List.getElem?_append_right (by simpa using h), List.getElem?_replicate, if_pos (by simp; omega)]
theorem tailU_at (h : tailU md ops z = true) {i : Nat} (hi : i < ops.size) (hz : z ≤ i) : ∃ o, ops[i]? = some o ∧ (∀ j, j < z → ∃ e ∈ o.after, Region.binds md e = true ∧ e.on = j) ∧ (i ≠ z → ∃ e ∈ o.after, Region.binds md e = true ∧ e.on = i - 1) := by
  simp only [tailU, Bool.and_eq_true] at h
  have h2 := List.all_eq_true.1 h.2 i (List.mem_range.2 hi)
  cases ho : ops[i]? with
  | none => simp [ho, Nat.not_lt.2 hz] at h2
  | some o =>
    simp only [ho, Bool.or_eq_true, Nat.blt_eq, Bool.and_eq_true] at h2
    rcases h2 with h2 | ⟨h3, h4⟩
    · omega
    · refine ⟨o, rfl, fun j hj => ?_, fun hne => ?_⟩
      · obtain ⟨e, he, hb⟩ := Array.any_eq_true'.1 (List.all_eq_true.1 h3 j (List.mem_range.2 hj))
        simp only [Bool.and_eq_true] at hb
        exact ⟨e, he, hb.1, Nat.eq_of_beq_eq_true hb.2⟩
      · rcases h4 with h4 | h4
        · exact absurd (Nat.eq_of_beq_eq_true h4) hne
        · obtain ⟨e, he, hb⟩ := Array.any_eq_true'.1 h4
          simp only [Bool.and_eq_true] at hb
          exact ⟨e, he, hb.1, Nat.eq_of_beq_eq_true hb.2⟩
def InvU (ops : Array Oper) (z : Nat) (listed : Array Bool) : Prop := listed.size = ops.size ∧ ∀ i, z ≤ i → i < ops.size → listed[i]? = some false
theorem getD_some {listed : Array Bool} {i : Nat} (hi : i < listed.size) (h : listed.getD i false = true) : listed[i]? = some true := by
  rw [Array.getElem?_eq_getElem hi]
  simpa [hi] using h
theorem tailU_ready (h : tailU md ops z = true) {listed : Array Bool} (hi : InvU ops z listed) (hz : z ∈ Region.ready md ops listed) : listed = listedU ops.size z := by
  have hlt : z < ops.size := ready_lt hz
  obtain ⟨o, ho, h1, _⟩ := tailU_at h hlt (Nat.le_refl z)
  obtain ⟨_, o', ho', hall⟩ := mem_ready.1 hz
  rw [ho] at ho'
  cases ho'
  apply Array.ext_getElem?
  intro i
  have hs : (listedU ops.size z).size = ops.size := by simp [listedU]; omega
  by_cases hm : i < ops.size
  · by_cases hiz : i < z
    · obtain ⟨e, he, hb, hon⟩ := h1 i hiz
      have := hall e he hb
      rw [hon] at this
      rw [getD_some (by rw [hi.1]; exact hm) this, listedU_lo hiz]
    · rw [hi.2 i (by omega) hm, listedU_hi (by omega) hm]
  · rw [Array.getElem?_eq_none (by rw [hi.1]; omega), Array.getElem?_eq_none (by rw [hs]; omega)]
theorem tailU_not (h : tailU md ops z = true) {listed : Array Bool} (hi : InvU ops z listed) {i : Nat} (hr : i ∈ Region.ready md ops listed) (hz : z < i) : False := by
  have hlt := ready_lt hr
  obtain ⟨o, ho, _, h2⟩ := tailU_at h hlt (by omega)
  obtain ⟨_, o', ho', hall⟩ := mem_ready.1 hr
  rw [ho] at ho'
  cases ho'
  obtain ⟨e, he, hb, hon⟩ := h2 (by omega)
  have h3 := hall e he hb
  rw [hon] at h3
  have := getD_some (by rw [hi.1]; omega) h3
  rw [hi.2 (i - 1) (by omega) (by omega)] at this
  cases this
theorem wpAnyIn_of_seqU {Q' : Exit → Act → World → Prop} (x : Nat) : ∀ (l : List Oper) (k : Nat) (listed : Array Bool) (a : Act) (w : World), (∀ j, l[j]? = ops[k + j]?) →
    Region.seqB md ops l.length k listed = true → wpListIn (FR ro) 0 P ops Q' l a w → wpAnyIn (FR ro) 0 P md ops Q' (l.length + x) listed a w
  | [], k, listed, a, w, _, hB, h => wpAnyIn_done' (by simpa [Region.seqB] using hB) h _
  | o :: l, k, listed, a, w, hl, hB, h => by
    have h0 : ops[k]? = some o := by simpa using (hl 0).symm
    simp only [List.length_cons, Region.seqB, Bool.and_eq_true, decide_eq_true_eq] at hB
    rw [show (o :: l).length + x = (l.length + x) + 1 by simp; omega]
    refine ⟨fun h1 => (by rw [hB.1] at h1; cases h1), fun i hi => ?_⟩
    rw [hB.1] at hi
    have hik : i = k := by simpa using hi
    subst hik
    have hw : wpOpIn (FR ro) 0 P ops Q' i (wpListIn (FR ro) 0 P ops Q' l) a w := by unfold wpOpIn; simp only [h0]; exact h
    exact wpOpIn_mono (fun a' w' h' => wpAnyIn_of_seqU x l (i + 1) _ a' w' (fun j => by have := hl (j + 1); simpa [Nat.add_assoc, Nat.add_comm 1 j] using this) hB.2 h') hw
theorem wpAnyIn_of_tailU (h : tailU md ops z = true) (hseq : Region.seqB md ops (ops.size - z) z (listedU ops.size z) = true) : ∀ (fuel : Nat) (listed : Array Bool) (a : Act) (w : World), InvU ops z listed →
    wpAnyT ro P md ops Q S z (wpListIn (FR ro) 0 P ops Q (ops.toList.drop z)) fuel listed a w → wpAnyIn (FR ro) 0 P md ops Q (fuel + (ops.size - z)) listed a w
  | 0, listed, a, w, hi, H => by
    have hz : z ∈ Region.ready md ops listed := by rw [H.1]; simp
    rw [tailU_ready h hi hz, Nat.zero_add]
    have := wpAnyIn_of_seqU (ro := ro) (Q' := Q) 0 (ops.toList.drop z) z (listedU ops.size z) a w (fun j => by simp [List.getElem?_drop]) (by simpa using hseq) H.2
    simpa using this
  | fuel + 1, listed, a, w, hi, H => by
    by_cases hz : z ∈ Region.ready md ops listed
    · have hl := tailU_ready h hi hz
      have hone : Region.ready md ops listed = [z] := by
        have hn := ready_nodup (md := md) (ops := ops) (listed := listed)
        have hall : ∀ i ∈ Region.ready md ops listed, i = z := fun i hr => by
          rcases Nat.lt_trichotomy i z with hlt | he | hgt
          · exfalso
            have h1 := (mem_ready.1 hr).1
            rw [hl] at h1
            have hm := ready_lt hr
            have h2 := listedU_lo (m := ops.size) hlt
            rw [Array.getD_eq_getD_getElem?, h2] at h1
            cases h1
          · exact he
          · exact (tailU_not h hi hr hgt).elim
        generalize Region.ready md ops listed = r at *
        match r with
        | [] => cases hz
        | [y] => rw [hall y (by simp)]
        | y :: y' :: r' =>
          have h1 := hall y (by simp)
          have h2 := hall y' (by simp)
          subst h1; subst h2
          simp at hn
      have hT := H.1 hone
      rw [hl]
      have := wpAnyIn_of_seqU (ro := ro) (Q' := Q) (fuel + 1) (ops.toList.drop z) z (listedU ops.size z) a w (fun j => by simp [List.getElem?_drop]) (by simpa using hseq) hT
      rw [show fuel + 1 + (ops.size - z) = (ops.toList.drop z).length + (fuel + 1) by simp; omega]
      exact this
    · rw [show fuel + 1 + (ops.size - z) = (fuel + (ops.size - z)) + 1 by omega]
      refine ⟨fun h0 => absurd h0 H.2.1, fun i hr => ?_⟩
      have hne : i ≠ z := fun e => hz (e ▸ hr)
      refine wpOpIn_mono (fun a' w' h' => wpAnyIn_of_tailU h hseq fuel _ a' w' ⟨by simpa using hi.1, fun k hk hm => ?_⟩ h'.2) (H.2.2 i hr hne)
      have hik : i ≠ k := fun e => by
        subst e
        rcases Nat.lt_or_ge z i with hgt | hle
        · exact tailU_not h hi hr hgt
        · omega
      rw [Array.getElem?_setIfInBounds_ne hik]
      exact hi.2 k hk hm
end tail
def Gu (P : Program) (w0 : World) (F0 : Nat → Prop) (K L : List Res) (ops : Array Oper) (Q : Exit → Act → World → Prop) (z fuel : Nat) (listed : Array Bool) (n : Fm) (env : Env) : Prop :=
  ∀ w, St w0 F0 L w → wpAnyT n.ro P .any ops Q (St w0 F0 K) z (wpListIn (FR n.ro) 0 P ops Q (ops.toList.drop z)) fuel listed (fr n env) w
def NextU (P : Program) (w0 : World) (F0 : Nat → Prop) (K : List Res) (ops : Array Oper) (Q : Exit → Act → World → Prop) (z fuel : Nat) (listed : Array Bool) (n : Fm) (a : Act) (w : World) : Prop :=
  St w0 F0 K w ∧ wpAnyT n.ro P .any ops Q (St w0 F0 K) z (wpListIn (FR n.ro) 0 P ops Q (ops.toList.drop z)) fuel listed a w
section heldu
variable {P : Program} {w0 : World} {F0 : Nat → Prop} {K L : List Res} {Q : Exit → Act → World → Prop} {n : Fm} {env : Env} {ops : Array Oper} {listed : Array Bool} {fuel z : Nat}
theorem gc_regionU {id : Nat} {l : List Oper} (z : Nat) (K : List Res) (h : Gu P w0 F0 K L l.toArray Q z z (Array.replicate l.length false) n env) (hm : P.follows .mixedOrders = true := by kernel_rfl) (hz : tailU .any l.toArray z = true := by kernel_rfl)
    (hs : Region.seqB .any l.toArray (l.length - z) z (listedU l.length z) = true := by kernel_rfl) : Gc P w0 F0 L (.region id l.toArray true) Q n env := fun w hw =>
  wpIn_region_any hm (by
    have hlt : z < l.length := by
      have := hz
      simp only [tailU, Bool.and_eq_true, Nat.blt_eq, List.size_toArray] at this
      exact this.1
    have := wpAnyIn_of_tailU (ops := l.toArray) hz (by simpa using hs) _ (Array.replicate l.length false) _ _ ⟨by simp, fun i _ hi => by simp at hi; simp [hi]⟩ (h _ (hw.drawn (w.drawn + 1)))
    rw [show z + (l.toArray.size - z) = l.toArray.size by simp; omega] at this
    simpa using this)
theorem ypu (i : Nat) {t : Tmp} {op : Op} {ty : TypeId} {pos : String} {af : Array Edge} {gd : Option (Nat × Bool)} {v : Value} {L' : List Res} (hi : ops[i]? = some ⟨some t, op, ty, pos, af, gd⟩) (hR : Runs P w0 F0 K n env ⟨some t, op, ty, pos, af, gd⟩ v)
    (k : Gu P w0 F0 K L ops Q z fuel (listed.setIfInBounds i true) n ((t, v) :: env)) (hw : Wt ops n env ⟨some t, op, ty, pos, af, gd⟩ true := by first | exact wt0 rfl | exact wtgT rfl rfl rfl rfl) (hsel : Sel L K L' := by repeat (first | exact Sel.nil | (apply Sel.cons; · (repeat (first | exact Pick.here | apply Pick.there)))))
    (hs : Region.noSelect ops = true := by kernel_rfl) (hd : noDef ops = true := by kernel_rfl) (hf : Region.free .any ops listed i = true := by kernel_rfl) (hr : (Region.ready .any ops listed).contains i = true := by kernel_rfl) (hz : Nat.beq i z = false := by kernel_rfl)
    (hQ : ∀ c a w, Q (.panic c) (a.put (some t) v) w → Q (.panic c) a w := by exact fun _ _ _ h => h) : Gu P w0 F0 K L ops Q z (fuel + 1) listed n env := fun w hst =>
  wpAnyT_first hi (fun e => by subst e; simp at hz) (Region.noSelect_spec hs) hd hQ fuel listed _ _ (Region.free_spec hi hf) (by simpa using hr) (.inl ⟨hw, fun w' hw' => by rw [fr_eval]; exact hR w' hw'⟩) (hst.sel hsel) (by rw [fr_put]; exact k w hst)
theorem you (i : Nat) {o : Oper} (hi : ops[i]? = some o) (k : Gl P w0 F0 L ops (Exit.then (NextU P w0 F0 K ops Q z fuel (listed.setIfInBounds i true) n) Q) [o] n env) (hr : Region.ready .any ops listed = [i] := by kernel_rfl) (hz : Nat.beq i z = false := by kernel_rfl) : Gu P w0 F0 K L ops Q z (fuel + 1) listed n env := fun w hst =>
  ⟨fun h => (by rw [hr] at h; simp only [List.cons.injEq, and_true] at h; subst h; simp at hz), by rw [hr]; simp, fun j hj _ => by
    rw [hr] at hj
    obtain rfl : j = i := by simpa using hj
    exact wpOpIn_of_list hi (k w hst)⟩
theorem yxu {L' : List Res} {Q' : Exit → Act → World → Prop} (k : Gu P w0 F0 K L ops Q z fuel listed n env) (hsel : Sel L K L' := by repeat (first | exact Sel.nil | (apply Sel.cons; · (repeat (first | exact Pick.here | apply Pick.there))))) : Gl P w0 F0 L ops (Exit.then (NextU P w0 F0 K ops Q z fuel listed n) Q') [] n env := gl_nil fun w hw => ⟨hw.sel hsel, k w hw⟩
/-- The last ones. -/
theorem yzu {l : List Oper} (k : Gl P w0 F0 L ops Q l n env) (hl : ops.toList.drop z = l := by rfl) (hr : Region.ready .any ops listed = [z] := by kernel_rfl) : Gu P w0 F0 K L ops Q z 0 listed n env := fun w hst => ⟨hr, by rw [hl]; exact k w hst⟩
end heldu
end Go.Proofs.YtheonhgffglegaaDoor

/- The engine, part N: maps. -/
namespace Go.Proofs.YtheonhgffglegaaDoor
open Go
set_option linter.unusedVariables false
set_option linter.unusedSimpArgs false
set_option linter.unusedSectionVars false

/-! ### Rows of keys and values -/
section rows
variable {α : Type} [DecidableEq α]
def atK (k : α) : List (α × Value) → Nat → Option (Nat × Value)
  | [], _ => none
  | p :: l, i => if k = p.1 then some (i, p.2) else atK k l (i + 1)
def getK (k : α) (l : List (α × Value)) : Option Value := (atK k l 0).map (·.2)
def putK (k : α) (v : Value) : List (α × Value) → List (α × Value)
  | [] => [(k, v)]
  | p :: l => if k = p.1 then (k, v) :: l else p :: putK k v l
def delK (k : α) : List (α × Value) → List (α × Value)
  | [] => []
  | p :: l => if k = p.1 then l else p :: delK k l
def encK (K : α → Value) (l : List (α × Value)) : List (Value × Value) := l.map fun p => (K p.1, p.2)
theorem atK_none {k : α} {v : Value} : ∀ {l : List (α × Value)} {i : Nat}, atK k l i = none → putK k v l = l ++ [(k, v)] ∧ delK k l = l
  | [], _, _ => ⟨rfl, rfl⟩
  | p :: l, i, h => by
    simp only [atK] at h
    split at h
    · cases h
    · rename_i hne
      have ih := atK_none (v := v) h
      simp only [putK, delK, if_neg hne, ih.1, ih.2, List.cons_append, and_self]
theorem atK_some {k : α} {v u : Value} : ∀ {l : List (α × Value)} {i j : Nat}, atK k l i = some (j, u) → ∃ m, j = i + m ∧ l[m]? = some (k, u) ∧ putK k v l = l.set m (k, v) ∧ delK k l = l.eraseIdx m
  | [], _, _, h => by cases h
  | p :: l, i, j, h => by
    simp only [atK] at h
    split at h
    · rename_i he
      simp only [Option.some.injEq, Prod.mk.injEq] at h
      obtain ⟨rfl, rfl⟩ := h
      refine ⟨0, rfl, ?_, ?_, ?_⟩
      · simp [he]
      · simp only [putK, if_pos he, List.set_cons_zero]
      · simp only [delK, if_pos he, List.eraseIdx_cons_zero]
    · rename_i hne
      obtain ⟨m, h1, h2, h3, h4⟩ := atK_some (v := v) h
      refine ⟨m + 1, by omega, by simpa using h2, ?_, ?_⟩
      · simp only [putK, if_neg hne, h3, List.set_cons_succ]
      · simp only [delK, if_neg hne, h4, List.eraseIdx_cons_succ]
end rows

/-! ### Maps in memory -/
def kvs (es : Array MapEntry) : List (Value × Value) := es.toList.map fun e => (e.key, e.val)
theorem kvs_length (es : Array MapEntry) : (kvs es).length = es.size := by simp [kvs]
/-- A map in block g: keys and values in the order in which they came. -/
def mapR (g : Nat) (l : List (Value × Value)) : Res where
  on w F := (∀ k, F k ↔ k = g) ∧ ∃ es clock, w.heap[g]? = some (.map es clock) ∧ kvs es = l ∧ (∀ x ∈ es.toList, x.born < clock) ∧ (es.toList.map (fun e : MapEntry => e.born)).Nodup
  loc := fun ⟨hF, es, clock, h, r⟩ hk => ⟨hF, es, clock, (hk g ((hF g).2 rfl)).trans h, r⟩
  ok := fun ⟨hF, es, clock, h, _⟩ k hk => by
    rw [(hF k).1 hk]
    exact ⟨_, h, trivial⟩
/-- Keys of type T that stand for those of α. -/
class KeyT (P : Program) (T : TypeId) {α : Type} [DecidableEq α] (K : α → Value) : Prop where
  check : ∀ (w : World) (b : Bool) (k : α), (Instr.checkKey b 10000 T (K k)).run P w = .ok () w
  find : ∀ (w : World) (k : α) (es : List MapEntry) (l : List (α × Value)), es.map (fun e => (e.key, e.val)) = encK K l → (Instr.findKey T (K k) es).run P w = .ok (atK k l 0) w
  stays : ∀ (w : World) (k : α), (Instr.keyThatStays (K k) (K k)).run P w = .ok (K k) w
theorem findAsking_dig {P : Program} {T e : TypeId} (ht : arrT P T = some (16, e)) (he : P.underlying e = some (.int .u8)) (hs : szT P e = some 1) (w : World) (k : Dig) : ∀ (es : List MapEntry) (l : List (Dig × Value)) (i : Nat),
    es.map (fun e => (e.key, e.val)) = encK (fun d => Value.agg (dc d).toArray) l → (Instr.findAsking T (.agg (dc k).toArray) es i).run P w = .ok (atK k l i) w
  | [], l, i, h => by
    cases l with
    | nil => rfl
    | cons p l => simp [encK] at h
  | e' :: es, l, i, h => by
    cases l with
    | nil => simp [encK] at h
    | cons p l =>
      simp only [encK, List.map_cons, List.cons.injEq, Prod.mk.injEq] at h
      obtain ⟨⟨h1, h2⟩, h3⟩ := h
      have hq : (Op.equal T (.agg (dc k).toArray) (.agg (dc p.1).toArray)).run P w = .ok (decide (k = p.1)) w := run_equal_dig ht he hs
      simp only [Instr.findAsking, h1, Sem.run_bind, hq, Result.andThen_ok, atK, h2]
      by_cases hk : k = p.1
      · simp [hk]
      · simp only [hk, decide_false, if_false, Bool.false_eq_true]
        exact findAsking_dig ht he hs w k es l (i + 1) h3
theorem run_forIn_list {P : Program} {w : World} {f : Nat → PUnit → Sem (ForInStep PUnit)} : ∀ (l : List Nat), (∀ i ∈ l, (f i ⟨⟩).run P w = .ok (.yield ⟨⟩) w) → (forIn l ⟨⟩ f).run P w = .ok ⟨⟩ w
  | [], _ => by simp
  | i :: l, h => by
    have h1 := h i (by simp)
    have ih := run_forIn_list (f := f) l fun j hj => h j (by simp [hj])
    simp only [List.forIn_cons, Sem.run_bind, h1, Result.andThen_ok, ih]
theorem sameBits_zip (n : Nat) : ∀ (l : List UInt8), ((l.map B8).zip (l.map B8)).all (fun p => Instr.sameBits (n + 1) p.1 p.2) = true
  | [] => rfl
  | b :: l => by
    simp only [List.map_cons, List.zip_cons_cons, List.all_cons, sameBits_zip n l, Bool.and_true]
    simp [B8, Instr.sameBits]
theorem keyT_dig {P : Program} {T e : TypeId} (ht : arrT P T = some (16, e)) (he : P.underlying e = some (.int .u8)) (hs : szT P e = some 1) : KeyT P T (fun d : Dig => Value.agg (dc d).toArray) where
  check w b k := by
    have hr : rowT P e = some false := by simp [rowT, he]
    have hz : ∀ w, (sizeOf e).run P w = .ok 1 w := fun w => run_sz hs
    show (Instr.checkKey b (9999 + 1) T _).run P w = _
    unfold Instr.checkKey
    simp only [Sem.run_bind, run_underlying (run_arrT ht), Result.andThen_ok]
    simp only [Std.Legacy.Range.forIn_eq_forIn_range', Std.Legacy.Range.size, Nat.sub_zero, Nat.add_one_sub_one, Nat.div_one]
    rw [run_forIn_list]
    · rfl
    intro i hi
    have hi16 : i < (dc k).length := by
      have := List.mem_range'_1.1 hi
      rw [dc_length]; simp at this; omega
    have hv : (dc k)[i * 1]? = some (B8 (k.l.getD i 0)) := by
      have h2 : i < k.l.length := by rw [dc_length] at hi16; rw [k.h]; exact hi16
      simp [dc, List.getD, h2]
    simp only [Sem.run_bind, hz, Result.andThen_ok, run_part1 hr hv]
    unfold Instr.checkKey
    simp [run_underlying he, B8]
  find w k es l h := by
    have hu := run_arrT ht
    cases es with
    | nil =>
      cases l with
      | nil => simp [Instr.findKey, run_underlying hu, Instr.findNow, atK]
      | cons p l => simp [encK] at h
    | cons e1 es =>
      have : Instr.findNow (.array 16 e) (.agg (dc k).toArray) (e1 :: es) 0 = none := by simp [Instr.findNow, Instr.sameNow]
      simp only [Instr.findKey, Sem.run_bind, run_underlying hu, Result.andThen_ok, this]
      exact findAsking_dig ht he hs w k (e1 :: es) l 0 h
  stays w k := by
    have h : Instr.sameBits (9998 + 1 + 1) (.agg (dc k).toArray) (.agg (dc k).toArray) = true := by
      have := sameBits_zip 9998 k.l
      unfold Instr.sameBits
      simpa [dc] using this
    show ((if Instr.sameBits (9998 + 1 + 1) (.agg (dc k).toArray) (.agg (dc k).toArray) = true then _ else _ : Sem Value)).run P w = _
    rw [if_pos h]
    simp
section
variable {P : Program} {w0 : World} {F0 : Nat → Prop} {L : List Res}
theorem St.pushR {w : World} {o : Obj} {r : Res} (hs : St w0 F0 L w) (hr : ∀ w' : World, w'.heap[w.heap.size]? = some o → r.on w' (fun k => k = w.heap.size)) : St w0 F0 (r :: L) { w with heap := w.heap.push o } := by
  obtain ⟨F, hF, hst⟩ := hs
  refine ⟨fun k => k = w.heap.size ∨ F k, ⟨fun k => k = w.heap.size, F, hr _ (by simp), ?_, fun k => Iff.rfl, ?_⟩, ?_⟩
  · exact stars_loc hF fun k hk => by
      have := stars_lt hF k hk
      simp [Array.getElem?_push, Nat.ne_of_lt this]
  · rintro k rfl hk
    exact absurd (stars_lt hF _ hk) (Nat.lt_irrefl _)
  · have hsz := hst.size
    refine ⟨hst.os, hst.tape, hst.output, by simp; omega, fun k hk hn => ?_, ?_⟩
    · rw [← hst.block k hk hn]
      show (w.heap.push _)[k]? = _
      rw [Array.getElem?_push, if_neg (by omega)]
    · rintro k (rfl | hk)
      · exact .inr hsz
      · exact hst.own k hk
theorem St.setR {w : World} {g : Nat} {o' : Obj} {r r' : Res} {L' : List Res} (hs : St w0 F0 L w) (hp : Pick L r L') (hg : ∀ F, r.on w F → F g ∧ g < w.heap.size)
    (hr : ∀ (w' : World) F, r.on w F → w'.heap[g]? = some o' → (∀ k, k ≠ g → w'.heap[k]? = w.heap[k]?) → r'.on w' F) : St w0 F0 (r' :: L') { w with heap := w.heap.setIfInBounds g o' } := by
  obtain ⟨F, hF, hst⟩ := hs
  obtain ⟨F1, F2, h1, h2, hE, hd⟩ := hp.stars hF
  obtain ⟨hg1, hlt⟩ := hg F1 h1
  refine ⟨F, ⟨F1, F2, hr _ F1 h1 (by simp [hlt]) (fun k hk => by simp [Array.getElem?_setIfInBounds, Ne.symm hk]), ?_, hE, hd⟩, ?_⟩
  · refine stars_loc h2 fun k hk => ?_
    have : ¬ g = k := fun e => hd k (e ▸ hg1) hk
    simp [Array.getElem?_setIfInBounds, this]
  · refine ⟨hst.os, hst.tape, hst.output, by simpa using hst.size, fun k hk hn => ?_, hst.own⟩
    rw [← hst.block k hk hn]
    have : ¬ g = k := fun e => (hst.old hk hn).2 ((hE k).2 (.inl (e ▸ hg1)))
    simp [Array.getElem?_setIfInBounds, this]
theorem St.mapAt {w : World} {g : Nat} {l : List (Value × Value)} {L' : List Res} (hs : St w0 F0 L w) (hp : Pick L (mapR g l) L') : ∃ es clock, w.heap[g]? = some (.map es clock) ∧ kvs es = l ∧ (∀ x ∈ es.toList, x.born < clock) ∧ (es.toList.map (·.born)).Nodup := by
  obtain ⟨F, hF, _⟩ := hs
  obtain ⟨F1, h1, _⟩ := stars_pick hp hF
  exact h1.2
variable {Q : Exit → Act → World → Prop} {n : Fm} {env : Env} {ops : Array Oper} {rest : List Oper}
variable {d : Option Tmp} {t : Tmp} {ty : TypeId} {pos : String} {af : Array Edge} {gd : Option (Nat × Bool)}
theorem gl_mkMap {T : TypeId} (hw : Wt ops n env ⟨some t, .makeMap T none, ty, pos, af, gd⟩ true) (k : ∀ g, Gl P w0 F0 (mapR g [] :: L) ops Q rest n ((t, .map (some g)) :: env)) : Gl P w0 F0 L ops Q (⟨some t, .makeMap T none, ty, pos, af, gd⟩ :: rest) n env := by
  refine gl_effx (α := Nat) (L' := fun g => mapR g [] :: L) (v := fun g => .map (some g)) hw (fun w hst => ?_) k
  refine ⟨w.heap.size, { w with heap := w.heap.push (.map #[] 0) }, ?_, hst.pushR fun w' h => ⟨fun k => Iff.rfl, #[], 0, h, rfl, by simp, by simp⟩⟩
  simp [execOp, Instr.makeMap, newObj, Sem.run]
variable {α : Type} [DecidableEq α] {K : α → Value}
theorem r_look {x y : Operand} {T kt e g : Nat} {l : List (α × Value)} {L' : List Res} {z : Value} {key : α} {b : Bool} [KeyT P kt K] (hx : ev n env x = .map (some g)) (hy : ev n env y = K key) (hm : P.underlying T = some (.map kt e)) (hz : zeroT P e = some z) (hp : Pick L (mapR g (encK K l)) L') :
    Runs P w0 F0 L n env ⟨d, .lookup T x y b, ty, pos, af, gd⟩ (if b then .tuple #[(getK key l).getD z, .bool (getK key l).isSome] else (getK key l).getD z) := fun w hst => by
  obtain ⟨es, clock, hh, hk, _⟩ := hst.mapAt hp
  have hf := KeyT.find (P := P) (T := kt) (K := K) w key es.toList l hk
  have hc := KeyT.check (P := P) (T := kt) (K := K) w es.isEmpty key
  simp only [execOp, hx, hy, Instr.lookup, Sem.run_bind, run_underlying hm, Result.andThen_ok, MapKept.run_getObj_map hh, Sem.run_pure, hc, hf, getK]
  cases atK key l 0 with
  | none => simp only [Sem.run_bind, run_zeroT hz, Result.andThen_ok, Sem.run_pure]; cases b <;> rfl
  | some p => simp only [Sem.run_pure, Result.andThen_ok]; cases b <;> rfl
theorem kvs_modify {es : Array MapEntry} {m : Nat} {k v : Value} : kvs (es.modify m fun e => { e with key := k, val := v }) = (kvs es).set m (k, v) := by
  apply List.ext_getElem?
  intro i
  simp only [kvs, List.getElem?_map, Array.getElem?_toList, Array.getElem?_modify, List.getElem?_set, List.length_map, Array.length_toList]
  by_cases h : m = i
  · subst h
    by_cases hi : m < es.size
    · simp [hi]
    · simp [hi]
  · simp [h]
theorem born_modify {es : Array MapEntry} {m : Nat} {k v : Value} : (es.modify m fun e => { e with key := k, val := v }).toList.map (·.born) = es.toList.map (·.born) := by
  apply List.ext_getElem?
  intro i
  simp only [List.getElem?_map, Array.getElem?_toList, Array.getElem?_modify]
  by_cases h : m = i
  · subst h; cases es[m]? <;> simp
  · simp [h]
theorem all_born {es es' : Array MapEntry} {clock : Nat} (h : ∀ x ∈ es.toList, x.born < clock) (e : es'.toList.map (·.born) = es.toList.map (·.born)) : ∀ x ∈ es'.toList, x.born < clock := fun x hx => by
  have : x.born ∈ es.toList.map (·.born) := by rw [← e]; exact List.mem_map.2 ⟨x, hx, rfl⟩
  obtain ⟨y, hy, h2⟩ := List.mem_map.1 this
  rw [← h2]; exact h y hy
theorem encK_set {l : List (α × Value)} {m : Nat} {k : α} {v : Value} : encK K (l.set m (k, v)) = (encK K l).set m (K k, v) := by simp [encK, List.map_set]
theorem encK_append {l : List (α × Value)} {k : α} {v : Value} : encK K (l ++ [(k, v)]) = encK K l ++ [(K k, v)] := by simp [encK]
theorem encK_get {l : List (α × Value)} {m : Nat} {k : α} {v : Value} (h : l[m]? = some (k, v)) : (encK K l)[m]? = some (K k, v) := by simp [encK, h]
theorem gl_put {x y u : Operand} {T kt e g : Nat} {l : List (α × Value)} {L' : List Res} {key : α} {v : Value} [KeyT P kt K] (hw : Wt ops n env ⟨d, .mapUpdate T x y u, ty, pos, af, gd⟩ true) (hx : ev n env x = .map (some g)) (hy : ev n env y = K key) (hu : ev n env u = v)
    (hm : P.underlying T = some (.map kt e)) (hp : Pick L (mapR g (encK K l)) L') (k : Gl P w0 F0 (mapR g (encK K (putK key v l)) :: L') ops Q rest n (pu d undef env)) : Gl P w0 F0 L ops Q (⟨d, .mapUpdate T x y u, ty, pos, af, gd⟩ :: rest) n env :=
  gl_skip hw (fun w hst => by
    obtain ⟨es, clock, hh, hk, hb, hn⟩ := hst.mapAt hp
    have hlt : g < w.heap.size := (Array.getElem?_eq_some_iff.1 hh).1
    have hf := KeyT.find (P := P) (T := kt) (K := K) w key es.toList l hk
    have hc := KeyT.check (P := P) (T := kt) (K := K) w false key
    cases ha : atK key l 0 with
    | none =>
      refine ⟨{ w with heap := w.heap.setIfInBounds g (.map (es.push ⟨K key, v, clock⟩) (clock + 1)) }, ?_, ?_⟩
      · simp only [execOp, hx, hy, hu, Instr.mapUpdate, Sem.run_bind, run_underlying hm, Result.andThen_ok, MapKept.run_getObj_map hh, hc, hf, ha, MapKept.run_setObj_map _ hh]
        rfl
      · refine hst.setR hp (fun F h => ⟨(h.1 g).2 rfl, hlt⟩) (fun w' F h hg' _ => ⟨h.1, _, _, hg', ?_, ?_, ?_⟩)
        · rw [(atK_none (v := v) ha).1, encK_append, ← hk]; simp [kvs]
        · intro z hz
          simp only [Array.toList_push, List.mem_append, List.mem_singleton] at hz
          rcases hz with hz | rfl
          · have := hb z hz; omega
          · exact Nat.lt_succ_self _
        · simp only [Array.toList_push, List.map_append, List.map_cons, List.map_nil]
          refine List.nodup_append.2 ⟨hn, by simp, ?_⟩
          intro a ha' b hb' e
          obtain ⟨z, hz, rfl⟩ := List.mem_map.1 ha'
          simp only [List.mem_singleton] at hb'
          have := hb z hz
          omega
    | some p =>
      obtain ⟨j, u0⟩ := p
      obtain ⟨m, rfl, h2, h3, _⟩ := atK_some (v := v) ha
      rw [Nat.zero_add] at ha
      have hkey : ((es[m]?).map (·.key)).getD (K key) = K key := by
        have := encK_get (K := K) h2
        rw [← hk, kvs, List.getElem?_map, Array.getElem?_toList] at this
        cases he : es[m]? with
        | none => rfl
        | some e' => rw [he] at this; simp at this; simp [this.1]
      refine ⟨{ w with heap := w.heap.setIfInBounds g (.map (es.modify m fun e => { e with key := K key, val := v }) clock) }, ?_, ?_⟩
      · simp only [execOp, hx, hy, hu, Instr.mapUpdate, Sem.run_bind, run_underlying hm, Result.andThen_ok, MapKept.run_getObj_map hh, hc, hf, ha, hkey, KeyT.stays (P := P) (T := kt) (K := K), MapKept.run_setObj_map _ hh]
        rfl
      · refine hst.setR hp (fun F h => ⟨(h.1 g).2 rfl, hlt⟩) (fun w' F h hg' _ => ⟨h.1, _, _, hg', ?_, ?_, ?_⟩)
        · rw [kvs_modify, h3, encK_set, ← hk]
        · exact all_born hb born_modify
        · rw [born_modify]; exact hn) k
/-! ### Length, clearing, going through -/
end
end Go.Proofs.YtheonhgffglegaaDoor

/- Plain words: a disk of layer 6: what was synced, what was written and isn't. -/
namespace Go.Proofs.YtheonhgffglegaaDoor
open Go
set_option linter.unusedVariables false
set_option linter.unusedSimpArgs false

structure Sec where
  l : List UInt8
  h : l.length = 64
theorem Sec.ext' {a b : Sec} (h : a.l = b.l) : a = b := by cases a; cases b; cases h; rfl
def sec0 : Sec := ⟨List.replicate 64 0, by simp⟩
def sc (s : Sec) : List Value := s.l.map B8
theorem sc_length (s : Sec) : (sc s).length = 64 := by rw [sc, List.length_map, s.h]
theorem sc_one (s : Sec) : ∀ v ∈ sc s, v.oneCell' = true := one_B8 _
instance {s : Sec} : Len (sc s) 64 := ⟨sc_length s⟩
instance {s : Sec} : One (sc s) := One.of (sc_one s)
def updS (f : Nat → Sec) (i : Nat) (v : Sec) : Nat → Sec := fun j => if j = i then v else f j
/-! ### What was written -/
def lookW (i : Int) : List (Int × Sec) → Option Sec
  | [] => none
  | p :: l => if i = p.1 then some p.2 else lookW i l
def putW (i : Int) (v : Sec) : List (Int × Sec) → List (Int × Sec)
  | [] => [(i, v)]
  | p :: l => if i = p.1 then (i, v) :: l else p :: putW i v l
def keysW (ws : List (Int × Sec)) : List Int := ws.map (·.1)
theorem lookW_none {i : Int} : ∀ {ws : List (Int × Sec)}, i ∉ keysW ws → lookW i ws = none
  | [], _ => rfl
  | p :: l, h => by
    simp only [keysW, List.map_cons, List.mem_cons, not_or] at h
    simp only [lookW, if_neg h.1]; exact lookW_none h.2
theorem lookW_mem {i : Int} {v : Sec} : ∀ {ws : List (Int × Sec)}, (keysW ws).Nodup → (i, v) ∈ ws → lookW i ws = some v
  | p :: l, hn, h => by
    have hn' := List.nodup_cons.1 hn
    rcases List.mem_cons.1 h with rfl | h
    · simp [lookW]
    · have : i ≠ p.1 := fun e => hn'.1 (by show p.1 ∈ l.map (·.1); rw [← e]; exact List.mem_map.2 ⟨_, h, rfl⟩)
      simp only [lookW, if_neg this]; exact lookW_mem hn'.2 h
/-- A disk. -/
structure DS where
  n : Nat
  ss : Nat → Sec
  ws : List (Int × Sec)
  off : Bool
  armed : Bool
  left : Int
def DS.at (d : DS) (i : Nat) : Sec := (lookW (i : Int) d.ws).getD (d.ss i)
def oper (d : DS) : DS := if d.armed = true ∧ d.off = false then { d with off := decide (d.left = 0), left := d.left - 1 } else d
structure DOk (d : DS) : Prop where
  n : d.n ≤ 4096
  nd : (keysW d.ws).Nodup
  ks : ∀ k ∈ keysW d.ws, 0 ≤ k ∧ k < d.n
  lf : d.armed = true → d.off = false → 0 ≤ d.left
  rg : -9223372036854775808 ≤ d.left ∧ d.left ≤ 9223372036854775807
def DS.write (d : DS) (i : Int) (v : Sec) : DS := { d with ws := putW i v d.ws }
def DS.has (d : DS) (i : Int) : Bool := decide (0 ≤ i) && decide (i < d.n)
def DS.wr (d : DS) (i : Int) (v : Sec) : Nat × DS := if d.has i then (if (oper d).off then 6 else 0, if (oper d).off then oper d else (oper d).write i v) else (1, d)
def DS.rd (d : DS) (i : Int) : Nat × Sec := if d.has i then (if d.off then (6, sec0) else (0, d.at i.toNat)) else (1, sec0)
def SyncInv (d : DS) (lw : List (Int × Sec)) (f : Nat → Sec) : Prop := lw.Sublist d.ws ∧ ∀ i : Nat, f i = if (i : Int) ∈ keysW lw then d.ss i else d.at i
theorem SyncInv.start (d : DS) : SyncInv d d.ws d.ss := ⟨List.Sublist.refl _, fun i => by
  split
  · rfl
  · rename_i h; simp [DS.at, lookW_none h]⟩
theorem SyncInv.done {d : DS} {f : Nat → Sec} (h : SyncInv d [] f) (i : Nat) : f i = d.at i := by
  have := h.2 i; simpa [keysW] using this
theorem SyncInv.key {d : DS} {A B : List (Int × Sec)} {k : Int} {v : Sec} {f : Nat → Sec} (h : SyncInv d (A ++ (k, v) :: B) f) (hk : DOk d) : 0 ≤ k ∧ k < d.n :=
  hk.ks k (List.mem_map.2 ⟨(k, v), h.1.subset (by simp), rfl⟩)
theorem SyncInv.step {d : DS} {A B : List (Int × Sec)} {k : Int} {v : Sec} {f : Nat → Sec} (h : SyncInv d (A ++ (k, v) :: B) f) (hk : DOk d) : SyncInv d (A ++ B) (updS f k.toNat v) := by
  have hsub : (A ++ B).Sublist (A ++ (k, v) :: B) := List.Sublist.append (List.Sublist.refl _) (List.sublist_cons_self _ _)
  have hnd : (keysW (A ++ (k, v) :: B)).Nodup := hk.nd.sublist (h.1.map _)
  have h0 := (h.key hk).1
  have hnot : k ∉ keysW (A ++ B) := by
    simp only [keysW, List.map_append, List.map_cons] at hnd ⊢
    have h1 := List.nodup_append.1 hnd
    intro hm
    rcases List.mem_append.1 hm with hm | hm
    · exact h1.2.2 k hm k (by simp) rfl
    · exact (List.nodup_cons.1 h1.2.1).1 hm
  refine ⟨hsub.trans h.1, fun i => ?_⟩
  simp only [updS]
  by_cases hi : i = k.toNat
  · subst hi
    have e : (k.toNat : Int) = k := Int.toNat_of_nonneg h0
    rw [if_pos rfl, e, if_neg hnot, DS.at, e, lookW_mem (v := v) hk.nd (h.1.subset (by simp))]
    rfl
  · rw [if_neg hi, h.2 i]
    have : (i : Int) ∈ keysW (A ++ (k, v) :: B) ↔ (i : Int) ∈ keysW (A ++ B) := by
      have hne : (i : Int) ≠ k := by omega
      simp [keysW, hne]
    simp only [this]
end Go.Proofs.YtheonhgffglegaaDoor

/- The engine, part O: make of a slice of rows; a map's iterator in one rule; sectors. -/
namespace Go.Proofs.YtheonhgffglegaaDoor
open Go
set_option linter.unusedVariables false
set_option linter.unusedSimpArgs false
section
variable {P : Program} {w0 : World} {F0 : Nat → Prop} {L : List Res} {Q : Exit → Act → World → Prop} {n : Fm} {env : Env} {ops : Array Oper} {rest : List Oper} {ty : TypeId} {pos : String} {af : Array Edge} {gd : Option (Nat × Bool)} {d : Option Tmp}
theorem St.pick {w : World} {r : Res} {L' : List Res} (hw : St w0 F0 L w) (h : Pick L r L') : St w0 F0 (r :: L') w := hw.mapL0 fun F hF => h.stars hF
instance : DecidableEq Sec := fun a b => decidable_of_iff (a.l = b.l) ⟨Sec.ext', fun h => h ▸ rfl⟩
def Sec.b (s : Sec) : UInt8 := s.l.getD 0 0
end
section three
variable {P : Program} {w0 : World} {F0 : Nat → Prop} {K L : List Res} {Q : Exit → Act → World → Prop} {n : Fm} {env : Env} {ops : Array Oper} {listed : Array Bool} {fuel z : Nat}
/-- One of three comes. -/
theorem yo3s (i j l : Nat) {oi oj ol : Oper} (hi : ops[i]? = some oi) (hj : ops[j]? = some oj) (hl : ops[l]? = some ol)
    (ki : Gl P w0 F0 L ops (Exit.then (NextT P w0 F0 K ops Q z fuel (listed.setIfInBounds i true) n) Q) [oi] n env) (kj : Gl P w0 F0 L ops (Exit.then (NextT P w0 F0 K ops Q z fuel (listed.setIfInBounds j true) n) Q) [oj] n env)
    (kl : Gl P w0 F0 L ops (Exit.then (NextT P w0 F0 K ops Q z fuel (listed.setIfInBounds l true) n) Q) [ol] n env)
    (hr : Region.ready .any ops listed = [i, j, l] := by kernel_rfl) : Gt P w0 F0 K L ops Q z (fuel + 1) listed n env := fun w hst =>
  ⟨fun h => (by rw [hr] at h; cases h), by rw [hr]; simp, fun x hx _ => by
    rw [hr] at hx
    rcases List.mem_cons.1 hx with rfl | hx
    · exact wpOpIn_of_list hi (ki w hst)
    · rcases List.mem_cons.1 hx with rfl | hx
      · exact wpOpIn_of_list hj (kj w hst)
      · obtain rfl : x = l := by simpa using hx
        exact wpOpIn_of_list hl (kl w hst)⟩
end three
end Go.Proofs.YtheonhgffglegaaDoor

/- The engine, part V: maps that are read and not owned; delete; one cell written in a block that is owned in some way. -/
namespace Go.Proofs.YtheonhgffglegaaDoor
open Go
set_option linter.unusedVariables false
set_option linter.unusedSimpArgs false

theorem map_eraseIdx {α β : Type} (f : α → β) : ∀ (l : List α) (m : Nat), (l.map f).eraseIdx m = (l.eraseIdx m).map f
  | [], m => rfl
  | p :: l, 0 => rfl
  | p :: l, m + 1 => by simp only [List.map_cons, List.eraseIdx_cons_succ, map_eraseIdx f l m]
theorem encK_erase {α : Type} {K : α → Value} {l : List (α × Value)} {m : Nat} : encK K (l.eraseIdx m) = (encK K l).eraseIdx m := (map_eraseIdx _ l m).symm
/-- A map that is read. -/
def RdMap (w : World) (A : Nat → Prop) (g : Nat) (l : List (Value × Value)) : Prop := A g ∧ ∃ es clock, w.heap[g]? = some (.map es clock) ∧ kvs es = l
theorem RdMap.mv {w w' : World} {A A' : Nat → Prop} {g : Nat} {l : List (Value × Value)} (h : RdMap w A g l) (hk : ∀ k, k < w.heap.size → A k → w'.heap[k]? = w.heap[k]? ∧ A' k) : RdMap w' A' g l := by
  obtain ⟨hA, es, clock, hh, hkv⟩ := h
  have := hk g (Array.getElem?_eq_some_iff.1 hh).1 hA
  exact ⟨this.2, es, clock, this.1.trans hh, hkv⟩
theorem mapR.rd {g : Nat} {l : List (Value × Value)} {w : World} {F : Nat → Prop} (h : (mapR g l).on w F) : RdMap w F g l := by
  obtain ⟨hF, es, clock, hh, hk, _⟩ := h
  exact ⟨(hF g).2 rfl, es, clock, hh, hk⟩
section
variable {P : Program} {w0 : World} {F0 : Nat → Prop} {L : List Res} {Q : Exit → Act → World → Prop} {n : Fm} {env : Env} {ops : Array Oper} {rest : List Oper}
variable {d : Option Tmp} {t : Tmp} {ty : TypeId} {pos : String} {af : Array Edge} {gd : Option (Nat × Bool)}
theorem St.mapOld {w : World} (hst : St w0 F0 L w) {g : Nat} {l : List (Value × Value)} (h : RdMap w0 (fun k => ¬ F0 k) g l) : ∃ es clock, w.heap[g]? = some (.map es clock) ∧ kvs es = l := by
  obtain ⟨hA, es, clock, hh, hk⟩ := h
  obtain ⟨F, hF, hs⟩ := hst
  exact ⟨es, clock, (hs.old (Array.getElem?_eq_some_iff.1 hh).1 hA).1.trans hh, hk⟩
section
variable {α : Type} [DecidableEq α] {K : α → Value}
theorem r_looko {x y : Operand} {T kt e g : Nat} {l : List (α × Value)} {z : Value} {key : α} {b : Bool} [KeyT P kt K] (hx : ev n env x = .map (some g)) (hy : ev n env y = K key) (hm : P.underlying T = some (.map kt e)) (hz : zeroT P e = some z) (hp : RdMap w0 (fun k => ¬ F0 k) g (encK K l)) :
    Runs P w0 F0 L n env ⟨d, .lookup T x y b, ty, pos, af, gd⟩ (if b then .tuple #[(getK key l).getD z, .bool (getK key l).isSome] else (getK key l).getD z) := fun w hst => by
  obtain ⟨es, clock, hh, hk⟩ := hst.mapOld hp
  have hf := KeyT.find (P := P) (T := kt) (K := K) w key es.toList l hk
  have hc := KeyT.check (P := P) (T := kt) (K := K) w es.isEmpty key
  simp only [execOp, hx, hy, Instr.lookup, Sem.run_bind, run_underlying hm, Result.andThen_ok, MapKept.run_getObj_map hh, Sem.run_pure, hc, hf, getK]
  cases atK key l 0 with
  | none => simp only [Sem.run_bind, run_zeroT hz, Result.andThen_ok, Sem.run_pure]; cases b <;> rfl
  | some p => simp only [Sem.run_pure, Result.andThen_ok]; cases b <;> rfl
theorem delK_none {k : α} {l : List (α × Value)} (h : atK k l 0 = none) : delK k l = l := (atK_none (v := .nilIface) h).2
theorem gl_ins {x y u : Operand} {T kt e g : Nat} {l : List (α × Value)} {L' : List Res} {key : α} {v : Value} [KeyT P kt K] (hw : Wt ops n env ⟨d, .insert T x y u, ty, pos, af, gd⟩ true) (hx : ev n env x = .map (some g)) (hy : ev n env y = K key) (hu : ev n env u = v)
    (hm : P.underlying T = some (.map kt e)) (hp : Pick L (mapR g (encK K l)) L') (k : Gl P w0 F0 (mapR g (encK K (putK key v l)) :: L') ops Q rest n (pu d undef env)) : Gl P w0 F0 L ops Q (⟨d, .insert T x y u, ty, pos, af, gd⟩ :: rest) n env :=
  gl_skip hw (fun w hst => by
    obtain ⟨es, clock, hh, hk, hb, hn⟩ := hst.mapAt hp
    have hlt : g < w.heap.size := (Array.getElem?_eq_some_iff.1 hh).1
    have hf := KeyT.find (P := P) (T := kt) (K := K) w key es.toList l hk
    have hc := KeyT.check (P := P) (T := kt) (K := K) w false key
    cases ha : atK key l 0 with
    | none =>
      refine ⟨{ w with heap := w.heap.setIfInBounds g (.map (es.push ⟨K key, v, clock⟩) (clock + 1)) }, ?_, ?_⟩
      · simp only [execOp, hx, hy, hu, Instr.mapUpdate, Sem.run_bind, run_underlying hm, Result.andThen_ok, MapKept.run_getObj_map hh, hc, hf, ha, MapKept.run_setObj_map _ hh]
        rfl
      · refine hst.setR hp (fun F h => ⟨(h.1 g).2 rfl, hlt⟩) (fun w' F h hg' _ => ⟨h.1, _, _, hg', ?_, ?_, ?_⟩)
        · rw [(atK_none (v := v) ha).1, encK_append, ← hk]; simp [kvs]
        · intro z hz
          simp only [Array.toList_push, List.mem_append, List.mem_singleton] at hz
          rcases hz with hz | rfl
          · have := hb z hz; omega
          · exact Nat.lt_succ_self _
        · simp only [Array.toList_push, List.map_append, List.map_cons, List.map_nil]
          refine List.nodup_append.2 ⟨hn, by simp, ?_⟩
          intro a ha' b hb' e
          obtain ⟨z, hz, rfl⟩ := List.mem_map.1 ha'
          simp only [List.mem_singleton] at hb'
          have := hb z hz
          omega
    | some p =>
      obtain ⟨j, u0⟩ := p
      obtain ⟨m, rfl, h2, h3, _⟩ := atK_some (v := v) ha
      rw [Nat.zero_add] at ha
      have hkey : ((es[m]?).map (·.key)).getD (K key) = K key := by
        have := encK_get (K := K) h2
        rw [← hk, kvs, List.getElem?_map, Array.getElem?_toList] at this
        cases he : es[m]? with
        | none => rfl
        | some e' => rw [he] at this; simp at this; simp [this.1]
      refine ⟨{ w with heap := w.heap.setIfInBounds g (.map (es.modify m fun e => { e with key := K key, val := v }) clock) }, ?_, ?_⟩
      · simp only [execOp, hx, hy, hu, Instr.mapUpdate, Sem.run_bind, run_underlying hm, Result.andThen_ok, MapKept.run_getObj_map hh, hc, hf, ha, hkey, KeyT.stays (P := P) (T := kt) (K := K), MapKept.run_setObj_map _ hh]
        rfl
      · refine hst.setR hp (fun F h => ⟨(h.1 g).2 rfl, hlt⟩) (fun w' F h hg' _ => ⟨h.1, _, _, hg', ?_, ?_, ?_⟩)
        · rw [kvs_modify, h3, encK_set, ← hk]
        · exact all_born hb born_modify
        · rw [born_modify]; exact hn) k
end
theorem r_lenmo {x : Operand} {T kt e g : Nat} {l : List (Value × Value)} (hx : ev n env x = .map (some g)) (hm : P.underlying T = some (.map kt e)) (hp : RdMap w0 (fun k => ¬ F0 k) g l) :
    Runs P w0 F0 L n env ⟨d, .call ⟨.builtin .len, #[x], #[T]⟩, ty, pos, af, gd⟩ (.int .i64 (l.length : Int)) := fun w hst => by
  obtain ⟨es, clock, hh, hk⟩ := hst.mapOld hp
  have hl : es.size = l.length := by rw [← hk, kvs_length]
  simp [execOp, resolve, invoke, builtin, Builtin.len_, hx, run_underlying hm, MapKept.run_getObj_map hh, goInt, hl]
theorem updL_row {xs tl hd new : List Value} {o : Nat} (hh : hd.length = o) {i : Nat} (h : i + new.length ≤ xs.length) : updL (hd ++ (xs ++ tl)) (o + i) new = hd ++ (updL xs i new ++ tl) := by
  subst hh
  unfold updL
  rw [List.take_append, List.drop_append, List.take_of_length_le (by omega), List.drop_eq_nil_of_le (by omega), List.nil_append, show hd.length + i - hd.length = i by omega, show hd.length + i + new.length - hd.length = i + new.length by omega,
    List.take_append_of_le_length (by omega), List.drop_append_of_le_length h]
  simp
theorem flattenV_set {size : Nat} : ∀ {css : List (List Value)} {i : Nat} {c : List Value}, (∀ c ∈ css, c.length = size) → c.length = size → i < css.length → updL css.flatten (i * size) c = (css.set i c).flatten
  | [], i, c, _, _, h => by simp at h
  | d :: l, 0, c, h, hc, _ => by
    have hd := h d (by simp)
    simp only [Nat.zero_mul, List.flatten_cons, List.set_cons_zero, updL, List.take_zero, List.nil_append, Nat.zero_add]
    rw [hc, ← hd, List.drop_left]
  | d :: l, i + 1, c, h, hc, hi => by
    have hd := h d (by simp)
    have ih := flattenV_set (css := l) (i := i) (c := c) (fun c' hc' => h c' (by simp [hc'])) hc (by simpa using hi)
    have hl := flatten_len (fun c' hc' => h c' (List.mem_cons_of_mem d hc'))
    simp only [List.length_cons] at hi
    have e := updL_row (hd := d) (xs := l.flatten) (tl := []) (new := c) (i := i * size) hd (by rw [hl, hc]; have := Nat.mul_le_mul_right size (show i + 1 ≤ l.length by omega); rw [Nat.add_mul, Nat.one_mul] at this; exact this)
    simp only [List.append_nil] at e
    rw [List.flatten_cons, List.set_cons_succ, List.flatten_cons, ← ih, ← e]
    congr 1
    rw [Nat.add_mul, Nat.one_mul, Nat.add_comm]
/-- An element of a row that is owned is written over. -/
theorem gl_stRow {T : TypeId} {x y : Operand} {g o o2 e size m c i : Nat} {css : List (List Value)} {new : List Value} {L' : List Res} (hw : Wt ops n env ⟨none, .store T x y, ty, pos, af, gd⟩ true)
    (hx : ev n env x = .pointer (some ⟨g, o2, none⟩)) (ho : o2 = o + i * size) (hy : ev n env y = .agg new.toArray) (hs : szT P T = some size) (hn : new.length = size) (h1 : ∀ u ∈ new, u.oneCell' = true) (hc : ∀ c ∈ css, c.length = size) (hi : i < css.length)
    (hp : Pick L (rowR e size (some ⟨g, o, none⟩) m c css.flatten) L') (k : Gl P w0 F0 (rowR e size (some ⟨g, o, none⟩) m c (css.set i new).flatten :: L') ops Q rest n env) : Gl P w0 F0 L ops Q (⟨none, .store T x y, ty, pos, af, gd⟩ :: rest) n env :=
  gl_skip hw (fun w hst => by
    obtain ⟨F, hF, hstp⟩ := hst
    obtain ⟨F1, ⟨hl1, hmc, hcm, hor⟩, _⟩ := stars_pick hp hF
    rcases hor with ⟨h, _⟩ | ⟨g', o', cs, fz, ha, hFg, hg, hz, hcs, hxs⟩
    · cases h
    cases ha
    have hlf := flatten_len hc
    have hcl : css.length * size = m * size := by rw [← hlf]; exact hl1
    have him : (i + 1) * size ≤ m * size := by rw [← hcl]; exact Nat.mul_le_mul_right size hi
    have hms : m * size ≤ c * size := Nat.mul_le_mul_right size hmc
    rw [Nat.add_mul, Nat.one_mul] at him
    have hrun := run_storeCells_blk (P := P) (T := e) (fz := fz) g (o + i * size) new 0 cs.toList w (by simpa using hg) (by simpa using hz) (by simp; omega) h1
    rw [Nat.add_zero] at hrun
    have hsp : cs.toList = cs.toList.take o ++ (css.flatten ++ (cs.toList.drop o).drop (m * size)) := by
      rw [← hxs, List.take_append_drop, List.take_append_drop]
    have hu : updL cs.toList (o + i * size) new = cs.toList.take o ++ ((css.set i new).flatten ++ (cs.toList.drop o).drop (m * size)) := by
      conv => lhs; rw [hsp]
      rw [updL_row (by rw [List.length_take]; simp; omega) (by rw [hlf, hn]; omega), flattenV_set hc hn hi]
    have hfl : (css.set i new).flatten.length = m * size := by
      rw [flatten_len (size := size) (fun c' hc' => by rcases List.mem_or_eq_of_mem_set hc' with h | h; exact hc c' h; (subst h; exact hn)), List.length_set, hcl]
    have hsz : (updL cs.toList (o + i * size) new).length = cs.size := by rw [updL_length (by simp; omega)]; simp
    refine ⟨_, ?_, St.setR (g := g) (o' := .cells (updL cs.toList (o + i * size) new).toArray e fz) (r' := rowR e size (some ⟨g, o, none⟩) m c (css.set i new).flatten) ⟨F, hF, hstp⟩ hp (fun F2 h2 => ?_) (fun w' F2 h2 hg' hk' => ?_)⟩
    · have hv : (Value.agg new.toArray).cells.size = size := by simp [Value.cells, hn]
      subst ho
      simp [execOp, hx, hy, Instr.storeAt, Instr.sureAddr, storeVar, Value.cells, hn, run_sz hs, hrun]
    · obtain ⟨_, _, _, h2⟩ := h2
      rcases h2 with ⟨h, _⟩ | ⟨g', o', _, _, ha, hF2, _⟩
      · cases h
      · cases ha; exact ⟨(hF2 g).2 rfl, (Array.getElem?_eq_some_iff.1 hg).1⟩
    · obtain ⟨_, _, _, h2⟩ := h2
      rcases h2 with ⟨h, _⟩ | ⟨g', o', _, _, ha, hF2, _⟩
      · cases h
      · cases ha
        refine ⟨hfl, hmc, hcm, .inr ⟨g, o, _, fz, rfl, hF2, hg', ?_, ?_, ?_⟩⟩
        · simpa [hsz] using hz
        · simpa [hsz] using hcs
        · simp only []
          rw [hu, List.drop_append, List.drop_eq_nil_of_le (by rw [List.length_take]; omega), List.nil_append, List.length_take, Nat.min_eq_left (by simp; omega), Nat.sub_self, List.drop_zero, List.take_append_of_le_length (by omega), List.take_of_length_le (by omega)]) k
theorem gx_rettcct {fn : Func} {R : Ending → World → Prop} {s t u v : Tmp} {U V : TypeId} {a b : Addr} {x y z1 z2 : Value} (hr : fn.results = #[.tmp s, .cell t U, .cell u V, .tmp v]) (ht : ev n env (.tmp t) = .pointer (some a)) (hu : ev n env (.tmp u) = .pointer (some b)) (hs : ev n env (.tmp s) = z1) (hv : ev n env (.tmp v) = z2)
    (hl : ∀ w, St w0 F0 L w → (loadVar U a).run P w = .ok x w) (hl2 : ∀ w, St w0 F0 L w → (loadVar V b).run P w = .ok y w) (hR : ∀ w, St w0 F0 L w → R (.returned (.tuple #[z1, x, y, z2])) w) (hd : n.ds = [] := by rfl) : Gx w0 F0 L (bodyPost P fn R) .ret n env :=
  gx_end (fun w hw => by simp [results, hr, fr_tmp' ht, fr_tmp' hu, fr_tmp' hs, fr_tmp' hv, asAddr, hl w hw, hl2 w hw]) hR hd
/-- The loop's record ahead of all. -/
theorem gx_lp {l : Nat} {r : Loop} {L' : List Res} {e : Exit} (hp : Pick L (lpR l r) L') (h : Gx w0 F0 (lpR l r :: L') Q e n env) : Gx w0 F0 L Q e n env := fun w hw => h w (hw.pick hp)
end
end Go.Proofs.YtheonhgffglegaaDoor

/- The engine, part P: bytes in a row of one's own. -/
namespace Go.Proofs.YtheonhgffglegaaDoor
open Go
set_option linter.unusedVariables false
set_option linter.unusedSimpArgs false
section
variable {P : Program} {w0 : World} {F0 : Nat → Prop} {L : List Res} {Q : Exit → Act → World → Prop} {n : Fm} {env : Env} {ops : Array Oper} {rest : List Oper} {ty : TypeId} {pos : String} {af : Array Edge} {gd : Option (Nat × Bool)} {d : Option Tmp}
theorem r_nepn {x : Operand} {T T' e : TypeId} {a : Option Addr} (hx : ev n env x = .pointer a := by exact rfl) (ht : P.underlying T = some (.pointer e)) :
    Runs P w0 F0 L n env ⟨d, .binOp .neq T x (.const (.pointer none)) T', ty, pos, af, gd⟩ (.bool (!a.isNone)) := fun w _ => by
  have h : ∀ d : Nat, (Op.equalIn (d + 1) T (.pointer a) (.pointer none)).run P w = .ok a.isNone w := fun d => by
    cases a <;> simp [Op.equalIn, run_underlying ht]
  have h9 := h 9999
  have hc : ev n env (.const (.pointer none)) = .pointer none := rfl
  simp only [execOp, hx, hc]
  simp [eqGuard, binOp, Op.equal, Op.maxDepth, h9]
end
end Go.Proofs.YtheonhgffglegaaDoor

/- Walks, by program (wg.py) out of a spec. -/
namespace Go.Proofs.YtheonhgffglegaaDoor
open Go
set_option linter.unusedVariables false
set_option linter.unusedSimpArgs false

/-- A reading of cells that stays as long as its blocks stay. -/
class RdK {α : Type} (rd : World → (Nat → Prop) → List Value → α → Prop) : Prop where
  mv : ∀ {w w' : World} {A A' : Nat → Prop} {cs : List Value} {x : α}, rd w A cs x → Still w A w' A' → rd w' A' cs x
instance : RdK (fun _ _ => RdDig) := ⟨fun h _ => h⟩
instance : RdK (fun _ _ => RdVdr) := ⟨fun h _ => h⟩
instance : RdK RdBytes := ⟨fun h k => h.mv k⟩
instance : RdK RdSig := ⟨fun h k => h.mv k⟩
instance : RdK RdSigned := ⟨fun h k => h.mv k⟩
instance : RdK RdLate := ⟨fun h k => h.mv k⟩
instance : RdK RdQC := ⟨fun h k => h.mv k⟩
instance : RdK RdTC := ⟨fun h k => h.mv k⟩
instance : RdK RdBlock := ⟨fun h k => h.mv k⟩
instance : RdK RdVote := ⟨fun h k => h.mv k⟩
instance : RdK RdTmo := ⟨fun h k => h.mv k⟩
instance : RdK RdProp := ⟨fun h k => h.mv k⟩
instance : RdK RdChg := ⟨fun h k => h.mv k⟩
instance : RdK RdMsg := ⟨fun h k => h.mv k⟩
theorem still_of {w w' : World} {F : Nat → Prop} (hk : ∀ k, k < w.heap.size → F k → w'.heap[k]? = w.heap[k]?) : Still w F w' F := fun k h hF => ⟨hk k h hF, hF⟩
theorem still_sub {w : World} {F G : Nat → Prop} (h : ∀ k, F k → G k) : Still w F w G := fun k _ hF => ⟨rfl, h k hF⟩
section
variable {α : Type} (rd : World → (Nat → Prop) → List Value → α → Prop) [RdK rd]
/-- Cells that read as x, in blocks that are owned. -/
def VlR (cs : List Value) (x : α) : Res := rdR (fun w F => rd w F cs x) (fun h hk => RdK.mv h (still_of hk))
/-- A slice that reads as l, all of it owned. -/
def LsR (size : Nat) (a : Option Addr) (n : Nat) (l : List α) : Res := rdR (fun w F => RdList (rd w F) w F size a n l) (fun h hk => RdList.mv h (still_of hk) fun _ _ hc => RdK.mv hc (still_of hk))
/-- Elements: what lies behind their cells. -/
def ElR (css : List (List Value)) (l : List α) : Res := rdR (fun w F => css.length = l.length ∧ ∀ (i : Nat) (c : List Value) (x : α), css[i]? = some c → l[i]? = some x → rd w F c x) (fun h hk => ⟨h.1, fun i c x h1 h2 => RdK.mv (h.2 i c x h1 h2) (still_of hk)⟩)
end
theorem stars_two {r s : Res} {w : World} {F : Nat → Prop} (h : stars [r, s] w F) : ∃ F1 F2, r.on w F1 ∧ s.on w F2 ∧ ∀ k, F k ↔ F1 k ∨ F2 k := by
  obtain ⟨F1, F2, h1, h2, hF, _⟩ := h
  exact ⟨F1, F2, h1, stars_one' h2, hF⟩
theorem stars_swap {r s : Res} {L : List Res} {w : World} {F : Nat → Prop} (h : stars (r :: s :: L) w F) : stars (s :: r :: L) w F := Pick.stars (.there .here) h
theorem stars_cons {r : Res} {L : List Res} {w : World} {F : Nat → Prop} (h : stars (r :: L) w F) : ∃ F1 F2, r.on w F1 ∧ stars L w F2 ∧ ∀ k, F k ↔ F1 k ∨ F2 k := by
  obtain ⟨F1, F2, h1, h2, hF, _⟩ := h; exact ⟨F1, F2, h1, h2, hF⟩
theorem rdR_mk {φ : World → (Nat → Prop) → Prop} {hl} {w : World} {F : Nat → Prop} {L : List Res} (h : φ w F) (hs : stars L w F) : stars [rdR φ hl] w F := stars_one ⟨h, stars_ok hs⟩
section
variable {α : Type} {rd : World → (Nat → Prop) → List Value → α → Prop} [RdK rd]
theorem el_nil {L : List Res} {w : World} {F : Nat → Prop} (h : stars L w F) : stars (ElR rd [] [] :: L) w F :=
  ⟨fun _ => False, F, ⟨⟨rfl, fun i c x h1 _ => by simp at h1⟩, fun _ h => h.elim⟩, h, fun k => by simp, fun _ h => h.elim⟩
theorem el_snoc {css : List (List Value)} {l : List α} {c : List Value} {x : α} {w : World} {F : Nat → Prop} (h : stars [ElR rd css l, VlR rd c x] w F) : stars [ElR rd (css ++ [c]) (l ++ [x])] w F := by
  obtain ⟨F1, F2, h1, h2, hF⟩ := stars_two h
  obtain ⟨⟨he, h1⟩, _⟩ := h1
  refine rdR_mk ⟨by simp [he], fun i c' x' hc hx => ?_⟩ h
  by_cases hi : i < css.length
  · rw [List.getElem?_append_left hi] at hc
    rw [List.getElem?_append_left (by omega)] at hx
    exact RdK.mv (h1 i c' x' hc hx) (still_sub fun k hk => (hF k).2 (.inl hk))
  · have hi' : i = css.length := by
      have := (List.getElem?_eq_some_iff.1 hc).1; simp at this; omega
    subst hi'
    rw [List.getElem?_append_right (by omega)] at hc hx
    simp only [Nat.sub_self, List.getElem?_cons_zero, Option.some.injEq] at hc
    simp only [he, Nat.sub_self, List.getElem?_cons_zero, Option.some.injEq] at hx
    subst hc; subst hx
    exact RdK.mv h2.1 (still_sub fun k hk => (hF k).2 (.inr hk))
theorem ls_of {e size n cap : Nat} {a : Option Addr} {css : List (List Value)} {l : List α} {w : World} {F : Nat → Prop} (hsz : ∀ c ∈ css, c.length = size) (h : stars [rowR e size a n cap css.flatten, ElR rd css l] w F) : stars [LsR rd size a n l] w F := by
  obtain ⟨F1, F2, h1, h2, hF⟩ := stars_two h
  obtain ⟨⟨he, h2⟩, _⟩ := h2
  exact rdR_mk ⟨css, (rowR.rd h1).mv (still_sub fun k hk => (hF k).2 (.inl hk)), hsz, he, fun i c x hc hx => RdK.mv (h2 i c x hc hx) (still_sub fun k hk => (hF k).2 (.inr hk))⟩ h
end
theorem St.pureI {w0 w : World} {F0 : Nat → Prop} {L : List Res} {p : Prop} (hp : p) (h : St w0 F0 L w) : St w0 F0 (pureR p :: L) w := by
  obtain ⟨F, hF, hst⟩ := h; exact ⟨F, stars_pure_mk hp hF, hst⟩
theorem St.mapL {w0 w : World} {F0 : Nat → Prop} {L L' : List Res} (h : St w0 F0 L w) (k : ∀ F, stars L w F → stars L' w F) : St w0 F0 L' w := by
  obtain ⟨F, hF, hst⟩ := h; exact ⟨F, k F hF, hst⟩
section
variable {w : World} {F : Nat → Prop}
theorem vl_pure {α : Type} {rd : World → (Nat → Prop) → List Value → α → Prop} [RdK rd] {L : List Res} {cs : List Value} {x : α} (h : rd w (fun _ => False) cs x) (hs : stars L w F) : stars (VlR rd cs x :: L) w F :=
  ⟨fun _ => False, F, ⟨h, fun _ h => h.elim⟩, hs, fun k => by simp, fun _ h => h.elim⟩
theorem St.vl {α : Type} {rd : World → (Nat → Prop) → List Value → α → Prop} [RdK rd] {w0 : World} {F0 : Nat → Prop} {L : List Res} {cs : List Value} {x : α} (hs : St w0 F0 L w) (h : rd w (fun _ => False) cs x) : St w0 F0 (VlR rd cs x :: L) w := hs.mapL fun F hF => vl_pure h hF
theorem vl_sig {leaf : Int} {a1 a2 : Option Addr} {n1 c1 n2 c2 : Nat} {l1 l2 : List Dig} (k1 : n1 ≤ c1) (k2 : n2 ≤ c2) (h : stars [LsR (fun _ _ => RdDig) 16 a1 n1 l1, LsR (fun _ _ => RdDig) 16 a2 n2 l2] w F) : stars [VlR RdSig [.int .i64 leaf, .slice a1 n1 c1, .slice a2 n2 c2] ⟨leaf, l1, l2⟩] w F := by
  obtain ⟨F1, F2, h1, h2, hF⟩ := stars_two h
  exact rdR_mk ⟨a1, n1, c1, a2, n2, c2, rfl, k1, k2, RdList.mv h1.1 (still_sub fun k hk => (hF k).2 (.inl hk)) fun _ _ h => h, RdList.mv h2.1 (still_sub fun k hk => (hF k).2 (.inr hk)) fun _ _ h => h⟩ h
theorem vl_signed {who : Int} {ss : List Value} {s : Sig} (h : stars [VlR RdSig ss s] w F) : stars [VlR RdSigned (.int .i64 who :: ss) ⟨who, s⟩] w F := rdR_mk ⟨ss, rfl, (stars_one' h).1⟩ h
theorem vl_qc {e r : Int} {d : Dig} {a : Option Addr} {n c : Nat} {l : List Signed} (k : n ≤ c) (h : stars [LsR RdSigned 4 a n l] w F) : stars [VlR RdQC (.int .i64 e :: .int .i64 r :: (dc d ++ [.slice a n c])) ⟨e, r, d, l⟩] w F := rdR_mk ⟨a, n, c, rfl, k, (stars_one' h).1⟩ h
theorem vl_bytes {e n c : Nat} {a : Option Addr} {b : List UInt8} (h : stars [rowR e 1 a n c (b.map B8)] w F) : stars [VlR RdBytes [.slice a n c] b] w F := by
  have hr := stars_one' h
  exact rdR_mk ⟨a, n, c, rfl, hr.2.1, rowR.rd hr⟩ h
theorem vl_block {e r : Int} {d : Dig} {q : List Value} {x : QC} {a1 a2 : Option Addr} {n1 c1 n2 c2 : Nat} {l1 : List (List UInt8)} {l2 : List Vdr} (k1 : n1 ≤ c1) (k2 : n2 ≤ c2)
    (h : stars [VlR RdQC q x, LsR RdBytes 1 a1 n1 l1, LsR (fun _ _ => RdVdr) 17 a2 n2 l2] w F) : stars [VlR RdBlock (.int .i64 e :: .int .i64 r :: (dc d ++ (q ++ [.slice a1 n1 c1, .slice a2 n2 c2]))) ⟨e, r, d, x, l1, l2⟩] w F := by
  obtain ⟨F1, F2, h1, h2, hF⟩ := stars_cons h
  obtain ⟨F3, F4, h3, h4, hF2⟩ := stars_two h2
  have s3 : ∀ k, F3 k → F k := fun k hk => (hF k).2 (.inr ((hF2 k).2 (.inl hk)))
  exact rdR_mk ⟨q, a1, n1, c1, a2, n2, c2, rfl, h1.1.mv (still_sub fun k hk => (hF k).2 (.inl hk)), k1, RdList.mv h3.1 (still_sub s3) fun _ _ h => h.mv (still_sub s3), k2, RdList.mv h4.1 (still_sub fun k hk => (hF k).2 (.inr ((hF2 k).2 (.inr hk)))) fun _ _ h => h⟩ h
end
instance : Len blkC 39 := ⟨rfl⟩
instance : Len qcC 19 := ⟨rfl⟩
theorem one_qcC : ∀ v ∈ qcC, v.oneCell' = true := (rdQC0 (w := default) (A := fun _ => True)).one
instance : One qcC := ⟨one_qcC⟩
instance : One blkC := ⟨(rdBlock0 (w := default) (A := fun _ => True)).one⟩
section
variable {P : Program} {w0 w : World} {F F0 : Nat → Prop} {L L' : List Res} {Q : Exit → Act → World → Prop} {n : Fm} {env : Env} {ops : Array Oper} {rest : List Oper}
theorem St.rowAt {e size a m c} {xs : List Value} (hw : St w0 F0 L w) (hp : Pick L (rowR e size a m c xs) L') (hm : 0 < m) : m ≤ c ∧ ∃ g o, a = some ⟨g, o, none⟩ := by
  obtain ⟨F, hF, _⟩ := hw
  obtain ⟨F1, ⟨h1, h2, h3, h4⟩, _⟩ := stars_pick hp hF
  refine ⟨h2, ?_⟩
  rcases h4 with ⟨_, hc, _⟩ | ⟨g, o, _, _, ha, _⟩
  · omega
  · exact ⟨g, o, ha⟩
theorem r_ldRow {d : Option Tmp} {ty : TypeId} {pos : String} {af : Array Edge} {gd : Option (Nat × Bool)} {x : Operand} {T e g o m c s i : Nat} {css : List (List Value)} {cs : List Value} {L' : List Res} (hx : ev n env x = .pointer (some ⟨g, o + i * s, none⟩)) (hr : rowT P T = some true) (hs : szT P T = some s)
    (hp : Pick L (rowR e s (some ⟨g, o, none⟩) m c css.flatten) L') (hcs : ∀ c ∈ css, c.length = s) (hi : css[i]? = some cs) (him : i < m) : Runs P w0 F0 L n env ⟨d, .load T x, ty, pos, af, gd⟩ (.agg cs.toArray) := r_load hx fun w hw => by
  obtain ⟨g', o', ha, _, _, hra⟩ := (hw.row hp).elem him
  cases ha
  rw [flatten_at hcs hi] at hra
  exact run_loadVar_agg hr hs (hcs cs (List.mem_of_getElem? hi)) fun j v hj => hra j v hj
end
theorem vl_rd {α : Type} {rd : World → (Nat → Prop) → List Value → α → Prop} [RdK rd] {L L' : List Res} {w : World} {F1 F2 : Nat → Prop} {cs : List Value} {x : α} (h2 : stars L w F2) (hd : ∀ k, F1 k → ¬ F2 k) (hp : Pick L (VlR rd cs x) L') : rd w (fun k => ¬ F1 k) cs x := by
  obtain ⟨G1, G2, ⟨h, _⟩, _, hF, _⟩ := hp.stars h2
  exact RdK.mv h fun k _ hk => ⟨rfl, fun h1 => hd k h1 ((hF k).2 (.inl hk))⟩
theorem St.el {α : Type} {rd : World → (Nat → Prop) → List Value → α → Prop} [RdK rd] {w0 w : World} {F0 : Nat → Prop} {L L' : List Res} {css : List (List Value)} {l : List α} (h : St w0 F0 L w) (hp : Pick L (ElR rd css l) L') : css.length = l.length ∧ ∀ (i : Nat) (c : List Value) (x : α), css[i]? = some c → l[i]? = some x → ∃ w A, rd w A c x := by
  obtain ⟨F, hF, _⟩ := h
  obtain ⟨F1, ⟨⟨h1, h2⟩, _⟩, _⟩ := stars_pick hp hF
  exact ⟨h1, fun i c x hc hx => ⟨w, F1, h2 i c x hc hx⟩⟩
def allOr (n : Nat) (y : Bool) : Option Nat := if y = true then some n else none
theorem u64_rem (a : Int) {m : Nat} (hm : 0 < m) : (IntKind.u64.wrap a).tmod (m : Int) = ((((IntKind.u64.wrap a).tmod (m : Int)).toNat : Nat) : Int) ∧ ((IntKind.u64.wrap a).tmod (m : Int)).toNat < m := by
  have h0 : 0 ≤ IntKind.u64.wrap a := by simp [IntKind.wrap, IntKind.bits, IntKind.signed]; omega
  have h1 := Int.tmod_lt_of_pos (IntKind.u64.wrap a) (show (0 : Int) < (m : Int) by omega)
  have h2 := Int.tmod_nonneg (m : Int) h0
  omega

end Go.Proofs.YtheonhgffglegaaDoor

/- Plain words: trees of blocks that certificates join. No program in sight. -/
namespace Go.Proofs.YtheonhgffglegaaDoor
set_option linter.unusedVariables false
set_option linter.unusedSimpArgs false

def smSig (s : Sig) : Prop := s.chains.length ≤ 1099511627776 ∧ s.path.length ≤ 1099511627776
def smQC (q : QC) : Prop := q.votes.length ≤ 1099511627776 ∧ ∀ s ∈ q.votes, smSig s.sig
def smBlk (b : Block) : Prop := smQC b.justify ∧ b.next.length ≤ 1099511627776 ∧ b.payload.length ≤ 1099511627776 ∧ ∀ x ∈ b.payload, x.length ≤ 1099511627776
structure Tr where
  root : Dig
  nodes : List (Dig × Block)
  certs : List QC
def lkN (d : Dig) : List (Dig × Block) → Option Block
  | [] => none
  | p :: l => if d = p.1 then some p.2 else lkN d l
def fitsQ (q : QC) (d : Dig) (b : Block) : Bool := decide (q.block = d ∧ q.epoch = b.epoch ∧ q.round = b.round)
def certF (d : Dig) : List QC → Option QC
  | [] => none
  | q :: l => if q.block = d then some q else certF d l
/-- A block's id, its parent's, and so on. -/
def upF (t : Tr) : Nat → Dig → List (Dig × Block)
  | 0, _ => []
  | n + 1, d => match lkN d t.nodes with
    | none => []
    | some b => (d, b) :: (if d = t.root then [] else upF t n b.parent)
def upL (t : Tr) (d : Dig) : List (Dig × Block) := upF t t.nodes.length d
def keysT (t : Tr) : List Dig := t.nodes.map (·.1)
structure TOk (t : Tr) : Prop where
  nd : (keysT t).Nodup
  hd : ∃ b r, t.nodes = (t.root, b) :: r
  par : ∀ i d b, t.nodes[i + 1]? = some (d, b) → ∃ j p, j ≤ i ∧ t.nodes[j]? = some (b.parent, p)
  le : t.nodes.length ≤ 16
  ce : 0 < t.certs.length
  cn : (t.certs.map (fun q => q.block)).Nodup
  ck : ∀ q ∈ t.certs, q.block ∈ keysT t
  sb : ∀ d b, lkN d t.nodes = some b → smBlk b
  sq : ∀ q ∈ t.certs, smQC q
theorem nodup_le {α : Type} [DecidableEq α] : ∀ {l m : List α}, l.Nodup → (∀ x ∈ l, x ∈ m) → l.length ≤ m.length
  | [], m, _, _ => Nat.zero_le _
  | a :: l, m, hn, hs => by
    simp only [List.nodup_cons] at hn
    have h1 := nodup_le (l := l) (m := m.erase a) hn.2 fun x hx => (List.mem_erase_of_ne (fun e => hn.1 (by rw [← e]; exact hx))).2 (hs x (List.mem_cons_of_mem _ hx))
    have h2 := List.length_erase_of_mem (hs a List.mem_cons_self)
    have h3 := List.length_pos_of_mem (hs a List.mem_cons_self)
    simp only [List.length_cons]; omega
theorem TOk.cl {t : Tr} (h : TOk t) : t.certs.length ≤ 16 := by
  have h1 := nodup_le h.cn (m := keysT t) fun x hx => by obtain ⟨q, hq, rfl⟩ := List.mem_map.1 hx; exact h.ck q hq
  have h2 := h.le
  simp only [List.length_map, keysT] at h1
  omega
theorem lkN_some {d : Dig} {b : Block} : ∀ {l : List (Dig × Block)}, lkN d l = some b → ∃ i : Nat, l[i]? = some (d, b)
  | [], h => by cases h
  | p :: l, h => by
    unfold lkN at h
    split at h
    · rename_i e; cases h; exact ⟨0, by subst e; rfl⟩
    · obtain ⟨i, hi⟩ := lkN_some h; exact ⟨i + 1, hi⟩
theorem lkN_none {d : Dig} : ∀ {l : List (Dig × Block)}, lkN d l = none ↔ d ∉ l.map (fun p => p.1)
  | [] => by simp [lkN]
  | p :: l => by
    unfold lkN
    split
    · rename_i e; simp [e]
    · rename_i e; rw [lkN_none]; simp [e]
theorem lkN_at {d : Dig} {b : Block} : ∀ {l : List (Dig × Block)} {i : Nat}, (l.map (fun p => p.1)).Nodup → l[i]? = some (d, b) → lkN d l = some b
  | [], i, _, h => by simp at h
  | p :: l, 0, _, h => by simp at h; subst h; simp [lkN]
  | p :: l, i + 1, hn, h => by
    simp only [List.map_cons, List.nodup_cons] at hn
    simp only [List.getElem?_cons_succ] at h
    unfold lkN
    rw [if_neg (fun e => hn.1 (by rw [← e]; exact List.mem_map.2 ⟨_, List.mem_of_getElem? h, rfl⟩)), lkN_at hn.2 h]
theorem lkN_append {d : Dig} {l m : List (Dig × Block)} : lkN d (l ++ m) = (lkN d l).orElse (fun _ => lkN d m) := by
  induction l with
  | nil => simp [lkN]
  | cons p l ih => simp only [List.cons_append, lkN]; split <;> simp [ih]
/-- More fuel changes nothing. -/
theorem upF_more {t : Tr} (h : TOk t) : ∀ (i : Nat) (d : Dig) (b : Block) (n m : Nat), t.nodes[i]? = some (d, b) → i < n → i < m → upF t n d = upF t m d := by
  intro i
  induction i using Nat.strongRecOn with
  | ind i ih =>
    intro d b n m hi hn hm
    obtain ⟨n, rfl⟩ : ∃ k, n = k + 1 := ⟨n - 1, by omega⟩
    obtain ⟨m, rfl⟩ : ∃ k, m = k + 1 := ⟨m - 1, by omega⟩
    unfold upF
    have hl := lkN_at h.nd hi
    rw [hl]
    simp only
    split
    · rfl
    · rename_i hne
      congr 1
      cases i with
      | zero =>
        obtain ⟨b0, r, hb⟩ := h.hd
        rw [hb] at hi; simp at hi; exact absurd hi.1.symm hne
      | succ i =>
        obtain ⟨j, p, hj, hp⟩ := h.par i d b hi
        exact ih j (by omega) b.parent p n m hp (by omega) (by omega)
theorem upL_step {t : Tr} (h : TOk t) {d : Dig} {b : Block} (hl : lkN d t.nodes = some b) : upL t d = (d, b) :: (if d = t.root then [] else upL t b.parent) := by
  obtain ⟨i, hi⟩ := lkN_some hl
  have hlt : i < t.nodes.length := (List.getElem?_eq_some_iff.1 hi).1
  obtain ⟨n, hn⟩ : ∃ k, t.nodes.length = k + 1 := ⟨t.nodes.length - 1, by omega⟩
  have e : upL t d = upF t (n + 1) d := by unfold upL; rw [hn]
  rw [e]
  simp only [upF, hl]
  split
  · rfl
  · rename_i hne
    congr 1
    cases i with
    | zero =>
      obtain ⟨b0, r, hb⟩ := h.hd
      rw [hb] at hi; simp at hi; exact absurd hi.1.symm hne
    | succ i =>
      obtain ⟨j, p, hj, hp⟩ := h.par i d b hi
      exact upF_more h j b.parent p n t.nodes.length hp (by omega) (by omega)
theorem upL_none {t : Tr} {d : Dig} (hl : lkN d t.nodes = none) : upL t d = [] := by
  unfold upL
  cases t.nodes.length with
  | zero => rfl
  | succ n => unfold upF; rw [hl]
theorem upF_len (t : Tr) : ∀ (n : Nat) (d : Dig), (upF t n d).length ≤ n
  | 0, d => Nat.le_refl _
  | n + 1, d => by
    unfold upF
    cases lkN d t.nodes with
    | none => simp
    | some b =>
      simp only [List.length_cons]
      split
      · simp
      · have := upF_len t n b.parent; omega
theorem upL_len (t : Tr) (d : Dig) : (upL t d).length ≤ t.nodes.length := upF_len t _ d
/-- The parent of a block that isn't the root is there. -/
theorem TOk.up {t : Tr} (h : TOk t) {d : Dig} {b : Block} (hl : lkN d t.nodes = some b) (hne : d ≠ t.root) : ∃ p, lkN b.parent t.nodes = some p := by
  obtain ⟨i, hi⟩ := lkN_some hl
  cases i with
  | zero =>
    obtain ⟨b0, r, hb⟩ := h.hd
    rw [hb] at hi; simp at hi; exact absurd hi.1.symm hne
  | succ i =>
    obtain ⟨j, p, hj, hp⟩ := h.par i d b hi
    exact ⟨p, lkN_at h.nd hp⟩

/-! ### What calls answer -/
theorem certF_none {d : Dig} : ∀ {l : List QC}, certF d l = none ↔ d ∉ l.map (fun q => q.block)
  | [] => by simp [certF]
  | p :: l => by
    unfold certF
    split
    · rename_i e; simp [e]
    · rename_i e; rw [certF_none]; simp [e, Ne.symm e]
def askE (t : Tr) (b : Block) (err : Nat) (id : Dig) : Nat :=
  if err = 0 then (if (lkN id t.nodes).isSome then 17 else match lkN b.parent t.nodes with
    | none => 16
    | some p => if fitsQ b.justify b.parent p = true ∧ b.epoch = p.epoch then (if b.round ≤ p.round then 14 else if 16 ≤ t.nodes.length then 8 else 0) else 12) else 4
def newE (b : Block) (q : QC) (err : Nat) (id : Dig) : Nat := if err = 0 then (if fitsQ q id b = true then 0 else 12) else 4
def newT (b : Block) (q : QC) (id : Dig) : Tr := ⟨id, [(id, b)], [q]⟩
def putT (t : Tr) (b : Block) (id : Dig) : Tr := { t with nodes := t.nodes ++ [(id, b)] }
theorem askE_zero {t : Tr} {b : Block} {err : Nat} {id : Dig} (h : askE t b err id = 0) : err = 0 ∧ lkN id t.nodes = none ∧ ∃ p, lkN b.parent t.nodes = some p ∧ fitsQ b.justify b.parent p = true ∧ b.epoch = p.epoch ∧ p.round < b.round ∧ t.nodes.length < 16 := by
  unfold askE at h
  split at h
  · rename_i he
    split at h
    · cases h
    · rename_i hn
      cases hp : lkN b.parent t.nodes with
      | none => rw [hp] at h; cases h
      | some p =>
        rw [hp] at h
        simp only at h
        split at h
        · rename_i hf
          split at h
          · cases h
          · split at h
            · cases h
            · exact ⟨he, by simpa using hn, p, rfl, hf.1, hf.2, by omega, by omega⟩
        · cases h
  · cases h
def learnE (t : Tr) (q : QC) : Nat × Tr := match lkN q.block t.nodes with
  | none => (9, t)
  | some b => if fitsQ q q.block b = true then (0, if (certF q.block t.certs).isSome then t else { t with certs := t.certs ++ [q] }) else (12, t)
theorem newT_ok {b : Block} {q : QC} {id : Dig} (hq : q.block = id) (hb : smBlk b) (hs : smQC q) : TOk (newT b q id) where
  nd := by simp [keysT, newT]
  hd := ⟨b, [], rfl⟩
  par := fun i d b h => by simp [newT] at h
  le := by simp [newT]
  ce := by simp [newT]
  cn := by simp [newT]
  ck := fun x hx => by simp [newT] at hx; subst hx; simp [keysT, newT, hq]
  sb := fun d x h => by
    simp only [newT, lkN] at h
    split at h
    · cases h; exact hb
    · cases h
  sq := fun x hx => by simp [newT] at hx; subst hx; exact hs
theorem putT_ok {t : Tr} (h : TOk t) {b : Block} {id p : Dig} {pb : Block} (hn : lkN id t.nodes = none) (hp : lkN b.parent t.nodes = some pb) (hl : t.nodes.length < 16) (hb : smBlk b) : TOk (putT t b id) where
  nd := by
    have := h.nd
    simp only [keysT, putT, List.map_append, List.map_cons, List.map_nil] at this ⊢
    refine List.nodup_append.2 ⟨this, by simp, fun x hx y hy e => ?_⟩
    simp at hy; subst hy; subst e
    exact lkN_none.1 hn hx
  hd := by obtain ⟨b0, r, e⟩ := h.hd; exact ⟨b0, r ++ [(id, b)], by simp [putT, e]⟩
  par := fun i d x hx => by
    simp only [putT] at hx
    by_cases hi : i + 1 < t.nodes.length
    · rw [List.getElem?_append_left hi] at hx
      obtain ⟨j, y, hj, hy⟩ := h.par i d x hx
      exact ⟨j, y, hj, by show (t.nodes ++ _)[j]? = _; rw [List.getElem?_append_left (by omega)]; exact hy⟩
    · have hlt := (List.getElem?_eq_some_iff.1 hx).1
      simp only [List.length_append, List.length_singleton] at hlt
      rw [List.getElem?_append_right (by omega), show i + 1 - t.nodes.length = 0 by omega] at hx
      simp at hx
      obtain ⟨rfl, rfl⟩ := hx
      obtain ⟨j, hj⟩ := lkN_some hp
      have hjl := (List.getElem?_eq_some_iff.1 hj).1
      exact ⟨j, pb, by omega, by show (t.nodes ++ _)[j]? = _; rw [List.getElem?_append_left hjl]; exact hj⟩
  le := by simp [putT]; omega
  ce := h.ce
  cn := h.cn
  ck := fun q hq => by simp only [keysT, putT, List.map_append, List.mem_append]; exact .inl (h.ck q hq)
  sb := fun d x hx => by
    simp only [putT, lkN_append] at hx
    cases h1 : lkN d t.nodes with
    | some y => rw [h1] at hx; simp at hx; subst hx; exact h.sb d _ h1
    | none =>
      rw [h1] at hx
      simp [lkN] at hx
      obtain ⟨_, rfl⟩ := hx; exact hb
  sq := h.sq
theorem learnE_ok {t : Tr} (h : TOk t) {q : QC} (hs : smQC q) : TOk (learnE t q).2 := by
  unfold learnE
  cases hl : lkN q.block t.nodes with
  | none => exact h
  | some b =>
    simp only
    split
    · simp only
      split
      · exact h
      · rename_i hc
        have hc' : certF q.block t.certs = none := by simpa using hc
        have hk : q.block ∈ keysT t := Classical.byContradiction fun hh => by rw [lkN_none.2 hh] at hl; cases hl
        exact ⟨h.nd, h.hd, h.par, h.le, by simp, by
            simp only [List.map_append, List.map_cons, List.map_nil]
            refine List.nodup_append.2 ⟨h.cn, by simp, fun x hx y hy e => ?_⟩
            simp at hy; subst hy; subst e
            exact certF_none.1 hc' hx, fun x hx => by
            rcases List.mem_append.1 hx with hx | hx
            · exact h.ck x hx
            · simp at hx; subst hx; exact hk, h.sb, fun x hx => by
            rcases List.mem_append.1 hx with hx | hx
            · exact h.sq x hx
            · simp at hx; subst hx; exact hs⟩
    · exact h
def addE (t : Tr) (b : Block) (err : Nat) (id : Dig) : Nat × Dig × Tr :=
  if askE t b err id = 0 then ((learnE (putT t b id) b.justify).1, id, (learnE (putT t b id) b.justify).2) else (askE t b err id, dig0, t)
theorem addE_ok {t : Tr} (h : TOk t) {b : Block} {err : Nat} {id : Dig} (hb : smBlk b) : TOk (addE t b err id).2.2 := by
  unfold addE
  split
  · rename_i ha
    obtain ⟨_, h1, p, h2, _, _, _, h3⟩ := askE_zero ha
    exact learnE_ok (putT_ok (p := id) h h1 h2 h3 hb) hb.1
  · exact h
def pathL (t : Tr) (d : Dig) : List Dig := (((upL t d).map (·.1)).filter (fun i => decide (i ≠ t.root))).reverse
def ripeL (t : Tr) (q : QC) : List Dig := match lkN q.block t.nodes with
  | none => []
  | some b => if fitsQ q q.block b = true then match upL t q.block with
      | x :: y :: z :: _ => if x.2.round = q.round ∧ y.2.round = q.round - 1 ∧ z.2.round = q.round - 2 ∧ z.1 ≠ t.root then pathL t z.1 else []
      | _ => []
    else []
def belowB (t : Tr) (d top : Dig) : Bool := decide (top ∈ (upL t d).map (·.1) ∧ d ≠ top)
def belowL (t : Tr) (d : Dig) : List Dig := (keysT t).filter fun i => belowB t i d
def staysL (t : Tr) (d : Dig) : List Dig := d :: belowL t d
def prunedT (t : Tr) (d : Dig) : Tr := ⟨d, t.nodes.filter fun p => decide (p.1 ∈ staysL t d), t.certs.filter fun q => decide (q.block ∈ staysL t d)⟩
def pruneOut (t : Tr) (d : Dig) : List Dig := (keysT t).filter fun i => decide (i ∉ staysL t d)
end Go.Proofs.YtheonhgffglegaaDoor

/- Walks, by program (wg.py) out of a spec. -/
namespace Go.Proofs.YtheonhgffglegaaDoor
open Go
set_option linter.unusedVariables false
set_option linter.unusedSimpArgs false


def vdC (v : Vdr) : List Value := dc v.key ++ [.int .i64 v.power]
theorem vdC_len (v : Vdr) : (vdC v).length = 17 := by simp [vdC, dc_length]
theorem vdC_one (v : Vdr) : ∀ u ∈ vdC v, u.oneCell' = true := all_app' (dc_one _) (all_cons' rfl all_nil')
theorem flat_one {α : Type} {f : α → List Value} (hf : ∀ x, ∀ u ∈ f x, u.oneCell' = true) (l : List α) : ∀ u ∈ (l.map f).flatten, u.oneCell' = true := fun u hu => by
  obtain ⟨c, hc, hu⟩ := List.mem_flatten.1 hu
  obtain ⟨x, _, rfl⟩ := List.mem_map.1 hc
  exact hf x u hu
/-- A list whose elements' cells are known: its row. -/
theorem RdList.row {α : Type} {f : α → List Value} {w : World} {A : Nat → Prop} {size n : Nat} {a : Option Addr} {l : List α} (h : RdList (fun cs x => cs = f x) w A size a n l) : RdRow w A size a n (l.map f).flatten := by
  obtain ⟨css, hr, _, hl, hx⟩ := h
  have : css = l.map f := by
    apply List.ext_getElem?
    intro i
    rw [List.getElem?_map]
    cases hi : css[i]? with
    | none =>
      have := List.getElem?_eq_none_iff.1 hi
      rw [List.getElem?_eq_none (by omega)]; rfl
    | some c =>
      have hlt := (List.getElem?_eq_some_iff.1 hi).1
      have h2 : l[i]? = some (l[i]'(by omega)) := List.getElem?_eq_getElem (by omega)
      rw [h2, hx i c _ hi h2]; rfl
  rw [← this]; exact hr
theorem ls_row {α : Type} {rd : World → (Nat → Prop) → List Value → α → Prop} [RdK rd] {f : α → List Value} {e size n c : Nat} {a : Option Addr} {l : List α} {w : World} {F : Nat → Prop} {L : List Res} (hf : ∀ w F x, rd w F (f x) x) (hs : ∀ x, (f x).length = size)
    (h : stars (rowR e size a n c (l.map f).flatten :: L) w F) : stars (LsR rd size a n l :: L) w F := by
  refine stars_hd (fun F hr => ?_) h
  refine ⟨⟨l.map f, rowR.rd hr, fun c hc => ?_, by simp, fun i c x hc hx => ?_⟩, fun k hk => (rowR e size a n c (l.map f).flatten).ok hr k hk⟩
  · obtain ⟨x, _, rfl⟩ := List.mem_map.1 hc; exact hs x
  · rw [List.getElem?_map, hx] at hc; cases hc; exact hf _ _ _
theorem row_le {e size n c : Nat} {a : Option Addr} {xs : List Value} {w0 w : World} {F0 : Nat → Prop} {L L' : List Res} (hw : St w0 F0 L w) (hp : Pick L (rowR e size a n c xs) L') : n ≤ c := by
  obtain ⟨F, hF, _⟩ := hw
  obtain ⟨F1, h1, _⟩ := stars_pick hp hF
  exact h1.2.1
theorem vl_qcE {q : QC} {e k c : Nat} {a : Option Addr} {css : List (List Value)} {w : World} {F : Nat → Prop} (h4 : ∀ x ∈ css, List.length x = 4) (h : stars [rowR e 4 a k c css.flatten, ElR RdSigned css q.votes] w F) :
    stars [VlR RdQC (.int .i64 q.epoch :: .int .i64 q.round :: (dc q.block ++ [.slice a k c])) q] w F := by
  have hk : k ≤ c := by obtain ⟨_, _, h1, _⟩ := h; exact h1.2.1
  exact vl_qc hk (ls_of h4 h)
theorem takeB_snoc {α : Type} {l : List α} {k : Nat} {x : α} (h : l[k]? = some x) : l.take (k + 1) = l.take k ++ [x] := by simp [List.take_add_one, h]

attribute [local irreducible] Gl Gc Gx Gs Runs Wt

set_option maxHeartbeats 400000 in
theorem cloneD_ok {w : World} {F : Nat → Prop} {n c : Nat} {a : Option Addr} {xs : List Value} (h : stars [] w F) (hx : RdRow w (fun k => ¬ F k) 16 a n xs) (h1 : ∀ u ∈ xs, u.oneCell' = true) (hb : n ≤ 1099511627776) :
    Calls Tryd.prog 30 #[.slice a n c] w (Post w F (fun r : Option Addr × Nat => .slice r.1 n r.2) (fun r => [rowR 26 16 r.1 n r.2 xs])) := by
  refine g_enter (env := [(0, .slice a n c)]) Tryd.func30 rfl h Tryd.ntmps30 rfl rfl ?_
  refine gsr ?_
  refine gp zas ?_
  refine gnt ?_
  refine gc_seq ?_
  refine gsr ?_
  refine gp zmv ?_
  refine gp zen ?_
  refine gnt ?_
  refine gif rfl (fun hc4 => ?_) (fun hc4 => ?_)
  · refine gsr ?_
    refine gp zas ?_
    refine gnt ?_
    refine gc_ret ?_
    refine gx_then_ret ?_
    refine gx_ret1 rfl (by conv => lhs; whnf) ?_
    have ha : a = none := by cases a <;> simp_all
    subst ha
    obtain ⟨rfl, rfl⟩ := hx.none
    exact fun w' hw => ⟨(none, 0), rfl, hw.rowNil.sel (by repeat (first | exact Sel.nil | (apply Sel.cons; · (repeat (first | exact Pick.here | apply Pick.there)))))⟩
  · refine gc_skip ?_
    refine gx_then ?_
    refine gsr ?_
    refine ze0 fun b5 => ?_
    refine gp zmv ?_
    refine gl_append (wt0 rfl) rfl rfl (by repeat (first | exact Pick.here | apply Pick.there)) Ty.el_36 (fun w' hw => hw.rdOld hx) h1 (by simp only [maxLen]; omega) (by omega) ?_
    intro a1 c1
    refine gp zas ?_
    refine gnt ?_
    refine gc_ret ?_
    refine gx_ret1 rfl (by conv => lhs; whnf) ?_
    rw [Nat.zero_add]
    exact fun w' hw => ⟨(a1, c1), rfl, hw.sel (by repeat (first | exact Sel.nil | (apply Sel.cons; · (repeat (first | exact Pick.here | apply Pick.there)))))⟩

set_option maxHeartbeats 400000 in
theorem cloneV_ok {w : World} {F : Nat → Prop} {n c : Nat} {a : Option Addr} {xs : List Value} (h : stars [] w F) (hx : RdRow w (fun k => ¬ F k) 17 a n xs) (h1 : ∀ u ∈ xs, u.oneCell' = true) (hb : n ≤ 1099511627776) :
    Calls Tryd.prog 38 #[.slice a n c] w (Post w F (fun r : Option Addr × Nat => .slice r.1 n r.2) (fun r => [rowR 95 17 r.1 n r.2 xs])) := by
  refine g_enter (env := [(0, .slice a n c)]) Tryd.func38 rfl h Tryd.ntmps38 rfl rfl ?_
  refine gsr ?_
  refine gp zas ?_
  refine gnt ?_
  refine gc_seq ?_
  refine gsr ?_
  refine gp zmv ?_
  refine gp zen ?_
  refine gnt ?_
  refine gif rfl (fun hc4 => ?_) (fun hc4 => ?_)
  · refine gsr ?_
    refine gp zas ?_
    refine gnt ?_
    refine gc_ret ?_
    refine gx_then_ret ?_
    refine gx_ret1 rfl (by conv => lhs; whnf) ?_
    have ha : a = none := by cases a <;> simp_all
    subst ha
    obtain ⟨rfl, rfl⟩ := hx.none
    exact fun w' hw => ⟨(none, 0), rfl, hw.rowNil.sel (by repeat (first | exact Sel.nil | (apply Sel.cons; · (repeat (first | exact Pick.here | apply Pick.there)))))⟩
  · refine gc_skip ?_
    refine gx_then ?_
    refine gsr ?_
    refine ze0 fun b5 => ?_
    refine gp zmv ?_
    refine gl_append (wt0 rfl) rfl rfl (by repeat (first | exact Pick.here | apply Pick.there)) Ty.el_31 (fun w' hw => hw.rdOld hx) h1 (by simp only [maxLen]; omega) (by omega) ?_
    intro a1 c1
    refine gp zas ?_
    refine gnt ?_
    refine gc_ret ?_
    refine gx_ret1 rfl (by conv => lhs; whnf) ?_
    rw [Nat.zero_add]
    exact fun w' hw => ⟨(a1, c1), rfl, hw.sel (by repeat (first | exact Sel.nil | (apply Sel.cons; · (repeat (first | exact Pick.here | apply Pick.there)))))⟩

end Go.Proofs.YtheonhgffglegaaDoor

