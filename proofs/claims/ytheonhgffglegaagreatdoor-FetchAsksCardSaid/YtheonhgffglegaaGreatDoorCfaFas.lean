/- Part 7. What is proved: see the last part: for every input the law returns true, and the input reads as it did. -/
import Derived.Test.YtheonhgffglegaaGreatDoorCfa6
import Derived.Test.YtheonhgffglegaaGreatDoorCards
import Derived.Test.YtheonhgffglegaaGreatDoorTie
import Derived.Deep.DeepHandedRow
import Derived.Deep.DeepWitnessRowRef
namespace Go.Proofs.YtheonhgffglegaaGreatDoor
open Go
set_option linter.unusedVariables false
set_option linter.unusedSimpArgs false
set_option linter.unusedSectionVars false
section
theorem askE19_len {s : Ask19} {k : Dig} (h : s.1.length ≤ 7) : (askE19 s k).2.1.length ≤ 7 := by
  unfold askE19
  split
  · exact h
  · rename_i hn
    have : ¬ 7 ≤ s.1.length := fun h' => hn (.inr h')
    show (s.1 ++ [k]).length ≤ 7
    rw [List.length_append]; simp; omega
theorem tickE19_len {s : Ask19} (h : s.1.length ≤ 7) : (tickE19 s).1.length ≤ 7 := by
  unfold tickE19
  split
  · exact h
  · split
    · simp
    · exact h
theorem keyD_fill (u : UInt8) : fillL (fun i => some (i * 1, 1)) zD [(0, B8 u)] = some (dc (keyD u)) := by rfl
instance : KeyT Tryz.prog 5 (Value.int .u8) := keyT_int Ty.un_5
attribute [local irreducible] Gl Gc Gx Gs Runs Wt
attribute [local irreducible] rowR blk VlR ElR dc qcC blkC mapR AskR MAskR keyD
set_option maxHeartbeats 400000 in
theorem fetchAsks_ok {w : World} {F : Nat → Prop} {al : Option Addr} {n cl : Nat} {l : List Op19} {ea : Nat → Addr} {er : List Nat} [Has er 1] [Has er 2] [Has er 3] [Has er 4] [Has er 6] [Has er 8] [Has er 9] [Has er 12] [Has er 14] [Has er 16] [Has er 17] (hE : GErr er w (fun k => ¬ F k) 251 ea) (hK : KR w (fun k => ¬ F k)) (h : stars [] w F) (hx : RdList (RdOp19 w (fun k => ¬ F k)) w (fun k => ¬ F k) 2 al n l) :
    Calls Tryz.prog 6 #[.slice al n cl] w (Post w F (fun _ : Unit => .bool true) (fun _ => [])) := by
 have hn := hx.len (by decide)
 have hmx := hx.max
 simp only [maxLen] at hmx
 refine g_enter (env := [(0, .slice al n cl)]) Tryz.func6 rfl h Tryz.ntmps6 rfl rfl ?_; refine gsr ?_; refine zxa ?_; refine gnt ?_; refine gc_seq ?_; refine gsr ?_; refine zc (fun _ => ?_) (c := fun w1 F1 F2 h1 h2 hd hst => alive19_ok (hE.mv hst.still) (hK.mv hst.still) h1)
 refine gp znt ?_; refine gnt ?_; refine gc_condF rfl rfl ?_; refine gc_skip ?_; refine gx_then ?_; refine gc_seq ?_; refine gsr ?_; refine zxm ?_; refine gp zln ?_; refine gp zgt ?_; refine gnt ?_; refine gif rfl (fun hc11 => ?_) (fun hc11 => ?_)
 ·refine gsr ?_; refine zxa ?_; refine gnt ?_; refine gc_ret ?_; refine gx_then_ret ?_; refine gx_ret1 rfl (by conv => lhs; whnf) ?_; exact ze ()
 ·try simp only at hc11
  have hn100 : n ≤ 100 := by omega
  refine gc_skip ?_; refine gx_then ?_; refine gsr ?_; refine zc (fun a => ?_) (c := fun w1 F1 F2 h1 h2 hd hst => anew_ok h1)
  refine gp (zbu (cs := [.slice none 0 0, .int .i64 0]) (hf := by kernel_rfl)) ?_; refine zbN fun b14 => ?_; refine zxa ?_; refine zxa ?_; refine gnt ?_; refine gc_seq ?_; refine gc_seq ?_; refine gc_conv (M := [blk b14 63 [.slice none 0 0, .int .i64 0]]) (N := [MAskR b14 ([], 0)]) (by repeat (first | exact Sel.nil | (apply Sel.cons; · (repeat (first | exact Pick.here | apply Pick.there))))) (fun _ _ h => mask_nil h) ?_; refine gc_region ?_; refine zxm ?_; refine gp zln ?_; refine zxm ?_; refine gnt ?_; refine gc_block ?_; refine gc_loop (α := Nat × Ask19) (fun y => [pureR (y.1 ≤ n ∧ y.2.2 ≤ 3 ∧ y.2.1.length ≤ 7), AskR a y.2, MAskR b14 y.2]) (fun y => [(17, .int .i64 (y.1 : Int))]) [2, 6, 18, 19, 20, 21, 22, 23, 24, 25, 26, 27, 28, 29, 30, 31, 32, 33, 34, 35, 36, 37, 38, 39, 40, 41, 42, 43, 44, 45, 46, 47, 48, 49, 50, 51, 52, 53, 54, 55, 56, 57, 58, 59, 60, 61] (fun y => n - y.1) (0, ([], 0)) ?_ ?_ ?_
  ·refine env_start (by kernel_rfl)
  ·exact zlp (p := 0 ≤ n ∧ 0 ≤ 3 ∧ ([] : List Dig).length ≤ 7) ⟨Nat.zero_le _, Nat.zero_le _, by simp⟩
  ·intro y u; obtain ⟨k, s⟩ := y; refine gc_pureR (fun hk => ?_)
   obtain ⟨hk, hs3, hs7⟩ := hk; replace hk : k ≤ n := hk
   replace hs3 : s.2 ≤ 3 := hs3
   replace hs7 : s.1.length ≤ 7 := hs7
   refine gsr ?_; refine gp zlt ?_; refine gnt ?_; refine gc_seq ?_; refine gif rfl (fun hc18 => ?_) (fun hc18 => ?_)
   ·try simp only at hc18
    have hk' : k < n := by omega
    obtain ⟨ga, oa, ce, op, ha, hA, _, hra, hl2, hop, rfl⟩ := hx.elem (i := k) (by decide) hk'; subst ha; refine gc_skip ?_; refine gx_then ?_; refine gc_seq ?_; refine gc_block ?_; refine gsr ?_; refine gp (r_val (v' := .pointer (some ⟨ga, oa + k * 2, none⟩)) zia (by simp)) ?_; refine gp (r_ldNo rfl Ty.row_65 Ty.sz_65 hra rfl (by decide) hA) ?_; refine zal fun b6 => ?_; refine zsA rfl (all_cons' rfl (all_cons' rfl all_nil')) ?_; refine gnt ?_; refine gc_join (α := Ask19) (fun z => [pureR (z.2 ≤ 3 ∧ z.1.length ≤ 7), AskR a z, MAskR b14 z]) (fun z => []) [2, 21, 22, 23, 24, 25, 26, 27, 28, 29, 30, 31, 32, 33, 34, 35, 36, 37, 38, 39, 40, 41, 42, 43, 44, 45, 46, 47, 48, 49, 50, 51] ?_ ?_
    ·refine gsr ?_; refine gp zfa ?_; refine gp zl ?_; refine gnt ?_; refine gc_block ?_; refine gsr ?_; refine gp zei ?_; refine zxa ?_; refine gnt ?_; refine gif rfl (fun hc23 => ?_) (fun hc23 => ?_)
     ·refine gc_seq ?_; refine gc_regionH ([blk b6 65 [.int .i64 op.kind, B8 op.key]]) ?_; refine yp 0 rfl zmv ?_; refine yp 1 rfl zfa ?_; refine yp 2 rfl zl ?_; refine yp 3 rfl (zba (cs := dc (keyD op.key)) (hf := keyD_fill op.key)) ?_; refine yp 5 rfl zmv ?_; refine yp 6 rfl zfa ?_; refine yp 7 rfl zl ?_; refine yp 8 rfl (zba (cs := dc (keyD op.key)) (hf := keyD_fill op.key)) ?_; refine yo 4 rfl ?_; refine zc (fun _ => ?_) (c := fun w1 F1 F2 h1 h2 hd hst => aask_ok (k := keyD op.key) h1)
      refine yx ?_; refine yo 9 rfl ?_; refine zc (fun _ => ?_) (c := fun w1 F1 F2 h1 h2 hd hst => mask_ok (s := s) (k := keyD op.key) h1 (show s.1.length ≤ 1000 by omega))
      refine yx ?_; refine yp 10 rfl (r_bool (c := false) (r_neq_bool rfl rfl Tryz.underlying4) (by simp)) ?_; refine yd ?_; refine gx_then ?_; refine gc_condF rfl rfl ?_; refine gc_skip ?_; refine gx_block_normal ?_; refine zjn ((askE19 s (keyD op.key)).2) ?_
      ·exact zlp ⟨askE19_le hs3, askE19_len hs7⟩
     ·refine gsr ?_; refine gp zei ?_; refine zxa ?_; refine gnt ?_; refine gif rfl (fun hc36 => ?_) (fun hc36 => ?_)
      ·refine gsr ?_; refine zxm ?_; refine zc (fun _ => ?_) (c := fun w1 F1 F2 h1 h2 hd hst => agot_ok h1)
       refine gnt ?_; refine gc_mask (by repeat (first | exact Pick.here | apply Pick.there)) (fun x c' => ?_)
       refine gc_region ?_; refine zxm ?_; refine zxm ?_; refine gp znc ?_; refine gp zfa ?_; refine zs1 ?_; refine gp znc ?_; refine gp zfa ?_; refine zs1 ?_; refine gl_nil ?_; refine gx_block_normal ?_; refine zjn (([], 0)) ?_
       ·intro w' hw; have h3 := hw.conv (M := [blk b14 63 [.slice none 0 0, .int .i64 0]]) (N := [MAskR b14 ([], 0)]) (by repeat (first | exact Sel.nil | (apply Sel.cons; · (repeat (first | exact Pick.here | apply Pick.there))))) (fun _ _ h => mask_nil h)
        exact St.pureI (p := 0 ≤ 3 ∧ ([] : List Dig).length ≤ 7) ⟨by decide, by simp⟩ (h3.z)
      ·refine gsr ?_; refine gp zei ?_; refine zxa ?_; refine gnt ?_; refine gif rfl (fun hc46 => ?_) (fun hc46 => ?_)
       ·refine gsr ?_; refine zxm ?_; refine zc (fun _ => ?_) (c := fun w1 F1 F2 h1 h2 hd hst => atick_ok (s := s) h1 (show s.2 ≤ 3 by omega))
        refine gnt ?_; refine gc_region ?_; refine zxm ?_; refine zc (fun _ => ?_) (c := fun w1 F1 F2 h1 h2 hd hst => mtick_ok (s := s) h1 (show s.2 ≤ 3 by omega) (show s.1.length ≤ 1000 by omega))
        refine gl_nil ?_; refine gx_block_normal ?_; refine zjn (tickE19 s) ?_
        ·exact zlp ⟨tickE19_le hs3, tickE19_len hs7⟩
       ·refine gc_skip ?_; refine gx_block_normal ?_; refine zjn (s) ?_
        ·exact zlp ⟨hs3, hs7⟩
    ·intro z u; refine gc_pureR (fun hz => ?_)
     obtain ⟨hz3, hz7⟩ := hz; refine gc_seq ?_; refine gc_mask (by repeat (first | exact Pick.here | apply Pick.there)) (fun x2 c2 => ?_)
     refine gc_regionH ([blk b14 63 [.slice x2 z.1.length c2, .int .i64 ((z.2 : Nat) : Int)]]) ?_; refine yp 0 rfl zmv ?_; refine yp 2 rfl zmv ?_; refine yp 3 rfl znc ?_; refine yp 4 rfl zfa ?_; refine yp 5 rfl zl ?_; refine yp 6 rfl zln ?_; refine yp 7 rfl zgt ?_; refine yo 1 rfl ?_; refine zc (fun _ => ?_) (c := fun w1 F1 F2 h1 h2 hd hst => aopen_ok h1)
     refine yx ?_; refine yp 8 rfl (r_bool (c := false) (r_neq_bool rfl rfl Tryz.underlying4) (by simp)) ?_; refine yd ?_; refine gx_then ?_; refine gc_condF rfl rfl ?_; refine gc_skip ?_; refine gx_block_normal ?_; refine gx_then ?_; refine gc_region ?_; refine gp zad ?_; refine zxm ?_; refine gl_nil ?_; refine zrd ((k + 1, z)) ?_ ?_
     ·show n - (k + 1) < n - k
      omega
     ·intro w' hw; have h3 := hw.conv (M := [blk b14 63 [.slice x2 z.1.length c2, .int .i64 ((z.2 : Nat) : Int)], rowR 27 16 x2 z.1.length c2 (z.1.map dc).flatten]) (N := [MAskR b14 z]) (by repeat (first | exact Sel.nil | (apply Sel.cons; · (repeat (first | exact Pick.here | apply Pick.there))))) (fun _ _ h => mask_shut (s := z) h)
      exact St.pureI (p := k + 1 ≤ n ∧ z.2 ≤ 3 ∧ z.1.length ≤ 7) ⟨by omega, hz3, hz7⟩ (h3.z)
   ·refine gc_exit ?_; refine gx_then_exit ?_; refine gx_round_exit ?_; refine gx_block_hit ?_; refine gx_then ?_; refine gsr ?_; refine zxa ?_; refine gnt ?_; refine gc_ret ?_; refine gx_ret1 rfl (by conv => lhs; whnf) ?_; exact ze ()
end
section
open Go.ChangeShapes Go.WideShapes Go.ChangeAt Go.RowKit
noncomputable def fetchAsks_world (os : Os) : World :=
  let w0 := World.holding Tryz.prog os ⟨#[.cells #[.string ⟨#[113, 117, 111, 114, 97, 116, 101, 58, 32, 114, 97, 110, 103, 101]⟩] 269, .cells #[.string ⟨#[113, 117, 111, 114, 97, 116, 101, 58, 32, 115, 104, 111, 114, 116]⟩] 269, .cells #[.string ⟨#[113, 117, 111, 114, 97, 116, 101, 58, 32, 108, 111, 110, 103]⟩] 269, .cells #[.string ⟨#[113, 117, 111, 114, 97, 116, 101, 58, 32, 102, 111, 114, 109]⟩] 269, .cells #[.string ⟨#[113, 117, 111, 114, 97, 116, 101, 58, 32, 112, 111, 119, 101, 114]⟩] 269, .cells #[.string ⟨#[113, 117, 111, 114, 97, 116, 101, 58, 32, 102, 117, 108, 108]⟩] 269, .cells #[.string ⟨#[113, 117, 111, 114, 97, 116, 101, 58, 32, 110, 111, 110, 101]⟩] 269, .cells #[.string ⟨#[113, 117, 111, 114, 97, 116, 101, 58, 32, 112, 114, 111, 111, 102]⟩] 269, .cells #[.string ⟨#[113, 117, 111, 114, 97, 116, 101, 58, 32, 114, 111, 117, 110, 100]⟩] 269, .cells #[.string ⟨#[113, 117, 111, 114, 97, 116, 101, 58, 32, 112, 97, 114, 101, 110, 116]⟩] 269, .cells #[.string ⟨#[113, 117, 111, 114, 97, 116, 101, 58, 32, 116, 119, 105, 99, 101]⟩] 269], #[], []⟩
  { w0 with heap := (((((((((((w0.heap.modify 0 fun
      | .cells _ t fz => .cells #[.iface 251 (.pointer (some ⟨lowB + 0, 0, none⟩))] t fz
      | o => o).modify 11 fun
      | .cells _ t fz => .cells #[.iface 251 (.pointer (some ⟨lowB + 1, 0, none⟩))] t fz
      | o => o).modify 10 fun
      | .cells _ t fz => .cells #[.iface 251 (.pointer (some ⟨lowB + 2, 0, none⟩))] t fz
      | o => o).modify 1 fun
      | .cells _ t fz => .cells #[.iface 251 (.pointer (some ⟨lowB + 3, 0, none⟩))] t fz
      | o => o).modify 8 fun
      | .cells _ t fz => .cells #[.iface 251 (.pointer (some ⟨lowB + 4, 0, none⟩))] t fz
      | o => o).modify 2 fun
      | .cells _ t fz => .cells #[.iface 251 (.pointer (some ⟨lowB + 5, 0, none⟩))] t fz
      | o => o).modify 7 fun
      | .cells _ t fz => .cells #[.iface 251 (.pointer (some ⟨lowB + 6, 0, none⟩))] t fz
      | o => o).modify 3 fun
      | .cells _ t fz => .cells #[.iface 251 (.pointer (some ⟨lowB + 7, 0, none⟩))] t fz
      | o => o).modify 6 fun
      | .cells _ t fz => .cells #[.iface 251 (.pointer (some ⟨lowB + 8, 0, none⟩))] t fz
      | o => o).modify 5 fun
      | .cells _ t fz => .cells #[.iface 251 (.pointer (some ⟨lowB + 9, 0, none⟩))] t fz
      | o => o).modify 4 fun
      | .cells _ t fz => .cells #[.iface 251 (.pointer (some ⟨lowB + 10, 0, none⟩))] t fz
      | o => o).modify 9 fun
      | .cells _ t fz => .cells (kc.map W32).toArray t fz
      | o => o }
def fetchAsks_args : Array Value := #[.slice none 0 0]
theorem fetchAsks_laid (os : Os) (args : Array Value) : laidMet Tryz.prog Rows.fetchAsksRow.laid ((fetchAsks_world os).forCall (fun _ _ => 0) ⟨#[], args, []⟩).memory :=
  laidMet_of_run' 8 (by kernel_rfl) (by kernel_rfl)
theorem fetchAsks_reads (os : Os) {H : Type} (enc : TypeId × Value → H) : ∃ places, DataW.whole enc Tryz.prog ((fetchAsks_world os).forCall (fun _ _ => 0) ⟨#[], fetchAsks_args, []⟩).memory Tryz.f6.params.toList Rows.fetchAsksSpec.vars false fetchAsks_args.toList 8 = some ([.nil], [], places) :=
  ⟨[], by kernel_rfl⟩
set_option maxRecDepth 20000 in
theorem fetchAsks_contract (H : Type) (enc : TypeId × Value → H) (W : World) (base : Nat) (args : Array Value) (ds gs : List (DataW H)) (before : List MemPlace)
    (hval : ∀ (j : Nat) t v, Tryz.f6.params[j]? = some t → args[j]? = some v → Value.okWide Tryz.prog W .any base t v)
    (hW : DataW.Whole enc Tryz.prog Tryz.f6.params.toList Rows.fetchAsksSpec.vars false W args.toList ds gs before) (hL : laidMetH Tryz.prog Rows.fetchAsksRow.laid W) :
    Calls Tryz.prog 6 args W fun e W' => ∃ v, e = .returned v ∧ Rows.fetchAsksSpec.post enc Tryz.prog Tryz.f6 false true false false W args v W' := by
  have hW' := hW
  have hlt : ∀ p ∈ before, p.block < W.heap.size := fun p hp => hW.lt p hp
  obtain ⟨p, q, hA0, hV, rfl, hfz, hnd⟩ := hW
  have hA : DataW.TrodAll enc Tryz.prog W 0 (fun _ => true) true Tryz.f6.params.toList args.toList ds p := hA0
  rw [Tryz.params6] at hA hval
  obtain ⟨v0, vs0, d0, ds0, p0, q0, hargs, rfl, rfl, h0, r0⟩ := trodAll_cons hA
  obtain ⟨rfl, rfl, rfl⟩ := trodAll_nil r0
  obtain rfl : args = #[v0] := by cases args; simp_all
  obtain ⟨rfl, rfl⟩ := trodVars_none hV
  obtain ⟨a0, m0, c0, rfl⟩ := okWide_slice (run_sliceT Ty.sl_58) (hval 0 58 v0 rfl rfl)
  obtain ⟨x0, hx0⟩ : ∃ x, RdOps19 W TT [.slice a0 m0 c0] x := by obtain ⟨fuel, hf⟩ := h0; exact o_ops19 fuel _ _ hf
  have hL' : laidMet Tryz.prog Rows.fetchAsksRow.laid W := hL
  obtain ⟨a_1, s_1, c_1, _, _⟩ := laid_err (g := 0) hL' (by kernel_rfl) (by kernel_rfl)
  obtain ⟨a_2, s_2, c_2, _, _⟩ := laid_err (g := 11) hL'.tail (by kernel_rfl) (by kernel_rfl)
  obtain ⟨a_3, s_3, c_3, _, _⟩ := laid_err (g := 10) hL'.tail.tail (by kernel_rfl) (by kernel_rfl)
  obtain ⟨a_4, s_4, c_4, _, _⟩ := laid_err (g := 1) hL'.tail.tail.tail (by kernel_rfl) (by kernel_rfl)
  obtain ⟨a_6, s_6, c_6, _, _⟩ := laid_err (g := 8) hL'.tail.tail.tail.tail (by kernel_rfl) (by kernel_rfl)
  obtain ⟨a_8, s_8, c_8, _, _⟩ := laid_err (g := 2) hL'.tail.tail.tail.tail.tail (by kernel_rfl) (by kernel_rfl)
  obtain ⟨a_9, s_9, c_9, _, _⟩ := laid_err (g := 7) hL'.tail.tail.tail.tail.tail.tail (by kernel_rfl) (by kernel_rfl)
  obtain ⟨a_12, s_12, c_12, _, _⟩ := laid_err (g := 3) hL'.tail.tail.tail.tail.tail.tail.tail (by kernel_rfl) (by kernel_rfl)
  obtain ⟨a_14, s_14, c_14, _, _⟩ := laid_err (g := 6) hL'.tail.tail.tail.tail.tail.tail.tail.tail (by kernel_rfl) (by kernel_rfl)
  obtain ⟨a_16, s_16, c_16, _, _⟩ := laid_err (g := 5) hL'.tail.tail.tail.tail.tail.tail.tail.tail.tail (by kernel_rfl) (by kernel_rfl)
  obtain ⟨a_17, s_17, c_17, _, _⟩ := laid_err (g := 4) hL'.tail.tail.tail.tail.tail.tail.tail.tail.tail.tail (by kernel_rfl) (by kernel_rfl)
  have hK := laid_kr hL'.tail.tail.tail.tail.tail.tail.tail.tail.tail.tail.tail
  have hE : GErr [1, 2, 3, 4, 6, 8, 9, 12, 14, 16, 17] W (fun k => ¬ (fun _ : Nat => False) k) 251 (fun i => if i = 1 then a_1 else if i = 2 then a_2 else if i = 3 then a_3 else if i = 4 then a_4 else if i = 6 then a_6 else if i = 8 then a_8 else if i = 9 then a_9 else if i = 12 then a_12 else if i = 14 then a_14 else if i = 16 then a_16 else a_17) := by
    refine ⟨fun i hi => ?_, fun i _ => id⟩
    simp only [List.mem_cons, List.not_mem_nil, or_false] at hi
    rcases hi with rfl | rfl | rfl | rfl | rfl | rfl | rfl | rfl | rfl | rfl | rfl
    · unfold eV; exact c_1
    · unfold eV; exact c_2
    · unfold eV; exact c_3
    · unfold eV; exact c_4
    · unfold eV; exact c_6
    · unfold eV; exact c_8
    · unfold eV; exact c_9
    · unfold eV; exact c_12
    · unfold eV; exact c_14
    · unfold eV; exact c_16
    · unfold eV; exact c_17
  have walk := fetchAsks_ok (l := x0) (al := a0) (n := m0) (cl := c0) hE hK no_res (RdList.mv (ops19_list hx0) still_id fun _ _ h => h)
  refine Calls.mono (show Calls Tryz.prog 6 #[.slice a0 m0 c0] W _ from walk) fun e W' ⟨_, he, hs⟩ => ?_
  subst he
  have bel := below_of hs
  have eF : Rows.fetchAsksSpec.fn H ([d0] ++ []) = { results := [.lit (.bool true)], args := [d0] } := rfl
  have l0 : ∀ z ∈ p0, z.block < W.heap.size := fun z hz => hlt z (by simp [hz])
  refine ⟨_, rfl, _, _, _, [], p0 ++ ([]), [], hW', ?_, ?_, ?_, bel.frame _, fun h => by cases h⟩
  · rw [eF]; exact trodAll_cons_mk (shut_bool Tryz.underlying4 _) trodAll_mk0
  · rw [eF, Tryz.params6]
    exact trodAll_cons_mk (Below.trod laidOut (by kernel_rfl) (of_decide_eq_true (by kernel_rfl)) h0 bel l0) (trodAll_mk0)
  · rw [eF]; rfl
set_option maxRecDepth 100000 in
theorem fetchAsks_lifted (os : Os) (started : os.Started) (H : Type) (enc : TypeId × Value → H) (F : Stop.Interp) :
    ReturnsInHanded {} Tryz.checked os 6 .any ((OpenSpec.ofChange Rows.fetchAsksSpec).preRow enc Tryz.prog Tryz.f6 Rows.fetchAsksRow.domain false Rows.fetchAsksRow.laid) (((OpenSpec.ofChange Rows.fetchAsksSpec).at F).post enc Tryz.prog Tryz.f6 false true false false) := by
  obtain ⟨places, hx⟩ := fetchAsks_reads os enc
  refine returnsInHanded_of_row (C := Tryz.checked) (s := OpenSpec.ofChange Rows.fetchAsksSpec) own started (by kernel_rfl) Tryz.func6
    (witness_row_atRef (enc := enc) (C := Tryz.checked) false (fetchAsks_world os) fetchAsks_args rfl (by kernel_rfl) (by kernel_rfl) (by kernel_rfl)
      (OpenSpec.preRow_of_cond 8 hx (by kernel_rfl) (fun k hk => by cases hk) (by kernel_rfl) (fetchAsks_laid os _))) ?_
  intro W base args ds gs before hval hW _ _ _ hL _ _
  exact fetchAsks_contract H enc W base args ds gs before hval hW hL
theorem and_tt {a b : Bool} (h : a = true) (k : b = true) : (a && b) = true := by rw [h, k]; rfl
theorem fetchAsks_k0 : (Rows.fetchAsksRow.wf (OpenSpec.ofChange (OpenSpec.ofChange Rows.fetchAsksSpec).bare)) = true := by kernel_rfl
theorem fetchAsks_k1 : (laidOutB Tryz.pinned.checked.prog) = true := by kernel_rfl
theorem fetchAsks_k2 : (mapsRowed Tryz.pinned.checked.prog) = true := by kernel_rfl
theorem fetchAsks_k3 : (Tryz.f6.params.all (Tryz.pinned.checked.prog.readableRec ·)) = true := by kernel_rfl
theorem fetchAsks_k4 : (namedTie Tryz.pinned.checked.prog Rows.fetchAsksRow.named (OpenSpec.ofChange Rows.fetchAsksSpec).bare.vars) = true := by kernel_rfl
theorem fetchAsks_k5 : ((Rows.fetchAsksRow.stops == [])) = true := by kernel_rfl
theorem fetchAsks_k6 : ((Tryz.pinned.checked.prog.stops == [])) = true := by kernel_rfl
theorem fetchAsks_k7 : ((Rows.fetchAsksRow.knobs == [])) = true := by kernel_rfl
theorem fetchAsks_k8 : ((Tryz.pinned.checked.prog.stopKnobs == [])) = true := by kernel_rfl
theorem fetchAsks_k9 : ((Rows.fetchAsksRow.inPlace == Tryz.pinned.checked.prog.inPlace 6)) = true := by kernel_rfl
theorem fetchAsks_k10 : ((Rows.fetchAsksRow.unfollowed == Tryz.pinned.checked.prog.unfollowed 6)) = true := by kernel_rfl
theorem fetchAsks_k11 : ((Rows.fetchAsksRow.recurses == Tryz.pinned.checked.prog.recurses 6)) = true := by kernel_rfl
theorem fetchAsks_k12 : ((Rows.fetchAsksRow.named == Tryz.pinned.checked.prog.varsNamed 6)) = true := by kernel_rfl
theorem fetchAsks_k13 : ((Rows.fetchAsksRow.maps == (Tryz.f6.params.toList ++ (OpenSpec.ofChange Rows.fetchAsksSpec).bare.plain.varTypes Tryz.pinned.checked.prog).any (Tryz.pinned.checked.prog.mapsRec ·))) = true := by kernel_rfl
theorem fetchAsks_k14 : ((Rows.fetchAsksRow.ifaces == (Tryz.f6.params.toList ++ (OpenSpec.ofChange Rows.fetchAsksSpec).bare.plain.varTypes Tryz.pinned.checked.prog).any (Tryz.pinned.checked.prog.ifacesRec ·))) = true := by kernel_rfl
theorem fetchAsks_k15 : ((Rows.fetchAsksRow.mapsOut == Tryz.pinned.checked.prog.mapsAmong Tryz.f6.resultTypes.toList)) = true := by kernel_rfl
theorem fetchAsks_k16 : ((Rows.fetchAsksRow.loops == (Tryz.f6.params.toList ++ (OpenSpec.ofChange Rows.fetchAsksSpec).bare.plain.varTypes Tryz.pinned.checked.prog).any (Tryz.pinned.checked.prog.loopsFrom ·))) = true := by kernel_rfl
theorem fetchAsks_k17 : ((Rows.fetchAsksRow.wideKeys == (Tryz.f6.params.toList ++ (OpenSpec.ofChange Rows.fetchAsksSpec).bare.plain.varTypes Tryz.pinned.checked.prog ++ Tryz.f6.resultTypes.toList).any (Tryz.pinned.checked.prog.wideKeysFrom ·))) = true := by kernel_rfl
theorem fetchAsks_k18 : ((OpenSpec.ofChange Rows.fetchAsksSpec).bare.vars.all (Tryz.pinned.checked.prog.varReadable ·)) = true := by kernel_rfl
theorem fetchAsks_k19 : (Tryz.f6.resultTypes.all (fun t => Tryz.pinned.checked.prog.readableRec t && decide (t < Tryz.pinned.checked.prog.types.size))) = true := by kernel_rfl
theorem fetchAsks_k20 : ((Rows.fetchAsksRow.ifacesOut == Tryz.f6.resultTypes.toList.any (Tryz.pinned.checked.prog.ifacesRec ·))) = true := by kernel_rfl
theorem fetchAsks_k21 : ((Rows.fetchAsksRow.loopsOut == Tryz.f6.resultTypes.toList.any (Tryz.pinned.checked.prog.loopsFrom ·))) = true := by kernel_rfl
theorem fetchAsks_k22 : ((Rows.fetchAsksRow.plainKeys == Tryz.pinned.checked.prog.plainKeys)) = true := by kernel_rfl
theorem fetchAsks_k23 : (Rows.fetchAsksRow.shortTexts.isNone) = true := by kernel_rfl
theorem fetchAsks_k24 : (Tryz.pinned.checked.prog.stopsHeard) = true := by kernel_rfl
theorem fetchAsks_k25 : (Tryz.pinned.checked.prog.mayEnter) = true := by kernel_rfl
theorem fetchAsks_k26 : ((Rows.fetchAsksRow.lifted == Tryz.pinned.checked.prog.liftsFinal)) = true := by kernel_rfl
theorem fetchAsks_k27 : ((Tryz.pinned.checked.prog.make == some Rows.fetchAsksRow.make)) = true := by kernel_rfl
theorem fetchAsks_k28 : ((Rows.fetchAsksRow.kinds == (if Rows.fetchAsksRow.domain.isEmpty then [] else Tryz.f6.params.toList.map fun t => match Tryz.pinned.checked.prog.underlying t with | some (.int k) => some k | _ => none))) = true := by kernel_rfl
theorem fetchAsks_k29 : ((Rows.fetchAsksRow.pinned == Rows.fetchAsksRow.pinnedBy)) = true := by kernel_rfl
theorem fetchAsks_k30 : ((Rows.fetchAsksRow.veiled == (Tryz.f6.params.toList ++ (OpenSpec.ofChange Rows.fetchAsksSpec).bare.plain.varTypes Tryz.pinned.checked.prog ++ Tryz.f6.resultTypes.toList).any (Tryz.pinned.checked.prog.veiledRec ·))) = true := by kernel_rfl
theorem fetchAsks_k31 : (Rows.fetchAsksRow.veiledFits Tryz.pinned.checked.prog Tryz.f6.params.toList (Tryz.f6.params.toList ++ (OpenSpec.ofChange Rows.fetchAsksSpec).bare.plain.varTypes Tryz.pinned.checked.prog ++ Tryz.f6.resultTypes.toList)) = true := by kernel_rfl
set_option maxRecDepth 100000 in
theorem fetchAsks_facts : joinedFacts Tryz.pinned.checked.prog 6 Tryz.f6 (OpenSpec.ofChange Rows.fetchAsksSpec).bare Rows.fetchAsksRow = true := (and_tt (and_tt (and_tt (and_tt (and_tt (and_tt (and_tt (and_tt (and_tt (and_tt (and_tt (and_tt (and_tt (and_tt (and_tt (and_tt (and_tt (and_tt (and_tt (and_tt (and_tt (and_tt (and_tt (and_tt (and_tt (and_tt (and_tt (and_tt (and_tt (and_tt (and_tt fetchAsks_k0 fetchAsks_k1) fetchAsks_k2) fetchAsks_k3) fetchAsks_k4) fetchAsks_k5) fetchAsks_k6) fetchAsks_k7) fetchAsks_k8) fetchAsks_k9) fetchAsks_k10) fetchAsks_k11) fetchAsks_k12) fetchAsks_k13) fetchAsks_k14) fetchAsks_k15) fetchAsks_k16) fetchAsks_k17) fetchAsks_k18) fetchAsks_k19) fetchAsks_k20) fetchAsks_k21) fetchAsks_k22) fetchAsks_k23) fetchAsks_k24) fetchAsks_k25) fetchAsks_k26) fetchAsks_k27) fetchAsks_k28) fetchAsks_k29) fetchAsks_k30) fetchAsks_k31)
theorem fetchAsks_said : Rows.FetchAsksSaid :=
  OpenClaim.holds_of_cond 6 Tryz.f6 rfl rfl rfl rfl rfl rfl rfl ⟨rfl, rfl, rfl, rfl, rfl⟩ rfl rfl rfl rfl rfl (by kernel_rfl) Tryz.func6 fetchAsks_facts
    (of_decide_eq_true (by kernel_rfl)) (by unfold Func.isWrapper; first | (rw [if_pos (by decide +kernel)]; kernel_rfl) | (rw [if_neg (by decide +kernel)]; exact ⟨rfl, rfl⟩))
    (fun os started H enc _ F => by rw [OpenClaim.pre_eq_preRow]; exact fetchAsks_lifted os started H enc F)
theorem fetchAsks_plain (f : FuncId) (fn : Func) (hf : Tryz.pinned.checked.prog.funcNamed "quorate/quoratelaw19.FetchAsks" = some f) (hfn : Tryz.pinned.checked.prog.funcs[f]? = some fn) :
    false = Tryz.pinned.checked.prog.looks [] ∧ ∀ (j : Nat) t, fn.params[j]? = some t → Tryz.pinned.checked.prog.wantsStandIn t = false := by
  obtain rfl : f = 6 := Option.some.inj ((show Tryz.prog.funcNamed "quorate/quoratelaw19.FetchAsks" = some 6 by kernel_rfl).symm.trans hf) |>.symm
  obtain rfl : fn = Tryz.f6 := (Option.some.inj (Tryz.func6.symm.trans hfn)).symm
  refine ⟨by kernel_rfl, fun j t ht => ?_⟩
  rw [Tryz.params6] at ht
  have hm := Array.mem_of_getElem? ht
  have h : t = 58 := by simpa using hm
  subst h
  exact (show Tryz.prog.wantsStandIn 58 = false by kernel_rfl)
theorem fetchAsks_holds : Rows.FetchAsksCardSaid :=
  Claim7.holds_tied_plain_at .later [] _ _ _ _ fetchAsks_said (fun _ h => by cases h) (by kernel_rfl) (fun _ h => by cases h) fetchAsks_row_tie rfl ⟨rfl, rfl⟩ (by kernel_rfl) rfl fetchAsks_plain (by kernel_rfl)
#print axioms fetchAsks_holds
end
end Go.Proofs.YtheonhgffglegaaGreatDoor
