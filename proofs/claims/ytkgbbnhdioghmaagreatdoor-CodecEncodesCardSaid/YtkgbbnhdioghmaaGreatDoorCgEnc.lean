/- Part 6 of 6. What is proved: see the last part: for every input the law returns true, and the input reads as it did. -/
import Derived.Test.YtkgbbnhdioghmaaGreatDoorCg5
import Derived.Test.YtkgbbnhdioghmaaGreatDoorCards
import Derived.Test.YtkgbbnhdioghmaaGreatDoorTie
import Derived.Deep.DeepHandedRow
import Derived.Deep.DeepWitnessRowRef
/- Walks, by program (wg.py) out of a spec. -/
namespace Go.Proofs.YtkgbbnhdioghmaaGreatDoor
open Go
set_option linter.unusedVariables false
set_option linter.unusedSimpArgs false

attribute [local irreducible] Gl Gc Gx Gs Runs Wt

attribute [local irreducible] voteC tmoC propC blkC chgC sgnC tcC qcC dc msgC

set_option maxRecDepth 20000

set_option maxHeartbeats 400000 in
theorem oenc1_ok {w : World} {F : Nat → Prop} {cs : List Value} {m : Msg} (h : stars [] w F) (hx : RdMsg w (fun k => ¬ F k) cs m) (ho : OkMsg m) (hk : m.kind = 1) :
    Calls Tryz.prog 17 #[.agg cs.toArray] w (Post w F (fun r : Option Addr × Nat => .tuple #[.slice r.1 (wOut (wMsg m ⟨0, []⟩)).length r.2, .int .i64 ((wMsg m ⟨0, []⟩).err : Int)]) (fun r => [rowR 5 1 r.1 (wOut (wMsg m ⟨0, []⟩)).length r.2 ((wOut (wMsg m ⟨0, []⟩)).map B8)])) := by
  obtain ⟨v, t, p, r, c, rfl, hv, ht, hp, hr, hc⟩ := hx
  have lv := Len.of hv.len
  have lt := Len.of ht.len
  have lp := Len.of hp.len
  have lr := Len.of hr.len
  have lc := Len.of (RdChg.len hc)
  obtain ⟨sg, rfl, hs⟩ := hv
  have ls := Len.of hs.len
  have js := One.of hs.one
  have e0 := wNum_len m.kind 1 ⟨0, []⟩
  simp only [List.length_nil] at e0
  have e1 := wNum_len m.vote.epoch 4 (wNum m.kind 1 (⟨0, []⟩ : WS))
  have e2 := wNum_len m.vote.round 6 (wNum m.vote.epoch 4 (wNum m.kind 1 (⟨0, []⟩ : WS)))
  have e3 := wDig_len m.vote.block (wNum m.vote.round 6 (wNum m.vote.epoch 4 (wNum m.kind 1 (⟨0, []⟩ : WS))))
  refine g_enter (env := [(0, .agg (List.toArray (.int .i64 m.kind :: ((.int .i64 m.vote.epoch :: .int .i64 m.vote.round :: (dc m.vote.block ++ sg)) ++ (t ++ (p ++ (dc m.wantFrom ++ (dc m.wantBlock ++ (r ++ c)))))))))]) Tryz.func17 rfl h Tryz.ntmps17 rfl rfl ?_
  refine gsr ?_
  refine zbN fun b1 => ?_
  refine gp zas ?_
  refine gp zas ?_
  refine gnt ?_
  refine gsr ?_
  refine gp (r_build (cs := [.slice none 0 0, .int .i64 0]) Ty.zc_114 Ty.pl_114 (by kernel_rfl)) ?_
  refine zbN fun b6 => ?_
  refine gp zas ?_
  refine gnt ?_
  refine gc_seq ?_
  refine gsr ?_
  refine gp zfa ?_
  refine gp zl ?_
  refine gp (r_bool (c := false) zlt (decide_eq_false (by omega))) ?_
  refine gp zmv ?_
  refine gq zfa ?_
  refine gq zl ?_
  refine gq (r_bool (c := false) zgt (decide_eq_false (by omega))) ?_
  refine gp zpk ?_
  refine gnt ?_
  refine gc_condF rfl rfl ?_
  refine gc_skip ?_
  refine gx_then ?_
  refine gsr ?_
  refine gp zmv ?_
  refine gp zfa ?_
  refine gp zl ?_
  refine gl_conv (M := [blk b6 114 [.slice none 0 0, .int .i64 0]]) (N := [OutR b6 ⟨0, []⟩]) (by repeat (first | exact Sel.nil | (apply Sel.cons; · (repeat (first | exact Pick.here | apply Pick.there))))) (fun w F hF => out_mk (a := none) (c := 0) (xs := []) (by have := stars_row_nil (e := 5) (size := 1) hF; exact stars_swap this) rfl rfl rfl) ?_
  refine zc (fun _ => ?_) (c := fun w1 F1 F2 h1 h2 hd hst => onum_ok (wd := 1) h1 (by decide) (by decide) (fun _ => ho.1) (by simp))
  refine gnt ?_
  refine gc_seq ?_
  refine gsr ?_
  refine gp zfa ?_
  refine gp zl ?_
  refine gnt ?_
  refine gc_block ?_
  refine gsr ?_
  refine gp (r_bool (c := true) zei (decide_eq_true (by omega))) ?_
  refine gp zas ?_
  refine gnt ?_
  refine gc_condT rfl rfl ?_
  refine gsr ?_
  refine gp zmv ?_
  refine gp zfa ?_
  refine gp zfa ?_
  refine gp zl ?_
  refine zc (fun _ => ?_) (c := fun w1 F1 F2 h1 h2 hd hst => onum_ok (wd := 4) h1 (by decide) (by decide) (fun _ => ho.2.1.1) (by omega))
  refine gnt ?_
  refine gsr ?_
  refine gp zmv ?_
  refine gp zfa ?_
  refine gp zfa ?_
  refine gp zl ?_
  refine zc (fun _ => ?_) (c := fun w1 F1 F2 h1 h2 hd hst => onum_ok (wd := 6) h1 (by decide) (by decide) (fun _ => ho.2.1.2.1) (by omega))
  refine gnt ?_
  refine gsr ?_
  refine gp zmv ?_
  refine gp zfa ?_
  refine gp zfa ?_
  refine gp (zL (sg := dc m.vote.block)) ?_
  refine zc (fun _ => ?_) (c := fun w1 F1 F2 h1 h2 hd hst => odigest_ok h1 (by omega))
  refine gnt ?_
  refine gc_region ?_
  refine gp zmv ?_
  refine gp zfa ?_
  refine gp zfa ?_
  refine gp (zL (sg := sg)) ?_
  refine zc (fun _ => ?_) (c := fun w1 F1 F2 h1 h2 hd hst => osigned_ok h1 (hs.mv hst.still) ho.2.1.2.2 (by omega))
  refine gl_nil ?_
  refine gx_block_normal ?_
  refine gx_then ?_
  refine gsr ?_
  refine gp zmv ?_
  refine zc (fun r113 => ?_) (c := fun w1 F1 F2 h1 h2 hd hst => odone_ok h1)
  refine gp zex ?_
  refine gp zex ?_
  refine gp zas ?_
  refine gp zas ?_
  refine gnt ?_
  refine gc_ret ?_
  refine gx_ret2 rfl (by conv => lhs; whnf) (by conv => lhs; whnf) ?_
  have e : wMsg m ⟨0, []⟩ = wVote m.vote (wNum m.kind 1 (⟨0, []⟩ : WS)) := by unfold wMsg wBody; rw [if_pos hk]
  rw [e]
  exact ze r113

set_option maxHeartbeats 400000 in
theorem oenc2_ok {w : World} {F : Nat → Prop} {cs : List Value} {m : Msg} (h : stars [] w F) (hx : RdMsg w (fun k => ¬ F k) cs m) (ho : OkMsg m) (hk : m.kind = 2) :
    Calls Tryz.prog 17 #[.agg cs.toArray] w (Post w F (fun r : Option Addr × Nat => .tuple #[.slice r.1 (wOut (wMsg m ⟨0, []⟩)).length r.2, .int .i64 ((wMsg m ⟨0, []⟩).err : Int)]) (fun r => [rowR 5 1 r.1 (wOut (wMsg m ⟨0, []⟩)).length r.2 ((wOut (wMsg m ⟨0, []⟩)).map B8)])) := by
  obtain ⟨v, t, p, r, c, rfl, hv, ht, hp, hr, hc⟩ := hx
  have lv := Len.of hv.len
  have lt := Len.of ht.len
  have lp := Len.of hp.len
  have lr := Len.of hr.len
  have lc := Len.of (RdChg.len hc)
  obtain ⟨q, tc, sg, rfl, hq, htc, hs⟩ := ht
  have ls := Len.of hs.len
  have js := One.of hs.one
  have lq := Len.of hq.len
  have jq := One.of hq.one
  have ltc := Len.of htc.len
  have jtc := One.of htc.one
  have e0 := wNum_len m.kind 1 ⟨0, []⟩
  simp only [List.length_nil] at e0
  have e1 := wNum_len m.tmo.epoch 4 (wNum m.kind 1 (⟨0, []⟩ : WS))
  have e2 := wNum_len m.tmo.round 6 (wNum m.tmo.epoch 4 (wNum m.kind 1 (⟨0, []⟩ : WS)))
  have e3 := wQC_len m.tmo.high (wNum m.tmo.round 6 (wNum m.tmo.epoch 4 (wNum m.kind 1 (⟨0, []⟩ : WS))))
  have e4 := wTC_len m.tmo.last (wQC m.tmo.high (wNum m.tmo.round 6 (wNum m.tmo.epoch 4 (wNum m.kind 1 (⟨0, []⟩ : WS)))))
  refine g_enter (env := [(0, .agg (List.toArray (.int .i64 m.kind :: (v ++ ((.int .i64 m.tmo.epoch :: .int .i64 m.tmo.round :: (q ++ (tc ++ sg))) ++ (p ++ (dc m.wantFrom ++ (dc m.wantBlock ++ (r ++ c)))))))))]) Tryz.func17 rfl h Tryz.ntmps17 rfl rfl ?_
  refine gsr ?_
  refine zbN fun b1 => ?_
  refine gp zas ?_
  refine gp zas ?_
  refine gnt ?_
  refine gsr ?_
  refine gp (r_build (cs := [.slice none 0 0, .int .i64 0]) Ty.zc_114 Ty.pl_114 (by kernel_rfl)) ?_
  refine zbN fun b6 => ?_
  refine gp zas ?_
  refine gnt ?_
  refine gc_seq ?_
  refine gsr ?_
  refine gp zfa ?_
  refine gp zl ?_
  refine gp (r_bool (c := false) zlt (decide_eq_false (by omega))) ?_
  refine gp zmv ?_
  refine gq zfa ?_
  refine gq zl ?_
  refine gq (r_bool (c := false) zgt (decide_eq_false (by omega))) ?_
  refine gp zpk ?_
  refine gnt ?_
  refine gc_condF rfl rfl ?_
  refine gc_skip ?_
  refine gx_then ?_
  refine gsr ?_
  refine gp zmv ?_
  refine gp zfa ?_
  refine gp zl ?_
  refine gl_conv (M := [blk b6 114 [.slice none 0 0, .int .i64 0]]) (N := [OutR b6 ⟨0, []⟩]) (by repeat (first | exact Sel.nil | (apply Sel.cons; · (repeat (first | exact Pick.here | apply Pick.there))))) (fun w F hF => out_mk (a := none) (c := 0) (xs := []) (by have := stars_row_nil (e := 5) (size := 1) hF; exact stars_swap this) rfl rfl rfl) ?_
  refine zc (fun _ => ?_) (c := fun w1 F1 F2 h1 h2 hd hst => onum_ok (wd := 1) h1 (by decide) (by decide) (fun _ => ho.1) (by simp))
  refine gnt ?_
  refine gc_seq ?_
  refine gsr ?_
  refine gp zfa ?_
  refine gp zl ?_
  refine gnt ?_
  refine gc_block ?_
  refine gsr ?_
  refine gp (r_bool (c := false) zei (decide_eq_false (by omega))) ?_
  refine gp zas ?_
  refine gnt ?_
  refine gc_condF rfl rfl ?_
  refine gsr ?_
  refine gp (r_bool (c := true) zei (decide_eq_true (by omega))) ?_
  refine gp zas ?_
  refine gnt ?_
  refine gc_condT rfl rfl ?_
  refine gsr ?_
  refine gp zmv ?_
  refine gp zfa ?_
  refine gp zfa ?_
  refine gp zl ?_
  refine zc (fun _ => ?_) (c := fun w1 F1 F2 h1 h2 hd hst => onum_ok (wd := 4) h1 (by decide) (by decide) (fun _ => ho.2.2.1.1) (by omega))
  refine gnt ?_
  refine gsr ?_
  refine gp zmv ?_
  refine gp zfa ?_
  refine gp zfa ?_
  refine gp zl ?_
  refine zc (fun _ => ?_) (c := fun w1 F1 F2 h1 h2 hd hst => onum_ok (wd := 6) h1 (by decide) (by decide) (fun _ => ho.2.2.1.2.1) (by omega))
  refine gnt ?_
  refine gsr ?_
  refine gp zmv ?_
  refine gp zfa ?_
  refine gp zfa ?_
  refine gp (zL (sg := q)) ?_
  refine zc (fun _ => ?_) (c := fun w1 F1 F2 h1 h2 hd hst => oqc_ok h1 (hq.mv hst.still) ho.2.2.1.2.2.1 (by omega))
  refine gnt ?_
  refine gsr ?_
  refine gp zmv ?_
  refine gp zfa ?_
  refine gp zfa ?_
  refine gp (zL (sg := tc)) ?_
  refine zc (fun _ => ?_) (c := fun w1 F1 F2 h1 h2 hd hst => otc_ok h1 (htc.mv hst.still) ho.2.2.1.2.2.2.1 (by omega))
  refine gnt ?_
  refine gc_region ?_
  refine gp zmv ?_
  refine gp zfa ?_
  refine gp zfa ?_
  refine gp (zL (sg := sg)) ?_
  refine zc (fun _ => ?_) (c := fun w1 F1 F2 h1 h2 hd hst => osigned_ok h1 (hs.mv hst.still) ho.2.2.1.2.2.2.2 (by omega))
  refine gl_nil ?_
  refine gx_block_normal ?_
  refine gx_then ?_
  refine gsr ?_
  refine gp zmv ?_
  refine zc (fun r113 => ?_) (c := fun w1 F1 F2 h1 h2 hd hst => odone_ok h1)
  refine gp zex ?_
  refine gp zex ?_
  refine gp zas ?_
  refine gp zas ?_
  refine gnt ?_
  refine gc_ret ?_
  refine gx_ret2 rfl (by conv => lhs; whnf) (by conv => lhs; whnf) ?_
  have e : wMsg m ⟨0, []⟩ = wTmo m.tmo (wNum m.kind 1 (⟨0, []⟩ : WS)) := by unfold wMsg wBody; rw [if_neg (by omega)]; rw [if_pos hk]
  rw [e]
  exact ze r113

set_option maxHeartbeats 400000 in
theorem oenc3_ok {w : World} {F : Nat → Prop} {cs : List Value} {m : Msg} (h : stars [] w F) (hx : RdMsg w (fun k => ¬ F k) cs m) (ho : OkMsg m) (hk : m.kind = 3) :
    Calls Tryz.prog 17 #[.agg cs.toArray] w (Post w F (fun r : Option Addr × Nat => .tuple #[.slice r.1 (wOut (wMsg m ⟨0, []⟩)).length r.2, .int .i64 ((wMsg m ⟨0, []⟩).err : Int)]) (fun r => [rowR 5 1 r.1 (wOut (wMsg m ⟨0, []⟩)).length r.2 ((wOut (wMsg m ⟨0, []⟩)).map B8)])) := by
  obtain ⟨v, t, p, r, c, rfl, hv, ht, hp, hr, hc⟩ := hx
  have lv := Len.of hv.len
  have lt := Len.of ht.len
  have lp := Len.of hp.len
  have lr := Len.of hr.len
  have lc := Len.of (RdChg.len hc)
  obtain ⟨bk, tc, sg, rfl, hbk, htc, hs⟩ := hp
  have ls := Len.of hs.len
  have js := One.of hs.one
  have lbk := Len.of hbk.len
  have jbk := One.of hbk.one
  have ltc := Len.of htc.len
  have jtc := One.of htc.one
  have e0 := wNum_len m.kind 1 ⟨0, []⟩
  simp only [List.length_nil] at e0
  have e1 := wBlock_len m.prop.block (wNum m.kind 1 (⟨0, []⟩ : WS))
  have e2 := wTC_len m.prop.last (wBlock m.prop.block (wNum m.kind 1 (⟨0, []⟩ : WS)))
  refine g_enter (env := [(0, .agg (List.toArray (.int .i64 m.kind :: (v ++ (t ++ ((bk ++ (tc ++ sg)) ++ (dc m.wantFrom ++ (dc m.wantBlock ++ (r ++ c)))))))))]) Tryz.func17 rfl h Tryz.ntmps17 rfl rfl ?_
  refine gsr ?_
  refine zbN fun b1 => ?_
  refine gp zas ?_
  refine gp zas ?_
  refine gnt ?_
  refine gsr ?_
  refine gp (r_build (cs := [.slice none 0 0, .int .i64 0]) Ty.zc_114 Ty.pl_114 (by kernel_rfl)) ?_
  refine zbN fun b6 => ?_
  refine gp zas ?_
  refine gnt ?_
  refine gc_seq ?_
  refine gsr ?_
  refine gp zfa ?_
  refine gp zl ?_
  refine gp (r_bool (c := false) zlt (decide_eq_false (by omega))) ?_
  refine gp zmv ?_
  refine gq zfa ?_
  refine gq zl ?_
  refine gq (r_bool (c := false) zgt (decide_eq_false (by omega))) ?_
  refine gp zpk ?_
  refine gnt ?_
  refine gc_condF rfl rfl ?_
  refine gc_skip ?_
  refine gx_then ?_
  refine gsr ?_
  refine gp zmv ?_
  refine gp zfa ?_
  refine gp zl ?_
  refine gl_conv (M := [blk b6 114 [.slice none 0 0, .int .i64 0]]) (N := [OutR b6 ⟨0, []⟩]) (by repeat (first | exact Sel.nil | (apply Sel.cons; · (repeat (first | exact Pick.here | apply Pick.there))))) (fun w F hF => out_mk (a := none) (c := 0) (xs := []) (by have := stars_row_nil (e := 5) (size := 1) hF; exact stars_swap this) rfl rfl rfl) ?_
  refine zc (fun _ => ?_) (c := fun w1 F1 F2 h1 h2 hd hst => onum_ok (wd := 1) h1 (by decide) (by decide) (fun _ => ho.1) (by simp))
  refine gnt ?_
  refine gc_seq ?_
  refine gsr ?_
  refine gp zfa ?_
  refine gp zl ?_
  refine gnt ?_
  refine gc_block ?_
  refine gsr ?_
  refine gp (r_bool (c := false) zei (decide_eq_false (by omega))) ?_
  refine gp zas ?_
  refine gnt ?_
  refine gc_condF rfl rfl ?_
  refine gsr ?_
  refine gp (r_bool (c := false) zei (decide_eq_false (by omega))) ?_
  refine gp zas ?_
  refine gnt ?_
  refine gc_condF rfl rfl ?_
  refine gsr ?_
  refine gp (r_bool (c := true) zei (decide_eq_true (by omega))) ?_
  refine gp zas ?_
  refine gnt ?_
  refine gc_condT rfl rfl ?_
  refine gsr ?_
  refine gp zmv ?_
  refine gp zfa ?_
  refine gp zfa ?_
  refine gp (zL (sg := bk)) ?_
  refine zc (fun _ => ?_) (c := fun w1 F1 F2 h1 h2 hd hst => oblock_ok h1 (hbk.mv hst.still) ho.2.2.2.1.1 (by omega))
  refine gnt ?_
  refine gsr ?_
  refine gp zmv ?_
  refine gp zfa ?_
  refine gp zfa ?_
  refine gp (zL (sg := tc)) ?_
  refine zc (fun _ => ?_) (c := fun w1 F1 F2 h1 h2 hd hst => otc_ok h1 (htc.mv hst.still) ho.2.2.2.1.2.1 (by omega))
  refine gnt ?_
  refine gc_region ?_
  refine gp zmv ?_
  refine gp zfa ?_
  refine gp zfa ?_
  refine gp (zL (sg := sg)) ?_
  refine zc (fun _ => ?_) (c := fun w1 F1 F2 h1 h2 hd hst => osigned_ok h1 (hs.mv hst.still) ho.2.2.2.1.2.2 (by omega))
  refine gl_nil ?_
  refine gx_block_normal ?_
  refine gx_then ?_
  refine gsr ?_
  refine gp zmv ?_
  refine zc (fun r113 => ?_) (c := fun w1 F1 F2 h1 h2 hd hst => odone_ok h1)
  refine gp zex ?_
  refine gp zex ?_
  refine gp zas ?_
  refine gp zas ?_
  refine gnt ?_
  refine gc_ret ?_
  refine gx_ret2 rfl (by conv => lhs; whnf) (by conv => lhs; whnf) ?_
  have e : wMsg m ⟨0, []⟩ = wProp m.prop (wNum m.kind 1 (⟨0, []⟩ : WS)) := by unfold wMsg wBody; rw [if_neg (by omega)]; rw [if_neg (by omega)]; rw [if_pos hk]
  rw [e]
  exact ze r113

set_option maxHeartbeats 400000 in
theorem oenc4_ok {w : World} {F : Nat → Prop} {cs : List Value} {m : Msg} (h : stars [] w F) (hx : RdMsg w (fun k => ¬ F k) cs m) (ho : OkMsg m) (hk : m.kind = 4) :
    Calls Tryz.prog 17 #[.agg cs.toArray] w (Post w F (fun r : Option Addr × Nat => .tuple #[.slice r.1 (wOut (wMsg m ⟨0, []⟩)).length r.2, .int .i64 ((wMsg m ⟨0, []⟩).err : Int)]) (fun r => [rowR 5 1 r.1 (wOut (wMsg m ⟨0, []⟩)).length r.2 ((wOut (wMsg m ⟨0, []⟩)).map B8)])) := by
  obtain ⟨v, t, p, r, c, rfl, hv, ht, hp, hr, hc⟩ := hx
  have lv := Len.of hv.len
  have lt := Len.of ht.len
  have lp := Len.of hp.len
  have lr := Len.of hr.len
  have lc := Len.of (RdChg.len hc)
  have e0 := wNum_len m.kind 1 ⟨0, []⟩
  simp only [List.length_nil] at e0
  have e1 := wDig_len m.wantFrom (wNum m.kind 1 (⟨0, []⟩ : WS))
  refine g_enter (env := [(0, .agg (List.toArray (.int .i64 m.kind :: (v ++ (t ++ (p ++ (dc m.wantFrom ++ (dc m.wantBlock ++ (r ++ c)))))))))]) Tryz.func17 rfl h Tryz.ntmps17 rfl rfl ?_
  refine gsr ?_
  refine zbN fun b1 => ?_
  refine gp zas ?_
  refine gp zas ?_
  refine gnt ?_
  refine gsr ?_
  refine gp (r_build (cs := [.slice none 0 0, .int .i64 0]) Ty.zc_114 Ty.pl_114 (by kernel_rfl)) ?_
  refine zbN fun b6 => ?_
  refine gp zas ?_
  refine gnt ?_
  refine gc_seq ?_
  refine gsr ?_
  refine gp zfa ?_
  refine gp zl ?_
  refine gp (r_bool (c := false) zlt (decide_eq_false (by omega))) ?_
  refine gp zmv ?_
  refine gq zfa ?_
  refine gq zl ?_
  refine gq (r_bool (c := false) zgt (decide_eq_false (by omega))) ?_
  refine gp zpk ?_
  refine gnt ?_
  refine gc_condF rfl rfl ?_
  refine gc_skip ?_
  refine gx_then ?_
  refine gsr ?_
  refine gp zmv ?_
  refine gp zfa ?_
  refine gp zl ?_
  refine gl_conv (M := [blk b6 114 [.slice none 0 0, .int .i64 0]]) (N := [OutR b6 ⟨0, []⟩]) (by repeat (first | exact Sel.nil | (apply Sel.cons; · (repeat (first | exact Pick.here | apply Pick.there))))) (fun w F hF => out_mk (a := none) (c := 0) (xs := []) (by have := stars_row_nil (e := 5) (size := 1) hF; exact stars_swap this) rfl rfl rfl) ?_
  refine zc (fun _ => ?_) (c := fun w1 F1 F2 h1 h2 hd hst => onum_ok (wd := 1) h1 (by decide) (by decide) (fun _ => ho.1) (by simp))
  refine gnt ?_
  refine gc_seq ?_
  refine gsr ?_
  refine gp zfa ?_
  refine gp zl ?_
  refine gnt ?_
  refine gc_block ?_
  refine gsr ?_
  refine gp (r_bool (c := false) zei (decide_eq_false (by omega))) ?_
  refine gp zas ?_
  refine gnt ?_
  refine gc_condF rfl rfl ?_
  refine gsr ?_
  refine gp (r_bool (c := false) zei (decide_eq_false (by omega))) ?_
  refine gp zas ?_
  refine gnt ?_
  refine gc_condF rfl rfl ?_
  refine gsr ?_
  refine gp (r_bool (c := false) zei (decide_eq_false (by omega))) ?_
  refine gp zas ?_
  refine gnt ?_
  refine gc_condF rfl rfl ?_
  refine gsr ?_
  refine gp (r_bool (c := true) zei (decide_eq_true (by omega))) ?_
  refine gp zas ?_
  refine gnt ?_
  refine gc_condT rfl rfl ?_
  refine gsr ?_
  refine gp zmv ?_
  refine gp zfa ?_
  refine gp zfa ?_
  refine gp (zL (sg := dc m.wantFrom)) ?_
  refine zc (fun _ => ?_) (c := fun w1 F1 F2 h1 h2 hd hst => odigest_ok h1 (by omega))
  refine gnt ?_
  refine gc_region ?_
  refine gp zmv ?_
  refine gp zfa ?_
  refine gp zfa ?_
  refine gp (zL (sg := dc m.wantBlock)) ?_
  refine zc (fun _ => ?_) (c := fun w1 F1 F2 h1 h2 hd hst => odigest_ok h1 (by omega))
  refine gl_nil ?_
  refine gx_block_normal ?_
  refine gx_then ?_
  refine gsr ?_
  refine gp zmv ?_
  refine zc (fun r113 => ?_) (c := fun w1 F1 F2 h1 h2 hd hst => odone_ok h1)
  refine gp zex ?_
  refine gp zex ?_
  refine gp zas ?_
  refine gp zas ?_
  refine gnt ?_
  refine gc_ret ?_
  refine gx_ret2 rfl (by conv => lhs; whnf) (by conv => lhs; whnf) ?_
  have e : wMsg m ⟨0, []⟩ = wDig m.wantBlock (wDig m.wantFrom (wNum m.kind 1 (⟨0, []⟩ : WS))) := by unfold wMsg wBody; rw [if_neg (by omega)]; rw [if_neg (by omega)]; rw [if_neg (by omega)]; rw [if_pos hk]
  rw [e]
  exact ze r113

set_option maxHeartbeats 400000 in
theorem oenc5_ok {w : World} {F : Nat → Prop} {cs : List Value} {m : Msg} (h : stars [] w F) (hx : RdMsg w (fun k => ¬ F k) cs m) (ho : OkMsg m) (hk : m.kind = 5) :
    Calls Tryz.prog 17 #[.agg cs.toArray] w (Post w F (fun r : Option Addr × Nat => .tuple #[.slice r.1 (wOut (wMsg m ⟨0, []⟩)).length r.2, .int .i64 ((wMsg m ⟨0, []⟩).err : Int)]) (fun r => [rowR 5 1 r.1 (wOut (wMsg m ⟨0, []⟩)).length r.2 ((wOut (wMsg m ⟨0, []⟩)).map B8)])) := by
  obtain ⟨v, t, p, r, c, rfl, hv, ht, hp, hr, hc⟩ := hx
  have lv := Len.of hv.len
  have lt := Len.of ht.len
  have lp := Len.of hp.len
  have lr := Len.of hr.len
  have lc := Len.of (RdChg.len hc)
  have e0 := wNum_len m.kind 1 ⟨0, []⟩
  simp only [List.length_nil] at e0
  refine g_enter (env := [(0, .agg (List.toArray (.int .i64 m.kind :: (v ++ (t ++ (p ++ (dc m.wantFrom ++ (dc m.wantBlock ++ (r ++ c)))))))))]) Tryz.func17 rfl h Tryz.ntmps17 rfl rfl ?_
  refine gsr ?_
  refine zbN fun b1 => ?_
  refine gp zas ?_
  refine gp zas ?_
  refine gnt ?_
  refine gsr ?_
  refine gp (r_build (cs := [.slice none 0 0, .int .i64 0]) Ty.zc_114 Ty.pl_114 (by kernel_rfl)) ?_
  refine zbN fun b6 => ?_
  refine gp zas ?_
  refine gnt ?_
  refine gc_seq ?_
  refine gsr ?_
  refine gp zfa ?_
  refine gp zl ?_
  refine gp (r_bool (c := false) zlt (decide_eq_false (by omega))) ?_
  refine gp zmv ?_
  refine gq zfa ?_
  refine gq zl ?_
  refine gq (r_bool (c := false) zgt (decide_eq_false (by omega))) ?_
  refine gp zpk ?_
  refine gnt ?_
  refine gc_condF rfl rfl ?_
  refine gc_skip ?_
  refine gx_then ?_
  refine gsr ?_
  refine gp zmv ?_
  refine gp zfa ?_
  refine gp zl ?_
  refine gl_conv (M := [blk b6 114 [.slice none 0 0, .int .i64 0]]) (N := [OutR b6 ⟨0, []⟩]) (by repeat (first | exact Sel.nil | (apply Sel.cons; · (repeat (first | exact Pick.here | apply Pick.there))))) (fun w F hF => out_mk (a := none) (c := 0) (xs := []) (by have := stars_row_nil (e := 5) (size := 1) hF; exact stars_swap this) rfl rfl rfl) ?_
  refine zc (fun _ => ?_) (c := fun w1 F1 F2 h1 h2 hd hst => onum_ok (wd := 1) h1 (by decide) (by decide) (fun _ => ho.1) (by simp))
  refine gnt ?_
  refine gc_seq ?_
  refine gsr ?_
  refine gp zfa ?_
  refine gp zl ?_
  refine gnt ?_
  refine gc_block ?_
  refine gsr ?_
  refine gp (r_bool (c := false) zei (decide_eq_false (by omega))) ?_
  refine gp zas ?_
  refine gnt ?_
  refine gc_condF rfl rfl ?_
  refine gsr ?_
  refine gp (r_bool (c := false) zei (decide_eq_false (by omega))) ?_
  refine gp zas ?_
  refine gnt ?_
  refine gc_condF rfl rfl ?_
  refine gsr ?_
  refine gp (r_bool (c := false) zei (decide_eq_false (by omega))) ?_
  refine gp zas ?_
  refine gnt ?_
  refine gc_condF rfl rfl ?_
  refine gsr ?_
  refine gp (r_bool (c := false) zei (decide_eq_false (by omega))) ?_
  refine gp zas ?_
  refine gnt ?_
  refine gc_condF rfl rfl ?_
  refine gsr ?_
  refine gp (r_bool (c := true) zei (decide_eq_true (by omega))) ?_
  refine gp zas ?_
  refine gnt ?_
  refine gc_condT rfl rfl ?_
  refine gc_region ?_
  refine gp zmv ?_
  refine gp zfa ?_
  refine gp zfa ?_
  refine gp (zL (sg := r)) ?_
  refine zc (fun _ => ?_) (c := fun w1 F1 F2 h1 h2 hd hst => oblock_ok h1 (hr.mv hst.still) ho.2.2.2.2.1 (by omega))
  refine gl_nil ?_
  refine gx_block_normal ?_
  refine gx_then ?_
  refine gsr ?_
  refine gp zmv ?_
  refine zc (fun r113 => ?_) (c := fun w1 F1 F2 h1 h2 hd hst => odone_ok h1)
  refine gp zex ?_
  refine gp zex ?_
  refine gp zas ?_
  refine gp zas ?_
  refine gnt ?_
  refine gc_ret ?_
  refine gx_ret2 rfl (by conv => lhs; whnf) (by conv => lhs; whnf) ?_
  have e : wMsg m ⟨0, []⟩ = wBlock m.reply (wNum m.kind 1 (⟨0, []⟩ : WS)) := by unfold wMsg wBody; rw [if_neg (by omega)]; rw [if_neg (by omega)]; rw [if_neg (by omega)]; rw [if_neg (by omega)]; rw [if_pos hk]
  rw [e]
  exact ze r113

set_option maxHeartbeats 400000 in
theorem oenc6_ok {w : World} {F : Nat → Prop} {cs : List Value} {m : Msg} (h : stars [] w F) (hx : RdMsg w (fun k => ¬ F k) cs m) (ho : OkMsg m) (hk : m.kind = 6) :
    Calls Tryz.prog 17 #[.agg cs.toArray] w (Post w F (fun r : Option Addr × Nat => .tuple #[.slice r.1 (wOut (wMsg m ⟨0, []⟩)).length r.2, .int .i64 ((wMsg m ⟨0, []⟩).err : Int)]) (fun r => [rowR 5 1 r.1 (wOut (wMsg m ⟨0, []⟩)).length r.2 ((wOut (wMsg m ⟨0, []⟩)).map B8)])) := by
  obtain ⟨v, t, p, r, c, rfl, hv, ht, hp, hr, hc⟩ := hx
  have lv := Len.of hv.len
  have lt := Len.of ht.len
  have lp := Len.of hp.len
  have lr := Len.of hr.len
  have lc := Len.of (RdChg.len hc)
  have e0 := wNum_len m.kind 1 ⟨0, []⟩
  simp only [List.length_nil] at e0
  refine g_enter (env := [(0, .agg (List.toArray (.int .i64 m.kind :: (v ++ (t ++ (p ++ (dc m.wantFrom ++ (dc m.wantBlock ++ (r ++ c)))))))))]) Tryz.func17 rfl h Tryz.ntmps17 rfl rfl ?_
  refine gsr ?_
  refine zbN fun b1 => ?_
  refine gp zas ?_
  refine gp zas ?_
  refine gnt ?_
  refine gsr ?_
  refine gp (r_build (cs := [.slice none 0 0, .int .i64 0]) Ty.zc_114 Ty.pl_114 (by kernel_rfl)) ?_
  refine zbN fun b6 => ?_
  refine gp zas ?_
  refine gnt ?_
  refine gc_seq ?_
  refine gsr ?_
  refine gp zfa ?_
  refine gp zl ?_
  refine gp (r_bool (c := false) zlt (decide_eq_false (by omega))) ?_
  refine gp zmv ?_
  refine gq zfa ?_
  refine gq zl ?_
  refine gq (r_bool (c := false) zgt (decide_eq_false (by omega))) ?_
  refine gp zpk ?_
  refine gnt ?_
  refine gc_condF rfl rfl ?_
  refine gc_skip ?_
  refine gx_then ?_
  refine gsr ?_
  refine gp zmv ?_
  refine gp zfa ?_
  refine gp zl ?_
  refine gl_conv (M := [blk b6 114 [.slice none 0 0, .int .i64 0]]) (N := [OutR b6 ⟨0, []⟩]) (by repeat (first | exact Sel.nil | (apply Sel.cons; · (repeat (first | exact Pick.here | apply Pick.there))))) (fun w F hF => out_mk (a := none) (c := 0) (xs := []) (by have := stars_row_nil (e := 5) (size := 1) hF; exact stars_swap this) rfl rfl rfl) ?_
  refine zc (fun _ => ?_) (c := fun w1 F1 F2 h1 h2 hd hst => onum_ok (wd := 1) h1 (by decide) (by decide) (fun _ => ho.1) (by simp))
  refine gnt ?_
  refine gc_seq ?_
  refine gsr ?_
  refine gp zfa ?_
  refine gp zl ?_
  refine gnt ?_
  refine gc_block ?_
  refine gsr ?_
  refine gp (r_bool (c := false) zei (decide_eq_false (by omega))) ?_
  refine gp zas ?_
  refine gnt ?_
  refine gc_condF rfl rfl ?_
  refine gsr ?_
  refine gp (r_bool (c := false) zei (decide_eq_false (by omega))) ?_
  refine gp zas ?_
  refine gnt ?_
  refine gc_condF rfl rfl ?_
  refine gsr ?_
  refine gp (r_bool (c := false) zei (decide_eq_false (by omega))) ?_
  refine gp zas ?_
  refine gnt ?_
  refine gc_condF rfl rfl ?_
  refine gsr ?_
  refine gp (r_bool (c := false) zei (decide_eq_false (by omega))) ?_
  refine gp zas ?_
  refine gnt ?_
  refine gc_condF rfl rfl ?_
  refine gsr ?_
  refine gp (r_bool (c := false) zei (decide_eq_false (by omega))) ?_
  refine gp zas ?_
  refine gnt ?_
  refine gc_condF rfl rfl ?_
  refine gsr ?_
  refine gp (r_bool (c := true) zei (decide_eq_true (by omega))) ?_
  refine gp zas ?_
  refine gnt ?_
  refine gc_condT rfl rfl ?_
  refine gc_region ?_
  refine gp zmv ?_
  refine gp zfa ?_
  refine gp (zL (sg := c)) ?_
  refine zc (fun _ => ?_) (c := fun w1 F1 F2 h1 h2 hd hst => ochange_ok h1 (hc.mv hst.still) ho.2.2.2.2.2 (by omega))
  refine gl_nil ?_
  refine gx_block_normal ?_
  refine gx_then ?_
  refine gsr ?_
  refine gp zmv ?_
  refine zc (fun r113 => ?_) (c := fun w1 F1 F2 h1 h2 hd hst => odone_ok h1)
  refine gp zex ?_
  refine gp zex ?_
  refine gp zas ?_
  refine gp zas ?_
  refine gnt ?_
  refine gc_ret ?_
  refine gx_ret2 rfl (by conv => lhs; whnf) (by conv => lhs; whnf) ?_
  have e : wMsg m ⟨0, []⟩ = wChg m.chg (wNum m.kind 1 (⟨0, []⟩ : WS)) := by unfold wMsg wBody; rw [if_neg (by omega)]; rw [if_neg (by omega)]; rw [if_neg (by omega)]; rw [if_neg (by omega)]; rw [if_neg (by omega)]
  rw [e]
  exact ze r113

set_option maxHeartbeats 400000 in
theorem oenc_lo {w : World} {F : Nat → Prop} {cs : List Value} {m : Msg} (h : stars [] w F) (hx : RdMsg w (fun k => ¬ F k) cs m) (hk : m.kind < 1) :
    Calls Tryz.prog 17 #[.agg cs.toArray] w (Post w F (fun r : Option Addr × Nat => .tuple #[.slice r.1 (wOut (wEnc m)).length r.2, .int .i64 ((wEnc m).err : Int)]) (fun r => [rowR 5 1 r.1 (wOut (wEnc m)).length r.2 ((wOut (wEnc m)).map B8)])) := by
  obtain ⟨rest, rfl⟩ := hx.head
  have lr : rest.length = 303 := by have := hx.len; simpa using this
  have on0 := hx.one
  have ir := Len.of lr
  have jr := One.of (fun v hv => on0 v (List.mem_cons_of_mem _ hv))
  refine g_enter (env := [(0, .agg (List.toArray (.int .i64 m.kind :: rest)))]) Tryz.func17 rfl h Tryz.ntmps17 rfl rfl ?_
  refine gsr ?_
  refine zbN fun b1 => ?_
  refine gp zas ?_
  refine gp zas ?_
  refine gnt ?_
  refine gsr ?_
  refine gp (r_build (cs := [.slice none 0 0, .int .i64 0]) Ty.zc_114 Ty.pl_114 (by kernel_rfl)) ?_
  refine zbN fun b6 => ?_
  refine gp zas ?_
  refine gnt ?_
  refine gc_seq ?_
  refine gsr ?_
  refine gp zfa ?_
  refine gp zl ?_
  refine gp (r_bool (c := true) zlt (decide_eq_true (by omega))) ?_
  refine gp zmv ?_
  refine gn ?_
  refine gn ?_
  refine gn ?_
  refine gp zpk ?_
  refine gnt ?_
  refine gc_condT rfl rfl ?_
  refine gsr ?_
  refine gp zas ?_
  refine gp zas ?_
  refine gnt ?_
  refine gc_ret ?_
  refine gx_then_ret ?_
  refine gx_ret2 rfl (by conv => lhs; whnf) (by conv => lhs; whnf) ?_
  have e : wEnc m = ⟨4, []⟩ := by rw [wEnc, if_pos (by omega)]
  rw [e]
  exact fun w' hw => ⟨(none, 0), rfl, hw.rowNil.sel (by repeat (first | exact Sel.nil | (apply Sel.cons; · (repeat (first | exact Pick.here | apply Pick.there)))))⟩

set_option maxHeartbeats 400000 in
theorem oenc_hi {w : World} {F : Nat → Prop} {cs : List Value} {m : Msg} (h : stars [] w F) (hx : RdMsg w (fun k => ¬ F k) cs m) (hk : 6 < m.kind) :
    Calls Tryz.prog 17 #[.agg cs.toArray] w (Post w F (fun r : Option Addr × Nat => .tuple #[.slice r.1 (wOut (wEnc m)).length r.2, .int .i64 ((wEnc m).err : Int)]) (fun r => [rowR 5 1 r.1 (wOut (wEnc m)).length r.2 ((wOut (wEnc m)).map B8)])) := by
  obtain ⟨rest, rfl⟩ := hx.head
  have lr : rest.length = 303 := by have := hx.len; simpa using this
  have on0 := hx.one
  have ir := Len.of lr
  have jr := One.of (fun v hv => on0 v (List.mem_cons_of_mem _ hv))
  refine g_enter (env := [(0, .agg (List.toArray (.int .i64 m.kind :: rest)))]) Tryz.func17 rfl h Tryz.ntmps17 rfl rfl ?_
  refine gsr ?_
  refine zbN fun b1 => ?_
  refine gp zas ?_
  refine gp zas ?_
  refine gnt ?_
  refine gsr ?_
  refine gp (r_build (cs := [.slice none 0 0, .int .i64 0]) Ty.zc_114 Ty.pl_114 (by kernel_rfl)) ?_
  refine zbN fun b6 => ?_
  refine gp zas ?_
  refine gnt ?_
  refine gc_seq ?_
  refine gsr ?_
  refine gp zfa ?_
  refine gp zl ?_
  refine gp (r_bool (c := false) zlt (decide_eq_false (by omega))) ?_
  refine gp zmv ?_
  refine gq zfa ?_
  refine gq zl ?_
  refine gq (r_bool (c := true) zgt (decide_eq_true (by omega))) ?_
  refine gp zpk ?_
  refine gnt ?_
  refine gc_condT rfl rfl ?_
  refine gsr ?_
  refine gp zas ?_
  refine gp zas ?_
  refine gnt ?_
  refine gc_ret ?_
  refine gx_then_ret ?_
  refine gx_ret2 rfl (by conv => lhs; whnf) (by conv => lhs; whnf) ?_
  have e : wEnc m = ⟨4, []⟩ := by rw [wEnc, if_pos (by omega)]
  rw [e]
  exact fun w' hw => ⟨(none, 0), rfl, hw.rowNil.sel (by repeat (first | exact Sel.nil | (apply Sel.cons; · (repeat (first | exact Pick.here | apply Pick.there)))))⟩


theorem oencode_ok {w : World} {F : Nat → Prop} {cs : List Value} {m : Msg} (h : stars [] w F) (hx : RdMsg w (fun k => ¬ F k) cs m) (ho : OkMsg m) : Calls Tryz.prog 17 #[.agg cs.toArray] w (Post w F (fun r : Option Addr × Nat => .tuple #[.slice r.1 (wOut (wEnc m)).length r.2, .int .i64 ((wEnc m).err : Int)]) (fun r => [rowR 5 1 r.1 (wOut (wEnc m)).length r.2 ((wOut (wEnc m)).map B8)])) := by
  by_cases k1 : m.kind < 1
  · exact oenc_lo h hx k1
  by_cases k6 : 6 < m.kind
  · exact oenc_hi h hx k6
  have e : wEnc m = wMsg m ⟨0, []⟩ := by rw [wEnc, if_neg (by omega)]
  rw [e]
  by_cases hk : m.kind = 1
  · exact oenc1_ok h hx ho hk
  by_cases hk : m.kind = 2
  · exact oenc2_ok h hx ho hk
  by_cases hk : m.kind = 3
  · exact oenc3_ok h hx ho hk
  by_cases hk : m.kind = 4
  · exact oenc4_ok h hx ho hk
  by_cases hk : m.kind = 5
  · exact oenc5_ok h hx ho hk
  exact oenc6_ok h hx ho (by omega)
theorem msg_law {x : Msg} (h3 : x.chg.blocks.length = 3) (he : (wEnc x).err = 0) : allE pMsg (msg0 0) (wOut (wEnc x)) = (0, plainM x) := by
  have hk : ¬ (x.kind < 1 ∨ 6 < x.kind) := fun h => by rw [wEnc, if_pos h] at he; simp at he
  have e : wEnc x = wMsg x ⟨0, []⟩ := by rw [wEnc, if_neg hk]
  rw [wOut, if_pos he, e]
  rw [e] at he
  exact allE_ok (pAll_enc (enc_msg x h3 (by omega) (by omega)) he)

end Go.Proofs.YtkgbbnhdioghmaaGreatDoor

/- Walks, by program (wg.py) out of a spec. -/
namespace Go.Proofs.YtkgbbnhdioghmaaGreatDoor
open Go
set_option linter.unusedVariables false
set_option linter.unusedSimpArgs false

attribute [local irreducible] Gl Gc Gx Gs Runs Wt

attribute [local irreducible] voteC tmoC propC blkC chgC sgnC tcC qcC dc msgC

attribute [local irreducible] MP.pc MP.cs plainM

set_option maxHeartbeats 400000 in
theorem codecEncodes_ok {w : World} {F : Nat → Prop} {ea : Nat → Addr} {cs : List Value} {x : Msg} (h : stars [] w F) (hN : NErr w (fun k => ¬ F k) ea) (hx : RdMsg w (fun k => ¬ F k) cs x) (ho : OkMsg x) :
    Calls Tryz.prog 4 #[.agg cs.toArray] w (Post w F (fun _ : Unit => .bool true) (fun _ => [])) := by
  have hE := hN.g
  have hl := hx.len
  have il := Len.of hl
  have jl := One.of hx.one
  have h3 := hx.three
  have hmx := wOut_max h3
  have her : (wEnc x).err ≤ 18 := Nat.le_trans (eok_enc x) (by decide)
  obtain ⟨p0, hp0, hr0⟩ := MP.of hx
  refine g_enter (env := [(0, .agg cs.toArray)]) Tryz.func4 rfl h Tryz.ntmps4 rfl rfl ?_
  refine gsr ?_
  refine zbN fun b1 => ?_
  refine gp zas ?_
  refine gnt ?_
  refine gc_seq ?_
  refine gsr ?_
  refine zc (fun _ => ?_) (c := fun w1 F1 F2 h1 h2 hd hst => alive09_ok h1 (hE.mv hst.still))
  refine gp znt ?_
  refine gnt ?_
  refine gc_condF rfl rfl ?_
  refine gc_skip ?_
  refine gx_then ?_
  refine gc_seq ?_
  refine gsr ?_
  refine gp (zLa (cs := cs)) ?_
  refine zc (fun r11 => ?_) (c := fun w1 F1 F2 h1 h2 hd hst => big_ok h1 (hx.mv hst.still))
  refine gnt ?_
  refine gif rfl (fun hc11 => ?_) (fun hc11 => ?_)
  · refine gsr ?_
    refine gp zas ?_
    refine gnt ?_
    refine gc_ret ?_
    refine gx_then_ret ?_
    refine gx_ret1 rfl (by conv => lhs; whnf) ?_
    exact ze ()
  · refine gc_skip ?_
    refine gx_then ?_
    refine gsr ?_
    refine gp (zLa (cs := cs)) ?_
    refine zc ?_ (c := fun w1 F1 F2 h1 h2 hd hst => encode_ok h1 (hE.mv hst.still) (hx.mv hst.still))
    rintro ⟨a14, c14⟩
    refine gp zmv ?_
    refine gp zex ?_
    refine gp zex ?_
    refine gp zas ?_
    refine gp zas ?_
    refine gnt ?_
    refine gsr ?_
    refine gp (zLa (cs := cs)) ?_
    refine zc ?_ (c := fun w1 F1 F2 h1 h2 hd hst => oencode_ok h1 (hx.mv hst.still) ho)
    rintro ⟨a19, c19⟩
    refine gp zmv ?_
    refine gp zex ?_
    refine gp zex ?_
    refine gp zas ?_
    refine gp zas ?_
    refine gnt ?_
    refine gc_seq ?_
    refine gsr ?_
    refine gp zmv ?_
    refine gp (zso (b := wOut (wEnc x))) ?_
    refine gp zmv ?_
    refine gp (zso (b := wOut (wEnc x))) ?_
    refine gp (r_bool (c := false) zns (by simp)) ?_
    refine gp zmv ?_
    refine gq zmv ?_
    refine zc (fun _ => ?_) (c := fun w1 F1 F2 h1 h2 hd hst => errNum_ok (n := (wEnc x).err) h1 (hN.mv hst.still) her)
    refine gq zmv ?_
    refine gq (r_bool (c := false) zni (by simp)) ?_
    refine gp zpk ?_
    refine gnt ?_
    refine gc_condF rfl rfl ?_
    refine gc_skip ?_
    refine gx_then ?_
    refine gc_seq ?_
    refine gc_seq ?_
    by_cases he : (wEnc x).err = 0
    · refine gc_region ?_
      refine gp zmv ?_
      refine gp (r_bool (c := false) zni (by simp [he])) ?_
      refine gnt ?_
      refine gc_condF rfl rfl ?_
      refine gc_skip ?_
      refine gx_then ?_
      refine gsr ?_
      refine gp zmv ?_
      refine zc (fun q37 => ?_) (c := fun w1 F1 F2 h1 h2 hd hst => decode_ok (b := wOut (wEnc x)) h1 (hE.mv hst.still) (rd_row h2 hd (by repeat (first | exact Pick.here | apply Pick.there))) (by omega))
      rw [msg_law h3 he]
      refine gl_pureR (fun hq37 => ?_)
      obtain ⟨hl37, ho37⟩ := hq37
      have i37 := Len.of hl37
      have j37 := One.of ho37
      refine gp zmv ?_
      refine gp zex ?_
      refine gp zex ?_
      refine zal fun b7 => ?_
      refine gl_eqc (cs' := msgC 0 dig0 dig0) (by repeat (first | exact Pick.here | apply Pick.there)) (by kernel_rfl) ?_
      refine zsA (by first | exact hl37 | rfl) ho37 ?_
      refine gp zas ?_
      refine gnt ?_
      refine gc_seq ?_
      refine gc_regionZ 8 ([blk b7 66 q37, blk b1 66 cs]) ?_
      refine yps 0 rfl zmv ?_
      refine yps 1 rfl (r_bool (c := true) (r_eqnil (k := 0) rfl (by kernel_rfl)) rfl) ?_
      refine yps 2 rfl zmv ?_
      refine yps 3 rfl (zLa (cs := q37)) ?_
      refine yps 4 rfl (zLa (cs := cs)) ?_
      refine yos 5 rfl ?_
      refine zc (fun _ => ?_) (c := fun w1 F1 F2 h1 h2 hd hst => plain_ok' (x := x) (p := p0) h1 hp0 hr0.ok)
      refine yxs ?_
      refine yos 6 rfl ?_
      refine zc (fun _ => ?_) (c := fun w1 F1 F2 h1 h2 hd hst => sameMsg_ok (x := plainM x) h1 (vl_rd h2 hd (by repeat (first | exact Pick.here | apply Pick.there))) (MP.plain (hr0.mv hst.still)))
      refine yxs ?_
      refine yps 7 rfl zpk ?_
      refine yzs rfl ?_
      refine gp zas ?_
      refine gnt ?_
      refine gc_ret ?_
      refine gx_ret1 rfl (by conv => lhs; whnf) ?_
      exact ze ()
    · refine gc_region ?_
      refine gp zmv ?_
      refine gp (r_bool (c := true) zni (by simp [he])) ?_
      refine gnt ?_
      refine gc_condT rfl rfl ?_
      refine gsr ?_
      refine gp zas ?_
      refine gnt ?_
      refine gc_ret ?_
      refine gx_then_ret ?_
      refine gx_ret1 rfl (by conv => lhs; whnf) ?_
      exact ze ()

end Go.Proofs.YtkgbbnhdioghmaaGreatDoor

/- CodecEncodes: for every input the law returns true, and the input reads as it did: the row and its card. -/
namespace Go.Proofs.YtkgbbnhdioghmaaGreatDoor
open Go
open Go.ChangeShapes Go.WideShapes Go.ChangeAt Go.RowKit
set_option linter.unusedVariables false

/-- One world that fits: the settled one, the listed variables as their initialisers lay them. -/
noncomputable def codecEncodes_world (os : Os) : World :=
  let w0 := World.holding Tryz.prog os ⟨#[.cells #[.string ⟨#[113, 117, 111, 114, 97, 116, 101, 58, 32, 114, 97, 110, 103, 101]⟩] 289, .cells #[.string ⟨#[113, 117, 111, 114, 97, 116, 101, 58, 32, 115, 104, 111, 114, 116]⟩] 289, .cells #[.string ⟨#[113, 117, 111, 114, 97, 116, 101, 58, 32, 108, 111, 110, 103]⟩] 289, .cells #[.string ⟨#[113, 117, 111, 114, 97, 116, 101, 58, 32, 102, 111, 114, 109]⟩] 289, .cells #[.string ⟨#[113, 117, 111, 114, 97, 116, 101, 58, 32, 115, 112, 101, 110, 116]⟩] 289, .cells #[.string ⟨#[113, 117, 111, 114, 97, 116, 101, 58, 32, 112, 111, 119, 101, 114]⟩] 289, .cells #[.string ⟨#[113, 117, 111, 114, 97, 116, 101, 58, 32, 100, 105, 115, 107]⟩] 289, .cells #[.string ⟨#[113, 117, 111, 114, 97, 116, 101, 58, 32, 102, 117, 108, 108]⟩] 289, .cells #[.string ⟨#[113, 117, 111, 114, 97, 116, 101, 58, 32, 110, 111, 110, 101]⟩] 289, .cells #[.string ⟨#[113, 117, 111, 114, 97, 116, 101, 58, 32, 111, 108, 100]⟩] 289, .cells #[.string ⟨#[113, 117, 111, 114, 97, 116, 101, 58, 32, 115, 101, 116]⟩] 289, .cells #[.string ⟨#[113, 117, 111, 114, 97, 116, 101, 58, 32, 112, 114, 111, 111, 102]⟩] 289, .cells #[.string ⟨#[113, 117, 111, 114, 97, 116, 101, 58, 32, 108, 101, 97, 100, 101, 114]⟩] 289, .cells #[.string ⟨#[113, 117, 111, 114, 97, 116, 101, 58, 32, 114, 111, 117, 110, 100]⟩] 289, .cells #[.string ⟨#[113, 117, 111, 114, 97, 116, 101, 58, 32, 117, 110, 115, 97, 102, 101]⟩] 289, .cells #[.string ⟨#[113, 117, 111, 114, 97, 116, 101, 58, 32, 112, 97, 114, 101, 110, 116]⟩] 289, .cells #[.string ⟨#[113, 117, 111, 114, 97, 116, 101, 58, 32, 116, 119, 105, 99, 101]⟩] 289, .cells #[.string ⟨#[113, 117, 111, 114, 97, 116, 101, 58, 32, 101, 112, 111, 99, 104]⟩] 289], #[], []⟩
  { w0 with heap := (((((((((((((((((w0.heap.modify 0 fun
      | .cells _ t fz => .cells #[.iface 264 (.pointer (some ⟨lowB + 0, 0, none⟩))] t fz
      | o => o).modify 1 fun
      | .cells _ t fz => .cells #[.iface 264 (.pointer (some ⟨lowB + 1, 0, none⟩))] t fz
      | o => o).modify 2 fun
      | .cells _ t fz => .cells #[.iface 264 (.pointer (some ⟨lowB + 2, 0, none⟩))] t fz
      | o => o).modify 3 fun
      | .cells _ t fz => .cells #[.iface 264 (.pointer (some ⟨lowB + 3, 0, none⟩))] t fz
      | o => o).modify 4 fun
      | .cells _ t fz => .cells #[.iface 264 (.pointer (some ⟨lowB + 4, 0, none⟩))] t fz
      | o => o).modify 5 fun
      | .cells _ t fz => .cells #[.iface 264 (.pointer (some ⟨lowB + 5, 0, none⟩))] t fz
      | o => o).modify 6 fun
      | .cells _ t fz => .cells #[.iface 264 (.pointer (some ⟨lowB + 6, 0, none⟩))] t fz
      | o => o).modify 7 fun
      | .cells _ t fz => .cells #[.iface 264 (.pointer (some ⟨lowB + 7, 0, none⟩))] t fz
      | o => o).modify 8 fun
      | .cells _ t fz => .cells #[.iface 264 (.pointer (some ⟨lowB + 8, 0, none⟩))] t fz
      | o => o).modify 9 fun
      | .cells _ t fz => .cells #[.iface 264 (.pointer (some ⟨lowB + 9, 0, none⟩))] t fz
      | o => o).modify 10 fun
      | .cells _ t fz => .cells #[.iface 264 (.pointer (some ⟨lowB + 10, 0, none⟩))] t fz
      | o => o).modify 11 fun
      | .cells _ t fz => .cells #[.iface 264 (.pointer (some ⟨lowB + 11, 0, none⟩))] t fz
      | o => o).modify 12 fun
      | .cells _ t fz => .cells #[.iface 264 (.pointer (some ⟨lowB + 12, 0, none⟩))] t fz
      | o => o).modify 13 fun
      | .cells _ t fz => .cells #[.iface 264 (.pointer (some ⟨lowB + 13, 0, none⟩))] t fz
      | o => o).modify 14 fun
      | .cells _ t fz => .cells #[.iface 264 (.pointer (some ⟨lowB + 14, 0, none⟩))] t fz
      | o => o).modify 15 fun
      | .cells _ t fz => .cells #[.iface 264 (.pointer (some ⟨lowB + 15, 0, none⟩))] t fz
      | o => o).modify 16 fun
      | .cells _ t fz => .cells #[.iface 264 (.pointer (some ⟨lowB + 16, 0, none⟩))] t fz
      | o => o).modify 17 fun
      | .cells _ t fz => .cells #[.iface 264 (.pointer (some ⟨lowB + 17, 0, none⟩))] t fz
      | o => o }
def codecEncodes_args : Array Value := #[.agg (msgC 0 dig0 dig0).toArray]
theorem codecEncodes_laid (os : Os) (args : Array Value) : laidMet Tryz.prog Rows.codecEncodesRow.laid ((codecEncodes_world os).forCall (fun _ _ => 0) ⟨#[], args, []⟩).memory :=
  laidMet_of_run' 8 (by kernel_rfl) (by kernel_rfl)
theorem codecEncodes_reads (os : Os) {H : Type} (enc : TypeId × Value → H) : ∃ places, DataW.whole enc Tryz.prog ((codecEncodes_world os).forCall (fun _ _ => 0) ⟨#[], codecEncodes_args, []⟩).memory Tryz.f4.params.toList Rows.codecEncodesSpec.vars false codecEncodes_args.toList 8 = some ([msgD], [], places) :=
  ⟨[], by kernel_rfl⟩
set_option maxRecDepth 20000 in
theorem codecEncodes_contract (H : Type) (enc : TypeId × Value → H) (W : World) (base : Nat) (args : Array Value) (ds gs : List (DataW H)) (before : List MemPlace)
    (hval : ∀ (j : Nat) t v, Tryz.f4.params[j]? = some t → args[j]? = some v → Value.okWide Tryz.prog W .any base t v)
    (hW : DataW.Whole enc Tryz.prog Tryz.f4.params.toList Rows.codecEncodesSpec.vars false W args.toList ds gs before) (hL : laidMetH Tryz.prog Rows.codecEncodesRow.laid W) :
    Calls Tryz.prog 4 args W fun e W' => ∃ v, e = .returned v ∧ Rows.codecEncodesSpec.post enc Tryz.prog Tryz.f4 false true false false W args v W' := by
  have hW' := hW
  have hlt : ∀ p ∈ before, p.block < W.heap.size := fun p hp => hW.lt p hp
  obtain ⟨p, q, hA0, hV, rfl, hfz, hnd⟩ := hW
  have hA : DataW.TrodAll enc Tryz.prog W 0 (fun _ => true) true Tryz.f4.params.toList args.toList ds p := hA0
  rw [Tryz.params4] at hA hval
  obtain ⟨v0, vs0, d0, ds0, p0, q0, hargs, rfl, rfl, h0, r0⟩ := trodAll_cons hA
  obtain ⟨rfl, rfl, rfl⟩ := trodAll_nil r0
  obtain rfl : args = #[v0] := by cases args; simp_all
  obtain ⟨rfl, rfl⟩ := trodVars_none hV
  obtain ⟨x0, hx0⟩ : ∃ x, RdMsg W TT v0.cells.toList x ∧ OkMsg x := by obtain ⟨fuel, hf⟩ := h0; exact p_msg fuel _ _ hf
  have e0 := agg_of_len (n := 304) hx0.1.len (by decide)
  have hL' : laidMet Tryz.prog Rows.codecEncodesRow.laid W := hL
  obtain ⟨ea, hN⟩ := laid_nerr (r := []) (show laidMet Tryz.prog (errNames.map errRow ++ []) W from hL')
  have walk := codecEncodes_ok no_res hN (hx0.1.mv still_id) hx0.2
  rw [← e0] at walk
  refine Calls.mono (show Calls Tryz.prog 4 #[v0] W _ from walk) fun e W' ⟨_, he, hs⟩ => ?_
  subst he
  have bel := below_of hs
  have eF : Rows.codecEncodesSpec.fn H ([d0] ++ []) = { results := [.lit (.bool true)], args := [d0] } := rfl
  have l0 : ∀ z ∈ p0, z.block < W.heap.size := fun z hz => hlt z (by simp [hz])
  refine ⟨_, rfl, _, _, _, [], p0 ++ ([]), [], hW', ?_, ?_, ?_, bel.frame _, fun h => by cases h⟩
  · rw [eF]; exact trodAll_cons_mk (shut_bool Tryz.underlying4 _) trodAll_mk0
  · rw [eF, Tryz.params4]
    exact trodAll_cons_mk (Below.trod laidOut (by kernel_rfl) (of_decide_eq_true (by kernel_rfl)) h0 bel l0) (trodAll_mk0)
  · rw [eF]; rfl

set_option maxRecDepth 100000 in
theorem codecEncodes_lifted (os : Os) (started : os.Started) (H : Type) (enc : TypeId × Value → H) (F : Stop.Interp) :
    ReturnsInHanded {} Tryz.checked os 4 .any ((OpenSpec.ofChange Rows.codecEncodesSpec).preRow enc Tryz.prog Tryz.f4 Rows.codecEncodesRow.domain false Rows.codecEncodesRow.laid) (((OpenSpec.ofChange Rows.codecEncodesSpec).at F).post enc Tryz.prog Tryz.f4 false true false false) := by
  obtain ⟨places, hx⟩ := codecEncodes_reads os enc
  refine returnsInHanded_of_row (C := Tryz.checked) (s := OpenSpec.ofChange Rows.codecEncodesSpec) own started (by kernel_rfl) Tryz.func4
    (witness_row_atRef (enc := enc) (C := Tryz.checked) false (codecEncodes_world os) codecEncodes_args rfl (by kernel_rfl) (by kernel_rfl) (by kernel_rfl)
      (OpenSpec.preRow_of_cond 8 hx (by kernel_rfl) (fun k hk => by cases hk) (by kernel_rfl) (codecEncodes_laid os _))) ?_
  intro W base args ds gs before hval hW _ _ _ hL _ _
  exact codecEncodes_contract H enc W base args ds gs before hval hW hL

theorem codecEncodes_said : Rows.CodecEncodesSaid :=
  OpenClaim.holds_of_cond 4 Tryz.f4 rfl rfl rfl rfl rfl rfl rfl ⟨rfl, rfl, rfl, rfl, rfl⟩ rfl rfl rfl rfl rfl (by kernel_rfl) Tryz.func4 (by kernel_rfl)
    (of_decide_eq_true (by kernel_rfl)) (by unfold Func.isWrapper; first | (rw [if_pos (by decide +kernel)]; kernel_rfl) | (rw [if_neg (by decide +kernel)]; exact ⟨rfl, rfl⟩))
    (fun os started H enc _ F => by rw [OpenClaim.pre_eq_preRow]; exact codecEncodes_lifted os started H enc F)
theorem codecEncodes_plain (f : FuncId) (fn : Func) (hf : Tryz.pinned.checked.prog.funcNamed "quorate/quoratelaw09.CodecEncodes" = some f) (hfn : Tryz.pinned.checked.prog.funcs[f]? = some fn) :
    true = Tryz.pinned.checked.prog.looks [] ∧ ∀ (j : Nat) t, fn.params[j]? = some t → Tryz.pinned.checked.prog.wantsStandIn t = false := by
  obtain rfl : f = 4 := Option.some.inj ((show Tryz.prog.funcNamed "quorate/quoratelaw09.CodecEncodes" = some 4 by kernel_rfl).symm.trans hf) |>.symm
  obtain rfl : fn = Tryz.f4 := (Option.some.inj (Tryz.func4.symm.trans hfn)).symm
  refine ⟨by kernel_rfl, fun j t ht => ?_⟩
  rw [Tryz.params4] at ht
  have hm := Array.mem_of_getElem? ht
  have h : t = 66 := by simpa using hm
  subst h
  exact (show Tryz.prog.wantsStandIn 66 = false by kernel_rfl)
theorem codecEncodes_holds : Rows.CodecEncodesCardSaid :=
  Claim7.holds_tied_plain_at .later [] _ _ _ _ codecEncodes_said (fun _ h => by cases h) (by kernel_rfl) (fun _ h => by cases h) codecEncodes_row_tie rfl ⟨rfl, rfl⟩ (by kernel_rfl) rfl codecEncodes_plain (by kernel_rfl)
#print axioms codecEncodes_holds
end Go.Proofs.YtkgbbnhdioghmaaGreatDoor

