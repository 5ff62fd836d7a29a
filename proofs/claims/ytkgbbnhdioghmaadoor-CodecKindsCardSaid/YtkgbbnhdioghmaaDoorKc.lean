/- Walks, by program (wg.py) out of a spec. -/
import Derived.Test.YtkgbbnhdioghmaaDoorKb
namespace Go.Proofs.YtkgbbnhdioghmaaDoor
open Go
set_option linter.unusedVariables false
set_option linter.unusedSimpArgs false

attribute [local irreducible] Gl Gc Gx Gs Runs Wt

set_option maxHeartbeats 400000 in
theorem sameTCx_ok {w : World} {F : Nat → Prop} {cs1 cs2 : List Value} {x : TC} (h : stars [] w F) (hx : RdTC w (fun k => ¬ F k) cs1 x) (hy : RdTC w (fun k => ¬ F k) cs2 x) :
    Calls Tryd.prog 65 #[.agg cs1.toArray, .agg cs2.toArray] w (Post w F (fun _ : Unit => .bool true) (fun _ => [])) := by
  obtain ⟨a1, n1, c1, rfl, hk1, hd1⟩ := hx
  obtain ⟨a2, n2, c2, rfl, hk2, hd2⟩ := hy
  have hm1 := hd1.max
  simp only [maxLen] at hm1
  have e1 := hd1.len (by decide)
  have e2 := hd2.len (by decide)
  obtain rfl : n1 = n2 := by omega
  refine g_enter (env := [(0, .agg (List.toArray [.int .i64 x.epoch, .int .i64 x.round, .slice a1 n1 c1])), (1, .agg (List.toArray [.int .i64 x.epoch, .int .i64 x.round, .slice a2 n1 c2]))]) Tryd.func65 rfl h Tryd.ntmps65 rfl rfl ?_
  refine gsr ?_
  refine zbN fun b2 => ?_
  refine zbN fun b3 => ?_
  refine gp zas ?_
  refine gnt ?_
  refine gc_seq ?_
  refine gsr ?_
  refine gp zfa ?_
  refine gp zl ?_
  refine gp zfa ?_
  refine gp zl ?_
  refine gp (r_bool (c := false) zni (by simp)) ?_
  refine gp zmv ?_
  refine gq zfa ?_
  refine gq zl ?_
  refine gq zfa ?_
  refine gq zl ?_
  refine gq (r_bool (c := false) zni (by simp)) ?_
  refine gp zpk ?_
  refine gp zmv ?_
  refine gq zfa ?_
  refine gq zl ?_
  refine gq zln ?_
  refine gq zfa ?_
  refine gq zl ?_
  refine gq zln ?_
  refine gq (r_bool (c := false) zni (by simp)) ?_
  refine gp zpk ?_
  refine gnt ?_
  refine gc_condF rfl rfl ?_
  refine gc_skip ?_
  refine gx_then ?_
  refine gc_seq ?_
  refine gsr ?_
  refine gp zfa ?_
  refine gp zl ?_
  refine gp zln ?_
  refine gp zmv ?_
  refine gnt ?_
  refine gc_block ?_
  refine gc_loop (α := Nat) (fun k => [pureR (k ≤ n1), blk b2 54 [.int .i64 x.epoch, .int .i64 x.round, .slice a1 n1 c1], blk b3 54 [.int .i64 x.epoch, .int .i64 x.round, .slice a2 n1 c2]]) (fun k => [(32, .int .i64 (k : Int))]) [4, 5, 6, 7, 33, 34, 35, 36, 37, 38, 39, 40, 41, 42, 43, 44, 45, 46, 47, 48, 49, 50, 51, 52, 53, 54, 55, 56, 57, 58, 59, 60, 61, 62, 63, 64, 65] (fun k => n1 - k) 0 ?_ ?_ ?_
  · refine env_start (by kernel_rfl)
  · exact fun w' hw => zlp (Nat.zero_le _) (by repeat (first | exact Sel.nil | (apply Sel.cons; · (repeat (first | exact Pick.here | apply Pick.there))))) w' hw
  · intro k u
    refine gc_pureR (fun hk => ?_)
    replace hk : k ≤ n1 := hk
    refine gsr ?_
    refine gp zlt ?_
    refine gnt ?_
    refine gc_seq ?_
    refine gif rfl (fun hc33 => ?_) (fun hc33 => ?_)
    · have hk' : k < n1 := by (try simp only at hc33); omega
      obtain ⟨g1, o1, cs1, y, ha1, hA1, hg1, hra1, hcl1, hl1, hrd1⟩ := hd1.elem (by decide) hk'
      obtain ⟨g2, o2, cs2, z, ha2, hA2, hg2, hra2, hcl2, hl2, hrd2⟩ := hd2.elem (by decide) hk'
      obtain rfl : y = z := by rw [hl1] at hl2; exact Option.some.inj hl2
      subst ha1
      subst ha2
      obtain ⟨s1, rfl, hs1⟩ := hrd1
      obtain ⟨s2, rfl, hs2⟩ := hrd2
      have i1 := Len.of hs1.len
      have i2 := Len.of hs2.len
      have j1 := One.of hs1.one
      have j2 := One.of hs2.one
      refine gc_skip ?_
      refine gx_then ?_
      refine gc_seq ?_
      refine gc_block ?_
      refine gsr ?_
      refine gp zmv ?_
      refine gp zas ?_
      refine gnt ?_
      refine gc_seq ?_
      refine gc_regionZ 13 ([blk b2 54 [.int .i64 x.epoch, .int .i64 x.round, .slice (some ⟨g1, o1, none⟩) n1 c1], blk b3 54 [.int .i64 x.epoch, .int .i64 x.round, .slice (some ⟨g2, o2, none⟩) n1 c2]]) ?_
      refine yps 0 rfl zfa ?_
      refine yps 1 rfl zl ?_
      refine yps 2 rfl zmv ?_
      refine yps 3 rfl (r_indexAddr_slice rfl rfl Ty.sl_52 Ty.sz_178 (by omega) (by omega)) ?_
      refine yps 4 rfl (r_ldNo rfl Ty.row_178 Ty.sz_178 hra1 hcl1 (by decide) hA1) ?_
      refine yps 5 rfl zfa ?_
      refine yps 6 rfl zl ?_
      refine yps 7 rfl zmv ?_
      refine yps 8 rfl (r_indexAddr_slice rfl rfl Ty.sl_52 Ty.sz_178 (by omega) (by omega)) ?_
      refine yps 9 rfl (r_ldNo rfl Ty.row_178 Ty.sz_178 hra2 hcl2 (by decide) hA2) ?_
      refine yas2 10 11 rfl rfl (fun b6 b7 => ?_)
      refine yos 12 rfl ?_
      refine zsN ?_
      refine yxs ?_
      refine yzs rfl ?_
      refine zsN ?_
      refine gnt ?_
      refine gsr ?_
      refine gp zfa ?_
      refine gp zl ?_
      refine gp zfa ?_
      refine gp zl ?_
      refine gp (r_bool (c := false) zni (by simp)) ?_
      refine gp zmv ?_
      refine gq zfa ?_
      refine gq zl ?_
      refine gq zfa ?_
      refine gq zl ?_
      refine gq (r_bool (c := false) zni (by simp)) ?_
      refine gp zpk ?_
      refine gp zmv ?_
      refine gq zfa ?_
      refine gq zL ?_
      refine gq zfa ?_
      refine gq zL ?_
      refine zc (fun _ => ?_) (c := fun w1 F1 F2 h1 h2 hd hst => sameSig_ok h1 (hs1.mv hst.still) (hs2.mv hst.still))
      rw [decide_eq_true rfl]
      refine gq znt ?_
      refine gp zpk ?_
      refine gnt ?_
      refine gc_condF rfl rfl ?_
      refine gc_skip ?_
      refine gx_block_normal ?_
      refine gx_then ?_
      refine gc_region ?_
      refine gp zad ?_
      refine gp zmv ?_
      refine gl_nil ?_
      refine zrd (k + 1) ?_ ?_
      · show n1 - (k + 1) < n1 - k
        omega
      · exact fun w' hw => zlp (show k + 1 ≤ n1 by omega) (by repeat (first | exact Sel.nil | (apply Sel.cons; · (repeat (first | exact Pick.here | apply Pick.there))))) w' hw
    · refine gc_exit ?_
      refine gx_then_exit ?_
      refine gx_round_exit ?_
      refine gx_block_hit ?_
      refine gx_then ?_
      refine gsr ?_
      refine gp zas ?_
      refine gnt ?_
      refine gc_ret ?_
      refine gx_ret1 rfl (by conv => lhs; whnf) ?_
      exact ze ()

set_option maxHeartbeats 400000 in
theorem sameChangex_ok {w : World} {F : Nat → Prop} {cs1 cs2 : List Value} {x : Chg} (h : stars [] w F) (hx : RdChg w (fun k => ¬ F k) cs1 x) (hy : RdChg w (fun k => ¬ F k) cs2 x) :
    Calls Tryd.prog 66 #[.agg cs1.toArray, .agg cs2.toArray] w (Post w F (fun _ : Unit => .bool true) (fun _ => [])) := by
  obtain ⟨css1, q1, rfl, hcl1, hc31, hb31, hbs1, hq1⟩ := hx
  have hfl1 : css1.flatten.length = 117 := by rw [flatten_len hcl1, hc31]
  have hi1 := Len.of hfl1
  have hj1 := Len.of hq1.len
  obtain ⟨css2, q2, rfl, hcl2, hc32, hb32, hbs2, hq2⟩ := hy
  have hfl2 : css2.flatten.length = 117 := by rw [flatten_len hcl2, hc32]
  have hi2 := Len.of hfl2
  have hj2 := Len.of hq2.len
  refine g_enter (env := [(0, .agg (List.toArray (css1.flatten ++ q1))), (1, .agg (List.toArray (css2.flatten ++ q2)))]) Tryd.func66 rfl h Tryd.ntmps66 rfl rfl ?_
  refine gsr ?_
  refine zbN fun b2 => ?_
  refine zbN fun b3 => ?_
  refine gp zas ?_
  refine gnt ?_
  refine gc_seq ?_
  refine gsr ?_
  refine gp zmv ?_
  refine gnt ?_
  refine gc_block ?_
  refine gc_loop (α := Nat) (fun k => [pureR (k ≤ 3), blk b2 65 (css1.flatten ++ q1), blk b3 65 (css2.flatten ++ q2)]) (fun k => [(6, .int .i64 (k : Int))]) [4, 5, 7, 8, 9, 10, 11, 12, 13, 14, 15, 16, 17, 18, 19] (fun k => 3 - k) 0 ?_ ?_ ?_
  · refine env_start (by kernel_rfl)
  · exact fun w' hw => zlp (Nat.zero_le _) (by repeat (first | exact Sel.nil | (apply Sel.cons; · (repeat (first | exact Pick.here | apply Pick.there))))) w' hw
  · intro k u
    refine gc_pureR (fun hk => ?_)
    replace hk : k ≤ 3 := hk
    refine gsr ?_
    refine gp zlt ?_
    refine gnt ?_
    refine gc_seq ?_
    refine gif rfl (fun hc7 => ?_) (fun hc7 => ?_)
    · have hk' : k < 3 := by (try simp only at hc7); omega
      obtain ⟨xb, hxb⟩ : ∃ xb, x.blocks[k]? = some xb := ⟨_, List.getElem?_eq_getElem (by omega)⟩
      obtain ⟨bc1, hbc1⟩ : ∃ bc, css1[k]? = some bc := ⟨_, List.getElem?_eq_getElem (by omega)⟩
      have hB1 := hbs1 k bc1 xb hbc1 hxb
      have hbl1 := hB1.len
      obtain ⟨bc2, hbc2⟩ : ∃ bc, css2[k]? = some bc := ⟨_, List.getElem?_eq_getElem (by omega)⟩
      have hB2 := hbs2 k bc2 xb hbc2 hxb
      have hbl2 := hB2.len
      refine gc_skip ?_
      refine gx_then ?_
      refine gc_seq ?_
      refine gc_block ?_
      refine gsr ?_
      refine gp zmv ?_
      refine gp zas ?_
      refine gnt ?_
      refine gc_seq ?_
      refine gc_regionH ([blk b2 65 (css1.flatten ++ q1), blk b3 65 (css2.flatten ++ q2)]) ?_
      refine yp 0 rfl zmv ?_
      refine yp 1 rfl zfa ?_
      refine yp 2 rfl (zib) ?_
      refine yp 3 rfl (r_ldN (seg := bc1) rfl Ty.row_30 Ty.sz_30 (by repeat (first | exact Pick.here | apply Pick.there)) (flat_at hcl1 hbc1 (by omega)) hbl1) ?_
      refine yp 4 rfl zmv ?_
      refine yp 5 rfl zfa ?_
      refine yp 6 rfl (zib) ?_
      refine yp 7 rfl (r_ldN (seg := bc2) rfl Ty.row_30 Ty.sz_30 (by repeat (first | exact Pick.here | apply Pick.there)) (flat_at hcl2 hbc2 (by omega)) hbl2) ?_
      refine yo 8 rfl ?_
      refine zc (fun _ => ?_) (c := fun w1 F1 F2 h1 h2 hd hst => sameBlock_ok h1 (hB1.mv hst.still) (hB2.mv hst.still))
      rw [decide_eq_true rfl]
      refine yx ?_
      refine yp 9 rfl znt ?_
      refine yd ?_
      refine gx_then ?_
      refine gc_condF rfl rfl ?_
      refine gc_skip ?_
      refine gx_block_normal ?_
      refine gx_then ?_
      refine gc_region ?_
      refine gp zad ?_
      refine gp zmv ?_
      refine gl_nil ?_
      refine zrd (k + 1) ?_ ?_
      · show 3 - (k + 1) < 3 - k
        omega
      · exact fun w' hw => zlp (show k + 1 ≤ 3 by omega) (by repeat (first | exact Sel.nil | (apply Sel.cons; · (repeat (first | exact Pick.here | apply Pick.there))))) w' hw
    · refine gc_exit ?_
      refine gx_then_exit ?_
      refine gx_round_exit ?_
      refine gx_block_hit ?_
      refine gx_then ?_
      refine gsr ?_
      refine gp zfa ?_
      refine gp zL ?_
      refine gp zfa ?_
      refine gp zL ?_
      refine zc (fun _ => ?_) (c := fun w1 F1 F2 h1 h2 hd hst => sameQC_ok h1 (hq1.mv hst.still) (hq2.mv hst.still))
      rw [decide_eq_true rfl]
      refine gp zas ?_
      refine gnt ?_
      refine gc_ret ?_
      refine gx_ret1 rfl (by conv => lhs; whnf) ?_
      exact ze ()

attribute [local irreducible] voteC tmoC propC blkC chgC sgnC tcC qcC dc msgC

set_option maxRecDepth 20000

set_option maxHeartbeats 400000 in
theorem sameMsg_ok {w : World} {F : Nat → Prop} {cs1 cs2 : List Value} {x : Msg} (h : stars [] w F) (hx : RdMsg w (fun k => ¬ F k) cs1 x) (hy : RdMsg w (fun k => ¬ F k) cs2 x) :
    Calls Tryd.prog 26 #[.agg cs1.toArray, .agg cs2.toArray] w (Post w F (fun _ : Unit => .bool true) (fun _ => [])) := by
  obtain ⟨cv1, ct1, cp1, br1, cc1, rfl, hv1, ht1, hp1, hbr1, hcc1⟩ := hx
  obtain ⟨sv1, rfl, gv1, rfl, hgv1⟩ := hv1
  obtain ⟨qt1, tt1, st1, rfl, hqt1, htt1, gt1, rfl, hgt1⟩ := ht1
  obtain ⟨bp1, tp1, sp1, rfl, hbp1, htp1, gp1, rfl, hgp1⟩ := hp1
  have ilgv1 := Len.of hgv1.len
  have jlgv1 := One.of hgv1.one
  have ilqt1 := Len.of hqt1.len
  have jlqt1 := One.of hqt1.one
  have iltt1 := Len.of htt1.len
  have jltt1 := One.of htt1.one
  have ilgt1 := Len.of hgt1.len
  have jlgt1 := One.of hgt1.one
  have ilbp1 := Len.of hbp1.len
  have jlbp1 := One.of hbp1.one
  have iltp1 := Len.of htp1.len
  have jltp1 := One.of htp1.one
  have ilgp1 := Len.of hgp1.len
  have jlgp1 := One.of hgp1.one
  have ilbr1 := Len.of hbr1.len
  have jlbr1 := One.of hbr1.one
  have ilcc1 := Len.of hcc1.len
  have jlcc1 := One.of hcc1.one'
  obtain ⟨cv2, ct2, cp2, br2, cc2, rfl, hv2, ht2, hp2, hbr2, hcc2⟩ := hy
  obtain ⟨sv2, rfl, gv2, rfl, hgv2⟩ := hv2
  obtain ⟨qt2, tt2, st2, rfl, hqt2, htt2, gt2, rfl, hgt2⟩ := ht2
  obtain ⟨bp2, tp2, sp2, rfl, hbp2, htp2, gp2, rfl, hgp2⟩ := hp2
  have ilgv2 := Len.of hgv2.len
  have jlgv2 := One.of hgv2.one
  have ilqt2 := Len.of hqt2.len
  have jlqt2 := One.of hqt2.one
  have iltt2 := Len.of htt2.len
  have jltt2 := One.of htt2.one
  have ilgt2 := Len.of hgt2.len
  have jlgt2 := One.of hgt2.one
  have ilbp2 := Len.of hbp2.len
  have jlbp2 := One.of hbp2.one
  have iltp2 := Len.of htp2.len
  have jltp2 := One.of htp2.one
  have ilgp2 := Len.of hgp2.len
  have jlgp2 := One.of hgp2.one
  have ilbr2 := Len.of hbr2.len
  have jlbr2 := One.of hbr2.one
  have ilcc2 := Len.of hcc2.len
  have jlcc2 := One.of hcc2.one'
  refine g_enter (env := [(0, .agg (List.toArray (.int .i64 x.kind :: ((.int .i64 x.vote.epoch :: .int .i64 x.vote.round :: (dc x.vote.block ++ (.int .i64 x.vote.sender.who :: gv1))) ++ ((.int .i64 x.tmo.epoch :: .int .i64 x.tmo.round :: (qt1 ++ (tt1 ++ (.int .i64 x.tmo.sender.who :: gt1)))) ++ ((bp1 ++ (tp1 ++ (.int .i64 x.prop.sender.who :: gp1))) ++ (dc x.wantFrom ++ (dc x.wantBlock ++ (br1 ++ cc1))))))))), (1, .agg (List.toArray (.int .i64 x.kind :: ((.int .i64 x.vote.epoch :: .int .i64 x.vote.round :: (dc x.vote.block ++ (.int .i64 x.vote.sender.who :: gv2))) ++ ((.int .i64 x.tmo.epoch :: .int .i64 x.tmo.round :: (qt2 ++ (tt2 ++ (.int .i64 x.tmo.sender.who :: gt2)))) ++ ((bp2 ++ (tp2 ++ (.int .i64 x.prop.sender.who :: gp2))) ++ (dc x.wantFrom ++ (dc x.wantBlock ++ (br2 ++ cc2)))))))))]) Tryd.func26 rfl h Tryd.ntmps26 rfl rfl ?_
  refine gsr ?_
  refine zbN fun b2 => ?_
  refine zbN fun b3 => ?_
  refine gp zas ?_
  refine gnt ?_
  refine gc_seq ?_
  refine gc_regionZ 7 ([blk b2 67 (.int .i64 x.kind :: ((.int .i64 x.vote.epoch :: .int .i64 x.vote.round :: (dc x.vote.block ++ (.int .i64 x.vote.sender.who :: gv1))) ++ ((.int .i64 x.tmo.epoch :: .int .i64 x.tmo.round :: (qt1 ++ (tt1 ++ (.int .i64 x.tmo.sender.who :: gt1)))) ++ ((bp1 ++ (tp1 ++ (.int .i64 x.prop.sender.who :: gp1))) ++ (dc x.wantFrom ++ (dc x.wantBlock ++ (br1 ++ cc1))))))), blk b3 67 (.int .i64 x.kind :: ((.int .i64 x.vote.epoch :: .int .i64 x.vote.round :: (dc x.vote.block ++ (.int .i64 x.vote.sender.who :: gv2))) ++ ((.int .i64 x.tmo.epoch :: .int .i64 x.tmo.round :: (qt2 ++ (tt2 ++ (.int .i64 x.tmo.sender.who :: gt2)))) ++ ((bp2 ++ (tp2 ++ (.int .i64 x.prop.sender.who :: gp2))) ++ (dc x.wantFrom ++ (dc x.wantBlock ++ (br2 ++ cc2)))))))]) ?_
  refine yps 0 rfl zfa ?_
  refine yps 1 rfl zL ?_
  refine yps 2 rfl zfa ?_
  refine yps 3 rfl zL ?_
  refine yas2 4 5 rfl rfl (fun b5 b6 => ?_)
  refine yos 6 rfl ?_
  refine zsN ?_
  refine yxs ?_
  refine yzs rfl ?_
  refine zsN ?_
  refine gnt ?_
  refine gc_seq ?_
  refine gc_regionZ 7 ([blk b2 67 (.int .i64 x.kind :: ((.int .i64 x.vote.epoch :: .int .i64 x.vote.round :: (dc x.vote.block ++ (.int .i64 x.vote.sender.who :: gv1))) ++ ((.int .i64 x.tmo.epoch :: .int .i64 x.tmo.round :: (qt1 ++ (tt1 ++ (.int .i64 x.tmo.sender.who :: gt1)))) ++ ((bp1 ++ (tp1 ++ (.int .i64 x.prop.sender.who :: gp1))) ++ (dc x.wantFrom ++ (dc x.wantBlock ++ (br1 ++ cc1))))))), blk b3 67 (.int .i64 x.kind :: ((.int .i64 x.vote.epoch :: .int .i64 x.vote.round :: (dc x.vote.block ++ (.int .i64 x.vote.sender.who :: gv2))) ++ ((.int .i64 x.tmo.epoch :: .int .i64 x.tmo.round :: (qt2 ++ (tt2 ++ (.int .i64 x.tmo.sender.who :: gt2)))) ++ ((bp2 ++ (tp2 ++ (.int .i64 x.prop.sender.who :: gp2))) ++ (dc x.wantFrom ++ (dc x.wantBlock ++ (br2 ++ cc2)))))))]) ?_
  refine yps 0 rfl zfa ?_
  refine yps 1 rfl zL ?_
  refine yps 2 rfl zfa ?_
  refine yps 3 rfl zL ?_
  refine yas2 4 5 rfl rfl (fun b7 b8 => ?_)
  refine yos 6 rfl ?_
  refine zsN ?_
  refine yxs ?_
  refine yzs rfl ?_
  refine zsN ?_
  refine gnt ?_
  refine gc_seq ?_
  refine gc_regionZ 7 ([blk b2 67 (.int .i64 x.kind :: ((.int .i64 x.vote.epoch :: .int .i64 x.vote.round :: (dc x.vote.block ++ (.int .i64 x.vote.sender.who :: gv1))) ++ ((.int .i64 x.tmo.epoch :: .int .i64 x.tmo.round :: (qt1 ++ (tt1 ++ (.int .i64 x.tmo.sender.who :: gt1)))) ++ ((bp1 ++ (tp1 ++ (.int .i64 x.prop.sender.who :: gp1))) ++ (dc x.wantFrom ++ (dc x.wantBlock ++ (br1 ++ cc1))))))), blk b3 67 (.int .i64 x.kind :: ((.int .i64 x.vote.epoch :: .int .i64 x.vote.round :: (dc x.vote.block ++ (.int .i64 x.vote.sender.who :: gv2))) ++ ((.int .i64 x.tmo.epoch :: .int .i64 x.tmo.round :: (qt2 ++ (tt2 ++ (.int .i64 x.tmo.sender.who :: gt2)))) ++ ((bp2 ++ (tp2 ++ (.int .i64 x.prop.sender.who :: gp2))) ++ (dc x.wantFrom ++ (dc x.wantBlock ++ (br2 ++ cc2)))))))]) ?_
  refine yps 0 rfl zfa ?_
  refine yps 1 rfl zL ?_
  refine yps 2 rfl zfa ?_
  refine yps 3 rfl zL ?_
  refine yas2 4 5 rfl rfl (fun b9 b10 => ?_)
  refine yos 6 rfl ?_
  refine zsN ?_
  refine yxs ?_
  refine yzs rfl ?_
  refine zsN ?_
  refine gnt ?_
  refine gsr ?_
  refine gp zfa ?_
  refine gp zl ?_
  refine gp zfa ?_
  refine gp zl ?_
  refine gp (r_bool (c := true) zei (decide_eq_true rfl)) ?_
  refine gp zmv ?_
  refine gq zfa ?_
  refine gq zl ?_
  refine gq zfa ?_
  refine gq zl ?_
  refine gq (r_bool (c := true) zei (decide_eq_true rfl)) ?_
  refine gp zpk ?_
  refine gp zmv ?_
  refine gq zfa ?_
  refine gq zl ?_
  refine gq zfa ?_
  refine gq zl ?_
  refine gq (r_bool (c := true) zei (decide_eq_true rfl)) ?_
  refine gp zpk ?_
  refine gp zmv ?_
  refine gq zfa ?_
  refine gq zL ?_
  refine gq zfa ?_
  refine gq zL ?_
  refine gq (r_bool (c := true) (r_eql_dig rfl rfl Ty.arr_23 Ty.un_5 Ty.sz_5 (by kernel_rfl)) (decide_eq_true rfl)) ?_
  refine gp zpk ?_
  refine gp zmv ?_
  refine gq zfa ?_
  refine gq zL ?_
  refine zeN fun b52 => ?_
  refine gq zfa ?_
  refine gq zL ?_
  refine zeN fun b55 => ?_
  refine zc (fun _ => ?_) (c := fun w1 F1 F2 h1 h2 hd hst => sameSigneds_ok h1 (rdList_one (rd_row h2 hd (by repeat (first | exact Pick.here | apply Pick.there))) (by simp only [List.length_cons, len_L]) ⟨_, rfl, hgv1.mv hst.still⟩) (rdList_one (rd_row h2 hd (by repeat (first | exact Pick.here | apply Pick.there))) (by simp only [List.length_cons, len_L]) ⟨_, rfl, hgv2.mv hst.still⟩))
  rw [decide_eq_true rfl]
  refine gp zpk ?_
  refine gp zmv ?_
  refine gq zfa ?_
  refine gq zl ?_
  refine gq zfa ?_
  refine gq zl ?_
  refine gq (r_bool (c := true) zei (decide_eq_true rfl)) ?_
  refine gp zpk ?_
  refine gp zmv ?_
  refine gq zfa ?_
  refine gq zl ?_
  refine gq zfa ?_
  refine gq zl ?_
  refine gq (r_bool (c := true) zei (decide_eq_true rfl)) ?_
  refine gp zpk ?_
  refine gp zmv ?_
  refine gq zfa ?_
  refine gq zL ?_
  refine gq zfa ?_
  refine gq zL ?_
  refine zc (fun _ => ?_) (c := fun w1 F1 F2 h1 h2 hd hst => sameQC_ok h1 (hqt1.mv hst.still) (hqt2.mv hst.still))
  rw [decide_eq_true rfl]
  refine gp zpk ?_
  refine gp zmv ?_
  refine gq zfa ?_
  refine gq zL ?_
  refine gq zfa ?_
  refine gq zL ?_
  refine zc (fun _ => ?_) (c := fun w1 F1 F2 h1 h2 hd hst => sameTCx_ok h1 (htt1.mv hst.still) (htt2.mv hst.still))
  refine gp zpk ?_
  refine gp zmv ?_
  refine gq zfa ?_
  refine gq zL ?_
  refine zeN fun b89 => ?_
  refine gq zfa ?_
  refine gq zL ?_
  refine zeN fun b92 => ?_
  refine zc (fun _ => ?_) (c := fun w1 F1 F2 h1 h2 hd hst => sameSigneds_ok h1 (rdList_one (rd_row h2 hd (by repeat (first | exact Pick.here | apply Pick.there))) (by simp only [List.length_cons, len_L]) ⟨_, rfl, hgt1.mv hst.still⟩) (rdList_one (rd_row h2 hd (by repeat (first | exact Pick.here | apply Pick.there))) (by simp only [List.length_cons, len_L]) ⟨_, rfl, hgt2.mv hst.still⟩))
  rw [decide_eq_true rfl]
  refine gp zpk ?_
  refine gp zmv ?_
  refine gq zfa ?_
  refine gq zL ?_
  refine gq zfa ?_
  refine gq zL ?_
  refine zc (fun _ => ?_) (c := fun w1 F1 F2 h1 h2 hd hst => sameBlock_ok h1 (hbp1.mv hst.still) (hbp2.mv hst.still))
  rw [decide_eq_true rfl]
  refine gp zpk ?_
  refine gp zmv ?_
  refine gq zfa ?_
  refine gq zL ?_
  refine gq zfa ?_
  refine gq zL ?_
  refine zc (fun _ => ?_) (c := fun w1 F1 F2 h1 h2 hd hst => sameTCx_ok h1 (htp1.mv hst.still) (htp2.mv hst.still))
  refine gp zpk ?_
  refine gp zmv ?_
  refine gq zfa ?_
  refine gq zL ?_
  refine zeN fun b112 => ?_
  refine gq zfa ?_
  refine gq zL ?_
  refine zeN fun b115 => ?_
  refine zc (fun _ => ?_) (c := fun w1 F1 F2 h1 h2 hd hst => sameSigneds_ok h1 (rdList_one (rd_row h2 hd (by repeat (first | exact Pick.here | apply Pick.there))) (by simp only [List.length_cons, len_L]) ⟨_, rfl, hgp1.mv hst.still⟩) (rdList_one (rd_row h2 hd (by repeat (first | exact Pick.here | apply Pick.there))) (by simp only [List.length_cons, len_L]) ⟨_, rfl, hgp2.mv hst.still⟩))
  rw [decide_eq_true rfl]
  refine gp zpk ?_
  refine gp zmv ?_
  refine gq zfa ?_
  refine gq zfa ?_
  refine gq zL ?_
  refine gq zfa ?_
  refine gq zfa ?_
  refine gq zL ?_
  refine gq (r_bool (c := true) (r_eql_dig rfl rfl Ty.arr_23 Ty.un_5 Ty.sz_5 (by kernel_rfl)) (decide_eq_true rfl)) ?_
  refine gp zpk ?_
  refine gp zmv ?_
  refine gq zfa ?_
  refine gq zfa ?_
  refine gq zL ?_
  refine gq zfa ?_
  refine gq zfa ?_
  refine gq zL ?_
  refine gq (r_bool (c := true) (r_eql_dig rfl rfl Ty.arr_23 Ty.un_5 Ty.sz_5 (by kernel_rfl)) (decide_eq_true rfl)) ?_
  refine gp zpk ?_
  refine gp zmv ?_
  refine gq zfa ?_
  refine gq zfa ?_
  refine gq zL ?_
  refine gq zfa ?_
  refine gq zfa ?_
  refine gq zL ?_
  refine zc (fun _ => ?_) (c := fun w1 F1 F2 h1 h2 hd hst => sameBlock_ok h1 (hbr1.mv hst.still) (hbr2.mv hst.still))
  rw [decide_eq_true rfl]
  refine gp zpk ?_
  refine gp zmv ?_
  refine gq zfa ?_
  refine gq zL ?_
  refine gq zfa ?_
  refine gq zL ?_
  refine zc (fun _ => ?_) (c := fun w1 F1 F2 h1 h2 hd hst => sameChangex_ok h1 (hcc1.mv hst.still) (hcc2.mv hst.still))
  refine gp zpk ?_
  refine gp zas ?_
  refine gnt ?_
  refine gc_ret ?_
  refine gx_ret1 rfl (by conv => lhs; whnf) ?_
  exact ze ()

end Go.Proofs.YtkgbbnhdioghmaaDoor
