/- Walks, by program (wg.py) out of a spec. -/
import Derived.Test.YtkgbbnhdioghmaaDoorKa
namespace Go.Proofs.YtkgbbnhdioghmaaDoor
open Go
set_option linter.unusedVariables false
set_option linter.unusedSimpArgs false


/-- A message's parts. -/
structure MP where
  gv : List Value
  qt : List Value
  tt : List Value
  gt : List Value
  bp : List Value
  tp : List Value
  gp : List Value
  br : List Value
  cc : List Value
def MP.cs (x : Msg) : MP → List Value
  | ⟨gv, qt, tt, gt, bp, tp, gp, br, cc⟩ => .int .i64 x.kind :: ((.int .i64 x.vote.epoch :: .int .i64 x.vote.round :: (dc x.vote.block ++ (.int .i64 x.vote.sender.who :: gv))) ++ ((.int .i64 x.tmo.epoch :: .int .i64 x.tmo.round :: (qt ++ (tt ++ (.int .i64 x.tmo.sender.who :: gt)))) ++ ((bp ++ (tp ++ (.int .i64 x.prop.sender.who :: gp))) ++ (dc x.wantFrom ++ (dc x.wantBlock ++ (br ++ cc))))))
def MP.pc (x : Msg) : MP → List Value
  | ⟨gv, qt, tt, gt, bp, tp, gp, br, cc⟩ =>
    if x.kind = 1 then .int .i64 x.kind :: ((.int .i64 x.vote.epoch :: .int .i64 x.vote.round :: (dc x.vote.block ++ (.int .i64 x.vote.sender.who :: gv))) ++ (tmoC ++ (propC ++ (dc dig0 ++ (dc dig0 ++ (blkC ++ chgC))))))
    else if x.kind = 2 then .int .i64 x.kind :: (voteC ++ ((.int .i64 x.tmo.epoch :: .int .i64 x.tmo.round :: (qt ++ (tt ++ (.int .i64 x.tmo.sender.who :: gt)))) ++ (propC ++ (dc dig0 ++ (dc dig0 ++ (blkC ++ chgC))))))
    else if x.kind = 3 then .int .i64 x.kind :: (voteC ++ (tmoC ++ ((bp ++ (tp ++ (.int .i64 x.prop.sender.who :: gp))) ++ (dc dig0 ++ (dc dig0 ++ (blkC ++ chgC))))))
    else if x.kind = 4 then .int .i64 x.kind :: (voteC ++ (tmoC ++ (propC ++ (dc x.wantFrom ++ (dc x.wantBlock ++ (blkC ++ chgC))))))
    else if x.kind = 5 then .int .i64 x.kind :: (voteC ++ (tmoC ++ (propC ++ (dc dig0 ++ (dc dig0 ++ (br ++ chgC))))))
    else if x.kind = 6 then .int .i64 x.kind :: (voteC ++ (tmoC ++ (propC ++ (dc dig0 ++ (dc dig0 ++ (blkC ++ cc))))))
    else msgC x.kind dig0 dig0
structure MP.rd (w : World) (F : Nat → Prop) (x : Msg) (p : MP) : Prop where
  gv : RdSig w F p.gv x.vote.sender.sig
  qt : RdQC w F p.qt x.tmo.high
  tt : RdTC w F p.tt x.tmo.last
  gt : RdSig w F p.gt x.tmo.sender.sig
  bp : RdBlock w F p.bp x.prop.block
  tp : RdTC w F p.tp x.prop.last
  gp : RdSig w F p.gp x.prop.sender.sig
  br : RdBlock w F p.br x.reply
  cc : RdChg w F p.cc x.chg
theorem MP.rd.mv {w w' : World} {F F' : Nat → Prop} {x : Msg} {p : MP} (h : p.rd w F x) (k : Still w F w' F') : p.rd w' F' x :=
  ⟨h.gv.mv k, h.qt.mv k, h.tt.mv k, h.gt.mv k, h.bp.mv k, h.tp.mv k, h.gp.mv k, h.br.mv k, h.cc.mv k⟩
theorem MP.of {w : World} {F : Nat → Prop} {x : Msg} {cs : List Value} (h : RdMsg w F cs x) : ∃ p : MP, cs = p.cs x ∧ p.rd w F x := by
  obtain ⟨cv1, ct1, cp1, br1, cc1, rfl, hv1, ht1, hp1, hbr1, hcc1⟩ := h
  obtain ⟨sv1, rfl, gv1, rfl, hgv1⟩ := hv1
  obtain ⟨qt1, tt1, st1, rfl, hqt1, htt1, gt1, rfl, hgt1⟩ := ht1
  obtain ⟨bp1, tp1, sp1, rfl, hbp1, htp1, gp1, rfl, hgp1⟩ := hp1
  exact ⟨⟨gv1, qt1, tt1, gt1, bp1, tp1, gp1, br1, cc1⟩, rfl, ⟨hgv1, hqt1, htt1, hgt1, hbp1, htp1, hgp1, hbr1, hcc1⟩⟩
theorem MP.msg {w : World} {F : Nat → Prop} {x : Msg} {p : MP} (h : p.rd w F x) : RdMsg w F (p.cs x) x :=
  ⟨_, _, _, _, _, rfl, ⟨_, rfl, _, rfl, h.gv⟩, ⟨_, _, _, rfl, h.qt, h.tt, _, rfl, h.gt⟩, ⟨_, _, _, rfl, h.bp, h.tp, _, rfl, h.gp⟩, h.br, h.cc⟩
theorem MP.plain {w : World} {F : Nat → Prop} {x : Msg} {p : MP} (h : p.rd w F x) : RdMsg w F (p.pc x) (plainM x) := by
  obtain ⟨gv, qt, tt, gt, bp, tp, gp, br, cc⟩ := p
  simp only [MP.pc]
  unfold plainM
  by_cases h1 : x.kind = 1
  · rw [if_pos h1, if_pos h1]; exact ⟨_, _, _, _, _, rfl, ⟨_, rfl, _, rfl, h.gv⟩, rdTmo0, rdProp0, rdBlock0, rdChg0⟩
  rw [if_neg h1, if_neg h1]
  by_cases h1 : x.kind = 2
  · rw [if_pos h1, if_pos h1]; exact ⟨_, _, _, _, _, rfl, rdVote0, ⟨_, _, _, rfl, h.qt, h.tt, _, rfl, h.gt⟩, rdProp0, rdBlock0, rdChg0⟩
  rw [if_neg h1, if_neg h1]
  by_cases h1 : x.kind = 3
  · rw [if_pos h1, if_pos h1]; exact ⟨_, _, _, _, _, rfl, rdVote0, rdTmo0, ⟨_, _, _, rfl, h.bp, h.tp, _, rfl, h.gp⟩, rdBlock0, rdChg0⟩
  rw [if_neg h1, if_neg h1]
  by_cases h1 : x.kind = 4
  · rw [if_pos h1, if_pos h1]; exact ⟨_, _, _, _, _, rfl, rdVote0, rdTmo0, rdProp0, rdBlock0, rdChg0⟩
  rw [if_neg h1, if_neg h1]
  by_cases h1 : x.kind = 5
  · rw [if_pos h1, if_pos h1]; exact ⟨_, _, _, _, _, rfl, rdVote0, rdTmo0, rdProp0, h.br, rdChg0⟩
  rw [if_neg h1, if_neg h1]
  by_cases h1 : x.kind = 6
  · rw [if_pos h1, if_pos h1]; exact ⟨_, _, _, _, _, rfl, rdVote0, rdTmo0, rdProp0, rdBlock0, h.cc⟩
  rw [if_neg h1, if_neg h1]
  exact rdMsgOf x.kind dig0 dig0
/-- A message's parts, their memory owned. -/
def PartsR (x : Msg) (p : MP) : Res := rdR (fun w F => p.rd w F x) (fun h hk => h.mv (still_of hk))
theorem flat_at {css : List (List Value)} {q bc : List Value} {k o : Nat} (hcl : ∀ c ∈ css, c.length = 39) (h : css[k]? = some bc) (ho : o = k * 39) : ((css.flatten ++ q).drop o).take 39 = bc := by
  subst ho
  have hk : k < css.length := (List.getElem?_eq_some_iff.1 h).1
  have hf := flatten_len hcl
  rw [List.drop_append_of_le_length (by rw [hf]; omega), List.take_append_of_le_length (by rw [List.length_drop, hf]; omega)]
  exact flatten_at hcl h

attribute [local irreducible] Gl Gc Gx Gs Runs Wt

attribute [local irreducible] voteC tmoC propC blkC chgC sgnC tcC qcC dc msgC

set_option maxHeartbeats 400000 in
theorem plain_ok {w : World} {F : Nat → Prop} {x : Msg} {gv1 qt1 tt1 gt1 bp1 tp1 gp1 br1 cc1 : List Value} [Len gv1 3] [One gv1] [Len qt1 19] [One qt1] [Len tt1 3] [One tt1] [Len gt1 3] [One gt1] [Len bp1 39] [One bp1] [Len tp1 3] [One tp1] [Len gp1 3] [One gp1] [Len br1 39] [One br1] [Len cc1 136] [One cc1] (h : stars [] w F) :
    Calls Tryd.prog 25 #[.agg (List.toArray (.int .i64 x.kind :: ((.int .i64 x.vote.epoch :: .int .i64 x.vote.round :: (dc x.vote.block ++ (.int .i64 x.vote.sender.who :: gv1))) ++ ((.int .i64 x.tmo.epoch :: .int .i64 x.tmo.round :: (qt1 ++ (tt1 ++ (.int .i64 x.tmo.sender.who :: gt1)))) ++ ((bp1 ++ (tp1 ++ (.int .i64 x.prop.sender.who :: gp1))) ++ (dc x.wantFrom ++ (dc x.wantBlock ++ (br1 ++ cc1))))))))] w (Post w F (fun _ : Unit => .agg (List.toArray ((⟨gv1, qt1, tt1, gt1, bp1, tp1, gp1, br1, cc1⟩ : MP).pc x))) (fun _ => [])) := by
  refine g_enter (env := [(0, .agg (List.toArray (.int .i64 x.kind :: ((.int .i64 x.vote.epoch :: .int .i64 x.vote.round :: (dc x.vote.block ++ (.int .i64 x.vote.sender.who :: gv1))) ++ ((.int .i64 x.tmo.epoch :: .int .i64 x.tmo.round :: (qt1 ++ (tt1 ++ (.int .i64 x.tmo.sender.who :: gt1)))) ++ ((bp1 ++ (tp1 ++ (.int .i64 x.prop.sender.who :: gp1))) ++ (dc x.wantFrom ++ (dc x.wantBlock ++ (br1 ++ cc1)))))))))]) Tryd.func25 rfl h Tryd.ntmps25 rfl rfl ?_
  refine gsr ?_
  refine zbN fun b1 => ?_
  refine zal fun b2 => ?_
  refine gl_eqc (cs' := msgC 0 dig0 dig0) (by repeat (first | exact Pick.here | apply Pick.there)) (by kernel_rfl) ?_
  refine gnt ?_
  refine gsr ?_
  refine gp zfa ?_
  refine gp zl ?_
  refine gp (r_build (cs := msgC x.kind dig0 dig0) Ty.zc_67 Ty.pl_67 (by kernel_rfl)) ?_
  refine zal fun b3 => ?_
  refine gl_eqc (cs' := msgC 0 dig0 dig0) (by repeat (first | exact Pick.here | apply Pick.there)) (by kernel_rfl) ?_
  refine zsN ?_
  refine gnt ?_
  refine gc_seq ?_
  refine gsr ?_
  refine gp zfa ?_
  refine gp zl ?_
  refine gnt ?_
  refine gc_block ?_
  refine gsr ?_
  refine gp zei ?_
  refine gp zas ?_
  refine gnt ?_
  refine gif rfl (fun hc9 => ?_) (fun hc9 => ?_)
  · try simp only at hc9
    refine gc_eqc (cs' := .int .i64 x.kind :: ((.int .i64 0 :: .int .i64 0 :: (dc dig0 ++ sgnC)) ++ (tmoC ++ (propC ++ (dc dig0 ++ (dc dig0 ++ (blkC ++ chgC))))))) (by repeat (first | exact Pick.here | apply Pick.there)) (by kernel_rfl) ?_
    have ePC : (⟨gv1, qt1, tt1, gt1, bp1, tp1, gp1, br1, cc1⟩ : MP).pc x = .int .i64 x.kind :: ((.int .i64 x.vote.epoch :: .int .i64 x.vote.round :: (dc x.vote.block ++ (.int .i64 x.vote.sender.who :: gv1))) ++ (tmoC ++ (propC ++ (dc dig0 ++ (dc dig0 ++ (blkC ++ chgC)))))) := by simp only [MP.pc]; rw [if_pos hc9]
    refine gc_region ?_
    refine gp zfa ?_
    refine gp zL ?_
    refine gp zfa ?_
    refine zsN ?_
    refine gl_nil ?_
    refine gx_block_normal ?_
    refine gx_then ?_
    refine gsr ?_
    refine gp zL ?_
    refine zsN ?_
    refine gnt ?_
    refine gc_ret ?_
    refine gx_retc rfl rfl (ld_aggS Ty.row_67 Ty.sz_67 (by repeat (first | exact Pick.here | apply Pick.there)) (by (simp only [List.drop_succ_cons, List.drop_zero, List.take_succ_cons, List.take_zero, List.cons_append, List.nil_append, List.append_assoc, drop_dc, drop_dc', take_dc, take_dc', drop_L, drop_L', take_L, take_L', len_L, Nat.reduceLeDiff, Nat.reduceSub, Nat.reduceAdd, Nat.le_refl, List.length_cons, List.length_append, List.length_nil, dc_length, List.drop_nil, List.take_nil, List.append_nil, List.length_map, List.length_replicate]; first | done | rfl)) (by first | rfl | (simp only [List.drop_succ_cons, List.drop_zero, List.take_succ_cons, List.take_zero, List.cons_append, List.nil_append, List.append_assoc, drop_dc, drop_dc', take_dc, take_dc', drop_L, drop_L', take_L, take_L', len_L, Nat.reduceLeDiff, Nat.reduceSub, Nat.reduceAdd, Nat.le_refl, List.length_cons, List.length_append, List.length_nil, dc_length, List.drop_nil, List.take_nil, List.append_nil, List.length_map, List.length_replicate]; first | done | omega))) ?_
    rw [ePC]
    exact fun w' hw => ⟨(), by first | rfl | simp only [List.cons_append, List.append_assoc], hw.sel (by repeat (first | exact Sel.nil | (apply Sel.cons; · (repeat (first | exact Pick.here | apply Pick.there)))))⟩
  · refine gsr ?_
    refine gp zei ?_
    refine gp zas ?_
    refine gnt ?_
    refine gif rfl (fun hc14 => ?_) (fun hc14 => ?_)
    · try simp only at hc14
      refine gc_eqc (cs' := .int .i64 x.kind :: (voteC ++ ((.int .i64 0 :: .int .i64 0 :: (qcC ++ (tcC ++ sgnC))) ++ (propC ++ (dc dig0 ++ (dc dig0 ++ (blkC ++ chgC))))))) (by repeat (first | exact Pick.here | apply Pick.there)) (by kernel_rfl) ?_
      have ePC : (⟨gv1, qt1, tt1, gt1, bp1, tp1, gp1, br1, cc1⟩ : MP).pc x = .int .i64 x.kind :: (voteC ++ ((.int .i64 x.tmo.epoch :: .int .i64 x.tmo.round :: (qt1 ++ (tt1 ++ (.int .i64 x.tmo.sender.who :: gt1)))) ++ (propC ++ (dc dig0 ++ (dc dig0 ++ (blkC ++ chgC)))))) := by simp only [MP.pc]; rw [if_neg hc9]; rw [if_pos hc14]
      refine gc_region ?_
      refine gp zfa ?_
      refine gp zL ?_
      refine gp zfa ?_
      refine zsN ?_
      refine gl_nil ?_
      refine gx_block_normal ?_
      refine gx_then ?_
      refine gsr ?_
      refine gp zL ?_
      refine zsN ?_
      refine gnt ?_
      refine gc_ret ?_
      refine gx_retc rfl rfl (ld_aggS Ty.row_67 Ty.sz_67 (by repeat (first | exact Pick.here | apply Pick.there)) (by (simp only [List.drop_succ_cons, List.drop_zero, List.take_succ_cons, List.take_zero, List.cons_append, List.nil_append, List.append_assoc, drop_dc, drop_dc', take_dc, take_dc', drop_L, drop_L', take_L, take_L', len_L, Nat.reduceLeDiff, Nat.reduceSub, Nat.reduceAdd, Nat.le_refl, List.length_cons, List.length_append, List.length_nil, dc_length, List.drop_nil, List.take_nil, List.append_nil, List.length_map, List.length_replicate]; first | done | rfl)) (by first | rfl | (simp only [List.drop_succ_cons, List.drop_zero, List.take_succ_cons, List.take_zero, List.cons_append, List.nil_append, List.append_assoc, drop_dc, drop_dc', take_dc, take_dc', drop_L, drop_L', take_L, take_L', len_L, Nat.reduceLeDiff, Nat.reduceSub, Nat.reduceAdd, Nat.le_refl, List.length_cons, List.length_append, List.length_nil, dc_length, List.drop_nil, List.take_nil, List.append_nil, List.length_map, List.length_replicate]; first | done | omega))) ?_
      rw [ePC]
      exact fun w' hw => ⟨(), by first | rfl | simp only [List.cons_append, List.append_assoc], hw.sel (by repeat (first | exact Sel.nil | (apply Sel.cons; · (repeat (first | exact Pick.here | apply Pick.there)))))⟩
    · refine gsr ?_
      refine gp zei ?_
      refine gp zas ?_
      refine gnt ?_
      refine gif rfl (fun hc19 => ?_) (fun hc19 => ?_)
      · try simp only at hc19
        refine gc_eqc (cs' := .int .i64 x.kind :: (voteC ++ (tmoC ++ ((blkC ++ (tcC ++ sgnC)) ++ (dc dig0 ++ (dc dig0 ++ (blkC ++ chgC))))))) (by repeat (first | exact Pick.here | apply Pick.there)) (by kernel_rfl) ?_
        have ePC : (⟨gv1, qt1, tt1, gt1, bp1, tp1, gp1, br1, cc1⟩ : MP).pc x = .int .i64 x.kind :: (voteC ++ (tmoC ++ ((bp1 ++ (tp1 ++ (.int .i64 x.prop.sender.who :: gp1))) ++ (dc dig0 ++ (dc dig0 ++ (blkC ++ chgC)))))) := by simp only [MP.pc]; rw [if_neg hc9]; rw [if_neg hc14]; rw [if_pos hc19]
        refine gc_region ?_
        refine gp zfa ?_
        refine gp zL ?_
        refine gp zfa ?_
        refine zsN ?_
        refine gl_nil ?_
        refine gx_block_normal ?_
        refine gx_then ?_
        refine gsr ?_
        refine gp zL ?_
        refine zsN ?_
        refine gnt ?_
        refine gc_ret ?_
        refine gx_retc rfl rfl (ld_aggS Ty.row_67 Ty.sz_67 (by repeat (first | exact Pick.here | apply Pick.there)) (by (simp only [List.drop_succ_cons, List.drop_zero, List.take_succ_cons, List.take_zero, List.cons_append, List.nil_append, List.append_assoc, drop_dc, drop_dc', take_dc, take_dc', drop_L, drop_L', take_L, take_L', len_L, Nat.reduceLeDiff, Nat.reduceSub, Nat.reduceAdd, Nat.le_refl, List.length_cons, List.length_append, List.length_nil, dc_length, List.drop_nil, List.take_nil, List.append_nil, List.length_map, List.length_replicate]; first | done | rfl)) (by first | rfl | (simp only [List.drop_succ_cons, List.drop_zero, List.take_succ_cons, List.take_zero, List.cons_append, List.nil_append, List.append_assoc, drop_dc, drop_dc', take_dc, take_dc', drop_L, drop_L', take_L, take_L', len_L, Nat.reduceLeDiff, Nat.reduceSub, Nat.reduceAdd, Nat.le_refl, List.length_cons, List.length_append, List.length_nil, dc_length, List.drop_nil, List.take_nil, List.append_nil, List.length_map, List.length_replicate]; first | done | omega))) ?_
        rw [ePC]
        exact fun w' hw => ⟨(), by first | rfl | simp only [List.cons_append, List.append_assoc], hw.sel (by repeat (first | exact Sel.nil | (apply Sel.cons; · (repeat (first | exact Pick.here | apply Pick.there)))))⟩
      · refine gsr ?_
        refine gp zei ?_
        refine gp zas ?_
        refine gnt ?_
        refine gif rfl (fun hc24 => ?_) (fun hc24 => ?_)
        · try simp only at hc24
          refine gc_eqc (cs' := .int .i64 x.kind :: (voteC ++ (tmoC ++ (propC ++ (dc dig0 ++ (dc dig0 ++ (blkC ++ chgC))))))) (by repeat (first | exact Pick.here | apply Pick.there)) (by kernel_rfl) ?_
          have ePC : (⟨gv1, qt1, tt1, gt1, bp1, tp1, gp1, br1, cc1⟩ : MP).pc x = .int .i64 x.kind :: (voteC ++ (tmoC ++ (propC ++ (dc x.wantFrom ++ (dc x.wantBlock ++ (blkC ++ chgC)))))) := by simp only [MP.pc]; rw [if_neg hc9]; rw [if_neg hc14]; rw [if_neg hc19]; rw [if_pos hc24]
          refine gc_region ?_
          refine gp zfa ?_
          refine gp zL ?_
          refine gp zfa ?_
          refine zsN ?_
          refine gl_nil ?_
          refine gx_block_normal ?_
          refine gx_then ?_
          refine gsr ?_
          refine gp zL ?_
          refine zsN ?_
          refine gnt ?_
          refine gc_ret ?_
          refine gx_retc rfl rfl (ld_aggS Ty.row_67 Ty.sz_67 (by repeat (first | exact Pick.here | apply Pick.there)) (by (simp only [List.drop_succ_cons, List.drop_zero, List.take_succ_cons, List.take_zero, List.cons_append, List.nil_append, List.append_assoc, drop_dc, drop_dc', take_dc, take_dc', drop_L, drop_L', take_L, take_L', len_L, Nat.reduceLeDiff, Nat.reduceSub, Nat.reduceAdd, Nat.le_refl, List.length_cons, List.length_append, List.length_nil, dc_length, List.drop_nil, List.take_nil, List.append_nil, List.length_map, List.length_replicate]; first | done | rfl)) (by first | rfl | (simp only [List.drop_succ_cons, List.drop_zero, List.take_succ_cons, List.take_zero, List.cons_append, List.nil_append, List.append_assoc, drop_dc, drop_dc', take_dc, take_dc', drop_L, drop_L', take_L, take_L', len_L, Nat.reduceLeDiff, Nat.reduceSub, Nat.reduceAdd, Nat.le_refl, List.length_cons, List.length_append, List.length_nil, dc_length, List.drop_nil, List.take_nil, List.append_nil, List.length_map, List.length_replicate]; first | done | omega))) ?_
          rw [ePC]
          exact fun w' hw => ⟨(), by first | rfl | simp only [List.cons_append, List.append_assoc], hw.sel (by repeat (first | exact Sel.nil | (apply Sel.cons; · (repeat (first | exact Pick.here | apply Pick.there)))))⟩
        · refine gsr ?_
          refine gp zei ?_
          refine gp zas ?_
          refine gnt ?_
          refine gif rfl (fun hc29 => ?_) (fun hc29 => ?_)
          · try simp only at hc29
            refine gc_eqc (cs' := .int .i64 x.kind :: (voteC ++ (tmoC ++ (propC ++ (dc dig0 ++ (dc dig0 ++ (blkC ++ chgC))))))) (by repeat (first | exact Pick.here | apply Pick.there)) (by kernel_rfl) ?_
            have ePC : (⟨gv1, qt1, tt1, gt1, bp1, tp1, gp1, br1, cc1⟩ : MP).pc x = .int .i64 x.kind :: (voteC ++ (tmoC ++ (propC ++ (dc dig0 ++ (dc dig0 ++ (br1 ++ chgC)))))) := by simp only [MP.pc]; rw [if_neg hc9]; rw [if_neg hc14]; rw [if_neg hc19]; rw [if_neg hc24]; rw [if_pos hc29]
            refine gc_region ?_
            refine gp zfa ?_
            refine gp zL ?_
            refine gp zfa ?_
            refine zsN ?_
            refine gl_nil ?_
            refine gx_block_normal ?_
            refine gx_then ?_
            refine gsr ?_
            refine gp zL ?_
            refine zsN ?_
            refine gnt ?_
            refine gc_ret ?_
            refine gx_retc rfl rfl (ld_aggS Ty.row_67 Ty.sz_67 (by repeat (first | exact Pick.here | apply Pick.there)) (by (simp only [List.drop_succ_cons, List.drop_zero, List.take_succ_cons, List.take_zero, List.cons_append, List.nil_append, List.append_assoc, drop_dc, drop_dc', take_dc, take_dc', drop_L, drop_L', take_L, take_L', len_L, Nat.reduceLeDiff, Nat.reduceSub, Nat.reduceAdd, Nat.le_refl, List.length_cons, List.length_append, List.length_nil, dc_length, List.drop_nil, List.take_nil, List.append_nil, List.length_map, List.length_replicate]; first | done | rfl)) (by first | rfl | (simp only [List.drop_succ_cons, List.drop_zero, List.take_succ_cons, List.take_zero, List.cons_append, List.nil_append, List.append_assoc, drop_dc, drop_dc', take_dc, take_dc', drop_L, drop_L', take_L, take_L', len_L, Nat.reduceLeDiff, Nat.reduceSub, Nat.reduceAdd, Nat.le_refl, List.length_cons, List.length_append, List.length_nil, dc_length, List.drop_nil, List.take_nil, List.append_nil, List.length_map, List.length_replicate]; first | done | omega))) ?_
            rw [ePC]
            exact fun w' hw => ⟨(), by first | rfl | simp only [List.cons_append, List.append_assoc], hw.sel (by repeat (first | exact Sel.nil | (apply Sel.cons; · (repeat (first | exact Pick.here | apply Pick.there)))))⟩
          · refine gsr ?_
            refine gp zei ?_
            refine gp zas ?_
            refine gnt ?_
            refine gif rfl (fun hc34 => ?_) (fun hc34 => ?_)
            · try simp only at hc34
              refine gc_eqc (cs' := .int .i64 x.kind :: (voteC ++ (tmoC ++ (propC ++ (dc dig0 ++ (dc dig0 ++ (blkC ++ chgC))))))) (by repeat (first | exact Pick.here | apply Pick.there)) (by kernel_rfl) ?_
              have ePC : (⟨gv1, qt1, tt1, gt1, bp1, tp1, gp1, br1, cc1⟩ : MP).pc x = .int .i64 x.kind :: (voteC ++ (tmoC ++ (propC ++ (dc dig0 ++ (dc dig0 ++ (blkC ++ cc1)))))) := by simp only [MP.pc]; rw [if_neg hc9]; rw [if_neg hc14]; rw [if_neg hc19]; rw [if_neg hc24]; rw [if_neg hc29]; rw [if_pos hc34]
              refine gc_region ?_
              refine gp zfa ?_
              refine gp zL ?_
              refine gp zfa ?_
              refine zsN ?_
              refine gl_nil ?_
              refine gx_block_normal ?_
              refine gx_then ?_
              refine gsr ?_
              refine gp zL ?_
              refine zsN ?_
              refine gnt ?_
              refine gc_ret ?_
              refine gx_retc rfl rfl (ld_aggS Ty.row_67 Ty.sz_67 (by repeat (first | exact Pick.here | apply Pick.there)) (by (simp only [List.drop_succ_cons, List.drop_zero, List.take_succ_cons, List.take_zero, List.cons_append, List.nil_append, List.append_assoc, drop_dc, drop_dc', take_dc, take_dc', drop_L, drop_L', take_L, take_L', len_L, Nat.reduceLeDiff, Nat.reduceSub, Nat.reduceAdd, Nat.le_refl, List.length_cons, List.length_append, List.length_nil, dc_length, List.drop_nil, List.take_nil, List.append_nil, List.length_map, List.length_replicate]; first | done | rfl)) (by first | rfl | (simp only [List.drop_succ_cons, List.drop_zero, List.take_succ_cons, List.take_zero, List.cons_append, List.nil_append, List.append_assoc, drop_dc, drop_dc', take_dc, take_dc', drop_L, drop_L', take_L, take_L', len_L, Nat.reduceLeDiff, Nat.reduceSub, Nat.reduceAdd, Nat.le_refl, List.length_cons, List.length_append, List.length_nil, dc_length, List.drop_nil, List.take_nil, List.append_nil, List.length_map, List.length_replicate]; first | done | omega))) ?_
              rw [ePC]
              exact fun w' hw => ⟨(), by first | rfl | simp only [List.cons_append, List.append_assoc], hw.sel (by repeat (first | exact Sel.nil | (apply Sel.cons; · (repeat (first | exact Pick.here | apply Pick.there)))))⟩
            · try simp only at hc34
              have ePC : (⟨gv1, qt1, tt1, gt1, bp1, tp1, gp1, br1, cc1⟩ : MP).pc x = msgC x.kind dig0 dig0 := by simp only [MP.pc]; rw [if_neg hc9]; rw [if_neg hc14]; rw [if_neg hc19]; rw [if_neg hc24]; rw [if_neg hc29]; rw [if_neg hc34]
              refine gc_skip ?_
              refine gx_block_normal ?_
              refine gx_then ?_
              refine gsr ?_
              refine gp zL ?_
              refine zsN ?_
              refine gnt ?_
              refine gc_ret ?_
              refine gx_retc rfl rfl (ld_aggS Ty.row_67 Ty.sz_67 (by repeat (first | exact Pick.here | apply Pick.there)) (by (simp only [List.drop_succ_cons, List.drop_zero, List.take_succ_cons, List.take_zero, List.cons_append, List.nil_append, List.append_assoc, drop_dc, drop_dc', take_dc, take_dc', drop_L, drop_L', take_L, take_L', len_L, Nat.reduceLeDiff, Nat.reduceSub, Nat.reduceAdd, Nat.le_refl, List.length_cons, List.length_append, List.length_nil, dc_length, List.drop_nil, List.take_nil, List.append_nil, List.length_map, List.length_replicate]; first | done | rfl)) (by first | rfl | (simp only [List.drop_succ_cons, List.drop_zero, List.take_succ_cons, List.take_zero, List.cons_append, List.nil_append, List.append_assoc, drop_dc, drop_dc', take_dc, take_dc', drop_L, drop_L', take_L, take_L', len_L, Nat.reduceLeDiff, Nat.reduceSub, Nat.reduceAdd, Nat.le_refl, List.length_cons, List.length_append, List.length_nil, dc_length, List.drop_nil, List.take_nil, List.append_nil, List.length_map, List.length_replicate]; first | done | omega))) ?_
              rw [ePC]
              exact fun w' hw => ⟨(), by first | rfl | simp only [List.cons_append, List.append_assoc], hw.sel (by repeat (first | exact Sel.nil | (apply Sel.cons; · (repeat (first | exact Pick.here | apply Pick.there)))))⟩

end Go.Proofs.YtkgbbnhdioghmaaDoor
