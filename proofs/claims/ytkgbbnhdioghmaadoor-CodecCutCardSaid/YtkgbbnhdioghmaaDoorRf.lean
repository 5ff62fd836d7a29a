/- Walks, by program (wg.py) out of a spec. -/
import Derived.Test.YtkgbbnhdioghmaaDoorRe
namespace Go.Proofs.YtkgbbnhdioghmaaDoor
open Go
set_option linter.unusedVariables false
set_option linter.unusedSimpArgs false


instance : One qcC := ⟨one_qcC⟩
instance : One blkC := ⟨(rdBlock0 (w := default) (A := fun _ => True)).one⟩
instance : One sgnC := One.of (by unfold sgnC sigC; repeat (first | exact all_nil' | exact dc_one _ | exact One.h | refine all_cons' rfl ?_ | refine all_app' (dc_one _) ?_ | refine all_app' One.h ?_))
instance : One tcC := One.of (by unfold tcC; repeat (first | exact all_nil' | exact dc_one _ | exact One.h | refine all_cons' rfl ?_ | refine all_app' (dc_one _) ?_ | refine all_app' One.h ?_))
instance : One voteC := One.of (by unfold voteC; repeat (first | exact all_nil' | exact dc_one _ | exact One.h | refine all_cons' rfl ?_ | refine all_app' (dc_one _) ?_ | refine all_app' One.h ?_))
instance : One tmoC := One.of (by unfold tmoC; repeat (first | exact all_nil' | exact dc_one _ | exact One.h | refine all_cons' rfl ?_ | refine all_app' (dc_one _) ?_ | refine all_app' One.h ?_))
instance : One propC := One.of (by unfold propC; repeat (first | exact all_nil' | exact dc_one _ | exact One.h | refine all_cons' rfl ?_ | refine all_app' (dc_one _) ?_ | refine all_app' One.h ?_))
instance : One chgC := One.of (by unfold chgC; simp only [List.flatten_cons, List.flatten_nil, List.append_assoc, List.nil_append]; repeat (first | exact all_nil' | exact dc_one _ | exact One.h | refine all_cons' rfl ?_ | refine all_app' (dc_one _) ?_ | refine all_app' One.h ?_))

attribute [local irreducible] Gl Gc Gx Gs Runs Wt

attribute [local irreducible] voteC tmoC propC blkC chgC sgnC tcC qcC dc

set_option maxHeartbeats 400000 in
theorem rbody_ok {w : World} {F : Nat → Prop} {TE : Nat} {ea : Nat → Addr} {g : Nat} {σ : RSt} (h : stars [RdrR TE ea g σ] w F) {es : List Nat} [Has es 1] [Has es 2] [Has es 4] (hE : GErr es w (fun k => ¬ F k) TE ea) {n : Int}  :
    Calls Tryd.prog 62 #[.agg (List.toArray [.pointer (some ⟨g, 0, none⟩)]), .int .i64 n] w (Post w F (fun r : List Value × Msg => .agg r.1.toArray) (fun r => [pureR (Ag (pBody n) σ r.2 ∧ r.1.length = 304 ∧ ∀ v ∈ r.1, v.oneCell' = true), VlR RdMsg r.1 r.2, RdrR TE ea g (rstep (pBody n) σ)])) := by
  refine g_enter (env := [(0, .agg (List.toArray [.pointer (some ⟨g, 0, none⟩)])), (1, .int .i64 n)]) Tryd.func62 rfl h Tryd.ntmps62 rfl rfl ?_
  refine gsr ?_
  refine zbN fun b2 => ?_
  refine zal fun b4 => ?_
  refine gl_eqc (cs' := .int .i64 0 :: (voteC ++ (tmoC ++ (propC ++ (dc dig0 ++ (dc dig0 ++ (blkC ++ chgC))))))) (by repeat (first | exact Pick.here | apply Pick.there)) (by kernel_rfl) ?_
  refine gnt ?_
  refine gsr ?_
  refine gp zmv ?_
  refine gp zfa ?_
  refine zs1 ?_
  refine gnt ?_
  refine gc_seq ?_
  refine gsr ?_
  refine gp zmv ?_
  refine gnt ?_
  refine gc_block ?_
  refine gsr ?_
  refine gp zei ?_
  refine gp zas ?_
  refine gnt ?_
  refine gif rfl (fun hc14 => ?_) (fun hc14 => ?_)
  · try simp only at hc14
    have hk : n = 1 := hc14
    subst hk
    refine gc_eqc (cs' := .int .i64 1 :: ((.int .i64 0 :: .int .i64 0 :: (dc dig0 ++ sgnC)) ++ (tmoC ++ (propC ++ (dc dig0 ++ (dc dig0 ++ (blkC ++ chgC))))))) (by repeat (first | exact Pick.here | apply Pick.there)) (by kernel_rfl) ?_
    refine gsr ?_
    refine gp zL ?_
    refine zc ?_ (c := fun w1 F1 F2 h1 h2 hd hst => rat_ok h1 (hE.mv hst.still))
    rintro ⟨x18, y18⟩
    refine gl_pureR (fun g18 => ?_)
    replace g18 : Ag pAt _ ((x18 : Int), (y18 : Int)) := g18
    refine gp zmv ?_
    refine gp zex ?_
    refine gp zex ?_
    refine gp zfa ?_
    refine gp zfa ?_
    refine zs1 ?_
    refine gp zfa ?_
    refine gp zfa ?_
    refine zs1 ?_
    refine gnt ?_
    refine gsr ?_
    refine gp zL ?_
    refine zc (fun d26 => ?_) (c := fun w1 F1 F2 h1 h2 hd hst => rdigest_ok h1 (hE.mv hst.still))
    refine gl_pureR (fun g26 => ?_)
    refine gp zfa ?_
    refine gp zfa ?_
    refine zsN ?_
    refine gnt ?_
    refine gc_region ?_
    refine gp zL ?_
    refine zc ?_ (c := fun w1 F1 F2 h1 h2 hd hst => rsigned_ok h1 (hE.mv hst.still))
    rintro ⟨q30, v30⟩
    refine gl_pureR (fun hp30 => ?_)
    obtain ⟨g30, z30, o30⟩ := hp30
    replace z30 : q30.length = _ := z30
    have i30 := Len.of z30
    have j30 := One.of (show ∀ v ∈ q30, v.oneCell' = true from o30)
    refine gp zfa ?_
    refine gp zfa ?_
    refine zsN ?_
    refine gl_nil ?_
    refine gx_block_normal ?_
    refine gx_then ?_
    refine gsr ?_
    refine gp zL ?_
    refine zsN ?_
    refine gnt ?_
    refine gc_ret ?_
    refine gx_retc rfl rfl (ld_aggS Ty.row_67 Ty.sz_67 (by repeat (first | exact Pick.here | apply Pick.there)) (by (simp only [List.drop_succ_cons, List.drop_zero, List.take_succ_cons, List.take_zero, List.cons_append, List.nil_append, List.append_assoc, drop_dc, drop_dc', take_dc, take_dc', drop_L, drop_L', take_L, take_L', len_L, Nat.reduceLeDiff, Nat.reduceSub, Nat.reduceAdd, Nat.le_refl, List.length_cons, List.length_append, List.length_nil, dc_length, List.drop_nil, List.take_nil, List.append_nil, List.length_map, List.length_replicate]; first | done | rfl)) (by first | rfl | (simp only [List.drop_succ_cons, List.drop_zero, List.take_succ_cons, List.take_zero, List.cons_append, List.nil_append, List.append_assoc, drop_dc, drop_dc', take_dc, take_dc', drop_L, drop_L', take_L, take_L', len_L, Nat.reduceLeDiff, Nat.reduceSub, Nat.reduceAdd, Nat.le_refl, List.length_cons, List.length_append, List.length_nil, dc_length, List.drop_nil, List.take_nil, List.append_nil, List.length_map, List.length_replicate]; first | done | omega))) ?_
    have hv : Ag pVote σ ⟨x18, y18, d26, v30⟩ := g18.bind (g26.bind (g30.bind (Ag.pure _)))
    have hb : pBody 1 = pBind pVote (fun v => pPure { msg0 1 with vote := v }) := rfl
    have ha : Ag (pBody 1) σ { msg0 1 with vote := ⟨x18, y18, d26, v30⟩ } := by rw [hb]; exact hv.bind (Ag.pure _)
    have hr : rstep (pBody 1) σ = rstep pVote σ := by rw [hb, rstep_bind hv, rstep_pure]
    have hr2 : rstep pVote σ = rstep pSigned (rstep pDig (rstep pAt (σ))) := by rw [pVote, rstep_bind g18, rstep_bind g26, rstep_bind g30, rstep_pure]
    rw [hr, hr2]
    intro w' hw
    refine ⟨(.int .i64 1 :: .int .i64 x18 :: .int .i64 y18 :: (dc d26 ++ (q30 ++ (tmoC ++ (propC ++ (dc dig0 ++ (dc dig0 ++ (blkC ++ chgC))))))), { msg0 1 with vote := ⟨x18, y18, d26, v30⟩ }), rfl, St.pureI ⟨ha, by simp only [List.length_cons, List.length_append, List.length_nil, dc_length, len_L], (by repeat (first | exact all_nil' | exact dc_one _ | exact One.h | refine all_app' (dc_one _) ?_ | refine all_app' One.h ?_ | refine all_cons' rfl ?_))⟩ ?_⟩
    exact (hw.conv (M := [VlR RdSigned q30 v30]) (N := [VlR RdMsg (.int .i64 1 :: .int .i64 x18 :: .int .i64 y18 :: (dc d26 ++ (q30 ++ (tmoC ++ (propC ++ (dc dig0 ++ (dc dig0 ++ (blkC ++ chgC)))))))) ({ msg0 1 with vote := ⟨x18, y18, d26, v30⟩ })]) (by repeat (first | exact Sel.nil | (apply Sel.cons; · (repeat (first | exact Pick.here | apply Pick.there))))) (fun _ _ => vl_vote (by first | rfl | simp only [List.cons_append, List.append_assoc]))).sel (by repeat (first | exact Sel.nil | (apply Sel.cons; · (repeat (first | exact Pick.here | apply Pick.there)))))
  · refine gsr ?_
    refine gp zei ?_
    refine gp zas ?_
    refine gnt ?_
    refine gif rfl (fun hc33 => ?_) (fun hc33 => ?_)
    · try simp only at hc33
      have hk : n = 2 := hc33
      subst hk
      refine gc_eqc (cs' := .int .i64 2 :: (voteC ++ ((.int .i64 0 :: .int .i64 0 :: (qcC ++ (tcC ++ sgnC))) ++ (propC ++ (dc dig0 ++ (dc dig0 ++ (blkC ++ chgC))))))) (by repeat (first | exact Pick.here | apply Pick.there)) (by kernel_rfl) ?_
      refine gsr ?_
      refine gp zL ?_
      refine zc ?_ (c := fun w1 F1 F2 h1 h2 hd hst => rat_ok h1 (hE.mv hst.still))
      rintro ⟨x37, y37⟩
      refine gl_pureR (fun g37 => ?_)
      replace g37 : Ag pAt _ ((x37 : Int), (y37 : Int)) := g37
      refine gp zmv ?_
      refine gp zex ?_
      refine gp zex ?_
      refine gp zfa ?_
      refine gp zfa ?_
      refine zs1 ?_
      refine gp zfa ?_
      refine gp zfa ?_
      refine zs1 ?_
      refine gnt ?_
      refine gsr ?_
      refine gp zL ?_
      refine zc ?_ (c := fun w1 F1 F2 h1 h2 hd hst => rqc_ok h1 (hE.mv hst.still))
      rintro ⟨q45, v45⟩
      refine gl_pureR (fun hp45 => ?_)
      obtain ⟨g45, z45, o45⟩ := hp45
      replace z45 : q45.length = _ := z45
      have i45 := Len.of z45
      have j45 := One.of (show ∀ v ∈ q45, v.oneCell' = true from o45)
      refine gp zfa ?_
      refine gp zfa ?_
      refine zsN ?_
      refine gnt ?_
      refine gsr ?_
      refine gp zL ?_
      refine zc ?_ (c := fun w1 F1 F2 h1 h2 hd hst => rtc_ok h1 (hE.mv hst.still))
      rintro ⟨q49, v49⟩
      refine gl_pureR (fun hp49 => ?_)
      obtain ⟨g49, z49, o49⟩ := hp49
      replace z49 : q49.length = _ := z49
      have i49 := Len.of z49
      have j49 := One.of (show ∀ v ∈ q49, v.oneCell' = true from o49)
      refine gp zfa ?_
      refine gp zfa ?_
      refine zsN ?_
      refine gnt ?_
      refine gc_region ?_
      refine gp zL ?_
      refine zc ?_ (c := fun w1 F1 F2 h1 h2 hd hst => rsigned_ok h1 (hE.mv hst.still))
      rintro ⟨q53, v53⟩
      refine gl_pureR (fun hp53 => ?_)
      obtain ⟨g53, z53, o53⟩ := hp53
      replace z53 : q53.length = _ := z53
      have i53 := Len.of z53
      have j53 := One.of (show ∀ v ∈ q53, v.oneCell' = true from o53)
      refine gp zfa ?_
      refine gp zfa ?_
      refine zsN ?_
      refine gl_nil ?_
      refine gx_block_normal ?_
      refine gx_then ?_
      refine gsr ?_
      refine gp zL ?_
      refine zsN ?_
      refine gnt ?_
      refine gc_ret ?_
      refine gx_retc rfl rfl (ld_aggS Ty.row_67 Ty.sz_67 (by repeat (first | exact Pick.here | apply Pick.there)) (by (simp only [List.drop_succ_cons, List.drop_zero, List.take_succ_cons, List.take_zero, List.cons_append, List.nil_append, List.append_assoc, drop_dc, drop_dc', take_dc, take_dc', drop_L, drop_L', take_L, take_L', len_L, Nat.reduceLeDiff, Nat.reduceSub, Nat.reduceAdd, Nat.le_refl, List.length_cons, List.length_append, List.length_nil, dc_length, List.drop_nil, List.take_nil, List.append_nil, List.length_map, List.length_replicate]; first | done | rfl)) (by first | rfl | (simp only [List.drop_succ_cons, List.drop_zero, List.take_succ_cons, List.take_zero, List.cons_append, List.nil_append, List.append_assoc, drop_dc, drop_dc', take_dc, take_dc', drop_L, drop_L', take_L, take_L', len_L, Nat.reduceLeDiff, Nat.reduceSub, Nat.reduceAdd, Nat.le_refl, List.length_cons, List.length_append, List.length_nil, dc_length, List.drop_nil, List.take_nil, List.append_nil, List.length_map, List.length_replicate]; first | done | omega))) ?_
      have hv : Ag pTmo σ ⟨x37, y37, v45, v49, v53⟩ := g37.bind (g45.bind (g49.bind (g53.bind (Ag.pure _))))
      have hb : pBody 2 = pBind pTmo (fun v => pPure { msg0 2 with tmo := v }) := rfl
      have ha : Ag (pBody 2) σ { msg0 2 with tmo := ⟨x37, y37, v45, v49, v53⟩ } := by rw [hb]; exact hv.bind (Ag.pure _)
      have hr : rstep (pBody 2) σ = rstep pTmo σ := by rw [hb, rstep_bind hv, rstep_pure]
      have hr2 : rstep pTmo σ = rstep pSigned (rstep pTC (rstep pQC (rstep pAt (σ)))) := by rw [pTmo, rstep_bind g37, rstep_bind g45, rstep_bind g49, rstep_bind g53, rstep_pure]
      rw [hr, hr2]
      intro w' hw
      refine ⟨(.int .i64 2 :: (voteC ++ .int .i64 x37 :: .int .i64 y37 :: (q45 ++ (q49 ++ (q53 ++ (propC ++ (dc dig0 ++ (dc dig0 ++ (blkC ++ chgC)))))))), { msg0 2 with tmo := ⟨x37, y37, v45, v49, v53⟩ }), rfl, St.pureI ⟨ha, by simp only [List.length_cons, List.length_append, List.length_nil, dc_length, len_L], (by repeat (first | exact all_nil' | exact dc_one _ | exact One.h | refine all_app' (dc_one _) ?_ | refine all_app' One.h ?_ | refine all_cons' rfl ?_))⟩ ?_⟩
      exact (hw.conv (M := [VlR RdQC q45 v45, VlR RdTC q49 v49, VlR RdSigned q53 v53]) (N := [VlR RdMsg (.int .i64 2 :: (voteC ++ .int .i64 x37 :: .int .i64 y37 :: (q45 ++ (q49 ++ (q53 ++ (propC ++ (dc dig0 ++ (dc dig0 ++ (blkC ++ chgC))))))))) ({ msg0 2 with tmo := ⟨x37, y37, v45, v49, v53⟩ })]) (by repeat (first | exact Sel.nil | (apply Sel.cons; · (repeat (first | exact Pick.here | apply Pick.there))))) (fun _ _ => vl_tmo (by first | rfl | simp only [List.cons_append, List.append_assoc]))).sel (by repeat (first | exact Sel.nil | (apply Sel.cons; · (repeat (first | exact Pick.here | apply Pick.there)))))
    · refine gsr ?_
      refine gp zei ?_
      refine gp zas ?_
      refine gnt ?_
      refine gif rfl (fun hc56 => ?_) (fun hc56 => ?_)
      · try simp only at hc56
        have hk : n = 3 := hc56
        subst hk
        refine gc_eqc (cs' := .int .i64 3 :: (voteC ++ (tmoC ++ ((blkC ++ (tcC ++ sgnC)) ++ (dc dig0 ++ (dc dig0 ++ (blkC ++ chgC))))))) (by repeat (first | exact Pick.here | apply Pick.there)) (by kernel_rfl) ?_
        refine gsr ?_
        refine gp zL ?_
        refine zc ?_ (c := fun w1 F1 F2 h1 h2 hd hst => rblock_ok h1 (hE.mv hst.still))
        rintro ⟨q59, v59⟩
        refine gl_pureR (fun hp59 => ?_)
        obtain ⟨g59, z59, o59⟩ := hp59
        replace z59 : q59.length = _ := z59
        have i59 := Len.of z59
        have j59 := One.of (show ∀ v ∈ q59, v.oneCell' = true from o59)
        refine gp zfa ?_
        refine gp zfa ?_
        refine zsN ?_
        refine gnt ?_
        refine gsr ?_
        refine gp zL ?_
        refine zc ?_ (c := fun w1 F1 F2 h1 h2 hd hst => rtc_ok h1 (hE.mv hst.still))
        rintro ⟨q63, v63⟩
        refine gl_pureR (fun hp63 => ?_)
        obtain ⟨g63, z63, o63⟩ := hp63
        replace z63 : q63.length = _ := z63
        have i63 := Len.of z63
        have j63 := One.of (show ∀ v ∈ q63, v.oneCell' = true from o63)
        refine gp zfa ?_
        refine gp zfa ?_
        refine zsN ?_
        refine gnt ?_
        refine gc_region ?_
        refine gp zL ?_
        refine zc ?_ (c := fun w1 F1 F2 h1 h2 hd hst => rsigned_ok h1 (hE.mv hst.still))
        rintro ⟨q67, v67⟩
        refine gl_pureR (fun hp67 => ?_)
        obtain ⟨g67, z67, o67⟩ := hp67
        replace z67 : q67.length = _ := z67
        have i67 := Len.of z67
        have j67 := One.of (show ∀ v ∈ q67, v.oneCell' = true from o67)
        refine gp zfa ?_
        refine gp zfa ?_
        refine zsN ?_
        refine gl_nil ?_
        refine gx_block_normal ?_
        refine gx_then ?_
        refine gsr ?_
        refine gp zL ?_
        refine zsN ?_
        refine gnt ?_
        refine gc_ret ?_
        refine gx_retc rfl rfl (ld_aggS Ty.row_67 Ty.sz_67 (by repeat (first | exact Pick.here | apply Pick.there)) (by (simp only [List.drop_succ_cons, List.drop_zero, List.take_succ_cons, List.take_zero, List.cons_append, List.nil_append, List.append_assoc, drop_dc, drop_dc', take_dc, take_dc', drop_L, drop_L', take_L, take_L', len_L, Nat.reduceLeDiff, Nat.reduceSub, Nat.reduceAdd, Nat.le_refl, List.length_cons, List.length_append, List.length_nil, dc_length, List.drop_nil, List.take_nil, List.append_nil, List.length_map, List.length_replicate]; first | done | rfl)) (by first | rfl | (simp only [List.drop_succ_cons, List.drop_zero, List.take_succ_cons, List.take_zero, List.cons_append, List.nil_append, List.append_assoc, drop_dc, drop_dc', take_dc, take_dc', drop_L, drop_L', take_L, take_L', len_L, Nat.reduceLeDiff, Nat.reduceSub, Nat.reduceAdd, Nat.le_refl, List.length_cons, List.length_append, List.length_nil, dc_length, List.drop_nil, List.take_nil, List.append_nil, List.length_map, List.length_replicate]; first | done | omega))) ?_
        have hv : Ag pProp σ ⟨v59, v63, v67⟩ := g59.bind (g63.bind (g67.bind (Ag.pure _)))
        have hb : pBody 3 = pBind pProp (fun v => pPure { msg0 3 with prop := v }) := rfl
        have ha : Ag (pBody 3) σ { msg0 3 with prop := ⟨v59, v63, v67⟩ } := by rw [hb]; exact hv.bind (Ag.pure _)
        have hr : rstep (pBody 3) σ = rstep pProp σ := by rw [hb, rstep_bind hv, rstep_pure]
        have hr2 : rstep pProp σ = rstep pSigned (rstep pTC (rstep pBlock (σ))) := by rw [pProp, rstep_bind g59, rstep_bind g63, rstep_bind g67, rstep_pure]
        rw [hr, hr2]
        intro w' hw
        refine ⟨(.int .i64 3 :: (voteC ++ (tmoC ++ (q59 ++ (q63 ++ (q67 ++ (dc dig0 ++ (dc dig0 ++ (blkC ++ chgC)))))))), { msg0 3 with prop := ⟨v59, v63, v67⟩ }), rfl, St.pureI ⟨ha, by simp only [List.length_cons, List.length_append, List.length_nil, dc_length, len_L], (by repeat (first | exact all_nil' | exact dc_one _ | exact One.h | refine all_app' (dc_one _) ?_ | refine all_app' One.h ?_ | refine all_cons' rfl ?_))⟩ ?_⟩
        exact (hw.conv (M := [VlR RdBlock q59 v59, VlR RdTC q63 v63, VlR RdSigned q67 v67]) (N := [VlR RdMsg (.int .i64 3 :: (voteC ++ (tmoC ++ (q59 ++ (q63 ++ (q67 ++ (dc dig0 ++ (dc dig0 ++ (blkC ++ chgC))))))))) ({ msg0 3 with prop := ⟨v59, v63, v67⟩ })]) (by repeat (first | exact Sel.nil | (apply Sel.cons; · (repeat (first | exact Pick.here | apply Pick.there))))) (fun _ _ => vl_prop (by first | rfl | simp only [List.cons_append, List.append_assoc]))).sel (by repeat (first | exact Sel.nil | (apply Sel.cons; · (repeat (first | exact Pick.here | apply Pick.there)))))
      · refine gsr ?_
        refine gp zei ?_
        refine gp zas ?_
        refine gnt ?_
        refine gif rfl (fun hc70 => ?_) (fun hc70 => ?_)
        · try simp only at hc70
          have hk : n = 4 := hc70
          subst hk
          refine gc_eqc (cs' := .int .i64 4 :: (voteC ++ (tmoC ++ (propC ++ (dc dig0 ++ (dc dig0 ++ (blkC ++ chgC))))))) (by repeat (first | exact Pick.here | apply Pick.there)) (by kernel_rfl) ?_
          refine gsr ?_
          refine gp zL ?_
          refine zc (fun d73 => ?_) (c := fun w1 F1 F2 h1 h2 hd hst => rdigest_ok h1 (hE.mv hst.still))
          refine gl_pureR (fun g73 => ?_)
          refine gp zfa ?_
          refine gp zfa ?_
          refine zsN ?_
          refine gnt ?_
          refine gc_region ?_
          refine gp zL ?_
          refine zc (fun d77 => ?_) (c := fun w1 F1 F2 h1 h2 hd hst => rdigest_ok h1 (hE.mv hst.still))
          refine gl_pureR (fun g77 => ?_)
          refine gp zfa ?_
          refine gp zfa ?_
          refine zsN ?_
          refine gl_nil ?_
          refine gx_block_normal ?_
          refine gx_then ?_
          refine gsr ?_
          refine gp zL ?_
          refine zsN ?_
          refine gnt ?_
          refine gc_ret ?_
          refine gx_retc rfl rfl (ld_aggS Ty.row_67 Ty.sz_67 (by repeat (first | exact Pick.here | apply Pick.there)) (by (simp only [List.drop_succ_cons, List.drop_zero, List.take_succ_cons, List.take_zero, List.cons_append, List.nil_append, List.append_assoc, drop_dc, drop_dc', take_dc, take_dc', drop_L, drop_L', take_L, take_L', len_L, Nat.reduceLeDiff, Nat.reduceSub, Nat.reduceAdd, Nat.le_refl, List.length_cons, List.length_append, List.length_nil, dc_length, List.drop_nil, List.take_nil, List.append_nil, List.length_map, List.length_replicate]; first | done | rfl)) (by first | rfl | (simp only [List.drop_succ_cons, List.drop_zero, List.take_succ_cons, List.take_zero, List.cons_append, List.nil_append, List.append_assoc, drop_dc, drop_dc', take_dc, take_dc', drop_L, drop_L', take_L, take_L', len_L, Nat.reduceLeDiff, Nat.reduceSub, Nat.reduceAdd, Nat.le_refl, List.length_cons, List.length_append, List.length_nil, dc_length, List.drop_nil, List.take_nil, List.append_nil, List.length_map, List.length_replicate]; first | done | omega))) ?_
          have hb : pBody 4 = pBind pDig fun d => pBind pDig fun e => pPure { msg0 4 with wantFrom := d, wantBlock := e } := rfl
          have ha : Ag (pBody 4) σ { msg0 4 with wantFrom := d73, wantBlock := d77 } := by rw [hb]; exact g73.bind (g77.bind (Ag.pure _))
          have hr : rstep (pBody 4) σ = rstep pDig (rstep pDig (σ)) := by rw [hb, rstep_bind g73, rstep_bind g77, rstep_pure]
          rw [hr]
          intro w' hw
          refine ⟨(.int .i64 4 :: (voteC ++ (tmoC ++ (propC ++ (dc d73 ++ (dc d77 ++ (blkC ++ chgC)))))), { msg0 4 with wantFrom := d73, wantBlock := d77 }), rfl, St.pureI ⟨ha, by simp only [List.length_cons, List.length_append, List.length_nil, dc_length, len_L], (by repeat (first | exact all_nil' | exact dc_one _ | exact One.h | refine all_app' (dc_one _) ?_ | refine all_app' One.h ?_ | refine all_cons' rfl ?_))⟩ ?_⟩
          exact (hw.mapL fun F' hF' => vl_want (by first | rfl | simp only [List.cons_append, List.append_assoc]) hF').sel (by repeat (first | exact Sel.nil | (apply Sel.cons; · (repeat (first | exact Pick.here | apply Pick.there)))))
        · refine gsr ?_
          refine gp zei ?_
          refine gp zas ?_
          refine gnt ?_
          refine gif rfl (fun hc80 => ?_) (fun hc80 => ?_)
          · try simp only at hc80
            have hk : n = 5 := hc80
            subst hk
            refine gc_eqc (cs' := .int .i64 5 :: (voteC ++ (tmoC ++ (propC ++ (dc dig0 ++ (dc dig0 ++ (blkC ++ chgC))))))) (by repeat (first | exact Pick.here | apply Pick.there)) (by kernel_rfl) ?_
            refine gc_region ?_
            refine gp zL ?_
            refine zc ?_ (c := fun w1 F1 F2 h1 h2 hd hst => rblock_ok h1 (hE.mv hst.still))
            rintro ⟨q83, v83⟩
            refine gl_pureR (fun hp83 => ?_)
            obtain ⟨g83, z83, o83⟩ := hp83
            replace z83 : q83.length = _ := z83
            have i83 := Len.of z83
            have j83 := One.of (show ∀ v ∈ q83, v.oneCell' = true from o83)
            refine gp zfa ?_
            refine gp zfa ?_
            refine zsN ?_
            refine gl_nil ?_
            refine gx_block_normal ?_
            refine gx_then ?_
            refine gsr ?_
            refine gp zL ?_
            refine zsN ?_
            refine gnt ?_
            refine gc_ret ?_
            refine gx_retc rfl rfl (ld_aggS Ty.row_67 Ty.sz_67 (by repeat (first | exact Pick.here | apply Pick.there)) (by (simp only [List.drop_succ_cons, List.drop_zero, List.take_succ_cons, List.take_zero, List.cons_append, List.nil_append, List.append_assoc, drop_dc, drop_dc', take_dc, take_dc', drop_L, drop_L', take_L, take_L', len_L, Nat.reduceLeDiff, Nat.reduceSub, Nat.reduceAdd, Nat.le_refl, List.length_cons, List.length_append, List.length_nil, dc_length, List.drop_nil, List.take_nil, List.append_nil, List.length_map, List.length_replicate]; first | done | rfl)) (by first | rfl | (simp only [List.drop_succ_cons, List.drop_zero, List.take_succ_cons, List.take_zero, List.cons_append, List.nil_append, List.append_assoc, drop_dc, drop_dc', take_dc, take_dc', drop_L, drop_L', take_L, take_L', len_L, Nat.reduceLeDiff, Nat.reduceSub, Nat.reduceAdd, Nat.le_refl, List.length_cons, List.length_append, List.length_nil, dc_length, List.drop_nil, List.take_nil, List.append_nil, List.length_map, List.length_replicate]; first | done | omega))) ?_
            have hv : Ag pBlock σ v83 := g83
            have hb : pBody 5 = pBind pBlock (fun v => pPure { msg0 5 with reply := v }) := rfl
            have ha : Ag (pBody 5) σ { msg0 5 with reply := v83 } := by rw [hb]; exact hv.bind (Ag.pure _)
            have hr : rstep (pBody 5) σ = rstep pBlock σ := by rw [hb, rstep_bind hv, rstep_pure]
            rw [hr]
            intro w' hw
            refine ⟨(.int .i64 5 :: (voteC ++ (tmoC ++ (propC ++ (dc dig0 ++ (dc dig0 ++ (q83 ++ chgC)))))), { msg0 5 with reply := v83 }), rfl, St.pureI ⟨ha, by simp only [List.length_cons, List.length_append, List.length_nil, dc_length, len_L], (by repeat (first | exact all_nil' | exact dc_one _ | exact One.h | refine all_app' (dc_one _) ?_ | refine all_app' One.h ?_ | refine all_cons' rfl ?_))⟩ ?_⟩
            exact (hw.conv (M := [VlR RdBlock q83 v83]) (N := [VlR RdMsg (.int .i64 5 :: (voteC ++ (tmoC ++ (propC ++ (dc dig0 ++ (dc dig0 ++ (q83 ++ chgC))))))) ({ msg0 5 with reply := v83 })]) (by repeat (first | exact Sel.nil | (apply Sel.cons; · (repeat (first | exact Pick.here | apply Pick.there))))) (fun _ _ => vl_reply (by first | rfl | simp only [List.cons_append, List.append_assoc]))).sel (by repeat (first | exact Sel.nil | (apply Sel.cons; · (repeat (first | exact Pick.here | apply Pick.there)))))
          · refine gsr ?_
            refine gp zei ?_
            refine gp zas ?_
            refine gnt ?_
            refine gif rfl (fun hc86 => ?_) (fun hc86 => ?_)
            · try simp only at hc86
              have hk : n = 6 := hc86
              subst hk
              refine gc_eqc (cs' := .int .i64 6 :: (voteC ++ (tmoC ++ (propC ++ (dc dig0 ++ (dc dig0 ++ (blkC ++ chgC))))))) (by repeat (first | exact Pick.here | apply Pick.there)) (by kernel_rfl) ?_
              refine gc_region ?_
              refine gp zL ?_
              refine zc ?_ (c := fun w1 F1 F2 h1 h2 hd hst => rchange_ok h1 (hE.mv hst.still))
              rintro ⟨q89, v89⟩
              refine gl_pureR (fun hp89 => ?_)
              obtain ⟨y89, g89, z89, o89⟩ := hp89
              replace z89 : q89.length = _ := z89
              have i89 := Len.of z89
              have j89 := One.of (show ∀ v ∈ q89, v.oneCell' = true from o89)
              refine gp zfa ?_
              refine zsN ?_
              refine gl_nil ?_
              refine gx_block_normal ?_
              refine gx_then ?_
              refine gsr ?_
              refine gp zL ?_
              refine zsN ?_
              refine gnt ?_
              refine gc_ret ?_
              refine gx_retc rfl rfl (ld_aggS Ty.row_67 Ty.sz_67 (by repeat (first | exact Pick.here | apply Pick.there)) (by (simp only [List.drop_succ_cons, List.drop_zero, List.take_succ_cons, List.take_zero, List.cons_append, List.nil_append, List.append_assoc, drop_dc, drop_dc', take_dc, take_dc', drop_L, drop_L', take_L, take_L', len_L, Nat.reduceLeDiff, Nat.reduceSub, Nat.reduceAdd, Nat.le_refl, List.length_cons, List.length_append, List.length_nil, dc_length, List.drop_nil, List.take_nil, List.append_nil, List.length_map, List.length_replicate]; first | done | rfl)) (by first | rfl | (simp only [List.drop_succ_cons, List.drop_zero, List.take_succ_cons, List.take_zero, List.cons_append, List.nil_append, List.append_assoc, drop_dc, drop_dc', take_dc, take_dc', drop_L, drop_L', take_L, take_L', len_L, Nat.reduceLeDiff, Nat.reduceSub, Nat.reduceAdd, Nat.le_refl, List.length_cons, List.length_append, List.length_nil, dc_length, List.drop_nil, List.take_nil, List.append_nil, List.length_map, List.length_replicate]; first | done | omega))) ?_
              have hv : Ag pChg σ v89 := g89
              have hb : pBody 6 = pBind pChg (fun v => pPure { msg0 6 with chg := v }) := rfl
              have ha : Ag (pBody 6) σ { msg0 6 with chg := v89 } := by rw [hb]; exact hv.bind (Ag.pure _)
              have hr : rstep (pBody 6) σ = rstep pChg σ := by rw [hb, rstep_bind hv, rstep_pure]
              rw [hr]
              intro w' hw
              refine ⟨(.int .i64 6 :: (voteC ++ (tmoC ++ (propC ++ (dc dig0 ++ (dc dig0 ++ (blkC ++ q89)))))), { msg0 6 with chg := v89 }), rfl, St.pureI ⟨ha, by simp only [List.length_cons, List.length_append, List.length_nil, dc_length, len_L], (by repeat (first | exact all_nil' | exact dc_one _ | exact One.h | refine all_app' (dc_one _) ?_ | refine all_app' One.h ?_ | refine all_cons' rfl ?_))⟩ ?_⟩
              exact (hw.conv (M := [VlR RdChg q89 v89]) (N := [VlR RdMsg (.int .i64 6 :: (voteC ++ (tmoC ++ (propC ++ (dc dig0 ++ (dc dig0 ++ (blkC ++ q89))))))) ({ msg0 6 with chg := v89 })]) (by repeat (first | exact Sel.nil | (apply Sel.cons; · (repeat (first | exact Pick.here | apply Pick.there))))) (fun _ _ => vl_change (by first | rfl | simp only [List.cons_append, List.append_assoc]))).sel (by repeat (first | exact Sel.nil | (apply Sel.cons; · (repeat (first | exact Pick.here | apply Pick.there)))))
            · refine gc_regionT 5 (by kernel_rfl) (by kernel_rfl) ?_
              refine sp zfa ?_
              refine sp zl ?_
              refine sp znc ?_
              refine sp zfa ?_
              refine sp (r_ld1o rfl Ty.row_35 (hE.c 4 Has.h) (hE.n 4 Has.h)) ?_
              refine gs_nil ?_
              refine zc (fun _ => ?_) (c := fun w1 F1 F2 h1 h2 hd hst => failR_ok (by decide) h1)
              refine gl_nil ?_
              refine gx_block_normal ?_
              refine gx_then ?_
              refine gsr ?_
              refine gp zL ?_
              refine zsN ?_
              refine gnt ?_
              refine gc_ret ?_
              refine gx_retc rfl rfl (ld_aggS Ty.row_67 Ty.sz_67 (by repeat (first | exact Pick.here | apply Pick.there)) (by (simp only [List.drop_succ_cons, List.drop_zero, List.take_succ_cons, List.take_zero, List.cons_append, List.nil_append, List.append_assoc, drop_dc, drop_dc', take_dc, take_dc', drop_L, drop_L', take_L, take_L', len_L, Nat.reduceLeDiff, Nat.reduceSub, Nat.reduceAdd, Nat.le_refl, List.length_cons, List.length_append, List.length_nil, dc_length, List.drop_nil, List.take_nil, List.append_nil, List.length_map, List.length_replicate]; first | done | rfl)) (by first | rfl | (simp only [List.drop_succ_cons, List.drop_zero, List.take_succ_cons, List.take_zero, List.cons_append, List.nil_append, List.append_assoc, drop_dc, drop_dc', take_dc, take_dc', drop_L, drop_L', take_L, take_L', len_L, Nat.reduceLeDiff, Nat.reduceSub, Nat.reduceAdd, Nat.le_refl, List.length_cons, List.length_append, List.length_nil, dc_length, List.drop_nil, List.take_nil, List.append_nil, List.length_map, List.length_replicate]; first | done | omega))) ?_
              have hb : pBody n = pErr 4 := by unfold pBody; rw [if_neg (by omega), if_neg (by omega), if_neg (by omega), if_neg (by omega), if_neg (by omega), if_neg (by omega)]
              rw [hb, rstep_err]
              intro w' hw
              exact ⟨(msgC n dig0 dig0, msg0 n), rfl, St.pureI ⟨Ag.err _, by simp only [msgC, List.length_cons, List.length_append, List.length_nil, dc_length, len_L], by unfold msgC; exact (by repeat (first | exact all_nil' | exact dc_one _ | exact One.h | refine all_app' (dc_one _) ?_ | refine all_app' One.h ?_ | refine all_cons' rfl ?_))⟩ ((hw.mapL fun F' hF' => vl_none rfl hF').sel (by repeat (first | exact Sel.nil | (apply Sel.cons; · (repeat (first | exact Pick.here | apply Pick.there))))))⟩

end Go.Proofs.YtkgbbnhdioghmaaDoor
