/- Walks, by program (wg.py) out of a spec. -/
import Derived.Test.YtkgbbnhdioghmaaDoorWe
import Derived.Test.YtkgbbnhdioghmaaDoorEngH
namespace Go.Proofs.YtkgbbnhdioghmaaDoor
open Go
set_option linter.unusedVariables false
set_option linter.unusedSimpArgs false

attribute [local irreducible] Gl Gc Gx Gs Runs Wt

set_option maxHeartbeats 400000 in
theorem change_ok {w : World} {F : Nat → Prop} {g TE : Nat} {ea : Nat → Addr} {s : WS} {cs : List Value} {x : Chg} (h : stars [WrR TE ea g s] w F) {es : List Nat} [Has es 1] (hE : GErr es w (fun k => ¬ F k) TE ea) (hx : RdChg w (fun k => ¬ F k) cs x) (hb : s.bs.length + 33686 ≤ 1099511627776) :
    Calls Tryd.prog 104 #[.agg (List.toArray [.pointer (some ⟨g, 0, none⟩)]), .agg cs.toArray] w (Post w F (fun _ : Unit => .tuple #[]) (fun _ => [WrR TE ea g (wChg x s)])) := by
  obtain ⟨css, q, rfl, hcl, hc3, hb3, hbs, hq⟩ := hx
  have hfl : css.flatten.length = 117 := by rw [flatten_len hcl, hc3]
  have hql := hq.len
  refine g_enter (env := [(0, .agg (List.toArray [.pointer (some ⟨g, 0, none⟩)])), (1, .agg (List.toArray (css.flatten ++ q)))]) Tryd.func104 rfl h Tryd.ntmps104 rfl rfl ?_
  refine gc_seq ?_
  refine gc_region ?_
  refine gl_boxN (wt0 rfl) rfl ?_
  intro b2
  refine gl_boxN (wt0 rfl) rfl ?_
  intro b3
  refine gl_nil ?_
  refine gx_then ?_
  refine gc_seq ?_
  refine gc_seq ?_
  refine gc_region ?_
  refine gl_pure (wt0 rfl) (r_fieldAddr rfl Ty.fo_65_0) ?_
  refine gl_pure (wt0 rfl) (r_ldN rfl Ty.row_63 Ty.sz_63 (by repeat (first | exact Pick.here | apply Pick.there)) (by (simp only [List.drop_succ_cons, List.drop_zero, List.take_succ_cons, List.take_zero, List.cons_append, List.nil_append, List.append_assoc, drop_dc, drop_dc', take_dc, take_dc', Nat.reduceLeDiff, Nat.reduceSub, Nat.reduceAdd, Nat.le_refl, List.length_cons, List.length_append, List.length_nil, dc_length, List.drop_nil, List.take_nil, List.append_nil, List.length_map, List.length_replicate, drop_q hfl, drop_q' hfl, take_q hfl, take_q' hfl, hfl, drop_q hql, drop_q' hql, take_q hql, take_q' hql, hql]; first | done | rfl)) (by first | rfl | (simp only [List.drop_succ_cons, List.drop_zero, List.take_succ_cons, List.take_zero, List.cons_append, List.nil_append, List.append_assoc, drop_dc, drop_dc', take_dc, take_dc', Nat.reduceLeDiff, Nat.reduceSub, Nat.reduceAdd, Nat.le_refl, List.length_cons, List.length_append, List.length_nil, dc_length, List.drop_nil, List.take_nil, List.append_nil, List.length_map, List.length_replicate, drop_q hfl, drop_q' hfl, take_q hfl, take_q' hfl, hfl, drop_q hql, drop_q' hql, take_q hql, take_q' hql, hql]; first | done | omega))) ?_
  refine gl_pure (wt0 rfl) (r_move (by conv => lhs; whnf)) ?_
  refine gl_nil ?_
  refine gx_then ?_
  refine gc_block ?_
  refine gc_loop (α := Nat) (fun k => [pureR (k ≤ 3), WrR TE ea g ((x.blocks.take k).foldl (fun s b => wBlock b s) s), blk b2 107 [.pointer (some ⟨g, 0, none⟩)], blk b3 65 (css.flatten ++ q)]) (fun k => [(8, .int .i64 (k : Int))]) [5, 9, 10, 11, 12, 13, 14] (fun k => 3 - k) 0 ?_ ?_ ?_
  · refine env_start (by kernel_rfl)
  · rintro w' hw
    obtain ⟨F', hF', hst'⟩ := hw.sel (M := [WrR TE ea g s, blk b2 _ _, blk b3 _ _]) (by repeat (first | exact Sel.nil | (apply Sel.cons; · (repeat (first | exact Pick.here | apply Pick.there)))))
    exact ⟨F', stars_pure_mk (Nat.zero_le _) hF', hst'⟩
  · intro k u
    refine gc_pureR (fun hk => ?_)
    replace hk : k ≤ 3 := hk
    refine gc_seq ?_
    refine gc_region ?_
    refine gl_pure (wt0 rfl) (r_lss rfl rfl) ?_
    refine gl_nil ?_
    refine gx_then ?_
    refine gc_seq ?_
    refine gc_cond rfl (fun hc9 => ?_) (fun hc9 => ?_)
    · (try simp only [decide_eq_true_eq, decide_eq_false_iff_not, Bool.not_eq_true', Bool.not_eq_false', Bool.not_true, Bool.not_false, Int.not_lt, Int.not_le, Nat.not_lt, Nat.not_le, Bool.and_eq_true, Bool.or_eq_true, Bool.and_eq_false_imp, Bool.or_eq_false_iff] at hc9)
      have hk' : k < 3 := by (try simp only at hc9); omega
      obtain ⟨bc, hbc⟩ : ∃ bc, css[k]? = some bc := ⟨_, List.getElem?_eq_getElem (by omega)⟩
      obtain ⟨xb, hxb⟩ : ∃ xb, x.blocks[k]? = some xb := ⟨_, List.getElem?_eq_getElem (by omega)⟩
      have hB := hbs k bc xb hbc hxb
      have hbl := hB.len
      have hfd := foldl_len (c := 8485) (fun b s => wBlock_len b s) (x.blocks.take k) s
      have htl : (x.blocks.take k).length = k := by rw [List.length_take]; omega
      rw [htl] at hfd
      refine gc_skip ?_
      refine gx_then ?_
      refine gc_seq ?_
      refine gc_block ?_
      refine gc_seq ?_
      refine gc_region ?_
      refine gl_pure (wt0 rfl) (r_indexN (seg := bc) rfl rfl Ty.arr_63 Ty.sz_30 Ty.row_30 (by omega) (by omega) (by rw [show (k : Int).toNat * 39 = k * 39 by omega]; exact flatten_at hcl hbc)) ?_
      refine gl_alloc (wt0 rfl) Ty.zc_30 ?_
      intro b5
      refine gl_storeN (wt0 rfl) rfl rfl Ty.sz_30 hbl (by repeat (first | exact Pick.here | apply Pick.there)) (by decide) hB.one (updL_all (by rw [hbl]; rfl)) ?_
      refine gl_nil ?_
      refine gx_then ?_
      refine gc_region ?_
      refine gl_pure (wt0 rfl) (r_ldN rfl Ty.row_107 Ty.sz_107 (by repeat (first | exact Pick.here | apply Pick.there)) (by (simp only [List.drop_succ_cons, List.drop_zero, List.take_succ_cons, List.take_zero, List.cons_append, List.nil_append, List.append_assoc, drop_dc, drop_dc', take_dc, take_dc', Nat.reduceLeDiff, Nat.reduceSub, Nat.reduceAdd, Nat.le_refl, List.length_cons, List.length_append, List.length_nil, dc_length, List.drop_nil, List.take_nil, List.append_nil, List.length_map, List.length_replicate, drop_q hfl, drop_q' hfl, take_q hfl, take_q' hfl, hfl, drop_q hql, drop_q' hql, take_q hql, take_q' hql, hql]; first | done | rfl)) (by first | rfl | (simp only [List.drop_succ_cons, List.drop_zero, List.take_succ_cons, List.take_zero, List.cons_append, List.nil_append, List.append_assoc, drop_dc, drop_dc', take_dc, take_dc', Nat.reduceLeDiff, Nat.reduceSub, Nat.reduceAdd, Nat.le_refl, List.length_cons, List.length_append, List.length_nil, dc_length, List.drop_nil, List.take_nil, List.append_nil, List.length_map, List.length_replicate, drop_q hfl, drop_q' hfl, take_q hfl, take_q' hfl, hfl, drop_q hql, drop_q' hql, take_q hql, take_q' hql, hql]; first | done | omega))) ?_
      refine gl_pure (wt0 rfl) (r_ldN rfl Ty.row_30 Ty.sz_30 (by repeat (first | exact Pick.here | apply Pick.there)) (seg_all hbl) hbl) ?_
      refine gl_call (wt0 rfl) (e_call Ty.call_45 rfl) (by repeat (first | exact Sel.nil | (apply Sel.cons; · (repeat (first | exact Pick.here | apply Pick.there))))) (fun w1 F1 F2 h1 h2 hd hst => block_ok h1 (hE.mv hst.still) (hB.mv hst.still) (by omega)) ?_
      intro _
      refine gl_nil ?_
      refine gx_block_normal ?_
      refine gx_then ?_
      refine gc_region ?_
      refine gl_pure (wt0 rfl) (r_arith (op := .add) rfl rfl (by first | exact wrap_i64 (by omega) (by omega) | exact rfl)) ?_
      refine gl_pure (wt0 rfl) (r_move (by conv => lhs; whnf)) ?_
      refine gl_nil ?_
      refine gx_round (k + 1) (env_next (by repeat (first | exact Front.here | apply Front.there)) (by kernel_rfl) (by kernel_rfl) (by rfl)) ?_ ?_
      · show 3 - (k + 1) < 3 - k
        omega
      · rintro w' hw
        obtain ⟨F', hF', hst'⟩ := hw.sel (M := [WrR TE ea g _, blk b2 _ _, blk b3 _ _]) (by repeat (first | exact Sel.nil | (apply Sel.cons; · (repeat (first | exact Pick.here | apply Pick.there)))))
        refine ⟨F', stars_pure_mk (show k + 1 ≤ 3 by omega) ?_, hst'⟩
        rw [foldl_take_succ _ _ _ hxb]
        exact hF'
    · (try simp only [decide_eq_true_eq, decide_eq_false_iff_not, Bool.not_eq_true', Bool.not_eq_false', Bool.not_true, Bool.not_false, Int.not_lt, Int.not_le, Nat.not_lt, Nat.not_le, Bool.and_eq_true, Bool.or_eq_true, Bool.and_eq_false_imp, Bool.or_eq_false_iff] at hc9)
      have hk' : k = x.blocks.length := by (try simp only at hc9); omega
      subst hk'
      have hfd := foldl_len (c := 8485) (fun b s => wBlock_len b s) (x.blocks.take x.blocks.length) s
      rw [List.take_length] at hfd
      refine gc_exit ?_
      refine gx_then_exit ?_
      refine gx_round_exit ?_
      refine gx_block_hit ?_
      refine gx_then ?_
      refine gc_region ?_
      refine gl_pure (wt0 rfl) (r_ldN rfl Ty.row_107 Ty.sz_107 (by repeat (first | exact Pick.here | apply Pick.there)) (by (simp only [List.drop_succ_cons, List.drop_zero, List.take_succ_cons, List.take_zero, List.cons_append, List.nil_append, List.append_assoc, drop_dc, drop_dc', take_dc, take_dc', Nat.reduceLeDiff, Nat.reduceSub, Nat.reduceAdd, Nat.le_refl, List.length_cons, List.length_append, List.length_nil, dc_length, List.drop_nil, List.take_nil, List.append_nil, List.length_map, List.length_replicate, drop_q hfl, drop_q' hfl, take_q hfl, take_q' hfl, hfl, drop_q hql, drop_q' hql, take_q hql, take_q' hql, hql]; first | done | rfl)) (by first | rfl | (simp only [List.drop_succ_cons, List.drop_zero, List.take_succ_cons, List.take_zero, List.cons_append, List.nil_append, List.append_assoc, drop_dc, drop_dc', take_dc, take_dc', Nat.reduceLeDiff, Nat.reduceSub, Nat.reduceAdd, Nat.le_refl, List.length_cons, List.length_append, List.length_nil, dc_length, List.drop_nil, List.take_nil, List.append_nil, List.length_map, List.length_replicate, drop_q hfl, drop_q' hfl, take_q hfl, take_q' hfl, hfl, drop_q hql, drop_q' hql, take_q hql, take_q' hql, hql]; first | done | omega))) ?_
      refine gl_pure (wt0 rfl) (r_fieldAddr rfl Ty.fo_65_1) ?_
      refine gl_pure (wt0 rfl) (r_ldN rfl Ty.row_26 Ty.sz_26 (by repeat (first | exact Pick.here | apply Pick.there)) (by (simp only [List.drop_succ_cons, List.drop_zero, List.take_succ_cons, List.take_zero, List.cons_append, List.nil_append, List.append_assoc, drop_dc, drop_dc', take_dc, take_dc', Nat.reduceLeDiff, Nat.reduceSub, Nat.reduceAdd, Nat.le_refl, List.length_cons, List.length_append, List.length_nil, dc_length, List.drop_nil, List.take_nil, List.append_nil, List.length_map, List.length_replicate, drop_q hfl, drop_q' hfl, take_q hfl, take_q' hfl, hfl, drop_q hql, drop_q' hql, take_q hql, take_q' hql, hql]; first | done | rfl)) (by first | rfl | (simp only [List.drop_succ_cons, List.drop_zero, List.take_succ_cons, List.take_zero, List.cons_append, List.nil_append, List.append_assoc, drop_dc, drop_dc', take_dc, take_dc', Nat.reduceLeDiff, Nat.reduceSub, Nat.reduceAdd, Nat.le_refl, List.length_cons, List.length_append, List.length_nil, dc_length, List.drop_nil, List.take_nil, List.append_nil, List.length_map, List.length_replicate, drop_q hfl, drop_q' hfl, take_q hfl, take_q' hfl, hfl, drop_q hql, drop_q' hql, take_q hql, take_q' hql, hql]; first | done | omega))) ?_
      refine gl_call (wt0 rfl) (e_call Ty.call_88 rfl) (by repeat (first | exact Sel.nil | (apply Sel.cons; · (repeat (first | exact Pick.here | apply Pick.there))))) (fun w1 F1 F2 h1 h2 hd hst => qc_ok h1 (hE.mv hst.still) (hq.mv hst.still) (by rw [List.take_length]; omega)) ?_
      intro _
      refine gl_nil ?_
      refine gx_ret0' rfl ?_
      rw [List.take_length]
      exact fun w' hw => ⟨(), rfl, hw.sel (by repeat (first | exact Sel.nil | (apply Sel.cons; · (repeat (first | exact Pick.here | apply Pick.there)))))⟩

set_option maxHeartbeats 400000 in
theorem body1_ok {w : World} {F : Nat → Prop} {g TE : Nat} {ea : Nat → Addr} {s : WS} {cs : List Value} {m : Msg} (h : stars [WrR TE ea g s] w F) {es : List Nat} [Has es 1] (hE : GErr es w (fun k => ¬ F k) TE ea) (hx : RdMsg w (fun k => ¬ F k) cs m) (hk : m.kind = 1) (hb : s.bs.length + 1198 ≤ 1099511627776) :
    Calls Tryd.prog 59 #[.agg (List.toArray [.pointer (some ⟨g, 0, none⟩)]), .agg cs.toArray] w (Post w F (fun _ : Unit => .tuple #[]) (fun _ => [WrR TE ea g (wVote m.vote s)])) := by
  obtain ⟨v, t, p, r, c, rfl, hv, ht, hp, hr, hc⟩ := hx
  have lv := hv.len
  have lt := ht.len
  have lp := hp.len
  have lr := hr.len
  have lc := hc.len
  obtain ⟨sg, rfl, hs⟩ := hv
  have ls := hs.len
  refine g_enter (env := [(0, .agg (List.toArray [.pointer (some ⟨g, 0, none⟩)])), (1, .agg (List.toArray (.int .i64 m.kind :: ((.int .i64 m.vote.epoch :: .int .i64 m.vote.round :: (dc m.vote.block ++ sg)) ++ (t ++ (p ++ (dc m.wantFrom ++ (dc m.wantBlock ++ (r ++ c)))))))))]) Tryd.func59 rfl h Tryd.ntmps59 rfl rfl ?_
  refine gc_seq ?_
  refine gc_region ?_
  refine gl_boxN (wt0 rfl) rfl ?_
  intro b2
  refine gl_boxN (wt0 rfl) rfl ?_
  intro b3
  refine gl_nil ?_
  refine gx_then ?_
  refine gc_seq ?_
  refine gc_region ?_
  refine gl_pure (wt0 rfl) (r_fieldAddr rfl Ty.fo_67_0) ?_
  refine gl_pure (wt0 rfl) (r_ld1 rfl Ty.row_3 (by repeat (first | exact Pick.here | apply Pick.there)) (by first | rfl | (simp only [List.getElem?_cons_succ, List.getElem?_cons_zero, List.cons_append, List.append_assoc, get_dc, Nat.reduceLeDiff, Nat.reduceSub, Nat.reduceAdd, Nat.le_refl, get_q lv, get_q lt, get_q lp, get_q lr, get_q lc, get_q ls]; rfl))) ?_
  refine gl_nil ?_
  refine gx_then ?_
  refine gc_block ?_
  refine gc_seq ?_
  refine gc_region ?_
  refine gl_pure (wt0 rfl) (r_eql_int rfl rfl) ?_
  refine gl_pure (wt0 rfl) (r_assign (by conv => lhs; whnf)) ?_
  refine gl_nil ?_
  refine gx_then ?_
  refine gc_condT rfl (decide_eq_true (by omega)) ?_
  refine gc_seq ?_
  refine gc_region ?_
  refine gl_pure (wt0 rfl) (r_ldN rfl Ty.row_107 Ty.sz_107 (by repeat (first | exact Pick.here | apply Pick.there)) (by (simp only [List.drop_succ_cons, List.drop_zero, List.take_succ_cons, List.take_zero, List.cons_append, List.nil_append, List.append_assoc, drop_dc, drop_dc', take_dc, take_dc', Nat.reduceLeDiff, Nat.reduceSub, Nat.reduceAdd, Nat.le_refl, List.length_cons, List.length_append, List.length_nil, dc_length, List.drop_nil, List.take_nil, List.append_nil, List.length_map, List.length_replicate, drop_q lv, drop_q' lv, take_q lv, take_q' lv, lv, drop_q lt, drop_q' lt, take_q lt, take_q' lt, lt, drop_q lp, drop_q' lp, take_q lp, take_q' lp, lp, drop_q lr, drop_q' lr, take_q lr, take_q' lr, lr, drop_q lc, drop_q' lc, take_q lc, take_q' lc, lc, drop_q ls, drop_q' ls, take_q ls, take_q' ls, ls]; first | done | rfl)) (by first | rfl | (simp only [List.drop_succ_cons, List.drop_zero, List.take_succ_cons, List.take_zero, List.cons_append, List.nil_append, List.append_assoc, drop_dc, drop_dc', take_dc, take_dc', Nat.reduceLeDiff, Nat.reduceSub, Nat.reduceAdd, Nat.le_refl, List.length_cons, List.length_append, List.length_nil, dc_length, List.drop_nil, List.take_nil, List.append_nil, List.length_map, List.length_replicate, drop_q lv, drop_q' lv, take_q lv, take_q' lv, lv, drop_q lt, drop_q' lt, take_q lt, take_q' lt, lt, drop_q lp, drop_q' lp, take_q lp, take_q' lp, lp, drop_q lr, drop_q' lr, take_q lr, take_q' lr, lr, drop_q lc, drop_q' lc, take_q lc, take_q' lc, lc, drop_q ls, drop_q' ls, take_q ls, take_q' ls, ls]; first | done | omega))) ?_
  refine gl_pure (wt0 rfl) (r_fieldAddr rfl Ty.fo_67_1) ?_
  refine gl_pure (wt0 rfl) (r_fieldAddr rfl Ty.fo_51_0) ?_
  refine gl_pure (wt0 rfl) (r_ld1 rfl Ty.row_3 (by repeat (first | exact Pick.here | apply Pick.there)) (by first | rfl | (simp only [List.getElem?_cons_succ, List.getElem?_cons_zero, List.cons_append, List.append_assoc, get_dc, Nat.reduceLeDiff, Nat.reduceSub, Nat.reduceAdd, Nat.le_refl, get_q lv, get_q lt, get_q lp, get_q lr, get_q lc, get_q ls]; rfl))) ?_
  refine gl_pure (wt0 rfl) (r_fieldAddr rfl Ty.fo_67_1) ?_
  refine gl_pure (wt0 rfl) (r_fieldAddr rfl Ty.fo_51_1) ?_
  refine gl_pure (wt0 rfl) (r_ld1 rfl Ty.row_3 (by repeat (first | exact Pick.here | apply Pick.there)) (by first | rfl | (simp only [List.getElem?_cons_succ, List.getElem?_cons_zero, List.cons_append, List.append_assoc, get_dc, Nat.reduceLeDiff, Nat.reduceSub, Nat.reduceAdd, Nat.le_refl, get_q lv, get_q lt, get_q lp, get_q lr, get_q lc, get_q ls]; rfl))) ?_
  refine gl_call (wt0 rfl) (e_call Ty.call_86 rfl) (by repeat (first | exact Sel.nil | (apply Sel.cons; · (repeat (first | exact Pick.here | apply Pick.there))))) (fun w1 F1 F2 h1 h2 hd hst => at_ok h1 (hE.mv hst.still) (by omega)) ?_
  intro _
  refine gl_nil ?_
  refine gx_then ?_
  refine gc_seq ?_
  refine gc_region ?_
  refine gl_pure (wt0 rfl) (r_ldN rfl Ty.row_107 Ty.sz_107 (by repeat (first | exact Pick.here | apply Pick.there)) (by (simp only [List.drop_succ_cons, List.drop_zero, List.take_succ_cons, List.take_zero, List.cons_append, List.nil_append, List.append_assoc, drop_dc, drop_dc', take_dc, take_dc', Nat.reduceLeDiff, Nat.reduceSub, Nat.reduceAdd, Nat.le_refl, List.length_cons, List.length_append, List.length_nil, dc_length, List.drop_nil, List.take_nil, List.append_nil, List.length_map, List.length_replicate, drop_q lv, drop_q' lv, take_q lv, take_q' lv, lv, drop_q lt, drop_q' lt, take_q lt, take_q' lt, lt, drop_q lp, drop_q' lp, take_q lp, take_q' lp, lp, drop_q lr, drop_q' lr, take_q lr, take_q' lr, lr, drop_q lc, drop_q' lc, take_q lc, take_q' lc, lc, drop_q ls, drop_q' ls, take_q ls, take_q' ls, ls]; first | done | rfl)) (by first | rfl | (simp only [List.drop_succ_cons, List.drop_zero, List.take_succ_cons, List.take_zero, List.cons_append, List.nil_append, List.append_assoc, drop_dc, drop_dc', take_dc, take_dc', Nat.reduceLeDiff, Nat.reduceSub, Nat.reduceAdd, Nat.le_refl, List.length_cons, List.length_append, List.length_nil, dc_length, List.drop_nil, List.take_nil, List.append_nil, List.length_map, List.length_replicate, drop_q lv, drop_q' lv, take_q lv, take_q' lv, lv, drop_q lt, drop_q' lt, take_q lt, take_q' lt, lt, drop_q lp, drop_q' lp, take_q lp, take_q' lp, lp, drop_q lr, drop_q' lr, take_q lr, take_q' lr, lr, drop_q lc, drop_q' lc, take_q lc, take_q' lc, lc, drop_q ls, drop_q' ls, take_q ls, take_q' ls, ls]; first | done | omega))) ?_
  refine gl_pure (wt0 rfl) (r_fieldAddr rfl Ty.fo_67_1) ?_
  refine gl_pure (wt0 rfl) (r_fieldAddr rfl Ty.fo_51_2) ?_
  refine gl_pure (wt0 rfl) (r_ldN rfl Ty.row_23 Ty.sz_23 (by repeat (first | exact Pick.here | apply Pick.there)) (by (simp only [List.drop_succ_cons, List.drop_zero, List.take_succ_cons, List.take_zero, List.cons_append, List.nil_append, List.append_assoc, drop_dc, drop_dc', take_dc, take_dc', Nat.reduceLeDiff, Nat.reduceSub, Nat.reduceAdd, Nat.le_refl, List.length_cons, List.length_append, List.length_nil, dc_length, List.drop_nil, List.take_nil, List.append_nil, List.length_map, List.length_replicate, drop_q lv, drop_q' lv, take_q lv, take_q' lv, lv, drop_q lt, drop_q' lt, take_q lt, take_q' lt, lt, drop_q lp, drop_q' lp, take_q lp, take_q' lp, lp, drop_q lr, drop_q' lr, take_q lr, take_q' lr, lr, drop_q lc, drop_q' lc, take_q lc, take_q' lc, lc, drop_q ls, drop_q' ls, take_q ls, take_q' ls, ls]; first | done | rfl)) (by first | rfl | (simp only [List.drop_succ_cons, List.drop_zero, List.take_succ_cons, List.take_zero, List.cons_append, List.nil_append, List.append_assoc, drop_dc, drop_dc', take_dc, take_dc', Nat.reduceLeDiff, Nat.reduceSub, Nat.reduceAdd, Nat.le_refl, List.length_cons, List.length_append, List.length_nil, dc_length, List.drop_nil, List.take_nil, List.append_nil, List.length_map, List.length_replicate, drop_q lv, drop_q' lv, take_q lv, take_q' lv, lv, drop_q lt, drop_q' lt, take_q lt, take_q' lt, lt, drop_q lp, drop_q' lp, take_q lp, take_q' lp, lp, drop_q lr, drop_q' lr, take_q lr, take_q' lr, lr, drop_q lc, drop_q' lc, take_q lc, take_q' lc, lc, drop_q ls, drop_q' ls, take_q ls, take_q' ls, ls]; first | done | omega))) ?_
  refine gl_call (wt0 rfl) (e_call Ty.call_87 rfl) (by repeat (first | exact Sel.nil | (apply Sel.cons; · (repeat (first | exact Pick.here | apply Pick.there))))) (fun w1 F1 F2 h1 h2 hd hst => digest_ok h1 (hE.mv hst.still) (by have e0 := wAt_len m.vote.epoch m.vote.round s; omega)) ?_
  intro _
  refine gl_nil ?_
  refine gx_then ?_
  refine gc_region ?_
  refine gl_pure (wt0 rfl) (r_ldN rfl Ty.row_107 Ty.sz_107 (by repeat (first | exact Pick.here | apply Pick.there)) (by (simp only [List.drop_succ_cons, List.drop_zero, List.take_succ_cons, List.take_zero, List.cons_append, List.nil_append, List.append_assoc, drop_dc, drop_dc', take_dc, take_dc', Nat.reduceLeDiff, Nat.reduceSub, Nat.reduceAdd, Nat.le_refl, List.length_cons, List.length_append, List.length_nil, dc_length, List.drop_nil, List.take_nil, List.append_nil, List.length_map, List.length_replicate, drop_q lv, drop_q' lv, take_q lv, take_q' lv, lv, drop_q lt, drop_q' lt, take_q lt, take_q' lt, lt, drop_q lp, drop_q' lp, take_q lp, take_q' lp, lp, drop_q lr, drop_q' lr, take_q lr, take_q' lr, lr, drop_q lc, drop_q' lc, take_q lc, take_q' lc, lc, drop_q ls, drop_q' ls, take_q ls, take_q' ls, ls]; first | done | rfl)) (by first | rfl | (simp only [List.drop_succ_cons, List.drop_zero, List.take_succ_cons, List.take_zero, List.cons_append, List.nil_append, List.append_assoc, drop_dc, drop_dc', take_dc, take_dc', Nat.reduceLeDiff, Nat.reduceSub, Nat.reduceAdd, Nat.le_refl, List.length_cons, List.length_append, List.length_nil, dc_length, List.drop_nil, List.take_nil, List.append_nil, List.length_map, List.length_replicate, drop_q lv, drop_q' lv, take_q lv, take_q' lv, lv, drop_q lt, drop_q' lt, take_q lt, take_q' lt, lt, drop_q lp, drop_q' lp, take_q lp, take_q' lp, lp, drop_q lr, drop_q' lr, take_q lr, take_q' lr, lr, drop_q lc, drop_q' lc, take_q lc, take_q' lc, lc, drop_q ls, drop_q' ls, take_q ls, take_q' ls, ls]; first | done | omega))) ?_
  refine gl_pure (wt0 rfl) (r_fieldAddr rfl Ty.fo_67_1) ?_
  refine gl_pure (wt0 rfl) (r_fieldAddr rfl Ty.fo_51_3) ?_
  refine gl_pure (wt0 rfl) (r_ldN rfl Ty.row_49 Ty.sz_49 (by repeat (first | exact Pick.here | apply Pick.there)) (by (simp only [List.drop_succ_cons, List.drop_zero, List.take_succ_cons, List.take_zero, List.cons_append, List.nil_append, List.append_assoc, drop_dc, drop_dc', take_dc, take_dc', Nat.reduceLeDiff, Nat.reduceSub, Nat.reduceAdd, Nat.le_refl, List.length_cons, List.length_append, List.length_nil, dc_length, List.drop_nil, List.take_nil, List.append_nil, List.length_map, List.length_replicate, drop_q lv, drop_q' lv, take_q lv, take_q' lv, lv, drop_q lt, drop_q' lt, take_q lt, take_q' lt, lt, drop_q lp, drop_q' lp, take_q lp, take_q' lp, lp, drop_q lr, drop_q' lr, take_q lr, take_q' lr, lr, drop_q lc, drop_q' lc, take_q lc, take_q' lc, lc, drop_q ls, drop_q' ls, take_q ls, take_q' ls, ls]; first | done | rfl)) (by first | rfl | (simp only [List.drop_succ_cons, List.drop_zero, List.take_succ_cons, List.take_zero, List.cons_append, List.nil_append, List.append_assoc, drop_dc, drop_dc', take_dc, take_dc', Nat.reduceLeDiff, Nat.reduceSub, Nat.reduceAdd, Nat.le_refl, List.length_cons, List.length_append, List.length_nil, dc_length, List.drop_nil, List.take_nil, List.append_nil, List.length_map, List.length_replicate, drop_q lv, drop_q' lv, take_q lv, take_q' lv, lv, drop_q lt, drop_q' lt, take_q lt, take_q' lt, lt, drop_q lp, drop_q' lp, take_q lp, take_q' lp, lp, drop_q lr, drop_q' lr, take_q lr, take_q' lr, lr, drop_q lc, drop_q' lc, take_q lc, take_q' lc, lc, drop_q ls, drop_q' ls, take_q ls, take_q' ls, ls]; first | done | omega))) ?_
  refine gl_call (wt0 rfl) (e_call Ty.call_102 rfl) (by repeat (first | exact Sel.nil | (apply Sel.cons; · (repeat (first | exact Pick.here | apply Pick.there))))) (fun w1 F1 F2 h1 h2 hd hst => signed_ok h1 (hE.mv hst.still) (hs.mv hst.still) (by have e0 := wAt_len m.vote.epoch m.vote.round s; have e1 := wDig_len m.vote.block (wAt m.vote.epoch m.vote.round s); omega)) ?_
  intro _
  refine gl_nil ?_
  refine gx_block_normal ?_
  refine gx_ret0' rfl ?_
  exact fun w' hw => ⟨(), rfl, hw.sel (by repeat (first | exact Sel.nil | (apply Sel.cons; · (repeat (first | exact Pick.here | apply Pick.there)))))⟩

set_option maxHeartbeats 400000 in
theorem body2_ok {w : World} {F : Nat → Prop} {g TE : Nat} {ea : Nat → Addr} {s : WS} {cs : List Value} {m : Msg} (h : stars [WrR TE ea g s] w F) {es : List Nat} [Has es 1] (hE : GErr es w (fun k => ¬ F k) TE ea) (hx : RdMsg w (fun k => ¬ F k) cs m) (hk : m.kind = 2) (hb : s.bs.length + 17670 ≤ 1099511627776) :
    Calls Tryd.prog 59 #[.agg (List.toArray [.pointer (some ⟨g, 0, none⟩)]), .agg cs.toArray] w (Post w F (fun _ : Unit => .tuple #[]) (fun _ => [WrR TE ea g (wTmo m.tmo s)])) := by
  obtain ⟨v, t, p, r, c, rfl, hv, ht, hp, hr, hc⟩ := hx
  have lv := hv.len
  have lt := ht.len
  have lp := hp.len
  have lr := hr.len
  have lc := hc.len
  obtain ⟨q, tc, sg, rfl, hq, htc, hs⟩ := ht
  have ls := hs.len
  have lq := hq.len
  have ltc := htc.len
  refine g_enter (env := [(0, .agg (List.toArray [.pointer (some ⟨g, 0, none⟩)])), (1, .agg (List.toArray (.int .i64 m.kind :: (v ++ ((.int .i64 m.tmo.epoch :: .int .i64 m.tmo.round :: (q ++ (tc ++ sg))) ++ (p ++ (dc m.wantFrom ++ (dc m.wantBlock ++ (r ++ c)))))))))]) Tryd.func59 rfl h Tryd.ntmps59 rfl rfl ?_
  refine gc_seq ?_
  refine gc_region ?_
  refine gl_boxN (wt0 rfl) rfl ?_
  intro b2
  refine gl_boxN (wt0 rfl) rfl ?_
  intro b3
  refine gl_nil ?_
  refine gx_then ?_
  refine gc_seq ?_
  refine gc_region ?_
  refine gl_pure (wt0 rfl) (r_fieldAddr rfl Ty.fo_67_0) ?_
  refine gl_pure (wt0 rfl) (r_ld1 rfl Ty.row_3 (by repeat (first | exact Pick.here | apply Pick.there)) (by first | rfl | (simp only [List.getElem?_cons_succ, List.getElem?_cons_zero, List.cons_append, List.append_assoc, get_dc, Nat.reduceLeDiff, Nat.reduceSub, Nat.reduceAdd, Nat.le_refl, get_q lv, get_q lt, get_q lp, get_q lr, get_q lc, get_q ls, get_q lq, get_q ltc]; rfl))) ?_
  refine gl_nil ?_
  refine gx_then ?_
  refine gc_block ?_
  refine gc_seq ?_
  refine gc_region ?_
  refine gl_pure (wt0 rfl) (r_eql_int rfl rfl) ?_
  refine gl_pure (wt0 rfl) (r_assign (by conv => lhs; whnf)) ?_
  refine gl_nil ?_
  refine gx_then ?_
  refine gc_condF rfl (decide_eq_false (by omega)) ?_
  refine gc_seq ?_
  refine gc_region ?_
  refine gl_pure (wt0 rfl) (r_eql_int rfl rfl) ?_
  refine gl_pure (wt0 rfl) (r_assign (by conv => lhs; whnf)) ?_
  refine gl_nil ?_
  refine gx_then ?_
  refine gc_condT rfl (decide_eq_true (by omega)) ?_
  refine gc_seq ?_
  refine gc_region ?_
  refine gl_pure (wt0 rfl) (r_ldN rfl Ty.row_107 Ty.sz_107 (by repeat (first | exact Pick.here | apply Pick.there)) (by (simp only [List.drop_succ_cons, List.drop_zero, List.take_succ_cons, List.take_zero, List.cons_append, List.nil_append, List.append_assoc, drop_dc, drop_dc', take_dc, take_dc', Nat.reduceLeDiff, Nat.reduceSub, Nat.reduceAdd, Nat.le_refl, List.length_cons, List.length_append, List.length_nil, dc_length, List.drop_nil, List.take_nil, List.append_nil, List.length_map, List.length_replicate, drop_q lv, drop_q' lv, take_q lv, take_q' lv, lv, drop_q lt, drop_q' lt, take_q lt, take_q' lt, lt, drop_q lp, drop_q' lp, take_q lp, take_q' lp, lp, drop_q lr, drop_q' lr, take_q lr, take_q' lr, lr, drop_q lc, drop_q' lc, take_q lc, take_q' lc, lc, drop_q ls, drop_q' ls, take_q ls, take_q' ls, ls, drop_q lq, drop_q' lq, take_q lq, take_q' lq, lq, drop_q ltc, drop_q' ltc, take_q ltc, take_q' ltc, ltc]; first | done | rfl)) (by first | rfl | (simp only [List.drop_succ_cons, List.drop_zero, List.take_succ_cons, List.take_zero, List.cons_append, List.nil_append, List.append_assoc, drop_dc, drop_dc', take_dc, take_dc', Nat.reduceLeDiff, Nat.reduceSub, Nat.reduceAdd, Nat.le_refl, List.length_cons, List.length_append, List.length_nil, dc_length, List.drop_nil, List.take_nil, List.append_nil, List.length_map, List.length_replicate, drop_q lv, drop_q' lv, take_q lv, take_q' lv, lv, drop_q lt, drop_q' lt, take_q lt, take_q' lt, lt, drop_q lp, drop_q' lp, take_q lp, take_q' lp, lp, drop_q lr, drop_q' lr, take_q lr, take_q' lr, lr, drop_q lc, drop_q' lc, take_q lc, take_q' lc, lc, drop_q ls, drop_q' ls, take_q ls, take_q' ls, ls, drop_q lq, drop_q' lq, take_q lq, take_q' lq, lq, drop_q ltc, drop_q' ltc, take_q ltc, take_q' ltc, ltc]; first | done | omega))) ?_
  refine gl_pure (wt0 rfl) (r_fieldAddr rfl Ty.fo_67_2) ?_
  refine gl_pure (wt0 rfl) (r_fieldAddr rfl Ty.fo_56_0) ?_
  refine gl_pure (wt0 rfl) (r_ld1 rfl Ty.row_3 (by repeat (first | exact Pick.here | apply Pick.there)) (by first | rfl | (simp only [List.getElem?_cons_succ, List.getElem?_cons_zero, List.cons_append, List.append_assoc, get_dc, Nat.reduceLeDiff, Nat.reduceSub, Nat.reduceAdd, Nat.le_refl, get_q lv, get_q lt, get_q lp, get_q lr, get_q lc, get_q ls, get_q lq, get_q ltc]; rfl))) ?_
  refine gl_pure (wt0 rfl) (r_fieldAddr rfl Ty.fo_67_2) ?_
  refine gl_pure (wt0 rfl) (r_fieldAddr rfl Ty.fo_56_1) ?_
  refine gl_pure (wt0 rfl) (r_ld1 rfl Ty.row_3 (by repeat (first | exact Pick.here | apply Pick.there)) (by first | rfl | (simp only [List.getElem?_cons_succ, List.getElem?_cons_zero, List.cons_append, List.append_assoc, get_dc, Nat.reduceLeDiff, Nat.reduceSub, Nat.reduceAdd, Nat.le_refl, get_q lv, get_q lt, get_q lp, get_q lr, get_q lc, get_q ls, get_q lq, get_q ltc]; rfl))) ?_
  refine gl_call (wt0 rfl) (e_call Ty.call_86 rfl) (by repeat (first | exact Sel.nil | (apply Sel.cons; · (repeat (first | exact Pick.here | apply Pick.there))))) (fun w1 F1 F2 h1 h2 hd hst => at_ok h1 (hE.mv hst.still) (by omega)) ?_
  intro _
  refine gl_nil ?_
  refine gx_then ?_
  refine gc_seq ?_
  refine gc_region ?_
  refine gl_pure (wt0 rfl) (r_ldN rfl Ty.row_107 Ty.sz_107 (by repeat (first | exact Pick.here | apply Pick.there)) (by (simp only [List.drop_succ_cons, List.drop_zero, List.take_succ_cons, List.take_zero, List.cons_append, List.nil_append, List.append_assoc, drop_dc, drop_dc', take_dc, take_dc', Nat.reduceLeDiff, Nat.reduceSub, Nat.reduceAdd, Nat.le_refl, List.length_cons, List.length_append, List.length_nil, dc_length, List.drop_nil, List.take_nil, List.append_nil, List.length_map, List.length_replicate, drop_q lv, drop_q' lv, take_q lv, take_q' lv, lv, drop_q lt, drop_q' lt, take_q lt, take_q' lt, lt, drop_q lp, drop_q' lp, take_q lp, take_q' lp, lp, drop_q lr, drop_q' lr, take_q lr, take_q' lr, lr, drop_q lc, drop_q' lc, take_q lc, take_q' lc, lc, drop_q ls, drop_q' ls, take_q ls, take_q' ls, ls, drop_q lq, drop_q' lq, take_q lq, take_q' lq, lq, drop_q ltc, drop_q' ltc, take_q ltc, take_q' ltc, ltc]; first | done | rfl)) (by first | rfl | (simp only [List.drop_succ_cons, List.drop_zero, List.take_succ_cons, List.take_zero, List.cons_append, List.nil_append, List.append_assoc, drop_dc, drop_dc', take_dc, take_dc', Nat.reduceLeDiff, Nat.reduceSub, Nat.reduceAdd, Nat.le_refl, List.length_cons, List.length_append, List.length_nil, dc_length, List.drop_nil, List.take_nil, List.append_nil, List.length_map, List.length_replicate, drop_q lv, drop_q' lv, take_q lv, take_q' lv, lv, drop_q lt, drop_q' lt, take_q lt, take_q' lt, lt, drop_q lp, drop_q' lp, take_q lp, take_q' lp, lp, drop_q lr, drop_q' lr, take_q lr, take_q' lr, lr, drop_q lc, drop_q' lc, take_q lc, take_q' lc, lc, drop_q ls, drop_q' ls, take_q ls, take_q' ls, ls, drop_q lq, drop_q' lq, take_q lq, take_q' lq, lq, drop_q ltc, drop_q' ltc, take_q ltc, take_q' ltc, ltc]; first | done | omega))) ?_
  refine gl_pure (wt0 rfl) (r_fieldAddr rfl Ty.fo_67_2) ?_
  refine gl_pure (wt0 rfl) (r_fieldAddr rfl Ty.fo_56_2) ?_
  refine gl_pure (wt0 rfl) (r_ldN rfl Ty.row_26 Ty.sz_26 (by repeat (first | exact Pick.here | apply Pick.there)) (by (simp only [List.drop_succ_cons, List.drop_zero, List.take_succ_cons, List.take_zero, List.cons_append, List.nil_append, List.append_assoc, drop_dc, drop_dc', take_dc, take_dc', Nat.reduceLeDiff, Nat.reduceSub, Nat.reduceAdd, Nat.le_refl, List.length_cons, List.length_append, List.length_nil, dc_length, List.drop_nil, List.take_nil, List.append_nil, List.length_map, List.length_replicate, drop_q lv, drop_q' lv, take_q lv, take_q' lv, lv, drop_q lt, drop_q' lt, take_q lt, take_q' lt, lt, drop_q lp, drop_q' lp, take_q lp, take_q' lp, lp, drop_q lr, drop_q' lr, take_q lr, take_q' lr, lr, drop_q lc, drop_q' lc, take_q lc, take_q' lc, lc, drop_q ls, drop_q' ls, take_q ls, take_q' ls, ls, drop_q lq, drop_q' lq, take_q lq, take_q' lq, lq, drop_q ltc, drop_q' ltc, take_q ltc, take_q' ltc, ltc]; first | done | rfl)) (by first | rfl | (simp only [List.drop_succ_cons, List.drop_zero, List.take_succ_cons, List.take_zero, List.cons_append, List.nil_append, List.append_assoc, drop_dc, drop_dc', take_dc, take_dc', Nat.reduceLeDiff, Nat.reduceSub, Nat.reduceAdd, Nat.le_refl, List.length_cons, List.length_append, List.length_nil, dc_length, List.drop_nil, List.take_nil, List.append_nil, List.length_map, List.length_replicate, drop_q lv, drop_q' lv, take_q lv, take_q' lv, lv, drop_q lt, drop_q' lt, take_q lt, take_q' lt, lt, drop_q lp, drop_q' lp, take_q lp, take_q' lp, lp, drop_q lr, drop_q' lr, take_q lr, take_q' lr, lr, drop_q lc, drop_q' lc, take_q lc, take_q' lc, lc, drop_q ls, drop_q' ls, take_q ls, take_q' ls, ls, drop_q lq, drop_q' lq, take_q lq, take_q' lq, lq, drop_q ltc, drop_q' ltc, take_q ltc, take_q' ltc, ltc]; first | done | omega))) ?_
  refine gl_call (wt0 rfl) (e_call Ty.call_88 rfl) (by repeat (first | exact Sel.nil | (apply Sel.cons; · (repeat (first | exact Pick.here | apply Pick.there))))) (fun w1 F1 F2 h1 h2 hd hst => qc_ok h1 (hE.mv hst.still) (hq.mv hst.still) (by have e0 := wAt_len m.tmo.epoch m.tmo.round s; omega)) ?_
  intro _
  refine gl_nil ?_
  refine gx_then ?_
  refine gc_seq ?_
  refine gc_region ?_
  refine gl_pure (wt0 rfl) (r_ldN rfl Ty.row_107 Ty.sz_107 (by repeat (first | exact Pick.here | apply Pick.there)) (by (simp only [List.drop_succ_cons, List.drop_zero, List.take_succ_cons, List.take_zero, List.cons_append, List.nil_append, List.append_assoc, drop_dc, drop_dc', take_dc, take_dc', Nat.reduceLeDiff, Nat.reduceSub, Nat.reduceAdd, Nat.le_refl, List.length_cons, List.length_append, List.length_nil, dc_length, List.drop_nil, List.take_nil, List.append_nil, List.length_map, List.length_replicate, drop_q lv, drop_q' lv, take_q lv, take_q' lv, lv, drop_q lt, drop_q' lt, take_q lt, take_q' lt, lt, drop_q lp, drop_q' lp, take_q lp, take_q' lp, lp, drop_q lr, drop_q' lr, take_q lr, take_q' lr, lr, drop_q lc, drop_q' lc, take_q lc, take_q' lc, lc, drop_q ls, drop_q' ls, take_q ls, take_q' ls, ls, drop_q lq, drop_q' lq, take_q lq, take_q' lq, lq, drop_q ltc, drop_q' ltc, take_q ltc, take_q' ltc, ltc]; first | done | rfl)) (by first | rfl | (simp only [List.drop_succ_cons, List.drop_zero, List.take_succ_cons, List.take_zero, List.cons_append, List.nil_append, List.append_assoc, drop_dc, drop_dc', take_dc, take_dc', Nat.reduceLeDiff, Nat.reduceSub, Nat.reduceAdd, Nat.le_refl, List.length_cons, List.length_append, List.length_nil, dc_length, List.drop_nil, List.take_nil, List.append_nil, List.length_map, List.length_replicate, drop_q lv, drop_q' lv, take_q lv, take_q' lv, lv, drop_q lt, drop_q' lt, take_q lt, take_q' lt, lt, drop_q lp, drop_q' lp, take_q lp, take_q' lp, lp, drop_q lr, drop_q' lr, take_q lr, take_q' lr, lr, drop_q lc, drop_q' lc, take_q lc, take_q' lc, lc, drop_q ls, drop_q' ls, take_q ls, take_q' ls, ls, drop_q lq, drop_q' lq, take_q lq, take_q' lq, lq, drop_q ltc, drop_q' ltc, take_q ltc, take_q' ltc, ltc]; first | done | omega))) ?_
  refine gl_pure (wt0 rfl) (r_fieldAddr rfl Ty.fo_67_2) ?_
  refine gl_pure (wt0 rfl) (r_fieldAddr rfl Ty.fo_56_3) ?_
  refine gl_pure (wt0 rfl) (r_ldN rfl Ty.row_54 Ty.sz_54 (by repeat (first | exact Pick.here | apply Pick.there)) (by (simp only [List.drop_succ_cons, List.drop_zero, List.take_succ_cons, List.take_zero, List.cons_append, List.nil_append, List.append_assoc, drop_dc, drop_dc', take_dc, take_dc', Nat.reduceLeDiff, Nat.reduceSub, Nat.reduceAdd, Nat.le_refl, List.length_cons, List.length_append, List.length_nil, dc_length, List.drop_nil, List.take_nil, List.append_nil, List.length_map, List.length_replicate, drop_q lv, drop_q' lv, take_q lv, take_q' lv, lv, drop_q lt, drop_q' lt, take_q lt, take_q' lt, lt, drop_q lp, drop_q' lp, take_q lp, take_q' lp, lp, drop_q lr, drop_q' lr, take_q lr, take_q' lr, lr, drop_q lc, drop_q' lc, take_q lc, take_q' lc, lc, drop_q ls, drop_q' ls, take_q ls, take_q' ls, ls, drop_q lq, drop_q' lq, take_q lq, take_q' lq, lq, drop_q ltc, drop_q' ltc, take_q ltc, take_q' ltc, ltc]; first | done | rfl)) (by first | rfl | (simp only [List.drop_succ_cons, List.drop_zero, List.take_succ_cons, List.take_zero, List.cons_append, List.nil_append, List.append_assoc, drop_dc, drop_dc', take_dc, take_dc', Nat.reduceLeDiff, Nat.reduceSub, Nat.reduceAdd, Nat.le_refl, List.length_cons, List.length_append, List.length_nil, dc_length, List.drop_nil, List.take_nil, List.append_nil, List.length_map, List.length_replicate, drop_q lv, drop_q' lv, take_q lv, take_q' lv, lv, drop_q lt, drop_q' lt, take_q lt, take_q' lt, lt, drop_q lp, drop_q' lp, take_q lp, take_q' lp, lp, drop_q lr, drop_q' lr, take_q lr, take_q' lr, lr, drop_q lc, drop_q' lc, take_q lc, take_q' lc, lc, drop_q ls, drop_q' ls, take_q ls, take_q' ls, ls, drop_q lq, drop_q' lq, take_q lq, take_q' lq, lq, drop_q ltc, drop_q' ltc, take_q ltc, take_q' ltc, ltc]; first | done | omega))) ?_
  refine gl_call (wt0 rfl) (e_call Ty.call_103 rfl) (by repeat (first | exact Sel.nil | (apply Sel.cons; · (repeat (first | exact Pick.here | apply Pick.there))))) (fun w1 F1 F2 h1 h2 hd hst => tc_ok h1 (hE.mv hst.still) (htc.mv hst.still) (by have e0 := wAt_len m.tmo.epoch m.tmo.round s; have e1 := wQC_len m.tmo.high (wAt m.tmo.epoch m.tmo.round s); omega)) ?_
  intro _
  refine gl_nil ?_
  refine gx_then ?_
  refine gc_region ?_
  refine gl_pure (wt0 rfl) (r_ldN rfl Ty.row_107 Ty.sz_107 (by repeat (first | exact Pick.here | apply Pick.there)) (by (simp only [List.drop_succ_cons, List.drop_zero, List.take_succ_cons, List.take_zero, List.cons_append, List.nil_append, List.append_assoc, drop_dc, drop_dc', take_dc, take_dc', Nat.reduceLeDiff, Nat.reduceSub, Nat.reduceAdd, Nat.le_refl, List.length_cons, List.length_append, List.length_nil, dc_length, List.drop_nil, List.take_nil, List.append_nil, List.length_map, List.length_replicate, drop_q lv, drop_q' lv, take_q lv, take_q' lv, lv, drop_q lt, drop_q' lt, take_q lt, take_q' lt, lt, drop_q lp, drop_q' lp, take_q lp, take_q' lp, lp, drop_q lr, drop_q' lr, take_q lr, take_q' lr, lr, drop_q lc, drop_q' lc, take_q lc, take_q' lc, lc, drop_q ls, drop_q' ls, take_q ls, take_q' ls, ls, drop_q lq, drop_q' lq, take_q lq, take_q' lq, lq, drop_q ltc, drop_q' ltc, take_q ltc, take_q' ltc, ltc]; first | done | rfl)) (by first | rfl | (simp only [List.drop_succ_cons, List.drop_zero, List.take_succ_cons, List.take_zero, List.cons_append, List.nil_append, List.append_assoc, drop_dc, drop_dc', take_dc, take_dc', Nat.reduceLeDiff, Nat.reduceSub, Nat.reduceAdd, Nat.le_refl, List.length_cons, List.length_append, List.length_nil, dc_length, List.drop_nil, List.take_nil, List.append_nil, List.length_map, List.length_replicate, drop_q lv, drop_q' lv, take_q lv, take_q' lv, lv, drop_q lt, drop_q' lt, take_q lt, take_q' lt, lt, drop_q lp, drop_q' lp, take_q lp, take_q' lp, lp, drop_q lr, drop_q' lr, take_q lr, take_q' lr, lr, drop_q lc, drop_q' lc, take_q lc, take_q' lc, lc, drop_q ls, drop_q' ls, take_q ls, take_q' ls, ls, drop_q lq, drop_q' lq, take_q lq, take_q' lq, lq, drop_q ltc, drop_q' ltc, take_q ltc, take_q' ltc, ltc]; first | done | omega))) ?_
  refine gl_pure (wt0 rfl) (r_fieldAddr rfl Ty.fo_67_2) ?_
  refine gl_pure (wt0 rfl) (r_fieldAddr rfl Ty.fo_56_4) ?_
  refine gl_pure (wt0 rfl) (r_ldN rfl Ty.row_49 Ty.sz_49 (by repeat (first | exact Pick.here | apply Pick.there)) (by (simp only [List.drop_succ_cons, List.drop_zero, List.take_succ_cons, List.take_zero, List.cons_append, List.nil_append, List.append_assoc, drop_dc, drop_dc', take_dc, take_dc', Nat.reduceLeDiff, Nat.reduceSub, Nat.reduceAdd, Nat.le_refl, List.length_cons, List.length_append, List.length_nil, dc_length, List.drop_nil, List.take_nil, List.append_nil, List.length_map, List.length_replicate, drop_q lv, drop_q' lv, take_q lv, take_q' lv, lv, drop_q lt, drop_q' lt, take_q lt, take_q' lt, lt, drop_q lp, drop_q' lp, take_q lp, take_q' lp, lp, drop_q lr, drop_q' lr, take_q lr, take_q' lr, lr, drop_q lc, drop_q' lc, take_q lc, take_q' lc, lc, drop_q ls, drop_q' ls, take_q ls, take_q' ls, ls, drop_q lq, drop_q' lq, take_q lq, take_q' lq, lq, drop_q ltc, drop_q' ltc, take_q ltc, take_q' ltc, ltc]; first | done | rfl)) (by first | rfl | (simp only [List.drop_succ_cons, List.drop_zero, List.take_succ_cons, List.take_zero, List.cons_append, List.nil_append, List.append_assoc, drop_dc, drop_dc', take_dc, take_dc', Nat.reduceLeDiff, Nat.reduceSub, Nat.reduceAdd, Nat.le_refl, List.length_cons, List.length_append, List.length_nil, dc_length, List.drop_nil, List.take_nil, List.append_nil, List.length_map, List.length_replicate, drop_q lv, drop_q' lv, take_q lv, take_q' lv, lv, drop_q lt, drop_q' lt, take_q lt, take_q' lt, lt, drop_q lp, drop_q' lp, take_q lp, take_q' lp, lp, drop_q lr, drop_q' lr, take_q lr, take_q' lr, lr, drop_q lc, drop_q' lc, take_q lc, take_q' lc, lc, drop_q ls, drop_q' ls, take_q ls, take_q' ls, ls, drop_q lq, drop_q' lq, take_q lq, take_q' lq, lq, drop_q ltc, drop_q' ltc, take_q ltc, take_q' ltc, ltc]; first | done | omega))) ?_
  refine gl_call (wt0 rfl) (e_call Ty.call_102 rfl) (by repeat (first | exact Sel.nil | (apply Sel.cons; · (repeat (first | exact Pick.here | apply Pick.there))))) (fun w1 F1 F2 h1 h2 hd hst => signed_ok h1 (hE.mv hst.still) (hs.mv hst.still) (by have e0 := wAt_len m.tmo.epoch m.tmo.round s; have e1 := wQC_len m.tmo.high (wAt m.tmo.epoch m.tmo.round s); have e2 := wTC_len m.tmo.last (wQC m.tmo.high (wAt m.tmo.epoch m.tmo.round s)); omega)) ?_
  intro _
  refine gl_nil ?_
  refine gx_block_normal ?_
  refine gx_ret0' rfl ?_
  exact fun w' hw => ⟨(), rfl, hw.sel (by repeat (first | exact Sel.nil | (apply Sel.cons; · (repeat (first | exact Pick.here | apply Pick.there)))))⟩

set_option maxHeartbeats 400000 in
theorem body3_ok {w : World} {F : Nat → Prop} {g TE : Nat} {ea : Nat → Addr} {s : WS} {cs : List Value} {m : Msg} (h : stars [WrR TE ea g s] w F) {es : List Nat} [Has es 1] (hE : GErr es w (fun k => ¬ F k) TE ea) (hx : RdMsg w (fun k => ¬ F k) cs m) (hk : m.kind = 3) (hb : s.bs.length + 17914 ≤ 1099511627776) :
    Calls Tryd.prog 59 #[.agg (List.toArray [.pointer (some ⟨g, 0, none⟩)]), .agg cs.toArray] w (Post w F (fun _ : Unit => .tuple #[]) (fun _ => [WrR TE ea g (wProp m.prop s)])) := by
  obtain ⟨v, t, p, r, c, rfl, hv, ht, hp, hr, hc⟩ := hx
  have lv := hv.len
  have lt := ht.len
  have lp := hp.len
  have lr := hr.len
  have lc := hc.len
  obtain ⟨bc, tc, sg, rfl, hbc, htc, hs⟩ := hp
  have ls := hs.len
  have lb := hbc.len
  have ltc := htc.len
  refine g_enter (env := [(0, .agg (List.toArray [.pointer (some ⟨g, 0, none⟩)])), (1, .agg (List.toArray (.int .i64 m.kind :: (v ++ (t ++ ((bc ++ (tc ++ sg)) ++ (dc m.wantFrom ++ (dc m.wantBlock ++ (r ++ c)))))))))]) Tryd.func59 rfl h Tryd.ntmps59 rfl rfl ?_
  refine gc_seq ?_
  refine gc_region ?_
  refine gl_boxN (wt0 rfl) rfl ?_
  intro b2
  refine gl_boxN (wt0 rfl) rfl ?_
  intro b3
  refine gl_nil ?_
  refine gx_then ?_
  refine gc_seq ?_
  refine gc_region ?_
  refine gl_pure (wt0 rfl) (r_fieldAddr rfl Ty.fo_67_0) ?_
  refine gl_pure (wt0 rfl) (r_ld1 rfl Ty.row_3 (by repeat (first | exact Pick.here | apply Pick.there)) (by first | rfl | (simp only [List.getElem?_cons_succ, List.getElem?_cons_zero, List.cons_append, List.append_assoc, get_dc, Nat.reduceLeDiff, Nat.reduceSub, Nat.reduceAdd, Nat.le_refl, get_q lv, get_q lt, get_q lp, get_q lr, get_q lc, get_q ls, get_q lb, get_q ltc]; rfl))) ?_
  refine gl_nil ?_
  refine gx_then ?_
  refine gc_block ?_
  refine gc_seq ?_
  refine gc_region ?_
  refine gl_pure (wt0 rfl) (r_eql_int rfl rfl) ?_
  refine gl_pure (wt0 rfl) (r_assign (by conv => lhs; whnf)) ?_
  refine gl_nil ?_
  refine gx_then ?_
  refine gc_condF rfl (decide_eq_false (by omega)) ?_
  refine gc_seq ?_
  refine gc_region ?_
  refine gl_pure (wt0 rfl) (r_eql_int rfl rfl) ?_
  refine gl_pure (wt0 rfl) (r_assign (by conv => lhs; whnf)) ?_
  refine gl_nil ?_
  refine gx_then ?_
  refine gc_condF rfl (decide_eq_false (by omega)) ?_
  refine gc_seq ?_
  refine gc_region ?_
  refine gl_pure (wt0 rfl) (r_eql_int rfl rfl) ?_
  refine gl_pure (wt0 rfl) (r_assign (by conv => lhs; whnf)) ?_
  refine gl_nil ?_
  refine gx_then ?_
  refine gc_condT rfl (decide_eq_true (by omega)) ?_
  refine gc_seq ?_
  refine gc_region ?_
  refine gl_pure (wt0 rfl) (r_ldN rfl Ty.row_107 Ty.sz_107 (by repeat (first | exact Pick.here | apply Pick.there)) (by (simp only [List.drop_succ_cons, List.drop_zero, List.take_succ_cons, List.take_zero, List.cons_append, List.nil_append, List.append_assoc, drop_dc, drop_dc', take_dc, take_dc', Nat.reduceLeDiff, Nat.reduceSub, Nat.reduceAdd, Nat.le_refl, List.length_cons, List.length_append, List.length_nil, dc_length, List.drop_nil, List.take_nil, List.append_nil, List.length_map, List.length_replicate, drop_q lv, drop_q' lv, take_q lv, take_q' lv, lv, drop_q lt, drop_q' lt, take_q lt, take_q' lt, lt, drop_q lp, drop_q' lp, take_q lp, take_q' lp, lp, drop_q lr, drop_q' lr, take_q lr, take_q' lr, lr, drop_q lc, drop_q' lc, take_q lc, take_q' lc, lc, drop_q ls, drop_q' ls, take_q ls, take_q' ls, ls, drop_q lb, drop_q' lb, take_q lb, take_q' lb, lb, drop_q ltc, drop_q' ltc, take_q ltc, take_q' ltc, ltc]; first | done | rfl)) (by first | rfl | (simp only [List.drop_succ_cons, List.drop_zero, List.take_succ_cons, List.take_zero, List.cons_append, List.nil_append, List.append_assoc, drop_dc, drop_dc', take_dc, take_dc', Nat.reduceLeDiff, Nat.reduceSub, Nat.reduceAdd, Nat.le_refl, List.length_cons, List.length_append, List.length_nil, dc_length, List.drop_nil, List.take_nil, List.append_nil, List.length_map, List.length_replicate, drop_q lv, drop_q' lv, take_q lv, take_q' lv, lv, drop_q lt, drop_q' lt, take_q lt, take_q' lt, lt, drop_q lp, drop_q' lp, take_q lp, take_q' lp, lp, drop_q lr, drop_q' lr, take_q lr, take_q' lr, lr, drop_q lc, drop_q' lc, take_q lc, take_q' lc, lc, drop_q ls, drop_q' ls, take_q ls, take_q' ls, ls, drop_q lb, drop_q' lb, take_q lb, take_q' lb, lb, drop_q ltc, drop_q' ltc, take_q ltc, take_q' ltc, ltc]; first | done | omega))) ?_
  refine gl_pure (wt0 rfl) (r_fieldAddr rfl Ty.fo_67_3) ?_
  refine gl_pure (wt0 rfl) (r_fieldAddr rfl Ty.fo_58_0) ?_
  refine gl_pure (wt0 rfl) (r_ldN rfl Ty.row_30 Ty.sz_30 (by repeat (first | exact Pick.here | apply Pick.there)) (by (simp only [List.drop_succ_cons, List.drop_zero, List.take_succ_cons, List.take_zero, List.cons_append, List.nil_append, List.append_assoc, drop_dc, drop_dc', take_dc, take_dc', Nat.reduceLeDiff, Nat.reduceSub, Nat.reduceAdd, Nat.le_refl, List.length_cons, List.length_append, List.length_nil, dc_length, List.drop_nil, List.take_nil, List.append_nil, List.length_map, List.length_replicate, drop_q lv, drop_q' lv, take_q lv, take_q' lv, lv, drop_q lt, drop_q' lt, take_q lt, take_q' lt, lt, drop_q lp, drop_q' lp, take_q lp, take_q' lp, lp, drop_q lr, drop_q' lr, take_q lr, take_q' lr, lr, drop_q lc, drop_q' lc, take_q lc, take_q' lc, lc, drop_q ls, drop_q' ls, take_q ls, take_q' ls, ls, drop_q lb, drop_q' lb, take_q lb, take_q' lb, lb, drop_q ltc, drop_q' ltc, take_q ltc, take_q' ltc, ltc]; first | done | rfl)) (by first | rfl | (simp only [List.drop_succ_cons, List.drop_zero, List.take_succ_cons, List.take_zero, List.cons_append, List.nil_append, List.append_assoc, drop_dc, drop_dc', take_dc, take_dc', Nat.reduceLeDiff, Nat.reduceSub, Nat.reduceAdd, Nat.le_refl, List.length_cons, List.length_append, List.length_nil, dc_length, List.drop_nil, List.take_nil, List.append_nil, List.length_map, List.length_replicate, drop_q lv, drop_q' lv, take_q lv, take_q' lv, lv, drop_q lt, drop_q' lt, take_q lt, take_q' lt, lt, drop_q lp, drop_q' lp, take_q lp, take_q' lp, lp, drop_q lr, drop_q' lr, take_q lr, take_q' lr, lr, drop_q lc, drop_q' lc, take_q lc, take_q' lc, lc, drop_q ls, drop_q' ls, take_q ls, take_q' ls, ls, drop_q lb, drop_q' lb, take_q lb, take_q' lb, lb, drop_q ltc, drop_q' ltc, take_q ltc, take_q' ltc, ltc]; first | done | omega))) ?_
  refine gl_call (wt0 rfl) (e_call Ty.call_45 rfl) (by repeat (first | exact Sel.nil | (apply Sel.cons; · (repeat (first | exact Pick.here | apply Pick.there))))) (fun w1 F1 F2 h1 h2 hd hst => block_ok h1 (hE.mv hst.still) (hbc.mv hst.still) (by omega)) ?_
  intro _
  refine gl_nil ?_
  refine gx_then ?_
  refine gc_seq ?_
  refine gc_region ?_
  refine gl_pure (wt0 rfl) (r_ldN rfl Ty.row_107 Ty.sz_107 (by repeat (first | exact Pick.here | apply Pick.there)) (by (simp only [List.drop_succ_cons, List.drop_zero, List.take_succ_cons, List.take_zero, List.cons_append, List.nil_append, List.append_assoc, drop_dc, drop_dc', take_dc, take_dc', Nat.reduceLeDiff, Nat.reduceSub, Nat.reduceAdd, Nat.le_refl, List.length_cons, List.length_append, List.length_nil, dc_length, List.drop_nil, List.take_nil, List.append_nil, List.length_map, List.length_replicate, drop_q lv, drop_q' lv, take_q lv, take_q' lv, lv, drop_q lt, drop_q' lt, take_q lt, take_q' lt, lt, drop_q lp, drop_q' lp, take_q lp, take_q' lp, lp, drop_q lr, drop_q' lr, take_q lr, take_q' lr, lr, drop_q lc, drop_q' lc, take_q lc, take_q' lc, lc, drop_q ls, drop_q' ls, take_q ls, take_q' ls, ls, drop_q lb, drop_q' lb, take_q lb, take_q' lb, lb, drop_q ltc, drop_q' ltc, take_q ltc, take_q' ltc, ltc]; first | done | rfl)) (by first | rfl | (simp only [List.drop_succ_cons, List.drop_zero, List.take_succ_cons, List.take_zero, List.cons_append, List.nil_append, List.append_assoc, drop_dc, drop_dc', take_dc, take_dc', Nat.reduceLeDiff, Nat.reduceSub, Nat.reduceAdd, Nat.le_refl, List.length_cons, List.length_append, List.length_nil, dc_length, List.drop_nil, List.take_nil, List.append_nil, List.length_map, List.length_replicate, drop_q lv, drop_q' lv, take_q lv, take_q' lv, lv, drop_q lt, drop_q' lt, take_q lt, take_q' lt, lt, drop_q lp, drop_q' lp, take_q lp, take_q' lp, lp, drop_q lr, drop_q' lr, take_q lr, take_q' lr, lr, drop_q lc, drop_q' lc, take_q lc, take_q' lc, lc, drop_q ls, drop_q' ls, take_q ls, take_q' ls, ls, drop_q lb, drop_q' lb, take_q lb, take_q' lb, lb, drop_q ltc, drop_q' ltc, take_q ltc, take_q' ltc, ltc]; first | done | omega))) ?_
  refine gl_pure (wt0 rfl) (r_fieldAddr rfl Ty.fo_67_3) ?_
  refine gl_pure (wt0 rfl) (r_fieldAddr rfl Ty.fo_58_1) ?_
  refine gl_pure (wt0 rfl) (r_ldN rfl Ty.row_54 Ty.sz_54 (by repeat (first | exact Pick.here | apply Pick.there)) (by (simp only [List.drop_succ_cons, List.drop_zero, List.take_succ_cons, List.take_zero, List.cons_append, List.nil_append, List.append_assoc, drop_dc, drop_dc', take_dc, take_dc', Nat.reduceLeDiff, Nat.reduceSub, Nat.reduceAdd, Nat.le_refl, List.length_cons, List.length_append, List.length_nil, dc_length, List.drop_nil, List.take_nil, List.append_nil, List.length_map, List.length_replicate, drop_q lv, drop_q' lv, take_q lv, take_q' lv, lv, drop_q lt, drop_q' lt, take_q lt, take_q' lt, lt, drop_q lp, drop_q' lp, take_q lp, take_q' lp, lp, drop_q lr, drop_q' lr, take_q lr, take_q' lr, lr, drop_q lc, drop_q' lc, take_q lc, take_q' lc, lc, drop_q ls, drop_q' ls, take_q ls, take_q' ls, ls, drop_q lb, drop_q' lb, take_q lb, take_q' lb, lb, drop_q ltc, drop_q' ltc, take_q ltc, take_q' ltc, ltc]; first | done | rfl)) (by first | rfl | (simp only [List.drop_succ_cons, List.drop_zero, List.take_succ_cons, List.take_zero, List.cons_append, List.nil_append, List.append_assoc, drop_dc, drop_dc', take_dc, take_dc', Nat.reduceLeDiff, Nat.reduceSub, Nat.reduceAdd, Nat.le_refl, List.length_cons, List.length_append, List.length_nil, dc_length, List.drop_nil, List.take_nil, List.append_nil, List.length_map, List.length_replicate, drop_q lv, drop_q' lv, take_q lv, take_q' lv, lv, drop_q lt, drop_q' lt, take_q lt, take_q' lt, lt, drop_q lp, drop_q' lp, take_q lp, take_q' lp, lp, drop_q lr, drop_q' lr, take_q lr, take_q' lr, lr, drop_q lc, drop_q' lc, take_q lc, take_q' lc, lc, drop_q ls, drop_q' ls, take_q ls, take_q' ls, ls, drop_q lb, drop_q' lb, take_q lb, take_q' lb, lb, drop_q ltc, drop_q' ltc, take_q ltc, take_q' ltc, ltc]; first | done | omega))) ?_
  refine gl_call (wt0 rfl) (e_call Ty.call_103 rfl) (by repeat (first | exact Sel.nil | (apply Sel.cons; · (repeat (first | exact Pick.here | apply Pick.there))))) (fun w1 F1 F2 h1 h2 hd hst => tc_ok h1 (hE.mv hst.still) (htc.mv hst.still) (by have e0 := wBlock_len m.prop.block s; omega)) ?_
  intro _
  refine gl_nil ?_
  refine gx_then ?_
  refine gc_region ?_
  refine gl_pure (wt0 rfl) (r_ldN rfl Ty.row_107 Ty.sz_107 (by repeat (first | exact Pick.here | apply Pick.there)) (by (simp only [List.drop_succ_cons, List.drop_zero, List.take_succ_cons, List.take_zero, List.cons_append, List.nil_append, List.append_assoc, drop_dc, drop_dc', take_dc, take_dc', Nat.reduceLeDiff, Nat.reduceSub, Nat.reduceAdd, Nat.le_refl, List.length_cons, List.length_append, List.length_nil, dc_length, List.drop_nil, List.take_nil, List.append_nil, List.length_map, List.length_replicate, drop_q lv, drop_q' lv, take_q lv, take_q' lv, lv, drop_q lt, drop_q' lt, take_q lt, take_q' lt, lt, drop_q lp, drop_q' lp, take_q lp, take_q' lp, lp, drop_q lr, drop_q' lr, take_q lr, take_q' lr, lr, drop_q lc, drop_q' lc, take_q lc, take_q' lc, lc, drop_q ls, drop_q' ls, take_q ls, take_q' ls, ls, drop_q lb, drop_q' lb, take_q lb, take_q' lb, lb, drop_q ltc, drop_q' ltc, take_q ltc, take_q' ltc, ltc]; first | done | rfl)) (by first | rfl | (simp only [List.drop_succ_cons, List.drop_zero, List.take_succ_cons, List.take_zero, List.cons_append, List.nil_append, List.append_assoc, drop_dc, drop_dc', take_dc, take_dc', Nat.reduceLeDiff, Nat.reduceSub, Nat.reduceAdd, Nat.le_refl, List.length_cons, List.length_append, List.length_nil, dc_length, List.drop_nil, List.take_nil, List.append_nil, List.length_map, List.length_replicate, drop_q lv, drop_q' lv, take_q lv, take_q' lv, lv, drop_q lt, drop_q' lt, take_q lt, take_q' lt, lt, drop_q lp, drop_q' lp, take_q lp, take_q' lp, lp, drop_q lr, drop_q' lr, take_q lr, take_q' lr, lr, drop_q lc, drop_q' lc, take_q lc, take_q' lc, lc, drop_q ls, drop_q' ls, take_q ls, take_q' ls, ls, drop_q lb, drop_q' lb, take_q lb, take_q' lb, lb, drop_q ltc, drop_q' ltc, take_q ltc, take_q' ltc, ltc]; first | done | omega))) ?_
  refine gl_pure (wt0 rfl) (r_fieldAddr rfl Ty.fo_67_3) ?_
  refine gl_pure (wt0 rfl) (r_fieldAddr rfl Ty.fo_58_2) ?_
  refine gl_pure (wt0 rfl) (r_ldN rfl Ty.row_49 Ty.sz_49 (by repeat (first | exact Pick.here | apply Pick.there)) (by (simp only [List.drop_succ_cons, List.drop_zero, List.take_succ_cons, List.take_zero, List.cons_append, List.nil_append, List.append_assoc, drop_dc, drop_dc', take_dc, take_dc', Nat.reduceLeDiff, Nat.reduceSub, Nat.reduceAdd, Nat.le_refl, List.length_cons, List.length_append, List.length_nil, dc_length, List.drop_nil, List.take_nil, List.append_nil, List.length_map, List.length_replicate, drop_q lv, drop_q' lv, take_q lv, take_q' lv, lv, drop_q lt, drop_q' lt, take_q lt, take_q' lt, lt, drop_q lp, drop_q' lp, take_q lp, take_q' lp, lp, drop_q lr, drop_q' lr, take_q lr, take_q' lr, lr, drop_q lc, drop_q' lc, take_q lc, take_q' lc, lc, drop_q ls, drop_q' ls, take_q ls, take_q' ls, ls, drop_q lb, drop_q' lb, take_q lb, take_q' lb, lb, drop_q ltc, drop_q' ltc, take_q ltc, take_q' ltc, ltc]; first | done | rfl)) (by first | rfl | (simp only [List.drop_succ_cons, List.drop_zero, List.take_succ_cons, List.take_zero, List.cons_append, List.nil_append, List.append_assoc, drop_dc, drop_dc', take_dc, take_dc', Nat.reduceLeDiff, Nat.reduceSub, Nat.reduceAdd, Nat.le_refl, List.length_cons, List.length_append, List.length_nil, dc_length, List.drop_nil, List.take_nil, List.append_nil, List.length_map, List.length_replicate, drop_q lv, drop_q' lv, take_q lv, take_q' lv, lv, drop_q lt, drop_q' lt, take_q lt, take_q' lt, lt, drop_q lp, drop_q' lp, take_q lp, take_q' lp, lp, drop_q lr, drop_q' lr, take_q lr, take_q' lr, lr, drop_q lc, drop_q' lc, take_q lc, take_q' lc, lc, drop_q ls, drop_q' ls, take_q ls, take_q' ls, ls, drop_q lb, drop_q' lb, take_q lb, take_q' lb, lb, drop_q ltc, drop_q' ltc, take_q ltc, take_q' ltc, ltc]; first | done | omega))) ?_
  refine gl_call (wt0 rfl) (e_call Ty.call_102 rfl) (by repeat (first | exact Sel.nil | (apply Sel.cons; · (repeat (first | exact Pick.here | apply Pick.there))))) (fun w1 F1 F2 h1 h2 hd hst => signed_ok h1 (hE.mv hst.still) (hs.mv hst.still) (by have e0 := wBlock_len m.prop.block s; have e1 := wTC_len m.prop.last (wBlock m.prop.block s); omega)) ?_
  intro _
  refine gl_nil ?_
  refine gx_block_normal ?_
  refine gx_ret0' rfl ?_
  exact fun w' hw => ⟨(), rfl, hw.sel (by repeat (first | exact Sel.nil | (apply Sel.cons; · (repeat (first | exact Pick.here | apply Pick.there)))))⟩

set_option maxHeartbeats 400000 in
theorem body4_ok {w : World} {F : Nat → Prop} {g TE : Nat} {ea : Nat → Addr} {s : WS} {cs : List Value} {m : Msg} (h : stars [WrR TE ea g s] w F) {es : List Nat} [Has es 1] (hE : GErr es w (fun k => ¬ F k) TE ea) (hx : RdMsg w (fun k => ¬ F k) cs m) (hk : m.kind = 4) (hb : s.bs.length + 32 ≤ 1099511627776) :
    Calls Tryd.prog 59 #[.agg (List.toArray [.pointer (some ⟨g, 0, none⟩)]), .agg cs.toArray] w (Post w F (fun _ : Unit => .tuple #[]) (fun _ => [WrR TE ea g (wDig m.wantBlock (wDig m.wantFrom s))])) := by
  obtain ⟨v, t, p, r, c, rfl, hv, ht, hp, hr, hc⟩ := hx
  have lv := hv.len
  have lt := ht.len
  have lp := hp.len
  have lr := hr.len
  have lc := hc.len
  refine g_enter (env := [(0, .agg (List.toArray [.pointer (some ⟨g, 0, none⟩)])), (1, .agg (List.toArray (.int .i64 m.kind :: (v ++ (t ++ (p ++ (dc m.wantFrom ++ (dc m.wantBlock ++ (r ++ c)))))))))]) Tryd.func59 rfl h Tryd.ntmps59 rfl rfl ?_
  refine gc_seq ?_
  refine gc_region ?_
  refine gl_boxN (wt0 rfl) rfl ?_
  intro b2
  refine gl_boxN (wt0 rfl) rfl ?_
  intro b3
  refine gl_nil ?_
  refine gx_then ?_
  refine gc_seq ?_
  refine gc_region ?_
  refine gl_pure (wt0 rfl) (r_fieldAddr rfl Ty.fo_67_0) ?_
  refine gl_pure (wt0 rfl) (r_ld1 rfl Ty.row_3 (by repeat (first | exact Pick.here | apply Pick.there)) (by first | rfl | (simp only [List.getElem?_cons_succ, List.getElem?_cons_zero, List.cons_append, List.append_assoc, get_dc, Nat.reduceLeDiff, Nat.reduceSub, Nat.reduceAdd, Nat.le_refl, get_q lv, get_q lt, get_q lp, get_q lr, get_q lc]; rfl))) ?_
  refine gl_nil ?_
  refine gx_then ?_
  refine gc_block ?_
  refine gc_seq ?_
  refine gc_region ?_
  refine gl_pure (wt0 rfl) (r_eql_int rfl rfl) ?_
  refine gl_pure (wt0 rfl) (r_assign (by conv => lhs; whnf)) ?_
  refine gl_nil ?_
  refine gx_then ?_
  refine gc_condF rfl (decide_eq_false (by omega)) ?_
  refine gc_seq ?_
  refine gc_region ?_
  refine gl_pure (wt0 rfl) (r_eql_int rfl rfl) ?_
  refine gl_pure (wt0 rfl) (r_assign (by conv => lhs; whnf)) ?_
  refine gl_nil ?_
  refine gx_then ?_
  refine gc_condF rfl (decide_eq_false (by omega)) ?_
  refine gc_seq ?_
  refine gc_region ?_
  refine gl_pure (wt0 rfl) (r_eql_int rfl rfl) ?_
  refine gl_pure (wt0 rfl) (r_assign (by conv => lhs; whnf)) ?_
  refine gl_nil ?_
  refine gx_then ?_
  refine gc_condF rfl (decide_eq_false (by omega)) ?_
  refine gc_seq ?_
  refine gc_region ?_
  refine gl_pure (wt0 rfl) (r_eql_int rfl rfl) ?_
  refine gl_pure (wt0 rfl) (r_assign (by conv => lhs; whnf)) ?_
  refine gl_nil ?_
  refine gx_then ?_
  refine gc_condT rfl (decide_eq_true (by omega)) ?_
  refine gc_seq ?_
  refine gc_region ?_
  refine gl_pure (wt0 rfl) (r_ldN rfl Ty.row_107 Ty.sz_107 (by repeat (first | exact Pick.here | apply Pick.there)) (by (simp only [List.drop_succ_cons, List.drop_zero, List.take_succ_cons, List.take_zero, List.cons_append, List.nil_append, List.append_assoc, drop_dc, drop_dc', take_dc, take_dc', Nat.reduceLeDiff, Nat.reduceSub, Nat.reduceAdd, Nat.le_refl, List.length_cons, List.length_append, List.length_nil, dc_length, List.drop_nil, List.take_nil, List.append_nil, List.length_map, List.length_replicate, drop_q lv, drop_q' lv, take_q lv, take_q' lv, lv, drop_q lt, drop_q' lt, take_q lt, take_q' lt, lt, drop_q lp, drop_q' lp, take_q lp, take_q' lp, lp, drop_q lr, drop_q' lr, take_q lr, take_q' lr, lr, drop_q lc, drop_q' lc, take_q lc, take_q' lc, lc]; first | done | rfl)) (by first | rfl | (simp only [List.drop_succ_cons, List.drop_zero, List.take_succ_cons, List.take_zero, List.cons_append, List.nil_append, List.append_assoc, drop_dc, drop_dc', take_dc, take_dc', Nat.reduceLeDiff, Nat.reduceSub, Nat.reduceAdd, Nat.le_refl, List.length_cons, List.length_append, List.length_nil, dc_length, List.drop_nil, List.take_nil, List.append_nil, List.length_map, List.length_replicate, drop_q lv, drop_q' lv, take_q lv, take_q' lv, lv, drop_q lt, drop_q' lt, take_q lt, take_q' lt, lt, drop_q lp, drop_q' lp, take_q lp, take_q' lp, lp, drop_q lr, drop_q' lr, take_q lr, take_q' lr, lr, drop_q lc, drop_q' lc, take_q lc, take_q' lc, lc]; first | done | omega))) ?_
  refine gl_pure (wt0 rfl) (r_fieldAddr rfl Ty.fo_67_4) ?_
  refine gl_pure (wt0 rfl) (r_fieldAddr rfl Ty.fo_60_0) ?_
  refine gl_pure (wt0 rfl) (r_ldN rfl Ty.row_23 Ty.sz_23 (by repeat (first | exact Pick.here | apply Pick.there)) (by (simp only [List.drop_succ_cons, List.drop_zero, List.take_succ_cons, List.take_zero, List.cons_append, List.nil_append, List.append_assoc, drop_dc, drop_dc', take_dc, take_dc', Nat.reduceLeDiff, Nat.reduceSub, Nat.reduceAdd, Nat.le_refl, List.length_cons, List.length_append, List.length_nil, dc_length, List.drop_nil, List.take_nil, List.append_nil, List.length_map, List.length_replicate, drop_q lv, drop_q' lv, take_q lv, take_q' lv, lv, drop_q lt, drop_q' lt, take_q lt, take_q' lt, lt, drop_q lp, drop_q' lp, take_q lp, take_q' lp, lp, drop_q lr, drop_q' lr, take_q lr, take_q' lr, lr, drop_q lc, drop_q' lc, take_q lc, take_q' lc, lc]; first | done | rfl)) (by first | rfl | (simp only [List.drop_succ_cons, List.drop_zero, List.take_succ_cons, List.take_zero, List.cons_append, List.nil_append, List.append_assoc, drop_dc, drop_dc', take_dc, take_dc', Nat.reduceLeDiff, Nat.reduceSub, Nat.reduceAdd, Nat.le_refl, List.length_cons, List.length_append, List.length_nil, dc_length, List.drop_nil, List.take_nil, List.append_nil, List.length_map, List.length_replicate, drop_q lv, drop_q' lv, take_q lv, take_q' lv, lv, drop_q lt, drop_q' lt, take_q lt, take_q' lt, lt, drop_q lp, drop_q' lp, take_q lp, take_q' lp, lp, drop_q lr, drop_q' lr, take_q lr, take_q' lr, lr, drop_q lc, drop_q' lc, take_q lc, take_q' lc, lc]; first | done | omega))) ?_
  refine gl_call (wt0 rfl) (e_call Ty.call_87 rfl) (by repeat (first | exact Sel.nil | (apply Sel.cons; · (repeat (first | exact Pick.here | apply Pick.there))))) (fun w1 F1 F2 h1 h2 hd hst => digest_ok h1 (hE.mv hst.still) (by omega)) ?_
  intro _
  refine gl_nil ?_
  refine gx_then ?_
  refine gc_region ?_
  refine gl_pure (wt0 rfl) (r_ldN rfl Ty.row_107 Ty.sz_107 (by repeat (first | exact Pick.here | apply Pick.there)) (by (simp only [List.drop_succ_cons, List.drop_zero, List.take_succ_cons, List.take_zero, List.cons_append, List.nil_append, List.append_assoc, drop_dc, drop_dc', take_dc, take_dc', Nat.reduceLeDiff, Nat.reduceSub, Nat.reduceAdd, Nat.le_refl, List.length_cons, List.length_append, List.length_nil, dc_length, List.drop_nil, List.take_nil, List.append_nil, List.length_map, List.length_replicate, drop_q lv, drop_q' lv, take_q lv, take_q' lv, lv, drop_q lt, drop_q' lt, take_q lt, take_q' lt, lt, drop_q lp, drop_q' lp, take_q lp, take_q' lp, lp, drop_q lr, drop_q' lr, take_q lr, take_q' lr, lr, drop_q lc, drop_q' lc, take_q lc, take_q' lc, lc]; first | done | rfl)) (by first | rfl | (simp only [List.drop_succ_cons, List.drop_zero, List.take_succ_cons, List.take_zero, List.cons_append, List.nil_append, List.append_assoc, drop_dc, drop_dc', take_dc, take_dc', Nat.reduceLeDiff, Nat.reduceSub, Nat.reduceAdd, Nat.le_refl, List.length_cons, List.length_append, List.length_nil, dc_length, List.drop_nil, List.take_nil, List.append_nil, List.length_map, List.length_replicate, drop_q lv, drop_q' lv, take_q lv, take_q' lv, lv, drop_q lt, drop_q' lt, take_q lt, take_q' lt, lt, drop_q lp, drop_q' lp, take_q lp, take_q' lp, lp, drop_q lr, drop_q' lr, take_q lr, take_q' lr, lr, drop_q lc, drop_q' lc, take_q lc, take_q' lc, lc]; first | done | omega))) ?_
  refine gl_pure (wt0 rfl) (r_fieldAddr rfl Ty.fo_67_4) ?_
  refine gl_pure (wt0 rfl) (r_fieldAddr rfl Ty.fo_60_1) ?_
  refine gl_pure (wt0 rfl) (r_ldN rfl Ty.row_23 Ty.sz_23 (by repeat (first | exact Pick.here | apply Pick.there)) (by (simp only [List.drop_succ_cons, List.drop_zero, List.take_succ_cons, List.take_zero, List.cons_append, List.nil_append, List.append_assoc, drop_dc, drop_dc', take_dc, take_dc', Nat.reduceLeDiff, Nat.reduceSub, Nat.reduceAdd, Nat.le_refl, List.length_cons, List.length_append, List.length_nil, dc_length, List.drop_nil, List.take_nil, List.append_nil, List.length_map, List.length_replicate, drop_q lv, drop_q' lv, take_q lv, take_q' lv, lv, drop_q lt, drop_q' lt, take_q lt, take_q' lt, lt, drop_q lp, drop_q' lp, take_q lp, take_q' lp, lp, drop_q lr, drop_q' lr, take_q lr, take_q' lr, lr, drop_q lc, drop_q' lc, take_q lc, take_q' lc, lc]; first | done | rfl)) (by first | rfl | (simp only [List.drop_succ_cons, List.drop_zero, List.take_succ_cons, List.take_zero, List.cons_append, List.nil_append, List.append_assoc, drop_dc, drop_dc', take_dc, take_dc', Nat.reduceLeDiff, Nat.reduceSub, Nat.reduceAdd, Nat.le_refl, List.length_cons, List.length_append, List.length_nil, dc_length, List.drop_nil, List.take_nil, List.append_nil, List.length_map, List.length_replicate, drop_q lv, drop_q' lv, take_q lv, take_q' lv, lv, drop_q lt, drop_q' lt, take_q lt, take_q' lt, lt, drop_q lp, drop_q' lp, take_q lp, take_q' lp, lp, drop_q lr, drop_q' lr, take_q lr, take_q' lr, lr, drop_q lc, drop_q' lc, take_q lc, take_q' lc, lc]; first | done | omega))) ?_
  refine gl_call (wt0 rfl) (e_call Ty.call_87 rfl) (by repeat (first | exact Sel.nil | (apply Sel.cons; · (repeat (first | exact Pick.here | apply Pick.there))))) (fun w1 F1 F2 h1 h2 hd hst => digest_ok h1 (hE.mv hst.still) (by have e0 := wDig_len m.wantFrom s; omega)) ?_
  intro _
  refine gl_nil ?_
  refine gx_block_normal ?_
  refine gx_ret0' rfl ?_
  exact fun w' hw => ⟨(), rfl, hw.sel (by repeat (first | exact Sel.nil | (apply Sel.cons; · (repeat (first | exact Pick.here | apply Pick.there)))))⟩

set_option maxHeartbeats 400000 in
theorem body5_ok {w : World} {F : Nat → Prop} {g TE : Nat} {ea : Nat → Addr} {s : WS} {cs : List Value} {m : Msg} (h : stars [WrR TE ea g s] w F) {es : List Nat} [Has es 1] (hE : GErr es w (fun k => ¬ F k) TE ea) (hx : RdMsg w (fun k => ¬ F k) cs m) (hk : m.kind = 5) (hb : s.bs.length + 8485 ≤ 1099511627776) :
    Calls Tryd.prog 59 #[.agg (List.toArray [.pointer (some ⟨g, 0, none⟩)]), .agg cs.toArray] w (Post w F (fun _ : Unit => .tuple #[]) (fun _ => [WrR TE ea g (wBlock m.reply s)])) := by
  obtain ⟨v, t, p, r, c, rfl, hv, ht, hp, hr, hc⟩ := hx
  have lv := hv.len
  have lt := ht.len
  have lp := hp.len
  have lr := hr.len
  have lc := hc.len
  refine g_enter (env := [(0, .agg (List.toArray [.pointer (some ⟨g, 0, none⟩)])), (1, .agg (List.toArray (.int .i64 m.kind :: (v ++ (t ++ (p ++ (dc m.wantFrom ++ (dc m.wantBlock ++ (r ++ c)))))))))]) Tryd.func59 rfl h Tryd.ntmps59 rfl rfl ?_
  refine gc_seq ?_
  refine gc_region ?_
  refine gl_boxN (wt0 rfl) rfl ?_
  intro b2
  refine gl_boxN (wt0 rfl) rfl ?_
  intro b3
  refine gl_nil ?_
  refine gx_then ?_
  refine gc_seq ?_
  refine gc_region ?_
  refine gl_pure (wt0 rfl) (r_fieldAddr rfl Ty.fo_67_0) ?_
  refine gl_pure (wt0 rfl) (r_ld1 rfl Ty.row_3 (by repeat (first | exact Pick.here | apply Pick.there)) (by first | rfl | (simp only [List.getElem?_cons_succ, List.getElem?_cons_zero, List.cons_append, List.append_assoc, get_dc, Nat.reduceLeDiff, Nat.reduceSub, Nat.reduceAdd, Nat.le_refl, get_q lv, get_q lt, get_q lp, get_q lr, get_q lc]; rfl))) ?_
  refine gl_nil ?_
  refine gx_then ?_
  refine gc_block ?_
  refine gc_seq ?_
  refine gc_region ?_
  refine gl_pure (wt0 rfl) (r_eql_int rfl rfl) ?_
  refine gl_pure (wt0 rfl) (r_assign (by conv => lhs; whnf)) ?_
  refine gl_nil ?_
  refine gx_then ?_
  refine gc_condF rfl (decide_eq_false (by omega)) ?_
  refine gc_seq ?_
  refine gc_region ?_
  refine gl_pure (wt0 rfl) (r_eql_int rfl rfl) ?_
  refine gl_pure (wt0 rfl) (r_assign (by conv => lhs; whnf)) ?_
  refine gl_nil ?_
  refine gx_then ?_
  refine gc_condF rfl (decide_eq_false (by omega)) ?_
  refine gc_seq ?_
  refine gc_region ?_
  refine gl_pure (wt0 rfl) (r_eql_int rfl rfl) ?_
  refine gl_pure (wt0 rfl) (r_assign (by conv => lhs; whnf)) ?_
  refine gl_nil ?_
  refine gx_then ?_
  refine gc_condF rfl (decide_eq_false (by omega)) ?_
  refine gc_seq ?_
  refine gc_region ?_
  refine gl_pure (wt0 rfl) (r_eql_int rfl rfl) ?_
  refine gl_pure (wt0 rfl) (r_assign (by conv => lhs; whnf)) ?_
  refine gl_nil ?_
  refine gx_then ?_
  refine gc_condF rfl (decide_eq_false (by omega)) ?_
  refine gc_seq ?_
  refine gc_region ?_
  refine gl_pure (wt0 rfl) (r_eql_int rfl rfl) ?_
  refine gl_pure (wt0 rfl) (r_assign (by conv => lhs; whnf)) ?_
  refine gl_nil ?_
  refine gx_then ?_
  refine gc_condT rfl (decide_eq_true (by omega)) ?_
  refine gc_region ?_
  refine gl_pure (wt0 rfl) (r_ldN rfl Ty.row_107 Ty.sz_107 (by repeat (first | exact Pick.here | apply Pick.there)) (by (simp only [List.drop_succ_cons, List.drop_zero, List.take_succ_cons, List.take_zero, List.cons_append, List.nil_append, List.append_assoc, drop_dc, drop_dc', take_dc, take_dc', Nat.reduceLeDiff, Nat.reduceSub, Nat.reduceAdd, Nat.le_refl, List.length_cons, List.length_append, List.length_nil, dc_length, List.drop_nil, List.take_nil, List.append_nil, List.length_map, List.length_replicate, drop_q lv, drop_q' lv, take_q lv, take_q' lv, lv, drop_q lt, drop_q' lt, take_q lt, take_q' lt, lt, drop_q lp, drop_q' lp, take_q lp, take_q' lp, lp, drop_q lr, drop_q' lr, take_q lr, take_q' lr, lr, drop_q lc, drop_q' lc, take_q lc, take_q' lc, lc]; first | done | rfl)) (by first | rfl | (simp only [List.drop_succ_cons, List.drop_zero, List.take_succ_cons, List.take_zero, List.cons_append, List.nil_append, List.append_assoc, drop_dc, drop_dc', take_dc, take_dc', Nat.reduceLeDiff, Nat.reduceSub, Nat.reduceAdd, Nat.le_refl, List.length_cons, List.length_append, List.length_nil, dc_length, List.drop_nil, List.take_nil, List.append_nil, List.length_map, List.length_replicate, drop_q lv, drop_q' lv, take_q lv, take_q' lv, lv, drop_q lt, drop_q' lt, take_q lt, take_q' lt, lt, drop_q lp, drop_q' lp, take_q lp, take_q' lp, lp, drop_q lr, drop_q' lr, take_q lr, take_q' lr, lr, drop_q lc, drop_q' lc, take_q lc, take_q' lc, lc]; first | done | omega))) ?_
  refine gl_pure (wt0 rfl) (r_fieldAddr rfl Ty.fo_67_5) ?_
  refine gl_pure (wt0 rfl) (r_fieldAddr rfl Ty.fo_62_0) ?_
  refine gl_pure (wt0 rfl) (r_ldN rfl Ty.row_30 Ty.sz_30 (by repeat (first | exact Pick.here | apply Pick.there)) (by (simp only [List.drop_succ_cons, List.drop_zero, List.take_succ_cons, List.take_zero, List.cons_append, List.nil_append, List.append_assoc, drop_dc, drop_dc', take_dc, take_dc', Nat.reduceLeDiff, Nat.reduceSub, Nat.reduceAdd, Nat.le_refl, List.length_cons, List.length_append, List.length_nil, dc_length, List.drop_nil, List.take_nil, List.append_nil, List.length_map, List.length_replicate, drop_q lv, drop_q' lv, take_q lv, take_q' lv, lv, drop_q lt, drop_q' lt, take_q lt, take_q' lt, lt, drop_q lp, drop_q' lp, take_q lp, take_q' lp, lp, drop_q lr, drop_q' lr, take_q lr, take_q' lr, lr, drop_q lc, drop_q' lc, take_q lc, take_q' lc, lc]; first | done | rfl)) (by first | rfl | (simp only [List.drop_succ_cons, List.drop_zero, List.take_succ_cons, List.take_zero, List.cons_append, List.nil_append, List.append_assoc, drop_dc, drop_dc', take_dc, take_dc', Nat.reduceLeDiff, Nat.reduceSub, Nat.reduceAdd, Nat.le_refl, List.length_cons, List.length_append, List.length_nil, dc_length, List.drop_nil, List.take_nil, List.append_nil, List.length_map, List.length_replicate, drop_q lv, drop_q' lv, take_q lv, take_q' lv, lv, drop_q lt, drop_q' lt, take_q lt, take_q' lt, lt, drop_q lp, drop_q' lp, take_q lp, take_q' lp, lp, drop_q lr, drop_q' lr, take_q lr, take_q' lr, lr, drop_q lc, drop_q' lc, take_q lc, take_q' lc, lc]; first | done | omega))) ?_
  refine gl_call (wt0 rfl) (e_call Ty.call_45 rfl) (by repeat (first | exact Sel.nil | (apply Sel.cons; · (repeat (first | exact Pick.here | apply Pick.there))))) (fun w1 F1 F2 h1 h2 hd hst => block_ok h1 (hE.mv hst.still) (hr.mv hst.still) hb) ?_
  intro _
  refine gl_nil ?_
  refine gx_block_normal ?_
  refine gx_ret0' rfl ?_
  exact fun w' hw => ⟨(), rfl, hw.sel (by repeat (first | exact Sel.nil | (apply Sel.cons; · (repeat (first | exact Pick.here | apply Pick.there)))))⟩

set_option maxHeartbeats 400000 in
theorem body6_ok {w : World} {F : Nat → Prop} {g TE : Nat} {ea : Nat → Addr} {s : WS} {cs : List Value} {m : Msg} (h : stars [WrR TE ea g s] w F) {es : List Nat} [Has es 1] (hE : GErr es w (fun k => ¬ F k) TE ea) (hx : RdMsg w (fun k => ¬ F k) cs m) (hk : m.kind = 6) (hb : s.bs.length + 33686 ≤ 1099511627776) :
    Calls Tryd.prog 59 #[.agg (List.toArray [.pointer (some ⟨g, 0, none⟩)]), .agg cs.toArray] w (Post w F (fun _ : Unit => .tuple #[]) (fun _ => [WrR TE ea g (wChg m.chg s)])) := by
  obtain ⟨v, t, p, r, c, rfl, hv, ht, hp, hr, hc⟩ := hx
  have lv := hv.len
  have lt := ht.len
  have lp := hp.len
  have lr := hr.len
  have lc := hc.len
  refine g_enter (env := [(0, .agg (List.toArray [.pointer (some ⟨g, 0, none⟩)])), (1, .agg (List.toArray (.int .i64 m.kind :: (v ++ (t ++ (p ++ (dc m.wantFrom ++ (dc m.wantBlock ++ (r ++ c)))))))))]) Tryd.func59 rfl h Tryd.ntmps59 rfl rfl ?_
  refine gc_seq ?_
  refine gc_region ?_
  refine gl_boxN (wt0 rfl) rfl ?_
  intro b2
  refine gl_boxN (wt0 rfl) rfl ?_
  intro b3
  refine gl_nil ?_
  refine gx_then ?_
  refine gc_seq ?_
  refine gc_region ?_
  refine gl_pure (wt0 rfl) (r_fieldAddr rfl Ty.fo_67_0) ?_
  refine gl_pure (wt0 rfl) (r_ld1 rfl Ty.row_3 (by repeat (first | exact Pick.here | apply Pick.there)) (by first | rfl | (simp only [List.getElem?_cons_succ, List.getElem?_cons_zero, List.cons_append, List.append_assoc, get_dc, Nat.reduceLeDiff, Nat.reduceSub, Nat.reduceAdd, Nat.le_refl, get_q lv, get_q lt, get_q lp, get_q lr, get_q lc]; rfl))) ?_
  refine gl_nil ?_
  refine gx_then ?_
  refine gc_block ?_
  refine gc_seq ?_
  refine gc_region ?_
  refine gl_pure (wt0 rfl) (r_eql_int rfl rfl) ?_
  refine gl_pure (wt0 rfl) (r_assign (by conv => lhs; whnf)) ?_
  refine gl_nil ?_
  refine gx_then ?_
  refine gc_condF rfl (decide_eq_false (by omega)) ?_
  refine gc_seq ?_
  refine gc_region ?_
  refine gl_pure (wt0 rfl) (r_eql_int rfl rfl) ?_
  refine gl_pure (wt0 rfl) (r_assign (by conv => lhs; whnf)) ?_
  refine gl_nil ?_
  refine gx_then ?_
  refine gc_condF rfl (decide_eq_false (by omega)) ?_
  refine gc_seq ?_
  refine gc_region ?_
  refine gl_pure (wt0 rfl) (r_eql_int rfl rfl) ?_
  refine gl_pure (wt0 rfl) (r_assign (by conv => lhs; whnf)) ?_
  refine gl_nil ?_
  refine gx_then ?_
  refine gc_condF rfl (decide_eq_false (by omega)) ?_
  refine gc_seq ?_
  refine gc_region ?_
  refine gl_pure (wt0 rfl) (r_eql_int rfl rfl) ?_
  refine gl_pure (wt0 rfl) (r_assign (by conv => lhs; whnf)) ?_
  refine gl_nil ?_
  refine gx_then ?_
  refine gc_condF rfl (decide_eq_false (by omega)) ?_
  refine gc_seq ?_
  refine gc_region ?_
  refine gl_pure (wt0 rfl) (r_eql_int rfl rfl) ?_
  refine gl_pure (wt0 rfl) (r_assign (by conv => lhs; whnf)) ?_
  refine gl_nil ?_
  refine gx_then ?_
  refine gc_condF rfl (decide_eq_false (by omega)) ?_
  refine gc_seq ?_
  refine gc_region ?_
  refine gl_pure (wt0 rfl) (r_eql_int rfl rfl) ?_
  refine gl_pure (wt0 rfl) (r_assign (by conv => lhs; whnf)) ?_
  refine gl_nil ?_
  refine gx_then ?_
  refine gc_condT rfl (decide_eq_true (by omega)) ?_
  refine gc_region ?_
  refine gl_pure (wt0 rfl) (r_ldN rfl Ty.row_107 Ty.sz_107 (by repeat (first | exact Pick.here | apply Pick.there)) (by (simp only [List.drop_succ_cons, List.drop_zero, List.take_succ_cons, List.take_zero, List.cons_append, List.nil_append, List.append_assoc, drop_dc, drop_dc', take_dc, take_dc', Nat.reduceLeDiff, Nat.reduceSub, Nat.reduceAdd, Nat.le_refl, List.length_cons, List.length_append, List.length_nil, dc_length, List.drop_nil, List.take_nil, List.append_nil, List.length_map, List.length_replicate, drop_q lv, drop_q' lv, take_q lv, take_q' lv, lv, drop_q lt, drop_q' lt, take_q lt, take_q' lt, lt, drop_q lp, drop_q' lp, take_q lp, take_q' lp, lp, drop_q lr, drop_q' lr, take_q lr, take_q' lr, lr, drop_q lc, drop_q' lc, take_q lc, take_q' lc, lc]; first | done | rfl)) (by first | rfl | (simp only [List.drop_succ_cons, List.drop_zero, List.take_succ_cons, List.take_zero, List.cons_append, List.nil_append, List.append_assoc, drop_dc, drop_dc', take_dc, take_dc', Nat.reduceLeDiff, Nat.reduceSub, Nat.reduceAdd, Nat.le_refl, List.length_cons, List.length_append, List.length_nil, dc_length, List.drop_nil, List.take_nil, List.append_nil, List.length_map, List.length_replicate, drop_q lv, drop_q' lv, take_q lv, take_q' lv, lv, drop_q lt, drop_q' lt, take_q lt, take_q' lt, lt, drop_q lp, drop_q' lp, take_q lp, take_q' lp, lp, drop_q lr, drop_q' lr, take_q lr, take_q' lr, lr, drop_q lc, drop_q' lc, take_q lc, take_q' lc, lc]; first | done | omega))) ?_
  refine gl_pure (wt0 rfl) (r_fieldAddr rfl Ty.fo_67_6) ?_
  refine gl_pure (wt0 rfl) (r_ldN rfl Ty.row_65 Ty.sz_65 (by repeat (first | exact Pick.here | apply Pick.there)) (by (simp only [List.drop_succ_cons, List.drop_zero, List.take_succ_cons, List.take_zero, List.cons_append, List.nil_append, List.append_assoc, drop_dc, drop_dc', take_dc, take_dc', Nat.reduceLeDiff, Nat.reduceSub, Nat.reduceAdd, Nat.le_refl, List.length_cons, List.length_append, List.length_nil, dc_length, List.drop_nil, List.take_nil, List.append_nil, List.length_map, List.length_replicate, drop_q lv, drop_q' lv, take_q lv, take_q' lv, lv, drop_q lt, drop_q' lt, take_q lt, take_q' lt, lt, drop_q lp, drop_q' lp, take_q lp, take_q' lp, lp, drop_q lr, drop_q' lr, take_q lr, take_q' lr, lr, drop_q lc, drop_q' lc, take_q lc, take_q' lc, lc]; first | done | rfl)) (by first | rfl | (simp only [List.drop_succ_cons, List.drop_zero, List.take_succ_cons, List.take_zero, List.cons_append, List.nil_append, List.append_assoc, drop_dc, drop_dc', take_dc, take_dc', Nat.reduceLeDiff, Nat.reduceSub, Nat.reduceAdd, Nat.le_refl, List.length_cons, List.length_append, List.length_nil, dc_length, List.drop_nil, List.take_nil, List.append_nil, List.length_map, List.length_replicate, drop_q lv, drop_q' lv, take_q lv, take_q' lv, lv, drop_q lt, drop_q' lt, take_q lt, take_q' lt, lt, drop_q lp, drop_q' lp, take_q lp, take_q' lp, lp, drop_q lr, drop_q' lr, take_q lr, take_q' lr, lr, drop_q lc, drop_q' lc, take_q lc, take_q' lc, lc]; first | done | omega))) ?_
  refine gl_call (wt0 rfl) (e_call Ty.call_104 rfl) (by repeat (first | exact Sel.nil | (apply Sel.cons; · (repeat (first | exact Pick.here | apply Pick.there))))) (fun w1 F1 F2 h1 h2 hd hst => change_ok h1 (hE.mv hst.still) (hc.mv hst.still) hb) ?_
  intro _
  refine gl_nil ?_
  refine gx_block_normal ?_
  refine gx_ret0' rfl ?_
  exact fun w' hw => ⟨(), rfl, hw.sel (by repeat (first | exact Sel.nil | (apply Sel.cons; · (repeat (first | exact Pick.here | apply Pick.there)))))⟩


theorem body_ok {w : World} {F : Nat → Prop} {g TE : Nat} {ea : Nat → Addr} {s : WS} {cs : List Value} {m : Msg} (h : stars [WrR TE ea g s] w F) {es : List Nat} [Has es 1] (hE : GErr es w (fun k => ¬ F k) TE ea) (hx : RdMsg w (fun k => ¬ F k) cs m) (h1 : 1 ≤ m.kind) (h6 : m.kind ≤ 6) (hb : s.bs.length + 33686 ≤ 1099511627776) :
    Calls Tryd.prog 59 #[.agg (List.toArray [.pointer (some ⟨g, 0, none⟩)]), .agg cs.toArray] w (Post w F (fun _ : Unit => .tuple #[]) (fun _ => [WrR TE ea g (wBody m s)])) := by
  unfold wBody
  by_cases k1 : m.kind = 1
  · rw [if_pos k1]; exact body1_ok h hE hx k1 (by omega)
  rw [if_neg k1]
  by_cases k2 : m.kind = 2
  · rw [if_pos k2]; exact body2_ok h hE hx k2 (by omega)
  rw [if_neg k2]
  by_cases k3 : m.kind = 3
  · rw [if_pos k3]; exact body3_ok h hE hx k3 (by omega)
  rw [if_neg k3]
  by_cases k4 : m.kind = 4
  · rw [if_pos k4]; exact body4_ok h hE hx k4 (by omega)
  rw [if_neg k4]
  by_cases k5 : m.kind = 5
  · rw [if_pos k5]; exact body5_ok h hE hx k5 (by omega)
  rw [if_neg k5]
  exact body6_ok h hE hx (by omega) hb

end Go.Proofs.YtkgbbnhdioghmaaDoor
