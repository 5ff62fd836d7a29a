/- Walks, by program (wg.py) out of a spec. -/
import Derived.Test.YtkgbbnhdioghmaaDoorWe
import Derived.Test.YtkgbbnhdioghmaaDoorEngH
namespace Go.Proofs.YtkgbbnhdioghmaaDoor
open Go
set_option linter.unusedVariables false
set_option linter.unusedSimpArgs false

attribute [local irreducible] Gl Gc Gx Gs Runs Wt

set_option maxHeartbeats 400000 in
theorem change_ok {w : World} {F : Nat → Prop} {g TE : Nat} {ea : Nat → Addr} {s : WS} {cs : List Value} {x : Chg} (h : stars [WrR TE ea g s] w F) {es : List Nat} [Has es 1] (hE : GErr es w (fun k => ¬ F k) TE ea) (hx : RdChg w (fun k => ¬ F k) cs x) (hb : s.bs.length + 33686 ≤ 1099511627776) :
    Calls Tryd.prog 104 #[.agg (List.toArray [.pointer (some ⟨g, 0, none⟩)]), .agg cs.toArray] w (Post w F (fun _ : Unit => .tuple #[]) (fun _ => [WrR TE ea g (wChg x s)])) := by
  obtain ⟨css, q, rfl, hcl, hc3, hb3, hbs, hq⟩ := hx
  have hfl : css.flatten.length = 117 := by rw [flatten_len hcl, hc3]
  have hql := hq.len
  have z_hfl := Len.of hfl
  have z_hql := Len.of hql
  refine g_enter (env := [(0, .agg (List.toArray [.pointer (some ⟨g, 0, none⟩)])), (1, .agg (List.toArray (css.flatten ++ q)))]) Tryd.func104 rfl h Tryd.ntmps104 rfl rfl ?_
  refine gsr ?_
  refine zbN fun b2 => ?_
  refine zbN fun b3 => ?_
  refine gnt ?_
  refine gc_seq ?_
  refine gsr ?_
  refine gp zfa ?_
  refine gp zL ?_
  refine gp zmv ?_
  refine gnt ?_
  refine gc_block ?_
  refine gc_loop (α := Nat) (fun k => [pureR (k ≤ 3), WrR TE ea g ((x.blocks.take k).foldl (fun s b => wBlock b s) s), blk b2 107 [.pointer (some ⟨g, 0, none⟩)], blk b3 65 (css.flatten ++ q)]) (fun k => [(8, .int .i64 (k : Int))]) [5, 9, 10, 11, 12, 13, 14] (fun k => 3 - k) 0 ?_ ?_ ?_
  · refine env_start (by kernel_rfl)
  · rintro w' hw
    obtain ⟨F', hF', hst'⟩ := hw.sel (M := [WrR TE ea g s, blk b2 _ _, blk b3 _ _]) (by repeat (first | exact Sel.nil | (apply Sel.cons; · (repeat (first | exact Pick.here | apply Pick.there)))))
    exact ⟨F', stars_pure_mk (Nat.zero_le _) hF', hst'⟩
  · intro k u
    refine gc_pureR (fun hk => ?_)
    replace hk : k ≤ 3 := hk
    refine gsr ?_
    refine gp zlt ?_
    refine gnt ?_
    refine gc_seq ?_
    refine gif rfl (fun hc9 => ?_) (fun hc9 => ?_)
    · have hk' : k < 3 := by (try simp only at hc9); omega
      obtain ⟨bc, hbc⟩ : ∃ bc, css[k]? = some bc := ⟨_, List.getElem?_eq_getElem (by omega)⟩
      obtain ⟨xb, hxb⟩ : ∃ xb, x.blocks[k]? = some xb := ⟨_, List.getElem?_eq_getElem (by omega)⟩
      have hB := hbs k bc xb hbc hxb
      have hbl := hB.len
      have hfd := foldl_len (c := 8485) (fun b s => wBlock_len b s) (x.blocks.take k) s
      have htl : (x.blocks.take k).length = k := by rw [List.length_take]; omega
      rw [htl] at hfd
      refine gc_skip ?_
      refine gx_then ?_
      refine gc_seq ?_
      refine gc_block ?_
      refine gsr ?_
      refine gp (r_indexN (seg := bc) rfl rfl Ty.arr_63 Ty.sz_30 Ty.row_30 (by omega) (by omega) (by rw [show (k : Int).toNat * 39 = k * 39 by omega]; exact flatten_at hcl hbc)) ?_
      refine zal fun b5 => ?_
      refine gl_storeN (wt0 rfl) rfl rfl Ty.sz_30 hbl (by repeat (first | exact Pick.here | apply Pick.there)) (by decide) hB.one (updL_all (by rw [hbl]; rfl)) ?_
      refine gnt ?_
      refine gc_region ?_
      refine gp zL ?_
      refine gp (r_ldN rfl Ty.row_30 Ty.sz_30 (by repeat (first | exact Pick.here | apply Pick.there)) (seg_all hbl) hbl) ?_
      refine zc (fun _ => ?_) (c := fun w1 F1 F2 h1 h2 hd hst => block_ok h1 (hE.mv hst.still) (hB.mv hst.still) (by omega))
      refine gl_nil ?_
      refine gx_block_normal ?_
      refine gx_then ?_
      refine gc_region ?_
      refine gp zad ?_
      refine gp zmv ?_
      refine gl_nil ?_
      refine zrd (k + 1) ?_ ?_
      · show 3 - (k + 1) < 3 - k
        omega
      · rintro w' hw
        obtain ⟨F', hF', hst'⟩ := hw.sel (M := [WrR TE ea g _, blk b2 _ _, blk b3 _ _]) (by repeat (first | exact Sel.nil | (apply Sel.cons; · (repeat (first | exact Pick.here | apply Pick.there)))))
        refine ⟨F', stars_pure_mk (show k + 1 ≤ 3 by omega) ?_, hst'⟩
        rw [foldl_take_succ _ _ _ hxb]
        exact hF'
    · have hk' : k = x.blocks.length := by (try simp only at hc9); omega
      subst hk'
      have hfd := foldl_len (c := 8485) (fun b s => wBlock_len b s) (x.blocks.take x.blocks.length) s
      rw [List.take_length] at hfd
      refine gc_exit ?_
      refine gx_then_exit ?_
      refine gx_round_exit ?_
      refine gx_block_hit ?_
      refine gx_then ?_
      refine gc_region ?_
      refine gp zL ?_
      refine gp zfa ?_
      refine gp zL ?_
      refine zc (fun _ => ?_) (c := fun w1 F1 F2 h1 h2 hd hst => qc_ok h1 (hE.mv hst.still) (hq.mv hst.still) (by rw [List.take_length]; omega))
      refine gl_nil ?_
      refine gx_ret0' rfl ?_
      rw [List.take_length]
      exact ze ()

set_option maxHeartbeats 400000 in
theorem body1_ok {w : World} {F : Nat → Prop} {g TE : Nat} {ea : Nat → Addr} {s : WS} {cs : List Value} {m : Msg} (h : stars [WrR TE ea g s] w F) {es : List Nat} [Has es 1] (hE : GErr es w (fun k => ¬ F k) TE ea) (hx : RdMsg w (fun k => ¬ F k) cs m) (hk : m.kind = 1) (hb : s.bs.length + 1198 ≤ 1099511627776) :
    Calls Tryd.prog 59 #[.agg (List.toArray [.pointer (some ⟨g, 0, none⟩)]), .agg cs.toArray] w (Post w F (fun _ : Unit => .tuple #[]) (fun _ => [WrR TE ea g (wVote m.vote s)])) := by
  obtain ⟨v, t, p, r, c, rfl, hv, ht, hp, hr, hc⟩ := hx
  have lv := hv.len
  have lt := ht.len
  have lp := hp.len
  have lr := hr.len
  have lc := hc.len
  obtain ⟨sg, rfl, hs⟩ := hv
  have ls := hs.len
  have z_lv := Len.of lv
  have z_lt := Len.of lt
  have z_lp := Len.of lp
  have z_lr := Len.of lr
  have z_lc := Len.of lc
  have z_ls := Len.of ls
  refine g_enter (env := [(0, .agg (List.toArray [.pointer (some ⟨g, 0, none⟩)])), (1, .agg (List.toArray (.int .i64 m.kind :: ((.int .i64 m.vote.epoch :: .int .i64 m.vote.round :: (dc m.vote.block ++ sg)) ++ (t ++ (p ++ (dc m.wantFrom ++ (dc m.wantBlock ++ (r ++ c)))))))))]) Tryd.func59 rfl h Tryd.ntmps59 rfl rfl ?_
  refine gsr ?_
  refine zbN fun b2 => ?_
  refine zbN fun b3 => ?_
  refine gnt ?_
  refine gsr ?_
  refine gp zfa ?_
  refine gp zl ?_
  refine gnt ?_
  refine gc_block ?_
  refine gsr ?_
  refine gp zei ?_
  refine gp zas ?_
  refine gnt ?_
  refine gc_condT rfl (decide_eq_true (by omega)) ?_
  refine gsr ?_
  refine gp zL ?_
  refine gp zfa ?_
  refine gp zfa ?_
  refine gp zl ?_
  refine gp zfa ?_
  refine gp zfa ?_
  refine gp zl ?_
  refine zc (fun _ => ?_) (c := fun w1 F1 F2 h1 h2 hd hst => at_ok h1 (hE.mv hst.still) (by omega))
  refine gnt ?_
  refine gsr ?_
  refine gp zL ?_
  refine gp zfa ?_
  refine gp zfa ?_
  refine gp zL ?_
  refine zc (fun _ => ?_) (c := fun w1 F1 F2 h1 h2 hd hst => digest_ok h1 (hE.mv hst.still) (by have e0 := wAt_len m.vote.epoch m.vote.round s; omega))
  refine gnt ?_
  refine gc_region ?_
  refine gp zL ?_
  refine gp zfa ?_
  refine gp zfa ?_
  refine gp zL ?_
  refine zc (fun _ => ?_) (c := fun w1 F1 F2 h1 h2 hd hst => signed_ok h1 (hE.mv hst.still) (hs.mv hst.still) (by have e0 := wAt_len m.vote.epoch m.vote.round s; have e1 := wDig_len m.vote.block (wAt m.vote.epoch m.vote.round s); omega))
  refine gl_nil ?_
  refine gx_block_normal ?_
  refine gx_ret0' rfl ?_
  exact ze ()

set_option maxHeartbeats 400000 in
theorem body2_ok {w : World} {F : Nat → Prop} {g TE : Nat} {ea : Nat → Addr} {s : WS} {cs : List Value} {m : Msg} (h : stars [WrR TE ea g s] w F) {es : List Nat} [Has es 1] (hE : GErr es w (fun k => ¬ F k) TE ea) (hx : RdMsg w (fun k => ¬ F k) cs m) (hk : m.kind = 2) (hb : s.bs.length + 17670 ≤ 1099511627776) :
    Calls Tryd.prog 59 #[.agg (List.toArray [.pointer (some ⟨g, 0, none⟩)]), .agg cs.toArray] w (Post w F (fun _ : Unit => .tuple #[]) (fun _ => [WrR TE ea g (wTmo m.tmo s)])) := by
  obtain ⟨v, t, p, r, c, rfl, hv, ht, hp, hr, hc⟩ := hx
  have lv := hv.len
  have lt := ht.len
  have lp := hp.len
  have lr := hr.len
  have lc := hc.len
  obtain ⟨q, tc, sg, rfl, hq, htc, hs⟩ := ht
  have ls := hs.len
  have lq := hq.len
  have ltc := htc.len
  have z_lv := Len.of lv
  have z_lt := Len.of lt
  have z_lp := Len.of lp
  have z_lr := Len.of lr
  have z_lc := Len.of lc
  have z_ls := Len.of ls
  have z_lq := Len.of lq
  have z_ltc := Len.of ltc
  refine g_enter (env := [(0, .agg (List.toArray [.pointer (some ⟨g, 0, none⟩)])), (1, .agg (List.toArray (.int .i64 m.kind :: (v ++ ((.int .i64 m.tmo.epoch :: .int .i64 m.tmo.round :: (q ++ (tc ++ sg))) ++ (p ++ (dc m.wantFrom ++ (dc m.wantBlock ++ (r ++ c)))))))))]) Tryd.func59 rfl h Tryd.ntmps59 rfl rfl ?_
  refine gsr ?_
  refine zbN fun b2 => ?_
  refine zbN fun b3 => ?_
  refine gnt ?_
  refine gsr ?_
  refine gp zfa ?_
  refine gp zl ?_
  refine gnt ?_
  refine gc_block ?_
  refine gsr ?_
  refine gp zei ?_
  refine gp zas ?_
  refine gnt ?_
  refine gc_condF rfl (decide_eq_false (by omega)) ?_
  refine gsr ?_
  refine gp zei ?_
  refine gp zas ?_
  refine gnt ?_
  refine gc_condT rfl (decide_eq_true (by omega)) ?_
  refine gsr ?_
  refine gp zL ?_
  refine gp zfa ?_
  refine gp zfa ?_
  refine gp zl ?_
  refine gp zfa ?_
  refine gp zfa ?_
  refine gp zl ?_
  refine zc (fun _ => ?_) (c := fun w1 F1 F2 h1 h2 hd hst => at_ok h1 (hE.mv hst.still) (by omega))
  refine gnt ?_
  refine gsr ?_
  refine gp zL ?_
  refine gp zfa ?_
  refine gp zfa ?_
  refine gp zL ?_
  refine zc (fun _ => ?_) (c := fun w1 F1 F2 h1 h2 hd hst => qc_ok h1 (hE.mv hst.still) (hq.mv hst.still) (by have e0 := wAt_len m.tmo.epoch m.tmo.round s; omega))
  refine gnt ?_
  refine gsr ?_
  refine gp zL ?_
  refine gp zfa ?_
  refine gp zfa ?_
  refine gp zL ?_
  refine zc (fun _ => ?_) (c := fun w1 F1 F2 h1 h2 hd hst => tc_ok h1 (hE.mv hst.still) (htc.mv hst.still) (by have e0 := wAt_len m.tmo.epoch m.tmo.round s; have e1 := wQC_len m.tmo.high (wAt m.tmo.epoch m.tmo.round s); omega))
  refine gnt ?_
  refine gc_region ?_
  refine gp zL ?_
  refine gp zfa ?_
  refine gp zfa ?_
  refine gp zL ?_
  refine zc (fun _ => ?_) (c := fun w1 F1 F2 h1 h2 hd hst => signed_ok h1 (hE.mv hst.still) (hs.mv hst.still) (by have e0 := wAt_len m.tmo.epoch m.tmo.round s; have e1 := wQC_len m.tmo.high (wAt m.tmo.epoch m.tmo.round s); have e2 := wTC_len m.tmo.last (wQC m.tmo.high (wAt m.tmo.epoch m.tmo.round s)); omega))
  refine gl_nil ?_
  refine gx_block_normal ?_
  refine gx_ret0' rfl ?_
  exact ze ()

set_option maxHeartbeats 400000 in
theorem body3_ok {w : World} {F : Nat → Prop} {g TE : Nat} {ea : Nat → Addr} {s : WS} {cs : List Value} {m : Msg} (h : stars [WrR TE ea g s] w F) {es : List Nat} [Has es 1] (hE : GErr es w (fun k => ¬ F k) TE ea) (hx : RdMsg w (fun k => ¬ F k) cs m) (hk : m.kind = 3) (hb : s.bs.length + 17914 ≤ 1099511627776) :
    Calls Tryd.prog 59 #[.agg (List.toArray [.pointer (some ⟨g, 0, none⟩)]), .agg cs.toArray] w (Post w F (fun _ : Unit => .tuple #[]) (fun _ => [WrR TE ea g (wProp m.prop s)])) := by
  obtain ⟨v, t, p, r, c, rfl, hv, ht, hp, hr, hc⟩ := hx
  have lv := hv.len
  have lt := ht.len
  have lp := hp.len
  have lr := hr.len
  have lc := hc.len
  obtain ⟨bc, tc, sg, rfl, hbc, htc, hs⟩ := hp
  have ls := hs.len
  have lb := hbc.len
  have ltc := htc.len
  have z_lv := Len.of lv
  have z_lt := Len.of lt
  have z_lp := Len.of lp
  have z_lr := Len.of lr
  have z_lc := Len.of lc
  have z_ls := Len.of ls
  have z_lb := Len.of lb
  have z_ltc := Len.of ltc
  refine g_enter (env := [(0, .agg (List.toArray [.pointer (some ⟨g, 0, none⟩)])), (1, .agg (List.toArray (.int .i64 m.kind :: (v ++ (t ++ ((bc ++ (tc ++ sg)) ++ (dc m.wantFrom ++ (dc m.wantBlock ++ (r ++ c)))))))))]) Tryd.func59 rfl h Tryd.ntmps59 rfl rfl ?_
  refine gsr ?_
  refine zbN fun b2 => ?_
  refine zbN fun b3 => ?_
  refine gnt ?_
  refine gsr ?_
  refine gp zfa ?_
  refine gp zl ?_
  refine gnt ?_
  refine gc_block ?_
  refine gsr ?_
  refine gp zei ?_
  refine gp zas ?_
  refine gnt ?_
  refine gc_condF rfl (decide_eq_false (by omega)) ?_
  refine gsr ?_
  refine gp zei ?_
  refine gp zas ?_
  refine gnt ?_
  refine gc_condF rfl (decide_eq_false (by omega)) ?_
  refine gsr ?_
  refine gp zei ?_
  refine gp zas ?_
  refine gnt ?_
  refine gc_condT rfl (decide_eq_true (by omega)) ?_
  refine gsr ?_
  refine gp zL ?_
  refine gp zfa ?_
  refine gp zfa ?_
  refine gp zL ?_
  refine zc (fun _ => ?_) (c := fun w1 F1 F2 h1 h2 hd hst => block_ok h1 (hE.mv hst.still) (hbc.mv hst.still) (by omega))
  refine gnt ?_
  refine gsr ?_
  refine gp zL ?_
  refine gp zfa ?_
  refine gp zfa ?_
  refine gp zL ?_
  refine zc (fun _ => ?_) (c := fun w1 F1 F2 h1 h2 hd hst => tc_ok h1 (hE.mv hst.still) (htc.mv hst.still) (by have e0 := wBlock_len m.prop.block s; omega))
  refine gnt ?_
  refine gc_region ?_
  refine gp zL ?_
  refine gp zfa ?_
  refine gp zfa ?_
  refine gp zL ?_
  refine zc (fun _ => ?_) (c := fun w1 F1 F2 h1 h2 hd hst => signed_ok h1 (hE.mv hst.still) (hs.mv hst.still) (by have e0 := wBlock_len m.prop.block s; have e1 := wTC_len m.prop.last (wBlock m.prop.block s); omega))
  refine gl_nil ?_
  refine gx_block_normal ?_
  refine gx_ret0' rfl ?_
  exact ze ()

set_option maxHeartbeats 400000 in
theorem body4_ok {w : World} {F : Nat → Prop} {g TE : Nat} {ea : Nat → Addr} {s : WS} {cs : List Value} {m : Msg} (h : stars [WrR TE ea g s] w F) {es : List Nat} [Has es 1] (hE : GErr es w (fun k => ¬ F k) TE ea) (hx : RdMsg w (fun k => ¬ F k) cs m) (hk : m.kind = 4) (hb : s.bs.length + 32 ≤ 1099511627776) :
    Calls Tryd.prog 59 #[.agg (List.toArray [.pointer (some ⟨g, 0, none⟩)]), .agg cs.toArray] w (Post w F (fun _ : Unit => .tuple #[]) (fun _ => [WrR TE ea g (wDig m.wantBlock (wDig m.wantFrom s))])) := by
  obtain ⟨v, t, p, r, c, rfl, hv, ht, hp, hr, hc⟩ := hx
  have lv := hv.len
  have lt := ht.len
  have lp := hp.len
  have lr := hr.len
  have lc := hc.len
  have z_lv := Len.of lv
  have z_lt := Len.of lt
  have z_lp := Len.of lp
  have z_lr := Len.of lr
  have z_lc := Len.of lc
  refine g_enter (env := [(0, .agg (List.toArray [.pointer (some ⟨g, 0, none⟩)])), (1, .agg (List.toArray (.int .i64 m.kind :: (v ++ (t ++ (p ++ (dc m.wantFrom ++ (dc m.wantBlock ++ (r ++ c)))))))))]) Tryd.func59 rfl h Tryd.ntmps59 rfl rfl ?_
  refine gsr ?_
  refine zbN fun b2 => ?_
  refine zbN fun b3 => ?_
  refine gnt ?_
  refine gsr ?_
  refine gp zfa ?_
  refine gp zl ?_
  refine gnt ?_
  refine gc_block ?_
  refine gsr ?_
  refine gp zei ?_
  refine gp zas ?_
  refine gnt ?_
  refine gc_condF rfl (decide_eq_false (by omega)) ?_
  refine gsr ?_
  refine gp zei ?_
  refine gp zas ?_
  refine gnt ?_
  refine gc_condF rfl (decide_eq_false (by omega)) ?_
  refine gsr ?_
  refine gp zei ?_
  refine gp zas ?_
  refine gnt ?_
  refine gc_condF rfl (decide_eq_false (by omega)) ?_
  refine gsr ?_
  refine gp zei ?_
  refine gp zas ?_
  refine gnt ?_
  refine gc_condT rfl (decide_eq_true (by omega)) ?_
  refine gsr ?_
  refine gp zL ?_
  refine gp zfa ?_
  refine gp zfa ?_
  refine gp zL ?_
  refine zc (fun _ => ?_) (c := fun w1 F1 F2 h1 h2 hd hst => digest_ok h1 (hE.mv hst.still) (by omega))
  refine gnt ?_
  refine gc_region ?_
  refine gp zL ?_
  refine gp zfa ?_
  refine gp zfa ?_
  refine gp zL ?_
  refine zc (fun _ => ?_) (c := fun w1 F1 F2 h1 h2 hd hst => digest_ok h1 (hE.mv hst.still) (by have e0 := wDig_len m.wantFrom s; omega))
  refine gl_nil ?_
  refine gx_block_normal ?_
  refine gx_ret0' rfl ?_
  exact ze ()

set_option maxHeartbeats 400000 in
theorem body5_ok {w : World} {F : Nat → Prop} {g TE : Nat} {ea : Nat → Addr} {s : WS} {cs : List Value} {m : Msg} (h : stars [WrR TE ea g s] w F) {es : List Nat} [Has es 1] (hE : GErr es w (fun k => ¬ F k) TE ea) (hx : RdMsg w (fun k => ¬ F k) cs m) (hk : m.kind = 5) (hb : s.bs.length + 8485 ≤ 1099511627776) :
    Calls Tryd.prog 59 #[.agg (List.toArray [.pointer (some ⟨g, 0, none⟩)]), .agg cs.toArray] w (Post w F (fun _ : Unit => .tuple #[]) (fun _ => [WrR TE ea g (wBlock m.reply s)])) := by
  obtain ⟨v, t, p, r, c, rfl, hv, ht, hp, hr, hc⟩ := hx
  have lv := hv.len
  have lt := ht.len
  have lp := hp.len
  have lr := hr.len
  have lc := hc.len
  have z_lv := Len.of lv
  have z_lt := Len.of lt
  have z_lp := Len.of lp
  have z_lr := Len.of lr
  have z_lc := Len.of lc
  refine g_enter (env := [(0, .agg (List.toArray [.pointer (some ⟨g, 0, none⟩)])), (1, .agg (List.toArray (.int .i64 m.kind :: (v ++ (t ++ (p ++ (dc m.wantFrom ++ (dc m.wantBlock ++ (r ++ c)))))))))]) Tryd.func59 rfl h Tryd.ntmps59 rfl rfl ?_
  refine gsr ?_
  refine zbN fun b2 => ?_
  refine zbN fun b3 => ?_
  refine gnt ?_
  refine gsr ?_
  refine gp zfa ?_
  refine gp zl ?_
  refine gnt ?_
  refine gc_block ?_
  refine gsr ?_
  refine gp zei ?_
  refine gp zas ?_
  refine gnt ?_
  refine gc_condF rfl (decide_eq_false (by omega)) ?_
  refine gsr ?_
  refine gp zei ?_
  refine gp zas ?_
  refine gnt ?_
  refine gc_condF rfl (decide_eq_false (by omega)) ?_
  refine gsr ?_
  refine gp zei ?_
  refine gp zas ?_
  refine gnt ?_
  refine gc_condF rfl (decide_eq_false (by omega)) ?_
  refine gsr ?_
  refine gp zei ?_
  refine gp zas ?_
  refine gnt ?_
  refine gc_condF rfl (decide_eq_false (by omega)) ?_
  refine gsr ?_
  refine gp zei ?_
  refine gp zas ?_
  refine gnt ?_
  refine gc_condT rfl (decide_eq_true (by omega)) ?_
  refine gc_region ?_
  refine gp zL ?_
  refine gp zfa ?_
  refine gp zfa ?_
  refine gp zL ?_
  refine zc (fun _ => ?_) (c := fun w1 F1 F2 h1 h2 hd hst => block_ok h1 (hE.mv hst.still) (hr.mv hst.still) hb)
  refine gl_nil ?_
  refine gx_block_normal ?_
  refine gx_ret0' rfl ?_
  exact ze ()

set_option maxHeartbeats 400000 in
theorem body6_ok {w : World} {F : Nat → Prop} {g TE : Nat} {ea : Nat → Addr} {s : WS} {cs : List Value} {m : Msg} (h : stars [WrR TE ea g s] w F) {es : List Nat} [Has es 1] (hE : GErr es w (fun k => ¬ F k) TE ea) (hx : RdMsg w (fun k => ¬ F k) cs m) (hk : m.kind = 6) (hb : s.bs.length + 33686 ≤ 1099511627776) :
    Calls Tryd.prog 59 #[.agg (List.toArray [.pointer (some ⟨g, 0, none⟩)]), .agg cs.toArray] w (Post w F (fun _ : Unit => .tuple #[]) (fun _ => [WrR TE ea g (wChg m.chg s)])) := by
  obtain ⟨v, t, p, r, c, rfl, hv, ht, hp, hr, hc⟩ := hx
  have lv := hv.len
  have lt := ht.len
  have lp := hp.len
  have lr := hr.len
  have lc := hc.len
  have z_lv := Len.of lv
  have z_lt := Len.of lt
  have z_lp := Len.of lp
  have z_lr := Len.of lr
  have z_lc := Len.of lc
  refine g_enter (env := [(0, .agg (List.toArray [.pointer (some ⟨g, 0, none⟩)])), (1, .agg (List.toArray (.int .i64 m.kind :: (v ++ (t ++ (p ++ (dc m.wantFrom ++ (dc m.wantBlock ++ (r ++ c)))))))))]) Tryd.func59 rfl h Tryd.ntmps59 rfl rfl ?_
  refine gsr ?_
  refine zbN fun b2 => ?_
  refine zbN fun b3 => ?_
  refine gnt ?_
  refine gsr ?_
  refine gp zfa ?_
  refine gp zl ?_
  refine gnt ?_
  refine gc_block ?_
  refine gsr ?_
  refine gp zei ?_
  refine gp zas ?_
  refine gnt ?_
  refine gc_condF rfl (decide_eq_false (by omega)) ?_
  refine gsr ?_
  refine gp zei ?_
  refine gp zas ?_
  refine gnt ?_
  refine gc_condF rfl (decide_eq_false (by omega)) ?_
  refine gsr ?_
  refine gp zei ?_
  refine gp zas ?_
  refine gnt ?_
  refine gc_condF rfl (decide_eq_false (by omega)) ?_
  refine gsr ?_
  refine gp zei ?_
  refine gp zas ?_
  refine gnt ?_
  refine gc_condF rfl (decide_eq_false (by omega)) ?_
  refine gsr ?_
  refine gp zei ?_
  refine gp zas ?_
  refine gnt ?_
  refine gc_condF rfl (decide_eq_false (by omega)) ?_
  refine gsr ?_
  refine gp zei ?_
  refine gp zas ?_
  refine gnt ?_
  refine gc_condT rfl (decide_eq_true (by omega)) ?_
  refine gc_region ?_
  refine gp zL ?_
  refine gp zfa ?_
  refine gp zL ?_
  refine zc (fun _ => ?_) (c := fun w1 F1 F2 h1 h2 hd hst => change_ok h1 (hE.mv hst.still) (hc.mv hst.still) hb)
  refine gl_nil ?_
  refine gx_block_normal ?_
  refine gx_ret0' rfl ?_
  exact ze ()


theorem body_ok {w : World} {F : Nat → Prop} {g TE : Nat} {ea : Nat → Addr} {s : WS} {cs : List Value} {m : Msg} (h : stars [WrR TE ea g s] w F) {es : List Nat} [Has es 1] (hE : GErr es w (fun k => ¬ F k) TE ea) (hx : RdMsg w (fun k => ¬ F k) cs m) (h1 : 1 ≤ m.kind) (h6 : m.kind ≤ 6) (hb : s.bs.length + 33686 ≤ 1099511627776) :
    Calls Tryd.prog 59 #[.agg (List.toArray [.pointer (some ⟨g, 0, none⟩)]), .agg cs.toArray] w (Post w F (fun _ : Unit => .tuple #[]) (fun _ => [WrR TE ea g (wBody m s)])) := by
  unfold wBody
  by_cases k1 : m.kind = 1
  · rw [if_pos k1]; exact body1_ok h hE hx k1 (by omega)
  rw [if_neg k1]
  by_cases k2 : m.kind = 2
  · rw [if_pos k2]; exact body2_ok h hE hx k2 (by omega)
  rw [if_neg k2]
  by_cases k3 : m.kind = 3
  · rw [if_pos k3]; exact body3_ok h hE hx k3 (by omega)
  rw [if_neg k3]
  by_cases k4 : m.kind = 4
  · rw [if_pos k4]; exact body4_ok h hE hx k4 (by omega)
  rw [if_neg k4]
  by_cases k5 : m.kind = 5
  · rw [if_pos k5]; exact body5_ok h hE hx k5 (by omega)
  rw [if_neg k5]
  exact body6_ok h hE hx (by omega) hb

end Go.Proofs.YtkgbbnhdioghmaaDoor
