/- Walks, by program (wg.py) out of a spec. -/
import Derived.Test.YtkgbbnhdioghmaaDoorRg
import Derived.Test.YtkgbbnhdioghmaaDoorSc
import Derived.Test.YtkgbbnhdioghmaaDoorEngL
namespace Go.Proofs.YtkgbbnhdioghmaaDoor
open Go
set_option linter.unusedVariables false
set_option linter.unusedSimpArgs false


theorem rdList_one {α : Type} {rd : List Value → α → Prop} {w : World} {A : Nat → Prop} {size : Nat} {a : Option Addr} {cs : List Value} {x : α} (h : RdRow w A size a 1 cs) (hl : cs.length = size) (hx : rd cs x) : RdList rd w A size a 1 [x] :=
  ⟨[cs], by simpa using h, (by intro c hc; rw [List.mem_singleton.1 hc]; exact hl), rfl, (by intro i c y h1 h2; cases i with
    | zero => simp at h1 h2; subst h1; subst h2; exact hx
    | succ i => simp at h1)⟩
theorem RdChg.one' {w : World} {A : Nat → Prop} {cs : List Value} {x : Chg} (h : RdChg w A cs x) : ∀ v ∈ cs, v.oneCell' = true := by
  obtain ⟨css, q, h1, h2, h3, h4, h5, h6⟩ := h
  subst h1
  refine all_app' (fun v hv => ?_) h6.one
  obtain ⟨c, hc, hvc⟩ := List.mem_flatten.1 hv
  obtain ⟨i, hi, hci⟩ := List.mem_iff_getElem.1 hc
  have hib : i < x.blocks.length := by omega
  exact (h5 i c x.blocks[i] (by rw [List.getElem?_eq_getElem hi, hci]) (List.getElem?_eq_getElem hib)).one v hvc

attribute [local irreducible] Gl Gc Gx Gs Runs Wt

set_option maxHeartbeats 400000 in
theorem bigTC_ok {w : World} {F : Nat → Prop} {cs : List Value} {x : TC} (h : stars [] w F) (hx : RdTC w (fun k => ¬ F k) cs x) :
    Calls Tryd.prog 55 #[.agg cs.toArray] w (Post w F (fun b : Bool => .bool b) (fun _ => [])) := by
  obtain ⟨a1, n1, c1, rfl, hk1, hd1⟩ := hx
  have hm1 := hd1.max
  simp only [maxLen] at hm1
  refine g_enter (env := [(0, .agg (List.toArray [.int .i64 x.epoch, .int .i64 x.round, .slice a1 n1 c1]))]) Tryd.func55 rfl h Tryd.ntmps55 rfl rfl ?_
  refine gsr ?_
  refine zbN fun b1 => ?_
  refine gp zas ?_
  refine gnt ?_
  refine gc_seq ?_
  refine gsr ?_
  refine gp zfa ?_
  refine gp zl ?_
  refine gp zln ?_
  refine gp zgt ?_
  refine gnt ?_
  refine gif rfl (fun hc8 => ?_) (fun hc8 => ?_)
  · refine gsr ?_
    refine gp zas ?_
    refine gnt ?_
    refine gc_ret ?_
    refine gx_then_ret ?_
    refine gx_ret1 rfl (by conv => lhs; whnf) ?_
    exact ze _
  · refine gc_skip ?_
    refine gx_then ?_
    refine gc_seq ?_
    refine gsr ?_
    refine gp zfa ?_
    refine gp zl ?_
    refine gp zln ?_
    refine gp zmv ?_
    refine gnt ?_
    refine gc_block ?_
    refine gc_loop (α := Nat) (fun k => [pureR (k ≤ n1)]) (fun k => [(12, .int .i64 (k : Int))]) [2, 4, 13, 14, 15, 16, 17, 18, 19] (fun k => n1 - k) 0 ?_ ?_ ?_
    · refine env_start (by kernel_rfl)
    · exact fun w' hw => zlp (Nat.zero_le _) (by repeat (first | exact Sel.nil | (apply Sel.cons; · (repeat (first | exact Pick.here | apply Pick.there))))) w' hw
    · intro k u
      refine gc_pureR (fun hk => ?_)
      replace hk : k ≤ n1 := hk
      refine gsr ?_
      refine gp zlt ?_
      refine gnt ?_
      refine gc_seq ?_
      refine gif rfl (fun hc13 => ?_) (fun hc13 => ?_)
      · have hk' : k < n1 := by (try simp only at hc13); omega
        obtain ⟨g1, o1, cs1, y, ha1, hA1, hg1, hra1, hcl1, hl1, hrd1⟩ := hd1.elem (by decide) hk'
        subst ha1
        obtain ⟨s1, rfl, hs1⟩ := hrd1
        have ls := hs1.len
        refine gc_skip ?_
        refine gx_then ?_
        refine gc_seq ?_
        refine gc_block ?_
        refine gsr ?_
        refine gp (r_indexAddr_slice rfl rfl Ty.sl_52 Ty.sz_178 (by omega) (by omega)) ?_
        refine gp (r_ldNo rfl Ty.row_178 Ty.sz_178 hra1 hcl1 (by decide) hA1) ?_
        refine zal fun b4 => ?_
        refine gl_storeN (wt0 rfl) rfl rfl Ty.sz_178 hcl1 (by repeat (first | exact Pick.here | apply Pick.there)) (by decide) (all_cons' rfl (all_cons' rfl hs1.one)) (updL_all (by rw [hcl1]; rfl)) ?_
        refine gnt ?_
        refine gsr ?_
        refine gp zfa ?_
        refine gp (r_ldN (seg := s1) rfl Ty.row_47 Ty.sz_47 (by repeat (first | exact Pick.here | apply Pick.there)) (by show s1.take 3 = s1; exact List.take_of_length_le (by omega)) ls) ?_
        refine zc (fun r18 => ?_) (c := fun w1 F1 F2 h1 h2 hd hst => bigSig_ok h1 (hs1.mv hst.still))
        refine gnt ?_
        refine gif rfl (fun hc18 => ?_) (fun hc18 => ?_)
        · refine gsr ?_
          refine gp zas ?_
          refine gnt ?_
          refine gc_ret ?_
          refine gx_block_ret ?_
          refine gx_then_ret ?_
          refine gx_round_ret ?_
          refine gx_block_ret ?_
          refine gx_then_ret ?_
          refine gx_ret1 rfl (by conv => lhs; whnf) ?_
          exact ze _
        · refine gc_skip ?_
          refine gx_block_normal ?_
          refine gx_then ?_
          refine gc_region ?_
          refine gp zad ?_
          refine gp zmv ?_
          refine gl_nil ?_
          refine zrd (k + 1) ?_ ?_
          · show n1 - (k + 1) < n1 - k
            omega
          · exact fun w' hw => zlp (show k + 1 ≤ n1 by omega) (by repeat (first | exact Sel.nil | (apply Sel.cons; · (repeat (first | exact Pick.here | apply Pick.there))))) w' hw
      · refine gc_exit ?_
        refine gx_then_exit ?_
        refine gx_round_exit ?_
        refine gx_block_hit ?_
        refine gx_then ?_
        refine gsr ?_
        refine gp zas ?_
        refine gnt ?_
        refine gc_ret ?_
        refine gx_ret1 rfl (by conv => lhs; whnf) ?_
        exact ze _

set_option maxHeartbeats 400000 in
theorem bigChange_ok {w : World} {F : Nat → Prop} {cs : List Value} {x : Chg} (h : stars [] w F) (hx : RdChg w (fun k => ¬ F k) cs x) :
    Calls Tryd.prog 56 #[.agg cs.toArray] w (Post w F (fun b : Bool => .bool b) (fun _ => [])) := by
  obtain ⟨css, q, rfl, hcl, hc3, hb3, hbs, hq⟩ := hx
  have hfl : css.flatten.length = 117 := by rw [flatten_len hcl, hc3]
  have hi := Len.of hfl
  have hj := Len.of hq.len
  refine g_enter (env := [(0, .agg (List.toArray (css.flatten ++ q)))]) Tryd.func56 rfl h Tryd.ntmps56 rfl rfl ?_
  refine gsr ?_
  refine zbN fun b1 => ?_
  refine gp zas ?_
  refine gnt ?_
  refine gc_seq ?_
  refine gsr ?_
  refine gp zfa ?_
  refine gp zL ?_
  refine gp zmv ?_
  refine gnt ?_
  refine gc_block ?_
  refine gc_loop (α := Nat) (fun k => [pureR (k ≤ 3), blk b1 65 (css.flatten ++ q)]) (fun k => [(7, .int .i64 (k : Int))]) [2, 4, 8, 9, 10, 11, 12] (fun k => 3 - k) 0 ?_ ?_ ?_
  · refine env_start (by kernel_rfl)
  · exact fun w' hw => zlp (Nat.zero_le _) (by repeat (first | exact Sel.nil | (apply Sel.cons; · (repeat (first | exact Pick.here | apply Pick.there))))) w' hw
  · intro k u
    refine gc_pureR (fun hk => ?_)
    replace hk : k ≤ 3 := hk
    refine gsr ?_
    refine gp zlt ?_
    refine gnt ?_
    refine gc_seq ?_
    refine gif rfl (fun hc8 => ?_) (fun hc8 => ?_)
    · have hk' : k < 3 := by (try simp only at hc8); omega
      obtain ⟨bc, hbc⟩ : ∃ bc, css[k]? = some bc := ⟨_, List.getElem?_eq_getElem (by omega)⟩
      obtain ⟨xb, hxb⟩ : ∃ xb, x.blocks[k]? = some xb := ⟨_, List.getElem?_eq_getElem (by omega)⟩
      have hB := hbs k bc xb hbc hxb
      have hbl := hB.len
      have il := Len.of hbl
      have jl := One.of hB.one
      refine gc_skip ?_
      refine gx_then ?_
      refine gc_seq ?_
      refine gc_block ?_
      refine gsr ?_
      refine gp (r_indexN (seg := bc) rfl rfl Ty.arr_63 Ty.sz_30 Ty.row_30 (by omega) (by omega) (by rw [show (k : Int).toNat * 39 = k * 39 by omega]; exact flatten_at hcl hbc)) ?_
      refine zal fun b4 => ?_
      refine gl_storeN (wt0 rfl) rfl rfl Ty.sz_30 hbl (by repeat (first | exact Pick.here | apply Pick.there)) (by decide) hB.one (updL_all (by rw [hbl]; rfl)) ?_
      refine gnt ?_
      refine gsr ?_
      refine gp zL ?_
      refine zc (fun r11 => ?_) (c := fun w1 F1 F2 h1 h2 hd hst => bigBlock_ok h1 (hB.mv hst.still))
      refine gnt ?_
      refine gif rfl (fun hc11 => ?_) (fun hc11 => ?_)
      · refine gsr ?_
        refine gp zas ?_
        refine gnt ?_
        refine gc_ret ?_
        refine gx_block_ret ?_
        refine gx_then_ret ?_
        refine gx_round_ret ?_
        refine gx_block_ret ?_
        refine gx_then_ret ?_
        refine gx_ret1 rfl (by conv => lhs; whnf) ?_
        exact ze _
      · refine gc_skip ?_
        refine gx_block_normal ?_
        refine gx_then ?_
        refine gc_region ?_
        refine gp zad ?_
        refine gp zmv ?_
        refine gl_nil ?_
        refine zrd (k + 1) ?_ ?_
        · show 3 - (k + 1) < 3 - k
          omega
        · exact fun w' hw => zlp (show k + 1 ≤ 3 by omega) (by repeat (first | exact Sel.nil | (apply Sel.cons; · (repeat (first | exact Pick.here | apply Pick.there))))) w' hw
    · refine gc_exit ?_
      refine gx_then_exit ?_
      refine gx_round_exit ?_
      refine gx_block_hit ?_
      refine gx_then ?_
      refine gsr ?_
      refine gp zfa ?_
      refine gp zL ?_
      refine zc (fun r15 => ?_) (c := fun w1 F1 F2 h1 h2 hd hst => bigQC_ok h1 (hq.mv hst.still))
      refine gp zas ?_
      refine gnt ?_
      refine gc_ret ?_
      refine gx_ret1 rfl (by conv => lhs; whnf) ?_
      exact ze _

attribute [local irreducible] voteC tmoC propC blkC chgC sgnC tcC qcC dc msgC

set_option maxHeartbeats 400000 in
theorem big_ok {w : World} {F : Nat → Prop} {cs : List Value} {x : Msg} (h : stars [] w F) (hx : RdMsg w (fun k => ¬ F k) cs x) :
    Calls Tryd.prog 22 #[.agg cs.toArray] w (Post w F (fun b : Bool => .bool b) (fun _ => [])) := by
  obtain ⟨cv1, ct1, cp1, br1, cc1, rfl, hv1, ht1, hp1, hbr1, hcc1⟩ := hx
  obtain ⟨sv1, rfl, gv1, rfl, hgv1⟩ := hv1
  obtain ⟨qt1, tt1, st1, rfl, hqt1, htt1, gt1, rfl, hgt1⟩ := ht1
  obtain ⟨bp1, tp1, sp1, rfl, hbp1, htp1, gp1, rfl, hgp1⟩ := hp1
  have ilgv1 := Len.of hgv1.len
  have jlgv1 := One.of hgv1.one
  have ilqt1 := Len.of hqt1.len
  have jlqt1 := One.of hqt1.one
  have iltt1 := Len.of htt1.len
  have jltt1 := One.of htt1.one
  have ilgt1 := Len.of hgt1.len
  have jlgt1 := One.of hgt1.one
  have ilbp1 := Len.of hbp1.len
  have jlbp1 := One.of hbp1.one
  have iltp1 := Len.of htp1.len
  have jltp1 := One.of htp1.one
  have ilgp1 := Len.of hgp1.len
  have jlgp1 := One.of hgp1.one
  have ilbr1 := Len.of hbr1.len
  have jlbr1 := One.of hbr1.one
  have ilcc1 := Len.of hcc1.len
  have jlcc1 := One.of hcc1.one'
  refine g_enter (env := [(0, .agg (List.toArray (.int .i64 x.kind :: ((.int .i64 x.vote.epoch :: .int .i64 x.vote.round :: (dc x.vote.block ++ (.int .i64 x.vote.sender.who :: gv1))) ++ ((.int .i64 x.tmo.epoch :: .int .i64 x.tmo.round :: (qt1 ++ (tt1 ++ (.int .i64 x.tmo.sender.who :: gt1)))) ++ ((bp1 ++ (tp1 ++ (.int .i64 x.prop.sender.who :: gp1))) ++ (dc x.wantFrom ++ (dc x.wantBlock ++ (br1 ++ cc1)))))))))]) Tryd.func22 rfl h Tryd.ntmps22 rfl rfl ?_
  refine gsr ?_
  refine zbN fun b1 => ?_
  refine gp zas ?_
  refine gnt ?_
  refine gsr ?_
  refine gp zfa ?_
  refine gp zfa ?_
  refine gp zfa ?_
  refine gp zL ?_
  refine zc (fun r7 => ?_) (c := fun w1 F1 F2 h1 h2 hd hst => bigSig_ok h1 (hgv1.mv hst.still))
  rcases r7 with _ | _
  · refine gp zmv ?_
    refine gq zfa ?_
    refine gq zfa ?_
    refine gq zL ?_
    refine zc (fun r12 => ?_) (c := fun w1 F1 F2 h1 h2 hd hst => bigQC_ok h1 (hqt1.mv hst.still))
    rcases r12 with _ | _
    · refine gp zpk ?_
      refine gp zmv ?_
      refine gq zfa ?_
      refine gq zfa ?_
      refine gq zL ?_
      refine zc (fun r18 => ?_) (c := fun w1 F1 F2 h1 h2 hd hst => bigTC_ok h1 (htt1.mv hst.still))
      rcases r18 with _ | _
      · refine gp zpk ?_
        refine gp zmv ?_
        refine gq zfa ?_
        refine gq zfa ?_
        refine gq zfa ?_
        refine gq zL ?_
        refine zc (fun r25 => ?_) (c := fun w1 F1 F2 h1 h2 hd hst => bigSig_ok h1 (hgt1.mv hst.still))
        rcases r25 with _ | _
        · refine gp zpk ?_
          refine gp zmv ?_
          refine gq zfa ?_
          refine gq zfa ?_
          refine gq zL ?_
          refine zc (fun r31 => ?_) (c := fun w1 F1 F2 h1 h2 hd hst => bigBlock_ok h1 (hbp1.mv hst.still))
          rcases r31 with _ | _
          · refine gp zpk ?_
            refine gp zmv ?_
            refine gq zfa ?_
            refine gq zfa ?_
            refine gq zL ?_
            refine zc (fun r37 => ?_) (c := fun w1 F1 F2 h1 h2 hd hst => bigTC_ok h1 (htp1.mv hst.still))
            rcases r37 with _ | _
            · refine gp zpk ?_
              refine gp zmv ?_
              refine gq zfa ?_
              refine gq zfa ?_
              refine gq zfa ?_
              refine gq zL ?_
              refine zc (fun r44 => ?_) (c := fun w1 F1 F2 h1 h2 hd hst => bigSig_ok h1 (hgp1.mv hst.still))
              rcases r44 with _ | _
              · refine gp zpk ?_
                refine gp zmv ?_
                refine gq zfa ?_
                refine gq zfa ?_
                refine gq zL ?_
                refine zc (fun r50 => ?_) (c := fun w1 F1 F2 h1 h2 hd hst => bigBlock_ok h1 (hbr1.mv hst.still))
                rcases r50 with _ | _
                · refine gp zpk ?_
                  refine gp zmv ?_
                  refine gq zfa ?_
                  refine gq zL ?_
                  refine zc (fun r55 => ?_) (c := fun w1 F1 F2 h1 h2 hd hst => bigChange_ok h1 (hcc1.mv hst.still))
                  refine gp zpk ?_
                  refine gp zas ?_
                  refine gnt ?_
                  refine gc_ret ?_
                  refine gx_ret1 rfl (by conv => lhs; whnf) ?_
                  exact ze _
                · refine gp zpk ?_
                  refine gp zmv ?_
                  refine gn ?_
                  refine gn ?_
                  refine gn ?_
                  refine gp zpk ?_
                  refine gp zas ?_
                  refine gnt ?_
                  refine gc_ret ?_
                  refine gx_ret1 rfl (by conv => lhs; whnf) ?_
                  exact ze _
              · refine gp zpk ?_
                refine gp zmv ?_
                refine gn ?_
                refine gn ?_
                refine gn ?_
                refine gn ?_
                refine gp zpk ?_
                refine gp zmv ?_
                refine gn ?_
                refine gn ?_
                refine gn ?_
                refine gp zpk ?_
                refine gp zas ?_
                refine gnt ?_
                refine gc_ret ?_
                refine gx_ret1 rfl (by conv => lhs; whnf) ?_
                exact ze _
            · refine gp zpk ?_
              refine gp zmv ?_
              refine gn ?_
              refine gn ?_
              refine gn ?_
              refine gn ?_
              refine gn ?_
              refine gp zpk ?_
              refine gp zmv ?_
              refine gn ?_
              refine gn ?_
              refine gn ?_
              refine gn ?_
              refine gp zpk ?_
              refine gp zmv ?_
              refine gn ?_
              refine gn ?_
              refine gn ?_
              refine gp zpk ?_
              refine gp zas ?_
              refine gnt ?_
              refine gc_ret ?_
              refine gx_ret1 rfl (by conv => lhs; whnf) ?_
              exact ze _
          · refine gp zpk ?_
            refine gp zmv ?_
            refine gn ?_
            refine gn ?_
            refine gn ?_
            refine gn ?_
            refine gp zpk ?_
            refine gp zmv ?_
            refine gn ?_
            refine gn ?_
            refine gn ?_
            refine gn ?_
            refine gn ?_
            refine gp zpk ?_
            refine gp zmv ?_
            refine gn ?_
            refine gn ?_
            refine gn ?_
            refine gn ?_
            refine gp zpk ?_
            refine gp zmv ?_
            refine gn ?_
            refine gn ?_
            refine gn ?_
            refine gp zpk ?_
            refine gp zas ?_
            refine gnt ?_
            refine gc_ret ?_
            refine gx_ret1 rfl (by conv => lhs; whnf) ?_
            exact ze _
        · refine gp zpk ?_
          refine gp zmv ?_
          refine gn ?_
          refine gn ?_
          refine gn ?_
          refine gn ?_
          refine gp zpk ?_
          refine gp zmv ?_
          refine gn ?_
          refine gn ?_
          refine gn ?_
          refine gn ?_
          refine gp zpk ?_
          refine gp zmv ?_
          refine gn ?_
          refine gn ?_
          refine gn ?_
          refine gn ?_
          refine gn ?_
          refine gp zpk ?_
          refine gp zmv ?_
          refine gn ?_
          refine gn ?_
          refine gn ?_
          refine gn ?_
          refine gp zpk ?_
          refine gp zmv ?_
          refine gn ?_
          refine gn ?_
          refine gn ?_
          refine gp zpk ?_
          refine gp zas ?_
          refine gnt ?_
          refine gc_ret ?_
          refine gx_ret1 rfl (by conv => lhs; whnf) ?_
          exact ze _
      · refine gp zpk ?_
        refine gp zmv ?_
        refine gn ?_
        refine gn ?_
        refine gn ?_
        refine gn ?_
        refine gn ?_
        refine gp zpk ?_
        refine gp zmv ?_
        refine gn ?_
        refine gn ?_
        refine gn ?_
        refine gn ?_
        refine gp zpk ?_
        refine gp zmv ?_
        refine gn ?_
        refine gn ?_
        refine gn ?_
        refine gn ?_
        refine gp zpk ?_
        refine gp zmv ?_
        refine gn ?_
        refine gn ?_
        refine gn ?_
        refine gn ?_
        refine gn ?_
        refine gp zpk ?_
        refine gp zmv ?_
        refine gn ?_
        refine gn ?_
        refine gn ?_
        refine gn ?_
        refine gp zpk ?_
        refine gp zmv ?_
        refine gn ?_
        refine gn ?_
        refine gn ?_
        refine gp zpk ?_
        refine gp zas ?_
        refine gnt ?_
        refine gc_ret ?_
        refine gx_ret1 rfl (by conv => lhs; whnf) ?_
        exact ze _
    · refine gp zpk ?_
      refine gp zmv ?_
      refine gn ?_
      refine gn ?_
      refine gn ?_
      refine gn ?_
      refine gp zpk ?_
      refine gp zmv ?_
      refine gn ?_
      refine gn ?_
      refine gn ?_
      refine gn ?_
      refine gn ?_
      refine gp zpk ?_
      refine gp zmv ?_
      refine gn ?_
      refine gn ?_
      refine gn ?_
      refine gn ?_
      refine gp zpk ?_
      refine gp zmv ?_
      refine gn ?_
      refine gn ?_
      refine gn ?_
      refine gn ?_
      refine gp zpk ?_
      refine gp zmv ?_
      refine gn ?_
      refine gn ?_
      refine gn ?_
      refine gn ?_
      refine gn ?_
      refine gp zpk ?_
      refine gp zmv ?_
      refine gn ?_
      refine gn ?_
      refine gn ?_
      refine gn ?_
      refine gp zpk ?_
      refine gp zmv ?_
      refine gn ?_
      refine gn ?_
      refine gn ?_
      refine gp zpk ?_
      refine gp zas ?_
      refine gnt ?_
      refine gc_ret ?_
      refine gx_ret1 rfl (by conv => lhs; whnf) ?_
      exact ze _
  · refine gp zmv ?_
    refine gn ?_
    refine gn ?_
    refine gn ?_
    refine gn ?_
    refine gp zpk ?_
    refine gp zmv ?_
    refine gn ?_
    refine gn ?_
    refine gn ?_
    refine gn ?_
    refine gp zpk ?_
    refine gp zmv ?_
    refine gn ?_
    refine gn ?_
    refine gn ?_
    refine gn ?_
    refine gn ?_
    refine gp zpk ?_
    refine gp zmv ?_
    refine gn ?_
    refine gn ?_
    refine gn ?_
    refine gn ?_
    refine gp zpk ?_
    refine gp zmv ?_
    refine gn ?_
    refine gn ?_
    refine gn ?_
    refine gn ?_
    refine gp zpk ?_
    refine gp zmv ?_
    refine gn ?_
    refine gn ?_
    refine gn ?_
    refine gn ?_
    refine gn ?_
    refine gp zpk ?_
    refine gp zmv ?_
    refine gn ?_
    refine gn ?_
    refine gn ?_
    refine gn ?_
    refine gp zpk ?_
    refine gp zmv ?_
    refine gn ?_
    refine gn ?_
    refine gn ?_
    refine gp zpk ?_
    refine gp zas ?_
    refine gnt ?_
    refine gc_ret ?_
    refine gx_ret1 rfl (by conv => lhs; whnf) ?_
    exact ze _

end Go.Proofs.YtkgbbnhdioghmaaDoor
