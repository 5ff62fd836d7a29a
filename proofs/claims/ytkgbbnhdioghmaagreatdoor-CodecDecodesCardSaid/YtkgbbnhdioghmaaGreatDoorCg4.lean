/- Part 4 of 6. What is proved: see the last part: for every input the law returns true, and the input reads as it did. -/
import Derived.Test.YtkgbbnhdioghmaaGreatDoorCg3
/- Walks, by program (wg.py) out of a spec. -/
namespace Go.Proofs.YtkgbbnhdioghmaaGreatDoor
open Go
set_option linter.unusedVariables false
set_option linter.unusedSimpArgs false

attribute [local irreducible] Gl Gc Gx Gs Runs Wt

set_option maxHeartbeats 400000 in
theorem rtc1_ok {w : World} {F : Nat → Prop} {TE : Nat} {ea : Nat → Addr} {g : Nat} {σ : RSt} (h : stars [RdrR TE ea g σ] w F) {es : List Nat} [Has es 1] [Has es 2] (hE : GErr es w (fun k => ¬ F k) TE ea) :
    Calls Tryz.prog 154 #[.pointer (some ⟨g, 0, none⟩)] w (Post w F (fun r : List Value × Late => .agg r.1.toArray) (fun r => [pureR (Ag pLate σ r.2 ∧ r.1.length = 5 ∧ ∀ v ∈ r.1, v.oneCell' = true), VlR RdLate r.1 r.2, RdrR TE ea g (rstep pLate σ)])) := by
  refine g_enter (env := [(0, .pointer (some ⟨g, 0, none⟩))]) Tryz.func154 rfl h Tryz.ntmps154 rfl rfl ?_
  refine gsr ?_
  refine zal fun b2 => ?_
  refine gnt ?_
  refine gsr ?_
  refine gp zmv ?_
  refine zc (fun x => ?_) (c := fun w1 F1 F2 h1 h2 hd hst => rnum_ok (wd := 1) h1 (hE.mv hst.still) (by decide) (by decide))
  refine gl_pureR (fun hp4 => ?_)
  obtain ⟨g4, _⟩ := hp4
  refine gp zfa ?_
  refine zs1 ?_
  refine gnt ?_
  refine gsr ?_
  refine gp zmv ?_
  refine zc (fun y => ?_) (c := fun w1 F1 F2 h1 h2 hd hst => rnum_ok (wd := 6) h1 (hE.mv hst.still) (by decide) (by decide))
  refine gl_pureR (fun hp7 => ?_)
  obtain ⟨g7, _⟩ := hp7
  refine gp zfa ?_
  refine zs1 ?_
  refine gnt ?_
  refine gsr ?_
  refine gp zmv ?_
  refine gp zbu ?_
  refine zc ?_ (c := fun w1 F1 F2 h1 h2 hd hst => rsig_ok h1 (hE.mv hst.still))
  rintro ⟨q11, v11⟩
  refine gl_pureR (fun hp11 => ?_)
  obtain ⟨g11, z11, o11⟩ := hp11
  replace z11 : q11.length = _ := z11
  have i11 := Len.of z11
  have j11 := One.of (show ∀ v ∈ q11, v.oneCell' = true from o11)
  refine gp zfa ?_
  refine zsN ?_
  refine gnt ?_
  refine gsr ?_
  refine gp zL ?_
  refine zsN ?_
  refine gnt ?_
  refine gc_ret ?_
  refine gx_retc rfl rfl (ld_aggS Ty.row_179 Ty.sz_179 (by repeat (first | exact Pick.here | apply Pick.there)) (by (simp only [List.drop_succ_cons, List.drop_zero, List.take_succ_cons, List.take_zero, List.cons_append, List.nil_append, List.append_assoc, drop_dc, drop_dc', take_dc, take_dc', drop_L, drop_L', take_L, take_L', len_L, Nat.reduceLeDiff, Nat.reduceSub, Nat.reduceAdd, Nat.le_refl, List.length_cons, List.length_append, List.length_nil, dc_length, List.drop_nil, List.take_nil, List.append_nil, List.length_map, List.length_replicate]; first | done | rfl)) (by first | rfl | (simp only [List.drop_succ_cons, List.drop_zero, List.take_succ_cons, List.take_zero, List.cons_append, List.nil_append, List.append_assoc, drop_dc, drop_dc', take_dc, take_dc', drop_L, drop_L', take_L, take_L', len_L, Nat.reduceLeDiff, Nat.reduceSub, Nat.reduceAdd, Nat.le_refl, List.length_cons, List.length_append, List.length_nil, dc_length, List.drop_nil, List.take_nil, List.append_nil, List.length_map, List.length_replicate]; first | done | omega))) ?_
  have ha : Ag pLate σ ⟨x, y, v11⟩ := g4.bind (g7.bind (g11.bind (Ag.pure _)))
  have hr : rstep pLate σ = rstep pSig (rstep (pNum 6) (rstep (pNum 1) (σ))) := by rw [pLate, rstep_bind g4, rstep_bind g7, rstep_bind g11, rstep_pure]
  rw [hr]
  intro w' hw
  refine ⟨(.int .i64 x :: .int .i64 y :: q11, ⟨x, y, v11⟩), rfl, St.pureI ⟨ha, by first | rfl | simp only [List.length_cons, List.length_append, List.length_nil, dc_length, len_L] , all_cons' rfl (all_cons' rfl o11)⟩ ?_⟩
  exact (hw.conv (M := [VlR RdSig q11 v11]) (by repeat (first | exact Sel.nil | (apply Sel.cons; · (repeat (first | exact Pick.here | apply Pick.there))))) (fun _ _ => vl_late)).sel (by repeat (first | exact Sel.nil | (apply Sel.cons; · (repeat (first | exact Pick.here | apply Pick.there)))))

set_option maxHeartbeats 400000 in
theorem takeLates_ok {w : World} {F : Nat → Prop} {TE : Nat} {ea : Nat → Addr} {g : Nat} {σ : RSt} (h : stars [RdrR TE ea g σ] w F) {es : List Nat} [Has es 1] [Has es 2] (hE : GErr es w (fun k => ¬ F k) TE ea) {most : Nat} (hm : most ≤ 255) :
    Calls Tryz.prog 153 #[.pointer (some ⟨g, 0, none⟩), .int .i64 (most : Int), .func (.func 154) #[] #[]] w (Post w F (fun r : Option Addr × Nat × Nat × List Late => .slice r.1 r.2.1 r.2.2.1) (fun r => [pureR (Ag (pList pLate most) σ r.2.2.2 ∧ r.2.1 ≤ r.2.2.1 ∧ r.2.1 = r.2.2.2.length), LsR (RdLate) 5 r.1 r.2.1 r.2.2.2, RdrR TE ea g (rstep (pList pLate most) σ)])) := by
  refine g_enter (env := [(0, .pointer (some ⟨g, 0, none⟩)), (1, .int .i64 (most : Int)), (2, .func (.func 154) #[] #[])]) Tryz.func153 rfl h Tryz.ntmps153 rfl rfl ?_
  refine gsr ?_
  refine gp zas ?_
  refine gnt ?_
  refine gsr ?_
  refine gp zmv ?_
  refine zc (fun x => ?_) (c := fun w1 F1 F2 h1 h2 hd hst => rnum_ok (wd := 1) h1 (hE.mv hst.still) (by decide) (by decide))
  refine gl_pureR (fun hx => ?_)
  obtain ⟨hx, hxb⟩ := hx
  have hx256 : x < 256 := by simpa using hxb
  refine gp zas ?_
  refine gnt ?_
  refine gc_join (α := RSt) (fun σ2 => [pureR ((if errOf (rstep (pNum 1) σ) = 0 ∧ most < x then failE 1 (rstep (pNum 1) σ) else rstep (pNum 1) σ) = σ2), RdrR TE ea g σ2]) (fun σ2 => []) [12, 13, 14, 15, 16, 17, 18, 19, 20, 21, 22, 23, 24, 25, 26, 27] ?_ ?_
  · refine gc_join (α := Bool) (fun z => [pureR (z = (decide (errOf (rstep (pNum 1) σ) = 0) && decide (most < x))), RdrR TE ea g (rstep (pNum 1) σ)]) (fun z => [(22, .bool z)]) [12, 13, 14, 15, 16, 17, 18, 19, 20, 21] ?_ ?_
    · by_cases he : errOf (rstep (pNum 1) σ) = 0
      · refine gc_region ?_
        refine gp zmv ?_
        refine gp znc ?_
        refine gp zfa ?_
        refine gp zfa ?_
        refine gp r_lde ?_
        refine gp (r_bool (c := true) (r_eqnil rfl (by kernel_rfl)) (decide_eq_true he)) ?_
        refine gp zmv ?_
        refine gq zmv ?_
        refine gq zmv ?_
        refine gq (r_bool (b := decide ((most : Int) < (x : Int))) zgt rfl) ?_
        refine gp zpk ?_
        refine gl_nil ?_
        refine zjn (decide ((most : Int) < (x : Int))) ?_
        · exact zlp (by rw [decide_eq_true he, Bool.true_and]; exact decide_eq_decide.2 (by omega))
      · refine gc_region ?_
        refine gp zmv ?_
        refine gp znc ?_
        refine gp zfa ?_
        refine gp zfa ?_
        refine gp r_lde ?_
        refine gp (r_bool (c := false) (r_eqnil rfl (by kernel_rfl)) (decide_eq_false he)) ?_
        refine gp zmv ?_
        refine gn ?_
        refine gn ?_
        refine gn ?_
        refine gp zpk ?_
        refine gl_nil ?_
        refine zjn (false) ?_
        · exact zlp (by rw [decide_eq_false he]; rfl)
    · intro z u
      refine gc_pureR (fun hz => ?_)
      subst hz
      refine gif rfl (fun hc22 => ?_) (fun hc22 => ?_)
      · try simp only at hc22
        have hb : errOf (rstep (pNum 1) σ) = 0 ∧ most < x := by omega
        refine gc_regionT 4 (by kernel_rfl) (by kernel_rfl) ?_
        refine sp zmv ?_
        refine sp znc ?_
        refine sp zfa ?_
        refine sp (r_ld1o rfl Ty.row_38 (hE.c 1 Has.h) (hE.n 1 Has.h)) ?_
        refine gs_nil ?_
        refine zc (fun _ => ?_) (c := fun w1 F1 F2 h1 h2 hd hst => failR_ok (by decide) h1)
        refine gl_nil ?_
        refine zjn (failE 1 (rstep (pNum 1) σ)) ?_
        · exact zlp (if_pos hb)
      · try simp only at hc22
        have hb : ¬ (errOf (rstep (pNum 1) σ) = 0 ∧ most < x) := by omega
        refine gc_skip ?_
        refine zjn ((rstep (pNum 1) σ)) ?_
        · exact zlp (if_neg hb)
  · intro σ2 u
    refine gc_pureR (fun hc2 => ?_)
    refine gsr ?_
    refine gp zas ?_
    refine gnt ?_
    refine gc_seq ?_
    refine gsr ?_
    refine gp zas ?_
    refine gnt ?_
    refine gc_block ?_
    refine gc_loop (α := Nat × RSt × Option Addr × Nat × List (List Value) × List Late) (fun y => [pureR (y.1 ≤ x ∧ Many pLate x σ2 (x - y.1) y.2.1 y.2.2.2.2.2 ∧ (∀ c ∈ y.2.2.2.2.1, c.length = 5) ∧ y.2.2.2.2.2.length = y.1), rowR 179 5 y.2.2.1 y.1 y.2.2.2.1 y.2.2.2.2.1.flatten, ElR (RdLate) y.2.2.2.2.1 y.2.2.2.2.2, RdrR TE ea g y.2.1]) (fun y => [(8, .slice y.2.2.1 y.1 y.2.2.2.1), (9, .int .i64 (y.1 : Int))]) [28, 29, 30, 31, 32, 33, 34, 35, 36, 37, 38, 39, 40, 41, 42, 43, 44, 45, 46] (fun y => x - y.1) (0, σ2, none, 0, [], []) ?_ ?_ ?_
    · refine env_start (by kernel_rfl)
    · exact fun w' hw => zlp ⟨Nat.zero_le _, Many.start, (by intro c hc; cases hc), rfl⟩ (by repeat (first | exact Sel.nil | (apply Sel.cons; · (repeat (first | exact Pick.here | apply Pick.there))))) w' (hw.mapL fun F' hF' => stars_row_nil (e := 179) (size := 5) (el_nil (rd := RdLate) hF'))
    · intro y u
      obtain ⟨k, τ, a, c, css, l⟩ := y
      refine gc_pureR (fun hk => ?_)
      obtain ⟨hk, hmany, hcss, hll⟩ := hk
      replace hk : k ≤ x := hk
      replace hll : l.length = k := hll
      replace hcss : ∀ c ∈ css, c.length = 5 := hcss
      replace hmany : Many pLate x σ2 (x - k) τ l := hmany
      refine gc_seq ?_
      refine gc_seq ?_
      by_cases hkx : k < x
      · refine gc_region ?_
        refine gp zmv ?_
        refine gp zmv ?_
        refine gp (r_bool (c := true) zlt (decide_eq_true (by omega))) ?_
        refine gp zmv ?_
        refine gq zmv ?_
        refine gq znc ?_
        refine gq zfa ?_
        refine gq zfa ?_
        refine gq r_lde ?_
        refine gq (r_eqnil rfl (by kernel_rfl)) ?_
        refine gp zpk ?_
        refine gnt ?_
        refine gif rfl (fun hc38 => ?_) (fun hc38 => ?_)
        · try simp only at hc38
          have he2 : errOf τ = 0 := hc38
          refine gc_skip ?_
          refine gx_then ?_
          refine gc_seq ?_
          refine gc_block ?_
          refine gc_region ?_
          refine gp zmv ?_
          refine gp zmv ?_
          refine gp zmv ?_
          refine gl_call (wt0 rfl) (e_callv (us := []) rfl Ty.call_154 rfl) (by repeat (first | exact Sel.nil | (apply Sel.cons; · (repeat (first | exact Pick.here | apply Pick.there))))) (fun w1 F1 F2 h1 h2 hd hst => rtc1_ok h1 (hE.mv hst.still)) ?_
          rintro ⟨cs, v⟩
          refine gl_pureR (fun h44 => ?_)
          obtain ⟨hag, hcl, hone⟩ := h44
          replace hcl : cs.length = _ := hcl
          have i1 := Len.of hcl
          have i2 := One.of (show ∀ v ∈ cs, v.oneCell' = true from hone)
          refine zeN fun b45 => ?_
          refine zapo (news := cs) (fun a46 c46 => ?_)
          refine gp zas ?_
          refine gl_nil ?_
          refine gx_block_normal ?_
          refine gx_then ?_
          refine gc_region ?_
          refine gp zmv ?_
          refine gp zad ?_
          refine gp zas ?_
          refine gl_nil ?_
          refine zrd ((k + 1, rstep pLate τ, a46, c46, css ++ [cs], l ++ [v])) ?_ ?_
          · show x - (k + 1) < x - k
            omega
          · rintro w' hw
            have h1 := hw.conv (M := [ElR (RdLate) css l, VlR (RdLate) cs v]) (by repeat (first | exact Sel.nil | (apply Sel.cons; · (repeat (first | exact Pick.here | apply Pick.there))))) (fun _ _ => el_snoc)
            refine zlq (M' := [rowR 179 5 a46 (k + 1) c46 (css.flatten ++ cs), ElR (RdLate) (css ++ [cs]) (l ++ [v]), RdrR TE ea g (rstep pLate τ)]) ⟨?_, ?_, ?_, ?_⟩ (by simp) (by repeat (first | exact Sel.nil | (apply Sel.cons; · (repeat (first | exact Pick.here | apply Pick.there))))) w' h1
            · show k + 1 ≤ x; omega
            · rw [show x - k = x - (k + 1) + 1 by omega] at hmany; exact hmany.next hag
            · intro c' hc'; rcases List.mem_append.1 hc' with h | h; exact hcss c' h; rw [List.mem_singleton.1 h]; exact hcl
            · simp [hll]
        · try simp only at hc38
          have he2 : ¬ errOf τ = 0 := hc38
          refine gc_exit ?_
          refine gx_then_exit ?_
          refine gx_round_exit ?_
          refine gx_block_hit ?_
          refine gx_then ?_
          refine gc_seq ?_
          refine gsr ?_
          refine gp zmv ?_
          refine gp znc ?_
          refine gp zfa ?_
          refine gp zfa ?_
          refine gp r_lde ?_
          refine gp (r_nenil rfl (by kernel_rfl)) ?_
          refine gnt ?_
          refine gif rfl (fun hc52 => ?_) (fun hc52 => ?_)
          · try simp only at hc52
            have hbad := hmany.bad hc52
            have hfin := list_fin hx hc2 ⟨hbad.1, hbad.2 []⟩
            refine gsr ?_
            refine gp zas ?_
            refine gnt ?_
            refine gc_ret ?_
            refine gx_then_ret ?_
            refine gx_ret1 rfl (by conv => lhs; whnf) ?_
            rw [hfin.1]
            exact fun w' hw => ⟨(none, 0, 0, []), rfl, St.pureI ⟨hfin.2, Nat.le_refl _, rfl⟩ ((hw.sel (M := [RdrR TE ea g τ]) (by repeat (first | exact Sel.nil | (apply Sel.cons; · (repeat (first | exact Pick.here | apply Pick.there)))))).mapL fun F' hF' => ls_nil hF')⟩
          · try simp only at hc52
            have hm0 : x - k = 0 := by first | omega | exact absurd hc52 he2
            rw [hm0] at hmany
            have hfin := list_fin hx hc2 hmany.done
            refine gc_skip ?_
            refine gx_then ?_
            refine gsr ?_
            refine gp zmv ?_
            refine gp zas ?_
            refine gnt ?_
            refine gc_ret ?_
            refine gx_ret1 rfl (by conv => lhs; whnf) ?_
            rw [hfin.1]
            intro w' hw
            have hle := (hw.rowLe (e := 179) (size := 5) (a := a) (m := k) (c := c) (xs := css.flatten) (by repeat (first | exact Pick.here | apply Pick.there))).1
            exact ⟨(a, k, c, l), rfl, St.pureI ⟨hfin.2, hle, hll.symm⟩ ((hw.conv (M := [rowR 179 5 a k c css.flatten, ElR (RdLate) css l]) (by repeat (first | exact Sel.nil | (apply Sel.cons; · (repeat (first | exact Pick.here | apply Pick.there))))) (fun _ _ => ls_of hcss)).sel (by repeat (first | exact Sel.nil | (apply Sel.cons; · (repeat (first | exact Pick.here | apply Pick.there))))))⟩
      · refine gc_region ?_
        refine gp zmv ?_
        refine gp zmv ?_
        refine gp (r_bool (c := false) zlt (decide_eq_false (by omega))) ?_
        refine gp zmv ?_
        refine gn ?_
        refine gn ?_
        refine gn ?_
        refine gn ?_
        refine gn ?_
        refine gn ?_
        refine gp zpk ?_
        refine gnt ?_
        refine gc_condF rfl rfl ?_
        refine gc_exit ?_
        refine gx_then_exit ?_
        refine gx_round_exit ?_
        refine gx_block_hit ?_
        refine gx_then ?_
        refine gc_seq ?_
        refine gsr ?_
        refine gp zmv ?_
        refine gp znc ?_
        refine gp zfa ?_
        refine gp zfa ?_
        refine gp r_lde ?_
        refine gp (r_nenil rfl (by kernel_rfl)) ?_
        refine gnt ?_
        refine gif rfl (fun hc52 => ?_) (fun hc52 => ?_)
        · try simp only at hc52
          have hbad := hmany.bad hc52
          have hfin := list_fin hx hc2 ⟨hbad.1, hbad.2 []⟩
          refine gsr ?_
          refine gp zas ?_
          refine gnt ?_
          refine gc_ret ?_
          refine gx_then_ret ?_
          refine gx_ret1 rfl (by conv => lhs; whnf) ?_
          rw [hfin.1]
          exact fun w' hw => ⟨(none, 0, 0, []), rfl, St.pureI ⟨hfin.2, Nat.le_refl _, rfl⟩ ((hw.sel (M := [RdrR TE ea g τ]) (by repeat (first | exact Sel.nil | (apply Sel.cons; · (repeat (first | exact Pick.here | apply Pick.there)))))).mapL fun F' hF' => ls_nil hF')⟩
        · try simp only at hc52
          have hm0 : x - k = 0 := by first | omega | exact absurd hc52 he2
          rw [hm0] at hmany
          have hfin := list_fin hx hc2 hmany.done
          refine gc_skip ?_
          refine gx_then ?_
          refine gsr ?_
          refine gp zmv ?_
          refine gp zas ?_
          refine gnt ?_
          refine gc_ret ?_
          refine gx_ret1 rfl (by conv => lhs; whnf) ?_
          rw [hfin.1]
          intro w' hw
          have hle := (hw.rowLe (e := 179) (size := 5) (a := a) (m := k) (c := c) (xs := css.flatten) (by repeat (first | exact Pick.here | apply Pick.there))).1
          exact ⟨(a, k, c, l), rfl, St.pureI ⟨hfin.2, hle, hll.symm⟩ ((hw.conv (M := [rowR 179 5 a k c css.flatten, ElR (RdLate) css l]) (by repeat (first | exact Sel.nil | (apply Sel.cons; · (repeat (first | exact Pick.here | apply Pick.there))))) (fun _ _ => ls_of hcss)).sel (by repeat (first | exact Sel.nil | (apply Sel.cons; · (repeat (first | exact Pick.here | apply Pick.there))))))⟩

set_option maxHeartbeats 400000 in
theorem rtc_ok {w : World} {F : Nat → Prop} {TE : Nat} {ea : Nat → Addr} {g : Nat} {σ : RSt} (h : stars [RdrR TE ea g σ] w F) {es : List Nat} [Has es 1] [Has es 2] (hE : GErr es w (fun k => ¬ F k) TE ea) :
    Calls Tryz.prog 113 #[.agg (List.toArray [.pointer (some ⟨g, 0, none⟩)])] w (Post w F (fun r : List Value × TC => .agg r.1.toArray) (fun r => [pureR (Ag pTC σ r.2 ∧ r.1.length = 3 ∧ ∀ v ∈ r.1, v.oneCell' = true), VlR RdTC r.1 r.2, RdrR TE ea g (rstep pTC σ)])) := by
  refine g_enter (env := [(0, .agg (List.toArray [.pointer (some ⟨g, 0, none⟩)]))]) Tryz.func113 rfl h Tryz.ntmps113 rfl rfl ?_
  refine gsr ?_
  refine zbN fun b1 => ?_
  refine zal fun b2 => ?_
  refine gnt ?_
  refine gsr ?_
  refine gp zL ?_
  refine zc ?_ (c := fun w1 F1 F2 h1 h2 hd hst => rat_ok h1 (hE.mv hst.still))
  rintro ⟨x5, y5⟩
  refine gl_pureR (fun g5 => ?_)
  replace g5 : Ag pAt _ ((x5 : Int), (y5 : Int)) := g5
  refine gp zmv ?_
  refine gp zex ?_
  refine gp zex ?_
  refine gp zfa ?_
  refine zs1 ?_
  refine gp zfa ?_
  refine zs1 ?_
  refine gnt ?_
  refine gsr ?_
  refine gp zfa ?_
  refine gp zl ?_
  refine zc ?_ (c := fun w1 F1 F2 h1 h2 hd hst => takeLates_ok (most := 7) h1 (hE.mv hst.still) (by decide))
  rintro ⟨a12, n12, c12, l12⟩
  refine gl_pureR (fun hp12 => ?_)
  obtain ⟨g12, k12, e12⟩ := hp12
  replace g12 : Ag (pList pLate 7) _ l12 := g12
  replace k12 : n12 ≤ c12 := k12
  refine gp zfa ?_
  refine zs1 ?_
  refine gnt ?_
  refine gsr ?_
  refine gp zL ?_
  refine zsN ?_
  refine gnt ?_
  refine gc_ret ?_
  refine gx_retc rfl rfl (ld_aggS Ty.row_56 Ty.sz_56 (by repeat (first | exact Pick.here | apply Pick.there)) (by (simp only [List.drop_succ_cons, List.drop_zero, List.take_succ_cons, List.take_zero, List.cons_append, List.nil_append, List.append_assoc, drop_dc, drop_dc', take_dc, take_dc', drop_L, drop_L', take_L, take_L', len_L, Nat.reduceLeDiff, Nat.reduceSub, Nat.reduceAdd, Nat.le_refl, List.length_cons, List.length_append, List.length_nil, dc_length, List.drop_nil, List.take_nil, List.append_nil, List.length_map, List.length_replicate]; first | done | rfl)) (by first | rfl | (simp only [List.drop_succ_cons, List.drop_zero, List.take_succ_cons, List.take_zero, List.cons_append, List.nil_append, List.append_assoc, drop_dc, drop_dc', take_dc, take_dc', drop_L, drop_L', take_L, take_L', len_L, Nat.reduceLeDiff, Nat.reduceSub, Nat.reduceAdd, Nat.le_refl, List.length_cons, List.length_append, List.length_nil, dc_length, List.drop_nil, List.take_nil, List.append_nil, List.length_map, List.length_replicate]; first | done | omega))) ?_
  have ha : Ag pTC σ ⟨x5, y5, l12⟩ := g5.bind (g12.bind (Ag.pure _))
  have hr : rstep pTC σ = rstep (pList pLate 7) (rstep pAt (σ)) := by rw [pTC, rstep_bind g5, rstep_bind g12, rstep_pure]
  rw [hr]
  intro w' hw
  refine ⟨([.int .i64 x5, .int .i64 y5, .slice a12 n12 c12], ⟨x5, y5, l12⟩), rfl, St.pureI ⟨ha, by first | rfl | simp only [List.length_cons, List.length_append, List.length_nil, dc_length, len_L] , all_cons' rfl (all_cons' rfl (all_cons' rfl all_nil'))⟩ ?_⟩
  exact (hw.conv (M := [LsR RdLate 5 a12 n12 l12]) (by repeat (first | exact Sel.nil | (apply Sel.cons; · (repeat (first | exact Pick.here | apply Pick.there))))) (fun _ _ => vl_tc k12)).sel (by repeat (first | exact Sel.nil | (apply Sel.cons; · (repeat (first | exact Pick.here | apply Pick.there)))))

set_option maxHeartbeats 400000 in
theorem rblock1_ok {w : World} {F : Nat → Prop} {TE : Nat} {ea : Nat → Addr} {g : Nat} {σ : RSt} (h : stars [RdrR TE ea g σ] w F) {es : List Nat} [Has es 1] [Has es 2] (hE : GErr es w (fun k => ¬ F k) TE ea) :
    Calls Tryz.prog 139 #[.pointer (some ⟨g, 0, none⟩)] w (Post w F (fun r : (Option Addr × Nat × Nat) × List UInt8 => .slice r.1.1 r.1.2.1 r.1.2.2) (fun r => [pureR (Ag (pBytes 16) σ r.2), VlR RdBytes [.slice r.1.1 r.1.2.1 r.1.2.2] r.2, RdrR TE ea g (rstep (pBytes 16) σ)])) := by
  refine g_enter (env := [(0, .pointer (some ⟨g, 0, none⟩))]) Tryz.func139 rfl h Tryz.ntmps139 rfl rfl ?_
  refine gsr ?_
  refine gp zas ?_
  refine gnt ?_
  refine gsr ?_
  refine gp zmv ?_
  refine zc ?_ (c := fun w1 F1 F2 h1 h2 hd hst => rbytes_ok (most := 16) h1 (hE.mv hst.still) (by decide))
  rintro ⟨a4, c4, l4⟩
  refine gl_pureR (fun hp4 => ?_)
  obtain ⟨g4, b4⟩ := hp4
  refine gp zas ?_
  refine gnt ?_
  refine gc_ret ?_
  refine gx_ret1 rfl (by conv => lhs; whnf) ?_
  exact fun w' hw => ⟨((a4, l4.length, c4), l4), rfl, St.pureI g4 ((hw.conv (M := [rowR 5 1 a4 l4.length c4 (l4.map B8)]) (by repeat (first | exact Sel.nil | (apply Sel.cons; · (repeat (first | exact Pick.here | apply Pick.there))))) (fun _ _ => vl_bytes)).sel (by repeat (first | exact Sel.nil | (apply Sel.cons; · (repeat (first | exact Pick.here | apply Pick.there))))))⟩

set_option maxHeartbeats 400000 in
theorem takeTxs_ok {w : World} {F : Nat → Prop} {TE : Nat} {ea : Nat → Addr} {g : Nat} {σ : RSt} (h : stars [RdrR TE ea g σ] w F) {es : List Nat} [Has es 1] [Has es 2] (hE : GErr es w (fun k => ¬ F k) TE ea) {most : Nat} (hm : most ≤ 255) :
    Calls Tryz.prog 138 #[.pointer (some ⟨g, 0, none⟩), .int .i64 (most : Int), .func (.func 139) #[] #[]] w (Post w F (fun r : Option Addr × Nat × Nat × List (List UInt8) => .slice r.1 r.2.1 r.2.2.1) (fun r => [pureR (Ag (pList (pBytes 16) most) σ r.2.2.2 ∧ r.2.1 ≤ r.2.2.1 ∧ r.2.1 = r.2.2.2.length), LsR (RdBytes) 1 r.1 r.2.1 r.2.2.2, RdrR TE ea g (rstep (pList (pBytes 16) most) σ)])) := by
  refine g_enter (env := [(0, .pointer (some ⟨g, 0, none⟩)), (1, .int .i64 (most : Int)), (2, .func (.func 139) #[] #[])]) Tryz.func138 rfl h Tryz.ntmps138 rfl rfl ?_
  refine gsr ?_
  refine gp zas ?_
  refine gnt ?_
  refine gsr ?_
  refine gp zmv ?_
  refine zc (fun x => ?_) (c := fun w1 F1 F2 h1 h2 hd hst => rnum_ok (wd := 1) h1 (hE.mv hst.still) (by decide) (by decide))
  refine gl_pureR (fun hx => ?_)
  obtain ⟨hx, hxb⟩ := hx
  have hx256 : x < 256 := by simpa using hxb
  refine gp zas ?_
  refine gnt ?_
  refine gc_join (α := RSt) (fun σ2 => [pureR ((if errOf (rstep (pNum 1) σ) = 0 ∧ most < x then failE 1 (rstep (pNum 1) σ) else rstep (pNum 1) σ) = σ2), RdrR TE ea g σ2]) (fun σ2 => []) [12, 13, 14, 15, 16, 17, 18, 19, 20, 21, 22, 23, 24, 25, 26, 27] ?_ ?_
  · refine gc_join (α := Bool) (fun z => [pureR (z = (decide (errOf (rstep (pNum 1) σ) = 0) && decide (most < x))), RdrR TE ea g (rstep (pNum 1) σ)]) (fun z => [(22, .bool z)]) [12, 13, 14, 15, 16, 17, 18, 19, 20, 21] ?_ ?_
    · by_cases he : errOf (rstep (pNum 1) σ) = 0
      · refine gc_region ?_
        refine gp zmv ?_
        refine gp znc ?_
        refine gp zfa ?_
        refine gp zfa ?_
        refine gp r_lde ?_
        refine gp (r_bool (c := true) (r_eqnil rfl (by kernel_rfl)) (decide_eq_true he)) ?_
        refine gp zmv ?_
        refine gq zmv ?_
        refine gq zmv ?_
        refine gq (r_bool (b := decide ((most : Int) < (x : Int))) zgt rfl) ?_
        refine gp zpk ?_
        refine gl_nil ?_
        refine zjn (decide ((most : Int) < (x : Int))) ?_
        · exact zlp (by rw [decide_eq_true he, Bool.true_and]; exact decide_eq_decide.2 (by omega))
      · refine gc_region ?_
        refine gp zmv ?_
        refine gp znc ?_
        refine gp zfa ?_
        refine gp zfa ?_
        refine gp r_lde ?_
        refine gp (r_bool (c := false) (r_eqnil rfl (by kernel_rfl)) (decide_eq_false he)) ?_
        refine gp zmv ?_
        refine gn ?_
        refine gn ?_
        refine gn ?_
        refine gp zpk ?_
        refine gl_nil ?_
        refine zjn (false) ?_
        · exact zlp (by rw [decide_eq_false he]; rfl)
    · intro z u
      refine gc_pureR (fun hz => ?_)
      subst hz
      refine gif rfl (fun hc22 => ?_) (fun hc22 => ?_)
      · try simp only at hc22
        have hb : errOf (rstep (pNum 1) σ) = 0 ∧ most < x := by omega
        refine gc_regionT 4 (by kernel_rfl) (by kernel_rfl) ?_
        refine sp zmv ?_
        refine sp znc ?_
        refine sp zfa ?_
        refine sp (r_ld1o rfl Ty.row_38 (hE.c 1 Has.h) (hE.n 1 Has.h)) ?_
        refine gs_nil ?_
        refine zc (fun _ => ?_) (c := fun w1 F1 F2 h1 h2 hd hst => failR_ok (by decide) h1)
        refine gl_nil ?_
        refine zjn (failE 1 (rstep (pNum 1) σ)) ?_
        · exact zlp (if_pos hb)
      · try simp only at hc22
        have hb : ¬ (errOf (rstep (pNum 1) σ) = 0 ∧ most < x) := by omega
        refine gc_skip ?_
        refine zjn ((rstep (pNum 1) σ)) ?_
        · exact zlp (if_neg hb)
  · intro σ2 u
    refine gc_pureR (fun hc2 => ?_)
    refine gsr ?_
    refine gp zas ?_
    refine gnt ?_
    refine gc_seq ?_
    refine gsr ?_
    refine gp zas ?_
    refine gnt ?_
    refine gc_block ?_
    refine gc_loop (α := Nat × RSt × Option Addr × Nat × List (List Value) × List (List UInt8)) (fun y => [pureR (y.1 ≤ x ∧ Many (pBytes 16) x σ2 (x - y.1) y.2.1 y.2.2.2.2.2 ∧ (∀ c ∈ y.2.2.2.2.1, c.length = 1) ∧ y.2.2.2.2.2.length = y.1), rowR 36 1 y.2.2.1 y.1 y.2.2.2.1 y.2.2.2.2.1.flatten, ElR (RdBytes) y.2.2.2.2.1 y.2.2.2.2.2, RdrR TE ea g y.2.1]) (fun y => [(8, .slice y.2.2.1 y.1 y.2.2.2.1), (9, .int .i64 (y.1 : Int))]) [28, 29, 30, 31, 32, 33, 34, 35, 36, 37, 38, 39, 40, 41, 42, 43, 44, 45, 46] (fun y => x - y.1) (0, σ2, none, 0, [], []) ?_ ?_ ?_
    · refine env_start (by kernel_rfl)
    · exact fun w' hw => zlp ⟨Nat.zero_le _, Many.start, (by intro c hc; cases hc), rfl⟩ (by repeat (first | exact Sel.nil | (apply Sel.cons; · (repeat (first | exact Pick.here | apply Pick.there))))) w' (hw.mapL fun F' hF' => stars_row_nil (e := 36) (size := 1) (el_nil (rd := RdBytes) hF'))
    · intro y u
      obtain ⟨k, τ, a, c, css, l⟩ := y
      refine gc_pureR (fun hk => ?_)
      obtain ⟨hk, hmany, hcss, hll⟩ := hk
      replace hk : k ≤ x := hk
      replace hll : l.length = k := hll
      replace hcss : ∀ c ∈ css, c.length = 1 := hcss
      replace hmany : Many (pBytes 16) x σ2 (x - k) τ l := hmany
      refine gc_seq ?_
      refine gc_seq ?_
      by_cases hkx : k < x
      · refine gc_region ?_
        refine gp zmv ?_
        refine gp zmv ?_
        refine gp (r_bool (c := true) zlt (decide_eq_true (by omega))) ?_
        refine gp zmv ?_
        refine gq zmv ?_
        refine gq znc ?_
        refine gq zfa ?_
        refine gq zfa ?_
        refine gq r_lde ?_
        refine gq (r_eqnil rfl (by kernel_rfl)) ?_
        refine gp zpk ?_
        refine gnt ?_
        refine gif rfl (fun hc38 => ?_) (fun hc38 => ?_)
        · try simp only at hc38
          have he2 : errOf τ = 0 := hc38
          refine gc_skip ?_
          refine gx_then ?_
          refine gc_seq ?_
          refine gc_block ?_
          refine gc_region ?_
          refine gp zmv ?_
          refine gp zmv ?_
          refine gp zmv ?_
          refine gl_call (wt0 rfl) (e_callv (us := []) rfl Ty.call_139 rfl) (by repeat (first | exact Sel.nil | (apply Sel.cons; · (repeat (first | exact Pick.here | apply Pick.there))))) (fun w1 F1 F2 h1 h2 hd hst => rblock1_ok h1 (hE.mv hst.still)) ?_
          rintro ⟨⟨a4, n4, c4⟩, v⟩
          refine gl_pureR (fun hag => ?_)
          obtain ⟨cs, hcs⟩ : ∃ cs : List Value, cs = [.slice a4 n4 c4] := ⟨_, rfl⟩
          have hcl : cs.length = 1 := by rw [hcs]; rfl
          have i2 := One.of (l := cs) (by rw [hcs]; exact all_cons' rfl all_nil')
          refine ze1 fun b45 => ?_
          rw [← hcs]
          refine zapo (news := cs) (fun a46 c46 => ?_)
          refine gp zas ?_
          refine gl_nil ?_
          refine gx_block_normal ?_
          refine gx_then ?_
          refine gc_region ?_
          refine gp zmv ?_
          refine gp zad ?_
          refine gp zas ?_
          refine gl_nil ?_
          refine zrd ((k + 1, rstep (pBytes 16) τ, a46, c46, css ++ [cs], l ++ [v])) ?_ ?_
          · show x - (k + 1) < x - k
            omega
          · rintro w' hw
            have h1 := hw.conv (M := [ElR (RdBytes) css l, VlR (RdBytes) cs v]) (by repeat (first | exact Sel.nil | (apply Sel.cons; · (repeat (first | exact Pick.here | apply Pick.there))))) (fun _ _ => el_snoc)
            refine zlq (M' := [rowR 36 1 a46 (k + 1) c46 (css.flatten ++ cs), ElR (RdBytes) (css ++ [cs]) (l ++ [v]), RdrR TE ea g (rstep (pBytes 16) τ)]) ⟨?_, ?_, ?_, ?_⟩ (by simp) (by repeat (first | exact Sel.nil | (apply Sel.cons; · (repeat (first | exact Pick.here | apply Pick.there))))) w' h1
            · show k + 1 ≤ x; omega
            · rw [show x - k = x - (k + 1) + 1 by omega] at hmany; exact hmany.next hag
            · intro c' hc'; rcases List.mem_append.1 hc' with h | h; exact hcss c' h; rw [List.mem_singleton.1 h]; exact hcl
            · simp [hll]
        · try simp only at hc38
          have he2 : ¬ errOf τ = 0 := hc38
          refine gc_exit ?_
          refine gx_then_exit ?_
          refine gx_round_exit ?_
          refine gx_block_hit ?_
          refine gx_then ?_
          refine gc_seq ?_
          refine gsr ?_
          refine gp zmv ?_
          refine gp znc ?_
          refine gp zfa ?_
          refine gp zfa ?_
          refine gp r_lde ?_
          refine gp (r_nenil rfl (by kernel_rfl)) ?_
          refine gnt ?_
          refine gif rfl (fun hc52 => ?_) (fun hc52 => ?_)
          · try simp only at hc52
            have hbad := hmany.bad hc52
            have hfin := list_fin hx hc2 ⟨hbad.1, hbad.2 []⟩
            refine gsr ?_
            refine gp zas ?_
            refine gnt ?_
            refine gc_ret ?_
            refine gx_then_ret ?_
            refine gx_ret1 rfl (by conv => lhs; whnf) ?_
            rw [hfin.1]
            exact fun w' hw => ⟨(none, 0, 0, []), rfl, St.pureI ⟨hfin.2, Nat.le_refl _, rfl⟩ ((hw.sel (M := [RdrR TE ea g τ]) (by repeat (first | exact Sel.nil | (apply Sel.cons; · (repeat (first | exact Pick.here | apply Pick.there)))))).mapL fun F' hF' => ls_nil hF')⟩
          · try simp only at hc52
            have hm0 : x - k = 0 := by first | omega | exact absurd hc52 he2
            rw [hm0] at hmany
            have hfin := list_fin hx hc2 hmany.done
            refine gc_skip ?_
            refine gx_then ?_
            refine gsr ?_
            refine gp zmv ?_
            refine gp zas ?_
            refine gnt ?_
            refine gc_ret ?_
            refine gx_ret1 rfl (by conv => lhs; whnf) ?_
            rw [hfin.1]
            intro w' hw
            have hle := (hw.rowLe (e := 36) (size := 1) (a := a) (m := k) (c := c) (xs := css.flatten) (by repeat (first | exact Pick.here | apply Pick.there))).1
            exact ⟨(a, k, c, l), rfl, St.pureI ⟨hfin.2, hle, hll.symm⟩ ((hw.conv (M := [rowR 36 1 a k c css.flatten, ElR (RdBytes) css l]) (by repeat (first | exact Sel.nil | (apply Sel.cons; · (repeat (first | exact Pick.here | apply Pick.there))))) (fun _ _ => ls_of hcss)).sel (by repeat (first | exact Sel.nil | (apply Sel.cons; · (repeat (first | exact Pick.here | apply Pick.there))))))⟩
      · refine gc_region ?_
        refine gp zmv ?_
        refine gp zmv ?_
        refine gp (r_bool (c := false) zlt (decide_eq_false (by omega))) ?_
        refine gp zmv ?_
        refine gn ?_
        refine gn ?_
        refine gn ?_
        refine gn ?_
        refine gn ?_
        refine gn ?_
        refine gp zpk ?_
        refine gnt ?_
        refine gc_condF rfl rfl ?_
        refine gc_exit ?_
        refine gx_then_exit ?_
        refine gx_round_exit ?_
        refine gx_block_hit ?_
        refine gx_then ?_
        refine gc_seq ?_
        refine gsr ?_
        refine gp zmv ?_
        refine gp znc ?_
        refine gp zfa ?_
        refine gp zfa ?_
        refine gp r_lde ?_
        refine gp (r_nenil rfl (by kernel_rfl)) ?_
        refine gnt ?_
        refine gif rfl (fun hc52 => ?_) (fun hc52 => ?_)
        · try simp only at hc52
          have hbad := hmany.bad hc52
          have hfin := list_fin hx hc2 ⟨hbad.1, hbad.2 []⟩
          refine gsr ?_
          refine gp zas ?_
          refine gnt ?_
          refine gc_ret ?_
          refine gx_then_ret ?_
          refine gx_ret1 rfl (by conv => lhs; whnf) ?_
          rw [hfin.1]
          exact fun w' hw => ⟨(none, 0, 0, []), rfl, St.pureI ⟨hfin.2, Nat.le_refl _, rfl⟩ ((hw.sel (M := [RdrR TE ea g τ]) (by repeat (first | exact Sel.nil | (apply Sel.cons; · (repeat (first | exact Pick.here | apply Pick.there)))))).mapL fun F' hF' => ls_nil hF')⟩
        · try simp only at hc52
          have hm0 : x - k = 0 := by first | omega | exact absurd hc52 he2
          rw [hm0] at hmany
          have hfin := list_fin hx hc2 hmany.done
          refine gc_skip ?_
          refine gx_then ?_
          refine gsr ?_
          refine gp zmv ?_
          refine gp zas ?_
          refine gnt ?_
          refine gc_ret ?_
          refine gx_ret1 rfl (by conv => lhs; whnf) ?_
          rw [hfin.1]
          intro w' hw
          have hle := (hw.rowLe (e := 36) (size := 1) (a := a) (m := k) (c := c) (xs := css.flatten) (by repeat (first | exact Pick.here | apply Pick.there))).1
          exact ⟨(a, k, c, l), rfl, St.pureI ⟨hfin.2, hle, hll.symm⟩ ((hw.conv (M := [rowR 36 1 a k c css.flatten, ElR (RdBytes) css l]) (by repeat (first | exact Sel.nil | (apply Sel.cons; · (repeat (first | exact Pick.here | apply Pick.there))))) (fun _ _ => ls_of hcss)).sel (by repeat (first | exact Sel.nil | (apply Sel.cons; · (repeat (first | exact Pick.here | apply Pick.there))))))⟩

set_option maxHeartbeats 400000 in
theorem rblock2_ok {w : World} {F : Nat → Prop} {TE : Nat} {ea : Nat → Addr} {g : Nat} {σ : RSt} (h : stars [RdrR TE ea g σ] w F) {es : List Nat} [Has es 1] [Has es 2] (hE : GErr es w (fun k => ¬ F k) TE ea) :
    Calls Tryz.prog 142 #[.pointer (some ⟨g, 0, none⟩)] w (Post w F (fun r : Vdr => .agg (List.toArray (dc r.key ++ [.int .i64 r.power]))) (fun r => [pureR (Ag pVdr σ r), RdrR TE ea g (rstep pVdr σ)])) := by
  refine g_enter (env := [(0, .pointer (some ⟨g, 0, none⟩))]) Tryz.func142 rfl h Tryz.ntmps142 rfl rfl ?_
  refine gsr ?_
  refine zal fun b2 => ?_
  refine gnt ?_
  refine gsr ?_
  refine gp zmv ?_
  refine zc (fun d4 => ?_) (c := fun w1 F1 F2 h1 h2 hd hst => takeDigest_ok h1 (hE.mv hst.still))
  refine gl_pureR (fun g4 => ?_)
  refine gp zfa ?_
  refine zsN ?_
  refine gnt ?_
  refine gsr ?_
  refine gp zmv ?_
  refine zc (fun y => ?_) (c := fun w1 F1 F2 h1 h2 hd hst => rnum_ok (wd := 6) h1 (hE.mv hst.still) (by decide) (by decide))
  refine gl_pureR (fun hp7 => ?_)
  obtain ⟨g7, _⟩ := hp7
  refine gp zfa ?_
  refine zs1 ?_
  refine gnt ?_
  refine gsr ?_
  refine gp zL ?_
  refine zsN ?_
  refine gnt ?_
  refine gc_ret ?_
  refine gx_retc rfl rfl (ld_aggS Ty.row_191 Ty.sz_191 (by repeat (first | exact Pick.here | apply Pick.there)) (by (simp only [List.drop_succ_cons, List.drop_zero, List.take_succ_cons, List.take_zero, List.cons_append, List.nil_append, List.append_assoc, drop_dc, drop_dc', take_dc, take_dc', drop_L, drop_L', take_L, take_L', len_L, Nat.reduceLeDiff, Nat.reduceSub, Nat.reduceAdd, Nat.le_refl, List.length_cons, List.length_append, List.length_nil, dc_length, List.drop_nil, List.take_nil, List.append_nil, List.length_map, List.length_replicate]; first | done | rfl)) (by first | rfl | (simp only [List.drop_succ_cons, List.drop_zero, List.take_succ_cons, List.take_zero, List.cons_append, List.nil_append, List.append_assoc, drop_dc, drop_dc', take_dc, take_dc', drop_L, drop_L', take_L, take_L', len_L, Nat.reduceLeDiff, Nat.reduceSub, Nat.reduceAdd, Nat.le_refl, List.length_cons, List.length_append, List.length_nil, dc_length, List.drop_nil, List.take_nil, List.append_nil, List.length_map, List.length_replicate]; first | done | omega))) ?_
  have ha : Ag pVdr σ ⟨d4, y⟩ := g4.bind (g7.bind (Ag.pure _))
  have hr : rstep pVdr σ = rstep (pNum 6) (rstep pDig (σ)) := by rw [pVdr, rstep_bind g4, rstep_bind g7, rstep_pure]
  rw [hr]
  exact fun w' hw => ⟨⟨d4, y⟩, rfl, St.pureI ha (hw.sel (by repeat (first | exact Sel.nil | (apply Sel.cons; · (repeat (first | exact Pick.here | apply Pick.there))))))⟩

set_option maxHeartbeats 400000 in
theorem takeVdrs_ok {w : World} {F : Nat → Prop} {TE : Nat} {ea : Nat → Addr} {g : Nat} {σ : RSt} (h : stars [RdrR TE ea g σ] w F) {es : List Nat} [Has es 1] [Has es 2] (hE : GErr es w (fun k => ¬ F k) TE ea) {most : Nat} (hm : most ≤ 255) :
    Calls Tryz.prog 141 #[.pointer (some ⟨g, 0, none⟩), .int .i64 (most : Int), .func (.func 142) #[] #[]] w (Post w F (fun r : Option Addr × Nat × Nat × List Vdr => .slice r.1 r.2.1 r.2.2.1) (fun r => [pureR (Ag (pList pVdr most) σ r.2.2.2 ∧ r.2.1 ≤ r.2.2.1 ∧ r.2.1 = r.2.2.2.length), LsR (fun _ _ => RdVdr) 17 r.1 r.2.1 r.2.2.2, RdrR TE ea g (rstep (pList pVdr most) σ)])) := by
  refine g_enter (env := [(0, .pointer (some ⟨g, 0, none⟩)), (1, .int .i64 (most : Int)), (2, .func (.func 142) #[] #[])]) Tryz.func141 rfl h Tryz.ntmps141 rfl rfl ?_
  refine gsr ?_
  refine gp zas ?_
  refine gnt ?_
  refine gsr ?_
  refine gp zmv ?_
  refine zc (fun x => ?_) (c := fun w1 F1 F2 h1 h2 hd hst => rnum_ok (wd := 1) h1 (hE.mv hst.still) (by decide) (by decide))
  refine gl_pureR (fun hx => ?_)
  obtain ⟨hx, hxb⟩ := hx
  have hx256 : x < 256 := by simpa using hxb
  refine gp zas ?_
  refine gnt ?_
  refine gc_join (α := RSt) (fun σ2 => [pureR ((if errOf (rstep (pNum 1) σ) = 0 ∧ most < x then failE 1 (rstep (pNum 1) σ) else rstep (pNum 1) σ) = σ2), RdrR TE ea g σ2]) (fun σ2 => []) [12, 13, 14, 15, 16, 17, 18, 19, 20, 21, 22, 23, 24, 25, 26, 27] ?_ ?_
  · refine gc_join (α := Bool) (fun z => [pureR (z = (decide (errOf (rstep (pNum 1) σ) = 0) && decide (most < x))), RdrR TE ea g (rstep (pNum 1) σ)]) (fun z => [(22, .bool z)]) [12, 13, 14, 15, 16, 17, 18, 19, 20, 21] ?_ ?_
    · by_cases he : errOf (rstep (pNum 1) σ) = 0
      · refine gc_region ?_
        refine gp zmv ?_
        refine gp znc ?_
        refine gp zfa ?_
        refine gp zfa ?_
        refine gp r_lde ?_
        refine gp (r_bool (c := true) (r_eqnil rfl (by kernel_rfl)) (decide_eq_true he)) ?_
        refine gp zmv ?_
        refine gq zmv ?_
        refine gq zmv ?_
        refine gq (r_bool (b := decide ((most : Int) < (x : Int))) zgt rfl) ?_
        refine gp zpk ?_
        refine gl_nil ?_
        refine zjn (decide ((most : Int) < (x : Int))) ?_
        · exact zlp (by rw [decide_eq_true he, Bool.true_and]; exact decide_eq_decide.2 (by omega))
      · refine gc_region ?_
        refine gp zmv ?_
        refine gp znc ?_
        refine gp zfa ?_
        refine gp zfa ?_
        refine gp r_lde ?_
        refine gp (r_bool (c := false) (r_eqnil rfl (by kernel_rfl)) (decide_eq_false he)) ?_
        refine gp zmv ?_
        refine gn ?_
        refine gn ?_
        refine gn ?_
        refine gp zpk ?_
        refine gl_nil ?_
        refine zjn (false) ?_
        · exact zlp (by rw [decide_eq_false he]; rfl)
    · intro z u
      refine gc_pureR (fun hz => ?_)
      subst hz
      refine gif rfl (fun hc22 => ?_) (fun hc22 => ?_)
      · try simp only at hc22
        have hb : errOf (rstep (pNum 1) σ) = 0 ∧ most < x := by omega
        refine gc_regionT 4 (by kernel_rfl) (by kernel_rfl) ?_
        refine sp zmv ?_
        refine sp znc ?_
        refine sp zfa ?_
        refine sp (r_ld1o rfl Ty.row_38 (hE.c 1 Has.h) (hE.n 1 Has.h)) ?_
        refine gs_nil ?_
        refine zc (fun _ => ?_) (c := fun w1 F1 F2 h1 h2 hd hst => failR_ok (by decide) h1)
        refine gl_nil ?_
        refine zjn (failE 1 (rstep (pNum 1) σ)) ?_
        · exact zlp (if_pos hb)
      · try simp only at hc22
        have hb : ¬ (errOf (rstep (pNum 1) σ) = 0 ∧ most < x) := by omega
        refine gc_skip ?_
        refine zjn ((rstep (pNum 1) σ)) ?_
        · exact zlp (if_neg hb)
  · intro σ2 u
    refine gc_pureR (fun hc2 => ?_)
    refine gsr ?_
    refine gp zas ?_
    refine gnt ?_
    refine gc_seq ?_
    refine gsr ?_
    refine gp zas ?_
    refine gnt ?_
    refine gc_block ?_
    refine gc_loop (α := Nat × RSt × Option Addr × Nat × List (List Value) × List Vdr) (fun y => [pureR (y.1 ≤ x ∧ Many pVdr x σ2 (x - y.1) y.2.1 y.2.2.2.2.2 ∧ (∀ c ∈ y.2.2.2.2.1, c.length = 17) ∧ y.2.2.2.2.2.length = y.1), rowR 191 17 y.2.2.1 y.1 y.2.2.2.1 y.2.2.2.2.1.flatten, ElR (fun _ _ => RdVdr) y.2.2.2.2.1 y.2.2.2.2.2, RdrR TE ea g y.2.1]) (fun y => [(8, .slice y.2.2.1 y.1 y.2.2.2.1), (9, .int .i64 (y.1 : Int))]) [28, 29, 30, 31, 32, 33, 34, 35, 36, 37, 38, 39, 40, 41, 42, 43, 44, 45, 46] (fun y => x - y.1) (0, σ2, none, 0, [], []) ?_ ?_ ?_
    · refine env_start (by kernel_rfl)
    · exact fun w' hw => zlp ⟨Nat.zero_le _, Many.start, (by intro c hc; cases hc), rfl⟩ (by repeat (first | exact Sel.nil | (apply Sel.cons; · (repeat (first | exact Pick.here | apply Pick.there))))) w' (hw.mapL fun F' hF' => stars_row_nil (e := 191) (size := 17) (el_nil (rd := fun _ _ => RdVdr) hF'))
    · intro y u
      obtain ⟨k, τ, a, c, css, l⟩ := y
      refine gc_pureR (fun hk => ?_)
      obtain ⟨hk, hmany, hcss, hll⟩ := hk
      replace hk : k ≤ x := hk
      replace hll : l.length = k := hll
      replace hcss : ∀ c ∈ css, c.length = 17 := hcss
      replace hmany : Many pVdr x σ2 (x - k) τ l := hmany
      refine gc_seq ?_
      refine gc_seq ?_
      by_cases hkx : k < x
      · refine gc_region ?_
        refine gp zmv ?_
        refine gp zmv ?_
        refine gp (r_bool (c := true) zlt (decide_eq_true (by omega))) ?_
        refine gp zmv ?_
        refine gq zmv ?_
        refine gq znc ?_
        refine gq zfa ?_
        refine gq zfa ?_
        refine gq r_lde ?_
        refine gq (r_eqnil rfl (by kernel_rfl)) ?_
        refine gp zpk ?_
        refine gnt ?_
        refine gif rfl (fun hc38 => ?_) (fun hc38 => ?_)
        · try simp only at hc38
          have he2 : errOf τ = 0 := hc38
          refine gc_skip ?_
          refine gx_then ?_
          refine gc_seq ?_
          refine gc_block ?_
          refine gc_region ?_
          refine gp zmv ?_
          refine gp zmv ?_
          refine gp zmv ?_
          refine gl_call (wt0 rfl) (e_callv (us := []) rfl Ty.call_142 rfl) (by repeat (first | exact Sel.nil | (apply Sel.cons; · (repeat (first | exact Pick.here | apply Pick.there))))) (fun w1 F1 F2 h1 h2 hd hst => rblock2_ok h1 (hE.mv hst.still)) ?_
          intro v
          refine gl_pureR (fun hag => ?_)
          obtain ⟨cs, hcs⟩ : ∃ cs, cs = dc v.key ++ [.int .i64 v.power] := ⟨_, rfl⟩
          have hcl : cs.length = 17 := by rw [hcs]; simp [dc_length]
          rw [← hcs]
          have i1 := Len.of hcl
          have i2 := One.of (l := cs) (by rw [hcs]; exact all_app' (dc_one _) (all_cons' rfl all_nil'))
          refine gl_conv (M := []) (N := [VlR (fun _ _ => RdVdr) cs v]) Sel.nil (fun w F hF => vl_pure (show RdVdr cs v from hcs) hF) ?_
          refine zeN fun b45 => ?_
          refine zapo (news := cs) (fun a46 c46 => ?_)
          refine gp zas ?_
          refine gl_nil ?_
          refine gx_block_normal ?_
          refine gx_then ?_
          refine gc_region ?_
          refine gp zmv ?_
          refine gp zad ?_
          refine gp zas ?_
          refine gl_nil ?_
          refine zrd ((k + 1, rstep pVdr τ, a46, c46, css ++ [cs], l ++ [v])) ?_ ?_
          · show x - (k + 1) < x - k
            omega
          · rintro w' hw
            have h1 := hw.conv (M := [ElR (fun _ _ => RdVdr) css l, VlR (fun _ _ => RdVdr) cs v]) (by repeat (first | exact Sel.nil | (apply Sel.cons; · (repeat (first | exact Pick.here | apply Pick.there))))) (fun _ _ => el_snoc)
            refine zlq (M' := [rowR 191 17 a46 (k + 1) c46 (css.flatten ++ cs), ElR (fun _ _ => RdVdr) (css ++ [cs]) (l ++ [v]), RdrR TE ea g (rstep pVdr τ)]) ⟨?_, ?_, ?_, ?_⟩ (by simp) (by repeat (first | exact Sel.nil | (apply Sel.cons; · (repeat (first | exact Pick.here | apply Pick.there))))) w' h1
            · show k + 1 ≤ x; omega
            · rw [show x - k = x - (k + 1) + 1 by omega] at hmany; exact hmany.next hag
            · intro c' hc'; rcases List.mem_append.1 hc' with h | h; exact hcss c' h; rw [List.mem_singleton.1 h]; exact hcl
            · simp [hll]
        · try simp only at hc38
          have he2 : ¬ errOf τ = 0 := hc38
          refine gc_exit ?_
          refine gx_then_exit ?_
          refine gx_round_exit ?_
          refine gx_block_hit ?_
          refine gx_then ?_
          refine gc_seq ?_
          refine gsr ?_
          refine gp zmv ?_
          refine gp znc ?_
          refine gp zfa ?_
          refine gp zfa ?_
          refine gp r_lde ?_
          refine gp (r_nenil rfl (by kernel_rfl)) ?_
          refine gnt ?_
          refine gif rfl (fun hc52 => ?_) (fun hc52 => ?_)
          · try simp only at hc52
            have hbad := hmany.bad hc52
            have hfin := list_fin hx hc2 ⟨hbad.1, hbad.2 []⟩
            refine gsr ?_
            refine gp zas ?_
            refine gnt ?_
            refine gc_ret ?_
            refine gx_then_ret ?_
            refine gx_ret1 rfl (by conv => lhs; whnf) ?_
            rw [hfin.1]
            exact fun w' hw => ⟨(none, 0, 0, []), rfl, St.pureI ⟨hfin.2, Nat.le_refl _, rfl⟩ ((hw.sel (M := [RdrR TE ea g τ]) (by repeat (first | exact Sel.nil | (apply Sel.cons; · (repeat (first | exact Pick.here | apply Pick.there)))))).mapL fun F' hF' => ls_nil hF')⟩
          · try simp only at hc52
            have hm0 : x - k = 0 := by first | omega | exact absurd hc52 he2
            rw [hm0] at hmany
            have hfin := list_fin hx hc2 hmany.done
            refine gc_skip ?_
            refine gx_then ?_
            refine gsr ?_
            refine gp zmv ?_
            refine gp zas ?_
            refine gnt ?_
            refine gc_ret ?_
            refine gx_ret1 rfl (by conv => lhs; whnf) ?_
            rw [hfin.1]
            intro w' hw
            have hle := (hw.rowLe (e := 191) (size := 17) (a := a) (m := k) (c := c) (xs := css.flatten) (by repeat (first | exact Pick.here | apply Pick.there))).1
            exact ⟨(a, k, c, l), rfl, St.pureI ⟨hfin.2, hle, hll.symm⟩ ((hw.conv (M := [rowR 191 17 a k c css.flatten, ElR (fun _ _ => RdVdr) css l]) (by repeat (first | exact Sel.nil | (apply Sel.cons; · (repeat (first | exact Pick.here | apply Pick.there))))) (fun _ _ => ls_of hcss)).sel (by repeat (first | exact Sel.nil | (apply Sel.cons; · (repeat (first | exact Pick.here | apply Pick.there))))))⟩
      · refine gc_region ?_
        refine gp zmv ?_
        refine gp zmv ?_
        refine gp (r_bool (c := false) zlt (decide_eq_false (by omega))) ?_
        refine gp zmv ?_
        refine gn ?_
        refine gn ?_
        refine gn ?_
        refine gn ?_
        refine gn ?_
        refine gn ?_
        refine gp zpk ?_
        refine gnt ?_
        refine gc_condF rfl rfl ?_
        refine gc_exit ?_
        refine gx_then_exit ?_
        refine gx_round_exit ?_
        refine gx_block_hit ?_
        refine gx_then ?_
        refine gc_seq ?_
        refine gsr ?_
        refine gp zmv ?_
        refine gp znc ?_
        refine gp zfa ?_
        refine gp zfa ?_
        refine gp r_lde ?_
        refine gp (r_nenil rfl (by kernel_rfl)) ?_
        refine gnt ?_
        refine gif rfl (fun hc52 => ?_) (fun hc52 => ?_)
        · try simp only at hc52
          have hbad := hmany.bad hc52
          have hfin := list_fin hx hc2 ⟨hbad.1, hbad.2 []⟩
          refine gsr ?_
          refine gp zas ?_
          refine gnt ?_
          refine gc_ret ?_
          refine gx_then_ret ?_
          refine gx_ret1 rfl (by conv => lhs; whnf) ?_
          rw [hfin.1]
          exact fun w' hw => ⟨(none, 0, 0, []), rfl, St.pureI ⟨hfin.2, Nat.le_refl _, rfl⟩ ((hw.sel (M := [RdrR TE ea g τ]) (by repeat (first | exact Sel.nil | (apply Sel.cons; · (repeat (first | exact Pick.here | apply Pick.there)))))).mapL fun F' hF' => ls_nil hF')⟩
        · try simp only at hc52
          have hm0 : x - k = 0 := by first | omega | exact absurd hc52 he2
          rw [hm0] at hmany
          have hfin := list_fin hx hc2 hmany.done
          refine gc_skip ?_
          refine gx_then ?_
          refine gsr ?_
          refine gp zmv ?_
          refine gp zas ?_
          refine gnt ?_
          refine gc_ret ?_
          refine gx_ret1 rfl (by conv => lhs; whnf) ?_
          rw [hfin.1]
          intro w' hw
          have hle := (hw.rowLe (e := 191) (size := 17) (a := a) (m := k) (c := c) (xs := css.flatten) (by repeat (first | exact Pick.here | apply Pick.there))).1
          exact ⟨(a, k, c, l), rfl, St.pureI ⟨hfin.2, hle, hll.symm⟩ ((hw.conv (M := [rowR 191 17 a k c css.flatten, ElR (fun _ _ => RdVdr) css l]) (by repeat (first | exact Sel.nil | (apply Sel.cons; · (repeat (first | exact Pick.here | apply Pick.there))))) (fun _ _ => ls_of hcss)).sel (by repeat (first | exact Sel.nil | (apply Sel.cons; · (repeat (first | exact Pick.here | apply Pick.there))))))⟩

set_option maxHeartbeats 400000 in
theorem rblock_ok {w : World} {F : Nat → Prop} {TE : Nat} {ea : Nat → Addr} {g : Nat} {σ : RSt} (h : stars [RdrR TE ea g σ] w F) {es : List Nat} [Has es 1] [Has es 2] (hE : GErr es w (fun k => ¬ F k) TE ea) :
    Calls Tryz.prog 88 #[.agg (List.toArray [.pointer (some ⟨g, 0, none⟩)])] w (Post w F (fun r : List Value × Block => .agg r.1.toArray) (fun r => [pureR (Ag pBlock σ r.2 ∧ r.1.length = 39 ∧ ∀ v ∈ r.1, v.oneCell' = true), VlR RdBlock r.1 r.2, RdrR TE ea g (rstep pBlock σ)])) := by
  refine g_enter (env := [(0, .agg (List.toArray [.pointer (some ⟨g, 0, none⟩)]))]) Tryz.func88 rfl h Tryz.ntmps88 rfl rfl ?_
  refine gsr ?_
  refine zbN fun b1 => ?_
  refine zal fun b2 => ?_
  refine gnt ?_
  refine gsr ?_
  refine gp zL ?_
  refine zc ?_ (c := fun w1 F1 F2 h1 h2 hd hst => rat_ok h1 (hE.mv hst.still))
  rintro ⟨x5, y5⟩
  refine gl_pureR (fun g5 => ?_)
  replace g5 : Ag pAt _ ((x5 : Int), (y5 : Int)) := g5
  refine gp zmv ?_
  refine gp zex ?_
  refine gp zex ?_
  refine gp zfa ?_
  refine zs1 ?_
  refine gp zfa ?_
  refine zs1 ?_
  refine gnt ?_
  refine gsr ?_
  refine gp zL ?_
  refine zc (fun d11 => ?_) (c := fun w1 F1 F2 h1 h2 hd hst => rdigest_ok h1 (hE.mv hst.still))
  refine gl_pureR (fun g11 => ?_)
  refine gp zfa ?_
  refine zsN ?_
  refine gnt ?_
  refine gsr ?_
  refine gp zL ?_
  refine zc ?_ (c := fun w1 F1 F2 h1 h2 hd hst => rqc_ok h1 (hE.mv hst.still))
  rintro ⟨q14, v14⟩
  refine gl_pureR (fun hp14 => ?_)
  obtain ⟨g14, z14, o14⟩ := hp14
  replace z14 : q14.length = _ := z14
  have i14 := Len.of z14
  have j14 := One.of (show ∀ v ∈ q14, v.oneCell' = true from o14)
  refine gp zfa ?_
  refine zsN ?_
  refine gnt ?_
  refine gsr ?_
  refine gp zfa ?_
  refine gp zl ?_
  refine zc ?_ (c := fun w1 F1 F2 h1 h2 hd hst => takeTxs_ok (most := 4) h1 (hE.mv hst.still) (by decide))
  rintro ⟨a18, n18, c18, l18⟩
  refine gl_pureR (fun hp18 => ?_)
  obtain ⟨g18, k18, e18⟩ := hp18
  replace g18 : Ag (pList (pBytes 16) 4) _ l18 := g18
  replace k18 : n18 ≤ c18 := k18
  refine gp zfa ?_
  refine zs1 ?_
  refine gnt ?_
  refine gsr ?_
  refine gp zfa ?_
  refine gp zl ?_
  refine zc ?_ (c := fun w1 F1 F2 h1 h2 hd hst => takeVdrs_ok (most := 7) h1 (hE.mv hst.still) (by decide))
  rintro ⟨a22, n22, c22, l22⟩
  refine gl_pureR (fun hp22 => ?_)
  obtain ⟨g22, k22, e22⟩ := hp22
  replace g22 : Ag (pList pVdr 7) _ l22 := g22
  replace k22 : n22 ≤ c22 := k22
  refine gp zfa ?_
  refine zs1 ?_
  refine gnt ?_
  refine gsr ?_
  refine gp zL ?_
  refine zsN ?_
  refine gnt ?_
  refine gc_ret ?_
  refine gx_retc rfl rfl (ld_aggS Ty.row_30 Ty.sz_30 (by repeat (first | exact Pick.here | apply Pick.there)) (by (simp only [List.drop_succ_cons, List.drop_zero, List.take_succ_cons, List.take_zero, List.cons_append, List.nil_append, List.append_assoc, drop_dc, drop_dc', take_dc, take_dc', drop_L, drop_L', take_L, take_L', len_L, Nat.reduceLeDiff, Nat.reduceSub, Nat.reduceAdd, Nat.le_refl, List.length_cons, List.length_append, List.length_nil, dc_length, List.drop_nil, List.take_nil, List.append_nil, List.length_map, List.length_replicate]; first | done | rfl)) (by first | rfl | (simp only [List.drop_succ_cons, List.drop_zero, List.take_succ_cons, List.take_zero, List.cons_append, List.nil_append, List.append_assoc, drop_dc, drop_dc', take_dc, take_dc', drop_L, drop_L', take_L, take_L', len_L, Nat.reduceLeDiff, Nat.reduceSub, Nat.reduceAdd, Nat.le_refl, List.length_cons, List.length_append, List.length_nil, dc_length, List.drop_nil, List.take_nil, List.append_nil, List.length_map, List.length_replicate]; first | done | omega))) ?_
  have ha : Ag pBlock σ ⟨x5, y5, d11, v14, l18, l22⟩ := g5.bind (g11.bind (g14.bind (g18.bind (g22.bind (Ag.pure _)))))
  have hr : rstep pBlock σ = rstep (pList pVdr 7) (rstep (pList (pBytes 16) 4) (rstep pQC (rstep pDig (rstep pAt (σ))))) := by rw [pBlock, rstep_bind g5, rstep_bind g11, rstep_bind g14, rstep_bind g18, rstep_bind g22, rstep_pure]
  rw [hr]
  intro w' hw
  refine ⟨(.int .i64 x5 :: .int .i64 y5 :: (dc d11 ++ (q14 ++ [.slice a18 n18 c18, .slice a22 n22 c22])), ⟨x5, y5, d11, v14, l18, l22⟩), rfl, St.pureI ⟨ha, by first | rfl | simp only [List.length_cons, List.length_append, List.length_nil, dc_length, len_L] , all_cons' rfl (all_cons' rfl (all_app' (dc_one _) (all_app' o14 (all_cons' rfl (all_cons' rfl all_nil')))))⟩ ?_⟩
  exact (hw.conv (M := [VlR RdQC q14 v14, LsR RdBytes 1 a18 n18 l18, LsR (fun _ _ => RdVdr) 17 a22 n22 l22]) (by repeat (first | exact Sel.nil | (apply Sel.cons; · (repeat (first | exact Pick.here | apply Pick.there))))) (fun _ _ => vl_block k18 k22)).sel (by repeat (first | exact Sel.nil | (apply Sel.cons; · (repeat (first | exact Pick.here | apply Pick.there)))))

end Go.Proofs.YtkgbbnhdioghmaaGreatDoor

/- Zero values: their cells, and what they read as. -/
namespace Go.Proofs.YtkgbbnhdioghmaaGreatDoor
open Go
set_option linter.unusedVariables false

def nilS : Value := .slice none 0 0
def i0 : Value := .int .i64 0
def sigC : List Value := [i0, nilS, nilS]
def sgnC : List Value := i0 :: sigC
def qcC : List Value := i0 :: i0 :: (dc dig0 ++ [nilS])
def tcC : List Value := [i0, i0, nilS]
def blkC : List Value := i0 :: i0 :: (dc dig0 ++ (qcC ++ [nilS, nilS]))
section zero
variable {w : World} {A : Nat → Prop}
theorem rdSig0 : RdSig w A sigC sig0 := ⟨none, 0, 0, none, 0, 0, rfl, Nat.le_refl _, Nat.le_refl _, RdList.nil, RdList.nil⟩
theorem rdSigned0 : RdSigned w A sgnC sgn0 := ⟨sigC, rfl, rdSig0⟩
theorem rdQC0 : RdQC w A qcC qc0 := ⟨none, 0, 0, rfl, Nat.le_refl _, RdList.nil⟩
theorem rdTC0 : RdTC w A tcC tc0 := ⟨none, 0, 0, rfl, Nat.le_refl _, RdList.nil⟩
theorem rdBlock0 : RdBlock w A blkC blk0 := ⟨qcC, none, 0, 0, none, 0, 0, rfl, rdQC0, Nat.le_refl _, RdList.nil, Nat.le_refl _, RdList.nil⟩
end zero
def voteC : List Value := i0 :: i0 :: (dc dig0 ++ sgnC)
def tmoC : List Value := i0 :: i0 :: (qcC ++ (tcC ++ sgnC))
def propC : List Value := blkC ++ (tcC ++ sgnC)
def chgC : List Value := [blkC, blkC, blkC].flatten ++ qcC
section zero2
variable {w : World} {A : Nat → Prop}
theorem rdVote0 : RdVote w A voteC ⟨0, 0, dig0, sgn0⟩ := ⟨sgnC, rfl, rdSigned0⟩
theorem rdTmo0 : RdTmo w A tmoC ⟨0, 0, qc0, tc0, sgn0⟩ := ⟨qcC, tcC, sgnC, rfl, rdQC0, rdTC0, rdSigned0⟩
theorem rdProp0 : RdProp w A propC ⟨blk0, tc0, sgn0⟩ := ⟨blkC, tcC, sgnC, rfl, rdBlock0, rdTC0, rdSigned0⟩
theorem rdChg0 : RdChg w A chgC chg0 := ⟨[blkC, blkC, blkC], qcC, rfl, (by intro x hx; simp only [List.mem_cons, List.not_mem_nil, or_false, or_self] at hx; subst hx; exact (rdBlock0 (w := w) (A := A)).len), rfl, rfl,
    (by intro i x b h1 h2
        have hx : x = blkC := by
          have := List.mem_of_getElem? h1
          simp only [List.mem_cons, List.not_mem_nil, or_false, or_self] at this; exact this
        have hb : b = blk0 := by
          have := List.mem_of_getElem? h2
          simp only [chg0, List.mem_cons, List.not_mem_nil, or_false, or_self] at this; exact this
        subst hx; subst hb; exact rdBlock0), rdQC0⟩
end zero2
def msgOf (k : Int) (a b : Dig) : Msg := { msg0 k with wantFrom := a, wantBlock := b }
def msgC (k : Int) (a b : Dig) : List Value := .int .i64 k :: (voteC ++ (tmoC ++ (propC ++ (dc a ++ (dc b ++ (blkC ++ chgC))))))
theorem rdMsgOf {w : World} {A : Nat → Prop} (k : Int) (a b : Dig) : RdMsg w A (msgC k a b) (msgOf k a b) := ⟨_, _, _, _, _, rfl, rdVote0, rdTmo0, rdProp0, rdBlock0, rdChg0⟩
end Go.Proofs.YtkgbbnhdioghmaaGreatDoor

/- Walks, by program (wg.py) out of a spec. -/
namespace Go.Proofs.YtkgbbnhdioghmaaGreatDoor
open Go
set_option linter.unusedVariables false
set_option linter.unusedSimpArgs false


instance : Len voteC 22 := ⟨rfl⟩
instance : Len tmoC 28 := ⟨rfl⟩
instance : Len propC 46 := ⟨rfl⟩
instance : Len blkC 39 := ⟨rfl⟩
instance : Len chgC 136 := ⟨rfl⟩
instance : Len qcC 19 := ⟨rfl⟩
instance : Len sgnC 4 := ⟨rfl⟩
instance : Len tcC 3 := ⟨rfl⟩
theorem one_qcC : ∀ v ∈ qcC, v.oneCell' = true := (rdQC0 (w := default) (A := fun _ => True)).one
def chgAt (css : List (List Value)) (k : Nat) : List Value := css.flatten ++ ((List.replicate (3 - k) blkC).flatten ++ qcC)
theorem chg_len {css : List (List Value)} (h : ∀ c ∈ css, c.length = 39) {k : Nat} (hk : css.length = k) (h3 : k ≤ 3) : (chgAt css k).length = 136 := by
  have e : (List.replicate (3 - k) blkC).flatten.length = (3 - k) * 39 := by
    have := flatten_len (css := List.replicate (3 - k) blkC) (size := 39) (fun c hc => by rw [List.eq_of_mem_replicate hc]; rfl)
    rw [this, List.length_replicate]
  simp only [chgAt, List.length_append, flatten_len h, hk, e, show qcC.length = 19 from rfl]; omega
theorem chg_store {css : List (List Value)} {q : List Value} (h : ∀ c ∈ css, c.length = 39) {k o : Nat} (hk : css.length = k) (h3 : k < 3) (hq : q.length = 39) (ho : o = k * 39) : updL (chgAt css k) o q = chgAt (css ++ [q]) (k + 1) := by
  have e1 : css.flatten.length = o := by rw [flatten_len h, hk, ho]
  have e2 : 3 - k = (3 - (k + 1)) + 1 := by omega
  simp only [updL, chgAt]
  rw [List.take_append_of_le_length (by omega), List.take_of_length_le (by omega), List.drop_append, List.drop_eq_nil_of_le (by omega), e1, hq, show o + 39 - o = 39 by omega, e2, List.replicate_succ, List.flatten_cons, List.append_assoc, List.nil_append,
    drop_q (show blkC.length = 39 from rfl) (Nat.le_refl _), List.flatten_append]
  simp
theorem vl_chg {css : List (List Value)} {l : List Block} {q : List Value} {x : QC} {w : World} {F : Nat → Prop} (h39 : ∀ c ∈ css, c.length = 39) (hl : l.length = 3) (h : stars [ElR RdBlock css l, VlR RdQC q x] w F) : stars [VlR RdChg (css.flatten ++ q) ⟨l, x⟩] w F := by
  obtain ⟨F1, F2, ⟨⟨he, h1⟩, _⟩, h2, hF⟩ := stars_two h
  exact rdR_mk ⟨css, q, rfl, h39, by rw [he, hl], hl, fun i c b hc hb => (h1 i c b hc hb).mv (still_sub fun k hk => (hF k).2 (.inl hk)), h2.1.mv (still_sub fun k hk => (hF k).2 (.inr hk))⟩ h
section
variable {w : World} {F : Nat → Prop}
theorem vl_vote {e r : Int} {d : Dig} {q cs : List Value} {x : Signed} (hc : cs = .int .i64 1 :: ((.int .i64 e :: .int .i64 r :: (dc d ++ q)) ++ (tmoC ++ (propC ++ (dc dig0 ++ (dc dig0 ++ (blkC ++ chgC)))))))
    (h : stars [VlR RdSigned q x] w F) : stars [VlR RdMsg cs { msg0 1 with vote := ⟨e, r, d, x⟩ }] w F := rdR_mk ⟨_, _, _, _, _, hc, ⟨q, rfl, (stars_one' h).1⟩, rdTmo0, rdProp0, rdBlock0, rdChg0⟩ h
theorem vl_tmo {e r : Int} {q t s cs : List Value} {x : QC} {y : TC} {z : Signed} (hc : cs = .int .i64 2 :: (voteC ++ ((.int .i64 e :: .int .i64 r :: (q ++ (t ++ s))) ++ (propC ++ (dc dig0 ++ (dc dig0 ++ (blkC ++ chgC)))))))
    (h : stars [VlR RdQC q x, VlR RdTC t y, VlR RdSigned s z] w F) : stars [VlR RdMsg cs { msg0 2 with tmo := ⟨e, r, x, y, z⟩ }] w F := by
  obtain ⟨F1, F2, h1, h2, hF⟩ := stars_cons h
  obtain ⟨F3, F4, h3, h4, hF2⟩ := stars_two h2
  exact rdR_mk ⟨_, _, _, _, _, hc, rdVote0, ⟨q, t, s, rfl, h1.1.mv (still_sub fun k hk => (hF k).2 (.inl hk)), h3.1.mv (still_sub fun k hk => (hF k).2 (.inr ((hF2 k).2 (.inl hk)))), h4.1.mv (still_sub fun k hk => (hF k).2 (.inr ((hF2 k).2 (.inr hk))))⟩, rdProp0, rdBlock0, rdChg0⟩ h
theorem vl_prop {b t s cs : List Value} {x : Block} {y : TC} {z : Signed} (hc : cs = .int .i64 3 :: (voteC ++ (tmoC ++ ((b ++ (t ++ s)) ++ (dc dig0 ++ (dc dig0 ++ (blkC ++ chgC)))))))
    (h : stars [VlR RdBlock b x, VlR RdTC t y, VlR RdSigned s z] w F) : stars [VlR RdMsg cs { msg0 3 with prop := ⟨x, y, z⟩ }] w F := by
  obtain ⟨F1, F2, h1, h2, hF⟩ := stars_cons h
  obtain ⟨F3, F4, h3, h4, hF2⟩ := stars_two h2
  exact rdR_mk ⟨_, _, _, _, _, hc, rdVote0, rdTmo0, ⟨b, t, s, rfl, h1.1.mv (still_sub fun k hk => (hF k).2 (.inl hk)), h3.1.mv (still_sub fun k hk => (hF k).2 (.inr ((hF2 k).2 (.inl hk)))), h4.1.mv (still_sub fun k hk => (hF k).2 (.inr ((hF2 k).2 (.inr hk))))⟩, rdBlock0, rdChg0⟩ h
theorem vl_want {d e : Dig} {cs : List Value} {L : List Res} (hc : cs = .int .i64 4 :: (voteC ++ (tmoC ++ (propC ++ (dc d ++ (dc e ++ (blkC ++ chgC))))))) (h : stars L w F) : stars (VlR RdMsg cs { msg0 4 with wantFrom := d, wantBlock := e } :: L) w F :=
  vl_pure (show RdMsg w _ cs _ from ⟨_, _, _, _, _, hc, rdVote0, rdTmo0, rdProp0, rdBlock0, rdChg0⟩) h
theorem vl_reply {b cs : List Value} {x : Block} (hc : cs = .int .i64 5 :: (voteC ++ (tmoC ++ (propC ++ (dc dig0 ++ (dc dig0 ++ (b ++ chgC))))))) (h : stars [VlR RdBlock b x] w F) : stars [VlR RdMsg cs { msg0 5 with reply := x }] w F :=
  rdR_mk ⟨_, _, _, _, _, hc, rdVote0, rdTmo0, rdProp0, (stars_one' h).1, rdChg0⟩ h
theorem vl_change {c cs : List Value} {x : Chg} (hc : cs = .int .i64 6 :: (voteC ++ (tmoC ++ (propC ++ (dc dig0 ++ (dc dig0 ++ (blkC ++ c))))))) (h : stars [VlR RdChg c x] w F) : stars [VlR RdMsg cs { msg0 6 with chg := x }] w F :=
  rdR_mk ⟨_, _, _, _, _, hc, rdVote0, rdTmo0, rdProp0, rdBlock0, (stars_one' h).1⟩ h
theorem vl_none {k : Int} {cs : List Value} {L : List Res} (hc : cs = msgC k dig0 dig0) (h : stars L w F) : stars (VlR RdMsg cs (msg0 k) :: L) w F := vl_pure (show RdMsg w _ cs _ by rw [hc]; exact rdMsgOf k dig0 dig0) h
end
def doneE : RSt → Nat
  | .error e => e
  | .ok [] => 0
  | .ok _ => 3

attribute [local irreducible] Gl Gc Gx Gs Runs Wt

set_option maxHeartbeats 400000 in
theorem rdone_ok {w : World} {F : Nat → Prop} {TE : Nat} {ea : Nat → Addr} {g : Nat} {σ : RSt} (h : stars [RdrR TE ea g σ] w F) {es : List Nat} [Has es 3] (hE : GErr es w (fun k => ¬ F k) TE ea) :
    Calls Tryz.prog 97 #[.pointer (some ⟨g, 0, none⟩)] w (Post w F (fun _ : Unit => eV TE ea (doneE σ)) (fun _ => [RdrR TE ea g σ])) := by
  obtain ⟨s, a, c, hs, hc, h'⟩ := rr_open h
  refine g_enter (env := [(0, .pointer (some ⟨g, 0, none⟩))]) Tryz.func97 rfl h' Tryz.ntmps97 rfl rfl ?_
  refine gsr ?_
  refine gp zas ?_
  refine gnt ?_
  refine gc_seq ?_
  refine gc_seq ?_
  by_cases he : s.err = 0
  · refine gc_region ?_
    refine gp zmv ?_
    refine gp znc ?_
    refine gp zfa ?_
    refine gp zfa ?_
    refine gp zl ?_
    refine gp (r_bool (c := true) (r_eqnil rfl (by kernel_rfl)) (decide_eq_true he)) ?_
    refine gp zmv ?_
    refine gq zmv ?_
    refine gq znc ?_
    refine gq zfa ?_
    refine gq zl ?_
    refine gq zln ?_
    refine gq zgt ?_
    refine gp zpk ?_
    refine gnt ?_
    refine gif rfl (fun hc16 => ?_) (fun hc16 => ?_)
    · try simp only at hc16
      have e : doneE σ = 3 := by rw [← hs, WS.st, if_pos he]; cases hb : s.bs with | nil => (rw [hb] at hc16; simp at hc16) | cons x r => rfl
      refine gsr ?_
      refine gp (r_ld1o rfl Ty.row_38 (hE.c 3 Has.h) (hE.n 3 Has.h)) ?_
      refine gp zas ?_
      refine gnt ?_
      refine gc_ret ?_
      refine gx_then_ret ?_
      refine gx_ret1 rfl (by conv => lhs; whnf) ?_
      rw [e]
      exact fun w' hw => ⟨(), rfl, St.rdr (hw.sel (M := [blk g 194 [_, .slice a _ c], BtR a s.bs none []]) (by repeat (first | exact Sel.nil | (apply Sel.cons; · (repeat (first | exact Pick.here | apply Pick.there)))))) rfl rfl hs hc⟩
    · try simp only at hc16
      have e : doneE σ = s.err := by rw [← hs, WS.st, if_pos he, he]; cases hb : s.bs with | nil => rfl | cons x r => (rw [hb] at hc16; simp at hc16; omega)
      refine gc_skip ?_
      refine gx_then ?_
      refine gsr ?_
      refine gp zmv ?_
      refine gp znc ?_
      refine gp zfa ?_
      refine gp zfa ?_
      refine gp zl ?_
      refine gp zas ?_
      refine gnt ?_
      refine gc_ret ?_
      refine gx_ret1 rfl (by conv => lhs; whnf) ?_
      rw [e]
      exact fun w' hw => ⟨(), rfl, St.rdr (hw.sel (M := [blk g 194 [_, .slice a _ c], BtR a s.bs none []]) (by repeat (first | exact Sel.nil | (apply Sel.cons; · (repeat (first | exact Pick.here | apply Pick.there)))))) rfl rfl hs hc⟩
  · refine gc_region ?_
    refine gp zmv ?_
    refine gp znc ?_
    refine gp zfa ?_
    refine gp zfa ?_
    refine gp zl ?_
    refine gp (r_bool (c := false) (r_eqnil rfl (by kernel_rfl)) (decide_eq_false he)) ?_
    refine gp zmv ?_
    refine gn ?_
    refine gn ?_
    refine gn ?_
    refine gn ?_
    refine gn ?_
    refine gn ?_
    refine gp zpk ?_
    refine gnt ?_
    refine gc_condF rfl rfl ?_
    refine gc_skip ?_
    refine gx_then ?_
    refine gsr ?_
    refine gp zmv ?_
    refine gp znc ?_
    refine gp zfa ?_
    refine gp zfa ?_
    refine gp zl ?_
    refine gp zas ?_
    refine gnt ?_
    refine gc_ret ?_
    refine gx_ret1 rfl (by conv => lhs; whnf) ?_
    have e : doneE σ = s.err := by rw [← hs, WS.st, if_neg he]; rfl
    rw [e]
    exact fun w' hw => ⟨(), rfl, St.rdr (hw.sel (M := [blk g 194 [_, .slice a _ c], BtR a s.bs none []]) (by repeat (first | exact Sel.nil | (apply Sel.cons; · (repeat (first | exact Pick.here | apply Pick.there)))))) rfl rfl hs hc⟩

set_option maxHeartbeats 400000 in
theorem rchange_ok {w : World} {F : Nat → Prop} {TE : Nat} {ea : Nat → Addr} {g : Nat} {σ : RSt} (h : stars [RdrR TE ea g σ] w F) {es : List Nat} [Has es 1] [Has es 2] (hE : GErr es w (fun k => ¬ F k) TE ea) :
    Calls Tryz.prog 46 #[.agg (List.toArray [.pointer (some ⟨g, 0, none⟩)])] w (Post w F (fun r : List Value × Chg => .agg r.1.toArray) (fun r => [pureR (r.2.blocks.length = 3 ∧ Ag pChg σ r.2 ∧ r.1.length = 136 ∧ ∀ v ∈ r.1, v.oneCell' = true), VlR RdChg r.1 r.2, RdrR TE ea g (rstep pChg σ)])) := by
  refine g_enter (env := [(0, .agg (List.toArray [.pointer (some ⟨g, 0, none⟩)]))]) Tryz.func46 rfl h Tryz.ntmps46 rfl rfl ?_
  refine gsr ?_
  refine zbN fun b1 => ?_
  refine zal fun b2 => ?_
  refine gl_eqc (cs' := chgAt [] 0) (by repeat (first | exact Pick.here | apply Pick.there)) (by kernel_rfl) ?_
  refine gnt ?_
  refine gc_seq ?_
  refine gsr ?_
  refine gp zmv ?_
  refine gnt ?_
  refine gc_block ?_
  refine gc_loop (α := Nat × RSt × List (List Value) × List Block) (fun y => [pureR (y.1 ≤ 3 ∧ Many pBlock 3 σ (3 - y.1) y.2.1 y.2.2.2 ∧ (∀ c ∈ y.2.2.1, c.length = 39 ∧ ∀ v ∈ c, v.oneCell' = true) ∧ y.2.2.1.length = y.1 ∧ y.2.2.2.length = y.1), blk b2 33 (chgAt y.2.2.1 y.1), ElR RdBlock y.2.2.1 y.2.2.2, RdrR TE ea g y.2.1, blk b1 123 [.pointer (some ⟨g, 0, none⟩)]]) (fun y => [(4, .int .i64 (y.1 : Int))]) [3, 5, 6, 7, 8, 9, 10, 11, 12] (fun y => 3 - y.1) (0, σ, [], []) ?_ ?_ ?_
  · refine env_start (by kernel_rfl)
  · exact fun w' hw => zlp ⟨Nat.zero_le _, Many.start, (by intro c hc; cases hc), rfl, rfl⟩ (by repeat (first | exact Sel.nil | (apply Sel.cons; · (repeat (first | exact Pick.here | apply Pick.there))))) w' (hw.mapL fun F' hF' => el_nil (rd := RdBlock) hF')
  · intro y u
    obtain ⟨k, τ, css, l⟩ := y
    refine gc_pureR (fun hk => ?_)
    obtain ⟨hk, hmany, hcss, hcl, hll⟩ := hk
    replace hk : k ≤ 3 := hk
    replace hcss : ∀ c ∈ css, c.length = 39 ∧ ∀ v ∈ c, v.oneCell' = true := hcss
    have hcs1 := fun c hc v hv => (hcss c hc).2 v hv
    replace hcss := fun c hc => (hcss c hc).1
    replace hcl : css.length = k := hcl
    replace hll : l.length = k := hll
    replace hmany : Many pBlock 3 σ (3 - k) τ l := hmany
    refine gsr ?_
    refine gp zlt ?_
    refine gnt ?_
    refine gc_seq ?_
    refine gif rfl (fun hc5 => ?_) (fun hc5 => ?_)
    · try simp only at hc5
      have hk' : k < 3 := by omega
      refine gc_skip ?_
      refine gx_then ?_
      refine gc_seq ?_
      refine gc_block ?_
      refine gsr ?_
      refine gp zmv ?_
      refine gp zas ?_
      refine gnt ?_
      refine gc_region ?_
      refine gp zmv ?_
      refine gp zL ?_
      refine zc ?_ (c := fun w1 F1 F2 h1 h2 hd hst => rblock_ok h1 (hE.mv hst.still))
      rintro ⟨q9, v9⟩
      refine gl_pureR (fun hp9 => ?_)
      obtain ⟨g9, z9, o9⟩ := hp9
      replace z9 : q9.length = _ := z9
      have i9 := Len.of z9
      have j9 := One.of (show ∀ v ∈ q9, v.oneCell' = true from o9)
      refine gp zfa ?_
      refine gp (zib) ?_
      refine gl_storeN (wt0 rfl) rfl rfl Ty.sz_30 z9 (by repeat (first | exact Pick.here | apply Pick.there)) (by rw [chg_len hcss hcl hk]; omega) o9 (chg_store hcss hcl hk' z9 (by omega)) ?_
      refine gl_nil ?_
      refine gx_block_normal ?_
      refine gx_then ?_
      refine gc_region ?_
      refine gp zad ?_
      refine gp zmv ?_
      refine gl_nil ?_
      refine zrd ((k + 1, rstep pBlock τ, css ++ [q9], l ++ [v9])) ?_ ?_
      · show 3 - (k + 1) < 3 - k
        omega
      · rintro w' hw
        have h1 := hw.conv (M := [ElR RdBlock css l, VlR RdBlock q9 v9]) (by repeat (first | exact Sel.nil | (apply Sel.cons; · (repeat (first | exact Pick.here | apply Pick.there))))) (fun _ _ => el_snoc)
        refine zlp ⟨?_, ?_, ?_, ?_, ?_⟩ (by repeat (first | exact Sel.nil | (apply Sel.cons; · (repeat (first | exact Pick.here | apply Pick.there))))) w' h1
        · show k + 1 ≤ 3; omega
        · rw [show 3 - k = 3 - (k + 1) + 1 by omega] at hmany; exact hmany.next g9
        · intro c' hc'; rcases List.mem_append.1 hc' with h | h; exact ⟨hcss c' h, hcs1 c' h⟩; rw [List.mem_singleton.1 h]; exact ⟨z9, o9⟩
        · simp [hcl]
        · simp [hll]
    · try simp only at hc5
      have hk' : k = 3 := by omega
      subst hk'
      have hm := hmany.done
      have hfl : css.flatten.length = 117 := by rw [flatten_len hcss, hcl]
      have hi := Len.of hfl
      have hone : One css.flatten := One.of (fun v hv => by obtain ⟨c, hc, hvc⟩ := List.mem_flatten.1 hv; exact hcs1 c hc v hvc)
      refine gc_eqc (cs' := css.flatten ++ qcC) (by repeat (first | exact Pick.here | apply Pick.there)) (by rw [← hcl]; simp [chgAt, hcl]) ?_
      refine gc_exit ?_
      refine gx_then_exit ?_
      refine gx_round_exit ?_
      refine gx_block_hit ?_
      refine gx_then ?_
      refine gsr ?_
      refine gp zL ?_
      refine zc ?_ (c := fun w1 F1 F2 h1 h2 hd hst => rqc_ok h1 (hE.mv hst.still))
      rintro ⟨q14, v14⟩
      refine gl_pureR (fun hp14 => ?_)
      obtain ⟨g14, z14, o14⟩ := hp14
      replace z14 : q14.length = _ := z14
      have i14 := Len.of z14
      have j14 := One.of (show ∀ v ∈ q14, v.oneCell' = true from o14)
      refine gp zfa ?_
      refine zsN ?_
      refine gnt ?_
      refine gsr ?_
      refine gp zL ?_
      refine zsN ?_
      refine gnt ?_
      refine gc_ret ?_
      refine gx_retc rfl rfl (ld_aggS Ty.row_33 Ty.sz_33 (by repeat (first | exact Pick.here | apply Pick.there)) (by (simp only [List.drop_succ_cons, List.drop_zero, List.take_succ_cons, List.take_zero, List.cons_append, List.nil_append, List.append_assoc, drop_dc, drop_dc', take_dc, take_dc', drop_L, drop_L', take_L, take_L', len_L, Nat.reduceLeDiff, Nat.reduceSub, Nat.reduceAdd, Nat.le_refl, List.length_cons, List.length_append, List.length_nil, dc_length, List.drop_nil, List.take_nil, List.append_nil, List.length_map, List.length_replicate]; first | done | rfl)) (by first | rfl | (simp only [List.drop_succ_cons, List.drop_zero, List.take_succ_cons, List.take_zero, List.cons_append, List.nil_append, List.append_assoc, drop_dc, drop_dc', take_dc, take_dc', drop_L, drop_L', take_L, take_L', len_L, Nat.reduceLeDiff, Nat.reduceSub, Nat.reduceAdd, Nat.le_refl, List.length_cons, List.length_append, List.length_nil, dc_length, List.drop_nil, List.take_nil, List.append_nil, List.length_map, List.length_replicate]; first | done | omega))) ?_
      have ha : Ag pChg σ ⟨l, v14⟩ := hm.2.bind ((show Ag pQC (rstep (pMany pBlock 3) σ) v14 by rw [hm.1]; exact g14).bind (Ag.pure _))
      have hr : rstep pChg σ = rstep pQC τ := by rw [pChg, rstep_bind hm.2, hm.1, rstep_bind g14, rstep_pure]
      rw [hr]
      intro w' hw
      refine ⟨(css.flatten ++ q14, ⟨l, v14⟩), rfl, St.pureI ⟨hll, ha, by simp only [List.length_append, len_L], ?_⟩ ?_⟩
      · exact all_app' One.h o14
      · exact (hw.conv (M := [ElR RdBlock css l, VlR RdQC q14 v14]) (by repeat (first | exact Sel.nil | (apply Sel.cons; · (repeat (first | exact Pick.here | apply Pick.there))))) (fun _ _ => vl_chg hcss hll)).sel (by repeat (first | exact Sel.nil | (apply Sel.cons; · (repeat (first | exact Pick.here | apply Pick.there)))))

end Go.Proofs.YtkgbbnhdioghmaaGreatDoor

/- Walks, by program (wg.py) out of a spec. -/
namespace Go.Proofs.YtkgbbnhdioghmaaGreatDoor
open Go
set_option linter.unusedVariables false
set_option linter.unusedSimpArgs false


instance : One qcC := ⟨one_qcC⟩
instance : One blkC := ⟨(rdBlock0 (w := default) (A := fun _ => True)).one⟩
instance : One sgnC := One.of (by unfold sgnC sigC; repeat (first | exact all_nil' | exact dc_one _ | exact One.h | refine all_cons' rfl ?_ | refine all_app' (dc_one _) ?_ | refine all_app' One.h ?_))
instance : One tcC := One.of (by unfold tcC; repeat (first | exact all_nil' | exact dc_one _ | exact One.h | refine all_cons' rfl ?_ | refine all_app' (dc_one _) ?_ | refine all_app' One.h ?_))
instance : One voteC := One.of (by unfold voteC; repeat (first | exact all_nil' | exact dc_one _ | exact One.h | refine all_cons' rfl ?_ | refine all_app' (dc_one _) ?_ | refine all_app' One.h ?_))
instance : One tmoC := One.of (by unfold tmoC; repeat (first | exact all_nil' | exact dc_one _ | exact One.h | refine all_cons' rfl ?_ | refine all_app' (dc_one _) ?_ | refine all_app' One.h ?_))
instance : One propC := One.of (by unfold propC; repeat (first | exact all_nil' | exact dc_one _ | exact One.h | refine all_cons' rfl ?_ | refine all_app' (dc_one _) ?_ | refine all_app' One.h ?_))
instance : One chgC := One.of (by unfold chgC; simp only [List.flatten_cons, List.flatten_nil, List.append_assoc, List.nil_append]; repeat (first | exact all_nil' | exact dc_one _ | exact One.h | refine all_cons' rfl ?_ | refine all_app' (dc_one _) ?_ | refine all_app' One.h ?_))

attribute [local irreducible] Gl Gc Gx Gs Runs Wt

attribute [local irreducible] voteC tmoC propC blkC chgC sgnC tcC qcC dc

set_option maxHeartbeats 400000 in
theorem rbody_ok {w : World} {F : Nat → Prop} {TE : Nat} {ea : Nat → Addr} {g : Nat} {σ : RSt} (h : stars [RdrR TE ea g σ] w F) {es : List Nat} [Has es 1] [Has es 2] [Has es 4] (hE : GErr es w (fun k => ¬ F k) TE ea) {n : Int}  :
    Calls Tryz.prog 60 #[.agg (List.toArray [.pointer (some ⟨g, 0, none⟩)]), .int .i64 n] w (Post w F (fun r : List Value × Msg => .agg r.1.toArray) (fun r => [pureR (Ag (pBody n) σ r.2 ∧ r.1.length = 304 ∧ ∀ v ∈ r.1, v.oneCell' = true), VlR RdMsg r.1 r.2, RdrR TE ea g (rstep (pBody n) σ)])) := by
  refine g_enter (env := [(0, .agg (List.toArray [.pointer (some ⟨g, 0, none⟩)])), (1, .int .i64 n)]) Tryz.func60 rfl h Tryz.ntmps60 rfl rfl ?_
  refine gsr ?_
  refine zbN fun b2 => ?_
  refine zal fun b4 => ?_
  refine gl_eqc (cs' := .int .i64 0 :: (voteC ++ (tmoC ++ (propC ++ (dc dig0 ++ (dc dig0 ++ (blkC ++ chgC))))))) (by repeat (first | exact Pick.here | apply Pick.there)) (by kernel_rfl) ?_
  refine gnt ?_
  refine gsr ?_
  refine gp zmv ?_
  refine gp zfa ?_
  refine zs1 ?_
  refine gnt ?_
  refine gc_seq ?_
  refine gsr ?_
  refine gp zmv ?_
  refine gnt ?_
  refine gc_block ?_
  refine gsr ?_
  refine gp zei ?_
  refine gp zas ?_
  refine gnt ?_
  refine gif rfl (fun hc14 => ?_) (fun hc14 => ?_)
  · try simp only at hc14
    have hk : n = 1 := hc14
    subst hk
    refine gc_eqc (cs' := .int .i64 1 :: ((.int .i64 0 :: .int .i64 0 :: (dc dig0 ++ sgnC)) ++ (tmoC ++ (propC ++ (dc dig0 ++ (dc dig0 ++ (blkC ++ chgC))))))) (by repeat (first | exact Pick.here | apply Pick.there)) (by kernel_rfl) ?_
    refine gsr ?_
    refine gp zL ?_
    refine zc ?_ (c := fun w1 F1 F2 h1 h2 hd hst => rat_ok h1 (hE.mv hst.still))
    rintro ⟨x18, y18⟩
    refine gl_pureR (fun g18 => ?_)
    replace g18 : Ag pAt _ ((x18 : Int), (y18 : Int)) := g18
    refine gp zmv ?_
    refine gp zex ?_
    refine gp zex ?_
    refine gp zfa ?_
    refine gp zfa ?_
    refine zs1 ?_
    refine gp zfa ?_
    refine gp zfa ?_
    refine zs1 ?_
    refine gnt ?_
    refine gsr ?_
    refine gp zL ?_
    refine zc (fun d26 => ?_) (c := fun w1 F1 F2 h1 h2 hd hst => rdigest_ok h1 (hE.mv hst.still))
    refine gl_pureR (fun g26 => ?_)
    refine gp zfa ?_
    refine gp zfa ?_
    refine zsN ?_
    refine gnt ?_
    refine gc_region ?_
    refine gp zL ?_
    refine zc ?_ (c := fun w1 F1 F2 h1 h2 hd hst => rsigned_ok h1 (hE.mv hst.still))
    rintro ⟨q30, v30⟩
    refine gl_pureR (fun hp30 => ?_)
    obtain ⟨g30, z30, o30⟩ := hp30
    replace z30 : q30.length = _ := z30
    have i30 := Len.of z30
    have j30 := One.of (show ∀ v ∈ q30, v.oneCell' = true from o30)
    refine gp zfa ?_
    refine gp zfa ?_
    refine zsN ?_
    refine gl_nil ?_
    refine gx_block_normal ?_
    refine gx_then ?_
    refine gsr ?_
    refine gp zL ?_
    refine zsN ?_
    refine gnt ?_
    refine gc_ret ?_
    refine gx_retc rfl rfl (ld_aggS Ty.row_66 Ty.sz_66 (by repeat (first | exact Pick.here | apply Pick.there)) (by (simp only [List.drop_succ_cons, List.drop_zero, List.take_succ_cons, List.take_zero, List.cons_append, List.nil_append, List.append_assoc, drop_dc, drop_dc', take_dc, take_dc', drop_L, drop_L', take_L, take_L', len_L, Nat.reduceLeDiff, Nat.reduceSub, Nat.reduceAdd, Nat.le_refl, List.length_cons, List.length_append, List.length_nil, dc_length, List.drop_nil, List.take_nil, List.append_nil, List.length_map, List.length_replicate]; first | done | rfl)) (by first | rfl | (simp only [List.drop_succ_cons, List.drop_zero, List.take_succ_cons, List.take_zero, List.cons_append, List.nil_append, List.append_assoc, drop_dc, drop_dc', take_dc, take_dc', drop_L, drop_L', take_L, take_L', len_L, Nat.reduceLeDiff, Nat.reduceSub, Nat.reduceAdd, Nat.le_refl, List.length_cons, List.length_append, List.length_nil, dc_length, List.drop_nil, List.take_nil, List.append_nil, List.length_map, List.length_replicate]; first | done | omega))) ?_
    have hv : Ag pVote σ ⟨x18, y18, d26, v30⟩ := g18.bind (g26.bind (g30.bind (Ag.pure _)))
    have hb : pBody 1 = pBind pVote (fun v => pPure { msg0 1 with vote := v }) := rfl
    have ha : Ag (pBody 1) σ { msg0 1 with vote := ⟨x18, y18, d26, v30⟩ } := by rw [hb]; exact hv.bind (Ag.pure _)
    have hr : rstep (pBody 1) σ = rstep pVote σ := by rw [hb, rstep_bind hv, rstep_pure]
    have hr2 : rstep pVote σ = rstep pSigned (rstep pDig (rstep pAt (σ))) := by rw [pVote, rstep_bind g18, rstep_bind g26, rstep_bind g30, rstep_pure]
    rw [hr, hr2]
    intro w' hw
    refine ⟨(.int .i64 1 :: .int .i64 x18 :: .int .i64 y18 :: (dc d26 ++ (q30 ++ (tmoC ++ (propC ++ (dc dig0 ++ (dc dig0 ++ (blkC ++ chgC))))))), { msg0 1 with vote := ⟨x18, y18, d26, v30⟩ }), rfl, St.pureI ⟨ha, by simp only [List.length_cons, List.length_append, List.length_nil, dc_length, len_L], (by repeat (first | exact all_nil' | exact dc_one _ | exact One.h | refine all_app' (dc_one _) ?_ | refine all_app' One.h ?_ | refine all_cons' rfl ?_))⟩ ?_⟩
    exact (hw.conv (M := [VlR RdSigned q30 v30]) (N := [VlR RdMsg (.int .i64 1 :: .int .i64 x18 :: .int .i64 y18 :: (dc d26 ++ (q30 ++ (tmoC ++ (propC ++ (dc dig0 ++ (dc dig0 ++ (blkC ++ chgC)))))))) ({ msg0 1 with vote := ⟨x18, y18, d26, v30⟩ })]) (by repeat (first | exact Sel.nil | (apply Sel.cons; · (repeat (first | exact Pick.here | apply Pick.there))))) (fun _ _ => vl_vote (by first | rfl | simp only [List.cons_append, List.append_assoc]))).sel (by repeat (first | exact Sel.nil | (apply Sel.cons; · (repeat (first | exact Pick.here | apply Pick.there)))))
  · refine gsr ?_
    refine gp zei ?_
    refine gp zas ?_
    refine gnt ?_
    refine gif rfl (fun hc33 => ?_) (fun hc33 => ?_)
    · try simp only at hc33
      have hk : n = 2 := hc33
      subst hk
      refine gc_eqc (cs' := .int .i64 2 :: (voteC ++ ((.int .i64 0 :: .int .i64 0 :: (qcC ++ (tcC ++ sgnC))) ++ (propC ++ (dc dig0 ++ (dc dig0 ++ (blkC ++ chgC))))))) (by repeat (first | exact Pick.here | apply Pick.there)) (by kernel_rfl) ?_
      refine gsr ?_
      refine gp zL ?_
      refine zc ?_ (c := fun w1 F1 F2 h1 h2 hd hst => rat_ok h1 (hE.mv hst.still))
      rintro ⟨x37, y37⟩
      refine gl_pureR (fun g37 => ?_)
      replace g37 : Ag pAt _ ((x37 : Int), (y37 : Int)) := g37
      refine gp zmv ?_
      refine gp zex ?_
      refine gp zex ?_
      refine gp zfa ?_
      refine gp zfa ?_
      refine zs1 ?_
      refine gp zfa ?_
      refine gp zfa ?_
      refine zs1 ?_
      refine gnt ?_
      refine gsr ?_
      refine gp zL ?_
      refine zc ?_ (c := fun w1 F1 F2 h1 h2 hd hst => rqc_ok h1 (hE.mv hst.still))
      rintro ⟨q45, v45⟩
      refine gl_pureR (fun hp45 => ?_)
      obtain ⟨g45, z45, o45⟩ := hp45
      replace z45 : q45.length = _ := z45
      have i45 := Len.of z45
      have j45 := One.of (show ∀ v ∈ q45, v.oneCell' = true from o45)
      refine gp zfa ?_
      refine gp zfa ?_
      refine zsN ?_
      refine gnt ?_
      refine gsr ?_
      refine gp zL ?_
      refine zc ?_ (c := fun w1 F1 F2 h1 h2 hd hst => rtc_ok h1 (hE.mv hst.still))
      rintro ⟨q49, v49⟩
      refine gl_pureR (fun hp49 => ?_)
      obtain ⟨g49, z49, o49⟩ := hp49
      replace z49 : q49.length = _ := z49
      have i49 := Len.of z49
      have j49 := One.of (show ∀ v ∈ q49, v.oneCell' = true from o49)
      refine gp zfa ?_
      refine gp zfa ?_
      refine zsN ?_
      refine gnt ?_
      refine gc_region ?_
      refine gp zL ?_
      refine zc ?_ (c := fun w1 F1 F2 h1 h2 hd hst => rsigned_ok h1 (hE.mv hst.still))
      rintro ⟨q53, v53⟩
      refine gl_pureR (fun hp53 => ?_)
      obtain ⟨g53, z53, o53⟩ := hp53
      replace z53 : q53.length = _ := z53
      have i53 := Len.of z53
      have j53 := One.of (show ∀ v ∈ q53, v.oneCell' = true from o53)
      refine gp zfa ?_
      refine gp zfa ?_
      refine zsN ?_
      refine gl_nil ?_
      refine gx_block_normal ?_
      refine gx_then ?_
      refine gsr ?_
      refine gp zL ?_
      refine zsN ?_
      refine gnt ?_
      refine gc_ret ?_
      refine gx_retc rfl rfl (ld_aggS Ty.row_66 Ty.sz_66 (by repeat (first | exact Pick.here | apply Pick.there)) (by (simp only [List.drop_succ_cons, List.drop_zero, List.take_succ_cons, List.take_zero, List.cons_append, List.nil_append, List.append_assoc, drop_dc, drop_dc', take_dc, take_dc', drop_L, drop_L', take_L, take_L', len_L, Nat.reduceLeDiff, Nat.reduceSub, Nat.reduceAdd, Nat.le_refl, List.length_cons, List.length_append, List.length_nil, dc_length, List.drop_nil, List.take_nil, List.append_nil, List.length_map, List.length_replicate]; first | done | rfl)) (by first | rfl | (simp only [List.drop_succ_cons, List.drop_zero, List.take_succ_cons, List.take_zero, List.cons_append, List.nil_append, List.append_assoc, drop_dc, drop_dc', take_dc, take_dc', drop_L, drop_L', take_L, take_L', len_L, Nat.reduceLeDiff, Nat.reduceSub, Nat.reduceAdd, Nat.le_refl, List.length_cons, List.length_append, List.length_nil, dc_length, List.drop_nil, List.take_nil, List.append_nil, List.length_map, List.length_replicate]; first | done | omega))) ?_
      have hv : Ag pTmo σ ⟨x37, y37, v45, v49, v53⟩ := g37.bind (g45.bind (g49.bind (g53.bind (Ag.pure _))))
      have hb : pBody 2 = pBind pTmo (fun v => pPure { msg0 2 with tmo := v }) := rfl
      have ha : Ag (pBody 2) σ { msg0 2 with tmo := ⟨x37, y37, v45, v49, v53⟩ } := by rw [hb]; exact hv.bind (Ag.pure _)
      have hr : rstep (pBody 2) σ = rstep pTmo σ := by rw [hb, rstep_bind hv, rstep_pure]
      have hr2 : rstep pTmo σ = rstep pSigned (rstep pTC (rstep pQC (rstep pAt (σ)))) := by rw [pTmo, rstep_bind g37, rstep_bind g45, rstep_bind g49, rstep_bind g53, rstep_pure]
      rw [hr, hr2]
      intro w' hw
      refine ⟨(.int .i64 2 :: (voteC ++ .int .i64 x37 :: .int .i64 y37 :: (q45 ++ (q49 ++ (q53 ++ (propC ++ (dc dig0 ++ (dc dig0 ++ (blkC ++ chgC)))))))), { msg0 2 with tmo := ⟨x37, y37, v45, v49, v53⟩ }), rfl, St.pureI ⟨ha, by simp only [List.length_cons, List.length_append, List.length_nil, dc_length, len_L], (by repeat (first | exact all_nil' | exact dc_one _ | exact One.h | refine all_app' (dc_one _) ?_ | refine all_app' One.h ?_ | refine all_cons' rfl ?_))⟩ ?_⟩
      exact (hw.conv (M := [VlR RdQC q45 v45, VlR RdTC q49 v49, VlR RdSigned q53 v53]) (N := [VlR RdMsg (.int .i64 2 :: (voteC ++ .int .i64 x37 :: .int .i64 y37 :: (q45 ++ (q49 ++ (q53 ++ (propC ++ (dc dig0 ++ (dc dig0 ++ (blkC ++ chgC))))))))) ({ msg0 2 with tmo := ⟨x37, y37, v45, v49, v53⟩ })]) (by repeat (first | exact Sel.nil | (apply Sel.cons; · (repeat (first | exact Pick.here | apply Pick.there))))) (fun _ _ => vl_tmo (by first | rfl | simp only [List.cons_append, List.append_assoc]))).sel (by repeat (first | exact Sel.nil | (apply Sel.cons; · (repeat (first | exact Pick.here | apply Pick.there)))))
    · refine gsr ?_
      refine gp zei ?_
      refine gp zas ?_
      refine gnt ?_
      refine gif rfl (fun hc56 => ?_) (fun hc56 => ?_)
      · try simp only at hc56
        have hk : n = 3 := hc56
        subst hk
        refine gc_eqc (cs' := .int .i64 3 :: (voteC ++ (tmoC ++ ((blkC ++ (tcC ++ sgnC)) ++ (dc dig0 ++ (dc dig0 ++ (blkC ++ chgC))))))) (by repeat (first | exact Pick.here | apply Pick.there)) (by kernel_rfl) ?_
        refine gsr ?_
        refine gp zL ?_
        refine zc ?_ (c := fun w1 F1 F2 h1 h2 hd hst => rblock_ok h1 (hE.mv hst.still))
        rintro ⟨q59, v59⟩
        refine gl_pureR (fun hp59 => ?_)
        obtain ⟨g59, z59, o59⟩ := hp59
        replace z59 : q59.length = _ := z59
        have i59 := Len.of z59
        have j59 := One.of (show ∀ v ∈ q59, v.oneCell' = true from o59)
        refine gp zfa ?_
        refine gp zfa ?_
        refine zsN ?_
        refine gnt ?_
        refine gsr ?_
        refine gp zL ?_
        refine zc ?_ (c := fun w1 F1 F2 h1 h2 hd hst => rtc_ok h1 (hE.mv hst.still))
        rintro ⟨q63, v63⟩
        refine gl_pureR (fun hp63 => ?_)
        obtain ⟨g63, z63, o63⟩ := hp63
        replace z63 : q63.length = _ := z63
        have i63 := Len.of z63
        have j63 := One.of (show ∀ v ∈ q63, v.oneCell' = true from o63)
        refine gp zfa ?_
        refine gp zfa ?_
        refine zsN ?_
        refine gnt ?_
        refine gc_region ?_
        refine gp zL ?_
        refine zc ?_ (c := fun w1 F1 F2 h1 h2 hd hst => rsigned_ok h1 (hE.mv hst.still))
        rintro ⟨q67, v67⟩
        refine gl_pureR (fun hp67 => ?_)
        obtain ⟨g67, z67, o67⟩ := hp67
        replace z67 : q67.length = _ := z67
        have i67 := Len.of z67
        have j67 := One.of (show ∀ v ∈ q67, v.oneCell' = true from o67)
        refine gp zfa ?_
        refine gp zfa ?_
        refine zsN ?_
        refine gl_nil ?_
        refine gx_block_normal ?_
        refine gx_then ?_
        refine gsr ?_
        refine gp zL ?_
        refine zsN ?_
        refine gnt ?_
        refine gc_ret ?_
        refine gx_retc rfl rfl (ld_aggS Ty.row_66 Ty.sz_66 (by repeat (first | exact Pick.here | apply Pick.there)) (by (simp only [List.drop_succ_cons, List.drop_zero, List.take_succ_cons, List.take_zero, List.cons_append, List.nil_append, List.append_assoc, drop_dc, drop_dc', take_dc, take_dc', drop_L, drop_L', take_L, take_L', len_L, Nat.reduceLeDiff, Nat.reduceSub, Nat.reduceAdd, Nat.le_refl, List.length_cons, List.length_append, List.length_nil, dc_length, List.drop_nil, List.take_nil, List.append_nil, List.length_map, List.length_replicate]; first | done | rfl)) (by first | rfl | (simp only [List.drop_succ_cons, List.drop_zero, List.take_succ_cons, List.take_zero, List.cons_append, List.nil_append, List.append_assoc, drop_dc, drop_dc', take_dc, take_dc', drop_L, drop_L', take_L, take_L', len_L, Nat.reduceLeDiff, Nat.reduceSub, Nat.reduceAdd, Nat.le_refl, List.length_cons, List.length_append, List.length_nil, dc_length, List.drop_nil, List.take_nil, List.append_nil, List.length_map, List.length_replicate]; first | done | omega))) ?_
        have hv : Ag pProp σ ⟨v59, v63, v67⟩ := g59.bind (g63.bind (g67.bind (Ag.pure _)))
        have hb : pBody 3 = pBind pProp (fun v => pPure { msg0 3 with prop := v }) := rfl
        have ha : Ag (pBody 3) σ { msg0 3 with prop := ⟨v59, v63, v67⟩ } := by rw [hb]; exact hv.bind (Ag.pure _)
        have hr : rstep (pBody 3) σ = rstep pProp σ := by rw [hb, rstep_bind hv, rstep_pure]
        have hr2 : rstep pProp σ = rstep pSigned (rstep pTC (rstep pBlock (σ))) := by rw [pProp, rstep_bind g59, rstep_bind g63, rstep_bind g67, rstep_pure]
        rw [hr, hr2]
        intro w' hw
        refine ⟨(.int .i64 3 :: (voteC ++ (tmoC ++ (q59 ++ (q63 ++ (q67 ++ (dc dig0 ++ (dc dig0 ++ (blkC ++ chgC)))))))), { msg0 3 with prop := ⟨v59, v63, v67⟩ }), rfl, St.pureI ⟨ha, by simp only [List.length_cons, List.length_append, List.length_nil, dc_length, len_L], (by repeat (first | exact all_nil' | exact dc_one _ | exact One.h | refine all_app' (dc_one _) ?_ | refine all_app' One.h ?_ | refine all_cons' rfl ?_))⟩ ?_⟩
        exact (hw.conv (M := [VlR RdBlock q59 v59, VlR RdTC q63 v63, VlR RdSigned q67 v67]) (N := [VlR RdMsg (.int .i64 3 :: (voteC ++ (tmoC ++ (q59 ++ (q63 ++ (q67 ++ (dc dig0 ++ (dc dig0 ++ (blkC ++ chgC))))))))) ({ msg0 3 with prop := ⟨v59, v63, v67⟩ })]) (by repeat (first | exact Sel.nil | (apply Sel.cons; · (repeat (first | exact Pick.here | apply Pick.there))))) (fun _ _ => vl_prop (by first | rfl | simp only [List.cons_append, List.append_assoc]))).sel (by repeat (first | exact Sel.nil | (apply Sel.cons; · (repeat (first | exact Pick.here | apply Pick.there)))))
      · refine gsr ?_
        refine gp zei ?_
        refine gp zas ?_
        refine gnt ?_
        refine gif rfl (fun hc70 => ?_) (fun hc70 => ?_)
        · try simp only at hc70
          have hk : n = 4 := hc70
          subst hk
          refine gc_eqc (cs' := .int .i64 4 :: (voteC ++ (tmoC ++ (propC ++ (dc dig0 ++ (dc dig0 ++ (blkC ++ chgC))))))) (by repeat (first | exact Pick.here | apply Pick.there)) (by kernel_rfl) ?_
          refine gsr ?_
          refine gp zL ?_
          refine zc (fun d73 => ?_) (c := fun w1 F1 F2 h1 h2 hd hst => rdigest_ok h1 (hE.mv hst.still))
          refine gl_pureR (fun g73 => ?_)
          refine gp zfa ?_
          refine gp zfa ?_
          refine zsN ?_
          refine gnt ?_
          refine gc_region ?_
          refine gp zL ?_
          refine zc (fun d77 => ?_) (c := fun w1 F1 F2 h1 h2 hd hst => rdigest_ok h1 (hE.mv hst.still))
          refine gl_pureR (fun g77 => ?_)
          refine gp zfa ?_
          refine gp zfa ?_
          refine zsN ?_
          refine gl_nil ?_
          refine gx_block_normal ?_
          refine gx_then ?_
          refine gsr ?_
          refine gp zL ?_
          refine zsN ?_
          refine gnt ?_
          refine gc_ret ?_
          refine gx_retc rfl rfl (ld_aggS Ty.row_66 Ty.sz_66 (by repeat (first | exact Pick.here | apply Pick.there)) (by (simp only [List.drop_succ_cons, List.drop_zero, List.take_succ_cons, List.take_zero, List.cons_append, List.nil_append, List.append_assoc, drop_dc, drop_dc', take_dc, take_dc', drop_L, drop_L', take_L, take_L', len_L, Nat.reduceLeDiff, Nat.reduceSub, Nat.reduceAdd, Nat.le_refl, List.length_cons, List.length_append, List.length_nil, dc_length, List.drop_nil, List.take_nil, List.append_nil, List.length_map, List.length_replicate]; first | done | rfl)) (by first | rfl | (simp only [List.drop_succ_cons, List.drop_zero, List.take_succ_cons, List.take_zero, List.cons_append, List.nil_append, List.append_assoc, drop_dc, drop_dc', take_dc, take_dc', drop_L, drop_L', take_L, take_L', len_L, Nat.reduceLeDiff, Nat.reduceSub, Nat.reduceAdd, Nat.le_refl, List.length_cons, List.length_append, List.length_nil, dc_length, List.drop_nil, List.take_nil, List.append_nil, List.length_map, List.length_replicate]; first | done | omega))) ?_
          have hb : pBody 4 = pBind pDig fun d => pBind pDig fun e => pPure { msg0 4 with wantFrom := d, wantBlock := e } := rfl
          have ha : Ag (pBody 4) σ { msg0 4 with wantFrom := d73, wantBlock := d77 } := by rw [hb]; exact g73.bind (g77.bind (Ag.pure _))
          have hr : rstep (pBody 4) σ = rstep pDig (rstep pDig (σ)) := by rw [hb, rstep_bind g73, rstep_bind g77, rstep_pure]
          rw [hr]
          intro w' hw
          refine ⟨(.int .i64 4 :: (voteC ++ (tmoC ++ (propC ++ (dc d73 ++ (dc d77 ++ (blkC ++ chgC)))))), { msg0 4 with wantFrom := d73, wantBlock := d77 }), rfl, St.pureI ⟨ha, by simp only [List.length_cons, List.length_append, List.length_nil, dc_length, len_L], (by repeat (first | exact all_nil' | exact dc_one _ | exact One.h | refine all_app' (dc_one _) ?_ | refine all_app' One.h ?_ | refine all_cons' rfl ?_))⟩ ?_⟩
          exact (hw.mapL fun F' hF' => vl_want (by first | rfl | simp only [List.cons_append, List.append_assoc]) hF').sel (by repeat (first | exact Sel.nil | (apply Sel.cons; · (repeat (first | exact Pick.here | apply Pick.there)))))
        · refine gsr ?_
          refine gp zei ?_
          refine gp zas ?_
          refine gnt ?_
          refine gif rfl (fun hc80 => ?_) (fun hc80 => ?_)
          · try simp only at hc80
            have hk : n = 5 := hc80
            subst hk
            refine gc_eqc (cs' := .int .i64 5 :: (voteC ++ (tmoC ++ (propC ++ (dc dig0 ++ (dc dig0 ++ (blkC ++ chgC))))))) (by repeat (first | exact Pick.here | apply Pick.there)) (by kernel_rfl) ?_
            refine gc_region ?_
            refine gp zL ?_
            refine zc ?_ (c := fun w1 F1 F2 h1 h2 hd hst => rblock_ok h1 (hE.mv hst.still))
            rintro ⟨q83, v83⟩
            refine gl_pureR (fun hp83 => ?_)
            obtain ⟨g83, z83, o83⟩ := hp83
            replace z83 : q83.length = _ := z83
            have i83 := Len.of z83
            have j83 := One.of (show ∀ v ∈ q83, v.oneCell' = true from o83)
            refine gp zfa ?_
            refine gp zfa ?_
            refine zsN ?_
            refine gl_nil ?_
            refine gx_block_normal ?_
            refine gx_then ?_
            refine gsr ?_
            refine gp zL ?_
            refine zsN ?_
            refine gnt ?_
            refine gc_ret ?_
            refine gx_retc rfl rfl (ld_aggS Ty.row_66 Ty.sz_66 (by repeat (first | exact Pick.here | apply Pick.there)) (by (simp only [List.drop_succ_cons, List.drop_zero, List.take_succ_cons, List.take_zero, List.cons_append, List.nil_append, List.append_assoc, drop_dc, drop_dc', take_dc, take_dc', drop_L, drop_L', take_L, take_L', len_L, Nat.reduceLeDiff, Nat.reduceSub, Nat.reduceAdd, Nat.le_refl, List.length_cons, List.length_append, List.length_nil, dc_length, List.drop_nil, List.take_nil, List.append_nil, List.length_map, List.length_replicate]; first | done | rfl)) (by first | rfl | (simp only [List.drop_succ_cons, List.drop_zero, List.take_succ_cons, List.take_zero, List.cons_append, List.nil_append, List.append_assoc, drop_dc, drop_dc', take_dc, take_dc', drop_L, drop_L', take_L, take_L', len_L, Nat.reduceLeDiff, Nat.reduceSub, Nat.reduceAdd, Nat.le_refl, List.length_cons, List.length_append, List.length_nil, dc_length, List.drop_nil, List.take_nil, List.append_nil, List.length_map, List.length_replicate]; first | done | omega))) ?_
            have hv : Ag pBlock σ v83 := g83
            have hb : pBody 5 = pBind pBlock (fun v => pPure { msg0 5 with reply := v }) := rfl
            have ha : Ag (pBody 5) σ { msg0 5 with reply := v83 } := by rw [hb]; exact hv.bind (Ag.pure _)
            have hr : rstep (pBody 5) σ = rstep pBlock σ := by rw [hb, rstep_bind hv, rstep_pure]
            rw [hr]
            intro w' hw
            refine ⟨(.int .i64 5 :: (voteC ++ (tmoC ++ (propC ++ (dc dig0 ++ (dc dig0 ++ (q83 ++ chgC)))))), { msg0 5 with reply := v83 }), rfl, St.pureI ⟨ha, by simp only [List.length_cons, List.length_append, List.length_nil, dc_length, len_L], (by repeat (first | exact all_nil' | exact dc_one _ | exact One.h | refine all_app' (dc_one _) ?_ | refine all_app' One.h ?_ | refine all_cons' rfl ?_))⟩ ?_⟩
            exact (hw.conv (M := [VlR RdBlock q83 v83]) (N := [VlR RdMsg (.int .i64 5 :: (voteC ++ (tmoC ++ (propC ++ (dc dig0 ++ (dc dig0 ++ (q83 ++ chgC))))))) ({ msg0 5 with reply := v83 })]) (by repeat (first | exact Sel.nil | (apply Sel.cons; · (repeat (first | exact Pick.here | apply Pick.there))))) (fun _ _ => vl_reply (by first | rfl | simp only [List.cons_append, List.append_assoc]))).sel (by repeat (first | exact Sel.nil | (apply Sel.cons; · (repeat (first | exact Pick.here | apply Pick.there)))))
          · refine gsr ?_
            refine gp zei ?_
            refine gp zas ?_
            refine gnt ?_
            refine gif rfl (fun hc86 => ?_) (fun hc86 => ?_)
            · try simp only at hc86
              have hk : n = 6 := hc86
              subst hk
              refine gc_eqc (cs' := .int .i64 6 :: (voteC ++ (tmoC ++ (propC ++ (dc dig0 ++ (dc dig0 ++ (blkC ++ chgC))))))) (by repeat (first | exact Pick.here | apply Pick.there)) (by kernel_rfl) ?_
              refine gc_region ?_
              refine gp zL ?_
              refine zc ?_ (c := fun w1 F1 F2 h1 h2 hd hst => rchange_ok h1 (hE.mv hst.still))
              rintro ⟨q89, v89⟩
              refine gl_pureR (fun hp89 => ?_)
              obtain ⟨y89, g89, z89, o89⟩ := hp89
              replace z89 : q89.length = _ := z89
              have i89 := Len.of z89
              have j89 := One.of (show ∀ v ∈ q89, v.oneCell' = true from o89)
              refine gp zfa ?_
              refine zsN ?_
              refine gl_nil ?_
              refine gx_block_normal ?_
              refine gx_then ?_
              refine gsr ?_
              refine gp zL ?_
              refine zsN ?_
              refine gnt ?_
              refine gc_ret ?_
              refine gx_retc rfl rfl (ld_aggS Ty.row_66 Ty.sz_66 (by repeat (first | exact Pick.here | apply Pick.there)) (by (simp only [List.drop_succ_cons, List.drop_zero, List.take_succ_cons, List.take_zero, List.cons_append, List.nil_append, List.append_assoc, drop_dc, drop_dc', take_dc, take_dc', drop_L, drop_L', take_L, take_L', len_L, Nat.reduceLeDiff, Nat.reduceSub, Nat.reduceAdd, Nat.le_refl, List.length_cons, List.length_append, List.length_nil, dc_length, List.drop_nil, List.take_nil, List.append_nil, List.length_map, List.length_replicate]; first | done | rfl)) (by first | rfl | (simp only [List.drop_succ_cons, List.drop_zero, List.take_succ_cons, List.take_zero, List.cons_append, List.nil_append, List.append_assoc, drop_dc, drop_dc', take_dc, take_dc', drop_L, drop_L', take_L, take_L', len_L, Nat.reduceLeDiff, Nat.reduceSub, Nat.reduceAdd, Nat.le_refl, List.length_cons, List.length_append, List.length_nil, dc_length, List.drop_nil, List.take_nil, List.append_nil, List.length_map, List.length_replicate]; first | done | omega))) ?_
              have hv : Ag pChg σ v89 := g89
              have hb : pBody 6 = pBind pChg (fun v => pPure { msg0 6 with chg := v }) := rfl
              have ha : Ag (pBody 6) σ { msg0 6 with chg := v89 } := by rw [hb]; exact hv.bind (Ag.pure _)
              have hr : rstep (pBody 6) σ = rstep pChg σ := by rw [hb, rstep_bind hv, rstep_pure]
              rw [hr]
              intro w' hw
              refine ⟨(.int .i64 6 :: (voteC ++ (tmoC ++ (propC ++ (dc dig0 ++ (dc dig0 ++ (blkC ++ q89)))))), { msg0 6 with chg := v89 }), rfl, St.pureI ⟨ha, by simp only [List.length_cons, List.length_append, List.length_nil, dc_length, len_L], (by repeat (first | exact all_nil' | exact dc_one _ | exact One.h | refine all_app' (dc_one _) ?_ | refine all_app' One.h ?_ | refine all_cons' rfl ?_))⟩ ?_⟩
              exact (hw.conv (M := [VlR RdChg q89 v89]) (N := [VlR RdMsg (.int .i64 6 :: (voteC ++ (tmoC ++ (propC ++ (dc dig0 ++ (dc dig0 ++ (blkC ++ q89))))))) ({ msg0 6 with chg := v89 })]) (by repeat (first | exact Sel.nil | (apply Sel.cons; · (repeat (first | exact Pick.here | apply Pick.there))))) (fun _ _ => vl_change (by first | rfl | simp only [List.cons_append, List.append_assoc]))).sel (by repeat (first | exact Sel.nil | (apply Sel.cons; · (repeat (first | exact Pick.here | apply Pick.there)))))
            · refine gc_regionT 5 (by kernel_rfl) (by kernel_rfl) ?_
              refine sp zfa ?_
              refine sp zl ?_
              refine sp znc ?_
              refine sp zfa ?_
              refine sp (r_ld1o rfl Ty.row_38 (hE.c 4 Has.h) (hE.n 4 Has.h)) ?_
              refine gs_nil ?_
              refine zc (fun _ => ?_) (c := fun w1 F1 F2 h1 h2 hd hst => failR_ok (by decide) h1)
              refine gl_nil ?_
              refine gx_block_normal ?_
              refine gx_then ?_
              refine gsr ?_
              refine gp zL ?_
              refine zsN ?_
              refine gnt ?_
              refine gc_ret ?_
              refine gx_retc rfl rfl (ld_aggS Ty.row_66 Ty.sz_66 (by repeat (first | exact Pick.here | apply Pick.there)) (by (simp only [List.drop_succ_cons, List.drop_zero, List.take_succ_cons, List.take_zero, List.cons_append, List.nil_append, List.append_assoc, drop_dc, drop_dc', take_dc, take_dc', drop_L, drop_L', take_L, take_L', len_L, Nat.reduceLeDiff, Nat.reduceSub, Nat.reduceAdd, Nat.le_refl, List.length_cons, List.length_append, List.length_nil, dc_length, List.drop_nil, List.take_nil, List.append_nil, List.length_map, List.length_replicate]; first | done | rfl)) (by first | rfl | (simp only [List.drop_succ_cons, List.drop_zero, List.take_succ_cons, List.take_zero, List.cons_append, List.nil_append, List.append_assoc, drop_dc, drop_dc', take_dc, take_dc', drop_L, drop_L', take_L, take_L', len_L, Nat.reduceLeDiff, Nat.reduceSub, Nat.reduceAdd, Nat.le_refl, List.length_cons, List.length_append, List.length_nil, dc_length, List.drop_nil, List.take_nil, List.append_nil, List.length_map, List.length_replicate]; first | done | omega))) ?_
              have hb : pBody n = pErr 4 := by unfold pBody; rw [if_neg (by omega), if_neg (by omega), if_neg (by omega), if_neg (by omega), if_neg (by omega), if_neg (by omega)]
              rw [hb, rstep_err]
              intro w' hw
              exact ⟨(msgC n dig0 dig0, msg0 n), rfl, St.pureI ⟨Ag.err _, by simp only [msgC, List.length_cons, List.length_append, List.length_nil, dc_length, len_L], by unfold msgC; exact (by repeat (first | exact all_nil' | exact dc_one _ | exact One.h | refine all_app' (dc_one _) ?_ | refine all_app' One.h ?_ | refine all_cons' rfl ?_))⟩ ((hw.mapL fun F' hF' => vl_none rfl hF').sel (by repeat (first | exact Sel.nil | (apply Sel.cons; · (repeat (first | exact Pick.here | apply Pick.there))))))⟩

end Go.Proofs.YtkgbbnhdioghmaaGreatDoor

/- Walks, by program (wg.py) out of a spec. -/
namespace Go.Proofs.YtkgbbnhdioghmaaGreatDoor
open Go
set_option linter.unusedVariables false
set_option linter.unusedSimpArgs false


def NoZ {α : Type} (p : PR α) : Prop := ∀ b, p b ≠ .error 0
theorem noz_pure {α : Type} (x : α) : NoZ (pPure x) := fun b h => by cases h
theorem noz_err {α : Type} {e : Nat} (h : e ≠ 0) : NoZ (pErr (α := α) e) := fun b hh => by injection hh with hh; exact h hh
theorem noz_take (n : Nat) : NoZ (pTake n) := fun b h => by unfold pTake at h; split at h <;> cases h
theorem noz_bind {α β : Type} {p : PR α} {f : α → PR β} (hp : NoZ p) (hf : ∀ x, NoZ (f x)) : NoZ (pBind p f) := fun b h => by
  unfold pBind at h
  split at h
  · rename_i e he; injection h with h; subst h; exact hp b he
  · rename_i x he; exact hf _ _ h
theorem noz_num (wd : Nat) : NoZ (pNum wd) := noz_bind (noz_take wd) fun _ => noz_pure _
theorem noz_dig : NoZ pDig := noz_bind (noz_take 16) fun _ => noz_pure _
theorem noz_many {α : Type} {p : PR α} (h : NoZ p) : ∀ n, NoZ (pMany p n)
  | 0 => noz_pure _
  | n + 1 => noz_bind h fun _ => noz_bind (noz_many h n) fun _ => noz_pure _
theorem noz_ite {α : Type} {c : Prop} [Decidable c] {p q : PR α} (hp : NoZ p) (hq : NoZ q) : NoZ (if c then p else q) := by split <;> assumption
theorem noz_list {α : Type} {p : PR α} (h : NoZ p) (most : Nat) : NoZ (pList p most) := noz_bind (noz_num 1) fun _ => noz_ite (noz_err (by decide)) (noz_many h _)
theorem noz_bytes (most : Nat) : NoZ (pBytes most) := noz_bind (noz_num 2) fun _ => noz_ite (noz_err (by decide)) (noz_take _)
theorem noz_sig : NoZ pSig := noz_bind (noz_num 1) fun _ => noz_bind (noz_list noz_dig 68) fun _ => noz_bind (noz_list noz_dig 5) fun _ => noz_pure _
theorem noz_signed : NoZ pSigned := noz_bind (noz_num 1) fun _ => noz_bind noz_sig fun _ => noz_pure _
theorem noz_at : NoZ pAt := noz_bind (noz_num 4) fun _ => noz_bind (noz_num 6) fun _ => noz_pure _
theorem noz_qc : NoZ pQC := noz_bind noz_at fun _ => noz_bind noz_dig fun _ => noz_bind (noz_list noz_signed 7) fun _ => noz_pure _
theorem noz_late : NoZ pLate := noz_bind (noz_num 1) fun _ => noz_bind (noz_num 6) fun _ => noz_bind noz_sig fun _ => noz_pure _
theorem noz_tc : NoZ pTC := noz_bind noz_at fun _ => noz_bind (noz_list noz_late 7) fun _ => noz_pure _
theorem noz_vdr : NoZ pVdr := noz_bind noz_dig fun _ => noz_bind (noz_num 6) fun _ => noz_pure _
theorem noz_block : NoZ pBlock := noz_bind noz_at fun _ => noz_bind noz_dig fun _ => noz_bind noz_qc fun _ => noz_bind (noz_list (noz_bytes 16) 4) fun _ => noz_bind (noz_list noz_vdr 7) fun _ => noz_pure _
theorem noz_chg : NoZ pChg := noz_bind (noz_many noz_block 3) fun _ => noz_bind noz_qc fun _ => noz_pure _
theorem noz_vote : NoZ pVote := noz_bind noz_at fun _ => noz_bind noz_dig fun _ => noz_bind noz_signed fun _ => noz_pure _
theorem noz_tmo : NoZ pTmo := noz_bind noz_at fun _ => noz_bind noz_qc fun _ => noz_bind noz_tc fun _ => noz_bind noz_signed fun _ => noz_pure _
theorem noz_prop : NoZ pProp := noz_bind noz_block fun _ => noz_bind noz_tc fun _ => noz_bind noz_signed fun _ => noz_pure _
theorem noz_body (k : Int) : NoZ (pBody k) := by
  unfold pBody
  exact noz_ite (noz_bind noz_vote fun _ => noz_pure _) (noz_ite (noz_bind noz_tmo fun _ => noz_pure _) (noz_ite (noz_bind noz_prop fun _ => noz_pure _) (noz_ite (noz_bind noz_dig fun _ => noz_bind noz_dig fun _ => noz_pure _)
    (noz_ite (noz_bind noz_block fun _ => noz_pure _) (noz_ite (noz_bind noz_chg fun _ => noz_pure _) (noz_err (by decide)))))))
theorem noz_msg : NoZ pMsg := noz_bind (noz_num 1) noz_body
def allE {α : Type} (p : PR α) (z : α) (b : List UInt8) : Nat × α := match pAll p b with
  | .ok m => (0, m)
  | .error k => (k, z)
theorem allE_fin {α : Type} {p : PR α} {z v : α} {b : List UInt8} (hp : NoZ p) (h : Ag p (.ok b) v) : doneE (rstep p (.ok b)) = (allE p z b).1 ∧ (doneE (rstep p (.ok b)) = 0 → (allE p z b).2 = v) ∧ (doneE (rstep p (.ok b)) ≠ 0 → (allE p z b).2 = z) := by
  unfold allE pAll
  cases hb : p b with
  | error e =>
    have he : e ≠ 0 := fun h0 => hp b (by rw [hb, h0])
    simp only [rstep, hb, doneE]
    exact ⟨trivial, fun h => absurd h he, fun _ => trivial⟩
  | ok x =>
    obtain ⟨y, r⟩ := x
    have hy := h b y r rfl hb
    cases r with
    | nil => simp only [rstep, hb, doneE, if_true]; exact ⟨trivial, fun _ => hy.symm, fun h => absurd rfl h⟩
    | cons c t => simp [rstep, hb, doneE]
instance {k : Int} {a b : Dig} : Len (msgC k a b) 304 := ⟨by rw [msgC]; simp only [List.length_cons, List.length_append, dc_length, len_L]⟩
instance {k : Int} {a b : Dig} : One (msgC k a b) := One.of (by unfold msgC; repeat (first | exact One.h | refine all_app' (dc_one _) ?_ | refine all_app' One.h ?_ | refine all_cons' rfl ?_))

attribute [local irreducible] Gl Gc Gx Gs Runs Wt

attribute [local irreducible] voteC tmoC propC blkC chgC sgnC tcC qcC dc msgC

set_option maxHeartbeats 400000 in
theorem decode1_ok {w : World} {F : Nat → Prop} {TE : Nat} {ea : Nat → Addr} {g : Nat} {σ : RSt} (h : stars [RdrR TE ea g σ] w F) {es : List Nat} [Has es 1] [Has es 2] [Has es 4] (hE : GErr es w (fun k => ¬ F k) TE ea) :
    Calls Tryz.prog 59 #[.agg (List.toArray [.pointer (some ⟨g, 0, none⟩)])] w (Post w F (fun r : List Value × Msg => .agg r.1.toArray) (fun r => [pureR (Ag pMsg σ r.2 ∧ r.1.length = 304 ∧ ∀ v ∈ r.1, v.oneCell' = true), VlR RdMsg r.1 r.2, RdrR TE ea g (rstep pMsg σ)])) := by
  refine g_enter (env := [(0, .agg (List.toArray [.pointer (some ⟨g, 0, none⟩)]))]) Tryz.func59 rfl h Tryz.ntmps59 rfl rfl ?_
  refine gsr ?_
  refine zbN fun b1 => ?_
  refine zal fun b2 => ?_
  refine gl_eqc (cs' := msgC 0 dig0 dig0) (by repeat (first | exact Pick.here | apply Pick.there)) (by kernel_rfl) ?_
  refine gnt ?_
  refine gc_seq ?_
  refine gc_regionZ 5 ([blk b1 123 [.pointer (some ⟨g, 0, none⟩)]]) ?_
  refine yps 0 rfl zL ?_
  refine yps 1 rfl zfa ?_
  refine yps 2 rfl zl ?_
  refine yos 3 rfl ?_
  refine zc (fun x => ?_) (c := fun w1 F1 F2 h1 h2 hd hst => rnum_ok (wd := 1) h1 (hE.mv hst.still) (by decide) (by decide))
  refine gl_pureR (fun hp6 => ?_)
  obtain ⟨g6, _⟩ := hp6
  refine yxs ?_
  refine yos 4 rfl ?_
  refine zc ?_ (c := fun w1 F1 F2 h1 h2 hd hst => rbody_ok (n := (x : Int)) h1 (hE.mv hst.still))
  rintro ⟨q7, v7⟩
  refine gl_pureR (fun hp7 => ?_)
  obtain ⟨g7, z7, o7⟩ := hp7
  replace z7 : q7.length = _ := z7
  have i7 := Len.of z7
  have j7 := One.of (show ∀ v ∈ q7, v.oneCell' = true from o7)
  refine yxs ?_
  refine yzs rfl ?_
  refine zsN ?_
  refine gnt ?_
  refine gc_ret ?_
  refine gx_retc rfl rfl (ld_aggS Ty.row_66 Ty.sz_66 (by repeat (first | exact Pick.here | apply Pick.there)) (by (simp only [List.drop_succ_cons, List.drop_zero, List.take_succ_cons, List.take_zero, List.cons_append, List.nil_append, List.append_assoc, drop_dc, drop_dc', take_dc, take_dc', drop_L, drop_L', take_L, take_L', len_L, Nat.reduceLeDiff, Nat.reduceSub, Nat.reduceAdd, Nat.le_refl, List.length_cons, List.length_append, List.length_nil, dc_length, List.drop_nil, List.take_nil, List.append_nil, List.length_map, List.length_replicate]; first | done | rfl)) (by first | rfl | (simp only [List.drop_succ_cons, List.drop_zero, List.take_succ_cons, List.take_zero, List.cons_append, List.nil_append, List.append_assoc, drop_dc, drop_dc', take_dc, take_dc', drop_L, drop_L', take_L, take_L', len_L, Nat.reduceLeDiff, Nat.reduceSub, Nat.reduceAdd, Nat.le_refl, List.length_cons, List.length_append, List.length_nil, dc_length, List.drop_nil, List.take_nil, List.append_nil, List.length_map, List.length_replicate]; first | done | omega))) ?_
  have ha : Ag pMsg σ v7 := g6.bind g7
  have hr : rstep pMsg σ = rstep (pBody (x : Int)) (rstep (pNum 1) σ) := by rw [pMsg, rstep_bind g6]
  rw [hr]
  exact fun w' hw => ⟨(q7, v7), rfl, St.pureI ⟨ha, z7, o7⟩ (hw.sel (by repeat (first | exact Sel.nil | (apply Sel.cons; · (repeat (first | exact Pick.here | apply Pick.there))))))⟩

set_option maxHeartbeats 400000 in
theorem readMsg_ok {w : World} {F : Nat → Prop} {TE : Nat} {ea : Nat → Addr} {es : List Nat} [Has es 1] [Has es 2] [Has es 3] [Has es 4] {a : Option Addr} {n c : Nat} {b : List UInt8} (h : stars [] w F) (hE : GErr es w (fun k => ¬ F k) TE ea) (hx : RdRow w (fun k => ¬ F k) 1 a n (b.map B8)) (hb : n ≤ 1099511627776) :
    Calls Tryz.prog 58 #[.slice a n c, .func (.func 59) #[] #[]] w (Post w F (fun r : List Value => .tuple #[.agg r.toArray, eV TE ea (allE pMsg (msg0 0) b).1]) (fun r => [pureR (r.length = 304 ∧ ∀ v ∈ r, v.oneCell' = true), VlR RdMsg r (allE pMsg (msg0 0) b).2])) := by
  refine g_enter (env := [(0, .slice a n c), (1, .func (.func 59) #[] #[])]) Tryz.func58 rfl h Tryz.ntmps58 rfl rfl ?_
  refine gsr ?_
  refine zal fun b4 => ?_
  refine gl_eqc (cs' := msgC 0 dig0 dig0) (by repeat (first | exact Pick.here | apply Pick.there)) (by kernel_rfl) ?_
  refine gp zas ?_
  refine gnt ?_
  refine gsr ?_
  refine gp zmv ?_
  refine zc (fun g => ?_) (c := fun w1 F1 F2 h1 h2 hd hst => newReader_ok (TE := TE) (ea := ea) h1 (hx.mv hst.still) hb)
  refine gp zbu ?_
  refine zal fun b6 => ?_
  refine zsN ?_
  refine gnt ?_
  refine gsr ?_
  refine gp zmv ?_
  refine gp zL ?_
  refine gl_call (wt0 rfl) (e_callv (us := []) rfl Ty.call_59 rfl) (by repeat (first | exact Sel.nil | (apply Sel.cons; · (repeat (first | exact Pick.here | apply Pick.there))))) (fun w1 F1 F2 h1 h2 hd hst => decode1_ok h1 (hE.mv hst.still)) ?_
  rintro ⟨q15, v15⟩
  refine gl_pureR (fun hp15 => ?_)
  obtain ⟨g15, z15, o15⟩ := hp15
  replace z15 : q15.length = _ := z15
  have i15 := Len.of z15
  have j15 := One.of (show ∀ v ∈ q15, v.oneCell' = true from o15)
  have hfin := allE_fin (z := msg0 0) noz_msg g15
  refine zal fun b7 => ?_
  refine gl_eqc (cs' := msgC 0 dig0 dig0) (by repeat (first | exact Pick.here | apply Pick.there)) (by kernel_rfl) ?_
  refine zsN ?_
  refine gnt ?_
  refine gc_seq ?_
  refine gsr ?_
  refine gp zfa ?_
  refine gp zl ?_
  refine zc (fun _ => ?_) (c := fun w1 F1 F2 h1 h2 hd hst => rdone_ok h1 (hE.mv hst.still))
  refine gp zas ?_
  refine gnt ?_
  refine gsr ?_
  refine gp zmv ?_
  refine gp (r_bool (c := decide (¬ doneE (rstep pMsg (.ok b)) = 0)) (r_nenil rfl (by kernel_rfl)) (by simp)) ?_
  refine gnt ?_
  refine gif rfl (fun hc20 => ?_) (fun hc20 => ?_)
  · refine gsr ?_
    refine zal fun b9 => ?_
    refine gl_eqc (cs' := msgC 0 dig0 dig0) (by repeat (first | exact Pick.here | apply Pick.there)) (by kernel_rfl) ?_
    refine gnt ?_
    refine gsr ?_
    refine gp zL ?_
    refine gp zmv ?_
    refine zsN ?_
    refine gp zas ?_
    refine gnt ?_
    refine gc_ret ?_
    refine gx_then_ret ?_
    refine gx_retct rfl rfl (by conv => lhs; whnf) (ld_aggS Ty.row_66 Ty.sz_66 (by repeat (first | exact Pick.here | apply Pick.there)) (by (simp only [List.drop_succ_cons, List.drop_zero, List.take_succ_cons, List.take_zero, List.cons_append, List.nil_append, List.append_assoc, drop_dc, drop_dc', take_dc, take_dc', drop_L, drop_L', take_L, take_L', len_L, Nat.reduceLeDiff, Nat.reduceSub, Nat.reduceAdd, Nat.le_refl, List.length_cons, List.length_append, List.length_nil, dc_length, List.drop_nil, List.take_nil, List.append_nil, List.length_map, List.length_replicate]; first | done | rfl)) (by first | rfl | (simp only [List.drop_succ_cons, List.drop_zero, List.take_succ_cons, List.take_zero, List.cons_append, List.nil_append, List.append_assoc, drop_dc, drop_dc', take_dc, take_dc', drop_L, drop_L', take_L, take_L', len_L, Nat.reduceLeDiff, Nat.reduceSub, Nat.reduceAdd, Nat.le_refl, List.length_cons, List.length_append, List.length_nil, dc_length, List.drop_nil, List.take_nil, List.append_nil, List.length_map, List.length_replicate]; first | done | omega))) ?_
    rw [← hfin.1, hfin.2.2 hc20]
    intro w' hw
    exact ⟨msgC 0 dig0 dig0, rfl, St.pureI ⟨Len.h, One.h⟩ ((hw.mapL fun F' hF' => vl_pure (rd := RdMsg) (show RdMsg _ _ (msgC 0 dig0 dig0) (msg0 0) from rdMsgOf 0 dig0 dig0) hF').sel (by repeat (first | exact Sel.nil | (apply Sel.cons; · (repeat (first | exact Pick.here | apply Pick.there))))))⟩
  · refine gc_skip ?_
    refine gx_then ?_
    refine gsr ?_
    refine gp zL ?_
    refine zsN ?_
    refine gp zas ?_
    refine gnt ?_
    refine gc_ret ?_
    refine gx_retct rfl rfl (by conv => lhs; whnf) (ld_aggS Ty.row_66 Ty.sz_66 (by repeat (first | exact Pick.here | apply Pick.there)) (by (simp only [List.drop_succ_cons, List.drop_zero, List.take_succ_cons, List.take_zero, List.cons_append, List.nil_append, List.append_assoc, drop_dc, drop_dc', take_dc, take_dc', drop_L, drop_L', take_L, take_L', len_L, Nat.reduceLeDiff, Nat.reduceSub, Nat.reduceAdd, Nat.le_refl, List.length_cons, List.length_append, List.length_nil, dc_length, List.drop_nil, List.take_nil, List.append_nil, List.length_map, List.length_replicate]; first | done | rfl)) (by first | rfl | (simp only [List.drop_succ_cons, List.drop_zero, List.take_succ_cons, List.take_zero, List.cons_append, List.nil_append, List.append_assoc, drop_dc, drop_dc', take_dc, take_dc', drop_L, drop_L', take_L, take_L', len_L, Nat.reduceLeDiff, Nat.reduceSub, Nat.reduceAdd, Nat.le_refl, List.length_cons, List.length_append, List.length_nil, dc_length, List.drop_nil, List.take_nil, List.append_nil, List.length_map, List.length_replicate]; first | done | omega))) ?_
    have hc0 : doneE (rstep pMsg (.ok b)) = 0 := by omega
    rw [← hfin.1, hfin.2.1 hc0, hc0, eV_zero]
    intro w' hw
    exact ⟨q15, rfl, St.pureI ⟨z15, o15⟩ (hw.sel (by repeat (first | exact Sel.nil | (apply Sel.cons; · (repeat (first | exact Pick.here | apply Pick.there))))))⟩

set_option maxHeartbeats 400000 in
theorem decode_ok {w : World} {F : Nat → Prop} {TE : Nat} {ea : Nat → Addr} {es : List Nat} [Has es 1] [Has es 2] [Has es 3] [Has es 4] {a : Option Addr} {n c : Nat} {b : List UInt8} (h : stars [] w F) (hE : GErr es w (fun k => ¬ F k) TE ea) (hx : RdRow w (fun k => ¬ F k) 1 a n (b.map B8)) (hb : n ≤ 1099511627776) :
    Calls Tryz.prog 18 #[.slice a n c] w (Post w F (fun r : List Value => .tuple #[.agg r.toArray, eV TE ea (allE pMsg (msg0 0) b).1]) (fun r => [pureR (r.length = 304 ∧ ∀ v ∈ r, v.oneCell' = true), VlR RdMsg r (allE pMsg (msg0 0) b).2])) := by
  refine g_enter (env := [(0, .slice a n c)]) Tryz.func18 rfl h Tryz.ntmps18 rfl rfl ?_
  refine gsr ?_
  refine zal fun b2 => ?_
  refine gl_eqc (cs' := msgC 0 dig0 dig0) (by repeat (first | exact Pick.here | apply Pick.there)) (by kernel_rfl) ?_
  refine gp zas ?_
  refine gnt ?_
  refine gsr ?_
  refine gp zmv ?_
  refine zc (fun q5 => ?_) (c := fun w1 F1 F2 h1 h2 hd hst => readMsg_ok h1 (hE.mv hst.still) (hx.mv hst.still) hb)
  refine gl_pureR (fun hq => ?_)
  have i5 := Len.of hq.1
  have j5 := One.of hq.2
  refine gp zex ?_
  refine gp zex ?_
  refine zsN ?_
  refine gp zas ?_
  refine gnt ?_
  refine gc_ret ?_
  refine gx_retct rfl rfl (by conv => lhs; whnf) (ld_aggS Ty.row_66 Ty.sz_66 (by repeat (first | exact Pick.here | apply Pick.there)) (by (simp only [List.drop_succ_cons, List.drop_zero, List.take_succ_cons, List.take_zero, List.cons_append, List.nil_append, List.append_assoc, drop_dc, drop_dc', take_dc, take_dc', drop_L, drop_L', take_L, take_L', len_L, Nat.reduceLeDiff, Nat.reduceSub, Nat.reduceAdd, Nat.le_refl, List.length_cons, List.length_append, List.length_nil, dc_length, List.drop_nil, List.take_nil, List.append_nil, List.length_map, List.length_replicate]; first | done | rfl)) (by first | rfl | (simp only [List.drop_succ_cons, List.drop_zero, List.take_succ_cons, List.take_zero, List.cons_append, List.nil_append, List.append_assoc, drop_dc, drop_dc', take_dc, take_dc', drop_L, drop_L', take_L, take_L', len_L, Nat.reduceLeDiff, Nat.reduceSub, Nat.reduceAdd, Nat.le_refl, List.length_cons, List.length_append, List.length_nil, dc_length, List.drop_nil, List.take_nil, List.append_nil, List.length_map, List.length_replicate]; first | done | omega))) ?_
  exact fun w' hw => ⟨q5, rfl, St.pureI hq (hw.sel (by repeat (first | exact Sel.nil | (apply Sel.cons; · (repeat (first | exact Pick.here | apply Pick.there))))))⟩

end Go.Proofs.YtkgbbnhdioghmaaGreatDoor

/- Walks, by program (wg.py) out of a spec. -/
namespace Go.Proofs.YtkgbbnhdioghmaaGreatDoor
open Go
set_option linter.unusedVariables false
set_option linter.unusedSimpArgs false


theorem take_eq_succ {α : Type} {l m : List α} {k : Nat} {x : α} (h : l.take k = m.take k) (h1 : l[k]? = some x) (h2 : m[k]? = some x) : l.take (k + 1) = m.take (k + 1) := by
  rw [List.take_add_one, List.take_add_one, h, h1, h2]
theorem range_left {w : World} {g o : Nat} {xs ys : List Value} (h : w.rangeAt g o (xs ++ ys)) : w.rangeAt g o xs := fun j v hj => h j v (by
  rw [List.getElem?_append_left (List.getElem?_eq_some_iff.1 hj).1]; exact hj)
theorem range_right {w : World} {g o : Nat} {xs ys : List Value} (h : w.rangeAt g o (xs ++ ys)) : w.rangeAt g (o + xs.length) ys := fun j v hj => by
  have := h (xs.length + j) v (by rw [List.getElem?_append_right (by omega)]; simpa using hj)
  rwa [← Nat.add_assoc] at this
theorem range_at {w : World} {g o : Nat} {xs : List Value} (h : w.rangeAt g o xs) {j : Nat} {v : Value} (hj : xs[j]? = some v) : w.cell? ⟨g, o + j, none⟩ = some v := h j v hj

attribute [local irreducible] Gl Gc Gx Gs Runs Wt

set_option maxHeartbeats 400000 in
theorem sameDigs_ok {w : World} {F : Nat → Prop} {n1 c1 n2 c2 : Nat} {a1 a2 : Option Addr} {l1 l2 : List Dig} (h : stars [] w F) (hx : RdList (RdDig) w (fun k => ¬ F k) 16 a1 n1 l1) (hy : RdList (RdDig) w (fun k => ¬ F k) 16 a2 n2 l2) :
    Calls Tryz.prog 76 #[.slice a1 n1 c1, .slice a2 n2 c2] w (Post w F (fun _ : Unit => .bool (decide (l1 = l2))) (fun _ => [])) := by
  have hn1 := hx.len (by decide)
  have hn2 := hy.len (by decide)
  have hm1 := hx.max
  simp only [maxLen] at hm1
  refine g_enter (env := [(0, .slice a1 n1 c1), (1, .slice a2 n2 c2)]) Tryz.func76 rfl h Tryz.ntmps76 rfl rfl ?_
  refine gsr ?_
  refine gp zas ?_
  refine gnt ?_
  refine gc_seq ?_
  refine gsr ?_
  refine gp zmv ?_
  refine gp zln ?_
  refine gp zmv ?_
  refine gp zln ?_
  refine gp zni ?_
  refine gnt ?_
  refine gif rfl (fun hc10 => ?_) (fun hc10 => ?_)
  · refine gsr ?_
    refine gp zas ?_
    refine gnt ?_
    refine gc_ret ?_
    refine gx_then_ret ?_
    refine gx_ret1 rfl (by conv => lhs; whnf) ?_
    have e : decide (l1 = l2) = false := decide_eq_false (fun h => by rw [h] at hn1; (try simp only at hc10); omega)
    rw [e]
    exact ze ()
  · have hnn : n1 = n2 := by (try simp only at hc10); omega
    refine gc_skip ?_
    refine gx_then ?_
    refine gc_seq ?_
    refine gsr ?_
    refine gp zmv ?_
    refine gp zln ?_
    refine gp zmv ?_
    refine gnt ?_
    refine gc_block ?_
    refine gc_loop (α := Nat) (fun k => [pureR (k ≤ n1 ∧ l1.take k = l2.take k)]) (fun k => [(13, .int .i64 (k : Int))]) [4, 5, 14, 15, 16, 17, 18, 19, 20, 21, 22, 23, 24, 25] (fun k => n1 - k) 0 ?_ ?_ ?_
    · refine env_start (by kernel_rfl)
    · rintro w' hw
      obtain ⟨F', hF', hst'⟩ := hw.sel (M := []) (by repeat (first | exact Sel.nil | (apply Sel.cons; · (repeat (first | exact Pick.here | apply Pick.there)))))
      exact ⟨F', stars_pure_mk ⟨Nat.zero_le _, rfl⟩ hF', hst'⟩
    · intro k u
      refine gc_pureR (fun hk => ?_)
      replace hk : k ≤ n1 ∧ l1.take k = l2.take k := hk
      refine gsr ?_
      refine gp zlt ?_
      refine gnt ?_
      refine gc_seq ?_
      refine gif rfl (fun hc14 => ?_) (fun hc14 => ?_)
      · have hk' : k < n1 := by (try simp only at hc14); omega
        obtain ⟨g1, o1, cs1, x, ha1, hA1, hg1, hra1, hcl1, hl1, hrd1⟩ := hx.elem (by decide) hk'
        obtain ⟨g2, o2, cs2, y, ha2, hA2, hg2, hra2, hcl2, hl2, hrd2⟩ := hy.elem (i := k) (by decide) (by omega)
        subst ha1
        subst ha2
        unfold RdDig at hrd1 hrd2
        subst hrd1
        subst hrd2
        refine gc_skip ?_
        refine gx_then ?_
        refine gc_seq ?_
        refine gc_block ?_
        refine gsr ?_
        refine gp zmv ?_
        refine gp zas ?_
        refine gnt ?_
        refine gc_seq ?_
        refine gc_regionS (by kernel_rfl) (by kernel_rfl) ?_
        refine sp zmv ?_
        refine sp zmv ?_
        refine sp (r_indexAddr_slice rfl rfl Ty.sl_47 Ty.sz_23 (by omega) (by omega)) ?_
        refine sp (r_ldNo rfl Ty.row_23 Ty.sz_23 hra1 hcl1 (by decide) hA1) ?_
        refine sp zmv ?_
        refine sp zmv ?_
        refine sp (r_indexAddr_slice rfl rfl Ty.sl_47 Ty.sz_23 (by omega) (by omega)) ?_
        refine sp (r_ldNo rfl Ty.row_23 Ty.sz_23 hra2 hcl2 (by decide) hA2) ?_
        refine sp znd ?_
        refine gs_nil ?_
        refine gx_then ?_
        refine gif rfl (fun hc24 => ?_) (fun hc24 => ?_)
        · refine gsr ?_
          refine gp zas ?_
          refine gnt ?_
          refine gc_ret ?_
          refine gx_block_ret ?_
          refine gx_then_ret ?_
          refine gx_round_ret ?_
          refine gx_block_ret ?_
          refine gx_then_ret ?_
          refine gx_ret1 rfl (by conv => lhs; whnf) ?_
          have e : decide (l1 = l2) = false := decide_eq_false (fun h => by rw [h, hl2] at hl1; exact hc24 (Option.some.inj hl1).symm)
          rw [e]
          exact ze ()
        · refine gc_skip ?_
          refine gx_block_normal ?_
          refine gx_then ?_
          refine gc_region ?_
          refine gp zad ?_
          refine gp zmv ?_
          refine gl_nil ?_
          refine zrd (k + 1) ?_ ?_
          · show n1 - (k + 1) < n1 - k
            omega
          · rintro w' hw
            obtain ⟨F', hF', hst'⟩ := hw.sel (M := []) (by repeat (first | exact Sel.nil | (apply Sel.cons; · (repeat (first | exact Pick.here | apply Pick.there)))))
            refine ⟨F', stars_pure_mk ⟨show k + 1 ≤ n1 by omega, ?_⟩ hF', hst'⟩
            have hxy : x = y := hc24
            subst hxy
            exact take_eq_succ hk.2 hl1 hl2
      · refine gc_exit ?_
        refine gx_then_exit ?_
        refine gx_round_exit ?_
        refine gx_block_hit ?_
        refine gx_then ?_
        refine gsr ?_
        refine gp zas ?_
        refine gnt ?_
        refine gc_ret ?_
        refine gx_ret1 rfl (by conv => lhs; whnf) ?_
        have e : decide (l1 = l2) = true := decide_eq_true (by have h1 := hk.2; have hk' : k = n1 := (by (try simp only at hc14); omega); rw [List.take_of_length_le (by omega), List.take_of_length_le (by omega)] at h1; exact h1)
        rw [e]
        exact ze ()

set_option maxHeartbeats 400000 in
theorem sameLists_ok {w : World} {F : Nat → Prop} {n1 c1 n2 c2 : Nat} {a1 a2 : Option Addr} {l1 l2 : List (List UInt8)} (h : stars [] w F) (hx : RdList (RdBytes w (fun k => ¬ F k)) w (fun k => ¬ F k) 1 a1 n1 l1) (hy : RdList (RdBytes w (fun k => ¬ F k)) w (fun k => ¬ F k) 1 a2 n2 l2) :
    Calls Tryz.prog 89 #[.slice a1 n1 c1, .slice a2 n2 c2] w (Post w F (fun _ : Unit => .bool (decide (l1 = l2))) (fun _ => [])) := by
  have hn1 := hx.len (by decide)
  have hn2 := hy.len (by decide)
  have hm1 := hx.max
  simp only [maxLen] at hm1
  refine g_enter (env := [(0, .slice a1 n1 c1), (1, .slice a2 n2 c2)]) Tryz.func89 rfl h Tryz.ntmps89 rfl rfl ?_
  refine gsr ?_
  refine gp zas ?_
  refine gnt ?_
  refine gc_seq ?_
  refine gsr ?_
  refine gp zmv ?_
  refine gp zln ?_
  refine gp zmv ?_
  refine gp zln ?_
  refine gp zni ?_
  refine gnt ?_
  refine gif rfl (fun hc10 => ?_) (fun hc10 => ?_)
  · refine gsr ?_
    refine gp zas ?_
    refine gnt ?_
    refine gc_ret ?_
    refine gx_then_ret ?_
    refine gx_ret1 rfl (by conv => lhs; whnf) ?_
    have e : decide (l1 = l2) = false := decide_eq_false (fun h => by rw [h] at hn1; (try simp only at hc10); omega)
    rw [e]
    exact ze ()
  · have hnn : n1 = n2 := by (try simp only at hc10); omega
    refine gc_skip ?_
    refine gx_then ?_
    refine gc_seq ?_
    refine gsr ?_
    refine gp zmv ?_
    refine gp zln ?_
    refine gp zmv ?_
    refine gnt ?_
    refine gc_block ?_
    refine gc_loop (α := Nat) (fun k => [pureR (k ≤ n1 ∧ l1.take k = l2.take k)]) (fun k => [(13, .int .i64 (k : Int))]) [4, 5, 14, 15, 16, 17, 18, 19, 20, 21, 22, 23, 24, 25, 26, 27] (fun k => n1 - k) 0 ?_ ?_ ?_
    · refine env_start (by kernel_rfl)
    · rintro w' hw
      obtain ⟨F', hF', hst'⟩ := hw.sel (M := []) (by repeat (first | exact Sel.nil | (apply Sel.cons; · (repeat (first | exact Pick.here | apply Pick.there)))))
      exact ⟨F', stars_pure_mk ⟨Nat.zero_le _, rfl⟩ hF', hst'⟩
    · intro k u
      refine gc_pureR (fun hk => ?_)
      replace hk : k ≤ n1 ∧ l1.take k = l2.take k := hk
      refine gsr ?_
      refine gp zlt ?_
      refine gnt ?_
      refine gc_seq ?_
      refine gif rfl (fun hc14 => ?_) (fun hc14 => ?_)
      · have hk' : k < n1 := by (try simp only at hc14); omega
        obtain ⟨g1, o1, cs1, x, ha1, hA1, hg1, hra1, hcl1, hl1, hrd1⟩ := hx.elem (by decide) hk'
        obtain ⟨g2, o2, cs2, y, ha2, hA2, hg2, hra2, hcl2, hl2, hrd2⟩ := hy.elem (i := k) (by decide) (by omega)
        subst ha1
        subst ha2
        obtain ⟨a1', n1', c1', rfl, hn1', hb1⟩ := hrd1
        obtain ⟨a2', n2', c2', rfl, hn2', hb2⟩ := hrd2
        refine gc_skip ?_
        refine gx_then ?_
        refine gc_seq ?_
        refine gc_block ?_
        refine gsr ?_
        refine gp zmv ?_
        refine gp zas ?_
        refine gnt ?_
        refine gc_seq ?_
        refine gc_regionS (by kernel_rfl) (by kernel_rfl) ?_
        refine sp zmv ?_
        refine sp zmv ?_
        refine sp (r_indexAddr_slice rfl rfl Ty.sl_27 Ty.sz_36 (by omega) (by omega)) ?_
        refine sp (r_ld1o rfl Ty.row_36 (hra1 0 _ rfl) hA1) ?_
        refine sp (r_str rfl Ty.sl_36 Ty.un_5 (by kernel_rfl) (fun w hw => hw.rdOld hb1)) ?_
        refine sp zmv ?_
        refine sp zmv ?_
        refine sp (r_indexAddr_slice rfl rfl Ty.sl_27 Ty.sz_36 (by omega) (by omega)) ?_
        refine sp (r_ld1o rfl Ty.row_36 (hra2 0 _ rfl) hA2) ?_
        refine sp (r_str rfl Ty.sl_36 Ty.un_5 (by kernel_rfl) (fun w hw => hw.rdOld hb2)) ?_
        refine sp zns ?_
        refine gs_nil ?_
        refine gx_then ?_
        refine gif rfl (fun hc26 => ?_) (fun hc26 => ?_)
        · refine gsr ?_
          refine gp zas ?_
          refine gnt ?_
          refine gc_ret ?_
          refine gx_block_ret ?_
          refine gx_then_ret ?_
          refine gx_round_ret ?_
          refine gx_block_ret ?_
          refine gx_then_ret ?_
          refine gx_ret1 rfl (by conv => lhs; whnf) ?_
          have e : decide (l1 = l2) = false := decide_eq_false (fun h => by rw [h, hl2] at hl1; exact hc26 (Option.some.inj hl1).symm)
          rw [e]
          exact ze ()
        · refine gc_skip ?_
          refine gx_block_normal ?_
          refine gx_then ?_
          refine gc_region ?_
          refine gp zad ?_
          refine gp zmv ?_
          refine gl_nil ?_
          refine zrd (k + 1) ?_ ?_
          · show n1 - (k + 1) < n1 - k
            omega
          · rintro w' hw
            obtain ⟨F', hF', hst'⟩ := hw.sel (M := []) (by repeat (first | exact Sel.nil | (apply Sel.cons; · (repeat (first | exact Pick.here | apply Pick.there)))))
            refine ⟨F', stars_pure_mk ⟨show k + 1 ≤ n1 by omega, ?_⟩ hF', hst'⟩
            have hxy : x = y := hc26
            subst hxy
            exact take_eq_succ hk.2 hl1 hl2
      · refine gc_exit ?_
        refine gx_then_exit ?_
        refine gx_round_exit ?_
        refine gx_block_hit ?_
        refine gx_then ?_
        refine gsr ?_
        refine gp zas ?_
        refine gnt ?_
        refine gc_ret ?_
        refine gx_ret1 rfl (by conv => lhs; whnf) ?_
        have e : decide (l1 = l2) = true := decide_eq_true (by have h1 := hk.2; have hk' : k = n1 := (by (try simp only at hc14); omega); rw [List.take_of_length_le (by omega), List.take_of_length_le (by omega)] at h1; exact h1)
        rw [e]
        exact ze ()

set_option maxHeartbeats 400000 in
theorem sameVdrs_ok {w : World} {F : Nat → Prop} {n1 c1 n2 c2 : Nat} {a1 a2 : Option Addr} {l1 l2 : List Vdr} (h : stars [] w F) (hx : RdList (RdVdr) w (fun k => ¬ F k) 17 a1 n1 l1) (hy : RdList (RdVdr) w (fun k => ¬ F k) 17 a2 n2 l2) :
    Calls Tryz.prog 90 #[.slice a1 n1 c1, .slice a2 n2 c2] w (Post w F (fun _ : Unit => .bool (decide (l1 = l2))) (fun _ => [])) := by
  have hn1 := hx.len (by decide)
  have hn2 := hy.len (by decide)
  have hm1 := hx.max
  simp only [maxLen] at hm1
  refine g_enter (env := [(0, .slice a1 n1 c1), (1, .slice a2 n2 c2)]) Tryz.func90 rfl h Tryz.ntmps90 rfl rfl ?_
  refine gsr ?_
  refine gp zas ?_
  refine gnt ?_
  refine gc_seq ?_
  refine gsr ?_
  refine gp zmv ?_
  refine gp zln ?_
  refine gp zmv ?_
  refine gp zln ?_
  refine gp zni ?_
  refine gnt ?_
  refine gif rfl (fun hc10 => ?_) (fun hc10 => ?_)
  · refine gsr ?_
    refine gp zas ?_
    refine gnt ?_
    refine gc_ret ?_
    refine gx_then_ret ?_
    refine gx_ret1 rfl (by conv => lhs; whnf) ?_
    have e : decide (l1 = l2) = false := decide_eq_false (fun h => by rw [h] at hn1; (try simp only at hc10); omega)
    rw [e]
    exact ze ()
  · have hnn : n1 = n2 := by (try simp only at hc10); omega
    refine gc_skip ?_
    refine gx_then ?_
    refine gc_seq ?_
    refine gsr ?_
    refine gp zmv ?_
    refine gp zln ?_
    refine gp zmv ?_
    refine gnt ?_
    refine gc_block ?_
    refine gc_loop (α := Nat) (fun k => [pureR (k ≤ n1 ∧ l1.take k = l2.take k)]) (fun k => [(13, .int .i64 (k : Int))]) [4, 5, 14, 15, 16, 17, 18, 19, 20, 21, 22, 23, 24, 25, 26, 27, 28, 29, 30, 31, 32, 33, 34, 35, 36, 37, 38, 39, 40] (fun k => n1 - k) 0 ?_ ?_ ?_
    · refine env_start (by kernel_rfl)
    · rintro w' hw
      obtain ⟨F', hF', hst'⟩ := hw.sel (M := []) (by repeat (first | exact Sel.nil | (apply Sel.cons; · (repeat (first | exact Pick.here | apply Pick.there)))))
      exact ⟨F', stars_pure_mk ⟨Nat.zero_le _, rfl⟩ hF', hst'⟩
    · intro k u
      refine gc_pureR (fun hk => ?_)
      replace hk : k ≤ n1 ∧ l1.take k = l2.take k := hk
      refine gsr ?_
      refine gp zlt ?_
      refine gnt ?_
      refine gc_seq ?_
      refine gif rfl (fun hc14 => ?_) (fun hc14 => ?_)
      · have hk' : k < n1 := by (try simp only at hc14); omega
        obtain ⟨g1, o1, cs1, x, ha1, hA1, hg1, hra1, hcl1, hl1, hrd1⟩ := hx.elem (by decide) hk'
        obtain ⟨g2, o2, cs2, y, ha2, hA2, hg2, hra2, hcl2, hl2, hrd2⟩ := hy.elem (i := k) (by decide) (by omega)
        subst ha1
        subst ha2
        unfold RdVdr at hrd1 hrd2
        subst hrd1
        subst hrd2
        refine gc_skip ?_
        refine gx_then ?_
        refine gc_seq ?_
        refine gc_block ?_
        refine gsr ?_
        refine gp zmv ?_
        refine gp zas ?_
        refine gnt ?_
        refine gc_seq ?_
        by_cases hsp6 : x.key = y.key
        · refine gc_regionS (by kernel_rfl) (by kernel_rfl) ?_
          refine sp zmv ?_
          refine sp zmv ?_
          refine sp (r_indexAddr_slice rfl rfl Ty.sl_28 Ty.sz_191 (by omega) (by omega)) ?_
          refine sp zfa ?_
          refine sp (r_ldNo rfl Ty.row_23 Ty.sz_23 (range_left hra1) (dc_length _) (by decide) hA1) ?_
          refine sp zmv ?_
          refine sp zmv ?_
          refine sp (r_indexAddr_slice rfl rfl Ty.sl_28 Ty.sz_191 (by omega) (by omega)) ?_
          refine sp zfa ?_
          refine sp (r_ldNo rfl Ty.row_23 Ty.sz_23 (range_left hra2) (dc_length _) (by decide) hA2) ?_
          refine sp (r_bool (b := !decide (x.key = y.key)) (c := false) (r_neq_dig rfl rfl Ty.arr_23 Ty.un_5 Ty.sz_5 (by kernel_rfl)) (by simp [hsp6])) ?_
          refine sp zmv ?_
          refine sq zmv ?_
          refine sq zmv ?_
          refine sq (r_indexAddr_slice rfl rfl Ty.sl_28 Ty.sz_191 (by omega) (by omega)) ?_
          refine sq zfa ?_
          refine sq (r_ld1o rfl Ty.row_3 (range_at hra1 (j := 16) (by first | rfl | (simp only [List.getElem?_cons_succ, List.getElem?_cons_zero, List.cons_append, List.append_assoc, get_dc, get_L, Nat.reduceLeDiff, Nat.reduceSub, Nat.reduceAdd, Nat.le_refl]; rfl))) hA1) ?_
          refine sq zmv ?_
          refine sq zmv ?_
          refine sq (r_indexAddr_slice rfl rfl Ty.sl_28 Ty.sz_191 (by omega) (by omega)) ?_
          refine sq zfa ?_
          refine sq (r_ld1o rfl Ty.row_3 (range_at hra2 (j := 16) (by first | rfl | (simp only [List.getElem?_cons_succ, List.getElem?_cons_zero, List.cons_append, List.append_assoc, get_dc, get_L, Nat.reduceLeDiff, Nat.reduceSub, Nat.reduceAdd, Nat.le_refl]; rfl))) hA2) ?_
          refine sq zni ?_
          refine sp zpk ?_
          refine gs_nil ?_
          refine gx_then ?_
          refine gif rfl (fun hc39 => ?_) (fun hc39 => ?_)
          · refine gsr ?_
            refine gp zas ?_
            refine gnt ?_
            refine gc_ret ?_
            refine gx_block_ret ?_
            refine gx_then_ret ?_
            refine gx_round_ret ?_
            refine gx_block_ret ?_
            refine gx_then_ret ?_
            refine gx_ret1 rfl (by conv => lhs; whnf) ?_
            have e : decide (l1 = l2) = false := decide_eq_false (fun h => by rw [h, hl2] at hl1; exact hc39 (by rw [Option.some.inj hl1]))
            rw [e]
            exact ze ()
          · refine gc_skip ?_
            refine gx_block_normal ?_
            refine gx_then ?_
            refine gc_region ?_
            refine gp zad ?_
            refine gp zmv ?_
            refine gl_nil ?_
            refine zrd (k + 1) ?_ ?_
            · show n1 - (k + 1) < n1 - k
              omega
            · rintro w' hw
              obtain ⟨F', hF', hst'⟩ := hw.sel (M := []) (by repeat (first | exact Sel.nil | (apply Sel.cons; · (repeat (first | exact Pick.here | apply Pick.there)))))
              refine ⟨F', stars_pure_mk ⟨show k + 1 ≤ n1 by omega, ?_⟩ hF', hst'⟩
              have hxy : x = y := by (try simp only at hc39); cases x; cases y; simp_all
              subst hxy
              exact take_eq_succ hk.2 hl1 hl2
        · refine gc_regionS (by kernel_rfl) (by kernel_rfl) ?_
          refine sp zmv ?_
          refine sp zmv ?_
          refine sp (r_indexAddr_slice rfl rfl Ty.sl_28 Ty.sz_191 (by omega) (by omega)) ?_
          refine sp zfa ?_
          refine sp (r_ldNo rfl Ty.row_23 Ty.sz_23 (range_left hra1) (dc_length _) (by decide) hA1) ?_
          refine sp zmv ?_
          refine sp zmv ?_
          refine sp (r_indexAddr_slice rfl rfl Ty.sl_28 Ty.sz_191 (by omega) (by omega)) ?_
          refine sp zfa ?_
          refine sp (r_ldNo rfl Ty.row_23 Ty.sz_23 (range_left hra2) (dc_length _) (by decide) hA2) ?_
          refine sp (r_bool (b := !decide (x.key = y.key)) (c := true) (r_neq_dig rfl rfl Ty.arr_23 Ty.un_5 Ty.sz_5 (by kernel_rfl)) (by simp [hsp6])) ?_
          refine sp zmv ?_
          refine sn ?_
          refine sn ?_
          refine sn ?_
          refine sn ?_
          refine sn ?_
          refine sn ?_
          refine sn ?_
          refine sn ?_
          refine sn ?_
          refine sn ?_
          refine sn ?_
          refine sp zpk ?_
          refine gs_nil ?_
          refine gx_then ?_
          refine gc_condT rfl rfl ?_
          refine gsr ?_
          refine gp zas ?_
          refine gnt ?_
          refine gc_ret ?_
          refine gx_block_ret ?_
          refine gx_then_ret ?_
          refine gx_round_ret ?_
          refine gx_block_ret ?_
          refine gx_then_ret ?_
          refine gx_ret1 rfl (by conv => lhs; whnf) ?_
          have e : decide (l1 = l2) = false := decide_eq_false (fun h => by rw [h, hl2] at hl1; exact hsp6 (by rw [Option.some.inj hl1]))
          rw [e]
          exact ze ()
      · refine gc_exit ?_
        refine gx_then_exit ?_
        refine gx_round_exit ?_
        refine gx_block_hit ?_
        refine gx_then ?_
        refine gsr ?_
        refine gp zas ?_
        refine gnt ?_
        refine gc_ret ?_
        refine gx_ret1 rfl (by conv => lhs; whnf) ?_
        have e : decide (l1 = l2) = true := decide_eq_true (by have h1 := hk.2; have hk' : k = n1 := (by (try simp only at hc14); omega); rw [List.take_of_length_le (by omega), List.take_of_length_le (by omega)] at h1; exact h1)
        rw [e]
        exact ze ()

end Go.Proofs.YtkgbbnhdioghmaaGreatDoor

/- Walks, by program (wg.py) out of a spec. -/
namespace Go.Proofs.YtkgbbnhdioghmaaGreatDoor
open Go
set_option linter.unusedVariables false
set_option linter.unusedSimpArgs false

attribute [local irreducible] Gl Gc Gx Gs Runs Wt

set_option maxHeartbeats 400000 in
theorem sameSig_ok {w : World} {F : Nat → Prop} {cs1 cs2 : List Value} {x y : Sig} (h : stars [] w F) (hx : RdSig w (fun k => ¬ F k) cs1 x) (hy : RdSig w (fun k => ¬ F k) cs2 y) :
    Calls Tryz.prog 115 #[.agg cs1.toArray, .agg cs2.toArray] w (Post w F (fun _ : Unit => .bool (decide (x = y))) (fun _ => [])) := by
  obtain ⟨a1, n1, c1, a2, n2, c2, rfl, hk1, hk2, hd1, hd2⟩ := hx
  obtain ⟨b1, m1, d1, b2, m2, d2, rfl, hj1, hj2, he1, he2⟩ := hy
  refine g_enter (env := [(0, .agg (List.toArray ([.int .i64 x.leaf, .slice a1 n1 c1, .slice a2 n2 c2]))), (1, .agg (List.toArray ([.int .i64 y.leaf, .slice b1 m1 d1, .slice b2 m2 d2])))]) Tryz.func115 rfl h Tryz.ntmps115 rfl rfl ?_
  refine gsr ?_
  refine zbN fun b2 => ?_
  refine zbN fun b3 => ?_
  refine gp zas ?_
  refine gnt ?_
  refine gc_seq ?_
  by_cases hsq0 : x.leaf = y.leaf
  · by_cases hsq1 : x.chains = y.chains
    · refine gc_region ?_
      refine gp zfa ?_
      refine gp zl ?_
      refine gp zfa ?_
      refine gp zl ?_
      refine gp (r_bool (r_eql_int rfl rfl) (decide_eq_true hsq0)) ?_
      refine gp zmv ?_
      refine gq zfa ?_
      refine gq zl ?_
      refine gq zfa ?_
      refine gq zl ?_
      refine zc (fun _ => ?_) (c := fun w1 F1 F2 h1 h2 hd hst => sameDigs_ok h1 (hd1.mv hst.still) (he1.mv hst.still))
      rw [decide_eq_true hsq1]
      refine gp zpk ?_
      refine gp zmv ?_
      refine gq zfa ?_
      refine gq zl ?_
      refine gq zfa ?_
      refine gq zl ?_
      refine zc (fun _ => ?_) (c := fun w1 F1 F2 h1 h2 hd hst => sameDigs_ok h1 (hd2.mv hst.still) (he2.mv hst.still))
      refine gp zpk ?_
      refine gp zas ?_
      refine gnt ?_
      refine gc_ret ?_
      refine gx_ret1 rfl (by conv => lhs; whnf) ?_
      have e : decide (x = y) = decide (x.path = y.path) := by obtain ⟨⟩ := x; obtain ⟨⟩ := y; simp_all
      rw [e]
      exact ze ()
    · refine gc_region ?_
      refine gp zfa ?_
      refine gp zl ?_
      refine gp zfa ?_
      refine gp zl ?_
      refine gp (r_bool (r_eql_int rfl rfl) (decide_eq_true hsq0)) ?_
      refine gp zmv ?_
      refine gq zfa ?_
      refine gq zl ?_
      refine gq zfa ?_
      refine gq zl ?_
      refine zc (fun _ => ?_) (c := fun w1 F1 F2 h1 h2 hd hst => sameDigs_ok h1 (hd1.mv hst.still) (he1.mv hst.still))
      rw [decide_eq_false hsq1]
      refine gp zpk ?_
      refine gp zmv ?_
      refine gn ?_
      refine gn ?_
      refine gn ?_
      refine gn ?_
      refine gn ?_
      refine gp zpk ?_
      refine gp zas ?_
      refine gnt ?_
      refine gc_ret ?_
      refine gx_ret1 rfl (by conv => lhs; whnf) ?_
      have e : decide (x = y) = false := decide_eq_false (fun h => hsq1 (by rw [h]))
      rw [e]
      exact ze ()
  · refine gc_region ?_
    refine gp zfa ?_
    refine gp zl ?_
    refine gp zfa ?_
    refine gp zl ?_
    refine gp (r_bool (r_eql_int rfl rfl) (decide_eq_false hsq0)) ?_
    refine gp zmv ?_
    refine gn ?_
    refine gn ?_
    refine gn ?_
    refine gn ?_
    refine gn ?_
    refine gp zpk ?_
    refine gp zmv ?_
    refine gn ?_
    refine gn ?_
    refine gn ?_
    refine gn ?_
    refine gn ?_
    refine gp zpk ?_
    refine gp zas ?_
    refine gnt ?_
    refine gc_ret ?_
    refine gx_ret1 rfl (by conv => lhs; whnf) ?_
    have e : decide (x = y) = false := decide_eq_false (fun h => hsq0 (by rw [h]))
    rw [e]
    exact ze ()

set_option maxHeartbeats 400000 in
theorem sameSigneds_ok {w : World} {F : Nat → Prop} {n1 c1 n2 c2 : Nat} {a1 a2 : Option Addr} {l1 l2 : List Signed} (h : stars [] w F) (hx : RdList (RdSigned w (fun k => ¬ F k)) w (fun k => ¬ F k) 4 a1 n1 l1) (hy : RdList (RdSigned w (fun k => ¬ F k)) w (fun k => ¬ F k) 4 a2 n2 l2) :
    Calls Tryz.prog 62 #[.slice a1 n1 c1, .slice a2 n2 c2] w (Post w F (fun _ : Unit => .bool (decide (l1 = l2))) (fun _ => [])) := by
  have hn1 := hx.len (by decide)
  have hn2 := hy.len (by decide)
  have hm1 := hx.max
  simp only [maxLen] at hm1
  refine g_enter (env := [(0, .slice a1 n1 c1), (1, .slice a2 n2 c2)]) Tryz.func62 rfl h Tryz.ntmps62 rfl rfl ?_
  refine gsr ?_
  refine gp zas ?_
  refine gnt ?_
  refine gc_seq ?_
  refine gsr ?_
  refine gp zmv ?_
  refine gp zln ?_
  refine gp zmv ?_
  refine gp zln ?_
  refine gp zni ?_
  refine gnt ?_
  refine gif rfl (fun hc10 => ?_) (fun hc10 => ?_)
  · refine gsr ?_
    refine gp zas ?_
    refine gnt ?_
    refine gc_ret ?_
    refine gx_then_ret ?_
    refine gx_ret1 rfl (by conv => lhs; whnf) ?_
    have e : decide (l1 = l2) = false := decide_eq_false (fun h => by rw [h] at hn1; (try simp only at hc10); omega)
    rw [e]
    exact ze ()
  · have hnn : n1 = n2 := by (try simp only at hc10); omega
    refine gc_skip ?_
    refine gx_then ?_
    refine gc_seq ?_
    refine gsr ?_
    refine gp zmv ?_
    refine gp zln ?_
    refine gp zmv ?_
    refine gnt ?_
    refine gc_block ?_
    refine gc_loop (α := Nat) (fun k => [pureR (k ≤ n1 ∧ l1.take k = l2.take k)]) (fun k => [(13, .int .i64 (k : Int))]) [4, 5, 14, 15, 16, 17, 18, 19, 20, 21, 22, 23, 24, 25, 26, 27, 28, 29, 30, 31, 32, 33, 34, 35, 36, 37, 38, 39, 40, 41] (fun k => n1 - k) 0 ?_ ?_ ?_
    · refine env_start (by kernel_rfl)
    · rintro w' hw
      obtain ⟨F', hF', hst'⟩ := hw.sel (M := []) (by repeat (first | exact Sel.nil | (apply Sel.cons; · (repeat (first | exact Pick.here | apply Pick.there)))))
      exact ⟨F', stars_pure_mk ⟨Nat.zero_le _, rfl⟩ hF', hst'⟩
    · intro k u
      refine gc_pureR (fun hk => ?_)
      replace hk : k ≤ n1 ∧ l1.take k = l2.take k := hk
      refine gsr ?_
      refine gp zlt ?_
      refine gnt ?_
      refine gc_seq ?_
      refine gif rfl (fun hc14 => ?_) (fun hc14 => ?_)
      · have hk' : k < n1 := by (try simp only at hc14); omega
        obtain ⟨g1, o1, cs1, x, ha1, hA1, hg1, hra1, hcl1, hl1, hrd1⟩ := hx.elem (by decide) hk'
        obtain ⟨g2, o2, cs2, y, ha2, hA2, hg2, hra2, hcl2, hl2, hrd2⟩ := hy.elem (i := k) (by decide) (by omega)
        subst ha1
        subst ha2
        obtain ⟨s1, rfl, hs1⟩ := hrd1
        obtain ⟨s2, rfl, hs2⟩ := hrd2
        refine gc_skip ?_
        refine gx_then ?_
        refine gc_seq ?_
        refine gc_block ?_
        refine gsr ?_
        refine gp zmv ?_
        refine gp zas ?_
        refine gnt ?_
        refine gc_seq ?_
        by_cases hsp6 : x.who = y.who
        · refine gc_regionT 22 (by kernel_rfl) (by kernel_rfl) ?_
          refine sp zmv ?_
          refine sp zmv ?_
          refine sp (r_indexAddr_slice rfl rfl Ty.sl_24 Ty.sz_51 (by omega) (by omega)) ?_
          refine sp zfa ?_
          refine sp (r_ld1o rfl Ty.row_3 (range_at hra1 (j := 0) (by first | rfl | (simp only [List.getElem?_cons_succ, List.getElem?_cons_zero, List.cons_append, List.append_assoc, get_dc, get_L, Nat.reduceLeDiff, Nat.reduceSub, Nat.reduceAdd, Nat.le_refl]; rfl))) hA1) ?_
          refine sp zmv ?_
          refine sp zmv ?_
          refine sp (r_indexAddr_slice rfl rfl Ty.sl_24 Ty.sz_51 (by omega) (by omega)) ?_
          refine sp zfa ?_
          refine sp (r_ld1o rfl Ty.row_3 (range_at hra2 (j := 0) (by first | rfl | (simp only [List.getElem?_cons_succ, List.getElem?_cons_zero, List.cons_append, List.append_assoc, get_dc, get_L, Nat.reduceLeDiff, Nat.reduceSub, Nat.reduceAdd, Nat.le_refl]; rfl))) hA2) ?_
          refine sp (r_bool (b := !decide (x.who = y.who)) (c := false) (r_neq_int rfl rfl) (by simp [hsp6])) ?_
          refine sp zmv ?_
          refine sq zmv ?_
          refine sq zmv ?_
          refine sq (r_indexAddr_slice rfl rfl Ty.sl_24 Ty.sz_51 (by omega) (by omega)) ?_
          refine sq zfa ?_
          refine sq (r_ldNo rfl Ty.row_49 Ty.sz_49 (range_right (xs := [_]) hra1) hs1.len (by decide) hA1) ?_
          refine sq zmv ?_
          refine sq zmv ?_
          refine sq (r_indexAddr_slice rfl rfl Ty.sl_24 Ty.sz_51 (by omega) (by omega)) ?_
          refine sq zfa ?_
          refine sq (r_ldNo rfl Ty.row_49 Ty.sz_49 (range_right (xs := [_]) hra2) hs2.len (by decide) hA2) ?_
          refine gs_nil ?_
          refine zc (fun _ => ?_) (c := fun w1 F1 F2 h1 h2 hd hst => sameSig_ok (x := x.sig) (y := y.sig) h1 (hs1.mv hst.still) (hs2.mv hst.still))
          refine gq znt ?_
          refine gp zpk ?_
          refine gnt ?_
          refine gif rfl (fun hc40 => ?_) (fun hc40 => ?_)
          · refine gsr ?_
            refine gp zas ?_
            refine gnt ?_
            refine gc_ret ?_
            refine gx_block_ret ?_
            refine gx_then_ret ?_
            refine gx_round_ret ?_
            refine gx_block_ret ?_
            refine gx_then_ret ?_
            refine gx_ret1 rfl (by conv => lhs; whnf) ?_
            have e : decide (l1 = l2) = false := decide_eq_false (fun h => by rw [h, hl2] at hl1; exact (by simpa using hc40 : ¬ x.sig = y.sig) (by rw [Option.some.inj hl1]))
            rw [e]
            exact ze ()
          · refine gc_skip ?_
            refine gx_block_normal ?_
            refine gx_then ?_
            refine gc_region ?_
            refine gp zad ?_
            refine gp zmv ?_
            refine gl_nil ?_
            refine zrd (k + 1) ?_ ?_
            · show n1 - (k + 1) < n1 - k
              omega
            · rintro w' hw
              obtain ⟨F', hF', hst'⟩ := hw.sel (M := []) (by repeat (first | exact Sel.nil | (apply Sel.cons; · (repeat (first | exact Pick.here | apply Pick.there)))))
              refine ⟨F', stars_pure_mk ⟨show k + 1 ≤ n1 by omega, ?_⟩ hF', hst'⟩
              have hxy : x = y := by (cases x; cases y; simp_all)
              subst hxy
              exact take_eq_succ hk.2 hl1 hl2
        · refine gc_regionT 22 (by kernel_rfl) (by kernel_rfl) ?_
          refine sp zmv ?_
          refine sp zmv ?_
          refine sp (r_indexAddr_slice rfl rfl Ty.sl_24 Ty.sz_51 (by omega) (by omega)) ?_
          refine sp zfa ?_
          refine sp (r_ld1o rfl Ty.row_3 (range_at hra1 (j := 0) (by first | rfl | (simp only [List.getElem?_cons_succ, List.getElem?_cons_zero, List.cons_append, List.append_assoc, get_dc, get_L, Nat.reduceLeDiff, Nat.reduceSub, Nat.reduceAdd, Nat.le_refl]; rfl))) hA1) ?_
          refine sp zmv ?_
          refine sp zmv ?_
          refine sp (r_indexAddr_slice rfl rfl Ty.sl_24 Ty.sz_51 (by omega) (by omega)) ?_
          refine sp zfa ?_
          refine sp (r_ld1o rfl Ty.row_3 (range_at hra2 (j := 0) (by first | rfl | (simp only [List.getElem?_cons_succ, List.getElem?_cons_zero, List.cons_append, List.append_assoc, get_dc, get_L, Nat.reduceLeDiff, Nat.reduceSub, Nat.reduceAdd, Nat.le_refl]; rfl))) hA2) ?_
          refine sp (r_bool (b := !decide (x.who = y.who)) (c := true) (r_neq_int rfl rfl) (by simp [hsp6])) ?_
          refine sp zmv ?_
          refine sn ?_
          refine sn ?_
          refine sn ?_
          refine sn ?_
          refine sn ?_
          refine sn ?_
          refine sn ?_
          refine sn ?_
          refine sn ?_
          refine sn ?_
          refine gs_nil ?_
          refine gn ?_
          refine gn ?_
          refine gp zpk ?_
          refine gnt ?_
          refine gc_condT rfl rfl ?_
          refine gsr ?_
          refine gp zas ?_
          refine gnt ?_
          refine gc_ret ?_
          refine gx_block_ret ?_
          refine gx_then_ret ?_
          refine gx_round_ret ?_
          refine gx_block_ret ?_
          refine gx_then_ret ?_
          refine gx_ret1 rfl (by conv => lhs; whnf) ?_
          have e : decide (l1 = l2) = false := decide_eq_false (fun h => by rw [h, hl2] at hl1; exact hsp6 (by rw [Option.some.inj hl1]))
          rw [e]
          exact ze ()
      · refine gc_exit ?_
        refine gx_then_exit ?_
        refine gx_round_exit ?_
        refine gx_block_hit ?_
        refine gx_then ?_
        refine gsr ?_
        refine gp zas ?_
        refine gnt ?_
        refine gc_ret ?_
        refine gx_ret1 rfl (by conv => lhs; whnf) ?_
        have e : decide (l1 = l2) = true := decide_eq_true (by have h1 := hk.2; have hk' : k = n1 := (by (try simp only at hc14); omega); rw [List.take_of_length_le (by omega), List.take_of_length_le (by omega)] at h1; exact h1)
        rw [e]
        exact ze ()

set_option maxHeartbeats 400000 in
theorem sameQC_ok {w : World} {F : Nat → Prop} {cs1 cs2 : List Value} {x y : QC} (h : stars [] w F) (hx : RdQC w (fun k => ¬ F k) cs1 x) (hy : RdQC w (fun k => ¬ F k) cs2 y) :
    Calls Tryz.prog 31 #[.agg cs1.toArray, .agg cs2.toArray] w (Post w F (fun _ : Unit => .bool (decide (x = y))) (fun _ => [])) := by
  obtain ⟨a1, n1, c1, rfl, hk1, hd1⟩ := hx
  obtain ⟨b1, m1, d1, rfl, hj1, he1⟩ := hy
  refine g_enter (env := [(0, .agg (List.toArray (.int .i64 x.epoch :: .int .i64 x.round :: (dc x.block ++ [.slice a1 n1 c1])))), (1, .agg (List.toArray (.int .i64 y.epoch :: .int .i64 y.round :: (dc y.block ++ [.slice b1 m1 d1]))))]) Tryz.func31 rfl h Tryz.ntmps31 rfl rfl ?_
  refine gsr ?_
  refine zbN fun b2 => ?_
  refine zbN fun b3 => ?_
  refine gp zas ?_
  refine gnt ?_
  refine gc_seq ?_
  by_cases hsq0 : x.epoch = y.epoch
  · by_cases hsq1 : x.round = y.round
    · by_cases hsq2 : x.block = y.block
      · refine gc_region ?_
        refine gp zfa ?_
        refine gp zl ?_
        refine gp zfa ?_
        refine gp zl ?_
        refine gp (r_bool (r_eql_int rfl rfl) (decide_eq_true hsq0)) ?_
        refine gp zmv ?_
        refine gq zfa ?_
        refine gq zl ?_
        refine gq zfa ?_
        refine gq zl ?_
        refine gq (r_bool (r_eql_int rfl rfl) (decide_eq_true hsq1)) ?_
        refine gp zpk ?_
        refine gp zmv ?_
        refine gq zfa ?_
        refine gq zL ?_
        refine gq zfa ?_
        refine gq zL ?_
        refine gq (r_bool (r_eql_dig rfl rfl Ty.arr_23 Ty.un_5 Ty.sz_5 (by kernel_rfl)) (decide_eq_true hsq2)) ?_
        refine gp zpk ?_
        refine gp zmv ?_
        refine gq zfa ?_
        refine gq zl ?_
        refine gq zfa ?_
        refine gq zl ?_
        refine zc (fun _ => ?_) (c := fun w1 F1 F2 h1 h2 hd hst => sameSigneds_ok h1 (RdList.mv hd1 hst.still fun _ _ h => h.mv hst.still) (RdList.mv he1 hst.still fun _ _ h => h.mv hst.still))
        refine gp zpk ?_
        refine gp zas ?_
        refine gnt ?_
        refine gc_ret ?_
        refine gx_ret1 rfl (by conv => lhs; whnf) ?_
        have e : decide (x = y) = decide (x.votes = y.votes) := by obtain ⟨⟩ := x; obtain ⟨⟩ := y; simp_all
        rw [e]
        exact ze ()
      · refine gc_region ?_
        refine gp zfa ?_
        refine gp zl ?_
        refine gp zfa ?_
        refine gp zl ?_
        refine gp (r_bool (r_eql_int rfl rfl) (decide_eq_true hsq0)) ?_
        refine gp zmv ?_
        refine gq zfa ?_
        refine gq zl ?_
        refine gq zfa ?_
        refine gq zl ?_
        refine gq (r_bool (r_eql_int rfl rfl) (decide_eq_true hsq1)) ?_
        refine gp zpk ?_
        refine gp zmv ?_
        refine gq zfa ?_
        refine gq zL ?_
        refine gq zfa ?_
        refine gq zL ?_
        refine gq (r_bool (r_eql_dig rfl rfl Ty.arr_23 Ty.un_5 Ty.sz_5 (by kernel_rfl)) (decide_eq_false hsq2)) ?_
        refine gp zpk ?_
        refine gp zmv ?_
        refine gn ?_
        refine gn ?_
        refine gn ?_
        refine gn ?_
        refine gn ?_
        refine gp zpk ?_
        refine gp zas ?_
        refine gnt ?_
        refine gc_ret ?_
        refine gx_ret1 rfl (by conv => lhs; whnf) ?_
        have e : decide (x = y) = false := decide_eq_false (fun h => hsq2 (by rw [h]))
        rw [e]
        exact ze ()
    · refine gc_region ?_
      refine gp zfa ?_
      refine gp zl ?_
      refine gp zfa ?_
      refine gp zl ?_
      refine gp (r_bool (r_eql_int rfl rfl) (decide_eq_true hsq0)) ?_
      refine gp zmv ?_
      refine gq zfa ?_
      refine gq zl ?_
      refine gq zfa ?_
      refine gq zl ?_
      refine gq (r_bool (r_eql_int rfl rfl) (decide_eq_false hsq1)) ?_
      refine gp zpk ?_
      refine gp zmv ?_
      refine gn ?_
      refine gn ?_
      refine gn ?_
      refine gn ?_
      refine gn ?_
      refine gp zpk ?_
      refine gp zmv ?_
      refine gn ?_
      refine gn ?_
      refine gn ?_
      refine gn ?_
      refine gn ?_
      refine gp zpk ?_
      refine gp zas ?_
      refine gnt ?_
      refine gc_ret ?_
      refine gx_ret1 rfl (by conv => lhs; whnf) ?_
      have e : decide (x = y) = false := decide_eq_false (fun h => hsq1 (by rw [h]))
      rw [e]
      exact ze ()
  · refine gc_region ?_
    refine gp zfa ?_
    refine gp zl ?_
    refine gp zfa ?_
    refine gp zl ?_
    refine gp (r_bool (r_eql_int rfl rfl) (decide_eq_false hsq0)) ?_
    refine gp zmv ?_
    refine gn ?_
    refine gn ?_
    refine gn ?_
    refine gn ?_
    refine gn ?_
    refine gp zpk ?_
    refine gp zmv ?_
    refine gn ?_
    refine gn ?_
    refine gn ?_
    refine gn ?_
    refine gn ?_
    refine gp zpk ?_
    refine gp zmv ?_
    refine gn ?_
    refine gn ?_
    refine gn ?_
    refine gn ?_
    refine gn ?_
    refine gp zpk ?_
    refine gp zas ?_
    refine gnt ?_
    refine gc_ret ?_
    refine gx_ret1 rfl (by conv => lhs; whnf) ?_
    have e : decide (x = y) = false := decide_eq_false (fun h => hsq0 (by rw [h]))
    rw [e]
    exact ze ()

set_option maxHeartbeats 400000 in
theorem sameBlock_ok {w : World} {F : Nat → Prop} {cs1 cs2 : List Value} {x y : Block} (h : stars [] w F) (hx : RdBlock w (fun k => ¬ F k) cs1 x) (hy : RdBlock w (fun k => ¬ F k) cs2 y) :
    Calls Tryz.prog 38 #[.agg cs1.toArray, .agg cs2.toArray] w (Post w F (fun _ : Unit => .bool (decide (x = y))) (fun _ => [])) := by
  obtain ⟨q, a1, n1, c1, a2, n2, c2, rfl, hq, hk1, hd1, hk2, hd2⟩ := hx
  obtain ⟨r, b1, m1, d1, b2, m2, d2, rfl, hr, hj1, he1, hj2, he2⟩ := hy
  have lq := hq.len
  have lr := hr.len
  have z_lq := Len.of lq
  have z_lr := Len.of lr
  refine g_enter (env := [(0, .agg (List.toArray (.int .i64 x.epoch :: .int .i64 x.round :: (dc x.parent ++ (q ++ [.slice a1 n1 c1, .slice a2 n2 c2]))))), (1, .agg (List.toArray (.int .i64 y.epoch :: .int .i64 y.round :: (dc y.parent ++ (r ++ [.slice b1 m1 d1, .slice b2 m2 d2])))))]) Tryz.func38 rfl h Tryz.ntmps38 rfl rfl ?_
  refine gsr ?_
  refine zbN fun b2 => ?_
  refine zbN fun b3 => ?_
  refine gp zas ?_
  refine gnt ?_
  refine gc_seq ?_
  by_cases hsq0 : x.epoch = y.epoch
  · by_cases hsq1 : x.round = y.round
    · by_cases hsq2 : x.parent = y.parent
      · by_cases hsq3 : x.justify = y.justify
        · by_cases hsq4 : x.payload = y.payload
          · refine gc_region ?_
            refine gp zfa ?_
            refine gp zl ?_
            refine gp zfa ?_
            refine gp zl ?_
            refine gp (r_bool (r_eql_int rfl rfl) (decide_eq_true hsq0)) ?_
            refine gp zmv ?_
            refine gq zfa ?_
            refine gq zl ?_
            refine gq zfa ?_
            refine gq zl ?_
            refine gq (r_bool (r_eql_int rfl rfl) (decide_eq_true hsq1)) ?_
            refine gp zpk ?_
            refine gp zmv ?_
            refine gq zfa ?_
            refine gq zL ?_
            refine gq zfa ?_
            refine gq zL ?_
            refine gq (r_bool (r_eql_dig rfl rfl Ty.arr_23 Ty.un_5 Ty.sz_5 (by kernel_rfl)) (decide_eq_true hsq2)) ?_
            refine gp zpk ?_
            refine gp zmv ?_
            refine gq zfa ?_
            refine gq zL ?_
            refine gq zfa ?_
            refine gq zL ?_
            refine zc (fun _ => ?_) (c := fun w1 F1 F2 h1 h2 hd hst => sameQC_ok h1 (hq.mv hst.still) (hr.mv hst.still))
            rw [decide_eq_true hsq3]
            refine gp zpk ?_
            refine gp zmv ?_
            refine gq zfa ?_
            refine gq zl ?_
            refine gq zfa ?_
            refine gq zl ?_
            refine zc (fun _ => ?_) (c := fun w1 F1 F2 h1 h2 hd hst => sameLists_ok h1 (RdList.mv hd1 hst.still fun _ _ h => h.mv hst.still) (RdList.mv he1 hst.still fun _ _ h => h.mv hst.still))
            rw [decide_eq_true hsq4]
            refine gp zpk ?_
            refine gp zmv ?_
            refine gq zfa ?_
            refine gq zl ?_
            refine gq zfa ?_
            refine gq zl ?_
            refine zc (fun _ => ?_) (c := fun w1 F1 F2 h1 h2 hd hst => sameVdrs_ok h1 (RdList.mv hd2 hst.still fun _ _ h => h) (RdList.mv he2 hst.still fun _ _ h => h))
            refine gp zpk ?_
            refine gp zas ?_
            refine gnt ?_
            refine gc_ret ?_
            refine gx_ret1 rfl (by conv => lhs; whnf) ?_
            have e : decide (x = y) = decide (x.next = y.next) := by obtain ⟨⟩ := x; obtain ⟨⟩ := y; simp_all
            rw [e]
            exact ze ()
          · refine gc_region ?_
            refine gp zfa ?_
            refine gp zl ?_
            refine gp zfa ?_
            refine gp zl ?_
            refine gp (r_bool (r_eql_int rfl rfl) (decide_eq_true hsq0)) ?_
            refine gp zmv ?_
            refine gq zfa ?_
            refine gq zl ?_
            refine gq zfa ?_
            refine gq zl ?_
            refine gq (r_bool (r_eql_int rfl rfl) (decide_eq_true hsq1)) ?_
            refine gp zpk ?_
            refine gp zmv ?_
            refine gq zfa ?_
            refine gq zL ?_
            refine gq zfa ?_
            refine gq zL ?_
            refine gq (r_bool (r_eql_dig rfl rfl Ty.arr_23 Ty.un_5 Ty.sz_5 (by kernel_rfl)) (decide_eq_true hsq2)) ?_
            refine gp zpk ?_
            refine gp zmv ?_
            refine gq zfa ?_
            refine gq zL ?_
            refine gq zfa ?_
            refine gq zL ?_
            refine zc (fun _ => ?_) (c := fun w1 F1 F2 h1 h2 hd hst => sameQC_ok h1 (hq.mv hst.still) (hr.mv hst.still))
            rw [decide_eq_true hsq3]
            refine gp zpk ?_
            refine gp zmv ?_
            refine gq zfa ?_
            refine gq zl ?_
            refine gq zfa ?_
            refine gq zl ?_
            refine zc (fun _ => ?_) (c := fun w1 F1 F2 h1 h2 hd hst => sameLists_ok h1 (RdList.mv hd1 hst.still fun _ _ h => h.mv hst.still) (RdList.mv he1 hst.still fun _ _ h => h.mv hst.still))
            rw [decide_eq_false hsq4]
            refine gp zpk ?_
            refine gp zmv ?_
            refine gn ?_
            refine gn ?_
            refine gn ?_
            refine gn ?_
            refine gn ?_
            refine gp zpk ?_
            refine gp zas ?_
            refine gnt ?_
            refine gc_ret ?_
            refine gx_ret1 rfl (by conv => lhs; whnf) ?_
            have e : decide (x = y) = false := decide_eq_false (fun h => hsq4 (by rw [h]))
            rw [e]
            exact ze ()
        · refine gc_region ?_
          refine gp zfa ?_
          refine gp zl ?_
          refine gp zfa ?_
          refine gp zl ?_
          refine gp (r_bool (r_eql_int rfl rfl) (decide_eq_true hsq0)) ?_
          refine gp zmv ?_
          refine gq zfa ?_
          refine gq zl ?_
          refine gq zfa ?_
          refine gq zl ?_
          refine gq (r_bool (r_eql_int rfl rfl) (decide_eq_true hsq1)) ?_
          refine gp zpk ?_
          refine gp zmv ?_
          refine gq zfa ?_
          refine gq zL ?_
          refine gq zfa ?_
          refine gq zL ?_
          refine gq (r_bool (r_eql_dig rfl rfl Ty.arr_23 Ty.un_5 Ty.sz_5 (by kernel_rfl)) (decide_eq_true hsq2)) ?_
          refine gp zpk ?_
          refine gp zmv ?_
          refine gq zfa ?_
          refine gq zL ?_
          refine gq zfa ?_
          refine gq zL ?_
          refine zc (fun _ => ?_) (c := fun w1 F1 F2 h1 h2 hd hst => sameQC_ok h1 (hq.mv hst.still) (hr.mv hst.still))
          rw [decide_eq_false hsq3]
          refine gp zpk ?_
          refine gp zmv ?_
          refine gn ?_
          refine gn ?_
          refine gn ?_
          refine gn ?_
          refine gn ?_
          refine gp zpk ?_
          refine gp zmv ?_
          refine gn ?_
          refine gn ?_
          refine gn ?_
          refine gn ?_
          refine gn ?_
          refine gp zpk ?_
          refine gp zas ?_
          refine gnt ?_
          refine gc_ret ?_
          refine gx_ret1 rfl (by conv => lhs; whnf) ?_
          have e : decide (x = y) = false := decide_eq_false (fun h => hsq3 (by rw [h]))
          rw [e]
          exact ze ()
      · refine gc_region ?_
        refine gp zfa ?_
        refine gp zl ?_
        refine gp zfa ?_
        refine gp zl ?_
        refine gp (r_bool (r_eql_int rfl rfl) (decide_eq_true hsq0)) ?_
        refine gp zmv ?_
        refine gq zfa ?_
        refine gq zl ?_
        refine gq zfa ?_
        refine gq zl ?_
        refine gq (r_bool (r_eql_int rfl rfl) (decide_eq_true hsq1)) ?_
        refine gp zpk ?_
        refine gp zmv ?_
        refine gq zfa ?_
        refine gq zL ?_
        refine gq zfa ?_
        refine gq zL ?_
        refine gq (r_bool (r_eql_dig rfl rfl Ty.arr_23 Ty.un_5 Ty.sz_5 (by kernel_rfl)) (decide_eq_false hsq2)) ?_
        refine gp zpk ?_
        refine gp zmv ?_
        refine gn ?_
        refine gn ?_
        refine gn ?_
        refine gn ?_
        refine gn ?_
        refine gp zpk ?_
        refine gp zmv ?_
        refine gn ?_
        refine gn ?_
        refine gn ?_
        refine gn ?_
        refine gn ?_
        refine gp zpk ?_
        refine gp zmv ?_
        refine gn ?_
        refine gn ?_
        refine gn ?_
        refine gn ?_
        refine gn ?_
        refine gp zpk ?_
        refine gp zas ?_
        refine gnt ?_
        refine gc_ret ?_
        refine gx_ret1 rfl (by conv => lhs; whnf) ?_
        have e : decide (x = y) = false := decide_eq_false (fun h => hsq2 (by rw [h]))
        rw [e]
        exact ze ()
    · refine gc_region ?_
      refine gp zfa ?_
      refine gp zl ?_
      refine gp zfa ?_
      refine gp zl ?_
      refine gp (r_bool (r_eql_int rfl rfl) (decide_eq_true hsq0)) ?_
      refine gp zmv ?_
      refine gq zfa ?_
      refine gq zl ?_
      refine gq zfa ?_
      refine gq zl ?_
      refine gq (r_bool (r_eql_int rfl rfl) (decide_eq_false hsq1)) ?_
      refine gp zpk ?_
      refine gp zmv ?_
      refine gn ?_
      refine gn ?_
      refine gn ?_
      refine gn ?_
      refine gn ?_
      refine gp zpk ?_
      refine gp zmv ?_
      refine gn ?_
      refine gn ?_
      refine gn ?_
      refine gn ?_
      refine gn ?_
      refine gp zpk ?_
      refine gp zmv ?_
      refine gn ?_
      refine gn ?_
      refine gn ?_
      refine gn ?_
      refine gn ?_
      refine gp zpk ?_
      refine gp zmv ?_
      refine gn ?_
      refine gn ?_
      refine gn ?_
      refine gn ?_
      refine gn ?_
      refine gp zpk ?_
      refine gp zas ?_
      refine gnt ?_
      refine gc_ret ?_
      refine gx_ret1 rfl (by conv => lhs; whnf) ?_
      have e : decide (x = y) = false := decide_eq_false (fun h => hsq1 (by rw [h]))
      rw [e]
      exact ze ()
  · refine gc_region ?_
    refine gp zfa ?_
    refine gp zl ?_
    refine gp zfa ?_
    refine gp zl ?_
    refine gp (r_bool (r_eql_int rfl rfl) (decide_eq_false hsq0)) ?_
    refine gp zmv ?_
    refine gn ?_
    refine gn ?_
    refine gn ?_
    refine gn ?_
    refine gn ?_
    refine gp zpk ?_
    refine gp zmv ?_
    refine gn ?_
    refine gn ?_
    refine gn ?_
    refine gn ?_
    refine gn ?_
    refine gp zpk ?_
    refine gp zmv ?_
    refine gn ?_
    refine gn ?_
    refine gn ?_
    refine gn ?_
    refine gn ?_
    refine gp zpk ?_
    refine gp zmv ?_
    refine gn ?_
    refine gn ?_
    refine gn ?_
    refine gn ?_
    refine gn ?_
    refine gp zpk ?_
    refine gp zmv ?_
    refine gn ?_
    refine gn ?_
    refine gn ?_
    refine gn ?_
    refine gn ?_
    refine gp zpk ?_
    refine gp zas ?_
    refine gnt ?_
    refine gc_ret ?_
    refine gx_ret1 rfl (by conv => lhs; whnf) ?_
    have e : decide (x = y) = false := decide_eq_false (fun h => hsq0 (by rw [h]))
    rw [e]
    exact ze ()

end Go.Proofs.YtkgbbnhdioghmaaGreatDoor

/- Walks, by program (wg.py) out of a spec. -/
namespace Go.Proofs.YtkgbbnhdioghmaaGreatDoor
open Go
set_option linter.unusedVariables false
set_option linter.unusedSimpArgs false

attribute [local irreducible] Gl Gc Gx Gs Runs Wt

set_option maxHeartbeats 400000 in
theorem bigSig_ok {w : World} {F : Nat → Prop} {cs : List Value} {x : Sig} (h : stars [] w F) (hx : RdSig w (fun k => ¬ F k) cs x) :
    Calls Tryz.prog 47 #[.agg cs.toArray] w (Post w F (fun b : Bool => .bool b) (fun _ => [])) := by
  obtain ⟨a1, n1, c1, a2, n2, c2, rfl, hk1, hk2, hd1, hd2⟩ := hx
  refine g_enter (env := [(0, .agg (List.toArray [.int .i64 x.leaf, .slice a1 n1 c1, .slice a2 n2 c2]))]) Tryz.func47 rfl h Tryz.ntmps47 rfl rfl ?_
  refine gsr ?_
  refine zbN fun b1 => ?_
  refine gp zas ?_
  refine gnt ?_
  refine gc_seq ?_
  by_cases hsp1 : (100 : Int) < (n1 : Int)
  · refine gc_region ?_
    refine gp zfa ?_
    refine gp zl ?_
    refine gp zln ?_
    refine gp (r_bool (r_gtr rfl rfl) (decide_eq_true hsp1)) ?_
    refine gp zmv ?_
    refine gn ?_
    refine gn ?_
    refine gn ?_
    refine gn ?_
    refine gp zpk ?_
    refine gp zas ?_
    refine gnt ?_
    refine gc_ret ?_
    refine gx_ret1 rfl (by conv => lhs; whnf) ?_
    exact ze _
  · refine gc_region ?_
    refine gp zfa ?_
    refine gp zl ?_
    refine gp zln ?_
    refine gp (r_bool (r_gtr rfl rfl) (decide_eq_false hsp1)) ?_
    refine gp zmv ?_
    refine gq zfa ?_
    refine gq zl ?_
    refine gq zln ?_
    refine gq zgt ?_
    refine gp zpk ?_
    refine gp zas ?_
    refine gnt ?_
    refine gc_ret ?_
    refine gx_ret1 rfl (by conv => lhs; whnf) ?_
    exact ze _

set_option maxHeartbeats 400000 in
theorem bigQC_ok {w : World} {F : Nat → Prop} {cs : List Value} {x : QC} (h : stars [] w F) (hx : RdQC w (fun k => ¬ F k) cs x) :
    Calls Tryz.prog 26 #[.agg cs.toArray] w (Post w F (fun b : Bool => .bool b) (fun _ => [])) := by
  obtain ⟨a1, n1, c1, rfl, hk1, hd1⟩ := hx
  have hm1 := hd1.max
  simp only [maxLen] at hm1
  refine g_enter (env := [(0, .agg (List.toArray (.int .i64 x.epoch :: .int .i64 x.round :: (dc x.block ++ [.slice a1 n1 c1]))))]) Tryz.func26 rfl h Tryz.ntmps26 rfl rfl ?_
  refine gsr ?_
  refine zbN fun b1 => ?_
  refine gp zas ?_
  refine gnt ?_
  refine gc_seq ?_
  refine gsr ?_
  refine gp zfa ?_
  refine gp zl ?_
  refine gp zln ?_
  refine gp zgt ?_
  refine gnt ?_
  refine gif rfl (fun hc8 => ?_) (fun hc8 => ?_)
  · refine gsr ?_
    refine gp zas ?_
    refine gnt ?_
    refine gc_ret ?_
    refine gx_then_ret ?_
    refine gx_ret1 rfl (by conv => lhs; whnf) ?_
    exact ze _
  · refine gc_skip ?_
    refine gx_then ?_
    refine gc_seq ?_
    refine gsr ?_
    refine gp zfa ?_
    refine gp zl ?_
    refine gp zln ?_
    refine gp zmv ?_
    refine gnt ?_
    refine gc_block ?_
    refine gc_loop (α := Nat) (fun k => [pureR (k ≤ n1)]) (fun k => [(12, .int .i64 (k : Int))]) [2, 4, 13, 14, 15, 16, 17, 18, 19] (fun k => n1 - k) 0 ?_ ?_ ?_
    · refine env_start (by kernel_rfl)
    · rintro w' hw
      obtain ⟨F', hF', hst'⟩ := hw.sel (M := []) (by repeat (first | exact Sel.nil | (apply Sel.cons; · (repeat (first | exact Pick.here | apply Pick.there)))))
      exact ⟨F', stars_pure_mk (Nat.zero_le _) hF', hst'⟩
    · intro k u
      refine gc_pureR (fun hk => ?_)
      replace hk : k ≤ n1 := hk
      refine gsr ?_
      refine gp zlt ?_
      refine gnt ?_
      refine gc_seq ?_
      refine gif rfl (fun hc13 => ?_) (fun hc13 => ?_)
      · have hk' : k < n1 := by (try simp only at hc13); omega
        obtain ⟨g1, o1, cs1, y, ha1, hA1, hg1, hra1, hcl1, hl1, hrd1⟩ := hd1.elem (by decide) hk'
        subst ha1
        obtain ⟨s1, rfl, hs1⟩ := hrd1
        have ls := hs1.len
        refine gc_skip ?_
        refine gx_then ?_
        refine gc_seq ?_
        refine gc_block ?_
        refine gsr ?_
        refine gp (r_indexAddr_slice rfl rfl Ty.sl_24 Ty.sz_51 (by omega) (by omega)) ?_
        refine gp (r_ldNo rfl Ty.row_51 Ty.sz_51 hra1 hcl1 (by decide) hA1) ?_
        refine zal fun b4 => ?_
        refine gl_storeN (wt0 rfl) rfl rfl Ty.sz_51 hcl1 (by repeat (first | exact Pick.here | apply Pick.there)) (by decide) (all_cons' rfl hs1.one) (updL_all (by rw [hcl1]; rfl)) ?_
        refine gnt ?_
        refine gsr ?_
        refine gp zfa ?_
        refine gp (r_ldN (seg := s1) rfl Ty.row_49 Ty.sz_49 (by repeat (first | exact Pick.here | apply Pick.there)) (by show s1.take 3 = s1; exact List.take_of_length_le (by omega)) ls) ?_
        refine zc (fun r18 => ?_) (c := fun w1 F1 F2 h1 h2 hd hst => bigSig_ok h1 (hs1.mv hst.still))
        refine gnt ?_
        refine gif rfl (fun hc18 => ?_) (fun hc18 => ?_)
        · refine gsr ?_
          refine gp zas ?_
          refine gnt ?_
          refine gc_ret ?_
          refine gx_block_ret ?_
          refine gx_then_ret ?_
          refine gx_round_ret ?_
          refine gx_block_ret ?_
          refine gx_then_ret ?_
          refine gx_ret1 rfl (by conv => lhs; whnf) ?_
          exact ze _
        · refine gc_skip ?_
          refine gx_block_normal ?_
          refine gx_then ?_
          refine gc_region ?_
          refine gp zad ?_
          refine gp zmv ?_
          refine gl_nil ?_
          refine zrd (k + 1) ?_ ?_
          · show n1 - (k + 1) < n1 - k
            omega
          · rintro w' hw
            obtain ⟨F', hF', hst'⟩ := hw.sel (M := []) (by repeat (first | exact Sel.nil | (apply Sel.cons; · (repeat (first | exact Pick.here | apply Pick.there)))))
            exact ⟨F', stars_pure_mk (show k + 1 ≤ n1 by omega) hF', hst'⟩
      · refine gc_exit ?_
        refine gx_then_exit ?_
        refine gx_round_exit ?_
        refine gx_block_hit ?_
        refine gx_then ?_
        refine gsr ?_
        refine gp zas ?_
        refine gnt ?_
        refine gc_ret ?_
        refine gx_ret1 rfl (by conv => lhs; whnf) ?_
        exact ze _

set_option maxHeartbeats 400000 in
theorem bigBlock_ok {w : World} {F : Nat → Prop} {cs : List Value} {x : Block} (h : stars [] w F) (hx : RdBlock w (fun k => ¬ F k) cs x) :
    Calls Tryz.prog 25 #[.agg cs.toArray] w (Post w F (fun b : Bool => .bool b) (fun _ => [])) := by
  obtain ⟨q, a1, n1, c1, a2, n2, c2, rfl, hq, hk1, hd1, hk2, hd2⟩ := hx
  have lq := hq.len
  have hm1 := hd1.max
  simp only [maxLen] at hm1
  have z_lq := Len.of lq
  refine g_enter (env := [(0, .agg (List.toArray (.int .i64 x.epoch :: .int .i64 x.round :: (dc x.parent ++ (q ++ [.slice a1 n1 c1, .slice a2 n2 c2])))))]) Tryz.func25 rfl h Tryz.ntmps25 rfl rfl ?_
  refine gsr ?_
  refine zbN fun b1 => ?_
  refine gp zas ?_
  refine gnt ?_
  refine gc_seq ?_
  refine gc_seq ?_
  by_cases hsp1 : (12 : Int) < (n1 : Int)
  · refine gc_region ?_
    refine gp zfa ?_
    refine gp zl ?_
    refine gp zln ?_
    refine gp (r_bool (r_gtr rfl rfl) (decide_eq_true hsp1)) ?_
    refine gp zmv ?_
    refine gn ?_
    refine gn ?_
    refine gn ?_
    refine gn ?_
    refine gp zpk ?_
    refine gnt ?_
    refine gif rfl (fun hc14 => ?_) (fun hc14 => ?_)
    · refine gsr ?_
      refine gp zas ?_
      refine gnt ?_
      refine gc_ret ?_
      refine gx_then_ret ?_
      refine gx_ret1 rfl (by conv => lhs; whnf) ?_
      exact ze _
    · refine gc_skip ?_
      refine gx_then ?_
      refine gc_seq ?_
      refine gsr ?_
      refine gp zfa ?_
      refine gp zl ?_
      refine gp zln ?_
      refine gp zmv ?_
      refine gnt ?_
      refine gc_block ?_
      refine gc_loop (α := Nat) (fun k => [pureR (k ≤ n1), blk b1 30 (.int .i64 x.epoch :: .int .i64 x.round :: (dc x.parent ++ (q ++ [.slice a1 n1 c1, .slice a2 n2 c2])))]) (fun k => [(18, .int .i64 (k : Int))]) [2, 4, 19, 20, 21, 22, 23, 24, 25] (fun k => n1 - k) 0 ?_ ?_ ?_
      · refine env_start (by kernel_rfl)
      · rintro w' hw
        obtain ⟨F', hF', hst'⟩ := hw.sel (M := [blk b1 _ _]) (by repeat (first | exact Sel.nil | (apply Sel.cons; · (repeat (first | exact Pick.here | apply Pick.there)))))
        exact ⟨F', stars_pure_mk (Nat.zero_le _) hF', hst'⟩
      · intro k u
        refine gc_pureR (fun hk => ?_)
        replace hk : k ≤ n1 := hk
        refine gsr ?_
        refine gp zlt ?_
        refine gnt ?_
        refine gc_seq ?_
        refine gif rfl (fun hc19 => ?_) (fun hc19 => ?_)
        · have hk' : k < n1 := by (try simp only at hc19); omega
          obtain ⟨g1, o1, cs1, y, ha1, hA1, hg1, hra1, hcl1, hl1, hrd1⟩ := hd1.elem (by decide) hk'
          subst ha1
          obtain ⟨a', n', c', rfl, hn', hrb⟩ := hrd1
          refine gc_skip ?_
          refine gx_then ?_
          refine gc_seq ?_
          refine gc_block ?_
          refine gsr ?_
          refine gp (r_indexAddr_slice rfl rfl Ty.sl_27 Ty.sz_36 (by omega) (by omega)) ?_
          refine gp (r_ld1o rfl Ty.row_36 (hra1 0 _ rfl) hA1) ?_
          refine gp zas ?_
          refine gnt ?_
          refine gsr ?_
          refine gp zmv ?_
          refine gp zln ?_
          refine gp zgt ?_
          refine gnt ?_
          refine gif rfl (fun hc24 => ?_) (fun hc24 => ?_)
          · refine gsr ?_
            refine gp zas ?_
            refine gnt ?_
            refine gc_ret ?_
            refine gx_block_ret ?_
            refine gx_then_ret ?_
            refine gx_round_ret ?_
            refine gx_block_ret ?_
            refine gx_then_ret ?_
            refine gx_ret1 rfl (by conv => lhs; whnf) ?_
            exact ze _
          · refine gc_skip ?_
            refine gx_block_normal ?_
            refine gx_then ?_
            refine gc_region ?_
            refine gp zad ?_
            refine gp zmv ?_
            refine gl_nil ?_
            refine zrd (k + 1) ?_ ?_
            · show n1 - (k + 1) < n1 - k
              omega
            · rintro w' hw
              obtain ⟨F', hF', hst'⟩ := hw.sel (M := [blk b1 _ _]) (by repeat (first | exact Sel.nil | (apply Sel.cons; · (repeat (first | exact Pick.here | apply Pick.there)))))
              exact ⟨F', stars_pure_mk (show k + 1 ≤ n1 by omega) hF', hst'⟩
        · refine gc_exit ?_
          refine gx_then_exit ?_
          refine gx_round_exit ?_
          refine gx_block_hit ?_
          refine gx_then ?_
          refine gsr ?_
          refine gp zfa ?_
          refine gp zL ?_
          refine zc (fun r28 => ?_) (c := fun w1 F1 F2 h1 h2 hd hst => bigQC_ok h1 (hq.mv hst.still))
          refine gp zas ?_
          refine gnt ?_
          refine gc_ret ?_
          refine gx_ret1 rfl (by conv => lhs; whnf) ?_
          exact ze _
  · refine gc_region ?_
    refine gp zfa ?_
    refine gp zl ?_
    refine gp zln ?_
    refine gp (r_bool (r_gtr rfl rfl) (decide_eq_false hsp1)) ?_
    refine gp zmv ?_
    refine gq zfa ?_
    refine gq zl ?_
    refine gq zln ?_
    refine gq zgt ?_
    refine gp zpk ?_
    refine gnt ?_
    refine gif rfl (fun hc14 => ?_) (fun hc14 => ?_)
    · refine gsr ?_
      refine gp zas ?_
      refine gnt ?_
      refine gc_ret ?_
      refine gx_then_ret ?_
      refine gx_ret1 rfl (by conv => lhs; whnf) ?_
      exact ze _
    · refine gc_skip ?_
      refine gx_then ?_
      refine gc_seq ?_
      refine gsr ?_
      refine gp zfa ?_
      refine gp zl ?_
      refine gp zln ?_
      refine gp zmv ?_
      refine gnt ?_
      refine gc_block ?_
      refine gc_loop (α := Nat) (fun k => [pureR (k ≤ n1), blk b1 30 (.int .i64 x.epoch :: .int .i64 x.round :: (dc x.parent ++ (q ++ [.slice a1 n1 c1, .slice a2 n2 c2])))]) (fun k => [(18, .int .i64 (k : Int))]) [2, 4, 19, 20, 21, 22, 23, 24, 25] (fun k => n1 - k) 0 ?_ ?_ ?_
      · refine env_start (by kernel_rfl)
      · rintro w' hw
        obtain ⟨F', hF', hst'⟩ := hw.sel (M := [blk b1 _ _]) (by repeat (first | exact Sel.nil | (apply Sel.cons; · (repeat (first | exact Pick.here | apply Pick.there)))))
        exact ⟨F', stars_pure_mk (Nat.zero_le _) hF', hst'⟩
      · intro k u
        refine gc_pureR (fun hk => ?_)
        replace hk : k ≤ n1 := hk
        refine gsr ?_
        refine gp zlt ?_
        refine gnt ?_
        refine gc_seq ?_
        refine gif rfl (fun hc19 => ?_) (fun hc19 => ?_)
        · have hk' : k < n1 := by (try simp only at hc19); omega
          obtain ⟨g1, o1, cs1, y, ha1, hA1, hg1, hra1, hcl1, hl1, hrd1⟩ := hd1.elem (by decide) hk'
          subst ha1
          obtain ⟨a', n', c', rfl, hn', hrb⟩ := hrd1
          refine gc_skip ?_
          refine gx_then ?_
          refine gc_seq ?_
          refine gc_block ?_
          refine gsr ?_
          refine gp (r_indexAddr_slice rfl rfl Ty.sl_27 Ty.sz_36 (by omega) (by omega)) ?_
          refine gp (r_ld1o rfl Ty.row_36 (hra1 0 _ rfl) hA1) ?_
          refine gp zas ?_
          refine gnt ?_
          refine gsr ?_
          refine gp zmv ?_
          refine gp zln ?_
          refine gp zgt ?_
          refine gnt ?_
          refine gif rfl (fun hc24 => ?_) (fun hc24 => ?_)
          · refine gsr ?_
            refine gp zas ?_
            refine gnt ?_
            refine gc_ret ?_
            refine gx_block_ret ?_
            refine gx_then_ret ?_
            refine gx_round_ret ?_
            refine gx_block_ret ?_
            refine gx_then_ret ?_
            refine gx_ret1 rfl (by conv => lhs; whnf) ?_
            exact ze _
          · refine gc_skip ?_
            refine gx_block_normal ?_
            refine gx_then ?_
            refine gc_region ?_
            refine gp zad ?_
            refine gp zmv ?_
            refine gl_nil ?_
            refine zrd (k + 1) ?_ ?_
            · show n1 - (k + 1) < n1 - k
              omega
            · rintro w' hw
              obtain ⟨F', hF', hst'⟩ := hw.sel (M := [blk b1 _ _]) (by repeat (first | exact Sel.nil | (apply Sel.cons; · (repeat (first | exact Pick.here | apply Pick.there)))))
              exact ⟨F', stars_pure_mk (show k + 1 ≤ n1 by omega) hF', hst'⟩
        · refine gc_exit ?_
          refine gx_then_exit ?_
          refine gx_round_exit ?_
          refine gx_block_hit ?_
          refine gx_then ?_
          refine gsr ?_
          refine gp zfa ?_
          refine gp zL ?_
          refine zc (fun r28 => ?_) (c := fun w1 F1 F2 h1 h2 hd hst => bigQC_ok h1 (hq.mv hst.still))
          refine gp zas ?_
          refine gnt ?_
          refine gc_ret ?_
          refine gx_ret1 rfl (by conv => lhs; whnf) ?_
          exact ze _

end Go.Proofs.YtkgbbnhdioghmaaGreatDoor

/- The engine, part L: two variables made in either order. -/
namespace Go.Proofs.YtkgbbnhdioghmaaGreatDoor
open Go
set_option linter.unusedVariables false
theorem Sel.head {r : Res} {L M L' : List Res} (h : Sel L M L') : Sel (r :: L) M (r :: L') := by
  induction h with
  | nil => exact Sel.nil
  | cons p _ ih => exact Sel.cons (Pick.there p) ih
theorem env_swap {t u : Nat} {v x : Value} {env : Env} (h : Nat.beq t u = false) (s : Nat) : Env.get ((t, v) :: (u, x) :: env) s = Env.get ((u, x) :: (t, v) :: env) s := by
  show (bif Nat.beq s t then v else (bif Nat.beq s u then x else Env.get env s)) = (bif Nat.beq s u then x else (bif Nat.beq s t then v else Env.get env s))
  cases h1 : Nat.beq s t <;> cases h2 : Nat.beq s u <;> try rfl
  rw [← Nat.eq_of_beq_eq_true h1, ← Nat.eq_of_beq_eq_true h2, Nat.beq_refl] at h
  cases h
theorem st_swap {w0 : World} {F0 : Nat → Prop} {r s : Res} {L : List Res} {w : World} (h : St w0 F0 (r :: s :: L) w) : St w0 F0 (s :: r :: L) w := by
  obtain ⟨F, hF, hst⟩ := h
  exact ⟨F, Pick.stars (.there .here) hF, hst⟩
section
variable {P : Program} {w0 : World} {F0 : Nat → Prop} {K L : List Res} {Q : Exit → Act → World → Prop} {n : Nat} {env : Env} {ops : Array Oper} {listed : Array Bool} {fuel z : Nat}
/-- Two new variables, in either order. -/
theorem yas2 (i j : Nat) {ti tj : Tmp} {Ti Tj : TypeId} {yi yj : TypeId} {qi qj : String} {fi fj : Array Edge} {gi gj : Option (Nat × Bool)} {ci cj : List Value} {L' : List Res} [ZC P Ti ci] [ZC P Tj cj]
    (hi : ops[i]? = some ⟨some ti, .alloc Ti, yi, qi, fi, gi⟩) (hj : ops[j]? = some ⟨some tj, .alloc Tj, yj, qj, fj, gj⟩)
    (k : ∀ bi bj, Gt P w0 F0 K (blk bj Tj cj :: blk bi Ti ci :: L) ops Q z fuel ((listed.setIfInBounds i true).setIfInBounds j true) n ((tj, .pointer (some ⟨bj, 0, none⟩)) :: (ti, .pointer (some ⟨bi, 0, none⟩)) :: env))
    (hsel : Sel L K L' := by repeat (first | exact Sel.nil | (apply Sel.cons; · (repeat (first | exact Pick.here | apply Pick.there)))))
    (hwi : ∀ env, Wt ops n env ⟨some ti, .alloc Ti, yi, qi, fi, gi⟩ true := by exact fun _ => wt0 rfl) (hwj : ∀ env, Wt ops n env ⟨some tj, .alloc Tj, yj, qj, fj, gj⟩ true := by exact fun _ => wt0 rfl)
    (ht : Nat.beq ti tj = false := by kernel_rfl) (hij : Nat.beq i j = false := by kernel_rfl) (hzi : Nat.beq i z = false := by kernel_rfl) (hzj : Nat.beq j z = false := by kernel_rfl)
    (hr : Region.ready .any ops listed = [i, j] := by kernel_rfl) (hri : Region.ready .any ops (listed.setIfInBounds i true) = [j] := by kernel_rfl) (hrj : Region.ready .any ops (listed.setIfInBounds j true) = [i] := by kernel_rfl) :
    Gt P w0 F0 K L ops Q z (fuel + 2) listed n env := fun w hst => by
  refine ⟨fun h => ?_, ?_, fun x hx hxz => ?_⟩
  · rw [hr] at h; cases h
  · rw [hr]; simp
  · rw [hr] at hx
    rcases List.mem_cons.1 hx with rfl | hx
    · refine wpOp_of_list hi ?_
      refine zal (fun bi => ?_) (hw := hwi _) w hst
      refine gl_nil fun w2 hw2 => ⟨(hw2.sel (Sel.head hsel)), ?_⟩
      exact yos (fuel := fuel) j hj (zal (fun bj => gl_nil fun w3 hw3 => ⟨hw3.sel (Sel.head (Sel.head hsel)), k bi bj w3 hw3⟩) (hw := hwj _)) (hr := hri) (hz := hzj) w2 hw2
    · obtain rfl : x = j := by simpa using hx
      refine wpOp_of_list hj ?_
      refine zal (fun bj => ?_) (hw := hwj _) w hst
      refine gl_nil fun w2 hw2 => ⟨(hw2.sel (Sel.head hsel)), ?_⟩
      refine yos (fuel := fuel) i hi (zal (fun bi => gl_nil fun w3 hw3 => ⟨hw3.sel (Sel.head (Sel.head hsel)), ?_⟩) (hw := hwi _)) (hr := hrj) (hz := hzi) w2 hw2
      have := k bi bj w3 (st_swap hw3)
      rw [fr_ext (fun t _ => env_swap (by rw [Bool.eq_false_iff] at ht ⊢; intro e; exact ht (by rw [Nat.eq_of_beq_eq_true e]; exact Nat.beq_refl _)) t)] at this
      rw [Array.setIfInBounds_comm _ _ (by intro e; subst e; simp at hij)] at this
      exact this
end
end Go.Proofs.YtkgbbnhdioghmaaGreatDoor

/- Walks, by program (wg.py) out of a spec. -/
namespace Go.Proofs.YtkgbbnhdioghmaaGreatDoor
open Go
set_option linter.unusedVariables false
set_option linter.unusedSimpArgs false


theorem rdList_one {α : Type} {rd : List Value → α → Prop} {w : World} {A : Nat → Prop} {size : Nat} {a : Option Addr} {cs : List Value} {x : α} (h : RdRow w A size a 1 cs) (hl : cs.length = size) (hx : rd cs x) : RdList rd w A size a 1 [x] :=
  ⟨[cs], by simpa using h, (by intro c hc; rw [List.mem_singleton.1 hc]; exact hl), rfl, (by intro i c y h1 h2; cases i with
    | zero => simp at h1 h2; subst h1; subst h2; exact hx
    | succ i => simp at h1)⟩
theorem RdChg.one' {w : World} {A : Nat → Prop} {cs : List Value} {x : Chg} (h : RdChg w A cs x) : ∀ v ∈ cs, v.oneCell' = true := by
  obtain ⟨css, q, h1, h2, h3, h4, h5, h6⟩ := h
  subst h1
  refine all_app' (fun v hv => ?_) h6.one
  obtain ⟨c, hc, hvc⟩ := List.mem_flatten.1 hv
  obtain ⟨i, hi, hci⟩ := List.mem_iff_getElem.1 hc
  have hib : i < x.blocks.length := by omega
  exact (h5 i c x.blocks[i] (by rw [List.getElem?_eq_getElem hi, hci]) (List.getElem?_eq_getElem hib)).one v hvc

attribute [local irreducible] Gl Gc Gx Gs Runs Wt

set_option maxHeartbeats 400000 in
theorem bigTC_ok {w : World} {F : Nat → Prop} {cs : List Value} {x : TC} (h : stars [] w F) (hx : RdTC w (fun k => ¬ F k) cs x) :
    Calls Tryz.prog 48 #[.agg cs.toArray] w (Post w F (fun b : Bool => .bool b) (fun _ => [])) := by
  obtain ⟨a1, n1, c1, rfl, hk1, hd1⟩ := hx
  have hm1 := hd1.max
  simp only [maxLen] at hm1
  refine g_enter (env := [(0, .agg (List.toArray [.int .i64 x.epoch, .int .i64 x.round, .slice a1 n1 c1]))]) Tryz.func48 rfl h Tryz.ntmps48 rfl rfl ?_
  refine gsr ?_
  refine zbN fun b1 => ?_
  refine gp zas ?_
  refine gnt ?_
  refine gc_seq ?_
  refine gsr ?_
  refine gp zfa ?_
  refine gp zl ?_
  refine gp zln ?_
  refine gp zgt ?_
  refine gnt ?_
  refine gif rfl (fun hc8 => ?_) (fun hc8 => ?_)
  · refine gsr ?_
    refine gp zas ?_
    refine gnt ?_
    refine gc_ret ?_
    refine gx_then_ret ?_
    refine gx_ret1 rfl (by conv => lhs; whnf) ?_
    exact ze _
  · refine gc_skip ?_
    refine gx_then ?_
    refine gc_seq ?_
    refine gsr ?_
    refine gp zfa ?_
    refine gp zl ?_
    refine gp zln ?_
    refine gp zmv ?_
    refine gnt ?_
    refine gc_block ?_
    refine gc_loop (α := Nat) (fun k => [pureR (k ≤ n1)]) (fun k => [(12, .int .i64 (k : Int))]) [2, 4, 13, 14, 15, 16, 17, 18, 19] (fun k => n1 - k) 0 ?_ ?_ ?_
    · refine env_start (by kernel_rfl)
    · exact fun w' hw => zlp (Nat.zero_le _) (by repeat (first | exact Sel.nil | (apply Sel.cons; · (repeat (first | exact Pick.here | apply Pick.there))))) w' hw
    · intro k u
      refine gc_pureR (fun hk => ?_)
      replace hk : k ≤ n1 := hk
      refine gsr ?_
      refine gp zlt ?_
      refine gnt ?_
      refine gc_seq ?_
      refine gif rfl (fun hc13 => ?_) (fun hc13 => ?_)
      · have hk' : k < n1 := by (try simp only at hc13); omega
        obtain ⟨g1, o1, cs1, y, ha1, hA1, hg1, hra1, hcl1, hl1, hrd1⟩ := hd1.elem (by decide) hk'
        subst ha1
        obtain ⟨s1, rfl, hs1⟩ := hrd1
        have ls := hs1.len
        refine gc_skip ?_
        refine gx_then ?_
        refine gc_seq ?_
        refine gc_block ?_
        refine gsr ?_
        refine gp (r_indexAddr_slice rfl rfl Ty.sl_54 Ty.sz_179 (by omega) (by omega)) ?_
        refine gp (r_ldNo rfl Ty.row_179 Ty.sz_179 hra1 hcl1 (by decide) hA1) ?_
        refine zal fun b4 => ?_
        refine gl_storeN (wt0 rfl) rfl rfl Ty.sz_179 hcl1 (by repeat (first | exact Pick.here | apply Pick.there)) (by decide) (all_cons' rfl (all_cons' rfl hs1.one)) (updL_all (by rw [hcl1]; rfl)) ?_
        refine gnt ?_
        refine gsr ?_
        refine gp zfa ?_
        refine gp (r_ldN (seg := s1) rfl Ty.row_49 Ty.sz_49 (by repeat (first | exact Pick.here | apply Pick.there)) (by show s1.take 3 = s1; exact List.take_of_length_le (by omega)) ls) ?_
        refine zc (fun r18 => ?_) (c := fun w1 F1 F2 h1 h2 hd hst => bigSig_ok h1 (hs1.mv hst.still))
        refine gnt ?_
        refine gif rfl (fun hc18 => ?_) (fun hc18 => ?_)
        · refine gsr ?_
          refine gp zas ?_
          refine gnt ?_
          refine gc_ret ?_
          refine gx_block_ret ?_
          refine gx_then_ret ?_
          refine gx_round_ret ?_
          refine gx_block_ret ?_
          refine gx_then_ret ?_
          refine gx_ret1 rfl (by conv => lhs; whnf) ?_
          exact ze _
        · refine gc_skip ?_
          refine gx_block_normal ?_
          refine gx_then ?_
          refine gc_region ?_
          refine gp zad ?_
          refine gp zmv ?_
          refine gl_nil ?_
          refine zrd (k + 1) ?_ ?_
          · show n1 - (k + 1) < n1 - k
            omega
          · exact fun w' hw => zlp (show k + 1 ≤ n1 by omega) (by repeat (first | exact Sel.nil | (apply Sel.cons; · (repeat (first | exact Pick.here | apply Pick.there))))) w' hw
      · refine gc_exit ?_
        refine gx_then_exit ?_
        refine gx_round_exit ?_
        refine gx_block_hit ?_
        refine gx_then ?_
        refine gsr ?_
        refine gp zas ?_
        refine gnt ?_
        refine gc_ret ?_
        refine gx_ret1 rfl (by conv => lhs; whnf) ?_
        exact ze _

set_option maxHeartbeats 400000 in
theorem bigChange_ok {w : World} {F : Nat → Prop} {cs : List Value} {x : Chg} (h : stars [] w F) (hx : RdChg w (fun k => ¬ F k) cs x) :
    Calls Tryz.prog 9 #[.agg cs.toArray] w (Post w F (fun b : Bool => .bool b) (fun _ => [])) := by
  obtain ⟨css, q, rfl, hcl, hc3, hb3, hbs, hq⟩ := hx
  have hfl : css.flatten.length = 117 := by rw [flatten_len hcl, hc3]
  have hi := Len.of hfl
  have hj := Len.of hq.len
  refine g_enter (env := [(0, .agg (List.toArray (css.flatten ++ q)))]) Tryz.func9 rfl h Tryz.ntmps9 rfl rfl ?_
  refine gsr ?_
  refine zbN fun b1 => ?_
  refine gp zas ?_
  refine gnt ?_
  refine gc_seq ?_
  refine gsr ?_
  refine gp zfa ?_
  refine gp zL ?_
  refine gp zmv ?_
  refine gnt ?_
  refine gc_block ?_
  refine gc_loop (α := Nat) (fun k => [pureR (k ≤ 3), blk b1 33 (css.flatten ++ q)]) (fun k => [(7, .int .i64 (k : Int))]) [2, 4, 8, 9, 10, 11, 12] (fun k => 3 - k) 0 ?_ ?_ ?_
  · refine env_start (by kernel_rfl)
  · exact fun w' hw => zlp (Nat.zero_le _) (by repeat (first | exact Sel.nil | (apply Sel.cons; · (repeat (first | exact Pick.here | apply Pick.there))))) w' hw
  · intro k u
    refine gc_pureR (fun hk => ?_)
    replace hk : k ≤ 3 := hk
    refine gsr ?_
    refine gp zlt ?_
    refine gnt ?_
    refine gc_seq ?_
    refine gif rfl (fun hc8 => ?_) (fun hc8 => ?_)
    · have hk' : k < 3 := by (try simp only at hc8); omega
      obtain ⟨bc, hbc⟩ : ∃ bc, css[k]? = some bc := ⟨_, List.getElem?_eq_getElem (by omega)⟩
      obtain ⟨xb, hxb⟩ : ∃ xb, x.blocks[k]? = some xb := ⟨_, List.getElem?_eq_getElem (by omega)⟩
      have hB := hbs k bc xb hbc hxb
      have hbl := hB.len
      have il := Len.of hbl
      have jl := One.of hB.one
      refine gc_skip ?_
      refine gx_then ?_
      refine gc_seq ?_
      refine gc_block ?_
      refine gsr ?_
      refine gp (r_indexN (seg := bc) rfl rfl Ty.arr_31 Ty.sz_30 Ty.row_30 (by omega) (by omega) (by rw [show (k : Int).toNat * 39 = k * 39 by omega]; exact flatten_at hcl hbc)) ?_
      refine zal fun b4 => ?_
      refine gl_storeN (wt0 rfl) rfl rfl Ty.sz_30 hbl (by repeat (first | exact Pick.here | apply Pick.there)) (by decide) hB.one (updL_all (by rw [hbl]; rfl)) ?_
      refine gnt ?_
      refine gsr ?_
      refine gp zL ?_
      refine zc (fun r11 => ?_) (c := fun w1 F1 F2 h1 h2 hd hst => bigBlock_ok h1 (hB.mv hst.still))
      refine gnt ?_
      refine gif rfl (fun hc11 => ?_) (fun hc11 => ?_)
      · refine gsr ?_
        refine gp zas ?_
        refine gnt ?_
        refine gc_ret ?_
        refine gx_block_ret ?_
        refine gx_then_ret ?_
        refine gx_round_ret ?_
        refine gx_block_ret ?_
        refine gx_then_ret ?_
        refine gx_ret1 rfl (by conv => lhs; whnf) ?_
        exact ze _
      · refine gc_skip ?_
        refine gx_block_normal ?_
        refine gx_then ?_
        refine gc_region ?_
        refine gp zad ?_
        refine gp zmv ?_
        refine gl_nil ?_
        refine zrd (k + 1) ?_ ?_
        · show 3 - (k + 1) < 3 - k
          omega
        · exact fun w' hw => zlp (show k + 1 ≤ 3 by omega) (by repeat (first | exact Sel.nil | (apply Sel.cons; · (repeat (first | exact Pick.here | apply Pick.there))))) w' hw
    · refine gc_exit ?_
      refine gx_then_exit ?_
      refine gx_round_exit ?_
      refine gx_block_hit ?_
      refine gx_then ?_
      refine gsr ?_
      refine gp zfa ?_
      refine gp zL ?_
      refine zc (fun r15 => ?_) (c := fun w1 F1 F2 h1 h2 hd hst => bigQC_ok h1 (hq.mv hst.still))
      refine gp zas ?_
      refine gnt ?_
      refine gc_ret ?_
      refine gx_ret1 rfl (by conv => lhs; whnf) ?_
      exact ze _

attribute [local irreducible] voteC tmoC propC blkC chgC sgnC tcC qcC dc msgC

set_option maxHeartbeats 400000 in
theorem big_ok {w : World} {F : Nat → Prop} {cs : List Value} {x : Msg} (h : stars [] w F) (hx : RdMsg w (fun k => ¬ F k) cs x) :
    Calls Tryz.prog 15 #[.agg cs.toArray] w (Post w F (fun b : Bool => .bool b) (fun _ => [])) := by
  obtain ⟨cv1, ct1, cp1, br1, cc1, rfl, hv1, ht1, hp1, hbr1, hcc1⟩ := hx
  obtain ⟨sv1, rfl, gv1, rfl, hgv1⟩ := hv1
  obtain ⟨qt1, tt1, st1, rfl, hqt1, htt1, gt1, rfl, hgt1⟩ := ht1
  obtain ⟨bp1, tp1, sp1, rfl, hbp1, htp1, gp1, rfl, hgp1⟩ := hp1
  have ilgv1 := Len.of hgv1.len
  have jlgv1 := One.of hgv1.one
  have ilqt1 := Len.of hqt1.len
  have jlqt1 := One.of hqt1.one
  have iltt1 := Len.of htt1.len
  have jltt1 := One.of htt1.one
  have ilgt1 := Len.of hgt1.len
  have jlgt1 := One.of hgt1.one
  have ilbp1 := Len.of hbp1.len
  have jlbp1 := One.of hbp1.one
  have iltp1 := Len.of htp1.len
  have jltp1 := One.of htp1.one
  have ilgp1 := Len.of hgp1.len
  have jlgp1 := One.of hgp1.one
  have ilbr1 := Len.of hbr1.len
  have jlbr1 := One.of hbr1.one
  have ilcc1 := Len.of hcc1.len
  have jlcc1 := One.of hcc1.one'
  refine g_enter (env := [(0, .agg (List.toArray (.int .i64 x.kind :: ((.int .i64 x.vote.epoch :: .int .i64 x.vote.round :: (dc x.vote.block ++ (.int .i64 x.vote.sender.who :: gv1))) ++ ((.int .i64 x.tmo.epoch :: .int .i64 x.tmo.round :: (qt1 ++ (tt1 ++ (.int .i64 x.tmo.sender.who :: gt1)))) ++ ((bp1 ++ (tp1 ++ (.int .i64 x.prop.sender.who :: gp1))) ++ (dc x.wantFrom ++ (dc x.wantBlock ++ (br1 ++ cc1)))))))))]) Tryz.func15 rfl h Tryz.ntmps15 rfl rfl ?_
  refine gsr ?_
  refine zbN fun b1 => ?_
  refine gp zas ?_
  refine gnt ?_
  refine gsr ?_
  refine gp zfa ?_
  refine gp zfa ?_
  refine gp zfa ?_
  refine gp zL ?_
  refine zc (fun r7 => ?_) (c := fun w1 F1 F2 h1 h2 hd hst => bigSig_ok h1 (hgv1.mv hst.still))
  rcases r7 with _ | _
  · refine gp zmv ?_
    refine gq zfa ?_
    refine gq zfa ?_
    refine gq zL ?_
    refine zc (fun r12 => ?_) (c := fun w1 F1 F2 h1 h2 hd hst => bigQC_ok h1 (hqt1.mv hst.still))
    rcases r12 with _ | _
    · refine gp zpk ?_
      refine gp zmv ?_
      refine gq zfa ?_
      refine gq zfa ?_
      refine gq zL ?_
      refine zc (fun r18 => ?_) (c := fun w1 F1 F2 h1 h2 hd hst => bigTC_ok h1 (htt1.mv hst.still))
      rcases r18 with _ | _
      · refine gp zpk ?_
        refine gp zmv ?_
        refine gq zfa ?_
        refine gq zfa ?_
        refine gq zfa ?_
        refine gq zL ?_
        refine zc (fun r25 => ?_) (c := fun w1 F1 F2 h1 h2 hd hst => bigSig_ok h1 (hgt1.mv hst.still))
        rcases r25 with _ | _
        · refine gp zpk ?_
          refine gp zmv ?_
          refine gq zfa ?_
          refine gq zfa ?_
          refine gq zL ?_
          refine zc (fun r31 => ?_) (c := fun w1 F1 F2 h1 h2 hd hst => bigBlock_ok h1 (hbp1.mv hst.still))
          rcases r31 with _ | _
          · refine gp zpk ?_
            refine gp zmv ?_
            refine gq zfa ?_
            refine gq zfa ?_
            refine gq zL ?_
            refine zc (fun r37 => ?_) (c := fun w1 F1 F2 h1 h2 hd hst => bigTC_ok h1 (htp1.mv hst.still))
            rcases r37 with _ | _
            · refine gp zpk ?_
              refine gp zmv ?_
              refine gq zfa ?_
              refine gq zfa ?_
              refine gq zfa ?_
              refine gq zL ?_
              refine zc (fun r44 => ?_) (c := fun w1 F1 F2 h1 h2 hd hst => bigSig_ok h1 (hgp1.mv hst.still))
              rcases r44 with _ | _
              · refine gp zpk ?_
                refine gp zmv ?_
                refine gq zfa ?_
                refine gq zfa ?_
                refine gq zL ?_
                refine zc (fun r50 => ?_) (c := fun w1 F1 F2 h1 h2 hd hst => bigBlock_ok h1 (hbr1.mv hst.still))
                rcases r50 with _ | _
                · refine gp zpk ?_
                  refine gp zmv ?_
                  refine gq zfa ?_
                  refine gq zL ?_
                  refine zc (fun r55 => ?_) (c := fun w1 F1 F2 h1 h2 hd hst => bigChange_ok h1 (hcc1.mv hst.still))
                  refine gp zpk ?_
                  refine gp zas ?_
                  refine gnt ?_
                  refine gc_ret ?_
                  refine gx_ret1 rfl (by conv => lhs; whnf) ?_
                  exact ze _
                · refine gp zpk ?_
                  refine gp zmv ?_
                  refine gn ?_
                  refine gn ?_
                  refine gn ?_
                  refine gp zpk ?_
                  refine gp zas ?_
                  refine gnt ?_
                  refine gc_ret ?_
                  refine gx_ret1 rfl (by conv => lhs; whnf) ?_
                  exact ze _
              · refine gp zpk ?_
                refine gp zmv ?_
                refine gn ?_
                refine gn ?_
                refine gn ?_
                refine gn ?_
                refine gp zpk ?_
                refine gp zmv ?_
                refine gn ?_
                refine gn ?_
                refine gn ?_
                refine gp zpk ?_
                refine gp zas ?_
                refine gnt ?_
                refine gc_ret ?_
                refine gx_ret1 rfl (by conv => lhs; whnf) ?_
                exact ze _
            · refine gp zpk ?_
              refine gp zmv ?_
              refine gn ?_
              refine gn ?_
              refine gn ?_
              refine gn ?_
              refine gn ?_
              refine gp zpk ?_
              refine gp zmv ?_
              refine gn ?_
              refine gn ?_
              refine gn ?_
              refine gn ?_
              refine gp zpk ?_
              refine gp zmv ?_
              refine gn ?_
              refine gn ?_
              refine gn ?_
              refine gp zpk ?_
              refine gp zas ?_
              refine gnt ?_
              refine gc_ret ?_
              refine gx_ret1 rfl (by conv => lhs; whnf) ?_
              exact ze _
          · refine gp zpk ?_
            refine gp zmv ?_
            refine gn ?_
            refine gn ?_
            refine gn ?_
            refine gn ?_
            refine gp zpk ?_
            refine gp zmv ?_
            refine gn ?_
            refine gn ?_
            refine gn ?_
            refine gn ?_
            refine gn ?_
            refine gp zpk ?_
            refine gp zmv ?_
            refine gn ?_
            refine gn ?_
            refine gn ?_
            refine gn ?_
            refine gp zpk ?_
            refine gp zmv ?_
            refine gn ?_
            refine gn ?_
            refine gn ?_
            refine gp zpk ?_
            refine gp zas ?_
            refine gnt ?_
            refine gc_ret ?_
            refine gx_ret1 rfl (by conv => lhs; whnf) ?_
            exact ze _
        · refine gp zpk ?_
          refine gp zmv ?_
          refine gn ?_
          refine gn ?_
          refine gn ?_
          refine gn ?_
          refine gp zpk ?_
          refine gp zmv ?_
          refine gn ?_
          refine gn ?_
          refine gn ?_
          refine gn ?_
          refine gp zpk ?_
          refine gp zmv ?_
          refine gn ?_
          refine gn ?_
          refine gn ?_
          refine gn ?_
          refine gn ?_
          refine gp zpk ?_
          refine gp zmv ?_
          refine gn ?_
          refine gn ?_
          refine gn ?_
          refine gn ?_
          refine gp zpk ?_
          refine gp zmv ?_
          refine gn ?_
          refine gn ?_
          refine gn ?_
          refine gp zpk ?_
          refine gp zas ?_
          refine gnt ?_
          refine gc_ret ?_
          refine gx_ret1 rfl (by conv => lhs; whnf) ?_
          exact ze _
      · refine gp zpk ?_
        refine gp zmv ?_
        refine gn ?_
        refine gn ?_
        refine gn ?_
        refine gn ?_
        refine gn ?_
        refine gp zpk ?_
        refine gp zmv ?_
        refine gn ?_
        refine gn ?_
        refine gn ?_
        refine gn ?_
        refine gp zpk ?_
        refine gp zmv ?_
        refine gn ?_
        refine gn ?_
        refine gn ?_
        refine gn ?_
        refine gp zpk ?_
        refine gp zmv ?_
        refine gn ?_
        refine gn ?_
        refine gn ?_
        refine gn ?_
        refine gn ?_
        refine gp zpk ?_
        refine gp zmv ?_
        refine gn ?_
        refine gn ?_
        refine gn ?_
        refine gn ?_
        refine gp zpk ?_
        refine gp zmv ?_
        refine gn ?_
        refine gn ?_
        refine gn ?_
        refine gp zpk ?_
        refine gp zas ?_
        refine gnt ?_
        refine gc_ret ?_
        refine gx_ret1 rfl (by conv => lhs; whnf) ?_
        exact ze _
    · refine gp zpk ?_
      refine gp zmv ?_
      refine gn ?_
      refine gn ?_
      refine gn ?_
      refine gn ?_
      refine gp zpk ?_
      refine gp zmv ?_
      refine gn ?_
      refine gn ?_
      refine gn ?_
      refine gn ?_
      refine gn ?_
      refine gp zpk ?_
      refine gp zmv ?_
      refine gn ?_
      refine gn ?_
      refine gn ?_
      refine gn ?_
      refine gp zpk ?_
      refine gp zmv ?_
      refine gn ?_
      refine gn ?_
      refine gn ?_
      refine gn ?_
      refine gp zpk ?_
      refine gp zmv ?_
      refine gn ?_
      refine gn ?_
      refine gn ?_
      refine gn ?_
      refine gn ?_
      refine gp zpk ?_
      refine gp zmv ?_
      refine gn ?_
      refine gn ?_
      refine gn ?_
      refine gn ?_
      refine gp zpk ?_
      refine gp zmv ?_
      refine gn ?_
      refine gn ?_
      refine gn ?_
      refine gp zpk ?_
      refine gp zas ?_
      refine gnt ?_
      refine gc_ret ?_
      refine gx_ret1 rfl (by conv => lhs; whnf) ?_
      exact ze _
  · refine gp zmv ?_
    refine gn ?_
    refine gn ?_
    refine gn ?_
    refine gn ?_
    refine gp zpk ?_
    refine gp zmv ?_
    refine gn ?_
    refine gn ?_
    refine gn ?_
    refine gn ?_
    refine gp zpk ?_
    refine gp zmv ?_
    refine gn ?_
    refine gn ?_
    refine gn ?_
    refine gn ?_
    refine gn ?_
    refine gp zpk ?_
    refine gp zmv ?_
    refine gn ?_
    refine gn ?_
    refine gn ?_
    refine gn ?_
    refine gp zpk ?_
    refine gp zmv ?_
    refine gn ?_
    refine gn ?_
    refine gn ?_
    refine gn ?_
    refine gp zpk ?_
    refine gp zmv ?_
    refine gn ?_
    refine gn ?_
    refine gn ?_
    refine gn ?_
    refine gn ?_
    refine gp zpk ?_
    refine gp zmv ?_
    refine gn ?_
    refine gn ?_
    refine gn ?_
    refine gn ?_
    refine gp zpk ?_
    refine gp zmv ?_
    refine gn ?_
    refine gn ?_
    refine gn ?_
    refine gp zpk ?_
    refine gp zas ?_
    refine gnt ?_
    refine gc_ret ?_
    refine gx_ret1 rfl (by conv => lhs; whnf) ?_
    exact ze _

end Go.Proofs.YtkgbbnhdioghmaaGreatDoor

/- Walks, by program (wg.py) out of a spec. -/
namespace Go.Proofs.YtkgbbnhdioghmaaGreatDoor
open Go
set_option linter.unusedVariables false
set_option linter.unusedSimpArgs false

attribute [local irreducible] Gl Gc Gx Gs Runs Wt

set_option maxHeartbeats 400000 in
theorem change_ok {w : World} {F : Nat → Prop} {g TE : Nat} {ea : Nat → Addr} {s : WS} {cs : List Value} {x : Chg} (h : stars [WrR TE ea g s] w F) {es : List Nat} [Has es 1] (hE : GErr es w (fun k => ¬ F k) TE ea) (hx : RdChg w (fun k => ¬ F k) cs x) (hb : s.bs.length + 33686 ≤ 1099511627776) :
    Calls Tryz.prog 41 #[.agg (List.toArray [.pointer (some ⟨g, 0, none⟩)]), .agg cs.toArray] w (Post w F (fun _ : Unit => .tuple #[]) (fun _ => [WrR TE ea g (wChg x s)])) := by
  obtain ⟨css, q, rfl, hcl, hc3, hb3, hbs, hq⟩ := hx
  have hfl : css.flatten.length = 117 := by rw [flatten_len hcl, hc3]
  have hql := hq.len
  have z_hfl := Len.of hfl
  have z_hql := Len.of hql
  refine g_enter (env := [(0, .agg (List.toArray [.pointer (some ⟨g, 0, none⟩)])), (1, .agg (List.toArray (css.flatten ++ q)))]) Tryz.func41 rfl h Tryz.ntmps41 rfl rfl ?_
  refine gsr ?_
  refine zbN fun b2 => ?_
  refine zbN fun b3 => ?_
  refine gnt ?_
  refine gc_seq ?_
  refine gsr ?_
  refine gp zfa ?_
  refine gp zL ?_
  refine gp zmv ?_
  refine gnt ?_
  refine gc_block ?_
  refine gc_loop (α := Nat) (fun k => [pureR (k ≤ 3), WrR TE ea g ((x.blocks.take k).foldl (fun s b => wBlock b s) s), blk b2 109 [.pointer (some ⟨g, 0, none⟩)], blk b3 33 (css.flatten ++ q)]) (fun k => [(8, .int .i64 (k : Int))]) [5, 9, 10, 11, 12, 13, 14] (fun k => 3 - k) 0 ?_ ?_ ?_
  · refine env_start (by kernel_rfl)
  · rintro w' hw
    obtain ⟨F', hF', hst'⟩ := hw.sel (M := [WrR TE ea g s, blk b2 _ _, blk b3 _ _]) (by repeat (first | exact Sel.nil | (apply Sel.cons; · (repeat (first | exact Pick.here | apply Pick.there)))))
    exact ⟨F', stars_pure_mk (Nat.zero_le _) hF', hst'⟩
  · intro k u
    refine gc_pureR (fun hk => ?_)
    replace hk : k ≤ 3 := hk
    refine gsr ?_
    refine gp zlt ?_
    refine gnt ?_
    refine gc_seq ?_
    refine gif rfl (fun hc9 => ?_) (fun hc9 => ?_)
    · have hk' : k < 3 := by (try simp only at hc9); omega
      obtain ⟨bc, hbc⟩ : ∃ bc, css[k]? = some bc := ⟨_, List.getElem?_eq_getElem (by omega)⟩
      obtain ⟨xb, hxb⟩ : ∃ xb, x.blocks[k]? = some xb := ⟨_, List.getElem?_eq_getElem (by omega)⟩
      have hB := hbs k bc xb hbc hxb
      have hbl := hB.len
      have hfd := foldl_len (c := 8485) (fun b s => wBlock_len b s) (x.blocks.take k) s
      have htl : (x.blocks.take k).length = k := by rw [List.length_take]; omega
      rw [htl] at hfd
      refine gc_skip ?_
      refine gx_then ?_
      refine gc_seq ?_
      refine gc_block ?_
      refine gsr ?_
      refine gp (r_indexN (seg := bc) rfl rfl Ty.arr_31 Ty.sz_30 Ty.row_30 (by omega) (by omega) (by rw [show (k : Int).toNat * 39 = k * 39 by omega]; exact flatten_at hcl hbc)) ?_
      refine zal fun b5 => ?_
      refine gl_storeN (wt0 rfl) rfl rfl Ty.sz_30 hbl (by repeat (first | exact Pick.here | apply Pick.there)) (by decide) hB.one (updL_all (by rw [hbl]; rfl)) ?_
      refine gnt ?_
      refine gc_region ?_
      refine gp zL ?_
      refine gp (r_ldN rfl Ty.row_30 Ty.sz_30 (by repeat (first | exact Pick.here | apply Pick.there)) (seg_all hbl) hbl) ?_
      refine zc (fun _ => ?_) (c := fun w1 F1 F2 h1 h2 hd hst => block_ok h1 (hE.mv hst.still) (hB.mv hst.still) (by omega))
      refine gl_nil ?_
      refine gx_block_normal ?_
      refine gx_then ?_
      refine gc_region ?_
      refine gp zad ?_
      refine gp zmv ?_
      refine gl_nil ?_
      refine zrd (k + 1) ?_ ?_
      · show 3 - (k + 1) < 3 - k
        omega
      · rintro w' hw
        obtain ⟨F', hF', hst'⟩ := hw.sel (M := [WrR TE ea g _, blk b2 _ _, blk b3 _ _]) (by repeat (first | exact Sel.nil | (apply Sel.cons; · (repeat (first | exact Pick.here | apply Pick.there)))))
        refine ⟨F', stars_pure_mk (show k + 1 ≤ 3 by omega) ?_, hst'⟩
        rw [foldl_take_succ _ _ _ hxb]
        exact hF'
    · have hk' : k = x.blocks.length := by (try simp only at hc9); omega
      subst hk'
      have hfd := foldl_len (c := 8485) (fun b s => wBlock_len b s) (x.blocks.take x.blocks.length) s
      rw [List.take_length] at hfd
      refine gc_exit ?_
      refine gx_then_exit ?_
      refine gx_round_exit ?_
      refine gx_block_hit ?_
      refine gx_then ?_
      refine gc_region ?_
      refine gp zL ?_
      refine gp zfa ?_
      refine gp zL ?_
      refine zc (fun _ => ?_) (c := fun w1 F1 F2 h1 h2 hd hst => qc_ok h1 (hE.mv hst.still) (hq.mv hst.still) (by rw [List.take_length]; omega))
      refine gl_nil ?_
      refine gx_ret0' rfl ?_
      rw [List.take_length]
      exact ze ()

set_option maxHeartbeats 400000 in
theorem body1_ok {w : World} {F : Nat → Prop} {g TE : Nat} {ea : Nat → Addr} {s : WS} {cs : List Value} {m : Msg} (h : stars [WrR TE ea g s] w F) {es : List Nat} [Has es 1] (hE : GErr es w (fun k => ¬ F k) TE ea) (hx : RdMsg w (fun k => ¬ F k) cs m) (hk : m.kind = 1) (hb : s.bs.length + 1198 ≤ 1099511627776) :
    Calls Tryz.prog 51 #[.agg (List.toArray [.pointer (some ⟨g, 0, none⟩)]), .agg cs.toArray] w (Post w F (fun _ : Unit => .tuple #[]) (fun _ => [WrR TE ea g (wVote m.vote s)])) := by
  obtain ⟨v, t, p, r, c, rfl, hv, ht, hp, hr, hc⟩ := hx
  have lv := hv.len
  have lt := ht.len
  have lp := hp.len
  have lr := hr.len
  have lc := hc.len
  obtain ⟨sg, rfl, hs⟩ := hv
  have ls := hs.len
  have z_lv := Len.of lv
  have z_lt := Len.of lt
  have z_lp := Len.of lp
  have z_lr := Len.of lr
  have z_lc := Len.of lc
  have z_ls := Len.of ls
  refine g_enter (env := [(0, .agg (List.toArray [.pointer (some ⟨g, 0, none⟩)])), (1, .agg (List.toArray (.int .i64 m.kind :: ((.int .i64 m.vote.epoch :: .int .i64 m.vote.round :: (dc m.vote.block ++ sg)) ++ (t ++ (p ++ (dc m.wantFrom ++ (dc m.wantBlock ++ (r ++ c)))))))))]) Tryz.func51 rfl h Tryz.ntmps51 rfl rfl ?_
  refine gsr ?_
  refine zbN fun b2 => ?_
  refine zbN fun b3 => ?_
  refine gnt ?_
  refine gsr ?_
  refine gp zfa ?_
  refine gp zl ?_
  refine gnt ?_
  refine gc_block ?_
  refine gsr ?_
  refine gp zei ?_
  refine gp zas ?_
  refine gnt ?_
  refine gc_condT rfl (decide_eq_true (by omega)) ?_
  refine gsr ?_
  refine gp zL ?_
  refine gp zfa ?_
  refine gp zfa ?_
  refine gp zl ?_
  refine gp zfa ?_
  refine gp zfa ?_
  refine gp zl ?_
  refine zc (fun _ => ?_) (c := fun w1 F1 F2 h1 h2 hd hst => at_ok h1 (hE.mv hst.still) (by omega))
  refine gnt ?_
  refine gsr ?_
  refine gp zL ?_
  refine gp zfa ?_
  refine gp zfa ?_
  refine gp zL ?_
  refine zc (fun _ => ?_) (c := fun w1 F1 F2 h1 h2 hd hst => digest_ok h1 (hE.mv hst.still) (by have e0 := wAt_len m.vote.epoch m.vote.round s; omega))
  refine gnt ?_
  refine gc_region ?_
  refine gp zL ?_
  refine gp zfa ?_
  refine gp zfa ?_
  refine gp zL ?_
  refine zc (fun _ => ?_) (c := fun w1 F1 F2 h1 h2 hd hst => signed_ok h1 (hE.mv hst.still) (hs.mv hst.still) (by have e0 := wAt_len m.vote.epoch m.vote.round s; have e1 := wDig_len m.vote.block (wAt m.vote.epoch m.vote.round s); omega))
  refine gl_nil ?_
  refine gx_block_normal ?_
  refine gx_ret0' rfl ?_
  exact ze ()

set_option maxHeartbeats 400000 in
theorem body2_ok {w : World} {F : Nat → Prop} {g TE : Nat} {ea : Nat → Addr} {s : WS} {cs : List Value} {m : Msg} (h : stars [WrR TE ea g s] w F) {es : List Nat} [Has es 1] (hE : GErr es w (fun k => ¬ F k) TE ea) (hx : RdMsg w (fun k => ¬ F k) cs m) (hk : m.kind = 2) (hb : s.bs.length + 17670 ≤ 1099511627776) :
    Calls Tryz.prog 51 #[.agg (List.toArray [.pointer (some ⟨g, 0, none⟩)]), .agg cs.toArray] w (Post w F (fun _ : Unit => .tuple #[]) (fun _ => [WrR TE ea g (wTmo m.tmo s)])) := by
  obtain ⟨v, t, p, r, c, rfl, hv, ht, hp, hr, hc⟩ := hx
  have lv := hv.len
  have lt := ht.len
  have lp := hp.len
  have lr := hr.len
  have lc := hc.len
  obtain ⟨q, tc, sg, rfl, hq, htc, hs⟩ := ht
  have ls := hs.len
  have lq := hq.len
  have ltc := htc.len
  have z_lv := Len.of lv
  have z_lt := Len.of lt
  have z_lp := Len.of lp
  have z_lr := Len.of lr
  have z_lc := Len.of lc
  have z_ls := Len.of ls
  have z_lq := Len.of lq
  have z_ltc := Len.of ltc
  refine g_enter (env := [(0, .agg (List.toArray [.pointer (some ⟨g, 0, none⟩)])), (1, .agg (List.toArray (.int .i64 m.kind :: (v ++ ((.int .i64 m.tmo.epoch :: .int .i64 m.tmo.round :: (q ++ (tc ++ sg))) ++ (p ++ (dc m.wantFrom ++ (dc m.wantBlock ++ (r ++ c)))))))))]) Tryz.func51 rfl h Tryz.ntmps51 rfl rfl ?_
  refine gsr ?_
  refine zbN fun b2 => ?_
  refine zbN fun b3 => ?_
  refine gnt ?_
  refine gsr ?_
  refine gp zfa ?_
  refine gp zl ?_
  refine gnt ?_
  refine gc_block ?_
  refine gsr ?_
  refine gp zei ?_
  refine gp zas ?_
  refine gnt ?_
  refine gc_condF rfl (decide_eq_false (by omega)) ?_
  refine gsr ?_
  refine gp zei ?_
  refine gp zas ?_
  refine gnt ?_
  refine gc_condT rfl (decide_eq_true (by omega)) ?_
  refine gsr ?_
  refine gp zL ?_
  refine gp zfa ?_
  refine gp zfa ?_
  refine gp zl ?_
  refine gp zfa ?_
  refine gp zfa ?_
  refine gp zl ?_
  refine zc (fun _ => ?_) (c := fun w1 F1 F2 h1 h2 hd hst => at_ok h1 (hE.mv hst.still) (by omega))
  refine gnt ?_
  refine gsr ?_
  refine gp zL ?_
  refine gp zfa ?_
  refine gp zfa ?_
  refine gp zL ?_
  refine zc (fun _ => ?_) (c := fun w1 F1 F2 h1 h2 hd hst => qc_ok h1 (hE.mv hst.still) (hq.mv hst.still) (by have e0 := wAt_len m.tmo.epoch m.tmo.round s; omega))
  refine gnt ?_
  refine gsr ?_
  refine gp zL ?_
  refine gp zfa ?_
  refine gp zfa ?_
  refine gp zL ?_
  refine zc (fun _ => ?_) (c := fun w1 F1 F2 h1 h2 hd hst => tc_ok h1 (hE.mv hst.still) (htc.mv hst.still) (by have e0 := wAt_len m.tmo.epoch m.tmo.round s; have e1 := wQC_len m.tmo.high (wAt m.tmo.epoch m.tmo.round s); omega))
  refine gnt ?_
  refine gc_region ?_
  refine gp zL ?_
  refine gp zfa ?_
  refine gp zfa ?_
  refine gp zL ?_
  refine zc (fun _ => ?_) (c := fun w1 F1 F2 h1 h2 hd hst => signed_ok h1 (hE.mv hst.still) (hs.mv hst.still) (by have e0 := wAt_len m.tmo.epoch m.tmo.round s; have e1 := wQC_len m.tmo.high (wAt m.tmo.epoch m.tmo.round s); have e2 := wTC_len m.tmo.last (wQC m.tmo.high (wAt m.tmo.epoch m.tmo.round s)); omega))
  refine gl_nil ?_
  refine gx_block_normal ?_
  refine gx_ret0' rfl ?_
  exact ze ()

set_option maxHeartbeats 400000 in
theorem body3_ok {w : World} {F : Nat → Prop} {g TE : Nat} {ea : Nat → Addr} {s : WS} {cs : List Value} {m : Msg} (h : stars [WrR TE ea g s] w F) {es : List Nat} [Has es 1] (hE : GErr es w (fun k => ¬ F k) TE ea) (hx : RdMsg w (fun k => ¬ F k) cs m) (hk : m.kind = 3) (hb : s.bs.length + 17914 ≤ 1099511627776) :
    Calls Tryz.prog 51 #[.agg (List.toArray [.pointer (some ⟨g, 0, none⟩)]), .agg cs.toArray] w (Post w F (fun _ : Unit => .tuple #[]) (fun _ => [WrR TE ea g (wProp m.prop s)])) := by
  obtain ⟨v, t, p, r, c, rfl, hv, ht, hp, hr, hc⟩ := hx
  have lv := hv.len
  have lt := ht.len
  have lp := hp.len
  have lr := hr.len
  have lc := hc.len
  obtain ⟨bc, tc, sg, rfl, hbc, htc, hs⟩ := hp
  have ls := hs.len
  have lb := hbc.len
  have ltc := htc.len
  have z_lv := Len.of lv
  have z_lt := Len.of lt
  have z_lp := Len.of lp
  have z_lr := Len.of lr
  have z_lc := Len.of lc
  have z_ls := Len.of ls
  have z_lb := Len.of lb
  have z_ltc := Len.of ltc
  refine g_enter (env := [(0, .agg (List.toArray [.pointer (some ⟨g, 0, none⟩)])), (1, .agg (List.toArray (.int .i64 m.kind :: (v ++ (t ++ ((bc ++ (tc ++ sg)) ++ (dc m.wantFrom ++ (dc m.wantBlock ++ (r ++ c)))))))))]) Tryz.func51 rfl h Tryz.ntmps51 rfl rfl ?_
  refine gsr ?_
  refine zbN fun b2 => ?_
  refine zbN fun b3 => ?_
  refine gnt ?_
  refine gsr ?_
  refine gp zfa ?_
  refine gp zl ?_
  refine gnt ?_
  refine gc_block ?_
  refine gsr ?_
  refine gp zei ?_
  refine gp zas ?_
  refine gnt ?_
  refine gc_condF rfl (decide_eq_false (by omega)) ?_
  refine gsr ?_
  refine gp zei ?_
  refine gp zas ?_
  refine gnt ?_
  refine gc_condF rfl (decide_eq_false (by omega)) ?_
  refine gsr ?_
  refine gp zei ?_
  refine gp zas ?_
  refine gnt ?_
  refine gc_condT rfl (decide_eq_true (by omega)) ?_
  refine gsr ?_
  refine gp zL ?_
  refine gp zfa ?_
  refine gp zfa ?_
  refine gp zL ?_
  refine zc (fun _ => ?_) (c := fun w1 F1 F2 h1 h2 hd hst => block_ok h1 (hE.mv hst.still) (hbc.mv hst.still) (by omega))
  refine gnt ?_
  refine gsr ?_
  refine gp zL ?_
  refine gp zfa ?_
  refine gp zfa ?_
  refine gp zL ?_
  refine zc (fun _ => ?_) (c := fun w1 F1 F2 h1 h2 hd hst => tc_ok h1 (hE.mv hst.still) (htc.mv hst.still) (by have e0 := wBlock_len m.prop.block s; omega))
  refine gnt ?_
  refine gc_region ?_
  refine gp zL ?_
  refine gp zfa ?_
  refine gp zfa ?_
  refine gp zL ?_
  refine zc (fun _ => ?_) (c := fun w1 F1 F2 h1 h2 hd hst => signed_ok h1 (hE.mv hst.still) (hs.mv hst.still) (by have e0 := wBlock_len m.prop.block s; have e1 := wTC_len m.prop.last (wBlock m.prop.block s); omega))
  refine gl_nil ?_
  refine gx_block_normal ?_
  refine gx_ret0' rfl ?_
  exact ze ()

set_option maxHeartbeats 400000 in
theorem body4_ok {w : World} {F : Nat → Prop} {g TE : Nat} {ea : Nat → Addr} {s : WS} {cs : List Value} {m : Msg} (h : stars [WrR TE ea g s] w F) {es : List Nat} [Has es 1] (hE : GErr es w (fun k => ¬ F k) TE ea) (hx : RdMsg w (fun k => ¬ F k) cs m) (hk : m.kind = 4) (hb : s.bs.length + 32 ≤ 1099511627776) :
    Calls Tryz.prog 51 #[.agg (List.toArray [.pointer (some ⟨g, 0, none⟩)]), .agg cs.toArray] w (Post w F (fun _ : Unit => .tuple #[]) (fun _ => [WrR TE ea g (wDig m.wantBlock (wDig m.wantFrom s))])) := by
  obtain ⟨v, t, p, r, c, rfl, hv, ht, hp, hr, hc⟩ := hx
  have lv := hv.len
  have lt := ht.len
  have lp := hp.len
  have lr := hr.len
  have lc := hc.len
  have z_lv := Len.of lv
  have z_lt := Len.of lt
  have z_lp := Len.of lp
  have z_lr := Len.of lr
  have z_lc := Len.of lc
  refine g_enter (env := [(0, .agg (List.toArray [.pointer (some ⟨g, 0, none⟩)])), (1, .agg (List.toArray (.int .i64 m.kind :: (v ++ (t ++ (p ++ (dc m.wantFrom ++ (dc m.wantBlock ++ (r ++ c)))))))))]) Tryz.func51 rfl h Tryz.ntmps51 rfl rfl ?_
  refine gsr ?_
  refine zbN fun b2 => ?_
  refine zbN fun b3 => ?_
  refine gnt ?_
  refine gsr ?_
  refine gp zfa ?_
  refine gp zl ?_
  refine gnt ?_
  refine gc_block ?_
  refine gsr ?_
  refine gp zei ?_
  refine gp zas ?_
  refine gnt ?_
  refine gc_condF rfl (decide_eq_false (by omega)) ?_
  refine gsr ?_
  refine gp zei ?_
  refine gp zas ?_
  refine gnt ?_
  refine gc_condF rfl (decide_eq_false (by omega)) ?_
  refine gsr ?_
  refine gp zei ?_
  refine gp zas ?_
  refine gnt ?_
  refine gc_condF rfl (decide_eq_false (by omega)) ?_
  refine gsr ?_
  refine gp zei ?_
  refine gp zas ?_
  refine gnt ?_
  refine gc_condT rfl (decide_eq_true (by omega)) ?_
  refine gsr ?_
  refine gp zL ?_
  refine gp zfa ?_
  refine gp zfa ?_
  refine gp zL ?_
  refine zc (fun _ => ?_) (c := fun w1 F1 F2 h1 h2 hd hst => digest_ok h1 (hE.mv hst.still) (by omega))
  refine gnt ?_
  refine gc_region ?_
  refine gp zL ?_
  refine gp zfa ?_
  refine gp zfa ?_
  refine gp zL ?_
  refine zc (fun _ => ?_) (c := fun w1 F1 F2 h1 h2 hd hst => digest_ok h1 (hE.mv hst.still) (by have e0 := wDig_len m.wantFrom s; omega))
  refine gl_nil ?_
  refine gx_block_normal ?_
  refine gx_ret0' rfl ?_
  exact ze ()

set_option maxHeartbeats 400000 in
theorem body5_ok {w : World} {F : Nat → Prop} {g TE : Nat} {ea : Nat → Addr} {s : WS} {cs : List Value} {m : Msg} (h : stars [WrR TE ea g s] w F) {es : List Nat} [Has es 1] (hE : GErr es w (fun k => ¬ F k) TE ea) (hx : RdMsg w (fun k => ¬ F k) cs m) (hk : m.kind = 5) (hb : s.bs.length + 8485 ≤ 1099511627776) :
    Calls Tryz.prog 51 #[.agg (List.toArray [.pointer (some ⟨g, 0, none⟩)]), .agg cs.toArray] w (Post w F (fun _ : Unit => .tuple #[]) (fun _ => [WrR TE ea g (wBlock m.reply s)])) := by
  obtain ⟨v, t, p, r, c, rfl, hv, ht, hp, hr, hc⟩ := hx
  have lv := hv.len
  have lt := ht.len
  have lp := hp.len
  have lr := hr.len
  have lc := hc.len
  have z_lv := Len.of lv
  have z_lt := Len.of lt
  have z_lp := Len.of lp
  have z_lr := Len.of lr
  have z_lc := Len.of lc
  refine g_enter (env := [(0, .agg (List.toArray [.pointer (some ⟨g, 0, none⟩)])), (1, .agg (List.toArray (.int .i64 m.kind :: (v ++ (t ++ (p ++ (dc m.wantFrom ++ (dc m.wantBlock ++ (r ++ c)))))))))]) Tryz.func51 rfl h Tryz.ntmps51 rfl rfl ?_
  refine gsr ?_
  refine zbN fun b2 => ?_
  refine zbN fun b3 => ?_
  refine gnt ?_
  refine gsr ?_
  refine gp zfa ?_
  refine gp zl ?_
  refine gnt ?_
  refine gc_block ?_
  refine gsr ?_
  refine gp zei ?_
  refine gp zas ?_
  refine gnt ?_
  refine gc_condF rfl (decide_eq_false (by omega)) ?_
  refine gsr ?_
  refine gp zei ?_
  refine gp zas ?_
  refine gnt ?_
  refine gc_condF rfl (decide_eq_false (by omega)) ?_
  refine gsr ?_
  refine gp zei ?_
  refine gp zas ?_
  refine gnt ?_
  refine gc_condF rfl (decide_eq_false (by omega)) ?_
  refine gsr ?_
  refine gp zei ?_
  refine gp zas ?_
  refine gnt ?_
  refine gc_condF rfl (decide_eq_false (by omega)) ?_
  refine gsr ?_
  refine gp zei ?_
  refine gp zas ?_
  refine gnt ?_
  refine gc_condT rfl (decide_eq_true (by omega)) ?_
  refine gc_region ?_
  refine gp zL ?_
  refine gp zfa ?_
  refine gp zfa ?_
  refine gp zL ?_
  refine zc (fun _ => ?_) (c := fun w1 F1 F2 h1 h2 hd hst => block_ok h1 (hE.mv hst.still) (hr.mv hst.still) hb)
  refine gl_nil ?_
  refine gx_block_normal ?_
  refine gx_ret0' rfl ?_
  exact ze ()

set_option maxHeartbeats 400000 in
theorem body6_ok {w : World} {F : Nat → Prop} {g TE : Nat} {ea : Nat → Addr} {s : WS} {cs : List Value} {m : Msg} (h : stars [WrR TE ea g s] w F) {es : List Nat} [Has es 1] (hE : GErr es w (fun k => ¬ F k) TE ea) (hx : RdMsg w (fun k => ¬ F k) cs m) (hk : m.kind = 6) (hb : s.bs.length + 33686 ≤ 1099511627776) :
    Calls Tryz.prog 51 #[.agg (List.toArray [.pointer (some ⟨g, 0, none⟩)]), .agg cs.toArray] w (Post w F (fun _ : Unit => .tuple #[]) (fun _ => [WrR TE ea g (wChg m.chg s)])) := by
  obtain ⟨v, t, p, r, c, rfl, hv, ht, hp, hr, hc⟩ := hx
  have lv := hv.len
  have lt := ht.len
  have lp := hp.len
  have lr := hr.len
  have lc := hc.len
  have z_lv := Len.of lv
  have z_lt := Len.of lt
  have z_lp := Len.of lp
  have z_lr := Len.of lr
  have z_lc := Len.of lc
  refine g_enter (env := [(0, .agg (List.toArray [.pointer (some ⟨g, 0, none⟩)])), (1, .agg (List.toArray (.int .i64 m.kind :: (v ++ (t ++ (p ++ (dc m.wantFrom ++ (dc m.wantBlock ++ (r ++ c)))))))))]) Tryz.func51 rfl h Tryz.ntmps51 rfl rfl ?_
  refine gsr ?_
  refine zbN fun b2 => ?_
  refine zbN fun b3 => ?_
  refine gnt ?_
  refine gsr ?_
  refine gp zfa ?_
  refine gp zl ?_
  refine gnt ?_
  refine gc_block ?_
  refine gsr ?_
  refine gp zei ?_
  refine gp zas ?_
  refine gnt ?_
  refine gc_condF rfl (decide_eq_false (by omega)) ?_
  refine gsr ?_
  refine gp zei ?_
  refine gp zas ?_
  refine gnt ?_
  refine gc_condF rfl (decide_eq_false (by omega)) ?_
  refine gsr ?_
  refine gp zei ?_
  refine gp zas ?_
  refine gnt ?_
  refine gc_condF rfl (decide_eq_false (by omega)) ?_
  refine gsr ?_
  refine gp zei ?_
  refine gp zas ?_
  refine gnt ?_
  refine gc_condF rfl (decide_eq_false (by omega)) ?_
  refine gsr ?_
  refine gp zei ?_
  refine gp zas ?_
  refine gnt ?_
  refine gc_condF rfl (decide_eq_false (by omega)) ?_
  refine gsr ?_
  refine gp zei ?_
  refine gp zas ?_
  refine gnt ?_
  refine gc_condT rfl (decide_eq_true (by omega)) ?_
  refine gc_region ?_
  refine gp zL ?_
  refine gp zfa ?_
  refine gp zL ?_
  refine zc (fun _ => ?_) (c := fun w1 F1 F2 h1 h2 hd hst => change_ok h1 (hE.mv hst.still) (hc.mv hst.still) hb)
  refine gl_nil ?_
  refine gx_block_normal ?_
  refine gx_ret0' rfl ?_
  exact ze ()


theorem body_ok {w : World} {F : Nat → Prop} {g TE : Nat} {ea : Nat → Addr} {s : WS} {cs : List Value} {m : Msg} (h : stars [WrR TE ea g s] w F) {es : List Nat} [Has es 1] (hE : GErr es w (fun k => ¬ F k) TE ea) (hx : RdMsg w (fun k => ¬ F k) cs m) (h1 : 1 ≤ m.kind) (h6 : m.kind ≤ 6) (hb : s.bs.length + 33686 ≤ 1099511627776) :
    Calls Tryz.prog 51 #[.agg (List.toArray [.pointer (some ⟨g, 0, none⟩)]), .agg cs.toArray] w (Post w F (fun _ : Unit => .tuple #[]) (fun _ => [WrR TE ea g (wBody m s)])) := by
  unfold wBody
  by_cases k1 : m.kind = 1
  · rw [if_pos k1]; exact body1_ok h hE hx k1 (by omega)
  rw [if_neg k1]
  by_cases k2 : m.kind = 2
  · rw [if_pos k2]; exact body2_ok h hE hx k2 (by omega)
  rw [if_neg k2]
  by_cases k3 : m.kind = 3
  · rw [if_pos k3]; exact body3_ok h hE hx k3 (by omega)
  rw [if_neg k3]
  by_cases k4 : m.kind = 4
  · rw [if_pos k4]; exact body4_ok h hE hx k4 (by omega)
  rw [if_neg k4]
  by_cases k5 : m.kind = 5
  · rw [if_pos k5]; exact body5_ok h hE hx k5 (by omega)
  rw [if_neg k5]
  exact body6_ok h hE hx (by omega) hb

end Go.Proofs.YtkgbbnhdioghmaaGreatDoor

