/- Walks, by program (wg.py) out of a spec. -/
import Derived.Test.YtapcnajfbippmaaDoorDc
namespace Go.Proofs.YtapcnajfbippmaaDoor
open Go
set_option linter.unusedVariables false
set_option linter.unusedSimpArgs false

attribute [local irreducible] Gl Gc Gx Gs Runs Wt

set_option maxHeartbeats 400000 in
theorem diskLast_ok {w : World} {F : Nat → Prop} {nl nk : Nat} {ls : List UInt8} {kb : List Bool} {sy : Bool} (h : stars [] w F) {ea : Nat → Addr} {es : List Nat} [Has es 1] [Has es 6] (hE : GErr es w (fun k => ¬ F k) 109 ea) {al : Option Addr} {cl : Nat} (hl : RdRow w (fun k => ¬ F k) 1 al nl (ls.map B8)) {ak : Option Addr} {ck : Nat} (hkk : RdRow w (fun k => ¬ F k) 1 ak nk (kb.map Value.bool)) :
    Calls Tryd.prog 4 #[.slice al nl cl, .bool sy, .slice ak nk ck] w (Post w F (fun _ : Unit => .bool true) (fun _ => [])) := by
  have hnl : nl = ls.length := by have := hl.1; simp at this; omega
  have hnk : nk = kb.length := by have := hkk.1; simp at this; omega
  refine g_enter (env := [(0, .slice al nl cl), (1, .bool sy), (2, .slice ak nk ck)]) Tryd.func4 rfl h Tryd.ntmps4 rfl rfl ?_
  refine gsr ?_
  refine gp zas ?_
  refine gnt ?_
  refine gc_seq ?_
  refine gsr ?_
  refine zc (fun _ => ?_) (c := fun w1 F1 F2 h1 h2 hd hst => alive06_ok h1 (hE.mv hst.still))
  refine gp znt ?_
  refine gnt ?_
  refine gc_condF rfl rfl ?_
  refine gc_skip ?_
  refine gx_then ?_
  refine gc_seq ?_
  refine gc_seq ?_
  by_cases hg1 : nl < 1
  · refine gc_region ?_
    refine gp zmv ?_
    refine gp zln ?_
    refine gp (r_bool (c := true) zlt (decide_eq_true (by omega))) ?_
    refine gp zmv ?_
    refine gn ?_
    refine gn ?_
    refine gn ?_
    refine gp zpk ?_
    refine gp zmv ?_
    refine gn ?_
    refine gn ?_
    refine gn ?_
    refine gp zpk ?_
    refine gnt ?_
    refine gc_condT rfl rfl ?_
    refine gsr ?_
    refine gp zas ?_
    refine gnt ?_
    refine gc_ret ?_
    refine gx_then_ret ?_
    refine gx_ret1 rfl (by conv => lhs; whnf) ?_
    exact ze ()
  · by_cases hg2 : 60 < nl
    · refine gc_region ?_
      refine gp zmv ?_
      refine gp zln ?_
      refine gp (r_bool (c := false) zlt (decide_eq_false (by omega))) ?_
      refine gp zmv ?_
      refine gq zmv ?_
      refine gq zln ?_
      refine gq (r_bool (c := true) zgt (decide_eq_true (by omega))) ?_
      refine gp zpk ?_
      refine gp zmv ?_
      refine gn ?_
      refine gn ?_
      refine gn ?_
      refine gp zpk ?_
      refine gnt ?_
      refine gc_condT rfl rfl ?_
      refine gsr ?_
      refine gp zas ?_
      refine gnt ?_
      refine gc_ret ?_
      refine gx_then_ret ?_
      refine gx_ret1 rfl (by conv => lhs; whnf) ?_
      exact ze ()
    · refine gc_region ?_
      refine gp zmv ?_
      refine gp zln ?_
      refine gp (r_bool (c := false) zlt (decide_eq_false (by omega))) ?_
      refine gp zmv ?_
      refine gq zmv ?_
      refine gq zln ?_
      refine gq (r_bool (c := false) zgt (decide_eq_false (by omega))) ?_
      refine gp zpk ?_
      refine gp zmv ?_
      refine gq zmv ?_
      refine gq zln ?_
      refine gq zgt ?_
      refine gp zpk ?_
      refine gnt ?_
      refine gif rfl (fun hc32 => ?_) (fun hc32 => ?_)
      · refine gsr ?_
        refine gp zas ?_
        refine gnt ?_
        refine gc_ret ?_
        refine gx_then_ret ?_
        refine gx_ret1 rfl (by conv => lhs; whnf) ?_
        exact ze ()
      · try simp only at hc32
        obtain ⟨gl, ol, hal, hAl, _, _⟩ := hl.2.2 (by omega)
        subst hal
        refine gc_skip ?_
        refine gx_then ?_
        refine gsr ?_
        refine zc (fun g34 => ?_) (c := fun w1 F1 F2 h1 h2 hd hst => new_ok (n := 3) (ea := ea) h1 (by decide) (by decide))
        rw [dL_zero ls]
        refine gp zmv ?_
        refine gp zex ?_
        refine gp zex ?_
        refine gp zas ?_
        refine gp zas ?_
        refine gnt ?_
        refine gc_seq ?_
        refine gsr ?_
        refine gp zmv ?_
        refine gp (r_bool (c := false) (r_nenil rfl (by kernel_rfl)) rfl) ?_
        refine gnt ?_
        refine gc_condF rfl rfl ?_
        refine gc_skip ?_
        refine gx_then ?_
        refine gc_seq ?_
        refine gsr ?_
        refine gp zmv ?_
        refine gp zln ?_
        refine gp zmv ?_
        refine gnt ?_
        refine gc_block ?_
        refine gc_loop (α := Nat) (fun k => [pureR (k ≤ nl), DiskR g34 (dL ls k)]) (fun k => [(41, .int .i64 (k : Int))]) [6, 10, 11, 12, 42, 43, 44, 45, 46, 47, 48, 49, 50, 51, 52, 53, 54, 55, 56, 57, 58, 59, 60, 61, 62, 63] (fun k => nl - k) 0 ?_ ?_ ?_
        · refine env_start (by kernel_rfl)
        · exact zlp (Nat.zero_le _)
        · intro k u
          refine gc_pureR (fun hk => ?_)
          replace hk : k ≤ nl := hk
          refine gsr ?_
          refine gp zlt ?_
          refine gnt ?_
          refine gc_seq ?_
          refine gif rfl (fun hc42 => ?_) (fun hc42 => ?_)
          · try simp only at hc42
            have hk' : k < nl := by omega
            refine gc_skip ?_
            refine gx_then ?_
            refine gc_seq ?_
            refine gc_block ?_
            refine gsr ?_
            refine gp zia ?_
            refine gp (r_ld1o rfl Ty.row_5 (hl.cellV hk' 0).1 (hl.cellV hk' 0).2) ?_
            refine gp zas ?_
            refine gnt ?_
            refine gc_seq ?_
            refine gsr ?_
            refine gp zmv ?_
            refine gp zmv ?_
            refine gp (zba (cs := sc (secOf (ls.getD k 0))) (by exact rfl)) ?_
            refine zc (fun _ => ?_) (c := fun w1 F1 F2 h1 h2 hd hst => write_ok' (i := 1) (v := secOf (ls.getD k 0)) h1 (dL_ok ls k) (hE.mv hst.still))
            rw [dL_wr]
            refine gp (r_bool (c := false) (r_nenil rfl (by kernel_rfl)) rfl) ?_
            refine gnt ?_
            refine gc_condF rfl rfl ?_
            refine gc_skip ?_
            refine gx_then ?_
            refine gsr ?_
            refine gp zmv ?_
            refine zc (fun _ => ?_) (c := fun w1 F1 F2 h1 h2 hd hst => read_ok (i := 1) h1 (hE.mv hst.still))
            rw [dL_rd]
            refine gp zmv ?_
            refine gp zex ?_
            refine gp zex ?_
            refine zal fun b11 => ?_
            refine zsA (new := sc (secOf (ls.getD k 0))) (sc_length _) (sc_one _) ?_
            refine gp zas ?_
            refine gnt ?_
            refine gsr ?_
            refine gp zmv ?_
            refine gp (r_bool (c := false) (r_nenil rfl (by kernel_rfl)) rfl) ?_
            refine gp zmv ?_
            refine gq zib ?_
            refine gq (zl (v := B8 (secOf (ls.getD k 0)).b) (hv := sc_zero _)) ?_
            refine gq zmv ?_
            refine gq (r_bool (c := false) zni (by simp [secOf, Sec.b])) ?_
            refine gp zpk ?_
            refine gnt ?_
            refine gc_condF rfl rfl ?_
            refine gc_skip ?_
            refine gx_block_normal ?_
            refine gx_then ?_
            refine gc_region ?_
            refine gp zad ?_
            refine gp zmv ?_
            refine gl_nil ?_
            refine zrd (k + 1) ?_ ?_
            · show nl - (k + 1) < nl - k
              omega
            · exact zlp (show k + 1 ≤ nl by omega)
          · try simp only at hc42
            have hk' : k = nl := by omega
            rw [hk', hnl]
            refine gc_exit ?_
            refine gx_then_exit ?_
            refine gx_round_exit ?_
            refine gx_block_hit ?_
            refine gx_then ?_
            refine gc_seq ?_
            refine gc_seq ?_
            by_cases hsy : sy = true
            · refine gc_region ?_
              refine gp zmv ?_
              refine gp (r_bool (c := true) (zmv rfl) hsy) ?_
              refine gq zmv ?_
              refine zc (fun _ => ?_) (c := fun w1 F1 F2 h1 h2 hd hst => sync_ok' (d := dL ls ls.length) h1 (dL_ok _ _) (hE.mv hst.still))
              rw [dL_err, show (dL ls ls.length).syncd = dS sy ls from (if_pos hsy).symm]
              refine gq (r_bool (c := false) (r_nenil rfl (by kernel_rfl)) rfl) ?_
              refine gp zpk ?_
              refine gnt ?_
              refine gc_condF rfl rfl ?_
              refine gc_skip ?_
              refine gx_then ?_
              refine gsr ?_
              refine gp zmv ?_
              refine gp zmv ?_
              refine zc (fun _ => ?_) (c := fun w1 F1 F2 h1 h2 hd hst => crash_ok' (d := dS sy ls) (kb := kb) h1 (dS_ok _ _) (hkk.mv hst.still))
              refine gnt ?_
              refine gsr ?_
              refine gp zas ?_
              refine gnt ?_
              refine gc_seq ?_
              refine gc_seq ?_
              by_cases hsy2 : sy = true
              · have hS : lastS sy kb ls = secOf (ls.getD (ls.length - 1) 0) := if_pos (.inl hsy2)
                refine gc_region ?_
                refine gp zmv ?_
                refine gp (r_bool (c := true) (zmv rfl) hsy2) ?_
                refine gn ?_
                refine gn ?_
                refine gn ?_
                refine gn ?_
                refine gn ?_
                refine gn ?_
                refine gn ?_
                refine gn ?_
                refine gp zpk ?_
                refine gnt ?_
                refine gc_condT rfl rfl ?_
                refine gc_region ?_
                refine gp zmv ?_
                refine gp zmv ?_
                refine gp zln ?_
                refine gp (r_int (j := ((nl - 1 : Nat) : Int)) zsb (by omega)) ?_
                refine gp zia ?_
                refine gp (r_ld1o (v := B8 (ls.getD (ls.length - 1) 0)) rfl Ty.row_5 (by rw [← hnl]; exact (hl.cellV (i := nl - 1) (by omega) 0).1) hAl) ?_
                refine gp zas ?_
                refine gnt ?_
                refine gsr ?_
                refine gp zmv ?_
                refine zc (fun _ => ?_) (c := fun w1 F1 F2 h1 h2 hd hst => read_ok (i := 1) h1 (hE.mv hst.still))
                rw [dS_rd sy (show 1 ≤ ls.length by omega)]
                refine gp zmv ?_
                refine gp zex ?_
                refine gp zex ?_
                refine zal fun b14 => ?_
                refine zsA (new := sc (lastS sy kb ls)) (sc_length _) (sc_one _) ?_
                refine gp zas ?_
                refine gnt ?_
                refine gsr ?_
                refine gp zmv ?_
                refine gl_bsls (vs := [.bool true, .bool true, .bool true]) (wt0 rfl) Ty.sl_23 Ty.sz_4 Ty.zc_4 rfl rfl (by decide) rfl rfl rfl ?_
                intro b96
                refine zc (fun _ => ?_) (c := fun w1 F1 F2 h1 h2 hd hst => crash_ok' (d := (dS sy ls).crash kb) (kb := [true, true, true]) h1 (crash_ok (dS_ok _ _)) (rd_row (xs := [.bool true, .bool true, .bool true]) h2 hd (by repeat (first | exact Pick.here | apply Pick.there))))
                refine gnt ?_
                refine gsr ?_
                refine gp zmv ?_
                refine zc (fun _ => ?_) (c := fun w1 F1 F2 h1 h2 hd hst => read_ok (i := 1) h1 (hE.mv hst.still))
                rw [dS_rd2 sy (show 1 ≤ ls.length by omega)]
                refine gp zmv ?_
                refine gp zex ?_
                refine gp zex ?_
                refine zal fun b16 => ?_
                refine zsA (new := sc (lastS sy kb ls)) (sc_length _) (sc_one _) ?_
                refine gp zas ?_
                refine gnt ?_
                refine gsr ?_
                refine gp zmv ?_
                refine gp (r_bool (c := true) (r_eqnil rfl (by kernel_rfl)) rfl) ?_
                refine gp zmv ?_
                refine gq zmv ?_
                refine gq (r_bool (c := true) (r_eqnil rfl (by kernel_rfl)) rfl) ?_
                refine gp zpk ?_
                refine gp zmv ?_
                refine gq zib ?_
                refine gq (zl (v := B8 (lastS sy kb ls).b) (hv := sc_zero _)) ?_
                refine gq zmv ?_
                refine gq (r_bool (c := true) zei (by rw [hS]; exact decide_eq_true rfl)) ?_
                refine gp zpk ?_
                refine gp zmv ?_
                refine gq (zL (sg := sc (lastS sy kb ls))) ?_
                refine gq (zL (sg := sc (lastS sy kb ls))) ?_
                refine gq (r_bool (c := true) (r_eql_sec (a := lastS sy kb ls) (b := lastS sy kb ls) Ty.arr_31 Ty.un_5 Ty.sz_5 (by kernel_rfl)) (decide_eq_true rfl)) ?_
                refine gp zpk ?_
                refine gp zas ?_
                refine gnt ?_
                refine gc_ret ?_
                refine gx_ret1 rfl (by conv => lhs; whnf) ?_
                exact ze ()
              · by_cases hk1 : 0 < nk
                · obtain ⟨gk, ok, hak, hAk, _, _⟩ := hkk.2.2 hk1
                  subst hak
                  refine gc_region ?_
                  refine gp zmv ?_
                  refine gp (r_bool (c := false) (zmv rfl) (by simpa using hsy2)) ?_
                  refine gq zmv ?_
                  refine gq zln ?_
                  refine gq (r_bool (c := true) zgt (decide_eq_true (by omega))) ?_
                  refine gq zmv ?_
                  refine gq zmv ?_
                  refine gq zia ?_
                  refine gq (r_ld1o rfl Ty.row_4 (hkk.cellV hk1 false).1 (hkk.cellV hk1 false).2) ?_
                  refine gq zpk ?_
                  refine gp zpk ?_
                  refine gnt ?_
                  refine gif rfl (fun hc83 => ?_) (fun hc83 => ?_)
                  · try simp only at hc83
                    have hS : lastS sy kb ls = secOf (ls.getD (ls.length - 1) 0) := if_pos (.inr hc83)
                    refine gc_region ?_
                    refine gp zmv ?_
                    refine gp zmv ?_
                    refine gp zln ?_
                    refine gp (r_int (j := ((nl - 1 : Nat) : Int)) zsb (by omega)) ?_
                    refine gp zia ?_
                    refine gp (r_ld1o (v := B8 (ls.getD (ls.length - 1) 0)) rfl Ty.row_5 (by rw [← hnl]; exact (hl.cellV (i := nl - 1) (by omega) 0).1) hAl) ?_
                    refine gp zas ?_
                    refine gnt ?_
                    refine gsr ?_
                    refine gp zmv ?_
                    refine zc (fun _ => ?_) (c := fun w1 F1 F2 h1 h2 hd hst => read_ok (i := 1) h1 (hE.mv hst.still))
                    rw [dS_rd sy (show 1 ≤ ls.length by omega)]
                    refine gp zmv ?_
                    refine gp zex ?_
                    refine gp zex ?_
                    refine zal fun b14 => ?_
                    refine zsA (new := sc (lastS sy kb ls)) (sc_length _) (sc_one _) ?_
                    refine gp zas ?_
                    refine gnt ?_
                    refine gsr ?_
                    refine gp zmv ?_
                    refine gl_bsls (vs := [.bool true, .bool true, .bool true]) (wt0 rfl) Ty.sl_23 Ty.sz_4 Ty.zc_4 rfl rfl (by decide) rfl rfl rfl ?_
                    intro b96
                    refine zc (fun _ => ?_) (c := fun w1 F1 F2 h1 h2 hd hst => crash_ok' (d := (dS sy ls).crash kb) (kb := [true, true, true]) h1 (crash_ok (dS_ok _ _)) (rd_row (xs := [.bool true, .bool true, .bool true]) h2 hd (by repeat (first | exact Pick.here | apply Pick.there))))
                    refine gnt ?_
                    refine gsr ?_
                    refine gp zmv ?_
                    refine zc (fun _ => ?_) (c := fun w1 F1 F2 h1 h2 hd hst => read_ok (i := 1) h1 (hE.mv hst.still))
                    rw [dS_rd2 sy (show 1 ≤ ls.length by omega)]
                    refine gp zmv ?_
                    refine gp zex ?_
                    refine gp zex ?_
                    refine zal fun b16 => ?_
                    refine zsA (new := sc (lastS sy kb ls)) (sc_length _) (sc_one _) ?_
                    refine gp zas ?_
                    refine gnt ?_
                    refine gsr ?_
                    refine gp zmv ?_
                    refine gp (r_bool (c := true) (r_eqnil rfl (by kernel_rfl)) rfl) ?_
                    refine gp zmv ?_
                    refine gq zmv ?_
                    refine gq (r_bool (c := true) (r_eqnil rfl (by kernel_rfl)) rfl) ?_
                    refine gp zpk ?_
                    refine gp zmv ?_
                    refine gq zib ?_
                    refine gq (zl (v := B8 (lastS sy kb ls).b) (hv := sc_zero _)) ?_
                    refine gq zmv ?_
                    refine gq (r_bool (c := true) zei (by rw [hS]; exact decide_eq_true rfl)) ?_
                    refine gp zpk ?_
                    refine gp zmv ?_
                    refine gq (zL (sg := sc (lastS sy kb ls))) ?_
                    refine gq (zL (sg := sc (lastS sy kb ls))) ?_
                    refine gq (r_bool (c := true) (r_eql_sec (a := lastS sy kb ls) (b := lastS sy kb ls) Ty.arr_31 Ty.un_5 Ty.sz_5 (by kernel_rfl)) (decide_eq_true rfl)) ?_
                    refine gp zpk ?_
                    refine gp zas ?_
                    refine gnt ?_
                    refine gc_ret ?_
                    refine gx_ret1 rfl (by conv => lhs; whnf) ?_
                    exact ze ()
                  · try simp only at hc83
                    have hS : lastS sy kb ls = sec0 := if_neg (fun h => h.elim hsy2 fun h => (by rw [hc83] at h; cases h))
                    refine gc_skip ?_
                    refine gx_then ?_
                    refine gsr ?_
                    refine gp zmv ?_
                    refine zc (fun _ => ?_) (c := fun w1 F1 F2 h1 h2 hd hst => read_ok (i := 1) h1 (hE.mv hst.still))
                    rw [dS_rd sy (show 1 ≤ ls.length by omega)]
                    refine gp zmv ?_
                    refine gp zex ?_
                    refine gp zex ?_
                    refine zal fun b14 => ?_
                    refine zsA (new := sc (lastS sy kb ls)) (sc_length _) (sc_one _) ?_
                    refine gp zas ?_
                    refine gnt ?_
                    refine gsr ?_
                    refine gp zmv ?_
                    refine gl_bsls (vs := [.bool true, .bool true, .bool true]) (wt0 rfl) Ty.sl_23 Ty.sz_4 Ty.zc_4 rfl rfl (by decide) rfl rfl rfl ?_
                    intro b96
                    refine zc (fun _ => ?_) (c := fun w1 F1 F2 h1 h2 hd hst => crash_ok' (d := (dS sy ls).crash kb) (kb := [true, true, true]) h1 (crash_ok (dS_ok _ _)) (rd_row (xs := [.bool true, .bool true, .bool true]) h2 hd (by repeat (first | exact Pick.here | apply Pick.there))))
                    refine gnt ?_
                    refine gsr ?_
                    refine gp zmv ?_
                    refine zc (fun _ => ?_) (c := fun w1 F1 F2 h1 h2 hd hst => read_ok (i := 1) h1 (hE.mv hst.still))
                    rw [dS_rd2 sy (show 1 ≤ ls.length by omega)]
                    refine gp zmv ?_
                    refine gp zex ?_
                    refine gp zex ?_
                    refine zal fun b16 => ?_
                    refine zsA (new := sc (lastS sy kb ls)) (sc_length _) (sc_one _) ?_
                    refine gp zas ?_
                    refine gnt ?_
                    refine gsr ?_
                    refine gp zmv ?_
                    refine gp (r_bool (c := true) (r_eqnil rfl (by kernel_rfl)) rfl) ?_
                    refine gp zmv ?_
                    refine gq zmv ?_
                    refine gq (r_bool (c := true) (r_eqnil rfl (by kernel_rfl)) rfl) ?_
                    refine gp zpk ?_
                    refine gp zmv ?_
                    refine gq zib ?_
                    refine gq (zl (v := B8 (lastS sy kb ls).b) (hv := sc_zero _)) ?_
                    refine gq zmv ?_
                    refine gq (r_bool (c := true) zei (by rw [hS]; exact decide_eq_true rfl)) ?_
                    refine gp zpk ?_
                    refine gp zmv ?_
                    refine gq (zL (sg := sc (lastS sy kb ls))) ?_
                    refine gq (zL (sg := sc (lastS sy kb ls))) ?_
                    refine gq (r_bool (c := true) (r_eql_sec (a := lastS sy kb ls) (b := lastS sy kb ls) Ty.arr_31 Ty.un_5 Ty.sz_5 (by kernel_rfl)) (decide_eq_true rfl)) ?_
                    refine gp zpk ?_
                    refine gp zas ?_
                    refine gnt ?_
                    refine gc_ret ?_
                    refine gx_ret1 rfl (by conv => lhs; whnf) ?_
                    exact ze ()
                · have hS : lastS sy kb ls = sec0 := if_neg (fun h => h.elim hsy2 fun h => (by have h9 : kb[0]? = none := List.getElem?_eq_none (by omega); simp [List.getD, h9] at h))
                  refine gc_region ?_
                  refine gp zmv ?_
                  refine gp (r_bool (c := false) (zmv rfl) (by simpa using hsy2)) ?_
                  refine gq zmv ?_
                  refine gq zln ?_
                  refine gq (r_bool (c := false) zgt (decide_eq_false (by omega))) ?_
                  refine gq zmv ?_
                  refine gn ?_
                  refine gn ?_
                  refine gn ?_
                  refine gq zpk ?_
                  refine gp zpk ?_
                  refine gnt ?_
                  refine gc_condF rfl rfl ?_
                  refine gc_skip ?_
                  refine gx_then ?_
                  refine gsr ?_
                  refine gp zmv ?_
                  refine zc (fun _ => ?_) (c := fun w1 F1 F2 h1 h2 hd hst => read_ok (i := 1) h1 (hE.mv hst.still))
                  rw [dS_rd sy (show 1 ≤ ls.length by omega)]
                  refine gp zmv ?_
                  refine gp zex ?_
                  refine gp zex ?_
                  refine zal fun b14 => ?_
                  refine zsA (new := sc (lastS sy kb ls)) (sc_length _) (sc_one _) ?_
                  refine gp zas ?_
                  refine gnt ?_
                  refine gsr ?_
                  refine gp zmv ?_
                  refine gl_bsls (vs := [.bool true, .bool true, .bool true]) (wt0 rfl) Ty.sl_23 Ty.sz_4 Ty.zc_4 rfl rfl (by decide) rfl rfl rfl ?_
                  intro b96
                  refine zc (fun _ => ?_) (c := fun w1 F1 F2 h1 h2 hd hst => crash_ok' (d := (dS sy ls).crash kb) (kb := [true, true, true]) h1 (crash_ok (dS_ok _ _)) (rd_row (xs := [.bool true, .bool true, .bool true]) h2 hd (by repeat (first | exact Pick.here | apply Pick.there))))
                  refine gnt ?_
                  refine gsr ?_
                  refine gp zmv ?_
                  refine zc (fun _ => ?_) (c := fun w1 F1 F2 h1 h2 hd hst => read_ok (i := 1) h1 (hE.mv hst.still))
                  rw [dS_rd2 sy (show 1 ≤ ls.length by omega)]
                  refine gp zmv ?_
                  refine gp zex ?_
                  refine gp zex ?_
                  refine zal fun b16 => ?_
                  refine zsA (new := sc (lastS sy kb ls)) (sc_length _) (sc_one _) ?_
                  refine gp zas ?_
                  refine gnt ?_
                  refine gsr ?_
                  refine gp zmv ?_
                  refine gp (r_bool (c := true) (r_eqnil rfl (by kernel_rfl)) rfl) ?_
                  refine gp zmv ?_
                  refine gq zmv ?_
                  refine gq (r_bool (c := true) (r_eqnil rfl (by kernel_rfl)) rfl) ?_
                  refine gp zpk ?_
                  refine gp zmv ?_
                  refine gq zib ?_
                  refine gq (zl (v := B8 (lastS sy kb ls).b) (hv := sc_zero _)) ?_
                  refine gq zmv ?_
                  refine gq (r_bool (c := true) zei (by rw [hS]; exact decide_eq_true rfl)) ?_
                  refine gp zpk ?_
                  refine gp zmv ?_
                  refine gq (zL (sg := sc (lastS sy kb ls))) ?_
                  refine gq (zL (sg := sc (lastS sy kb ls))) ?_
                  refine gq (r_bool (c := true) (r_eql_sec (a := lastS sy kb ls) (b := lastS sy kb ls) Ty.arr_31 Ty.un_5 Ty.sz_5 (by kernel_rfl)) (decide_eq_true rfl)) ?_
                  refine gp zpk ?_
                  refine gp zas ?_
                  refine gnt ?_
                  refine gc_ret ?_
                  refine gx_ret1 rfl (by conv => lhs; whnf) ?_
                  exact ze ()
            · rw [show dL ls ls.length = dS sy ls from (if_neg hsy).symm]
              refine gc_region ?_
              refine gp zmv ?_
              refine gp (r_bool (c := false) (zmv rfl) (by simpa using hsy)) ?_
              refine gn ?_
              refine gn ?_
              refine gn ?_
              refine gp zpk ?_
              refine gnt ?_
              refine gc_condF rfl rfl ?_
              refine gc_skip ?_
              refine gx_then ?_
              refine gsr ?_
              refine gp zmv ?_
              refine gp zmv ?_
              refine zc (fun _ => ?_) (c := fun w1 F1 F2 h1 h2 hd hst => crash_ok' (d := dS sy ls) (kb := kb) h1 (dS_ok _ _) (hkk.mv hst.still))
              refine gnt ?_
              refine gsr ?_
              refine gp zas ?_
              refine gnt ?_
              refine gc_seq ?_
              refine gc_seq ?_
              by_cases hsy2 : sy = true
              · have hS : lastS sy kb ls = secOf (ls.getD (ls.length - 1) 0) := if_pos (.inl hsy2)
                refine gc_region ?_
                refine gp zmv ?_
                refine gp (r_bool (c := true) (zmv rfl) hsy2) ?_
                refine gn ?_
                refine gn ?_
                refine gn ?_
                refine gn ?_
                refine gn ?_
                refine gn ?_
                refine gn ?_
                refine gn ?_
                refine gp zpk ?_
                refine gnt ?_
                refine gc_condT rfl rfl ?_
                refine gc_region ?_
                refine gp zmv ?_
                refine gp zmv ?_
                refine gp zln ?_
                refine gp (r_int (j := ((nl - 1 : Nat) : Int)) zsb (by omega)) ?_
                refine gp zia ?_
                refine gp (r_ld1o (v := B8 (ls.getD (ls.length - 1) 0)) rfl Ty.row_5 (by rw [← hnl]; exact (hl.cellV (i := nl - 1) (by omega) 0).1) hAl) ?_
                refine gp zas ?_
                refine gnt ?_
                refine gsr ?_
                refine gp zmv ?_
                refine zc (fun _ => ?_) (c := fun w1 F1 F2 h1 h2 hd hst => read_ok (i := 1) h1 (hE.mv hst.still))
                rw [dS_rd sy (show 1 ≤ ls.length by omega)]
                refine gp zmv ?_
                refine gp zex ?_
                refine gp zex ?_
                refine zal fun b14 => ?_
                refine zsA (new := sc (lastS sy kb ls)) (sc_length _) (sc_one _) ?_
                refine gp zas ?_
                refine gnt ?_
                refine gsr ?_
                refine gp zmv ?_
                refine gl_bsls (vs := [.bool true, .bool true, .bool true]) (wt0 rfl) Ty.sl_23 Ty.sz_4 Ty.zc_4 rfl rfl (by decide) rfl rfl rfl ?_
                intro b96
                refine zc (fun _ => ?_) (c := fun w1 F1 F2 h1 h2 hd hst => crash_ok' (d := (dS sy ls).crash kb) (kb := [true, true, true]) h1 (crash_ok (dS_ok _ _)) (rd_row (xs := [.bool true, .bool true, .bool true]) h2 hd (by repeat (first | exact Pick.here | apply Pick.there))))
                refine gnt ?_
                refine gsr ?_
                refine gp zmv ?_
                refine zc (fun _ => ?_) (c := fun w1 F1 F2 h1 h2 hd hst => read_ok (i := 1) h1 (hE.mv hst.still))
                rw [dS_rd2 sy (show 1 ≤ ls.length by omega)]
                refine gp zmv ?_
                refine gp zex ?_
                refine gp zex ?_
                refine zal fun b16 => ?_
                refine zsA (new := sc (lastS sy kb ls)) (sc_length _) (sc_one _) ?_
                refine gp zas ?_
                refine gnt ?_
                refine gsr ?_
                refine gp zmv ?_
                refine gp (r_bool (c := true) (r_eqnil rfl (by kernel_rfl)) rfl) ?_
                refine gp zmv ?_
                refine gq zmv ?_
                refine gq (r_bool (c := true) (r_eqnil rfl (by kernel_rfl)) rfl) ?_
                refine gp zpk ?_
                refine gp zmv ?_
                refine gq zib ?_
                refine gq (zl (v := B8 (lastS sy kb ls).b) (hv := sc_zero _)) ?_
                refine gq zmv ?_
                refine gq (r_bool (c := true) zei (by rw [hS]; exact decide_eq_true rfl)) ?_
                refine gp zpk ?_
                refine gp zmv ?_
                refine gq (zL (sg := sc (lastS sy kb ls))) ?_
                refine gq (zL (sg := sc (lastS sy kb ls))) ?_
                refine gq (r_bool (c := true) (r_eql_sec (a := lastS sy kb ls) (b := lastS sy kb ls) Ty.arr_31 Ty.un_5 Ty.sz_5 (by kernel_rfl)) (decide_eq_true rfl)) ?_
                refine gp zpk ?_
                refine gp zas ?_
                refine gnt ?_
                refine gc_ret ?_
                refine gx_ret1 rfl (by conv => lhs; whnf) ?_
                exact ze ()
              · by_cases hk1 : 0 < nk
                · obtain ⟨gk, ok, hak, hAk, _, _⟩ := hkk.2.2 hk1
                  subst hak
                  refine gc_region ?_
                  refine gp zmv ?_
                  refine gp (r_bool (c := false) (zmv rfl) (by simpa using hsy2)) ?_
                  refine gq zmv ?_
                  refine gq zln ?_
                  refine gq (r_bool (c := true) zgt (decide_eq_true (by omega))) ?_
                  refine gq zmv ?_
                  refine gq zmv ?_
                  refine gq zia ?_
                  refine gq (r_ld1o rfl Ty.row_4 (hkk.cellV hk1 false).1 (hkk.cellV hk1 false).2) ?_
                  refine gq zpk ?_
                  refine gp zpk ?_
                  refine gnt ?_
                  refine gif rfl (fun hc83 => ?_) (fun hc83 => ?_)
                  · try simp only at hc83
                    have hS : lastS sy kb ls = secOf (ls.getD (ls.length - 1) 0) := if_pos (.inr hc83)
                    refine gc_region ?_
                    refine gp zmv ?_
                    refine gp zmv ?_
                    refine gp zln ?_
                    refine gp (r_int (j := ((nl - 1 : Nat) : Int)) zsb (by omega)) ?_
                    refine gp zia ?_
                    refine gp (r_ld1o (v := B8 (ls.getD (ls.length - 1) 0)) rfl Ty.row_5 (by rw [← hnl]; exact (hl.cellV (i := nl - 1) (by omega) 0).1) hAl) ?_
                    refine gp zas ?_
                    refine gnt ?_
                    refine gsr ?_
                    refine gp zmv ?_
                    refine zc (fun _ => ?_) (c := fun w1 F1 F2 h1 h2 hd hst => read_ok (i := 1) h1 (hE.mv hst.still))
                    rw [dS_rd sy (show 1 ≤ ls.length by omega)]
                    refine gp zmv ?_
                    refine gp zex ?_
                    refine gp zex ?_
                    refine zal fun b14 => ?_
                    refine zsA (new := sc (lastS sy kb ls)) (sc_length _) (sc_one _) ?_
                    refine gp zas ?_
                    refine gnt ?_
                    refine gsr ?_
                    refine gp zmv ?_
                    refine gl_bsls (vs := [.bool true, .bool true, .bool true]) (wt0 rfl) Ty.sl_23 Ty.sz_4 Ty.zc_4 rfl rfl (by decide) rfl rfl rfl ?_
                    intro b96
                    refine zc (fun _ => ?_) (c := fun w1 F1 F2 h1 h2 hd hst => crash_ok' (d := (dS sy ls).crash kb) (kb := [true, true, true]) h1 (crash_ok (dS_ok _ _)) (rd_row (xs := [.bool true, .bool true, .bool true]) h2 hd (by repeat (first | exact Pick.here | apply Pick.there))))
                    refine gnt ?_
                    refine gsr ?_
                    refine gp zmv ?_
                    refine zc (fun _ => ?_) (c := fun w1 F1 F2 h1 h2 hd hst => read_ok (i := 1) h1 (hE.mv hst.still))
                    rw [dS_rd2 sy (show 1 ≤ ls.length by omega)]
                    refine gp zmv ?_
                    refine gp zex ?_
                    refine gp zex ?_
                    refine zal fun b16 => ?_
                    refine zsA (new := sc (lastS sy kb ls)) (sc_length _) (sc_one _) ?_
                    refine gp zas ?_
                    refine gnt ?_
                    refine gsr ?_
                    refine gp zmv ?_
                    refine gp (r_bool (c := true) (r_eqnil rfl (by kernel_rfl)) rfl) ?_
                    refine gp zmv ?_
                    refine gq zmv ?_
                    refine gq (r_bool (c := true) (r_eqnil rfl (by kernel_rfl)) rfl) ?_
                    refine gp zpk ?_
                    refine gp zmv ?_
                    refine gq zib ?_
                    refine gq (zl (v := B8 (lastS sy kb ls).b) (hv := sc_zero _)) ?_
                    refine gq zmv ?_
                    refine gq (r_bool (c := true) zei (by rw [hS]; exact decide_eq_true rfl)) ?_
                    refine gp zpk ?_
                    refine gp zmv ?_
                    refine gq (zL (sg := sc (lastS sy kb ls))) ?_
                    refine gq (zL (sg := sc (lastS sy kb ls))) ?_
                    refine gq (r_bool (c := true) (r_eql_sec (a := lastS sy kb ls) (b := lastS sy kb ls) Ty.arr_31 Ty.un_5 Ty.sz_5 (by kernel_rfl)) (decide_eq_true rfl)) ?_
                    refine gp zpk ?_
                    refine gp zas ?_
                    refine gnt ?_
                    refine gc_ret ?_
                    refine gx_ret1 rfl (by conv => lhs; whnf) ?_
                    exact ze ()
                  · try simp only at hc83
                    have hS : lastS sy kb ls = sec0 := if_neg (fun h => h.elim hsy2 fun h => (by rw [hc83] at h; cases h))
                    refine gc_skip ?_
                    refine gx_then ?_
                    refine gsr ?_
                    refine gp zmv ?_
                    refine zc (fun _ => ?_) (c := fun w1 F1 F2 h1 h2 hd hst => read_ok (i := 1) h1 (hE.mv hst.still))
                    rw [dS_rd sy (show 1 ≤ ls.length by omega)]
                    refine gp zmv ?_
                    refine gp zex ?_
                    refine gp zex ?_
                    refine zal fun b14 => ?_
                    refine zsA (new := sc (lastS sy kb ls)) (sc_length _) (sc_one _) ?_
                    refine gp zas ?_
                    refine gnt ?_
                    refine gsr ?_
                    refine gp zmv ?_
                    refine gl_bsls (vs := [.bool true, .bool true, .bool true]) (wt0 rfl) Ty.sl_23 Ty.sz_4 Ty.zc_4 rfl rfl (by decide) rfl rfl rfl ?_
                    intro b96
                    refine zc (fun _ => ?_) (c := fun w1 F1 F2 h1 h2 hd hst => crash_ok' (d := (dS sy ls).crash kb) (kb := [true, true, true]) h1 (crash_ok (dS_ok _ _)) (rd_row (xs := [.bool true, .bool true, .bool true]) h2 hd (by repeat (first | exact Pick.here | apply Pick.there))))
                    refine gnt ?_
                    refine gsr ?_
                    refine gp zmv ?_
                    refine zc (fun _ => ?_) (c := fun w1 F1 F2 h1 h2 hd hst => read_ok (i := 1) h1 (hE.mv hst.still))
                    rw [dS_rd2 sy (show 1 ≤ ls.length by omega)]
                    refine gp zmv ?_
                    refine gp zex ?_
                    refine gp zex ?_
                    refine zal fun b16 => ?_
                    refine zsA (new := sc (lastS sy kb ls)) (sc_length _) (sc_one _) ?_
                    refine gp zas ?_
                    refine gnt ?_
                    refine gsr ?_
                    refine gp zmv ?_
                    refine gp (r_bool (c := true) (r_eqnil rfl (by kernel_rfl)) rfl) ?_
                    refine gp zmv ?_
                    refine gq zmv ?_
                    refine gq (r_bool (c := true) (r_eqnil rfl (by kernel_rfl)) rfl) ?_
                    refine gp zpk ?_
                    refine gp zmv ?_
                    refine gq zib ?_
                    refine gq (zl (v := B8 (lastS sy kb ls).b) (hv := sc_zero _)) ?_
                    refine gq zmv ?_
                    refine gq (r_bool (c := true) zei (by rw [hS]; exact decide_eq_true rfl)) ?_
                    refine gp zpk ?_
                    refine gp zmv ?_
                    refine gq (zL (sg := sc (lastS sy kb ls))) ?_
                    refine gq (zL (sg := sc (lastS sy kb ls))) ?_
                    refine gq (r_bool (c := true) (r_eql_sec (a := lastS sy kb ls) (b := lastS sy kb ls) Ty.arr_31 Ty.un_5 Ty.sz_5 (by kernel_rfl)) (decide_eq_true rfl)) ?_
                    refine gp zpk ?_
                    refine gp zas ?_
                    refine gnt ?_
                    refine gc_ret ?_
                    refine gx_ret1 rfl (by conv => lhs; whnf) ?_
                    exact ze ()
                · have hS : lastS sy kb ls = sec0 := if_neg (fun h => h.elim hsy2 fun h => (by have h9 : kb[0]? = none := List.getElem?_eq_none (by omega); simp [List.getD, h9] at h))
                  refine gc_region ?_
                  refine gp zmv ?_
                  refine gp (r_bool (c := false) (zmv rfl) (by simpa using hsy2)) ?_
                  refine gq zmv ?_
                  refine gq zln ?_
                  refine gq (r_bool (c := false) zgt (decide_eq_false (by omega))) ?_
                  refine gq zmv ?_
                  refine gn ?_
                  refine gn ?_
                  refine gn ?_
                  refine gq zpk ?_
                  refine gp zpk ?_
                  refine gnt ?_
                  refine gc_condF rfl rfl ?_
                  refine gc_skip ?_
                  refine gx_then ?_
                  refine gsr ?_
                  refine gp zmv ?_
                  refine zc (fun _ => ?_) (c := fun w1 F1 F2 h1 h2 hd hst => read_ok (i := 1) h1 (hE.mv hst.still))
                  rw [dS_rd sy (show 1 ≤ ls.length by omega)]
                  refine gp zmv ?_
                  refine gp zex ?_
                  refine gp zex ?_
                  refine zal fun b14 => ?_
                  refine zsA (new := sc (lastS sy kb ls)) (sc_length _) (sc_one _) ?_
                  refine gp zas ?_
                  refine gnt ?_
                  refine gsr ?_
                  refine gp zmv ?_
                  refine gl_bsls (vs := [.bool true, .bool true, .bool true]) (wt0 rfl) Ty.sl_23 Ty.sz_4 Ty.zc_4 rfl rfl (by decide) rfl rfl rfl ?_
                  intro b96
                  refine zc (fun _ => ?_) (c := fun w1 F1 F2 h1 h2 hd hst => crash_ok' (d := (dS sy ls).crash kb) (kb := [true, true, true]) h1 (crash_ok (dS_ok _ _)) (rd_row (xs := [.bool true, .bool true, .bool true]) h2 hd (by repeat (first | exact Pick.here | apply Pick.there))))
                  refine gnt ?_
                  refine gsr ?_
                  refine gp zmv ?_
                  refine zc (fun _ => ?_) (c := fun w1 F1 F2 h1 h2 hd hst => read_ok (i := 1) h1 (hE.mv hst.still))
                  rw [dS_rd2 sy (show 1 ≤ ls.length by omega)]
                  refine gp zmv ?_
                  refine gp zex ?_
                  refine gp zex ?_
                  refine zal fun b16 => ?_
                  refine zsA (new := sc (lastS sy kb ls)) (sc_length _) (sc_one _) ?_
                  refine gp zas ?_
                  refine gnt ?_
                  refine gsr ?_
                  refine gp zmv ?_
                  refine gp (r_bool (c := true) (r_eqnil rfl (by kernel_rfl)) rfl) ?_
                  refine gp zmv ?_
                  refine gq zmv ?_
                  refine gq (r_bool (c := true) (r_eqnil rfl (by kernel_rfl)) rfl) ?_
                  refine gp zpk ?_
                  refine gp zmv ?_
                  refine gq zib ?_
                  refine gq (zl (v := B8 (lastS sy kb ls).b) (hv := sc_zero _)) ?_
                  refine gq zmv ?_
                  refine gq (r_bool (c := true) zei (by rw [hS]; exact decide_eq_true rfl)) ?_
                  refine gp zpk ?_
                  refine gp zmv ?_
                  refine gq (zL (sg := sc (lastS sy kb ls))) ?_
                  refine gq (zL (sg := sc (lastS sy kb ls))) ?_
                  refine gq (r_bool (c := true) (r_eql_sec (a := lastS sy kb ls) (b := lastS sy kb ls) Ty.arr_31 Ty.un_5 Ty.sz_5 (by kernel_rfl)) (decide_eq_true rfl)) ?_
                  refine gp zpk ?_
                  refine gp zas ?_
                  refine gnt ?_
                  refine gc_ret ?_
                  refine gx_ret1 rfl (by conv => lhs; whnf) ?_
                  exact ze ()

end Go.Proofs.YtapcnajfbippmaaDoor
