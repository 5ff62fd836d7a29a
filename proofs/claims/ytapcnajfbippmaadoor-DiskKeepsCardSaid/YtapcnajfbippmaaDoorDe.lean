/- Walks, by program (wg.py) out of a spec. -/
import Derived.Test.YtapcnajfbippmaaDoorDc
namespace Go.Proofs.YtapcnajfbippmaaDoor
open Go
set_option linter.unusedVariables false
set_option linter.unusedSimpArgs false

attribute [local irreducible] Gl Gc Gx Gs Runs Wt

set_option maxHeartbeats 400000 in
theorem diskKeeps_ok {w : World} {F : Nat → Prop} {nf ns nk : Nat} {fs sn : List UInt8} {kb : List Bool} (h : stars [] w F) {ea : Nat → Addr} {es : List Nat} [Has es 1] [Has es 6] (hE : GErr es w (fun k => ¬ F k) 109 ea) {af : Option Addr} {cf : Nat} (hf : RdRow w (fun k => ¬ F k) 1 af nf (fs.map B8)) {au : Option Addr} {cu : Nat} (hu : RdRow w (fun k => ¬ F k) 1 au ns (sn.map B8)) {akk : Option Addr} {ckk : Nat} (hkk : RdRow w (fun k => ¬ F k) 1 akk nk (kb.map Value.bool)) :
    Calls Tryd.prog 3 #[.slice af nf cf, .slice au ns cu, .slice akk nk ckk] w (Post w F (fun _ : Unit => .bool true) (fun _ => [])) := by
  have hnf : nf = fs.length := by have := hf.1; simp at this; omega
  have hnu : ns = sn.length := by have := hu.1; simp at this; omega
  have hnkk : nk = kb.length := by have := hkk.1; simp at this; omega
  refine g_enter (env := [(0, .slice af nf cf), (1, .slice au ns cu), (2, .slice akk nk ckk)]) Tryd.func3 rfl h Tryd.ntmps3 rfl rfl ?_
  refine gsr ?_
  refine gp zas ?_
  refine gnt ?_
  refine gc_seq ?_
  refine gsr ?_
  refine zc (fun _ => ?_) (c := fun w1 F1 F2 h1 h2 hd hst => alive06_ok h1 (hE.mv hst.still))
  refine gp znt ?_
  refine gnt ?_
  refine gc_condF rfl rfl ?_
  refine gc_skip ?_
  refine gx_then ?_
  refine gc_seq ?_
  refine gc_seq ?_
  by_cases hg1 : 50 < nf
  · refine gc_region ?_
    refine gp zmv ?_
    refine gp zln ?_
    refine gp (r_bool (c := true) zgt (decide_eq_true (by omega))) ?_
    refine gp zmv ?_
    refine gn ?_
    refine gn ?_
    refine gn ?_
    refine gp zpk ?_
    refine gp zmv ?_
    refine gn ?_
    refine gn ?_
    refine gn ?_
    refine gp zpk ?_
    refine gnt ?_
    refine gc_condT rfl rfl ?_
    refine gsr ?_
    refine gp zas ?_
    refine gnt ?_
    refine gc_ret ?_
    refine gx_then_ret ?_
    refine gx_ret1 rfl (by conv => lhs; whnf) ?_
    exact ze ()
  · by_cases hg2 : 50 < ns
    · refine gc_region ?_
      refine gp zmv ?_
      refine gp zln ?_
      refine gp (r_bool (c := false) zgt (decide_eq_false (by omega))) ?_
      refine gp zmv ?_
      refine gq zmv ?_
      refine gq zln ?_
      refine gq (r_bool (c := true) zgt (decide_eq_true (by omega))) ?_
      refine gp zpk ?_
      refine gp zmv ?_
      refine gn ?_
      refine gn ?_
      refine gn ?_
      refine gp zpk ?_
      refine gnt ?_
      refine gc_condT rfl rfl ?_
      refine gsr ?_
      refine gp zas ?_
      refine gnt ?_
      refine gc_ret ?_
      refine gx_then_ret ?_
      refine gx_ret1 rfl (by conv => lhs; whnf) ?_
      exact ze ()
    · refine gc_region ?_
      refine gp zmv ?_
      refine gp zln ?_
      refine gp (r_bool (c := false) zgt (decide_eq_false (by omega))) ?_
      refine gp zmv ?_
      refine gq zmv ?_
      refine gq zln ?_
      refine gq (r_bool (c := false) zgt (decide_eq_false (by omega))) ?_
      refine gp zpk ?_
      refine gp zmv ?_
      refine gq zmv ?_
      refine gq zln ?_
      refine gq zgt ?_
      refine gp zpk ?_
      refine gnt ?_
      refine gif rfl (fun hc32 => ?_) (fun hc32 => ?_)
      · refine gsr ?_
        refine gp zas ?_
        refine gnt ?_
        refine gc_ret ?_
        refine gx_then_ret ?_
        refine gx_ret1 rfl (by conv => lhs; whnf) ?_
        exact ze ()
      · refine gc_skip ?_
        refine gx_then ?_
        refine gsr ?_
        refine zc (fun g34 => ?_) (c := fun w1 F1 F2 h1 h2 hd hst => new_ok (n := 50) (ea := ea) h1 (by decide) (by decide))
        rw [show (⟨50, fun _ => sec0, [], false, false, 0⟩ : DS) = dK 50 (fun _ => sec0) (bF fs) 0 from rfl]
        refine gp zmv ?_
        refine gp zex ?_
        refine gp zex ?_
        refine gp zas ?_
        refine gp zas ?_
        refine gnt ?_
        refine gc_seq ?_
        refine gsr ?_
        refine gp zmv ?_
        refine gp (r_bool (c := false) (r_nenil rfl (by kernel_rfl)) rfl) ?_
        refine gnt ?_
        refine gc_condF rfl rfl ?_
        refine gc_skip ?_
        refine gx_then ?_
        refine gc_seq ?_
        refine gsr ?_
        refine gp zmv ?_
        refine gp zln ?_
        refine gp zmv ?_
        refine gnt ?_
        refine gc_block ?_
        refine gc_loop (α := Nat) (fun k => [pureR (k ≤ nf), DiskR g34 (dK 50 (fun _ => sec0) (bF fs) k)]) (fun k => [(41, .int .i64 (k : Int))]) [6, 9, 10, 42, 43, 44, 45, 46, 47, 48, 49, 50, 51, 52] (fun k => nf - k) 0 ?_ ?_ ?_
        · refine env_start (by kernel_rfl)
        · exact zlp (Nat.zero_le _)
        · intro k u
          refine gc_pureR (fun hk => ?_)
          replace hk : k ≤ nf := hk
          refine gsr ?_
          refine gp zlt ?_
          refine gnt ?_
          refine gc_seq ?_
          refine gif rfl (fun hc42 => ?_) (fun hc42 => ?_)
          · try simp only at hc42
            have hk' : k < nf := by omega
            obtain ⟨gf, jf, haf, hAf, _, _⟩ := hf.2.2 (by omega)
            subst haf
            refine gc_skip ?_
            refine gx_then ?_
            refine gc_seq ?_
            refine gc_block ?_
            refine gsr ?_
            refine gp zmv ?_
            refine gp zia ?_
            refine gp (r_ld1o rfl Ty.row_5 (hf.cellV hk' 0).1 hAf) ?_
            refine gp zas ?_
            refine gp zas ?_
            refine gnt ?_
            refine gsr ?_
            refine gp zmv ?_
            refine gp zmv ?_
            refine gp zmv ?_
            refine gp (zba (cs := sc (secOf (bF fs k))) (by exact rfl)) ?_
            refine zc (fun _ => ?_) (c := fun w1 F1 F2 h1 h2 hd hst => write_ok' (i := (k : Int)) (v := secOf (bF fs k)) h1 (dK_ok (by decide) (by omega)) (hE.mv hst.still))
            rw [dK_wr (by omega)]
            refine gp (r_bool (c := false) (r_nenil rfl (by kernel_rfl)) rfl) ?_
            refine gnt ?_
            refine gc_condF rfl rfl ?_
            refine gc_skip ?_
            refine gx_block_normal ?_
            refine gx_then ?_
            refine gc_region ?_
            refine gp zad ?_
            refine gp zmv ?_
            refine gl_nil ?_
            refine zrd (k + 1) ?_ ?_
            · show nf - (k + 1) < nf - k
              omega
            · exact zlp (show k + 1 ≤ nf by omega)
          · try simp only at hc42
            have hk' : k = nf := by omega
            subst hk'
            refine gc_exit ?_
            refine gx_then_exit ?_
            refine gx_round_exit ?_
            refine gx_block_hit ?_
            refine gx_then ?_
            refine gc_seq ?_
            refine gsr ?_
            refine gp zmv ?_
            refine zc (fun _ => ?_) (c := fun w1 F1 F2 h1 h2 hd hst => sync_ok' (d := dK 50 (fun _ => sec0) (bF fs) k) h1 (dK_ok (by decide) (by omega)) (hE.mv hst.still))
            rw [dK_err, dK_sync (g := bF sn)]
            refine gp (r_bool (c := false) (r_nenil rfl (by kernel_rfl)) rfl) ?_
            refine gnt ?_
            refine gc_condF rfl rfl ?_
            refine gc_skip ?_
            refine gx_then ?_
            refine gc_seq ?_
            refine gsr ?_
            refine gp zmv ?_
            refine gp zln ?_
            refine gp zmv ?_
            refine gnt ?_
            refine gc_block ?_
            refine gc_loop (α := Nat) (fun j => [pureR (j ≤ ns), DiskR g34 (dK 50 (upd1 (bF fs) k fun _ => sec0) (bF sn) j)]) (fun j => [(58, .int .i64 (j : Int))]) [6, 11, 12, 59, 60, 61, 62, 63, 64, 65, 66, 67, 68, 69] (fun j => ns - j) 0 ?_ ?_ ?_
            · refine env_start (by kernel_rfl)
            · exact zlp (Nat.zero_le _)
            · intro j u
              refine gc_pureR (fun hj => ?_)
              replace hj : j ≤ ns := hj
              refine gsr ?_
              refine gp zlt ?_
              refine gnt ?_
              refine gc_seq ?_
              refine gif rfl (fun hc59 => ?_) (fun hc59 => ?_)
              · try simp only at hc59
                have hj' : j < ns := by omega
                obtain ⟨gu, ju, hau, hAu, _, _⟩ := hu.2.2 (by omega)
                subst hau
                refine gc_skip ?_
                refine gx_then ?_
                refine gc_seq ?_
                refine gc_block ?_
                refine gsr ?_
                refine gp zmv ?_
                refine gp zia ?_
                refine gp (r_ld1o rfl Ty.row_5 (hu.cellV hj' 0).1 hAu) ?_
                refine gp zas ?_
                refine gp zas ?_
                refine gnt ?_
                refine gsr ?_
                refine gp zmv ?_
                refine gp zmv ?_
                refine gp zmv ?_
                refine gp (zba (cs := sc (secOf (bF sn j))) (by exact rfl)) ?_
                refine zc (fun _ => ?_) (c := fun w1 F1 F2 h1 h2 hd hst => write_ok' (i := (j : Int)) (v := secOf (bF sn j)) h1 (dK_ok (by decide) (by omega)) (hE.mv hst.still))
                rw [dK_wr (by omega)]
                refine gp (r_bool (c := false) (r_nenil rfl (by kernel_rfl)) rfl) ?_
                refine gnt ?_
                refine gc_condF rfl rfl ?_
                refine gc_skip ?_
                refine gx_block_normal ?_
                refine gx_then ?_
                refine gc_region ?_
                refine gp zad ?_
                refine gp zmv ?_
                refine gl_nil ?_
                refine zrd (j + 1) ?_ ?_
                · show ns - (j + 1) < ns - j
                  omega
                · exact zlp (show j + 1 ≤ ns by omega)
              · try simp only at hc59
                have hj' : j = ns := by omega
                subst hj'
                refine gc_exit ?_
                refine gx_then_exit ?_
                refine gx_round_exit ?_
                refine gx_block_hit ?_
                refine gx_then ?_
                refine gsr ?_
                refine gp zmv ?_
                refine gp zmv ?_
                refine zc (fun _ => ?_) (c := fun w1 F1 F2 h1 h2 hd hst => crash_ok' (d := dK 50 (upd1 (bF fs) k fun _ => sec0) (bF sn) j) (kb := kb) h1 (dK_ok (by decide) (by omega)) (hkk.mv hst.still))
                refine gnt ?_
                refine gc_seq ?_
                refine gsr ?_
                refine gp zmv ?_
                refine gnt ?_
                refine gc_block ?_
                refine gc_loop (α := Nat) (fun i => [pureR (i ≤ 50), DiskR g34 ((dK 50 (upd1 (bF fs) k fun _ => sec0) (bF sn) j).crash kb)]) (fun i => [(73, .int .i64 (i : Int))]) [6, 13, 14, 15, 16, 17, 74, 75, 76, 77, 78, 79, 80, 81, 82, 83, 84, 85, 86, 87, 88, 89, 90, 91, 92, 93, 94, 95, 96, 97, 98, 99, 100, 101, 102, 103, 104, 105, 106, 107, 108, 109, 110, 111, 112, 113, 114, 115, 116, 117, 118, 119] (fun i => 50 - i) 0 ?_ ?_ ?_
                · refine env_start (by kernel_rfl)
                · exact zlp (Nat.zero_le _)
                · intro i u
                  refine gc_pureR (fun hi => ?_)
                  replace hi : i ≤ 50 := hi
                  refine gsr ?_
                  refine gp zlt ?_
                  refine gnt ?_
                  refine gc_seq ?_
                  refine gif rfl (fun hc74 => ?_) (fun hc74 => ?_)
                  · try simp only at hc74
                    have hi' : i < 50 := by omega
                    refine gc_skip ?_
                    refine gx_then ?_
                    refine gc_seq ?_
                    refine gc_block ?_
                    refine gsr ?_
                    refine gp zmv ?_
                    refine gp zas ?_
                    refine gnt ?_
                    refine gsr ?_
                    refine gp zas ?_
                    refine gp zas ?_
                    refine gnt ?_
                    refine gc_join (α := UInt8) (fun z => [pureR (z = (upd1 (bF fs) k (fun _ => sec0) i).b), DiskR g34 ((dK 50 (upd1 (bF fs) k fun _ => sec0) (bF sn) j).crash kb)]) (fun z => [(14, B8 z), (15, .int .u8 0)]) [76, 77, 78, 79, 80, 81, 82, 83] ?_ ?_
                    · refine gsr ?_
                      refine gp zmv ?_
                      refine gp zmv ?_
                      refine gp zln ?_
                      refine gp zlt ?_
                      refine gnt ?_
                      refine gif rfl (fun hc79 => ?_) (fun hc79 => ?_)
                      · try simp only at hc79
                        have h1k : i < k := by omega
                        obtain ⟨gf, jf, haf, hAf, _, _⟩ := hf.2.2 (by omega)
                        subst haf
                        refine gc_region ?_
                        refine gp zmv ?_
                        refine gp zmv ?_
                        refine gp zia ?_
                        refine gp (r_ld1o (v := B8 (upd1 (bF fs) k (fun _ => sec0) i).b) rfl Ty.row_5 (by rw [upd1, if_pos h1k]; exact (hf.cellV h1k 0).1) hAf) ?_
                        refine gp zas ?_
                        refine gl_nil ?_
                        refine zjn ((upd1 (bF fs) k (fun _ => sec0) i).b) ?_
                        · exact zlp rfl
                      · try simp only at hc79
                        have h1k : ¬ i < k := by omega
                        refine gc_skip ?_
                        refine zjn (0) ?_
                        · exact zlp (by rw [upd1, if_neg h1k]; rfl)
                    · intro z u
                      refine gc_pureR (fun hz => ?_)
                      replace hz : z = (upd1 (bF fs) k (fun _ => sec0) i).b := hz
                      subst hz
                      refine gsr ?_
                      refine gp zmv ?_
                      refine gp zas ?_
                      refine gnt ?_
                      refine gc_seq ?_
                      refine gc_seq ?_
                      by_cases h2j : i < j
                      · by_cases h3k : i < nk
                        · obtain ⟨gk, ok, hak, hAk, _, _⟩ := hkk.2.2 (by omega)
                          subst hak
                          refine gc_region ?_
                          refine gp zmv ?_
                          refine gp zmv ?_
                          refine gp zln ?_
                          refine gp (r_bool (c := true) zlt (decide_eq_true (by omega))) ?_
                          refine gp zmv ?_
                          refine gq zmv ?_
                          refine gq zmv ?_
                          refine gq zln ?_
                          refine gq (r_bool (c := true) zlt (decide_eq_true (by omega))) ?_
                          refine gp zpk ?_
                          refine gp zmv ?_
                          refine gq zmv ?_
                          refine gq zmv ?_
                          refine gq zia ?_
                          refine gq (r_ld1o rfl Ty.row_4 (hkk.cellV h3k false).1 hAk) ?_
                          refine gp zpk ?_
                          refine gnt ?_
                          refine gif rfl (fun hc100 => ?_) (fun hc100 => ?_)
                          · try simp only at hc100
                            have hS : keepS (bF fs) (bF sn) kb k j i = secOf (bF sn i) := if_pos ⟨h2j, hc100⟩
                            obtain ⟨gu, ju, hau, hAu, _, _⟩ := hu.2.2 (by omega)
                            subst hau
                            refine gc_region ?_
                            refine gp zmv ?_
                            refine gp zmv ?_
                            refine gp zia ?_
                            refine gp (r_ld1o (v := B8 (bF sn i)) rfl Ty.row_5 (hu.cellV h2j 0).1 hAu) ?_
                            refine gp zas ?_
                            refine gnt ?_
                            refine gsr ?_
                            refine gp zmv ?_
                            refine gp zmv ?_
                            refine zc (fun _ => ?_) (c := fun w1 F1 F2 h1 h2 hd hst => read_ok (i := (i : Int)) h1 (hE.mv hst.still))
                            rw [show ((dK 50 (upd1 (bF fs) k fun _ => sec0) (bF sn) j).crash kb).rd (i : Int) = (0, keepS (bF fs) (bF sn) kb k j i) from dK_rd hi']
                            refine gp zmv ?_
                            refine gp zex ?_
                            refine gp zex ?_
                            refine zal fun b16 => ?_
                            refine zsA (new := sc (keepS (bF fs) (bF sn) kb k j i)) (sc_length _) (sc_one _) ?_
                            refine gp zas ?_
                            refine gnt ?_
                            refine gsr ?_
                            refine gp zmv ?_
                            refine gp (r_bool (c := false) (r_nenil rfl (by kernel_rfl)) rfl) ?_
                            refine gp zmv ?_
                            refine gq zib ?_
                            refine gq (zl (v := B8 (keepS (bF fs) (bF sn) kb k j i).b) (hv := sc_zero _)) ?_
                            refine gq zmv ?_
                            refine gq (r_bool (c := false) zni (by rw [hS]; exact congrArg (!·) (decide_eq_true rfl))) ?_
                            refine gp zpk ?_
                            refine gnt ?_
                            refine gc_condF rfl rfl ?_
                            refine gc_skip ?_
                            refine gx_block_normal ?_
                            refine gx_then ?_
                            refine gc_region ?_
                            refine gp zad ?_
                            refine gp zmv ?_
                            refine gl_nil ?_
                            refine zrd (i + 1) ?_ ?_
                            · show 50 - (i + 1) < 50 - i
                              omega
                            · exact zlp (show i + 1 ≤ 50 by omega)
                          · try simp only at hc100
                            have hS : keepS (bF fs) (bF sn) kb k j i = upd1 (bF fs) k (fun _ => sec0) i := if_neg (fun h => (by rw [hc100] at h; cases h.2))
                            refine gc_skip ?_
                            refine gx_then ?_
                            refine gsr ?_
                            refine gp zmv ?_
                            refine gp zmv ?_
                            refine zc (fun _ => ?_) (c := fun w1 F1 F2 h1 h2 hd hst => read_ok (i := (i : Int)) h1 (hE.mv hst.still))
                            rw [show ((dK 50 (upd1 (bF fs) k fun _ => sec0) (bF sn) j).crash kb).rd (i : Int) = (0, keepS (bF fs) (bF sn) kb k j i) from dK_rd hi']
                            refine gp zmv ?_
                            refine gp zex ?_
                            refine gp zex ?_
                            refine zal fun b16 => ?_
                            refine zsA (new := sc (keepS (bF fs) (bF sn) kb k j i)) (sc_length _) (sc_one _) ?_
                            refine gp zas ?_
                            refine gnt ?_
                            refine gsr ?_
                            refine gp zmv ?_
                            refine gp (r_bool (c := false) (r_nenil rfl (by kernel_rfl)) rfl) ?_
                            refine gp zmv ?_
                            refine gq zib ?_
                            refine gq (zl (v := B8 (keepS (bF fs) (bF sn) kb k j i).b) (hv := sc_zero _)) ?_
                            refine gq zmv ?_
                            refine gq (r_bool (c := false) zni (by rw [hS]; exact congrArg (!·) (decide_eq_true rfl))) ?_
                            refine gp zpk ?_
                            refine gnt ?_
                            refine gc_condF rfl rfl ?_
                            refine gc_skip ?_
                            refine gx_block_normal ?_
                            refine gx_then ?_
                            refine gc_region ?_
                            refine gp zad ?_
                            refine gp zmv ?_
                            refine gl_nil ?_
                            refine zrd (i + 1) ?_ ?_
                            · show 50 - (i + 1) < 50 - i
                              omega
                            · exact zlp (show i + 1 ≤ 50 by omega)
                        · have hS : keepS (bF fs) (bF sn) kb k j i = upd1 (bF fs) k (fun _ => sec0) i := if_neg (fun h => (by have h9 : kb[i]? = none := List.getElem?_eq_none (by omega); simp [List.getD, h9] at h))
                          refine gc_region ?_
                          refine gp zmv ?_
                          refine gp zmv ?_
                          refine gp zln ?_
                          refine gp (r_bool (c := true) zlt (decide_eq_true (by omega))) ?_
                          refine gp zmv ?_
                          refine gq zmv ?_
                          refine gq zmv ?_
                          refine gq zln ?_
                          refine gq (r_bool (c := false) zlt (decide_eq_false (by omega))) ?_
                          refine gp zpk ?_
                          refine gp zmv ?_
                          refine gn ?_
                          refine gn ?_
                          refine gn ?_
                          refine gn ?_
                          refine gp zpk ?_
                          refine gnt ?_
                          refine gc_condF rfl rfl ?_
                          refine gc_skip ?_
                          refine gx_then ?_
                          refine gsr ?_
                          refine gp zmv ?_
                          refine gp zmv ?_
                          refine zc (fun _ => ?_) (c := fun w1 F1 F2 h1 h2 hd hst => read_ok (i := (i : Int)) h1 (hE.mv hst.still))
                          rw [show ((dK 50 (upd1 (bF fs) k fun _ => sec0) (bF sn) j).crash kb).rd (i : Int) = (0, keepS (bF fs) (bF sn) kb k j i) from dK_rd hi']
                          refine gp zmv ?_
                          refine gp zex ?_
                          refine gp zex ?_
                          refine zal fun b16 => ?_
                          refine zsA (new := sc (keepS (bF fs) (bF sn) kb k j i)) (sc_length _) (sc_one _) ?_
                          refine gp zas ?_
                          refine gnt ?_
                          refine gsr ?_
                          refine gp zmv ?_
                          refine gp (r_bool (c := false) (r_nenil rfl (by kernel_rfl)) rfl) ?_
                          refine gp zmv ?_
                          refine gq zib ?_
                          refine gq (zl (v := B8 (keepS (bF fs) (bF sn) kb k j i).b) (hv := sc_zero _)) ?_
                          refine gq zmv ?_
                          refine gq (r_bool (c := false) zni (by rw [hS]; exact congrArg (!·) (decide_eq_true rfl))) ?_
                          refine gp zpk ?_
                          refine gnt ?_
                          refine gc_condF rfl rfl ?_
                          refine gc_skip ?_
                          refine gx_block_normal ?_
                          refine gx_then ?_
                          refine gc_region ?_
                          refine gp zad ?_
                          refine gp zmv ?_
                          refine gl_nil ?_
                          refine zrd (i + 1) ?_ ?_
                          · show 50 - (i + 1) < 50 - i
                            omega
                          · exact zlp (show i + 1 ≤ 50 by omega)
                      · have hS : keepS (bF fs) (bF sn) kb k j i = upd1 (bF fs) k (fun _ => sec0) i := if_neg (fun h => h2j h.1)
                        refine gc_region ?_
                        refine gp zmv ?_
                        refine gp zmv ?_
                        refine gp zln ?_
                        refine gp (r_bool (c := false) zlt (decide_eq_false (by omega))) ?_
                        refine gp zmv ?_
                        refine gn ?_
                        refine gn ?_
                        refine gn ?_
                        refine gn ?_
                        refine gp zpk ?_
                        refine gp zmv ?_
                        refine gn ?_
                        refine gn ?_
                        refine gn ?_
                        refine gn ?_
                        refine gp zpk ?_
                        refine gnt ?_
                        refine gc_condF rfl rfl ?_
                        refine gc_skip ?_
                        refine gx_then ?_
                        refine gsr ?_
                        refine gp zmv ?_
                        refine gp zmv ?_
                        refine zc (fun _ => ?_) (c := fun w1 F1 F2 h1 h2 hd hst => read_ok (i := (i : Int)) h1 (hE.mv hst.still))
                        rw [show ((dK 50 (upd1 (bF fs) k fun _ => sec0) (bF sn) j).crash kb).rd (i : Int) = (0, keepS (bF fs) (bF sn) kb k j i) from dK_rd hi']
                        refine gp zmv ?_
                        refine gp zex ?_
                        refine gp zex ?_
                        refine zal fun b16 => ?_
                        refine zsA (new := sc (keepS (bF fs) (bF sn) kb k j i)) (sc_length _) (sc_one _) ?_
                        refine gp zas ?_
                        refine gnt ?_
                        refine gsr ?_
                        refine gp zmv ?_
                        refine gp (r_bool (c := false) (r_nenil rfl (by kernel_rfl)) rfl) ?_
                        refine gp zmv ?_
                        refine gq zib ?_
                        refine gq (zl (v := B8 (keepS (bF fs) (bF sn) kb k j i).b) (hv := sc_zero _)) ?_
                        refine gq zmv ?_
                        refine gq (r_bool (c := false) zni (by rw [hS]; exact congrArg (!·) (decide_eq_true rfl))) ?_
                        refine gp zpk ?_
                        refine gnt ?_
                        refine gc_condF rfl rfl ?_
                        refine gc_skip ?_
                        refine gx_block_normal ?_
                        refine gx_then ?_
                        refine gc_region ?_
                        refine gp zad ?_
                        refine gp zmv ?_
                        refine gl_nil ?_
                        refine zrd (i + 1) ?_ ?_
                        · show 50 - (i + 1) < 50 - i
                          omega
                        · exact zlp (show i + 1 ≤ 50 by omega)
                  · refine gc_exit ?_
                    refine gx_then_exit ?_
                    refine gx_round_exit ?_
                    refine gx_block_hit ?_
                    refine gx_then ?_
                    refine gsr ?_
                    refine gp zmv ?_
                    refine zc ?_ (c := fun w1 F1 F2 h1 h2 hd hst => unsynced_ok h1 (crash_ok (dK_ok (by decide) (by omega))))
                    rintro ⟨a121, c121⟩
                    refine gp zln ?_
                    refine gp (r_bool (c := true) zei (decide_eq_true rfl)) ?_
                    refine gp zas ?_
                    refine gnt ?_
                    refine gc_ret ?_
                    refine gx_ret1 rfl (by conv => lhs; whnf) ?_
                    exact ze ()

end Go.Proofs.YtapcnajfbippmaaDoor
