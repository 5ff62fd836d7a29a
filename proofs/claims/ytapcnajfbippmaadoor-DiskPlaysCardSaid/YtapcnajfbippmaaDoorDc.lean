/- Walks, by program (wg.py) out of a spec. -/
import Derived.Test.YtapcnajfbippmaaDoorDb
import Derived.Test.YtapcnajfbippmaaDoorPlF
namespace Go.Proofs.YtapcnajfbippmaaDoor
open Go
set_option linter.unusedVariables false
set_option linter.unusedSimpArgs false

attribute [local irreducible] Gl Gc Gx Gs Runs Wt

set_option maxHeartbeats 400000 in
theorem alive06_ok {w : World} {F : Nat → Prop} (h : stars [] w F) {ea : Nat → Addr} {es : List Nat} [Has es 1] [Has es 6] (hE : GErr es w (fun k => ¬ F k) 109 ea) :
    Calls Tryd.prog 8 #[] w (Post w F (fun _ : Unit => .bool true) (fun _ => [])) := by
  refine g_enter (env := []) Tryd.func8 rfl h Tryd.ntmps8 rfl rfl ?_
  refine gsr ?_
  refine gp zas ?_
  refine gnt ?_
  refine gsr ?_
  refine zc (fun g8 => ?_) (c := fun w1 F1 F2 h1 h2 hd hst => new_ok (n := 2) (ea := ea) h1 (by decide) (by decide))
  refine gp zmv ?_
  refine gp zex ?_
  refine gp zex ?_
  refine gp zas ?_
  refine gp zas ?_
  refine gnt ?_
  refine gc_seq ?_
  refine gsr ?_
  refine gp zmv ?_
  refine gp (r_bool (c := false) (r_nenil rfl (by kernel_rfl)) rfl) ?_
  refine gp zmv ?_
  refine gq zmv ?_
  refine gq (r_bool (c := false) (r_eqpn rfl Ty.un_25) rfl) ?_
  refine gp zpk ?_
  refine gp zmv ?_
  refine gq zmv ?_
  refine gq (zba (cs := sc (secOf (1))) (by exact rfl)) ?_
  refine zc (fun _ => ?_) (c := fun w1 F1 F2 h1 h2 hd hst => write_ok' (i := 0) (v := secOf (1)) h1 aD0_ok (hE.mv hst.still))
  rw [aD0_wr]
  refine gq (r_bool (c := false) (r_nenil rfl (by kernel_rfl)) rfl) ?_
  refine gp zpk ?_
  refine gp zmv ?_
  refine gq zmv ?_
  refine zc (fun _ => ?_) (c := fun w1 F1 F2 h1 h2 hd hst => sync_ok' (d := aD1) h1 aD1_ok (hE.mv hst.still))
  rw [aD1_err, aD1_sync]
  refine gq (r_bool (c := false) (r_nenil rfl (by kernel_rfl)) rfl) ?_
  refine gp zpk ?_
  refine gp zmv ?_
  refine gq zmv ?_
  refine gq (zba (cs := sc (secOf (2))) (by exact rfl)) ?_
  refine zc (fun _ => ?_) (c := fun w1 F1 F2 h1 h2 hd hst => write_ok' (i := 1) (v := secOf (2)) h1 aD2_ok (hE.mv hst.still))
  rw [aD2_wr]
  refine gq (r_bool (c := false) (r_nenil rfl (by kernel_rfl)) rfl) ?_
  refine gp zpk ?_
  refine gnt ?_
  refine gc_condF rfl rfl ?_
  refine gc_skip ?_
  refine gx_then ?_
  refine gsr ?_
  refine gp zmv ?_
  refine zc (fun _ => ?_) (c := fun w1 F1 F2 h1 h2 hd hst => crash_ok' (d := aD3) (kb := []) h1 aD3_ok RdRow.nil)
  rw [show aD3.crash [] = aD4 from rfl]
  refine gnt ?_
  refine gsr ?_
  refine gp zmv ?_
  refine zc (fun _ => ?_) (c := fun w1 F1 F2 h1 h2 hd hst => read_ok (i := 0) h1 (hE.mv hst.still))
  rw [aD4_0]
  refine gp zmv ?_
  refine gp zex ?_
  refine gp zex ?_
  refine zal fun b3 => ?_
  refine zsA (new := sc (secOf 1)) (sc_length _) (sc_one _) ?_
  refine gp zas ?_
  refine gnt ?_
  refine gsr ?_
  refine gp zmv ?_
  refine zc (fun _ => ?_) (c := fun w1 F1 F2 h1 h2 hd hst => read_ok (i := 1) h1 (hE.mv hst.still))
  rw [aD4_1]
  refine gp zmv ?_
  refine gp zex ?_
  refine gp zex ?_
  refine zal fun b5 => ?_
  refine zsA (new := sc (sec0)) (sc_length _) (sc_one _) ?_
  refine gp zas ?_
  refine gnt ?_
  refine gsr ?_
  refine gp zmv ?_
  refine gp (r_bool (c := true) (r_eqnil rfl (by kernel_rfl)) rfl) ?_
  refine gp zmv ?_
  refine gq zmv ?_
  refine gq (r_bool (c := true) (r_eqnil rfl (by kernel_rfl)) rfl) ?_
  refine gp zpk ?_
  refine gp zmv ?_
  refine gq zib ?_
  refine gq (zl (v := B8 (secOf 1).b) (hv := sc_zero _)) ?_
  refine gq (r_bool (c := true) zei rfl) ?_
  refine gp zpk ?_
  refine gp zmv ?_
  refine gq zib ?_
  refine gq (zl (v := B8 (sec0).b) (hv := sc_zero _)) ?_
  refine gq (r_bool (c := true) zei rfl) ?_
  refine gp zpk ?_
  refine gp zas ?_
  refine gnt ?_
  refine gc_ret ?_
  refine gx_ret1 rfl (by conv => lhs; whnf) ?_
  exact ze ()

end Go.Proofs.YtapcnajfbippmaaDoor
