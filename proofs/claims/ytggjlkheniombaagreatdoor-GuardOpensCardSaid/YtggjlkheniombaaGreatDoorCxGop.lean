/- Part 5. What is proved: see the last part: for every input the law returns true, and the input reads as it did. -/
import Derived.Test.YtggjlkheniombaaGreatDoorCx4
import Derived.Test.YtggjlkheniombaaGreatDoorCards
import Derived.Test.YtggjlkheniombaaGreatDoorTie
import Derived.Deep.DeepHandedRow
import Derived.Deep.DeepWitnessRowRef
namespace Go.Proofs.YtggjlkheniombaaGreatDoor
open Go
set_option linter.unusedVariables false
set_option linter.unusedSimpArgs false
set_option linter.unusedSectionVars false
section
def fO (r : List UInt8) : Nat → Sec := updS (fmtW (fun _ => sec0) 0) 1 (slotS ((1 : Nat) : Int) r)
theorem fO_put {r : List UInt8} (hr : r.length ≤ 31) : put (dW 4 (fmtW (fun _ => sec0) 0)) ⟨0, 0, []⟩ r = (0, dW 4 (fO r), ⟨0, 1, r⟩) := put_W (n := 4) (b := 0) (c := 0) (by decide) (by decide) hr
theorem fO_opn {r : List UInt8} (hr : r.length ≤ 31) : opn (dW 4 (fO r)) 0 = some ⟨0, 1, r⟩ := opn_good (d := dW 4 (fO r)) (good_put (goodW_fmt _) (by decide) hr)
def fO2 (r : List UInt8) (e : Int) : Nat → Sec := updS (fmtW (fO r) 2) 3 (slotS ((1 : Nat) : Int) (bytV (sE e)))
theorem fO2_put {r : List UInt8} {e : Int} : put (dW 4 (fmtW (fO r) 2)) ⟨2, 0, []⟩ (bytV (sE e)) = (0, dW 4 (fO2 r e), ⟨2, 1, bytV (sE e)⟩) := put_W (n := 4) (b := 2) (c := 0) (by decide) (by decide) (by rw [bytV_len]; decide)
theorem sE_no {e : Int} (h : ¬ (0 ≤ e ∧ e ≤ 1073741824)) : ¬ (⟨e, 0, 0, 0, 0⟩ : VSt).ok = true := fun h0 => h (VSt.okI h0).1
theorem nat24 : 0 ≤ (2 : Int) ∧ (2 : Int) ≤ 4096 := by decide
attribute [local irreducible] Gl Gc Gx Gs Runs Wt
set_option maxHeartbeats 1000000 in
set_option maxRecDepth 20000 in
theorem guardOpens_ok {w : World} {F : Nat → Prop} {ar : Option Addr} {nr cr : Nat} {r : List UInt8} {e : Int} (h : stars [] w F) {ea : Nat → Addr} (hN : NErr w (fun k => ¬ F k) ea) (hK : KR w (fun k => ¬ F k)) (hr : RdRow w (fun k => ¬ F k) 1 ar nr (r.map B8)) (hcc : nr ≤ cr) :
    Calls Tryz.prog 3 #[.slice ar nr cr, .int .i64 e] w (Post w F (fun _ : Unit => .bool true) (fun _ => [])) := by
 have hE := hN.g
 have hnr : nr = r.length := by have := hr.1; simp at this; omega
 subst hnr; refine g_enter (env := [(0, _), (1, .int .i64 e)]) Tryz.func3 rfl h Tryz.ntmps3 rfl rfl ?_; refine gsr (zxa ?_); refine gnt (gc_seq (gsr (zc (fun _ => ?_) (c := fun w1 F1 F2 h1 h2 hd hst => alive14_ok h1 (hN.mv hst.still) (hK.mv hst.still)))))
 refine gp (r_bool (c := false) znt (rfl)) ?_; refine gnt (gc_condF rfl rfl ?_); refine gc_skip (gx_then (gc_seq (gsr (zxm ?_)))); refine gp zln ?_; refine gp zgt ?_; refine gnt (gif rfl (fun hc21 => ?_) (fun hc21 => ?_))
 ·refine gsr (zxa ?_); refine gnt (gc_ret (gx_then_ret (gx_ret1 rfl (by conv => lhs; whnf) ?_))); exact ze ()
 ·try simp only at hc21
  have hr31 : r.length ≤ 31 := by omega
  refine gc_skip (gx_then (gsr (zc (fun g23 => ?_) (c := fun w1 F1 F2 h1 h2 hd hst => new_ok (n := 4) (ea := ea) h1 (by decide) (by decide)))))
  refine zxm ?_; refine gp zex ?_; refine gp zex ?_; refine zxa ?_; refine zxa ?_; refine gnt (gc_seq (gsr (zxm ?_))); refine gp (r_bool (c := false) (r_nenil rfl (by kernel_rfl)) rfl) ?_; refine gnt (gc_condF rfl rfl ?_); refine gc_skip (gx_then (gsr (gp (zba (cs := dc (digO 9)) (hf := by kernel_rfl)) ?_))); refine zc (fun q29 => ?_) (c := fun w1 F1 F2 h1 h2 hd hst => knew_ok (ea := ea) (seed := digO 9) h1 (hK.mv hst.still))
  refine zxa ?_; refine gnt (gc_seq (gsr (zxm ?_))); refine zxm ?_; refine zc (fun _ => ?_) (c := fun w1 F1 F2 h1 h2 hd hst => gopen_N (b := 0) (d := dW 4 fun _ => sec0) h1 (dW_ok (by decide) _) rfl rfl (dW_none 4 0) (hE.mv hst.still) (hK.mv hst.still))
  refine zxm ?_; refine gp zex ?_; refine gp zex ?_; refine zxa ?_; refine zxa ?_; refine zxs ?_; refine zxm ?_; refine zc (fun _ => ?_) (c := fun w1 F1 F2 h1 h2 hd hst => errNum_ok (n := 7) h1 (hN.mv hst.still) (by decide))
  refine gp (r_bool (c := false) zni rfl) ?_; refine gnt (gc_condF rfl rfl ?_); refine gc_skip (gx_then (gsr (zxm ?_))); refine zc (fun g41 => ?_) (c := fun w1 F1 F2 h1 h2 hd hst => format_G (b := 0) (fmt_W (n := 4) (f := fun _ => sec0) (b := 0) (by decide)) h1 (dW_ok (by decide) _) (hE.mv hst.still) (hK.mv hst.still))
  refine zxm ?_; refine gp zex ?_; refine gp zex ?_; refine zxa ?_; refine zxa ?_; refine gnt (gc_seq (gsr (zxm ?_))); refine gp (r_bool (c := false) (r_nenil rfl (by kernel_rfl)) rfl) ?_; refine zxm ?_; refine gq zmv ?_; refine gq zmv ?_; refine zc (fun _ => ?_) (c := fun w1 F1 F2 h1 h2 hd hst => put_S (s := ⟨0, 0, []⟩) (fO_put hr31) h1 (dW_ok (by decide) _) (hE.mv hst.still) (hK.mv hst.still) nat0 (by show (0 : Nat) < _; decide) (hr.mv hst.still) hcc)
  refine gq (r_bool (c := false) (r_nenil rfl (by kernel_rfl)) rfl) ?_; refine gp zpk ?_; refine gnt (gc_condF rfl rfl ?_); refine gc_skip (gx_then (gc_seq ?_)); by_cases hv : (readV r).1 = 0
  ·refine gc_region (zxm ?_); refine zxm ?_; refine zc ?_ (c := fun w1 F1 F2 h1 h2 hd hst => gopen_S (b := 0) (d := dW 4 (fO r)) (sl := ⟨0, 1, r⟩) (s := (readV r).2) h1 (dW_ok (by decide) _) rfl rfl (fO_opn hr31) hr31 (Prod.ext hv rfl) (hE.mv hst.still) (hK.mv hst.still))
   rintro ⟨g55, q55⟩
   refine zxm ?_; refine gp zex ?_; refine gp zex ?_; refine zxa ?_; refine zxa ?_; refine zxs ?_; refine zxm ?_; refine zc (fun _ => ?_) (c := fun w1 F1 F2 h1 h2 hd hst => rread13_ok (b := r) h1 (hr.mv hst.still) hcc (by omega))
   refine zxm ?_; refine gp zex ?_; refine gp zex ?_; refine zal fun b12 => ?_; refine zsA (stC_len _) (stC_one _) ?_; refine zxa ?_; refine gnt (gc_seq (gc_seq (gc_regionH ([blk b12 42 (stC (readV r).2)]) ?_))); refine yp 0 rfl zmv ?_; refine yp 1 rfl (r_bool (c := true) zei (decide_eq_true (by omega))) ?_; refine yp 2 rfl zmv ?_; refine yp 3 rfl (r_bool (c := true) (r_eqnil (k := 0) rfl (by kernel_rfl)) rfl) ?_; refine yp 4 rfl (r_bool (c := false) (r_neq_bool rfl rfl Tryz.underlying4) rfl) ?_; refine yp 5 rfl zmv ?_; refine yp 6 rfl zmv ?_; refine yp 7 rfl (r_bool (c := false) zni (by simp [hv])) ?_; refine yp 8 rfl zmv ?_; refine yn 9 rfl ?_; refine yn 10 rfl ?_; refine yn 11 rfl ?_; refine yp 12 rfl zpk ?_; refine yp 13 rfl zpk ?_; refine yp 14 rfl zmv ?_; refine yp 15 rfl zmv ?_; refine yp 16 rfl (r_bool (c := true) zei (decide_eq_true (by omega))) ?_; refine yp 17 rfl zmv ?_; refine yp 18 rfl zmv ?_; refine yp 20 rfl (zLa (cs := stC (readV r).2)) ?_; refine yo 19 rfl ?_; refine zc (fun _ => ?_) (c := fun w1 F1 F2 h1 h2 hd hst => gstate_ok (d := dZ fun _ => sec0) h1)
   refine yx ?_; refine yp 21 rfl (r_bool (c := false) (r_nest (a := (readV r).2) (b := (readV r).2) (Tryz.underlying42) (by kernel_rfl) (I := 3) Ty.un_3 (by kernel_rfl) (by kernel_rfl) (by kernel_rfl)) (by simp)) ?_; refine yp 22 rfl zpk ?_; refine yp 23 rfl zpk ?_; refine yd ?_; refine gx_then (gc_condF rfl rfl ?_); refine gc_skip (gx_then (gc_seq ?_)); by_cases he : 0 ≤ e ∧ e ≤ 1073741824
   ·refine gc_region (zxm ?_); refine zxm ?_; refine zxm ?_; refine zc ?_ (c := fun w1 F1 F2 h1 h2 hd hst => gform_S (b := 2) (e := e) (d := dW 4 (fO r)) h1 (dW_ok (by decide) _) rfl (sE_ok he) (fmt_W (n := 4) (b := 2) (by decide)) (dW_ok (by decide) _) fO2_put nat24 (hE.mv hst.still) (hK.mv hst.still))
    rintro ⟨g91, q91⟩
    refine zxm ?_; refine gp zex ?_; refine gp zex ?_; refine zxa ?_; refine zxa ?_; refine gnt (gc_seq (gsr (zxm ?_))); refine gp (r_bool (c := false) zlt (decide_eq_false (by omega))) ?_; refine zxm ?_; refine gq zmv ?_; refine gq (r_bool (c := false) zgt (decide_eq_false (by omega))) ?_; refine gp zpk ?_; refine gnt (gc_condF rfl rfl ?_); refine gc_skip (gx_then (gsr (zxm ?_))); refine zxm ?_; refine zxm ?_; refine zc (fun _ => ?_) (c := fun w1 F1 F2 h1 h2 hd hst => gform_1 (b := 3) (e := e) (d := dW 4 (fO2 r e)) h1 (dW_ok (by decide) _) (sE_ok he) (fmt_no (n := 4) (b := 3) (by decide)) (hE.mv hst.still) (hK.mv hst.still))
    refine zxm ?_; refine gp zex ?_; refine gp zex ?_; refine zxa ?_; refine zxa ?_; refine gnt (gc_seq (gc_gd (g := g91) (qk := q29) (qs := q91) (gd := g23) (s := sE e) (sl := ⟨2, 1, bytV (sE e)⟩) (by repeat (first | exact Pick.here | apply Pick.there)) ?_)); refine gc_region (zxm ?_); refine gp (r_bool (c := true) (r_eqnil (k := 0) rfl (by kernel_rfl)) rfl) ?_; refine zxm ?_; refine gq zmv ?_; refine gq (r_bool (c := true) (r_nepn rfl Ty.un_33) rfl) ?_; refine gp zpk ?_; refine zxm ?_; refine gq zmv ?_; refine zc (fun _ => ?_) (c := fun w1 F1 F2 h1 h2 hd hst => gstateB_ok h1)
    refine gq zmv ?_; refine gq (zbu (cs := stC (sE e))) ?_; refine gq (r_bool (c := true) (r_eqst (a := sE e) (b := sE e) (Tryz.underlying45) (by kernel_rfl) (I := 3) Ty.un_3 (by kernel_rfl) (by kernel_rfl) (by kernel_rfl)) (decide_eq_true rfl)) ?_; refine gp zpk ?_; refine zxm ?_; refine gq zmv ?_; refine gq znc ?_; refine gq zfa ?_; refine gq zl ?_; refine zc (fun _ => ?_) (c := fun w1 F1 F2 h1 h2 hd hst => kroot_ok h1)
    refine gq zmv ?_; refine zc (fun _ => ?_) (c := fun w1 F1 F2 h1 h2 hd hst => kroot_ok h1)
    refine gq (r_bool (c := true) zed (decide_eq_true rfl)) ?_; refine gp zpk ?_; refine zxm ?_; refine gq zmv ?_; refine zc (fun _ => ?_) (c := fun w1 F1 F2 h1 h2 hd hst => errNum_ok (n := 1) h1 (hN.mv hst.still) (by decide))
    refine gq (r_bool (c := true) zei (decide_eq_true rfl)) ?_; refine gp zpk ?_; refine zxa ?_; refine gnt (gc_ret (gx_ret1 rfl (by conv => lhs; whnf) ?_)); exact ze ()
   ·refine gc_region (zxm ?_); refine zxm ?_; refine zxm ?_; refine zc (fun _ => ?_) (c := fun w1 F1 F2 h1 h2 hd hst => gform_4 (b := 2) (e := e) (d := dW 4 (fO r)) h1 (dW_ok (by decide) _) (sE_no he) (hE.mv hst.still))
    refine zxm ?_; refine gp zex ?_; refine gp zex ?_; refine zxa ?_; refine zxa ?_; refine gnt (gc_seq (gc_seq ?_)); by_cases hneg : e < 0
    ·refine gc_region (zxm ?_); refine gp (r_bool (c := true) zlt (decide_eq_true hneg)) ?_; refine zxm ?_; refine gn ?_; refine gn ?_; refine gp zpk ?_; refine gnt (gc_condT rfl rfl ?_); refine gsr (zxm ?_); refine gp (r_bool (c := true) (r_eqpn rfl Ty.un_33) rfl) ?_; refine zxm ?_; refine gq zmv ?_; refine zc (fun _ => ?_) (c := fun w1 F1 F2 h1 h2 hd hst => errNum_ok (n := 4) h1 (hN.mv hst.still) (by decide))
     refine gq (r_bool (c := true) zei (decide_eq_true rfl)) ?_; refine gp zpk ?_; refine zxa ?_; refine gnt (gc_ret (gx_then_ret (gx_ret1 rfl (by conv => lhs; whnf) ?_))); exact ze ()
    ·refine gc_region (zxm ?_); refine gp (r_bool (c := false) zlt (decide_eq_false hneg)) ?_; refine zxm ?_; refine gq zmv ?_; refine gq (r_bool (c := true) zgt (decide_eq_true (by omega))) ?_; refine gp zpk ?_; refine gnt (gc_condT rfl rfl ?_); refine gsr (zxm ?_); refine gp (r_bool (c := true) (r_eqpn rfl Ty.un_33) rfl) ?_; refine zxm ?_; refine gq zmv ?_; refine zc (fun _ => ?_) (c := fun w1 F1 F2 h1 h2 hd hst => errNum_ok (n := 4) h1 (hN.mv hst.still) (by decide))
     refine gq (r_bool (c := true) zei (decide_eq_true rfl)) ?_; refine gp zpk ?_; refine zxa ?_; refine gnt (gc_ret (gx_then_ret (gx_ret1 rfl (by conv => lhs; whnf) ?_))); exact ze ()
  ·refine gc_region (zxm ?_); refine zxm ?_; refine zc (fun _ => ?_) (c := fun w1 F1 F2 h1 h2 hd hst => gopen_B (b := 0) (d := dW 4 (fO r)) (sl := ⟨0, 1, r⟩) h1 (dW_ok (by decide) _) rfl rfl (fO_opn hr31) hr31 hv (hE.mv hst.still) (hK.mv hst.still))
   refine zxm ?_; refine gp zex ?_; refine gp zex ?_; refine zxa ?_; refine zxa ?_; refine zxs ?_; refine zxm ?_; refine zc (fun _ => ?_) (c := fun w1 F1 F2 h1 h2 hd hst => rread13_ok (b := r) h1 (hr.mv hst.still) hcc (by omega))
   refine zxm ?_; refine gp zex ?_; refine gp zex ?_; refine zal fun b12 => ?_; refine zsA (stC_len _) (stC_one _) ?_; refine zxa ?_; refine gnt (gc_seq (gc_seq (gc_regionH ([blk b12 42 (stC (readV r).2)]) ?_))); refine yp 0 rfl zmv ?_; refine yp 1 rfl (r_bool (c := false) zei (decide_eq_false (by omega))) ?_; refine yp 2 rfl zmv ?_; refine yp 3 rfl (r_bool (c := false) (r_eqnil (k := 7) rfl (by kernel_rfl)) rfl) ?_; refine yp 4 rfl (r_bool (c := false) (r_neq_bool rfl rfl Tryz.underlying4) rfl) ?_; refine yp 5 rfl zmv ?_; refine yp 6 rfl zmv ?_; refine yp 7 rfl (r_bool (c := true) zni (by simp; omega)) ?_; refine yp 8 rfl zmv ?_; refine yp 9 rfl zmv ?_; refine yo 10 rfl ?_; refine zc (fun _ => ?_) (c := fun w1 F1 F2 h1 h2 hd hst => errNum_ok (n := 7) h1 (hN.mv hst.still) (by decide))
   refine yx ?_; refine yp 11 rfl (r_bool (c := false) zni rfl) ?_; refine yp 12 rfl zpk ?_; refine yp 13 rfl zpk ?_; refine yp 14 rfl zmv ?_; refine yp 15 rfl zmv ?_; refine yp 16 rfl (r_bool (c := false) zei (decide_eq_false (by omega))) ?_; refine yp 17 rfl zmv ?_; refine yn 18 rfl ?_; refine yn 19 rfl ?_; refine yn 20 rfl ?_; refine yn 21 rfl ?_; refine yp 22 rfl zpk ?_; refine yp 23 rfl zpk ?_; refine yd ?_; refine gx_then (gc_condF rfl rfl ?_); refine gc_skip (gx_then (gc_seq ?_)); by_cases he : 0 ≤ e ∧ e ≤ 1073741824
   ·refine gc_region (zxm ?_); refine zxm ?_; refine zxm ?_; refine zc ?_ (c := fun w1 F1 F2 h1 h2 hd hst => gform_S (b := 2) (e := e) (d := dW 4 (fO r)) h1 (dW_ok (by decide) _) rfl (sE_ok he) (fmt_W (n := 4) (b := 2) (by decide)) (dW_ok (by decide) _) fO2_put nat24 (hE.mv hst.still) (hK.mv hst.still))
    rintro ⟨g91, q91⟩
    refine zxm ?_; refine gp zex ?_; refine gp zex ?_; refine zxa ?_; refine zxa ?_; refine gnt (gc_seq (gsr (zxm ?_))); refine gp (r_bool (c := false) zlt (decide_eq_false (by omega))) ?_; refine zxm ?_; refine gq zmv ?_; refine gq (r_bool (c := false) zgt (decide_eq_false (by omega))) ?_; refine gp zpk ?_; refine gnt (gc_condF rfl rfl ?_); refine gc_skip (gx_then (gsr (zxm ?_))); refine zxm ?_; refine zxm ?_; refine zc (fun _ => ?_) (c := fun w1 F1 F2 h1 h2 hd hst => gform_1 (b := 3) (e := e) (d := dW 4 (fO2 r e)) h1 (dW_ok (by decide) _) (sE_ok he) (fmt_no (n := 4) (b := 3) (by decide)) (hE.mv hst.still) (hK.mv hst.still))
    refine zxm ?_; refine gp zex ?_; refine gp zex ?_; refine zxa ?_; refine zxa ?_; refine gnt (gc_seq (gc_gd (g := g91) (qk := q29) (qs := q91) (gd := g23) (s := sE e) (sl := ⟨2, 1, bytV (sE e)⟩) (by repeat (first | exact Pick.here | apply Pick.there)) ?_)); refine gc_region (zxm ?_); refine gp (r_bool (c := true) (r_eqnil (k := 0) rfl (by kernel_rfl)) rfl) ?_; refine zxm ?_; refine gq zmv ?_; refine gq (r_bool (c := true) (r_nepn rfl Ty.un_33) rfl) ?_; refine gp zpk ?_; refine zxm ?_; refine gq zmv ?_; refine zc (fun _ => ?_) (c := fun w1 F1 F2 h1 h2 hd hst => gstateB_ok h1)
    refine gq zmv ?_; refine gq (zbu (cs := stC (sE e))) ?_; refine gq (r_bool (c := true) (r_eqst (a := sE e) (b := sE e) (Tryz.underlying45) (by kernel_rfl) (I := 3) Ty.un_3 (by kernel_rfl) (by kernel_rfl) (by kernel_rfl)) (decide_eq_true rfl)) ?_; refine gp zpk ?_; refine zxm ?_; refine gq zmv ?_; refine gq znc ?_; refine gq zfa ?_; refine gq zl ?_; refine zc (fun _ => ?_) (c := fun w1 F1 F2 h1 h2 hd hst => kroot_ok h1)
    refine gq zmv ?_; refine zc (fun _ => ?_) (c := fun w1 F1 F2 h1 h2 hd hst => kroot_ok h1)
    refine gq (r_bool (c := true) zed (decide_eq_true rfl)) ?_; refine gp zpk ?_; refine zxm ?_; refine gq zmv ?_; refine zc (fun _ => ?_) (c := fun w1 F1 F2 h1 h2 hd hst => errNum_ok (n := 1) h1 (hN.mv hst.still) (by decide))
    refine gq (r_bool (c := true) zei (decide_eq_true rfl)) ?_; refine gp zpk ?_; refine zxa ?_; refine gnt (gc_ret (gx_ret1 rfl (by conv => lhs; whnf) ?_)); exact ze ()
   ·refine gc_region (zxm ?_); refine zxm ?_; refine zxm ?_; refine zc (fun _ => ?_) (c := fun w1 F1 F2 h1 h2 hd hst => gform_4 (b := 2) (e := e) (d := dW 4 (fO r)) h1 (dW_ok (by decide) _) (sE_no he) (hE.mv hst.still))
    refine zxm ?_; refine gp zex ?_; refine gp zex ?_; refine zxa ?_; refine zxa ?_; refine gnt (gc_seq (gc_seq ?_)); by_cases hneg : e < 0
    ·refine gc_region (zxm ?_); refine gp (r_bool (c := true) zlt (decide_eq_true hneg)) ?_; refine zxm ?_; refine gn ?_; refine gn ?_; refine gp zpk ?_; refine gnt (gc_condT rfl rfl ?_); refine gsr (zxm ?_); refine gp (r_bool (c := true) (r_eqpn rfl Ty.un_33) rfl) ?_; refine zxm ?_; refine gq zmv ?_; refine zc (fun _ => ?_) (c := fun w1 F1 F2 h1 h2 hd hst => errNum_ok (n := 4) h1 (hN.mv hst.still) (by decide))
     refine gq (r_bool (c := true) zei (decide_eq_true rfl)) ?_; refine gp zpk ?_; refine zxa ?_; refine gnt (gc_ret (gx_then_ret (gx_ret1 rfl (by conv => lhs; whnf) ?_))); exact ze ()
    ·refine gc_region (zxm ?_); refine gp (r_bool (c := false) zlt (decide_eq_false hneg)) ?_; refine zxm ?_; refine gq zmv ?_; refine gq (r_bool (c := true) zgt (decide_eq_true (by omega))) ?_; refine gp zpk ?_; refine gnt (gc_condT rfl rfl ?_); refine gsr (zxm ?_); refine gp (r_bool (c := true) (r_eqpn rfl Ty.un_33) rfl) ?_; refine zxm ?_; refine gq zmv ?_; refine zc (fun _ => ?_) (c := fun w1 F1 F2 h1 h2 hd hst => errNum_ok (n := 4) h1 (hN.mv hst.still) (by decide))
     refine gq (r_bool (c := true) zei (decide_eq_true rfl)) ?_; refine gp zpk ?_; refine zxa ?_; refine gnt (gc_ret (gx_then_ret (gx_ret1 rfl (by conv => lhs; whnf) ?_))); exact ze ()
end
section
open Go.ChangeShapes Go.WideShapes Go.ChangeAt Go.RowKit
noncomputable def guardOpens_world (os : Os) : World :=
  let w0 := World.holding Tryz.prog os ⟨#[.cells #[.string ⟨#[113, 117, 111, 114, 97, 116, 101, 58, 32, 114, 97, 110, 103, 101]⟩] 266, .cells #[.string ⟨#[113, 117, 111, 114, 97, 116, 101, 58, 32, 115, 104, 111, 114, 116]⟩] 266, .cells #[.string ⟨#[113, 117, 111, 114, 97, 116, 101, 58, 32, 108, 111, 110, 103]⟩] 266, .cells #[.string ⟨#[113, 117, 111, 114, 97, 116, 101, 58, 32, 102, 111, 114, 109]⟩] 266, .cells #[.string ⟨#[113, 117, 111, 114, 97, 116, 101, 58, 32, 115, 112, 101, 110, 116]⟩] 266, .cells #[.string ⟨#[113, 117, 111, 114, 97, 116, 101, 58, 32, 112, 111, 119, 101, 114]⟩] 266, .cells #[.string ⟨#[113, 117, 111, 114, 97, 116, 101, 58, 32, 100, 105, 115, 107]⟩] 266, .cells #[.string ⟨#[113, 117, 111, 114, 97, 116, 101, 58, 32, 102, 117, 108, 108]⟩] 266, .cells #[.string ⟨#[113, 117, 111, 114, 97, 116, 101, 58, 32, 110, 111, 110, 101]⟩] 266, .cells #[.string ⟨#[113, 117, 111, 114, 97, 116, 101, 58, 32, 111, 108, 100]⟩] 266, .cells #[.string ⟨#[113, 117, 111, 114, 97, 116, 101, 58, 32, 115, 101, 116]⟩] 266, .cells #[.string ⟨#[113, 117, 111, 114, 97, 116, 101, 58, 32, 112, 114, 111, 111, 102]⟩] 266, .cells #[.string ⟨#[113, 117, 111, 114, 97, 116, 101, 58, 32, 108, 101, 97, 100, 101, 114]⟩] 266, .cells #[.string ⟨#[113, 117, 111, 114, 97, 116, 101, 58, 32, 114, 111, 117, 110, 100]⟩] 266, .cells #[.string ⟨#[113, 117, 111, 114, 97, 116, 101, 58, 32, 117, 110, 115, 97, 102, 101]⟩] 266, .cells #[.string ⟨#[113, 117, 111, 114, 97, 116, 101, 58, 32, 112, 97, 114, 101, 110, 116]⟩] 266, .cells #[.string ⟨#[113, 117, 111, 114, 97, 116, 101, 58, 32, 116, 119, 105, 99, 101]⟩] 266, .cells #[.string ⟨#[113, 117, 111, 114, 97, 116, 101, 58, 32, 101, 112, 111, 99, 104]⟩] 266], #[], []⟩
  { w0 with heap := ((((((((((((((((((w0.heap.modify 0 fun
      | .cells _ t fz => .cells #[.iface 241 (.pointer (some ⟨lowB + 0, 0, none⟩))] t fz
      | o => o).modify 2 fun
      | .cells _ t fz => .cells #[.iface 241 (.pointer (some ⟨lowB + 1, 0, none⟩))] t fz
      | o => o).modify 3 fun
      | .cells _ t fz => .cells #[.iface 241 (.pointer (some ⟨lowB + 2, 0, none⟩))] t fz
      | o => o).modify 4 fun
      | .cells _ t fz => .cells #[.iface 241 (.pointer (some ⟨lowB + 3, 0, none⟩))] t fz
      | o => o).modify 5 fun
      | .cells _ t fz => .cells #[.iface 241 (.pointer (some ⟨lowB + 4, 0, none⟩))] t fz
      | o => o).modify 6 fun
      | .cells _ t fz => .cells #[.iface 241 (.pointer (some ⟨lowB + 5, 0, none⟩))] t fz
      | o => o).modify 1 fun
      | .cells _ t fz => .cells #[.iface 241 (.pointer (some ⟨lowB + 6, 0, none⟩))] t fz
      | o => o).modify 7 fun
      | .cells _ t fz => .cells #[.iface 241 (.pointer (some ⟨lowB + 7, 0, none⟩))] t fz
      | o => o).modify 8 fun
      | .cells _ t fz => .cells #[.iface 241 (.pointer (some ⟨lowB + 8, 0, none⟩))] t fz
      | o => o).modify 9 fun
      | .cells _ t fz => .cells #[.iface 241 (.pointer (some ⟨lowB + 9, 0, none⟩))] t fz
      | o => o).modify 10 fun
      | .cells _ t fz => .cells #[.iface 241 (.pointer (some ⟨lowB + 10, 0, none⟩))] t fz
      | o => o).modify 11 fun
      | .cells _ t fz => .cells #[.iface 241 (.pointer (some ⟨lowB + 11, 0, none⟩))] t fz
      | o => o).modify 12 fun
      | .cells _ t fz => .cells #[.iface 241 (.pointer (some ⟨lowB + 12, 0, none⟩))] t fz
      | o => o).modify 13 fun
      | .cells _ t fz => .cells #[.iface 241 (.pointer (some ⟨lowB + 13, 0, none⟩))] t fz
      | o => o).modify 14 fun
      | .cells _ t fz => .cells #[.iface 241 (.pointer (some ⟨lowB + 14, 0, none⟩))] t fz
      | o => o).modify 15 fun
      | .cells _ t fz => .cells #[.iface 241 (.pointer (some ⟨lowB + 15, 0, none⟩))] t fz
      | o => o).modify 16 fun
      | .cells _ t fz => .cells #[.iface 241 (.pointer (some ⟨lowB + 16, 0, none⟩))] t fz
      | o => o).modify 17 fun
      | .cells _ t fz => .cells #[.iface 241 (.pointer (some ⟨lowB + 17, 0, none⟩))] t fz
      | o => o).modify 18 fun
      | .cells _ t fz => .cells (kc.map W32).toArray t fz
      | o => o }
def guardOpens_args : Array Value := #[.slice none 0 0, .int .i64 0]
theorem guardOpens_laid (os : Os) (args : Array Value) : laidMet Tryz.prog Rows.guardOpensRow.laid ((guardOpens_world os).forCall (fun _ _ => 0) ⟨#[], args, []⟩).memory :=
  laidMet_of_run' 8 (by kernel_rfl) (by kernel_rfl)
theorem guardOpens_reads (os : Os) {H : Type} (enc : TypeId × Value → H) : ∃ places, DataW.whole enc Tryz.prog ((guardOpens_world os).forCall (fun _ _ => 0) ⟨#[], guardOpens_args, []⟩).memory Tryz.f3.params.toList Rows.guardOpensSpec.vars false guardOpens_args.toList 8 = some ([.nil, .lit (.int .i64 0)], [], places) :=
  ⟨[], by kernel_rfl⟩
set_option maxRecDepth 20000 in
theorem guardOpens_contract (H : Type) (enc : TypeId × Value → H) (W : World) (base : Nat) (args : Array Value) (ds gs : List (DataW H)) (before : List MemPlace)
    (hval : ∀ (j : Nat) t v, Tryz.f3.params[j]? = some t → args[j]? = some v → Value.okWide Tryz.prog W .any base t v)
    (hW : DataW.Whole enc Tryz.prog Tryz.f3.params.toList Rows.guardOpensSpec.vars false W args.toList ds gs before) (hL : laidMetH Tryz.prog Rows.guardOpensRow.laid W) :
    Calls Tryz.prog 3 args W fun e W' => ∃ v, e = .returned v ∧ Rows.guardOpensSpec.post enc Tryz.prog Tryz.f3 false true false false W args v W' := by
  have hW' := hW
  have hlt : ∀ p ∈ before, p.block < W.heap.size := fun p hp => hW.lt p hp
  obtain ⟨p, q, hA0, hV, rfl, hfz, hnd⟩ := hW
  have hA : DataW.TrodAll enc Tryz.prog W 0 (fun _ => true) true Tryz.f3.params.toList args.toList ds p := hA0
  rw [Tryz.params3] at hA hval
  obtain ⟨v0, vs0, d0, ds0, p0, q0, hargs, rfl, rfl, h0, r0⟩ := trodAll_cons hA
  obtain ⟨v1, vs1, d1, ds1, p1, q1, rfl, rfl, rfl, h1, r1⟩ := trodAll_cons r0
  obtain ⟨rfl, rfl, rfl⟩ := trodAll_nil r1
  obtain rfl : args = #[v0, v1] := by cases args; simp_all
  obtain ⟨rfl, rfl⟩ := trodVars_none hV
  obtain ⟨a0, m0, c0, rfl⟩ := okWide_slice (run_sliceT Ty.sl_22) (hval 0 22 v0 rfl rfl)
  obtain ⟨x0, hx0⟩ : ∃ x, RdRowC B8 W TT [.slice a0 m0 c0] x := by obtain ⟨fuel, hf⟩ := h0; exact o_rbytes fuel _ _ hf
  obtain ⟨n1, rfl, _, _, wf1⟩ := open_int Ty.un_3 (hval 1 3 v1 rfl rfl) h1
  have hL' : laidMet Tryz.prog Rows.guardOpensRow.laid W := hL
  obtain ⟨ea, hN⟩ := laid_nerr (r := [("quorate/hash.constants", Rows.laid_quorate_hash_constants)]) (show laidMet Tryz.prog (errNames.map errRow ++ [("quorate/hash.constants", Rows.laid_quorate_hash_constants)]) W from hL')
  have hK := laid_kr hL'.tail.tail.tail.tail.tail.tail.tail.tail.tail.tail.tail.tail.tail.tail.tail.tail.tail.tail
  have walk := guardOpens_ok (e := n1) (cr := c0) no_res hN hK (hx0.row.mv still_id) (by obtain ⟨_, _, _, e, k, _⟩ := hx0; injection e with e _; injection e with e1 e2 e3; subst e2; subst e3; exact k)
  refine Calls.mono (show Calls Tryz.prog 3 #[.slice a0 m0 c0, .int .i64 n1] W _ from walk) fun e W' ⟨_, he, hs⟩ => ?_
  subst he
  have bel := below_of hs
  have eF : Rows.guardOpensSpec.fn H ([d0, d1] ++ []) = { results := [.lit (.bool true)], args := [d0, d1] } := rfl
  have l0 : ∀ z ∈ p0, z.block < W.heap.size := fun z hz => hlt z (by simp [hz])
  have l1 : ∀ z ∈ p1, z.block < W.heap.size := fun z hz => hlt z (by simp [hz])
  refine ⟨_, rfl, _, _, _, [], p0 ++ (p1 ++ ([])), [], hW', ?_, ?_, ?_, bel.frame _, fun h => by cases h⟩
  · rw [eF]; exact trodAll_cons_mk (shut_bool Tryz.underlying4 _) trodAll_mk0
  · rw [eF, Tryz.params3]
    exact trodAll_cons_mk (Below.trod laidOut (by kernel_rfl) (of_decide_eq_true (by kernel_rfl)) h0 bel l0) (trodAll_cons_mk (Below.trod laidOut (by kernel_rfl) (of_decide_eq_true (by kernel_rfl)) h1 bel l1) (trodAll_mk0))
  · rw [eF]; rfl
set_option maxRecDepth 100000 in
theorem guardOpens_lifted (os : Os) (started : os.Started) (H : Type) (enc : TypeId × Value → H) (F : Stop.Interp) :
    ReturnsInHanded {} Tryz.checked os 3 .any ((OpenSpec.ofChange Rows.guardOpensSpec).preRow enc Tryz.prog Tryz.f3 Rows.guardOpensRow.domain false Rows.guardOpensRow.laid) (((OpenSpec.ofChange Rows.guardOpensSpec).at F).post enc Tryz.prog Tryz.f3 false true false false) := by
  obtain ⟨places, hx⟩ := guardOpens_reads os enc
  refine returnsInHanded_of_row (C := Tryz.checked) (s := OpenSpec.ofChange Rows.guardOpensSpec) own started (by kernel_rfl) Tryz.func3
    (witness_row_atRef (enc := enc) (C := Tryz.checked) false (guardOpens_world os) guardOpens_args rfl (by kernel_rfl) (by kernel_rfl) (by kernel_rfl)
      (OpenSpec.preRow_of_cond 8 hx (by kernel_rfl) (fun k hk => by cases hk) (by kernel_rfl) (guardOpens_laid os _))) ?_
  intro W base args ds gs before hval hW _ _ _ hL _ _
  exact guardOpens_contract H enc W base args ds gs before hval hW hL
theorem and_tt {a b : Bool} (h : a = true) (k : b = true) : (a && b) = true := by rw [h, k]; rfl
theorem guardOpens_k0 : (Rows.guardOpensRow.wf (OpenSpec.ofChange (OpenSpec.ofChange Rows.guardOpensSpec).bare)) = true := by kernel_rfl
theorem guardOpens_k1 : (laidOutB Tryz.pinned.checked.prog) = true := by kernel_rfl
theorem guardOpens_k2 : (mapsRowed Tryz.pinned.checked.prog) = true := by kernel_rfl
theorem guardOpens_k3 : (Tryz.f3.params.all (Tryz.pinned.checked.prog.readableRec ·)) = true := by kernel_rfl
theorem guardOpens_k4 : (namedTie Tryz.pinned.checked.prog Rows.guardOpensRow.named (OpenSpec.ofChange Rows.guardOpensSpec).bare.vars) = true := by kernel_rfl
theorem guardOpens_k5 : ((Rows.guardOpensRow.stops == [])) = true := by kernel_rfl
theorem guardOpens_k6 : ((Tryz.pinned.checked.prog.stops == [])) = true := by kernel_rfl
theorem guardOpens_k7 : ((Rows.guardOpensRow.knobs == [])) = true := by kernel_rfl
theorem guardOpens_k8 : ((Tryz.pinned.checked.prog.stopKnobs == [])) = true := by kernel_rfl
theorem guardOpens_k9 : ((Rows.guardOpensRow.inPlace == Tryz.pinned.checked.prog.inPlace 3)) = true := by kernel_rfl
theorem guardOpens_k10 : ((Rows.guardOpensRow.unfollowed == Tryz.pinned.checked.prog.unfollowed 3)) = true := by kernel_rfl
theorem guardOpens_k11 : ((Rows.guardOpensRow.recurses == Tryz.pinned.checked.prog.recurses 3)) = true := by kernel_rfl
theorem guardOpens_k12 : ((Rows.guardOpensRow.named == Tryz.pinned.checked.prog.varsNamed 3)) = true := by kernel_rfl
theorem guardOpens_k13 : ((Rows.guardOpensRow.maps == (Tryz.f3.params.toList ++ (OpenSpec.ofChange Rows.guardOpensSpec).bare.plain.varTypes Tryz.pinned.checked.prog).any (Tryz.pinned.checked.prog.mapsRec ·))) = true := by kernel_rfl
theorem guardOpens_k14 : ((Rows.guardOpensRow.ifaces == (Tryz.f3.params.toList ++ (OpenSpec.ofChange Rows.guardOpensSpec).bare.plain.varTypes Tryz.pinned.checked.prog).any (Tryz.pinned.checked.prog.ifacesRec ·))) = true := by kernel_rfl
theorem guardOpens_k15 : ((Rows.guardOpensRow.mapsOut == Tryz.pinned.checked.prog.mapsAmong Tryz.f3.resultTypes.toList)) = true := by kernel_rfl
theorem guardOpens_k16 : ((Rows.guardOpensRow.loops == (Tryz.f3.params.toList ++ (OpenSpec.ofChange Rows.guardOpensSpec).bare.plain.varTypes Tryz.pinned.checked.prog).any (Tryz.pinned.checked.prog.loopsFrom ·))) = true := by kernel_rfl
theorem guardOpens_k17 : ((Rows.guardOpensRow.wideKeys == (Tryz.f3.params.toList ++ (OpenSpec.ofChange Rows.guardOpensSpec).bare.plain.varTypes Tryz.pinned.checked.prog ++ Tryz.f3.resultTypes.toList).any (Tryz.pinned.checked.prog.wideKeysFrom ·))) = true := by kernel_rfl
theorem guardOpens_k18 : ((OpenSpec.ofChange Rows.guardOpensSpec).bare.vars.all (Tryz.pinned.checked.prog.varReadable ·)) = true := by kernel_rfl
theorem guardOpens_k19 : (Tryz.f3.resultTypes.all (fun t => Tryz.pinned.checked.prog.readableRec t && decide (t < Tryz.pinned.checked.prog.types.size))) = true := by kernel_rfl
theorem guardOpens_k20 : ((Rows.guardOpensRow.ifacesOut == Tryz.f3.resultTypes.toList.any (Tryz.pinned.checked.prog.ifacesRec ·))) = true := by kernel_rfl
theorem guardOpens_k21 : ((Rows.guardOpensRow.loopsOut == Tryz.f3.resultTypes.toList.any (Tryz.pinned.checked.prog.loopsFrom ·))) = true := by kernel_rfl
theorem guardOpens_k22 : ((Rows.guardOpensRow.plainKeys == Tryz.pinned.checked.prog.plainKeys)) = true := by kernel_rfl
theorem guardOpens_k23 : (Rows.guardOpensRow.shortTexts.isNone) = true := by kernel_rfl
theorem guardOpens_k24 : (Tryz.pinned.checked.prog.stopsHeard) = true := by kernel_rfl
theorem guardOpens_k25 : (Tryz.pinned.checked.prog.mayEnter) = true := by kernel_rfl
theorem guardOpens_k26 : ((Rows.guardOpensRow.lifted == Tryz.pinned.checked.prog.liftsFinal)) = true := by kernel_rfl
theorem guardOpens_k27 : ((Tryz.pinned.checked.prog.make == some Rows.guardOpensRow.make)) = true := by kernel_rfl
theorem guardOpens_k28 : ((Rows.guardOpensRow.kinds == (if Rows.guardOpensRow.domain.isEmpty then [] else Tryz.f3.params.toList.map fun t => match Tryz.pinned.checked.prog.underlying t with | some (.int k) => some k | _ => none))) = true := by kernel_rfl
theorem guardOpens_k29 : ((Rows.guardOpensRow.pinned == Rows.guardOpensRow.pinnedBy)) = true := by kernel_rfl
theorem guardOpens_k30 : ((Rows.guardOpensRow.veiled == (Tryz.f3.params.toList ++ (OpenSpec.ofChange Rows.guardOpensSpec).bare.plain.varTypes Tryz.pinned.checked.prog ++ Tryz.f3.resultTypes.toList).any (Tryz.pinned.checked.prog.veiledRec ·))) = true := by kernel_rfl
theorem guardOpens_k31 : (Rows.guardOpensRow.veiledFits Tryz.pinned.checked.prog Tryz.f3.params.toList (Tryz.f3.params.toList ++ (OpenSpec.ofChange Rows.guardOpensSpec).bare.plain.varTypes Tryz.pinned.checked.prog ++ Tryz.f3.resultTypes.toList)) = true := by kernel_rfl
set_option maxRecDepth 100000 in
theorem guardOpens_facts : joinedFacts Tryz.pinned.checked.prog 3 Tryz.f3 (OpenSpec.ofChange Rows.guardOpensSpec).bare Rows.guardOpensRow = true := (and_tt (and_tt (and_tt (and_tt (and_tt (and_tt (and_tt (and_tt (and_tt (and_tt (and_tt (and_tt (and_tt (and_tt (and_tt (and_tt (and_tt (and_tt (and_tt (and_tt (and_tt (and_tt (and_tt (and_tt (and_tt (and_tt (and_tt (and_tt (and_tt (and_tt (and_tt guardOpens_k0 guardOpens_k1) guardOpens_k2) guardOpens_k3) guardOpens_k4) guardOpens_k5) guardOpens_k6) guardOpens_k7) guardOpens_k8) guardOpens_k9) guardOpens_k10) guardOpens_k11) guardOpens_k12) guardOpens_k13) guardOpens_k14) guardOpens_k15) guardOpens_k16) guardOpens_k17) guardOpens_k18) guardOpens_k19) guardOpens_k20) guardOpens_k21) guardOpens_k22) guardOpens_k23) guardOpens_k24) guardOpens_k25) guardOpens_k26) guardOpens_k27) guardOpens_k28) guardOpens_k29) guardOpens_k30) guardOpens_k31)
theorem guardOpens_said : Rows.GuardOpensSaid :=
  OpenClaim.holds_of_cond 3 Tryz.f3 rfl rfl rfl rfl rfl rfl rfl ⟨rfl, rfl, rfl, rfl, rfl⟩ rfl rfl rfl rfl rfl (by kernel_rfl) Tryz.func3 guardOpens_facts
    (of_decide_eq_true (by kernel_rfl)) (by unfold Func.isWrapper; first | (rw [if_pos (by decide +kernel)]; kernel_rfl) | (rw [if_neg (by decide +kernel)]; exact ⟨rfl, rfl⟩))
    (fun os started H enc _ F => by rw [OpenClaim.pre_eq_preRow]; exact guardOpens_lifted os started H enc F)
theorem guardOpens_plain (f : FuncId) (fn : Func) (hf : Tryz.pinned.checked.prog.funcNamed "quorate/quoratelaw14.GuardOpens" = some f) (hfn : Tryz.pinned.checked.prog.funcs[f]? = some fn) :
    true = Tryz.pinned.checked.prog.looks [] ∧ ∀ (j : Nat) t, fn.params[j]? = some t → Tryz.pinned.checked.prog.wantsStandIn t = false := by
  obtain rfl : f = 3 := Option.some.inj ((show Tryz.prog.funcNamed "quorate/quoratelaw14.GuardOpens" = some 3 by kernel_rfl).symm.trans hf) |>.symm
  obtain rfl : fn = Tryz.f3 := (Option.some.inj (Tryz.func3.symm.trans hfn)).symm
  refine ⟨by kernel_rfl, fun j t ht => ?_⟩
  rw [Tryz.params3] at ht
  have hm := Array.mem_of_getElem? ht
  have h : t = 22 ∨ t = 3 := by simpa using hm
  rcases h with rfl | rfl
  · exact (show Tryz.prog.wantsStandIn 22 = false by kernel_rfl)
  · exact (show Tryz.prog.wantsStandIn 3 = false by kernel_rfl)
theorem guardOpens_holds : Rows.GuardOpensCardSaid :=
  Claim7.holds_tied_plain_at .later [] _ _ _ _ guardOpens_said (fun _ h => by cases h) (by kernel_rfl) (fun _ h => by cases h) guardOpens_row_tie rfl ⟨rfl, rfl⟩ (by kernel_rfl) rfl guardOpens_plain (by kernel_rfl)
#print axioms guardOpens_holds
end
end Go.Proofs.YtggjlkheniombaaGreatDoor
