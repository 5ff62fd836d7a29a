/- Part 6. What is proved: see the last part: for every input the law returns true, and the input reads as it did. -/
import Derived.Test.YtggjlkheniombaaGreatDoorCz5
import Derived.Test.YtggjlkheniombaaGreatDoorCards
import Derived.Test.YtggjlkheniombaaGreatDoorTie
import Derived.Deep.DeepHandedRow
import Derived.Deep.DeepWitnessRowRef
namespace Go.Proofs.YtggjlkheniombaaGreatDoor
open Go
set_option linter.unusedVariables false
set_option linter.unusedSimpArgs false
set_option linter.unusedSectionVars false
section
theorem opC_kind (o : OpV) (ak : Option Addr) (nk ck : Nat) : (opC o ak nk ck)[21]? = some (.int .i64 o.kind) := by rw [opC, List.getElem?_append_right (by rw [askC_len]; decide), askC_len]; rfl
theorem opC_n (o : OpV) (ak : Option Addr) (nk ck : Nat) : (opC o ak nk ck)[22]? = some (.int .i64 o.n) := by rw [opC, List.getElem?_append_right (by rw [askC_len]; decide), askC_len]; rfl
theorem opC_keep (o : OpV) (ak : Option Addr) (nk ck : Nat) : (opC o ak nk ck)[23]? = some (.slice ak nk ck) := by rw [opC, List.getElem?_append_right (by rw [askC_len]; decide), askC_len]; rfl
structure GPS where
  i : Nat
  x : PX
  y : PS
attribute [local irreducible] Gl Gc Gx Gs Runs Wt
set_option maxHeartbeats 1000000 in
set_option maxRecDepth 20000 in
theorem guardPlays_ok {w : World} {F : Nat → Prop} {seed : Dig} {e : Int} {al : Option Addr} {nl cl : Nat} {xs : List OpV} (h : stars [] w F) {ea : Nat → Addr} (hN : NErr w (fun k => ¬ F k) ea) (hK : KR w (fun k => ¬ F k)) (hl : RdList (RdOp14 w fun k => ¬ F k) w (fun k => ¬ F k) 24 al nl xs) :
    Calls Tryz.prog 7 #[.agg (dc seed).toArray, .int .i64 e, .slice al nl cl] w (Post w F (fun _ : Unit => .bool true) (fun _ => [])) := by
 have hE := hN.g
 refine g_enter (env := [(0, .agg (dc seed).toArray), (1, .int .i64 e), (2, .slice al nl cl)]) Tryz.func7 rfl h Tryz.ntmps7 rfl rfl ?_; refine gsr (zbN fun b3 => ?_); refine zxa ?_; refine gnt (gc_seq (gsr (zc (fun _ => ?_) (c := fun w1 F1 F2 h1 h2 hd hst => alive14_ok h1 (hN.mv hst.still) (hK.mv hst.still)))))
 refine gp (r_bool (c := false) znt (rfl)) ?_; refine gnt (gc_condF rfl rfl ?_); refine gc_skip (gx_then (gc_seq (gc_seq ?_))); by_cases g1 : (60 : Int) < (nl : Int)
 ·refine gc_region (zxm ?_); refine gp zln ?_; refine gp (r_bool (c := true) zgt (decide_eq_true g1)) ?_; refine zxm ?_; refine gn ?_; refine gn ?_; refine gp zpk ?_; refine zxm ?_; refine gn ?_; refine gn ?_; refine gp zpk ?_; refine gnt (gc_condT rfl rfl ?_); refine gsr (zxa ?_); refine gnt (gc_ret (gx_then_ret (gx_ret1 rfl (by conv => lhs; whnf) ?_))); exact ze ()
 ·by_cases g2 : e < 0
  ·refine gc_region (zxm ?_); refine gp zln ?_; refine gp (r_bool (c := false) zgt (decide_eq_false g1)) ?_; refine zxm ?_; refine gq zmv ?_; refine gq (r_bool (c := true) zlt (decide_eq_true g2)) ?_; refine gp zpk ?_; refine zxm ?_; refine gn ?_; refine gn ?_; refine gp zpk ?_; refine gnt (gc_condT rfl rfl ?_); refine gsr (zxa ?_); refine gnt (gc_ret (gx_then_ret (gx_ret1 rfl (by conv => lhs; whnf) ?_))); exact ze ()
  ·by_cases g3 : 1073741824 < e
   ·refine gc_region (zxm ?_); refine gp zln ?_; refine gp (r_bool (c := false) zgt (decide_eq_false g1)) ?_; refine zxm ?_; refine gq zmv ?_; refine gq (r_bool (c := false) zlt (decide_eq_false g2)) ?_; refine gp zpk ?_; refine zxm ?_; refine gq zmv ?_; refine gq (r_bool (c := true) zgt (decide_eq_true g3)) ?_; refine gp zpk ?_; refine gnt (gc_condT rfl rfl ?_); refine gsr (zxa ?_); refine gnt (gc_ret (gx_then_ret (gx_ret1 rfl (by conv => lhs; whnf) ?_))); exact ze ()
   ·refine gc_region (zxm ?_); refine gp zln ?_; refine gp (r_bool (c := false) zgt (decide_eq_false g1)) ?_; refine zxm ?_; refine gq zmv ?_; refine gq (r_bool (c := false) zlt (decide_eq_false g2)) ?_; refine gp zpk ?_; refine zxm ?_; refine gq zmv ?_; refine gq (r_bool (c := false) zgt (decide_eq_false g3)) ?_; refine gp zpk ?_; refine gnt (gc_condF rfl rfl ?_); refine gc_skip (gx_then (gsr (gp zL ?_))); refine zxm ?_; refine zc (fun x => ?_) (c := fun w1 F1 F2 h1 h2 hd hst => begin14_ok (seed := seed) (e := e) h1 (by omega) (hE.mv hst.still) (hK.mv hst.still))
    refine zxm ?_; refine gp zex ?_; refine gp zex ?_; refine zxa ?_; refine zxa ?_; refine gnt (gc_seq (gsr (zxm ?_))); refine gp (r_bool (c := false) znt (rfl)) ?_; refine gnt (gc_condF rfl rfl ?_); refine gc_skip (gx_then (gc_seq (gsr (zxm ?_)))); refine gp zln ?_; refine zxm ?_; refine gnt (gc_block (gc_loop (α := GPS) (fun y => [pureR (y.i ≤ nl ∧ PlI y.y (y.i + 1) ∧ y.y.may.length ≤ y.i ∧ y.y.high.length ≤ y.i), PlayR y.x y.y.s y.y.may y.y.high y.y.lm, GdR y.x.g y.x.qk y.x.qs y.x.gd y.y.s y.y.sl, DiskR y.x.gd y.y.d, KeyR y.x.qk seed, blk b3 32 (dc seed)]) (fun y => [(34, .int .i64 (y.i : Int)), (7, .pointer (some ⟨y.x.p, 0, none⟩)), (8, .bool true)]) [6, 10, 35, 36, 37, 38, 39, 40, 41, 42, 43, 44, 45, 46, 47, 48, 49, 50, 51, 52, 53, 54, 55, 56, 57, 58, 59, 60, 61, 62, 63, 64, 65, 66, 67, 68, 69, 70, 71, 72, 73, 74, 75, 76, 77, 78, 79, 80, 81, 82, 83] (fun y => nl - y.i) ⟨0, x, ⟨dZ (fE1 e), ⟨0, 1, bytV (sE e)⟩, sE e, sE e, false, [], [], []⟩⟩ ?_ ?_ ?_))
    ·refine env_start (by kernel_rfl)
    ·intro w' hw; have hw2 := St.rowNil (e := 42) (size := 5) (St.rowNil (e := 42) (size := 5) hw)
     exact St.pureI (show 0 ≤ nl ∧ PlI (⟨dZ (fE1 e), ⟨0, 1, bytV (sE e)⟩, sE e, sE e, false, [], [], []⟩ : PS) (0 + 1) ∧ (⟨dZ (fE1 e), ⟨0, 1, bytV (sE e)⟩, sE e, sE e, false, [], [], []⟩ : PS).may.length ≤ 0 ∧ (⟨dZ (fE1 e), ⟨0, 1, bytV (sE e)⟩, sE e, sE e, false, [], [], []⟩ : PS).high.length ≤ 0 from ⟨Nat.zero_le _, play_start (by omega), by simp, by simp⟩) ((St.play (x := x) (s := sE e) (may := []) (high := []) (lm := []) (am := none) (cm := 0) (ah := none) (ch := 0) (hw2.sel (M := [blk x.p 59 (plC x (sE e) (.slice none 0 0) (.slice none 0 0)), rowR 42 5 none 0 0 [], rowR 42 5 none 0 0 [], mapR x.mp [], GdR x.g x.qk x.qs x.gd (sE e) ⟨0, 1, bytV (sE e)⟩, DiskR x.gd (dZ (fE1 e)), KeyR x.qk seed, blk b3 32 (dc seed)]) (by repeat (first | exact Sel.nil | (apply Sel.cons; · (repeat (first | exact Pick.here | apply Pick.there)))))) rfl rfl rfl rfl).z)
    ·intro y u; obtain ⟨i, x, ⟨d, sl, s, t, tried, may, high, lm⟩⟩ := y; refine gc_pureR (fun hq => ?_)
     obtain ⟨hk, hI, hmm, hhh⟩ := hq; replace hk : i ≤ nl := hk
     replace hI : PlayI d sl s t tried may high lm (i + 1) := hI
     replace hmm : may.length ≤ i := hmm
     replace hhh : high.length ≤ i := hhh
     refine gsr (gp zlt ?_); refine gnt (gc_seq (gif rfl (fun hc35 => ?_) (fun hc35 => ?_)))
     ·try simp only at hc35
      have hk' : i < nl := by omega
      obtain ⟨ga, o, cs, op, ha, hA, _, hra, hcl, hly, hrd⟩ := hl.elem (by decide) hk'; subst ha; obtain ⟨ak, nk, ck, rfl, ⟨_, _, _, _, _, _, hrn⟩, hnk, hkb⟩ := hrd; have hi60 : i + 1 ≤ 60 := by omega
      refine gc_skip (gx_then (gc_seq (gc_block (gsr (gp (r_val (v' := .pointer (some ⟨ga, o + i * 24, none⟩)) zia (by simp)) ?_))))); refine gp (r_ldNo (seg := opC op ak nk ck) rfl Ty.row_74 Ty.sz_74 hra hcl (by decide) hA) ?_; refine zal fun b10 => ?_; refine zsA (opC_len _ _ _ _) (opC_one _ _ _ _) ?_; refine gnt (gc_seq (gsr (gp zfa ?_))); refine gp (zl (v := .slice ak nk ck) (hv := opC_keep _ _ _ _)) ?_; refine gp zln ?_; refine gp zgt ?_; refine gnt (gif rfl (fun hc41 => ?_) (fun hc41 => ?_))
      ·refine gsr (zxa ?_); refine gnt (gc_ret (gx_then_ret (gx_block_ret ?_))); refine gx_then_ret (gx_round_ret ?_); refine gx_block_ret ?_; refine gx_then_ret (gx_ret1 rfl (by conv => lhs; whnf) ?_); exact ze ()
      ·refine gc_skip (gx_then (gc_join (α := PX × PS) (fun p => [pureR (PlI p.2 ((i + 1) + 1) ∧ p.2.may.length ≤ (i + 1) ∧ p.2.high.length ≤ (i + 1)), PlayR p.1 p.2.s p.2.may p.2.high p.2.lm, GdR p.1.g p.1.qk p.1.qs p.1.gd p.2.s p.2.sl, DiskR p.1.gd p.2.d, KeyR p.1.qk seed, blk b3 32 (dc seed)]) (fun p => [(7, .pointer (some ⟨p.1.p, 0, none⟩)), (8, .bool true)]) [42, 43, 44, 45, 46, 47, 48, 49, 50, 51, 52, 53, 54, 55, 56, 57, 58, 59, 60, 61, 62, 63, 64, 65, 66, 67, 68] ?_ ?_))
       ·refine gsr (gp zfa ?_); refine gp (zl (v := .int .i64 op.kind) (hv := opC_kind _ _ _ _)) ?_; refine gnt (gc_block (gsr (gp zei ?_))); refine zxa ?_; refine gnt (gif rfl (fun hc48 => ?_) (fun hc48 => ?_))
        ·refine gc_seq (gc_play (x := x) (by repeat (first | exact Pick.here | apply Pick.there)) (fun am cm ah ch => ?_))
         refine gc_region (zxm ?_); refine gp znc ?_; refine gp zfa ?_; refine gp zl ?_; refine zc (fun _ => ?_) (c := fun w1 F1 F2 h1 h2 hd hst => off_ok h1)
         refine gp znt ?_; refine gnt (gif rfl (fun hc55 => ?_) (fun hc55 => ?_))
         ·refine gc_regionH ([blk x.p 59 [.pointer (some ⟨x.gd, 0, none⟩), .pointer (some ⟨x.qk, 0, none⟩), .pointer (some ⟨x.g, 0, none⟩), .int .i64 s.e, .int .i64 s.v, .int .i64 s.l, .int .i64 s.p, .int .i64 s.lf, (.slice am may.length cm), .map (some x.mp), (.slice ah high.length ch)], blk b10 74 (opC op ak nk ck)]) ?_; refine yp 0 rfl zmv ?_; refine yp 1 rfl znc ?_; refine yp 2 rfl zfa ?_; refine yp 3 rfl zl ?_; refine yp 4 rfl zfa ?_; refine yp 5 rfl (zl (v := .int .i64 op.n) (hv := opC_n _ _ _ _)) ?_; refine yo 6 rfl ?_; refine zc (fun _ => ?_) (c := fun w1 F1 F2 h1 h2 hd hst => arm_ok (n := op.n) h1)
          refine yx ?_; refine yd ?_; refine gx_block_normal (zjn ((x, (⟨{ d with armed := decide (0 ≤ op.n), left := op.n }, sl, s, t, tried, may, high, lm⟩ : PS))) ?_)
          ·intro w' hw; exact St.pureI (show PlI (⟨{ d with armed := decide (0 ≤ op.n), left := op.n }, sl, s, t, tried, may, high, lm⟩ : PS) (i + 1 + 1) ∧ (⟨{ d with armed := decide (0 ≤ op.n), left := op.n }, sl, s, t, tried, may, high, lm⟩ : PS).may.length ≤ i + 1 ∧ (⟨{ d with armed := decide (0 ≤ op.n), left := op.n }, sl, s, t, tried, may, high, lm⟩ : PS).high.length ≤ i + 1 from ⟨play_arm hI (by simpa using hc55) hrn, by show may.length ≤ i + 1; omega, by show high.length ≤ i + 1; omega⟩) ((St.play (x := x) (s := s) (may := may) (high := high) (lm := lm) (hw.sel (M := [blk x.p 59 [.pointer (some ⟨x.gd, 0, none⟩), .pointer (some ⟨x.qk, 0, none⟩), .pointer (some ⟨x.g, 0, none⟩), .int .i64 s.e, .int .i64 s.v, .int .i64 s.l, .int .i64 s.p, .int .i64 s.lf, (.slice am may.length cm), .map (some x.mp), (.slice ah high.length ch)], rowR 42 5 am may.length cm (may.map stC).flatten, rowR 42 5 ah high.length ch (high.map stC).flatten, mapR x.mp (encK (Value.int .i64) (encL (lm))), GdR x.g x.qk x.qs x.gd s sl, DiskR x.gd { d with armed := decide (0 ≤ op.n), left := op.n }, KeyR x.qk seed, blk b10 74 (opC op ak nk ck), blk b3 32 (dc seed)]) (by repeat (first | exact Sel.nil | (apply Sel.cons; · (repeat (first | exact Pick.here | apply Pick.there)))))) rfl rfl rfl rfl).z)
         ·refine gc_skip (gx_block_normal (zjn ((x, (⟨d, sl, s, t, tried, may, high, lm⟩ : PS))) ?_))
          ·intro w' hw; exact St.pureI (show PlI (⟨d, sl, s, t, tried, may, high, lm⟩ : PS) (i + 1 + 1) ∧ (⟨d, sl, s, t, tried, may, high, lm⟩ : PS).may.length ≤ i + 1 ∧ (⟨d, sl, s, t, tried, may, high, lm⟩ : PS).high.length ≤ i + 1 from ⟨hI.next, by show may.length ≤ i + 1; omega, by show high.length ≤ i + 1; omega⟩) ((St.play (x := x) (s := s) (may := may) (high := high) (lm := lm) (hw.sel (M := [blk x.p 59 [.pointer (some ⟨x.gd, 0, none⟩), .pointer (some ⟨x.qk, 0, none⟩), .pointer (some ⟨x.g, 0, none⟩), .int .i64 s.e, .int .i64 s.v, .int .i64 s.l, .int .i64 s.p, .int .i64 s.lf, (.slice am may.length cm), .map (some x.mp), (.slice ah high.length ch)], rowR 42 5 am may.length cm (may.map stC).flatten, rowR 42 5 ah high.length ch (high.map stC).flatten, mapR x.mp (encK (Value.int .i64) (encL (lm))), GdR x.g x.qk x.qs x.gd s sl, DiskR x.gd d, KeyR x.qk seed, blk b10 74 (opC op ak nk ck), blk b3 32 (dc seed)]) (by repeat (first | exact Sel.nil | (apply Sel.cons; · (repeat (first | exact Pick.here | apply Pick.there)))))) rfl rfl rfl rfl).z)
        ·refine gsr (gp zei ?_); refine zxa ?_; refine gnt (gif rfl (fun hc63 => ?_) (fun hc63 => ?_))
         ·refine gc_region (zxm ?_); refine gp zfa ?_; refine gp (zl (v := .slice ak nk ck) (hv := opC_keep _ _ _ _)) ?_; refine zc (fun z68 => ?_) (c := fun w1 F1 F2 h1 h2 hd hst => openP_ok (x := x) (seed := seed) (kb := op.keep) h1 hI hi60 ⟨by omega, by omega⟩ (hN.mv hst.still) (hK.mv hst.still) (hkb.mv hst.still))
          refine gl_pureR (fun hz68 => ?_)
          refine zxa ?_; refine gl_nil (gx_block_normal (zjn ((x.to z68.g z68.qs, (⟨d.crash op.keep, z68.sl, z68.s, z68.t, false, [], high, lm⟩ : PS))) ?_))
          ·intro w' hw; exact St.pureI (show PlI (⟨d.crash op.keep, z68.sl, z68.s, z68.t, false, [], high, lm⟩ : PS) (i + 1 + 1) ∧ (⟨d.crash op.keep, z68.sl, z68.s, z68.t, false, [], high, lm⟩ : PS).may.length ≤ i + 1 ∧ (⟨d.crash op.keep, z68.sl, z68.s, z68.t, false, [], high, lm⟩ : PS).high.length ≤ i + 1 from ⟨hz68, by simp, by show high.length ≤ i + 1; omega⟩) (hw.sel (M := [PlayR (x.to z68.g z68.qs) z68.s [] high lm, GdR z68.g x.qk z68.qs x.gd z68.s z68.sl, DiskR x.gd (d.crash op.keep), KeyR x.qk seed, blk b3 32 (dc seed)]) (by repeat (first | exact Sel.nil | (apply Sel.cons; · (repeat (first | exact Pick.here | apply Pick.there))))))
         ·refine gc_region (zxm ?_); refine gp zfa ?_; refine gp (zL (sg := askC op.a) (hg := opC_ask _ _ _ _) (hl := askC_len _)) ?_; refine zc (fun z47 => ?_) (c := fun w1 F1 F2 h1 h2 hd hst => stepP_ok (x := x) (seed := seed) (a := op.a) h1 hI hi60 ⟨by omega, by omega⟩ (hN.mv hst.still) (hK.mv hst.still))
          refine gl_pureR (fun hz47 => ?_)
          refine zxa ?_; refine gl_nil (gx_block_normal (zjn ((x, z47)) ?_))
          ·intro w' hw; exact St.pureI (show PlI z47 (i + 1 + 1) ∧ z47.may.length ≤ i + 1 ∧ z47.high.length ≤ i + 1 from ⟨hz47.1, by have := hz47.2.1; omega, by have := hz47.2.2; omega⟩) (hw.sel (M := [PlayR x z47.s z47.may z47.high z47.lm, GdR x.g x.qk x.qs x.gd z47.s z47.sl, DiskR x.gd z47.d, KeyR x.qk seed, blk b3 32 (dc seed)]) (by repeat (first | exact Sel.nil | (apply Sel.cons; · (repeat (first | exact Pick.here | apply Pick.there))))))
       ·intro p u; obtain ⟨x2, ⟨d2, sl2, s2, t2, tried2, may2, high2, lm2⟩⟩ := p; refine gc_pureR (fun hI2 => ?_)
        obtain ⟨hI2, hm2, hh2⟩ := hI2; refine gc_seq (gc_play (x := x2) (by repeat (first | exact Pick.here | apply Pick.there)) (fun am2 cm2 ah2 ch2 => ?_))
        refine gc_regionH ([blk x2.p 59 [.pointer (some ⟨x2.gd, 0, none⟩), .pointer (some ⟨x2.qk, 0, none⟩), .pointer (some ⟨x2.g, 0, none⟩), .int .i64 s2.e, .int .i64 s2.v, .int .i64 s2.l, .int .i64 s2.p, .int .i64 s2.lf, (.slice am2 may2.length cm2), .map (some x2.mp), (.slice ah2 high2.length ch2)]]) ?_; refine yp 0 rfl zmv ?_; refine yp 1 rfl (r_bool (c := false) znt (rfl)) ?_; refine yp 2 rfl zmv ?_; refine yp 3 rfl zmv ?_; refine yp 4 rfl znc ?_; refine yp 5 rfl zfa ?_; refine yp 6 rfl zl ?_; refine yp 8 rfl zmv ?_; refine yp 9 rfl znc ?_; refine yp 10 rfl zfa ?_; refine yp 11 rfl (zL (sg := stC s2) (hg := rfl) (hl := rfl)) ?_; refine yo 7 rfl ?_; refine zc (fun _ => ?_) (c := fun w1 F1 F2 h1 h2 hd hst => gstate_ok (d := d2) h1)
        refine yx ?_; refine yp 12 rfl (r_bool (c := false) (r_nest (a := s2) (b := s2) (Tryz.underlying42) (by kernel_rfl) (I := 3) Ty.un_3 (by kernel_rfl) (by kernel_rfl) (by kernel_rfl)) (by simp)) ?_; refine yp 13 rfl zpk ?_; refine yd ?_; refine gx_then (gc_condF rfl rfl ?_); refine gc_skip (gx_block_normal (gx_then (gc_region (gp (r_int (j := ((i + 1 : Nat) : Int)) (zad (i := (i : Int)) (j := 1) (h := wrap_i64 (by omega) (by omega))) (by omega)) ?_)))); refine zxm ?_; refine gl_nil (zrd (⟨i + 1, x2, ⟨d2, sl2, s2, t2, tried2, may2, high2, lm2⟩⟩) ?_ ?_)
        ·show nl - (i + 1) < nl - i
         omega
        ·intro w' hw; exact St.pureI (show i + 1 ≤ nl ∧ PlI (⟨d2, sl2, s2, t2, tried2, may2, high2, lm2⟩ : PS) ((i + 1) + 1) ∧ (⟨d2, sl2, s2, t2, tried2, may2, high2, lm2⟩ : PS).may.length ≤ (i + 1) ∧ (⟨d2, sl2, s2, t2, tried2, may2, high2, lm2⟩ : PS).high.length ≤ (i + 1) from ⟨by omega, hI2, hm2, hh2⟩) ((St.play (x := x2) (s := s2) (may := may2) (high := high2) (lm := lm2) (hw.sel (M := [blk x2.p 59 [.pointer (some ⟨x2.gd, 0, none⟩), .pointer (some ⟨x2.qk, 0, none⟩), .pointer (some ⟨x2.g, 0, none⟩), .int .i64 s2.e, .int .i64 s2.v, .int .i64 s2.l, .int .i64 s2.p, .int .i64 s2.lf, (.slice am2 may2.length cm2), .map (some x2.mp), (.slice ah2 high2.length ch2)], rowR 42 5 am2 may2.length cm2 (may2.map stC).flatten, rowR 42 5 ah2 high2.length ch2 (high2.map stC).flatten, mapR x2.mp (encK (Value.int .i64) (encL lm2)), GdR x2.g x2.qk x2.qs x2.gd s2 sl2, DiskR x2.gd d2, KeyR x2.qk seed, blk b3 32 (dc seed)]) (by repeat (first | exact Sel.nil | (apply Sel.cons; · (repeat (first | exact Pick.here | apply Pick.there)))))) rfl rfl rfl rfl).z)
     ·refine gc_exit ?_; refine gx_then_exit ?_; refine gx_round_exit ?_; refine gx_block_hit ?_; refine gx_then (gsr (zxa ?_)); refine gnt (gc_ret (gx_ret1 rfl (by conv => lhs; whnf) ?_)); exact ze ()
end
section
open Go.ChangeShapes Go.WideShapes Go.ChangeAt Go.RowKit
noncomputable def guardPlays_world (os : Os) : World :=
  let w0 := World.holding Tryz.prog os ⟨#[.cells #[.string ⟨#[113, 117, 111, 114, 97, 116, 101, 58, 32, 114, 97, 110, 103, 101]⟩] 266, .cells #[.string ⟨#[113, 117, 111, 114, 97, 116, 101, 58, 32, 115, 104, 111, 114, 116]⟩] 266, .cells #[.string ⟨#[113, 117, 111, 114, 97, 116, 101, 58, 32, 108, 111, 110, 103]⟩] 266, .cells #[.string ⟨#[113, 117, 111, 114, 97, 116, 101, 58, 32, 102, 111, 114, 109]⟩] 266, .cells #[.string ⟨#[113, 117, 111, 114, 97, 116, 101, 58, 32, 115, 112, 101, 110, 116]⟩] 266, .cells #[.string ⟨#[113, 117, 111, 114, 97, 116, 101, 58, 32, 112, 111, 119, 101, 114]⟩] 266, .cells #[.string ⟨#[113, 117, 111, 114, 97, 116, 101, 58, 32, 100, 105, 115, 107]⟩] 266, .cells #[.string ⟨#[113, 117, 111, 114, 97, 116, 101, 58, 32, 102, 117, 108, 108]⟩] 266, .cells #[.string ⟨#[113, 117, 111, 114, 97, 116, 101, 58, 32, 110, 111, 110, 101]⟩] 266, .cells #[.string ⟨#[113, 117, 111, 114, 97, 116, 101, 58, 32, 111, 108, 100]⟩] 266, .cells #[.string ⟨#[113, 117, 111, 114, 97, 116, 101, 58, 32, 115, 101, 116]⟩] 266, .cells #[.string ⟨#[113, 117, 111, 114, 97, 116, 101, 58, 32, 112, 114, 111, 111, 102]⟩] 266, .cells #[.string ⟨#[113, 117, 111, 114, 97, 116, 101, 58, 32, 108, 101, 97, 100, 101, 114]⟩] 266, .cells #[.string ⟨#[113, 117, 111, 114, 97, 116, 101, 58, 32, 114, 111, 117, 110, 100]⟩] 266, .cells #[.string ⟨#[113, 117, 111, 114, 97, 116, 101, 58, 32, 117, 110, 115, 97, 102, 101]⟩] 266, .cells #[.string ⟨#[113, 117, 111, 114, 97, 116, 101, 58, 32, 112, 97, 114, 101, 110, 116]⟩] 266, .cells #[.string ⟨#[113, 117, 111, 114, 97, 116, 101, 58, 32, 116, 119, 105, 99, 101]⟩] 266, .cells #[.string ⟨#[113, 117, 111, 114, 97, 116, 101, 58, 32, 101, 112, 111, 99, 104]⟩] 266], #[], []⟩
  { w0 with heap := ((((((((((((((((((w0.heap.modify 0 fun
      | .cells _ t fz => .cells #[.iface 241 (.pointer (some ⟨lowB + 0, 0, none⟩))] t fz
      | o => o).modify 2 fun
      | .cells _ t fz => .cells #[.iface 241 (.pointer (some ⟨lowB + 1, 0, none⟩))] t fz
      | o => o).modify 3 fun
      | .cells _ t fz => .cells #[.iface 241 (.pointer (some ⟨lowB + 2, 0, none⟩))] t fz
      | o => o).modify 4 fun
      | .cells _ t fz => .cells #[.iface 241 (.pointer (some ⟨lowB + 3, 0, none⟩))] t fz
      | o => o).modify 5 fun
      | .cells _ t fz => .cells #[.iface 241 (.pointer (some ⟨lowB + 4, 0, none⟩))] t fz
      | o => o).modify 6 fun
      | .cells _ t fz => .cells #[.iface 241 (.pointer (some ⟨lowB + 5, 0, none⟩))] t fz
      | o => o).modify 1 fun
      | .cells _ t fz => .cells #[.iface 241 (.pointer (some ⟨lowB + 6, 0, none⟩))] t fz
      | o => o).modify 7 fun
      | .cells _ t fz => .cells #[.iface 241 (.pointer (some ⟨lowB + 7, 0, none⟩))] t fz
      | o => o).modify 8 fun
      | .cells _ t fz => .cells #[.iface 241 (.pointer (some ⟨lowB + 8, 0, none⟩))] t fz
      | o => o).modify 9 fun
      | .cells _ t fz => .cells #[.iface 241 (.pointer (some ⟨lowB + 9, 0, none⟩))] t fz
      | o => o).modify 10 fun
      | .cells _ t fz => .cells #[.iface 241 (.pointer (some ⟨lowB + 10, 0, none⟩))] t fz
      | o => o).modify 11 fun
      | .cells _ t fz => .cells #[.iface 241 (.pointer (some ⟨lowB + 11, 0, none⟩))] t fz
      | o => o).modify 12 fun
      | .cells _ t fz => .cells #[.iface 241 (.pointer (some ⟨lowB + 12, 0, none⟩))] t fz
      | o => o).modify 13 fun
      | .cells _ t fz => .cells #[.iface 241 (.pointer (some ⟨lowB + 13, 0, none⟩))] t fz
      | o => o).modify 14 fun
      | .cells _ t fz => .cells #[.iface 241 (.pointer (some ⟨lowB + 14, 0, none⟩))] t fz
      | o => o).modify 15 fun
      | .cells _ t fz => .cells #[.iface 241 (.pointer (some ⟨lowB + 15, 0, none⟩))] t fz
      | o => o).modify 16 fun
      | .cells _ t fz => .cells #[.iface 241 (.pointer (some ⟨lowB + 16, 0, none⟩))] t fz
      | o => o).modify 17 fun
      | .cells _ t fz => .cells #[.iface 241 (.pointer (some ⟨lowB + 17, 0, none⟩))] t fz
      | o => o).modify 18 fun
      | .cells _ t fz => .cells (kc.map W32).toArray t fz
      | o => o }
def guardPlays_args : Array Value := #[.agg (dc dig0).toArray, .int .i64 0, .slice none 0 0]
theorem guardPlays_laid (os : Os) (args : Array Value) : laidMet Tryz.prog Rows.guardPlaysRow.laid ((guardPlays_world os).forCall (fun _ _ => 0) ⟨#[], args, []⟩).memory :=
  laidMet_of_run' 8 (by kernel_rfl) (by kernel_rfl)
theorem guardPlays_reads (os : Os) {H : Type} (enc : TypeId × Value → H) : ∃ places, DataW.whole enc Tryz.prog ((guardPlays_world os).forCall (fun _ _ => 0) ⟨#[], guardPlays_args, []⟩).memory Tryz.f7.params.toList Rows.guardPlaysSpec.vars false guardPlays_args.toList 8 = some ([digD, .lit (.int .i64 0), .nil], [], places) :=
  ⟨[], by kernel_rfl⟩
set_option maxRecDepth 20000 in
theorem guardPlays_contract (H : Type) (enc : TypeId × Value → H) (W : World) (base : Nat) (args : Array Value) (ds gs : List (DataW H)) (before : List MemPlace)
    (hval : ∀ (j : Nat) t v, Tryz.f7.params[j]? = some t → args[j]? = some v → Value.okWide Tryz.prog W .any base t v)
    (hW : DataW.Whole enc Tryz.prog Tryz.f7.params.toList Rows.guardPlaysSpec.vars false W args.toList ds gs before) (hL : laidMetH Tryz.prog Rows.guardPlaysRow.laid W) :
    Calls Tryz.prog 7 args W fun e W' => ∃ v, e = .returned v ∧ Rows.guardPlaysSpec.post enc Tryz.prog Tryz.f7 false true false false W args v W' := by
  have hW' := hW
  have hlt : ∀ p ∈ before, p.block < W.heap.size := fun p hp => hW.lt p hp
  obtain ⟨p, q, hA0, hV, rfl, hfz, hnd⟩ := hW
  have hA : DataW.TrodAll enc Tryz.prog W 0 (fun _ => true) true Tryz.f7.params.toList args.toList ds p := hA0
  rw [Tryz.params7] at hA hval
  obtain ⟨v0, vs0, d0, ds0, p0, q0, hargs, rfl, rfl, h0, r0⟩ := trodAll_cons hA
  obtain ⟨v1, vs1, d1, ds1, p1, q1, rfl, rfl, rfl, h1, r1⟩ := trodAll_cons r0
  obtain ⟨v2, vs2, d2, ds2, p2, q2, rfl, rfl, rfl, h2, r2⟩ := trodAll_cons r1
  obtain ⟨rfl, rfl, rfl⟩ := trodAll_nil r2
  obtain rfl : args = #[v0, v1, v2] := by cases args; simp_all
  obtain ⟨rfl, rfl⟩ := trodVars_none hV
  obtain ⟨x0, hx0⟩ : ∃ x, RdDig v0.cells.toList x := by obtain ⟨fuel, hf⟩ := h0; exact o_dig fuel _ _ hf
  have e0 := agg_of_len (n := 16) (by rw [show v0.cells.toList = dc x0 from hx0]; exact dc_length _) (by decide)
  rw [show v0.cells.toList = dc x0 from hx0] at e0
  obtain ⟨n1, rfl, _, _, wf1⟩ := open_int Ty.un_3 (hval 1 3 v1 rfl rfl) h1
  obtain ⟨a2, m2, c2, rfl⟩ := okWide_slice (run_sliceT Ty.sl_70) (hval 2 70 v2 rfl rfl)
  obtain ⟨x2, hx2⟩ : ∃ x, RdOps14 W TT [.slice a2 m2 c2] x := by obtain ⟨fuel, hf⟩ := h2; exact o_ops14 fuel _ _ hf
  have hL' : laidMet Tryz.prog Rows.guardPlaysRow.laid W := hL
  obtain ⟨ea, hN⟩ := laid_nerr (r := [("quorate/hash.constants", Rows.laid_quorate_hash_constants)]) (show laidMet Tryz.prog (errNames.map errRow ++ [("quorate/hash.constants", Rows.laid_quorate_hash_constants)]) W from hL')
  have hK := laid_kr hL'.tail.tail.tail.tail.tail.tail.tail.tail.tail.tail.tail.tail.tail.tail.tail.tail.tail.tail
  have walk := guardPlays_ok (seed := x0) (e := n1) (cl := c2) no_res hN hK (RdList.mv (ops14_list hx2) still_id fun _ _ h => h.mv still_id)
  rw [← e0] at walk
  refine Calls.mono (show Calls Tryz.prog 7 #[v0, .int .i64 n1, .slice a2 m2 c2] W _ from walk) fun e W' ⟨_, he, hs⟩ => ?_
  subst he
  have bel := below_of hs
  have eF : Rows.guardPlaysSpec.fn H ([d0, d1, d2] ++ []) = { results := [.lit (.bool true)], args := [d0, d1, d2] } := rfl
  have l0 : ∀ z ∈ p0, z.block < W.heap.size := fun z hz => hlt z (by simp [hz])
  have l1 : ∀ z ∈ p1, z.block < W.heap.size := fun z hz => hlt z (by simp [hz])
  have l2 : ∀ z ∈ p2, z.block < W.heap.size := fun z hz => hlt z (by simp [hz])
  refine ⟨_, rfl, _, _, _, [], p0 ++ (p1 ++ (p2 ++ ([]))), [], hW', ?_, ?_, ?_, bel.frame _, fun h => by cases h⟩
  · rw [eF]; exact trodAll_cons_mk (shut_bool Tryz.underlying4 _) trodAll_mk0
  · rw [eF, Tryz.params7]
    exact trodAll_cons_mk (Below.trod laidOut (by kernel_rfl) (of_decide_eq_true (by kernel_rfl)) h0 bel l0) (trodAll_cons_mk (Below.trod laidOut (by kernel_rfl) (of_decide_eq_true (by kernel_rfl)) h1 bel l1) (trodAll_cons_mk (Below.trod laidOut (by kernel_rfl) (of_decide_eq_true (by kernel_rfl)) h2 bel l2) (trodAll_mk0)))
  · rw [eF]; rfl
set_option maxRecDepth 100000 in
theorem guardPlays_lifted (os : Os) (started : os.Started) (H : Type) (enc : TypeId × Value → H) (F : Stop.Interp) :
    ReturnsInHanded {} Tryz.checked os 7 .any ((OpenSpec.ofChange Rows.guardPlaysSpec).preRow enc Tryz.prog Tryz.f7 Rows.guardPlaysRow.domain false Rows.guardPlaysRow.laid) (((OpenSpec.ofChange Rows.guardPlaysSpec).at F).post enc Tryz.prog Tryz.f7 false true false false) := by
  obtain ⟨places, hx⟩ := guardPlays_reads os enc
  refine returnsInHanded_of_row (C := Tryz.checked) (s := OpenSpec.ofChange Rows.guardPlaysSpec) own started (by kernel_rfl) Tryz.func7
    (witness_row_atRef (enc := enc) (C := Tryz.checked) false (guardPlays_world os) guardPlays_args rfl (by kernel_rfl) (by kernel_rfl) (by kernel_rfl)
      (OpenSpec.preRow_of_cond 8 hx (by kernel_rfl) (fun k hk => by cases hk) (by kernel_rfl) (guardPlays_laid os _))) ?_
  intro W base args ds gs before hval hW _ _ _ hL _ _
  exact guardPlays_contract H enc W base args ds gs before hval hW hL
theorem and_tt {a b : Bool} (h : a = true) (k : b = true) : (a && b) = true := by rw [h, k]; rfl
theorem guardPlays_k0 : (Rows.guardPlaysRow.wf (OpenSpec.ofChange (OpenSpec.ofChange Rows.guardPlaysSpec).bare)) = true := by kernel_rfl
theorem guardPlays_k1 : (laidOutB Tryz.pinned.checked.prog) = true := by kernel_rfl
theorem guardPlays_k2 : (mapsRowed Tryz.pinned.checked.prog) = true := by kernel_rfl
theorem guardPlays_k3 : (Tryz.f7.params.all (Tryz.pinned.checked.prog.readableRec ·)) = true := by kernel_rfl
theorem guardPlays_k4 : (namedTie Tryz.pinned.checked.prog Rows.guardPlaysRow.named (OpenSpec.ofChange Rows.guardPlaysSpec).bare.vars) = true := by kernel_rfl
theorem guardPlays_k5 : ((Rows.guardPlaysRow.stops == [])) = true := by kernel_rfl
theorem guardPlays_k6 : ((Tryz.pinned.checked.prog.stops == [])) = true := by kernel_rfl
theorem guardPlays_k7 : ((Rows.guardPlaysRow.knobs == [])) = true := by kernel_rfl
theorem guardPlays_k8 : ((Tryz.pinned.checked.prog.stopKnobs == [])) = true := by kernel_rfl
theorem guardPlays_k9 : ((Rows.guardPlaysRow.inPlace == Tryz.pinned.checked.prog.inPlace 7)) = true := by kernel_rfl
theorem guardPlays_k10 : ((Rows.guardPlaysRow.unfollowed == Tryz.pinned.checked.prog.unfollowed 7)) = true := by kernel_rfl
theorem guardPlays_k11 : ((Rows.guardPlaysRow.recurses == Tryz.pinned.checked.prog.recurses 7)) = true := by kernel_rfl
theorem guardPlays_k12 : ((Rows.guardPlaysRow.named == Tryz.pinned.checked.prog.varsNamed 7)) = true := by kernel_rfl
theorem guardPlays_k13 : ((Rows.guardPlaysRow.maps == (Tryz.f7.params.toList ++ (OpenSpec.ofChange Rows.guardPlaysSpec).bare.plain.varTypes Tryz.pinned.checked.prog).any (Tryz.pinned.checked.prog.mapsRec ·))) = true := by kernel_rfl
theorem guardPlays_k14 : ((Rows.guardPlaysRow.ifaces == (Tryz.f7.params.toList ++ (OpenSpec.ofChange Rows.guardPlaysSpec).bare.plain.varTypes Tryz.pinned.checked.prog).any (Tryz.pinned.checked.prog.ifacesRec ·))) = true := by kernel_rfl
theorem guardPlays_k15 : ((Rows.guardPlaysRow.mapsOut == Tryz.pinned.checked.prog.mapsAmong Tryz.f7.resultTypes.toList)) = true := by kernel_rfl
theorem guardPlays_k16 : ((Rows.guardPlaysRow.loops == (Tryz.f7.params.toList ++ (OpenSpec.ofChange Rows.guardPlaysSpec).bare.plain.varTypes Tryz.pinned.checked.prog).any (Tryz.pinned.checked.prog.loopsFrom ·))) = true := by kernel_rfl
theorem guardPlays_k17 : ((Rows.guardPlaysRow.wideKeys == (Tryz.f7.params.toList ++ (OpenSpec.ofChange Rows.guardPlaysSpec).bare.plain.varTypes Tryz.pinned.checked.prog ++ Tryz.f7.resultTypes.toList).any (Tryz.pinned.checked.prog.wideKeysFrom ·))) = true := by kernel_rfl
theorem guardPlays_k18 : ((OpenSpec.ofChange Rows.guardPlaysSpec).bare.vars.all (Tryz.pinned.checked.prog.varReadable ·)) = true := by kernel_rfl
theorem guardPlays_k19 : (Tryz.f7.resultTypes.all (fun t => Tryz.pinned.checked.prog.readableRec t && decide (t < Tryz.pinned.checked.prog.types.size))) = true := by kernel_rfl
theorem guardPlays_k20 : ((Rows.guardPlaysRow.ifacesOut == Tryz.f7.resultTypes.toList.any (Tryz.pinned.checked.prog.ifacesRec ·))) = true := by kernel_rfl
theorem guardPlays_k21 : ((Rows.guardPlaysRow.loopsOut == Tryz.f7.resultTypes.toList.any (Tryz.pinned.checked.prog.loopsFrom ·))) = true := by kernel_rfl
theorem guardPlays_k22 : ((Rows.guardPlaysRow.plainKeys == Tryz.pinned.checked.prog.plainKeys)) = true := by kernel_rfl
theorem guardPlays_k23 : (Rows.guardPlaysRow.shortTexts.isNone) = true := by kernel_rfl
theorem guardPlays_k24 : (Tryz.pinned.checked.prog.stopsHeard) = true := by kernel_rfl
theorem guardPlays_k25 : (Tryz.pinned.checked.prog.mayEnter) = true := by kernel_rfl
theorem guardPlays_k26 : ((Rows.guardPlaysRow.lifted == Tryz.pinned.checked.prog.liftsFinal)) = true := by kernel_rfl
theorem guardPlays_k27 : ((Tryz.pinned.checked.prog.make == some Rows.guardPlaysRow.make)) = true := by kernel_rfl
theorem guardPlays_k28 : ((Rows.guardPlaysRow.kinds == (if Rows.guardPlaysRow.domain.isEmpty then [] else Tryz.f7.params.toList.map fun t => match Tryz.pinned.checked.prog.underlying t with | some (.int k) => some k | _ => none))) = true := by kernel_rfl
theorem guardPlays_k29 : ((Rows.guardPlaysRow.pinned == Rows.guardPlaysRow.pinnedBy)) = true := by kernel_rfl
theorem guardPlays_k30 : ((Rows.guardPlaysRow.veiled == (Tryz.f7.params.toList ++ (OpenSpec.ofChange Rows.guardPlaysSpec).bare.plain.varTypes Tryz.pinned.checked.prog ++ Tryz.f7.resultTypes.toList).any (Tryz.pinned.checked.prog.veiledRec ·))) = true := by kernel_rfl
theorem guardPlays_k31 : (Rows.guardPlaysRow.veiledFits Tryz.pinned.checked.prog Tryz.f7.params.toList (Tryz.f7.params.toList ++ (OpenSpec.ofChange Rows.guardPlaysSpec).bare.plain.varTypes Tryz.pinned.checked.prog ++ Tryz.f7.resultTypes.toList)) = true := by kernel_rfl
set_option maxRecDepth 100000 in
theorem guardPlays_facts : joinedFacts Tryz.pinned.checked.prog 7 Tryz.f7 (OpenSpec.ofChange Rows.guardPlaysSpec).bare Rows.guardPlaysRow = true := (and_tt (and_tt (and_tt (and_tt (and_tt (and_tt (and_tt (and_tt (and_tt (and_tt (and_tt (and_tt (and_tt (and_tt (and_tt (and_tt (and_tt (and_tt (and_tt (and_tt (and_tt (and_tt (and_tt (and_tt (and_tt (and_tt (and_tt (and_tt (and_tt (and_tt (and_tt guardPlays_k0 guardPlays_k1) guardPlays_k2) guardPlays_k3) guardPlays_k4) guardPlays_k5) guardPlays_k6) guardPlays_k7) guardPlays_k8) guardPlays_k9) guardPlays_k10) guardPlays_k11) guardPlays_k12) guardPlays_k13) guardPlays_k14) guardPlays_k15) guardPlays_k16) guardPlays_k17) guardPlays_k18) guardPlays_k19) guardPlays_k20) guardPlays_k21) guardPlays_k22) guardPlays_k23) guardPlays_k24) guardPlays_k25) guardPlays_k26) guardPlays_k27) guardPlays_k28) guardPlays_k29) guardPlays_k30) guardPlays_k31)
theorem guardPlays_said : Rows.GuardPlaysSaid :=
  OpenClaim.holds_of_cond 7 Tryz.f7 rfl rfl rfl rfl rfl rfl rfl ⟨rfl, rfl, rfl, rfl, rfl⟩ rfl rfl rfl rfl rfl (by kernel_rfl) Tryz.func7 guardPlays_facts
    (of_decide_eq_true (by kernel_rfl)) (by unfold Func.isWrapper; first | (rw [if_pos (by decide +kernel)]; kernel_rfl) | (rw [if_neg (by decide +kernel)]; exact ⟨rfl, rfl⟩))
    (fun os started H enc _ F => by rw [OpenClaim.pre_eq_preRow]; exact guardPlays_lifted os started H enc F)
theorem guardPlays_plain (f : FuncId) (fn : Func) (hf : Tryz.pinned.checked.prog.funcNamed "quorate/quoratelaw14.GuardPlays" = some f) (hfn : Tryz.pinned.checked.prog.funcs[f]? = some fn) :
    true = Tryz.pinned.checked.prog.looks [] ∧ ∀ (j : Nat) t, fn.params[j]? = some t → Tryz.pinned.checked.prog.wantsStandIn t = false := by
  obtain rfl : f = 7 := Option.some.inj ((show Tryz.prog.funcNamed "quorate/quoratelaw14.GuardPlays" = some 7 by kernel_rfl).symm.trans hf) |>.symm
  obtain rfl : fn = Tryz.f7 := (Option.some.inj (Tryz.func7.symm.trans hfn)).symm
  refine ⟨by kernel_rfl, fun j t ht => ?_⟩
  rw [Tryz.params7] at ht
  have hm := Array.mem_of_getElem? ht
  have h : t = 32 ∨ t = 3 ∨ t = 70 := by simpa using hm
  rcases h with rfl | rfl | rfl
  · exact (show Tryz.prog.wantsStandIn 32 = false by kernel_rfl)
  · exact (show Tryz.prog.wantsStandIn 3 = false by kernel_rfl)
  · exact (show Tryz.prog.wantsStandIn 70 = false by kernel_rfl)
theorem guardPlays_holds : Rows.GuardPlaysCardSaid :=
  Claim7.holds_tied_plain_at .later [] _ _ _ _ guardPlays_said (fun _ h => by cases h) (by kernel_rfl) (fun _ h => by cases h) guardPlays_row_tie rfl ⟨rfl, rfl⟩ (by kernel_rfl) rfl guardPlays_plain (by kernel_rfl)
#print axioms guardPlays_holds
end
end Go.Proofs.YtggjlkheniombaaGreatDoor
