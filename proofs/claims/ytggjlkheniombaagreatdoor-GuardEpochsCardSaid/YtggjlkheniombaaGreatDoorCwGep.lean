/- Part 5. What is proved: see the last part: for every input the law returns true, and the input reads as it did. -/
import Derived.Test.YtggjlkheniombaaGreatDoorCw4
import Derived.Test.YtggjlkheniombaaGreatDoorCards
import Derived.Test.YtggjlkheniombaaGreatDoorTie
import Derived.Deep.DeepHandedRow
import Derived.Deep.DeepWitnessRowRef
namespace Go.Proofs.YtggjlkheniombaaGreatDoor
open Go
set_option linter.unusedVariables false
set_option linter.unusedSimpArgs false
set_option linter.unusedSectionVars false
set_option maxHeartbeats 400000
section
def sN (e : Int) (k : Nat) : VSt := if k = 0 then ⟨1, 0, 0, 0, 0⟩ else ⟨e, 1, 0, 0, k⟩
structure EpI (f : Nat → Sec) (c : Nat) (e : Int) (k : Nat) : Prop where
  gk : GK f c (sN e k)
  c1 : c = 2 * k + 1
  e1 : 1 ≤ e ∧ e ≤ 1073741824
  z : k = 0 → e = 1
theorem sN_e {e : Int} {k : Nat} (h : k = 0 → e = 1) : (sN e k).e = e := by
  unfold sN; split
  · rename_i hk; exact (h hk).symm
  · rfl
theorem sN_lf (e : Int) (k : Nat) : (sN e k).lf = (k : Int) := by
  unfold sN; split
  · rename_i hk; subst hk; rfl
  · rfl
theorem sN_l (e : Int) (k : Nat) : (sN e k).l = 0 := by unfold sN; split <;> rfl
theorem ep_enter {f : Nat → Sec} {c k : Nat} {e e2 : Int} (h : EpI f c e k) (hg : e < e2 ∧ e2 ≤ 1073741824) : enterV (sN e k) e2 = (⟨e2, 0, 0, 0, k⟩, 0) := by
  rw [enterV, if_pos h.gk.ok, sN_e h.z, if_neg (by omega), sN_lf]
theorem ep_bad {f : Nat → Sec} {c k : Nat} {e e2 : Int} (h : EpI f c e k) (hg : ¬ (e < e2 ∧ e2 ≤ 1073741824)) : enterV (sN e k) e2 = (sN e k, 18) := by
  rw [enterV, if_pos h.gk.ok, sN_e h.z, if_pos (by omega)]
theorem ep_mid {e2 : Int} {k : Nat} (h : 1 ≤ e2 ∧ e2 ≤ 1073741824) (hk : k ≤ 31) : (⟨e2, 0, 0, 0, k⟩ : VSt).ok = true := VSt.okM (by simp only; omega)
theorem ep_vote {e2 : Int} {k : Nat} (h : 1 ≤ e2 ∧ e2 ≤ 1073741824) (hk : k ≤ 31) : voteV ⟨e2, 0, 0, 0, k⟩ e2 1 0 0 = (sN e2 (k + 1), 0) := by
  have hb : beginV ⟨e2, 0, 0, 0, k⟩ e2 1 = 0 := by rw [beginV, if_pos (ep_mid h hk), if_pos rfl, if_neg (by omega)]
  rw [voteV, if_pos hb, if_neg (by omega), if_neg (by simp only; omega), if_neg (by simp only; omega), if_neg (by simp only; omega), if_pos (by omega)]
  rw [sN, if_neg (by omega)]
  simp
theorem ep_next {f : Nat → Sec} {c k : Nat} {e e2 : Int} (h : EpI f c e k) (hg : e < e2 ∧ e2 ≤ 1073741824) (hk : k ≤ 31) : EpI (gF (gF f c ⟨e2, 0, 0, 0, k⟩) (c + 1) (sN e2 (k + 1))) (c + 2) e2 (k + 1) := by
  have h1 := h.e1; have hc := h.c1
  have g1 := gk_put (t := ⟨e2, 0, 0, 0, k⟩) h.gk.good (ep_mid (by omega) hk) (by omega)
  have hok : (sN e2 (k + 1)).ok = true := by rw [sN, if_neg (by omega)]; exact VSt.okM (by simp only; omega)
  exact ⟨gk_put g1.good hok (by omega), by omega, by omega, fun h => by omega⟩
theorem ep_start : EpI (fE1 1) 1 1 0 := ⟨fE1_gk (by decide), rfl, by decide, fun _ => rfl⟩
theorem rd_int {w : World} {A : Nat → Prop} {a : Option Addr} {n i : Nat} {l : List Int} (h : RdRow w A 1 a n (l.map (Value.int .i64))) (hi : i < n) : ∃ g o, a = some ⟨g, o, none⟩ ∧ A g ∧ w.cell? ⟨g, o + i, none⟩ = some (.int .i64 (l.getD i 0)) := by
  have hn : n = l.length := by have := h.1; simp at this; omega
  obtain ⟨g, o, ha, hA, _, hr⟩ := h.elem hi
  refine ⟨g, o, ha, hA, ?_⟩
  have := hr 0 (.int .i64 (l.getD i 0)) (by simp [List.getD, show i < l.length by omega])
  simpa using this
structure EpS where
  i : Nat
  e : Int
  k : Nat
  f : Nat → Sec
  c : Nat
attribute [local irreducible] Gl Gc Gx Gs Runs Wt
theorem guardEpochs_ok {w : World} {F : Nat → Prop} {seed : Dig} {al : Option Addr} {nl cl : Nat} {xs : List Int} (h : stars [] w F) {ea : Nat → Addr} (hN : NErr w (fun k => ¬ F k) ea) (hK : KR w (fun k => ¬ F k)) (hl : RdRow w (fun k => ¬ F k) 1 al nl (xs.map (Value.int .i64))) :
    Calls Tryz.prog 4 #[.agg (dc seed).toArray, .slice al nl cl] w (Post w F (fun _ : Unit => .bool true) (fun _ => [])) := by
 have hE := hN.g
 refine g_enter (env := [(0, .agg (dc seed).toArray), (1, .slice al nl cl)]) Tryz.func4 rfl h Tryz.ntmps4 rfl rfl ?_; refine gsr (zbN fun b2 => ?_); refine zxa ?_; refine gnt (gc_seq (gsr (zc (fun _ => ?_) (c := fun w1 F1 F2 h1 h2 hd hst => alive14_ok h1 (hN.mv hst.still) (hK.mv hst.still)))))
 refine gp (r_bool (c := false) znt (rfl)) ?_; refine gnt (gc_condF rfl rfl ?_); refine gc_skip (gx_then (gc_seq (gsr (zxm ?_)))); refine gp zln ?_; refine gp zgt ?_; refine gnt (gif rfl (fun hc19 => ?_) (fun hc19 => ?_))
 ·refine gsr (zxa ?_); refine gnt (gc_ret (gx_then_ret (gx_ret1 rfl (by conv => lhs; whnf) ?_))); exact ze ()
 ·try simp only at hc19
  have hn12 : nl ≤ 12 := by omega
  refine gc_skip (gx_then (gsr (gp zL ?_))); refine zc (fun x => ?_) (c := fun w1 F1 F2 h1 h2 hd hst => begin14_ok (seed := seed) (e := 1) h1 (by decide) (hE.mv hst.still) (hK.mv hst.still))
  refine zxm ?_; refine gp zex ?_; refine gp zex ?_; refine zxa ?_; refine zxa ?_; refine gnt (gc_seq (gsr (zxm ?_))); refine gp (r_bool (c := false) znt (rfl)) ?_; refine gnt (gc_condF rfl rfl ?_); refine gc_skip (gx_then (gsr (zxa ?_))); refine zxa ?_; refine gnt (gc_seq (gsr (zxm ?_))); refine gp zln ?_; refine zxm ?_; refine gnt (gc_block (gc_loop (α := EpS) (fun y => [pureR (y.i ≤ nl ∧ y.k ≤ y.i ∧ EpI y.f y.c y.e y.k), GdR x.g x.qk x.qs x.gd (sN y.e y.k) ⟨0, y.c, bytV (sN y.e y.k)⟩, DiskR x.gd (dZ (y.f)), KeyR x.qk seed, blk x.p 59 (plC x (sE 1) (.slice none 0 0) (.slice none 0 0)), blk b2 32 (dc seed)]) (fun y => [(29, .int .i64 (y.i : Int)), (7, .int .i64 y.e), (8, .int .i64 (y.k : Int))]) [4, 10, 11, 12, 13, 30, 31, 32, 33, 34, 35, 36, 37, 38, 39, 40, 41, 42, 43, 44, 45, 46, 47, 48, 49, 50, 51, 52, 53, 54, 55, 56, 57, 58, 59, 60, 61, 62, 63, 64, 65, 66] (fun y => nl - y.i) ⟨0, 1, 0, fE1 1, 1⟩ ?_ ?_ ?_))
  ·refine env_start (by kernel_rfl)
  ·exact zlp ⟨Nat.zero_le _, Nat.le_refl _, ep_start⟩
  ·intro y u; obtain ⟨i, e, k, f, c⟩ := y; refine gc_pureR (fun hk => ?_)
   obtain ⟨hk, hki, hI⟩ := hk; replace hk : i ≤ nl := hk
   replace hki : k ≤ i := hki
   replace hI : EpI f c e k := hI
   have hc1 := hI.c1
   have he1 := hI.e1
   refine gsr (gp zlt ?_); refine gnt (gc_seq (gif rfl (fun hc30 => ?_) (fun hc30 => ?_)))
   ·try simp only at hc30
    have hk' : i < nl := by omega
    obtain ⟨ga, oa, ha, hA, hce⟩ := rd_int hl hk'; subst ha; refine gc_skip (gx_then (gc_seq (gc_block (gsr (gp (r_val (v' := .pointer (some ⟨ga, oa + i, none⟩)) zia (by simp)) ?_))))); refine gp (r_ld1o rfl Ty.row_3 hce hA) ?_; refine zxa ?_; refine gnt (gc_seq ?_); by_cases hg : e < (xs.getD i 0) ∧ (xs.getD i 0) ≤ 1073741824
    ·refine gc_region (zxm ?_); refine gp znc ?_; refine gp zfa ?_; refine gp zl ?_; refine zxm ?_; refine zc (fun _ => ?_) (c := fun w1 F1 F2 h1 h2 hd hst => genter_S (s := sN e k) (sl := ⟨0, c, bytV (sN e k)⟩) (e := (xs.getD i 0)) (gstep_T (f := f) (ep_enter hI hg) (ep_mid (by omega) (by omega)) (by omega)) h1 hI.gk.ok (dZ_ok _) nat0 (by simp only; omega) (hE.mv hst.still) (hK.mv hst.still))
     refine zxa ?_; refine gnt (gc_seq (gsr (zxm ?_))); refine gp (r_bool (c := true) (r_eqnil (k := 0) rfl (by kernel_rfl)) rfl) ?_; refine zxm ?_; refine zxm ?_; refine gp (r_bool (c := true) zgt (decide_eq_true hg.1)) ?_; refine zxm ?_; refine gq zmv ?_; refine gq (r_bool (c := true) zle (decide_eq_true hg.2)) ?_; refine gp zpk ?_; refine gp (r_bool (c := false) (r_neq_bool rfl rfl Tryz.underlying4) rfl) ?_; refine gnt (gc_condF rfl rfl ?_); refine gc_skip (gx_then (gc_seq (gsr (zxm ?_)))); refine gp (r_bool (c := false) (r_nenil (k := 0) rfl (by kernel_rfl)) rfl) ?_; refine gnt (gc_condF rfl rfl ?_); refine gc_skip (gx_then (gsr (zxm ?_))); refine zxa ?_; refine gnt (gc_seq (gc_seq (gc_regionU 12 ([blk x.p 59 (plC x (sE 1) (.slice none 0 0) (.slice none 0 0)), blk b2 32 (dc seed)]) ?_))); refine ypu 0 rfl zmv ?_; refine ypu 1 rfl znc ?_; refine ypu 2 rfl zfa ?_; refine ypu 3 rfl zl ?_; refine ypu 4 rfl zmv ?_; refine ypu 5 rfl zL ?_; refine you2 6 10 rfl rfl ?_ ?_
     ·refine zc (fun x59 => ?_) (c := fun w1 F1 F2 h1 h2 hd hst => gvote_S (s := ⟨(xs.getD i 0), 0, 0, 0, k⟩) (sl := ⟨0, c + 1, bytV ⟨(xs.getD i 0), 0, 0, 0, k⟩⟩) (D := seed) (seed := seed) (e := (xs.getD i 0)) (r := 1) (q := 0) (gr := 0) (gstep_T (f := (gF f c ⟨(xs.getD i 0), 0, 0, 0, k⟩)) (ep_vote (by omega) (by omega)) (ep_next hI hg (by omega)).gk.ok (by omega)) h1 (ep_mid (by omega) (by omega)) (dZ_ok _) nat0 (by simp only; omega) (hE.mv hst.still) (hK.mv hst.still))
      refine yxu ?_; refine ypu 7 rfl zmv ?_; refine ypu 8 rfl zex ?_; refine ypu 9 rfl zex ?_; refine you 10 rfl ?_; refine zal fun b12 => ?_; refine yxu ?_; refine you 11 rfl ?_; refine zsA (sgV_len _ _ _) (sgV_one _ _ _) ?_; refine yxu ?_; refine yzu ?_; refine zxa ?_; refine zxs ?_; refine zxm ?_; refine gp (r_bool (c := false) (r_nenil (k := 0) rfl (by kernel_rfl)) rfl) ?_; refine gnt (gc_condF rfl rfl ?_); refine gc_skip (gx_then (gc_region (zxm ?_))); refine gp (r_int (j := ((k + 1 : Nat) : Int)) (zad (i := (k : Int)) (j := 1) (h := wrap_i64 (by omega) (by omega))) (by omega)) ?_; refine zxa ?_; refine gl_nil (gx_block_normal (gx_then (gc_region (gp (r_int (j := ((i + 1 : Nat) : Int)) (zad (i := (i : Int)) (j := 1) (h := wrap_i64 (by omega) (by omega))) (by omega)) ?_)))); refine zxm ?_; refine gl_nil (zrd (⟨i + 1, (xs.getD i 0), k + 1, gF (gF f c ⟨(xs.getD i 0), 0, 0, 0, k⟩) (c + 1) (sN (xs.getD i 0) (k + 1)), c + 2⟩) ?_ ?_)
      ·show nl - (i + 1) < nl - i
       omega
      ·exact zlp (show i + 1 ≤ nl ∧ k + 1 ≤ i + 1 ∧ EpI _ (c + 2) (xs.getD i 0) (k + 1) from ⟨by omega, by omega, ep_next hI hg (by omega)⟩)
     ·refine zal fun b12 => ?_; refine yxu ?_; refine you 6 rfl ?_; refine zc (fun x59 => ?_) (c := fun w1 F1 F2 h1 h2 hd hst => gvote_S (s := ⟨(xs.getD i 0), 0, 0, 0, k⟩) (sl := ⟨0, c + 1, bytV ⟨(xs.getD i 0), 0, 0, 0, k⟩⟩) (D := seed) (seed := seed) (e := (xs.getD i 0)) (r := 1) (q := 0) (gr := 0) (gstep_T (f := (gF f c ⟨(xs.getD i 0), 0, 0, 0, k⟩)) (ep_vote (by omega) (by omega)) (ep_next hI hg (by omega)).gk.ok (by omega)) h1 (ep_mid (by omega) (by omega)) (dZ_ok _) nat0 (by simp only; omega) (hE.mv hst.still) (hK.mv hst.still))
      refine yxu ?_; refine ypu 7 rfl zmv ?_; refine ypu 8 rfl zex ?_; refine ypu 9 rfl zex ?_; refine you 11 rfl ?_; refine zsA (sgV_len _ _ _) (sgV_one _ _ _) ?_; refine yxu ?_; refine yzu ?_; refine zxa ?_; refine zxs ?_; refine zxm ?_; refine gp (r_bool (c := false) (r_nenil (k := 0) rfl (by kernel_rfl)) rfl) ?_; refine gnt (gc_condF rfl rfl ?_); refine gc_skip (gx_then (gc_region (zxm ?_))); refine gp (r_int (j := ((k + 1 : Nat) : Int)) (zad (i := (k : Int)) (j := 1) (h := wrap_i64 (by omega) (by omega))) (by omega)) ?_; refine zxa ?_; refine gl_nil (gx_block_normal (gx_then (gc_region (gp (r_int (j := ((i + 1 : Nat) : Int)) (zad (i := (i : Int)) (j := 1) (h := wrap_i64 (by omega) (by omega))) (by omega)) ?_)))); refine zxm ?_; refine gl_nil (zrd (⟨i + 1, (xs.getD i 0), k + 1, gF (gF f c ⟨(xs.getD i 0), 0, 0, 0, k⟩) (c + 1) (sN (xs.getD i 0) (k + 1)), c + 2⟩) ?_ ?_)
      ·show nl - (i + 1) < nl - i
       omega
      ·exact zlp (show i + 1 ≤ nl ∧ k + 1 ≤ i + 1 ∧ EpI _ (c + 2) (xs.getD i 0) (k + 1) from ⟨by omega, by omega, ep_next hI hg (by omega)⟩)
    ·refine gc_region (zxm ?_); refine gp znc ?_; refine gp zfa ?_; refine gp zl ?_; refine zxm ?_; refine zc (fun _ => ?_) (c := fun w1 F1 F2 h1 h2 hd hst => genter_S (s := sN e k) (sl := ⟨0, c, bytV (sN e k)⟩) (e := (xs.getD i 0)) (gstep_N (d := dZ f) (ep_bad hI hg) (by decide)) h1 hI.gk.ok (dZ_ok _) nat0 (by simp only; omega) (hE.mv hst.still) (hK.mv hst.still))
     refine zxa ?_; refine gnt (gc_seq (gc_seq ?_)); by_cases hg1 : e < (xs.getD i 0)
     ·refine gc_region (zxm ?_); refine gp (r_bool (c := false) (r_eqnil (k := 18) rfl (by kernel_rfl)) rfl) ?_; refine zxm ?_; refine zxm ?_; refine gp (r_bool (c := true) zgt (decide_eq_true hg1)) ?_; refine zxm ?_; refine gq zmv ?_; refine gq (r_bool (c := false) zle (decide_eq_false (fun h => hg ⟨hg1, h⟩))) ?_; refine gp zpk ?_; refine gp (r_bool (c := false) (r_neq_bool rfl rfl Tryz.underlying4) rfl) ?_; refine gnt (gc_condF rfl rfl ?_); refine gc_skip (gx_then (gc_seq (gsr (zxm ?_)))); refine gp (r_bool (c := true) (r_nenil rfl (by kernel_rfl)) rfl) ?_; refine gnt (gc_condT rfl rfl ?_); refine gc_exit ?_; refine gx_then_exit ?_; refine gx_block_hit ?_; refine gx_then (gc_region (gp (r_int (j := ((i + 1 : Nat) : Int)) (zad (i := (i : Int)) (j := 1) (h := wrap_i64 (by omega) (by omega))) (by omega)) ?_)); refine zxm ?_; refine gl_nil (zrd (⟨i + 1, e, k, f, c⟩) ?_ ?_)
      ·show nl - (i + 1) < nl - i
       omega
      ·exact zlp (show i + 1 ≤ nl ∧ k ≤ i + 1 ∧ EpI f c e k from ⟨by omega, by omega, hI⟩)
     ·refine gc_region (zxm ?_); refine gp (r_bool (c := false) (r_eqnil (k := 18) rfl (by kernel_rfl)) rfl) ?_; refine zxm ?_; refine zxm ?_; refine gp (r_bool (c := false) zgt (decide_eq_false hg1)) ?_; refine zxm ?_; refine gn ?_; refine gn ?_; refine gp zpk ?_; refine gp (r_bool (c := false) (r_neq_bool rfl rfl Tryz.underlying4) rfl) ?_; refine gnt (gc_condF rfl rfl ?_); refine gc_skip (gx_then (gc_seq (gsr (zxm ?_)))); refine gp (r_bool (c := true) (r_nenil rfl (by kernel_rfl)) rfl) ?_; refine gnt (gc_condT rfl rfl ?_); refine gc_exit ?_; refine gx_then_exit ?_; refine gx_block_hit ?_; refine gx_then (gc_region (gp (r_int (j := ((i + 1 : Nat) : Int)) (zad (i := (i : Int)) (j := 1) (h := wrap_i64 (by omega) (by omega))) (by omega)) ?_)); refine zxm ?_; refine gl_nil (zrd (⟨i + 1, e, k, f, c⟩) ?_ ?_)
      ·show nl - (i + 1) < nl - i
       omega
      ·exact zlp (show i + 1 ≤ nl ∧ k ≤ i + 1 ∧ EpI f c e k from ⟨by omega, by omega, hI⟩)
   ·refine gc_exit ?_; refine gx_then_exit ?_; refine gx_round_exit ?_; refine gx_block_hit ?_; refine gx_then (gsr (zxm ?_)); refine gp znc ?_; refine gp zfa ?_; refine gp zl ?_; refine zc (fun _ => ?_) (c := fun w1 F1 F2 h1 h2 hd hst => gstate_ok (d := dZ fun _ => sec0) h1)
    refine zal fun b14 => ?_; refine zsA (stC_len _) (stC_one _) ?_; refine zxs ?_; refine gp zfa ?_; refine gp (r_int (j := e) zl (by rw [sN_e hI.z])) ?_; refine zxm ?_; refine gp (r_bool (c := true) zei (decide_eq_true rfl)) ?_; refine zxm ?_; refine gq zfa ?_; refine gq (r_int (j := (k : Int)) zl (by rw [sN_lf])) ?_; refine gq zmv ?_; refine gq (r_bool (c := true) zei (decide_eq_true rfl)) ?_; refine gp zpk ?_; refine zxm ?_; refine gq zfa ?_; refine gq (r_int (j := 0) zl (by rw [sN_l])) ?_; refine gq (r_bool (c := true) zei (decide_eq_true rfl)) ?_; refine gp zpk ?_; refine zxa ?_; refine gnt (gc_ret (gx_ret1 rfl (by conv => lhs; whnf) ?_)); exact ze ()
end
section
open Go.ChangeShapes Go.WideShapes Go.ChangeAt Go.RowKit
noncomputable def guardEpochs_world (os : Os) : World :=
  let w0 := World.holding Tryz.prog os ⟨#[.cells #[.string ⟨#[113, 117, 111, 114, 97, 116, 101, 58, 32, 114, 97, 110, 103, 101]⟩] 266, .cells #[.string ⟨#[113, 117, 111, 114, 97, 116, 101, 58, 32, 115, 104, 111, 114, 116]⟩] 266, .cells #[.string ⟨#[113, 117, 111, 114, 97, 116, 101, 58, 32, 108, 111, 110, 103]⟩] 266, .cells #[.string ⟨#[113, 117, 111, 114, 97, 116, 101, 58, 32, 102, 111, 114, 109]⟩] 266, .cells #[.string ⟨#[113, 117, 111, 114, 97, 116, 101, 58, 32, 115, 112, 101, 110, 116]⟩] 266, .cells #[.string ⟨#[113, 117, 111, 114, 97, 116, 101, 58, 32, 112, 111, 119, 101, 114]⟩] 266, .cells #[.string ⟨#[113, 117, 111, 114, 97, 116, 101, 58, 32, 100, 105, 115, 107]⟩] 266, .cells #[.string ⟨#[113, 117, 111, 114, 97, 116, 101, 58, 32, 102, 117, 108, 108]⟩] 266, .cells #[.string ⟨#[113, 117, 111, 114, 97, 116, 101, 58, 32, 110, 111, 110, 101]⟩] 266, .cells #[.string ⟨#[113, 117, 111, 114, 97, 116, 101, 58, 32, 111, 108, 100]⟩] 266, .cells #[.string ⟨#[113, 117, 111, 114, 97, 116, 101, 58, 32, 115, 101, 116]⟩] 266, .cells #[.string ⟨#[113, 117, 111, 114, 97, 116, 101, 58, 32, 112, 114, 111, 111, 102]⟩] 266, .cells #[.string ⟨#[113, 117, 111, 114, 97, 116, 101, 58, 32, 108, 101, 97, 100, 101, 114]⟩] 266, .cells #[.string ⟨#[113, 117, 111, 114, 97, 116, 101, 58, 32, 114, 111, 117, 110, 100]⟩] 266, .cells #[.string ⟨#[113, 117, 111, 114, 97, 116, 101, 58, 32, 117, 110, 115, 97, 102, 101]⟩] 266, .cells #[.string ⟨#[113, 117, 111, 114, 97, 116, 101, 58, 32, 112, 97, 114, 101, 110, 116]⟩] 266, .cells #[.string ⟨#[113, 117, 111, 114, 97, 116, 101, 58, 32, 116, 119, 105, 99, 101]⟩] 266, .cells #[.string ⟨#[113, 117, 111, 114, 97, 116, 101, 58, 32, 101, 112, 111, 99, 104]⟩] 266], #[], []⟩
  { w0 with heap := ((((((((((((((((((w0.heap.modify 0 fun
      | .cells _ t fz => .cells #[.iface 241 (.pointer (some ⟨lowB + 0, 0, none⟩))] t fz
      | o => o).modify 2 fun
      | .cells _ t fz => .cells #[.iface 241 (.pointer (some ⟨lowB + 1, 0, none⟩))] t fz
      | o => o).modify 3 fun
      | .cells _ t fz => .cells #[.iface 241 (.pointer (some ⟨lowB + 2, 0, none⟩))] t fz
      | o => o).modify 4 fun
      | .cells _ t fz => .cells #[.iface 241 (.pointer (some ⟨lowB + 3, 0, none⟩))] t fz
      | o => o).modify 5 fun
      | .cells _ t fz => .cells #[.iface 241 (.pointer (some ⟨lowB + 4, 0, none⟩))] t fz
      | o => o).modify 6 fun
      | .cells _ t fz => .cells #[.iface 241 (.pointer (some ⟨lowB + 5, 0, none⟩))] t fz
      | o => o).modify 1 fun
      | .cells _ t fz => .cells #[.iface 241 (.pointer (some ⟨lowB + 6, 0, none⟩))] t fz
      | o => o).modify 7 fun
      | .cells _ t fz => .cells #[.iface 241 (.pointer (some ⟨lowB + 7, 0, none⟩))] t fz
      | o => o).modify 8 fun
      | .cells _ t fz => .cells #[.iface 241 (.pointer (some ⟨lowB + 8, 0, none⟩))] t fz
      | o => o).modify 9 fun
      | .cells _ t fz => .cells #[.iface 241 (.pointer (some ⟨lowB + 9, 0, none⟩))] t fz
      | o => o).modify 10 fun
      | .cells _ t fz => .cells #[.iface 241 (.pointer (some ⟨lowB + 10, 0, none⟩))] t fz
      | o => o).modify 11 fun
      | .cells _ t fz => .cells #[.iface 241 (.pointer (some ⟨lowB + 11, 0, none⟩))] t fz
      | o => o).modify 12 fun
      | .cells _ t fz => .cells #[.iface 241 (.pointer (some ⟨lowB + 12, 0, none⟩))] t fz
      | o => o).modify 13 fun
      | .cells _ t fz => .cells #[.iface 241 (.pointer (some ⟨lowB + 13, 0, none⟩))] t fz
      | o => o).modify 14 fun
      | .cells _ t fz => .cells #[.iface 241 (.pointer (some ⟨lowB + 14, 0, none⟩))] t fz
      | o => o).modify 15 fun
      | .cells _ t fz => .cells #[.iface 241 (.pointer (some ⟨lowB + 15, 0, none⟩))] t fz
      | o => o).modify 16 fun
      | .cells _ t fz => .cells #[.iface 241 (.pointer (some ⟨lowB + 16, 0, none⟩))] t fz
      | o => o).modify 17 fun
      | .cells _ t fz => .cells #[.iface 241 (.pointer (some ⟨lowB + 17, 0, none⟩))] t fz
      | o => o).modify 18 fun
      | .cells _ t fz => .cells (kc.map W32).toArray t fz
      | o => o }
def guardEpochs_args : Array Value := #[.agg (dc dig0).toArray, .slice none 0 0]
theorem guardEpochs_laid (os : Os) (args : Array Value) : laidMet Tryz.prog Rows.guardEpochsRow.laid ((guardEpochs_world os).forCall (fun _ _ => 0) ⟨#[], args, []⟩).memory :=
  laidMet_of_run' 8 (by kernel_rfl) (by kernel_rfl)
theorem guardEpochs_reads (os : Os) {H : Type} (enc : TypeId × Value → H) : ∃ places, DataW.whole enc Tryz.prog ((guardEpochs_world os).forCall (fun _ _ => 0) ⟨#[], guardEpochs_args, []⟩).memory Tryz.f4.params.toList Rows.guardEpochsSpec.vars false guardEpochs_args.toList 8 = some ([digD, .nil], [], places) :=
  ⟨[], by kernel_rfl⟩
set_option maxRecDepth 20000 in
theorem guardEpochs_contract (H : Type) (enc : TypeId × Value → H) (W : World) (base : Nat) (args : Array Value) (ds gs : List (DataW H)) (before : List MemPlace)
    (hval : ∀ (j : Nat) t v, Tryz.f4.params[j]? = some t → args[j]? = some v → Value.okWide Tryz.prog W .any base t v)
    (hW : DataW.Whole enc Tryz.prog Tryz.f4.params.toList Rows.guardEpochsSpec.vars false W args.toList ds gs before) (hL : laidMetH Tryz.prog Rows.guardEpochsRow.laid W) :
    Calls Tryz.prog 4 args W fun e W' => ∃ v, e = .returned v ∧ Rows.guardEpochsSpec.post enc Tryz.prog Tryz.f4 false true false false W args v W' := by
  have hW' := hW
  have hlt : ∀ p ∈ before, p.block < W.heap.size := fun p hp => hW.lt p hp
  obtain ⟨p, q, hA0, hV, rfl, hfz, hnd⟩ := hW
  have hA : DataW.TrodAll enc Tryz.prog W 0 (fun _ => true) true Tryz.f4.params.toList args.toList ds p := hA0
  rw [Tryz.params4] at hA hval
  obtain ⟨v0, vs0, d0, ds0, p0, q0, hargs, rfl, rfl, h0, r0⟩ := trodAll_cons hA
  obtain ⟨v1, vs1, d1, ds1, p1, q1, rfl, rfl, rfl, h1, r1⟩ := trodAll_cons r0
  obtain ⟨rfl, rfl, rfl⟩ := trodAll_nil r1
  obtain rfl : args = #[v0, v1] := by cases args; simp_all
  obtain ⟨rfl, rfl⟩ := trodVars_none hV
  obtain ⟨x0, hx0⟩ : ∃ x, RdDig v0.cells.toList x := by obtain ⟨fuel, hf⟩ := h0; exact o_dig fuel _ _ hf
  have e0 := agg_of_len (n := 16) (by rw [show v0.cells.toList = dc x0 from hx0]; exact dc_length _) (by decide)
  rw [show v0.cells.toList = dc x0 from hx0] at e0
  obtain ⟨a1, m1, c1, rfl⟩ := okWide_slice (run_sliceT Ty.sl_52) (hval 1 52 v1 rfl rfl)
  obtain ⟨x1, hx1⟩ : ∃ x, RdRowC (Value.int .i64) W TT [.slice a1 m1 c1] x := by obtain ⟨fuel, hf⟩ := h1; exact o_rints fuel _ _ hf
  have hL' : laidMet Tryz.prog Rows.guardEpochsRow.laid W := hL
  obtain ⟨ea, hN⟩ := laid_nerr (r := [("quorate/hash.constants", Rows.laid_quorate_hash_constants)]) (show laidMet Tryz.prog (errNames.map errRow ++ [("quorate/hash.constants", Rows.laid_quorate_hash_constants)]) W from hL')
  have hK := laid_kr hL'.tail.tail.tail.tail.tail.tail.tail.tail.tail.tail.tail.tail.tail.tail.tail.tail.tail.tail
  have walk := guardEpochs_ok (seed := x0) (cl := c1) no_res hN hK (hx1.row.mv still_id)
  rw [← e0] at walk
  refine Calls.mono (show Calls Tryz.prog 4 #[v0, .slice a1 m1 c1] W _ from walk) fun e W' ⟨_, he, hs⟩ => ?_
  subst he
  have bel := below_of hs
  have eF : Rows.guardEpochsSpec.fn H ([d0, d1] ++ []) = { results := [.lit (.bool true)], args := [d0, d1] } := rfl
  have l0 : ∀ z ∈ p0, z.block < W.heap.size := fun z hz => hlt z (by simp [hz])
  have l1 : ∀ z ∈ p1, z.block < W.heap.size := fun z hz => hlt z (by simp [hz])
  refine ⟨_, rfl, _, _, _, [], p0 ++ (p1 ++ ([])), [], hW', ?_, ?_, ?_, bel.frame _, fun h => by cases h⟩
  · rw [eF]; exact trodAll_cons_mk (shut_bool Tryz.underlying4 _) trodAll_mk0
  · rw [eF, Tryz.params4]
    exact trodAll_cons_mk (Below.trod laidOut (by kernel_rfl) (of_decide_eq_true (by kernel_rfl)) h0 bel l0) (trodAll_cons_mk (Below.trod laidOut (by kernel_rfl) (of_decide_eq_true (by kernel_rfl)) h1 bel l1) (trodAll_mk0))
  · rw [eF]; rfl
set_option maxRecDepth 100000 in
theorem guardEpochs_lifted (os : Os) (started : os.Started) (H : Type) (enc : TypeId × Value → H) (F : Stop.Interp) :
    ReturnsInHanded {} Tryz.checked os 4 .any ((OpenSpec.ofChange Rows.guardEpochsSpec).preRow enc Tryz.prog Tryz.f4 Rows.guardEpochsRow.domain false Rows.guardEpochsRow.laid) (((OpenSpec.ofChange Rows.guardEpochsSpec).at F).post enc Tryz.prog Tryz.f4 false true false false) := by
  obtain ⟨places, hx⟩ := guardEpochs_reads os enc
  refine returnsInHanded_of_row (C := Tryz.checked) (s := OpenSpec.ofChange Rows.guardEpochsSpec) own started (by kernel_rfl) Tryz.func4
    (witness_row_atRef (enc := enc) (C := Tryz.checked) false (guardEpochs_world os) guardEpochs_args rfl (by kernel_rfl) (by kernel_rfl) (by kernel_rfl)
      (OpenSpec.preRow_of_cond 8 hx (by kernel_rfl) (fun k hk => by cases hk) (by kernel_rfl) (guardEpochs_laid os _))) ?_
  intro W base args ds gs before hval hW _ _ _ hL _ _
  exact guardEpochs_contract H enc W base args ds gs before hval hW hL
theorem and_tt {a b : Bool} (h : a = true) (k : b = true) : (a && b) = true := by rw [h, k]; rfl
theorem guardEpochs_k0 : (Rows.guardEpochsRow.wf (OpenSpec.ofChange (OpenSpec.ofChange Rows.guardEpochsSpec).bare)) = true := by kernel_rfl
theorem guardEpochs_k1 : (laidOutB Tryz.pinned.checked.prog) = true := by kernel_rfl
theorem guardEpochs_k2 : (mapsRowed Tryz.pinned.checked.prog) = true := by kernel_rfl
theorem guardEpochs_k3 : (Tryz.f4.params.all (Tryz.pinned.checked.prog.readableRec ·)) = true := by kernel_rfl
theorem guardEpochs_k4 : (namedTie Tryz.pinned.checked.prog Rows.guardEpochsRow.named (OpenSpec.ofChange Rows.guardEpochsSpec).bare.vars) = true := by kernel_rfl
theorem guardEpochs_k5 : ((Rows.guardEpochsRow.stops == [])) = true := by kernel_rfl
theorem guardEpochs_k6 : ((Tryz.pinned.checked.prog.stops == [])) = true := by kernel_rfl
theorem guardEpochs_k7 : ((Rows.guardEpochsRow.knobs == [])) = true := by kernel_rfl
theorem guardEpochs_k8 : ((Tryz.pinned.checked.prog.stopKnobs == [])) = true := by kernel_rfl
theorem guardEpochs_k9 : ((Rows.guardEpochsRow.inPlace == Tryz.pinned.checked.prog.inPlace 4)) = true := by kernel_rfl
theorem guardEpochs_k10 : ((Rows.guardEpochsRow.unfollowed == Tryz.pinned.checked.prog.unfollowed 4)) = true := by kernel_rfl
theorem guardEpochs_k11 : ((Rows.guardEpochsRow.recurses == Tryz.pinned.checked.prog.recurses 4)) = true := by kernel_rfl
theorem guardEpochs_k12 : ((Rows.guardEpochsRow.named == Tryz.pinned.checked.prog.varsNamed 4)) = true := by kernel_rfl
theorem guardEpochs_k13 : ((Rows.guardEpochsRow.maps == (Tryz.f4.params.toList ++ (OpenSpec.ofChange Rows.guardEpochsSpec).bare.plain.varTypes Tryz.pinned.checked.prog).any (Tryz.pinned.checked.prog.mapsRec ·))) = true := by kernel_rfl
theorem guardEpochs_k14 : ((Rows.guardEpochsRow.ifaces == (Tryz.f4.params.toList ++ (OpenSpec.ofChange Rows.guardEpochsSpec).bare.plain.varTypes Tryz.pinned.checked.prog).any (Tryz.pinned.checked.prog.ifacesRec ·))) = true := by kernel_rfl
theorem guardEpochs_k15 : ((Rows.guardEpochsRow.mapsOut == Tryz.pinned.checked.prog.mapsAmong Tryz.f4.resultTypes.toList)) = true := by kernel_rfl
theorem guardEpochs_k16 : ((Rows.guardEpochsRow.loops == (Tryz.f4.params.toList ++ (OpenSpec.ofChange Rows.guardEpochsSpec).bare.plain.varTypes Tryz.pinned.checked.prog).any (Tryz.pinned.checked.prog.loopsFrom ·))) = true := by kernel_rfl
theorem guardEpochs_k17 : ((Rows.guardEpochsRow.wideKeys == (Tryz.f4.params.toList ++ (OpenSpec.ofChange Rows.guardEpochsSpec).bare.plain.varTypes Tryz.pinned.checked.prog ++ Tryz.f4.resultTypes.toList).any (Tryz.pinned.checked.prog.wideKeysFrom ·))) = true := by kernel_rfl
theorem guardEpochs_k18 : ((OpenSpec.ofChange Rows.guardEpochsSpec).bare.vars.all (Tryz.pinned.checked.prog.varReadable ·)) = true := by kernel_rfl
theorem guardEpochs_k19 : (Tryz.f4.resultTypes.all (fun t => Tryz.pinned.checked.prog.readableRec t && decide (t < Tryz.pinned.checked.prog.types.size))) = true := by kernel_rfl
theorem guardEpochs_k20 : ((Rows.guardEpochsRow.ifacesOut == Tryz.f4.resultTypes.toList.any (Tryz.pinned.checked.prog.ifacesRec ·))) = true := by kernel_rfl
theorem guardEpochs_k21 : ((Rows.guardEpochsRow.loopsOut == Tryz.f4.resultTypes.toList.any (Tryz.pinned.checked.prog.loopsFrom ·))) = true := by kernel_rfl
theorem guardEpochs_k22 : ((Rows.guardEpochsRow.plainKeys == Tryz.pinned.checked.prog.plainKeys)) = true := by kernel_rfl
theorem guardEpochs_k23 : (Rows.guardEpochsRow.shortTexts.isNone) = true := by kernel_rfl
theorem guardEpochs_k24 : (Tryz.pinned.checked.prog.stopsHeard) = true := by kernel_rfl
theorem guardEpochs_k25 : (Tryz.pinned.checked.prog.mayEnter) = true := by kernel_rfl
theorem guardEpochs_k26 : ((Rows.guardEpochsRow.lifted == Tryz.pinned.checked.prog.liftsFinal)) = true := by kernel_rfl
theorem guardEpochs_k27 : ((Tryz.pinned.checked.prog.make == some Rows.guardEpochsRow.make)) = true := by kernel_rfl
theorem guardEpochs_k28 : ((Rows.guardEpochsRow.kinds == (if Rows.guardEpochsRow.domain.isEmpty then [] else Tryz.f4.params.toList.map fun t => match Tryz.pinned.checked.prog.underlying t with | some (.int k) => some k | _ => none))) = true := by kernel_rfl
theorem guardEpochs_k29 : ((Rows.guardEpochsRow.pinned == Rows.guardEpochsRow.pinnedBy)) = true := by kernel_rfl
theorem guardEpochs_k30 : ((Rows.guardEpochsRow.veiled == (Tryz.f4.params.toList ++ (OpenSpec.ofChange Rows.guardEpochsSpec).bare.plain.varTypes Tryz.pinned.checked.prog ++ Tryz.f4.resultTypes.toList).any (Tryz.pinned.checked.prog.veiledRec ·))) = true := by kernel_rfl
theorem guardEpochs_k31 : (Rows.guardEpochsRow.veiledFits Tryz.pinned.checked.prog Tryz.f4.params.toList (Tryz.f4.params.toList ++ (OpenSpec.ofChange Rows.guardEpochsSpec).bare.plain.varTypes Tryz.pinned.checked.prog ++ Tryz.f4.resultTypes.toList)) = true := by kernel_rfl
set_option maxRecDepth 100000 in
theorem guardEpochs_facts : joinedFacts Tryz.pinned.checked.prog 4 Tryz.f4 (OpenSpec.ofChange Rows.guardEpochsSpec).bare Rows.guardEpochsRow = true := (and_tt (and_tt (and_tt (and_tt (and_tt (and_tt (and_tt (and_tt (and_tt (and_tt (and_tt (and_tt (and_tt (and_tt (and_tt (and_tt (and_tt (and_tt (and_tt (and_tt (and_tt (and_tt (and_tt (and_tt (and_tt (and_tt (and_tt (and_tt (and_tt (and_tt (and_tt guardEpochs_k0 guardEpochs_k1) guardEpochs_k2) guardEpochs_k3) guardEpochs_k4) guardEpochs_k5) guardEpochs_k6) guardEpochs_k7) guardEpochs_k8) guardEpochs_k9) guardEpochs_k10) guardEpochs_k11) guardEpochs_k12) guardEpochs_k13) guardEpochs_k14) guardEpochs_k15) guardEpochs_k16) guardEpochs_k17) guardEpochs_k18) guardEpochs_k19) guardEpochs_k20) guardEpochs_k21) guardEpochs_k22) guardEpochs_k23) guardEpochs_k24) guardEpochs_k25) guardEpochs_k26) guardEpochs_k27) guardEpochs_k28) guardEpochs_k29) guardEpochs_k30) guardEpochs_k31)
theorem guardEpochs_said : Rows.GuardEpochsSaid :=
  OpenClaim.holds_of_cond 4 Tryz.f4 rfl rfl rfl rfl rfl rfl rfl ⟨rfl, rfl, rfl, rfl, rfl⟩ rfl rfl rfl rfl rfl (by kernel_rfl) Tryz.func4 guardEpochs_facts
    (of_decide_eq_true (by kernel_rfl)) (by unfold Func.isWrapper; first | (rw [if_pos (by decide +kernel)]; kernel_rfl) | (rw [if_neg (by decide +kernel)]; exact ⟨rfl, rfl⟩))
    (fun os started H enc _ F => by rw [OpenClaim.pre_eq_preRow]; exact guardEpochs_lifted os started H enc F)
theorem guardEpochs_plain (f : FuncId) (fn : Func) (hf : Tryz.pinned.checked.prog.funcNamed "quorate/quoratelaw14.GuardEpochs" = some f) (hfn : Tryz.pinned.checked.prog.funcs[f]? = some fn) :
    true = Tryz.pinned.checked.prog.looks [] ∧ ∀ (j : Nat) t, fn.params[j]? = some t → Tryz.pinned.checked.prog.wantsStandIn t = false := by
  obtain rfl : f = 4 := Option.some.inj ((show Tryz.prog.funcNamed "quorate/quoratelaw14.GuardEpochs" = some 4 by kernel_rfl).symm.trans hf) |>.symm
  obtain rfl : fn = Tryz.f4 := (Option.some.inj (Tryz.func4.symm.trans hfn)).symm
  refine ⟨by kernel_rfl, fun j t ht => ?_⟩
  rw [Tryz.params4] at ht
  have hm := Array.mem_of_getElem? ht
  have h : t = 32 ∨ t = 52 := by simpa using hm
  rcases h with rfl | rfl
  · exact (show Tryz.prog.wantsStandIn 32 = false by kernel_rfl)
  · exact (show Tryz.prog.wantsStandIn 52 = false by kernel_rfl)
theorem guardEpochs_holds : Rows.GuardEpochsCardSaid :=
  Claim7.holds_tied_plain_at .later [] _ _ _ _ guardEpochs_said (fun _ h => by cases h) (by kernel_rfl) (fun _ h => by cases h) guardEpochs_row_tie rfl ⟨rfl, rfl⟩ (by kernel_rfl) rfl guardEpochs_plain (by kernel_rfl)
#print axioms guardEpochs_holds
end
end Go.Proofs.YtggjlkheniombaaGreatDoor
