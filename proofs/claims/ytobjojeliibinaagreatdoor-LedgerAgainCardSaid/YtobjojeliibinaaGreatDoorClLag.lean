/- Part 7. What is proved: see the last part: for every input the law returns true, and the input reads as it did. -/
import Derived.Test.YtobjojeliibinaaGreatDoorCl6
import Derived.Test.YtobjojeliibinaaGreatDoorCards
import Derived.Test.YtobjojeliibinaaGreatDoorTie
import Derived.Deep.DeepHandedRow
import Derived.Deep.DeepWitnessRowRef
/- Walks, by program (wg.py) out of a spec. -/
namespace Go.Proofs.YtobjojeliibinaaGreatDoor
open Go
set_option linter.unusedVariables false
set_option linter.unusedSimpArgs false


def recsA (f : Nat → LRec) (k : Nat) : List LRec := (List.range k).map f
theorem recsA_succ (f : Nat → LRec) (k : Nat) : recsA f (k + 1) = recsA f k ++ [f k] := by simp [recsA, List.range_succ]
theorem recsA_len (f : Nat → LRec) (k : Nat) : (recsA f k).length = k := by simp [recsA]
theorem recsA_at {f : Nat → LRec} {k i : Nat} (h : i < k) : (recsA f k)[i]? = some (f i) := by simp [recsA, h]
theorem recsA_tot {f : Nat → LRec} (h : ∀ i, lenR (f i) ≤ 7) : ∀ k, tot (recsA f k) ≤ 7 * k
  | 0 => Nat.le_refl _
  | k + 1 => by rw [recsA_succ, tot_snoc]; have := recsA_tot h k; have := h k; omega
theorem lenR_sm (i v : Int) (tx : UInt8) : lenR (smR (rndU i) tx (vts v)) ≤ 7 := by have := sm_sec (n := rndU i) (tx := tx) (rnd_lt i) (vts_lt v); rw [lenR_eq]; omega
theorem smU_ok (i v : Int) (tx : UInt8) : (smR (rndU i) tx (vts v)).Ok := sm_ok (rnd_lt i) (vts_lt v)
theorem recsA_zero (f : Nat → LRec) : recsA f 0 = [] := rfl
def alF (i : Nat) : LRec := smR (rndU ((i + 1 : Nat) : Int)) 7 (vts 0)
theorem al_len (i : Nat) : lenR (alF i) ≤ 7 := lenR_sm _ _ _
theorem alF_eq (i : Nat) : alF i = smR (rndU ((i + 1 : Nat) : Int)) 7 (vts 0) := rfl
def secN (a : Int) : Nat := 2 + ((IntKind.u64.wrap a).tmod 100).toNat
theorem secN_eq (a : Int) : (IntKind.u64.wrap a).tmod 100 = ((secN a - 2 : Nat) : Int) ∧ 2 ≤ secN a ∧ secN a < 102 := by
  have := u64_rem a (m := 100) (by decide)
  unfold secN
  refine ⟨by rw [Nat.add_sub_cancel_left]; exact this.1, by omega, by have h2 : ((IntKind.u64.wrap a).tmod 100).toNat < 100 := this.2; omega⟩
def fuF (v : Int) (tx : UInt8) (i : Nat) : LRec := smR (rndU (i : Int)) tx (vts v)
theorem fu_eq (v : Int) (tx : UInt8) (k : Nat) : (⟨(smR (rndU (k : Int)) tx (vts v)).b, (smR (rndU (k : Int)) tx (vts v)).c⟩ : LRec) = fuF v tx k := rfl
theorem fu_len (v : Int) (tx : UInt8) (i : Nat) : lenR (fuF v tx i) = 1 + nsec (fuF v tx i).data.length := rfl

attribute [local irreducible] Gl Gc Gx Gs Runs Wt

attribute [local irreducible] dc RdRec RdBlock RdQC blkC qcC allE smR recsA alF fuF secN tot rndU vts LdR

set_option maxHeartbeats 400000 in
theorem alive18_ok {w : World} {F : Nat → Prop} (h : stars [] w F) {ea : Nat → Addr} {es : List Nat} [Has es 1] [Has es 2] [Has es 3] [Has es 4] [Has es 6] [Has es 7] [Has es 8] [Has es 12] (hE : GErr es w (fun k => ¬ F k) 340 ea) (hK : KR w (fun k => ¬ F k))  :
    Calls Tryz.prog 40 #[] w (Post w F (fun _ : Unit => .bool true) (fun _ => [])) := by
  refine g_enter (env := []) Tryz.func40 rfl h Tryz.ntmps40 rfl rfl ?_
  refine gsr ?_
  refine gp zas ?_
  refine gnt ?_
  refine gsr ?_
  refine zc (fun g => ?_) (c := fun w1 F1 F2 h1 h2 hd hst => new_ok (ea := ea) (n := 40) h1 (by decide) (by decide))
  refine gp zmv ?_
  refine gp zex ?_
  refine gp zex ?_
  refine gp zas ?_
  refine gp zas ?_
  refine gnt ?_
  refine gc_seq ?_
  refine gsr ?_
  refine gp zmv ?_
  refine gp (r_bool (c := false) (r_nenil rfl (by kernel_rfl)) rfl) ?_
  refine gp zmv ?_
  refine gq zmv ?_
  refine gq (r_bool (c := false) (r_eqpn rfl Ty.un_91) rfl) ?_
  refine gp zpk ?_
  refine gnt ?_
  refine gc_condF rfl rfl ?_
  refine gc_skip ?_
  refine gx_then ?_
  refine gsr ?_
  refine gp zmv ?_
  refine zc (fun q => ?_) (c := fun w1 F1 F2 h1 h2 hd hst => fmtC (n := 40) (bs := 0) h1 (by decide) (by decide) (hE.mv hst.still))
  refine gp zmv ?_
  refine gp zex ?_
  refine gp zex ?_
  refine gp zas ?_
  refine gp zas ?_
  refine gnt ?_
  refine gc_seq ?_
  refine gsr ?_
  refine gp zmv ?_
  refine gp (r_bool (c := false) (r_nenil rfl (by kernel_rfl)) rfl) ?_
  refine gp zmv ?_
  refine gq zmv ?_
  refine gq (r_bool (c := false) (r_eqpn rfl Ty.un_59) rfl) ?_
  refine gp zpk ?_
  refine gnt ?_
  refine gc_condF rfl rfl ?_
  refine gc_skip ?_
  refine gx_then ?_
  refine gc_seq ?_
  refine gsr ?_
  refine gp zmv ?_
  refine gnt ?_
  refine gc_block ?_
  refine gc_loop (α := Nat) (fun k => [pureR (k ≤ 2), LdR q g 40 0 (recsA alF k)]) (fun k => [(27, .int .i64 (k : Int))]) [0, 4, 5, 28, 29, 30, 31, 32, 33, 34, 35, 36, 37, 38, 39, 40] (fun k => 2 - k) 0 ?_ ?_ ?_
  · refine env_start (by kernel_rfl)
  · simp only [recsA_zero]
    exact zlp (Nat.zero_le _)
  · intro k u
    refine gc_pureR (fun hk => ?_)
    replace hk : k ≤ 2 := hk
    have hlen := recsA_len alF k
    have htot := recsA_tot al_len k
    have hsec := sm_sec (tx := 7) (rnd_lt ((k + 1 : Nat) : Int)) (vts_lt 0)
    refine gsr ?_
    refine gp zlt ?_
    refine gnt ?_
    refine gc_seq ?_
    refine gif rfl (fun hc28 => ?_) (fun hc28 => ?_)
    · try simp only at hc28
      have hk' : k < 2 := by omega
      refine gc_skip ?_
      refine gx_then ?_
      refine gc_seq ?_
      refine gc_block ?_
      refine gsr ?_
      refine gp zmv ?_
      refine gp zas ?_
      refine gnt ?_
      refine gsr ?_
      refine gp zmv ?_
      refine gp (r_int (j := ((k + 1 : Nat) : Int)) zad (by omega)) ?_
      refine zc ?_ (c := fun w1 F1 F2 h1 h2 hd hst => small_ok (i := ((k + 1 : Nat) : Int)) (v := 0) (tx := 7) h1 (hE.mv hst.still) (hK.mv hst.still))
      rintro ⟨xb, xc⟩
      refine gl_pureR (fun hxx => ?_)
      obtain ⟨⟨hlb, hob⟩, hlc, hoc⟩ := hxx
      replace hlb : xb.length = 39 := hlb
      replace hlc : xc.length = 19 := hlc
      have ib := Len.of hlb
      have jb := One.of (show ∀ v ∈ xb, v.oneCell' = true from hob)
      have ic := Len.of hlc
      have jc := One.of (show ∀ v ∈ xc, v.oneCell' = true from hoc)
      refine zal fun b5 => ?_
      refine zsN ?_
      refine gnt ?_
      refine gsr ?_
      refine gp zmv ?_
      refine gp zfa ?_
      refine gp (zL (sg := xb)) ?_
      refine gp zfa ?_
      refine gp (zL (sg := xc)) ?_
      refine zc (fun _ => ?_) (c := fun w1 F1 F2 h1 h2 hd hst => appC (b := (smR (rndU ((k + 1 : Nat) : Int)) 7 (vts 0)).b) (c := (smR (rndU ((k + 1 : Nat) : Int)) 7 (vts 0)).c) h1 (hE.mv hst.still) (hK.mv hst.still) (vl_rd h2 hd (by repeat (first | exact Pick.here | apply Pick.there))) (vl_rd h2 hd (by repeat (first | exact Pick.here | apply Pick.there))) (smU_ok _ _ _) (by omega) (by show 0 + tot (recsA alF k) + nsec (smR (rndU ((k + 1 : Nat) : Int)) 7 (vts 0)).data.length + 2 ≤ 40; omega))
      refine gp (r_bool (c := false) (r_nenil rfl (by kernel_rfl)) rfl) ?_
      refine gnt ?_
      refine gc_condF rfl rfl ?_
      refine gc_skip ?_
      refine gx_block_normal ?_
      refine gx_then ?_
      refine gc_region ?_
      refine gp zad ?_
      refine gp zmv ?_
      refine gl_nil ?_
      refine zrd (k + 1) ?_ ?_
      · show 2 - (k + 1) < 2 - k
        omega
      · simp only [recsA_succ, alF_eq]
        exact zlp (show k + 1 ≤ 2 by omega)
    · try simp only at hc28
      have hk' : k = 2 := by omega
      subst hk'
      refine gc_exit ?_
      refine gx_then_exit ?_
      refine gx_round_exit ?_
      refine gx_block_hit ?_
      refine gx_then ?_
      refine gsr ?_
      refine gp zmv ?_
      refine zc (fun _ => ?_) (c := fun w1 F1 F2 h1 h2 hd hst => crashC h1)
      refine gnt ?_
      refine gsr ?_
      refine gp zmv ?_
      refine zc (fun p => ?_) (c := fun w1 F1 F2 h1 h2 hd hst => openC h1 (hE.mv hst.still) (hK.mv hst.still))
      refine gp zmv ?_
      refine gp zex ?_
      refine gp zex ?_
      refine gp zas ?_
      refine gp zas ?_
      refine gnt ?_
      refine gsr ?_
      refine gp zmv ?_
      refine gp (r_bool (c := true) (r_eqnil (k := 0) rfl (by kernel_rfl)) rfl) ?_
      refine gp zmv ?_
      refine gq zmv ?_
      refine gq (r_bool (c := true) (r_nepn rfl Ty.un_59) rfl) ?_
      refine gp zpk ?_
      refine gp zmv ?_
      refine gq zmv ?_
      refine zc (fun _ => ?_) (c := fun w1 F1 F2 h1 h2 hd hst => lenC h1)
      refine gq (r_bool (c := true) zei (by simp [recsA_len])) ?_
      refine gp zpk ?_
      refine gp zas ?_
      refine gnt ?_
      refine gc_ret ?_
      refine gx_ret1 rfl (by conv => lhs; whnf) ?_
      exact ze ()

set_option maxHeartbeats 400000 in
theorem ledgerFull_ok {w : World} {F : Nat → Prop} {a ok ord ov os : Int} {tx : UInt8} {ao : Option Addr} {no co : Nat} {ea : Nat → Addr} (h : stars [] w F) (hN : NErr w (fun k => ¬ F k) ea) (hK : KR w (fun k => ¬ F k))  :
    Calls Tryz.prog 9 #[.int .i64 a, .agg (List.toArray [.int .i64 ok, .int .i64 ord, .int .i64 ov, .int .i64 os, B8 tx, .slice ao no co])] w (Post w F (fun _ : Unit => .bool true) (fun _ => [])) := by
  have hE := hN.g
  obtain ⟨hse, hs2, hs1⟩ := secN_eq a
  refine g_enter (env := [(0, .int .i64 a), (1, .agg (List.toArray [.int .i64 ok, .int .i64 ord, .int .i64 ov, .int .i64 os, B8 tx, .slice ao no co]))]) Tryz.func9 rfl h Tryz.ntmps9 rfl rfl ?_
  refine gsr ?_
  refine zbN fun b3 => ?_
  refine gp zas ?_
  refine gnt ?_
  refine gc_seq ?_
  refine gsr ?_
  refine zc (fun _ => ?_) (c := fun w1 F1 F2 h1 h2 hd hst => alive18_ok h1 (hE.mv hst.still) (hK.mv hst.still))
  refine gp znt ?_
  refine gnt ?_
  refine gc_condF rfl rfl ?_
  refine gc_skip ?_
  refine gx_then ?_
  refine gsr ?_
  refine gp zmv ?_
  refine gp zci ?_
  refine gp (r_int (j := ((secN a - 2 : Nat) : Int)) zrm hse) ?_
  refine gp (r_int (j := ((secN a - 2 : Nat) : Int)) zci (wrap_i64 (by omega) (by omega))) ?_
  refine gp (r_int (j := ((secN a : Nat) : Int)) zad (by omega)) ?_
  refine gp zas ?_
  refine gnt ?_
  refine gsr ?_
  refine gp zmv ?_
  refine zc (fun g => ?_) (c := fun w1 F1 F2 h1 h2 hd hst => new_ok (ea := ea) (n := secN a) h1 (by omega) (by omega))
  refine gp zmv ?_
  refine gp zex ?_
  refine gp zex ?_
  refine gp zas ?_
  refine gp zas ?_
  refine gnt ?_
  refine gc_seq ?_
  refine gsr ?_
  refine gp zmv ?_
  refine gp (r_bool (c := false) (r_nenil rfl (by kernel_rfl)) rfl) ?_
  refine gnt ?_
  refine gc_condF rfl rfl ?_
  refine gc_skip ?_
  refine gx_then ?_
  refine gsr ?_
  refine gp zmv ?_
  refine zc (fun q => ?_) (c := fun w1 F1 F2 h1 h2 hd hst => fmtC (n := secN a) (bs := 0) h1 (by omega) (by omega) (hE.mv hst.still))
  refine gp zmv ?_
  refine gp zex ?_
  refine gp zex ?_
  refine gp zas ?_
  refine gp zas ?_
  refine gnt ?_
  refine gc_seq ?_
  refine gsr ?_
  refine gp zmv ?_
  refine gp (r_bool (c := false) (r_nenil rfl (by kernel_rfl)) rfl) ?_
  refine gnt ?_
  refine gc_condF rfl rfl ?_
  refine gc_skip ?_
  refine gx_then ?_
  refine gsr ?_
  refine gp zas ?_
  refine gnt ?_
  refine gc_seq ?_
  refine gc_block ?_
  refine gc_loop (α := Nat) (fun k => [LdR q g (secN a) 0 (recsA (fuF ov tx) k), blk b3 90 [.int .i64 ok, .int .i64 ord, .int .i64 ov, .int .i64 os, B8 tx, .slice ao no co]]) (fun k => [(8, .int .i64 (k : Int))]) [4, 9, 10, 11, 34, 35, 36, 37, 38, 39, 40, 41, 42, 43, 44, 45, 46, 47, 48, 49, 50, 51, 52, 53, 54, 55, 56, 57, 58, 59, 60, 61, 62, 63, 64, 65, 66, 67, 68, 69] (fun k => secN a - tot (recsA (fuF ov tx) k)) 0 ?_ ?_ ?_
  · refine env_start (by kernel_rfl)
  · simp only [recsA_zero]
    exact zsel
  · intro k u
    have hlen := recsA_len (fuF ov tx) k
    have htg := tot_ge (recsA (fuF ov tx) k)
    refine gc_fact (p := 0 + tot (recsA (fuF ov tx) k) < secN a) (fun w' hw => by obtain ⟨F', hF', _⟩ := hw; obtain ⟨d, hd, _⟩ := ld_open hF'; exact tot_lt hd) (fun htl => ?_)
    have hts : tot (recsA (fuF ov tx) (k + 1)) = tot (recsA (fuF ov tx) k) + lenR (fuF ov tx k) := by rw [recsA_succ, tot_snoc]
    have hfl := fu_len ov tx k
    refine gc_block ?_
    refine gsr ?_
    refine gp zmv ?_
    refine gp zfa ?_
    refine gp (zl) ?_
    refine gp zfa ?_
    refine gp zl ?_
    refine zc ?_ (c := fun w1 F1 F2 h1 h2 hd hst => small_ok (i := (k : Int)) (v := ov) (tx := tx) h1 (hE.mv hst.still) (hK.mv hst.still))
    rintro ⟨xb, xc⟩
    refine gl_pureR (fun hxx => ?_)
    obtain ⟨⟨hlb, hob⟩, hlc, hoc⟩ := hxx
    replace hlb : xb.length = 39 := hlb
    replace hlc : xc.length = 19 := hlc
    have ib := Len.of hlb
    have jb := One.of (show ∀ v ∈ xb, v.oneCell' = true from hob)
    have ic := Len.of hlc
    have jc := One.of (show ∀ v ∈ xc, v.oneCell' = true from hoc)
    refine zal fun b9 => ?_
    refine zsN ?_
    refine gnt ?_
    refine gsr ?_
    refine gp zmv ?_
    refine zc (fun _ => ?_) (c := fun w1 F1 F2 h1 h2 hd hst => freeC h1)
    refine gp zas ?_
    refine gnt ?_
    refine gc_seq ?_
    by_cases hft : tot (recsA (fuF ov tx) k) + nsec (fuF ov tx k).data.length + 2 ≤ secN a
    · refine gc_region ?_
      refine gp zmv ?_
      refine gp zfa ?_
      refine gp (zL (sg := xb)) ?_
      refine gp zfa ?_
      refine gp (zL (sg := xc)) ?_
      refine zc (fun _ => ?_) (c := fun w1 F1 F2 h1 h2 hd hst => appC (b := (smR (rndU (k : Int)) tx (vts ov)).b) (c := (smR (rndU (k : Int)) tx (vts ov)).c) h1 (hE.mv hst.still) (hK.mv hst.still) (vl_rd h2 hd (by repeat (first | exact Pick.here | apply Pick.there))) (vl_rd h2 hd (by repeat (first | exact Pick.here | apply Pick.there))) (smU_ok _ _ _) (by omega) (by rw [fu_eq]; omega))
      rw [show recsA (fuF ov tx) k ++ [(⟨(smR (rndU (k : Int)) tx (vts ov)).b, (smR (rndU (k : Int)) tx (vts ov)).c⟩ : LRec)] = recsA (fuF ov tx) (k + 1) from by rw [recsA_succ, fu_eq]]
      refine gp zas ?_
      refine gnt ?_
      refine gc_seq ?_
      refine gsr ?_
      refine gp zmv ?_
      refine gp (r_bool (c := false) (r_nenil rfl (by kernel_rfl)) rfl) ?_
      refine gnt ?_
      refine gc_condF rfl rfl ?_
      refine gc_skip ?_
      refine gx_then ?_
      refine gsr ?_
      refine gp zmv ?_
      refine gp (r_int (j := ((k + 1 : Nat) : Int)) zad (by omega)) ?_
      refine gp zas ?_
      refine gnt ?_
      refine gsr ?_
      refine gp zmv ?_
      refine zc (fun _ => ?_) (c := fun w1 F1 F2 h1 h2 hd hst => freeC h1)
      refine gp zmv ?_
      refine gp (r_bool (c := false) zge (by simp only [decide_eq_false_iff_not]; omega)) ?_
      refine gp zmv ?_
      refine gq zmv ?_
      refine gq zmv ?_
      refine gq (r_bool (c := false) zgt (by simp only [decide_eq_false_iff_not]; omega)) ?_
      refine gp zpk ?_
      refine gnt ?_
      refine gc_condF rfl rfl ?_
      refine gc_skip ?_
      refine gx_block_normal ?_
      refine zrd (k + 1) ?_ ?_
      · show secN a - tot (recsA (fuF ov tx) (k + 1)) < secN a - tot (recsA (fuF ov tx) k)
        omega
      · exact zsel
    · refine gc_region ?_
      refine gp zmv ?_
      refine gp zfa ?_
      refine gp (zL (sg := xb)) ?_
      refine gp zfa ?_
      refine gp (zL (sg := xc)) ?_
      refine zc (fun _ => ?_) (c := fun w1 F1 F2 h1 h2 hd hst => appX (b := (smR (rndU (k : Int)) tx (vts ov)).b) (c := (smR (rndU (k : Int)) tx (vts ov)).c) h1 (hE.mv hst.still) (hK.mv hst.still) (vl_rd h2 hd (by repeat (first | exact Pick.here | apply Pick.there))) (vl_rd h2 hd (by repeat (first | exact Pick.here | apply Pick.there))) (by omega) 8 (.inr ⟨made_zero (smU_ok _ _ _), rfl, .inr (by rw [fu_eq]; omega)⟩))
      refine gp zas ?_
      refine gnt ?_
      refine gc_seq ?_
      refine gsr ?_
      refine gp zmv ?_
      refine gp (r_bool (c := true) (r_nenil rfl (by kernel_rfl)) rfl) ?_
      refine gnt ?_
      refine gc_condT rfl rfl ?_
      refine gc_seq ?_
      refine gsr ?_
      refine gp zmv ?_
      refine zc (fun _ => ?_) (c := fun w1 F1 F2 h1 h2 hd hst => errNum_ok (n := 8) h1 (hN.mv hst.still) (by decide))
      refine gp (r_bool (c := false) zni (by simp)) ?_
      refine gp zmv ?_
      refine gq zmv ?_
      refine zc (fun _ => ?_) (c := fun w1 F1 F2 h1 h2 hd hst => freeC h1)
      refine gq zmv ?_
      refine gq (r_bool (c := false) zni (by simp)) ?_
      refine gp zpk ?_
      refine gnt ?_
      refine gc_condF rfl rfl ?_
      refine gc_skip ?_
      refine gx_then ?_
      refine gc_exit ?_
      refine gx_then_exit ?_
      refine gx_block_miss rfl ?_
      refine gx_round_exit ?_
      refine gx_block_hit ?_
      refine gx_then ?_
      refine gsr ?_
      refine gp zmv ?_
      refine zc (fun p => ?_) (c := fun w1 F1 F2 h1 h2 hd hst => openC h1 (hE.mv hst.still) (hK.mv hst.still))
      refine gp zmv ?_
      refine gp zex ?_
      refine gp zex ?_
      refine gp zas ?_
      refine gp zas ?_
      refine gnt ?_
      refine gsr ?_
      refine gp zmv ?_
      refine gp (r_bool (c := true) (r_eqnil (k := 0) rfl (by kernel_rfl)) rfl) ?_
      refine gp zmv ?_
      refine gq zmv ?_
      refine zc (fun _ => ?_) (c := fun w1 F1 F2 h1 h2 hd hst => lenC h1)
      refine gq zmv ?_
      refine gq (r_bool (c := true) zei (by simp [recsA_len])) ?_
      refine gp zpk ?_
      refine gp zmv ?_
      refine gq zmv ?_
      refine zc (fun _ => ?_) (c := fun w1 F1 F2 h1 h2 hd hst => freeC h1)
      refine gq zmv ?_
      refine zc (fun _ => ?_) (c := fun w1 F1 F2 h1 h2 hd hst => freeC2 h1)
      refine gq (r_bool (c := true) zei (by simp)) ?_
      refine gp zpk ?_
      refine gp zas ?_
      refine gnt ?_
      refine gc_ret ?_
      refine gx_ret1 rfl (by conv => lhs; whnf) ?_
      exact ze ()

end Go.Proofs.YtobjojeliibinaaGreatDoor

/- Walks, by program (wg.py) out of a spec. -/
namespace Go.Proofs.YtobjojeliibinaaGreatDoor
open Go
set_option linter.unusedVariables false
set_option linter.unusedSimpArgs false


def smO (o : Op18) : LRec := smR (rndU o.round) o.tx (vts o.votes)
def agR (l : List Op18) (k : Nat) : List LRec := (l.take k).map smO
theorem agR_zero (l : List Op18) : agR l 0 = [] := rfl
theorem agR_succ {l : List Op18} {k : Nat} {o : Op18} (h : l[k]? = some o) : agR l (k + 1) = agR l k ++ [smO o] := by simp [agR, List.take_add_one, h]
theorem agR_len {l : List Op18} {k : Nat} (h : k ≤ l.length) : (agR l k).length = k := by simp [agR]; omega
theorem agR_tot (l : List Op18) : ∀ k, tot (agR l k) ≤ 7 * k
  | 0 => Nat.le_refl _
  | k + 1 => by
    have ih := agR_tot l k
    cases h : l[k]? with
    | none =>
      have e : agR l (k + 1) = agR l k := by simp [agR, List.take_add_one, h]
      rw [e]; omega
    | some o => rw [agR_succ h, tot_snoc]; have := lenR_sm o.round o.votes o.tx; unfold smO; omega
theorem agR_at {l : List Op18} {k : Nat} {o : Op18} (h : l[k]? = some o) : (agR l (k + 1))[k]? = some (smO o) := by
  have hk : k < l.length := (List.getElem?_eq_some_iff.1 h).1
  rw [agR_succ h, List.getElem?_append_right (by rw [agR_len (by omega)]; omega), agR_len (by omega)]; simp
theorem smO_eq (o : Op18) : smR (rndU o.round) o.tx (vts o.votes) = smO o := rfl
theorem smO_sec (o : Op18) : nsec (smO o).data.length ≤ 6 := sm_sec (rnd_lt o.round) (vts_lt o.votes)
theorem smO_ok (o : Op18) : (smO o).Ok := smU_ok _ _ _


def bump (d : Dig) : Dig := ⟨d.l.set 3 (d.l.getD 3 0 + 1), by rw [List.length_set, d.h]⟩
theorem bump_ne (d : Dig) : bump d ≠ d := fun e => by
  have h := congrArg (fun x : Dig => x.l.getD 3 0) e
  have hd := d.h
  simp only [bump, List.getD, List.getElem?_set, show (3 : Nat) < d.l.length by omega, if_true] at h
  simp at h
theorem bump_cells (d : Dig) : updL (dc d) 3 [B8 (d.l.getD 3 0 + 1)] = dc (bump d) := updL_set (V := B8) (l := d.l) (i := 3) (by rw [d.h]; decide)
theorem bump_at {xb : List Value} {e r : Value} {d : Dig} {t : List Value} (h : xb.length = 39) : (xb ++ e :: r :: (dc d ++ t))[41 + Int.toNat 3 * 1]? = some (B8 (d.l.getD 3 0)) := by
  rw [List.getElem?_append_right (by rw [h]; decide), h]
  show (dc d ++ t)[3]? = _
  have hd := d.h
  rw [List.getElem?_append_left (by rw [dc_length]; decide)]
  simp [dc, List.getD, show 3 < d.l.length by omega]
theorem b8_succ (b : UInt8) : Value.int .u8 (IntKind.u8.wrap ((b.toNat : Int) + 1)) = B8 (b + 1) := by
  simp only [B8, Value.int.injEq, true_and]
  have h : (b + 1).toNat = (b.toNat + 1) % 256 := by rw [UInt8.toNat_add]; rfl
  rw [h]
  simp only [IntKind.wrap, IntKind.bits, IntKind.signed]
  simp
theorem bump_store {xb : List Value} {e r : Value} {d : Dig} {t : List Value} (h : xb.length = 39) :
    List.take (41 + Int.toNat 3 * 1) (xb ++ e :: r :: (dc d ++ t)) ++ (Value.int .u8 (IntKind.u8.wrap (((d.l.getD 3 0).toNat : Int) + 1)) :: List.drop (41 + Int.toNat 3 * 1 + 1) (xb ++ e :: r :: (dc d ++ t))) = xb ++ e :: r :: (dc (bump d) ++ t) := by
  rw [b8_succ, ← bump_cells]
  have hd := dc_length d
  show List.take 44 (xb ++ e :: r :: (dc d ++ t)) ++ _ :: List.drop 45 (xb ++ e :: r :: (dc d ++ t)) = _
  rw [List.take_append, List.drop_append, List.take_of_length_le (by omega), List.drop_eq_nil_of_le (by omega), h]
  show (xb ++ e :: r :: List.take 3 (dc d ++ t)) ++ _ :: ([] ++ List.drop 4 (dc d ++ t)) = _
  rw [List.take_append_of_le_length (by omega), List.drop_append_of_le_length (by omega)]
  simp [updL]
theorem rd_bump {w : World} {A : Nat → Prop} {c : QC} {a : Option Addr} {n k : Nat} (h : RdQC w A (.int .i64 c.epoch :: .int .i64 c.round :: (dc c.block ++ [.slice a n k])) c) : RdQC w A (.int .i64 c.epoch :: .int .i64 c.round :: (dc (bump c.block) ++ [.slice a n k])) { c with block := bump c.block } := by
  obtain ⟨a', n', k', he, h1, h2⟩ := h
  simp only [List.cons.injEq, true_and] at he
  have := List.append_cancel_left he
  simp only [List.cons.injEq, Value.slice.injEq, and_true] at this
  obtain ⟨rfl, rfl, rfl⟩ := this
  exact ⟨a, n, k, rfl, h1, h2⟩
attribute [local irreducible] wAt wDig wPut wSigned wBytes wVdr in
theorem wr_smC2 {n v : Nat} (d : Dig) (h : n < 1000) (hv : v < 4) : Wr (wBlock (certB ⟨1, n, d, List.replicate v sgE⟩)) (55 + 84 * v) := fun s hs => by
  have h1 := wr_at0 s hs
  have h2 := Wr.dig dig0 _ h1.1
  have h3 := wr_at h _ h2.1
  have h4 := Wr.dig d _ h3.1
  have h5 := wr_votes v hv _ h4.1
  have h6 := Wr.put (wX := fun t => wBytes t 16) (l := ([] : List (List UInt8))) (most := 4) (c := 0) (by simp) (by simp) (by simp) _ h5.1
  have h7 := Wr.put (wX := wVdr) (l := ([] : List Vdr)) (most := 7) (c := 0) (by simp) (by simp) (by simp) _ h6.1
  refine ⟨h7.1, h7.2.trans ?_⟩
  rw [h6.2, h5.2, h4.2, h3.2, h2.2, h1.2]; simp; omega
theorem made_bump (o : Op18) : madeE (smO o).b { (smO o).c with block := bump (smO o).c.block } = 12 := by
  have h := smO_ok o
  have e : (blkW (certB { (smO o).c with block := bump (smO o).c.block })).err = 0 := (wr_smC2 (bump (smO o).c.block) (rnd_lt o.round) (vts_lt o.votes) ⟨0, []⟩ rfl).1
  unfold madeE
  rw [if_neg (by simpa using h.eb), if_neg (by simpa using e), if_neg (fun hh => bump_ne (smO o).c.block (hh.1.trans h.blk.symm))]

attribute [local irreducible] Gl Gc Gx Gs Runs Wt

attribute [local irreducible] dc RdBlock RdQC

set_option maxHeartbeats 400000 in
theorem same18_ok {w : World} {F : Nat → Prop} {xb1 xb2 xc1 xc2 : List Value} {x y : LRec} (h : stars [] w F) (l1 : xb1.length = 39) (l2 : xb2.length = 39) (l3 : xc1.length = 19) (l4 : xc2.length = 19) (o1 : ∀ v ∈ xb1, v.oneCell' = true) (o2 : ∀ v ∈ xb2, v.oneCell' = true) (o3 : ∀ v ∈ xc1, v.oneCell' = true) (o4 : ∀ v ∈ xc2, v.oneCell' = true) (hx : RdBlock w (fun k => ¬ F k) xb1 x.b) (hy : RdBlock w (fun k => ¬ F k) xb2 y.b) (hp : RdQC w (fun k => ¬ F k) xc1 x.c) (hq : RdQC w (fun k => ¬ F k) xc2 y.c) :
    Calls Tryz.prog 54 #[.agg (xb1 ++ xc1).toArray, .agg (xb2 ++ xc2).toArray] w (Post w F (fun _ : Unit => .bool (decide (x.b = y.b ∧ x.c = y.c))) (fun _ => [])) := by
  have i1 := Len.of l1
  have i2 := Len.of l2
  have i3 := Len.of l3
  have i4 := Len.of l4
  have j1 := One.of o1
  have j2 := One.of o2
  have j3 := One.of o3
  have j4 := One.of o4
  refine g_enter (env := [(0, .agg (xb1 ++ xc1).toArray), (1, .agg (xb2 ++ xc2).toArray)]) Tryz.func54 rfl h Tryz.ntmps54 rfl rfl ?_
  refine gsr ?_
  refine zbN fun b2 => ?_
  refine zbN fun b3 => ?_
  refine gp zas ?_
  refine gnt ?_
  refine gc_seq ?_
  by_cases hS : x.b = y.b
  · refine gc_region ?_
    refine gp zfa ?_
    refine gp (zL (sg := xb1)) ?_
    refine gp zfa ?_
    refine gp (zL (sg := xb2)) ?_
    refine zc (fun _ => ?_) (c := fun w1 F1 F2 h1 h2 hd hst => sameBlock_ok h1 (hx.mv hst.still) (hy.mv hst.still))
    refine gp (r_bool (c := true) zmv (decide_eq_true hS)) ?_
    refine gq zfa ?_
    refine gq (zL (sg := xc1)) ?_
    refine gq zfa ?_
    refine gq (zL (sg := xc2)) ?_
    refine zc (fun _ => ?_) (c := fun w1 F1 F2 h1 h2 hd hst => sameQC_ok h1 (hp.mv hst.still) (hq.mv hst.still))
    refine gp zpk ?_
    refine gp zas ?_
    refine gnt ?_
    refine gc_ret ?_
    refine gx_ret1 rfl (by conv => lhs; whnf) ?_
    exact fun w' hw => ⟨(), by simp [hS], hw.sel (by repeat (first | exact Sel.nil | (apply Sel.cons; · (repeat (first | exact Pick.here | apply Pick.there)))))⟩
  · refine gc_region ?_
    refine gp zfa ?_
    refine gp (zL (sg := xb1)) ?_
    refine gp zfa ?_
    refine gp (zL (sg := xb2)) ?_
    refine zc (fun _ => ?_) (c := fun w1 F1 F2 h1 h2 hd hst => sameBlock_ok h1 (hx.mv hst.still) (hy.mv hst.still))
    refine gp (r_bool (c := false) zmv (decide_eq_false hS)) ?_
    refine gn ?_
    refine gn ?_
    refine gn ?_
    refine gn ?_
    refine gn ?_
    refine gp zpk ?_
    refine gp zas ?_
    refine gnt ?_
    refine gc_ret ?_
    refine gx_ret1 rfl (by conv => lhs; whnf) ?_
    exact fun w' hw => ⟨(), by simp [hS], hw.sel (by repeat (first | exact Sel.nil | (apply Sel.cons; · (repeat (first | exact Pick.here | apply Pick.there)))))⟩

end Go.Proofs.YtobjojeliibinaaGreatDoor

/- Walks, by program (wg.py) out of a spec. -/
namespace Go.Proofs.YtobjojeliibinaaGreatDoor
open Go
set_option linter.unusedVariables false
set_option linter.unusedSimpArgs false

attribute [local irreducible] Gl Gc Gx Gs Runs Wt

attribute [local irreducible] dc RdRec RdBlock RdQC blkC qcC allE smR agR tot rndU vts LdR bump smO

set_option maxHeartbeats 400000 in
theorem ledgerAgain_ok {w : World} {F : Nat → Prop} {al : Option Addr} {n cl : Nat} {l : List Op18} {ea : Nat → Addr} (h : stars [] w F) (hN : NErr w (fun k => ¬ F k) ea) (hK : KR w (fun k => ¬ F k)) (hx : RdList (RdOp18 w (fun k => ¬ F k)) w (fun k => ¬ F k) 6 al n l) :
    Calls Tryz.prog 11 #[.slice al n cl] w (Post w F (fun _ : Unit => .bool true) (fun _ => [])) := by
  have hE := hN.g
  have hnl := hx.len (by decide)
  refine g_enter (env := [(0, .slice al n cl)]) Tryz.func11 rfl h Tryz.ntmps11 rfl rfl ?_
  refine gsr ?_
  refine gp zas ?_
  refine gnt ?_
  refine gc_seq ?_
  refine gsr ?_
  refine zc (fun _ => ?_) (c := fun w1 F1 F2 h1 h2 hd hst => alive18_ok h1 (hE.mv hst.still) (hK.mv hst.still))
  refine gp znt ?_
  refine gnt ?_
  refine gc_condF rfl rfl ?_
  refine gc_skip ?_
  refine gx_then ?_
  refine gc_seq ?_
  refine gsr ?_
  refine gp zmv ?_
  refine gp zln ?_
  refine gp zgt ?_
  refine gnt ?_
  refine gif rfl (fun hc16 => ?_) (fun hc16 => ?_)
  · refine gsr ?_
    refine gp zas ?_
    refine gnt ?_
    refine gc_ret ?_
    refine gx_then_ret ?_
    refine gx_ret1 rfl (by conv => lhs; whnf) ?_
    exact ze ()
  · try simp only at hc16
    have hn10 : n ≤ 10 := by omega
    refine gc_skip ?_
    refine gx_then ?_
    refine gsr ?_
    refine zc (fun g => ?_) (c := fun w1 F1 F2 h1 h2 hd hst => new_ok (ea := ea) (n := 400) h1 (by decide) (by decide))
    refine gp zmv ?_
    refine gp zex ?_
    refine gp zex ?_
    refine gp zas ?_
    refine gp zas ?_
    refine gnt ?_
    refine gc_seq ?_
    refine gsr ?_
    refine gp zmv ?_
    refine gp (r_bool (c := false) (r_nenil rfl (by kernel_rfl)) rfl) ?_
    refine gnt ?_
    refine gc_condF rfl rfl ?_
    refine gc_skip ?_
    refine gx_then ?_
    refine gsr ?_
    refine gp zmv ?_
    refine zc (fun q0 => ?_) (c := fun w1 F1 F2 h1 h2 hd hst => fmtC (n := 400) (bs := 1) h1 (by decide) (by decide) (hE.mv hst.still))
    refine gp zmv ?_
    refine gp zex ?_
    refine gp zex ?_
    refine gp zas ?_
    refine gp zas ?_
    refine gnt ?_
    refine gc_seq ?_
    refine gsr ?_
    refine gp zmv ?_
    refine gp (r_bool (c := false) (r_nenil rfl (by kernel_rfl)) rfl) ?_
    refine gnt ?_
    refine gc_condF rfl rfl ?_
    refine gc_skip ?_
    refine gx_then ?_
    refine gc_seq ?_
    refine gsr ?_
    refine gp zmv ?_
    refine gp zln ?_
    refine gp zmv ?_
    refine gnt ?_
    refine gc_block ?_
    refine gc_loop (α := Nat × Nat) (fun y => [pureR (y.1 ≤ n), LdR y.2 g 400 1 (agR l y.1)]) (fun y => [(32, .int .i64 (y.1 : Int)), (5, .pointer (some ⟨y.2, 0, none⟩)), (4, eV 340 ea 0)]) [2, 6, 7, 8, 9, 10, 11, 33, 34, 35, 36, 37, 38, 39, 40, 41, 42, 43, 44, 45, 46, 47, 48, 49, 50, 51, 52, 53, 54, 55, 56, 57, 58, 59, 60, 61, 62, 63, 64, 65, 66, 67, 68, 69, 70, 71, 72, 73, 74, 75, 76, 77, 78, 79, 80, 81, 82, 83, 84, 85, 86, 87, 88, 89, 90, 91, 92, 93, 94, 95, 96, 97, 98] (fun y => n - y.1) (0, q0) ?_ ?_ ?_
    · refine env_start (by kernel_rfl)
    · simp only [agR_zero]
      exact zlp (Nat.zero_le _)
    · intro y u
      obtain ⟨k, q⟩ := y
      refine gc_pureR (fun hk => ?_)
      replace hk : k ≤ n := hk
      refine gsr ?_
      refine gp zlt ?_
      refine gnt ?_
      refine gc_seq ?_
      refine gif rfl (fun hc33 => ?_) (fun hc33 => ?_)
      · try simp only at hc33
        have hk' : k < n := by omega
        obtain ⟨gx, ox, ce, op, ha, hA, _, hra, hl6, hop, hrd⟩ := hx.elem (i := k) (by decide) hk'
        subst ha
        obtain ⟨oa, on, oc, rfl, _, _⟩ := hrd
        have hlen := agR_len (l := l) (k := k) (by omega)
        have htot := agR_tot l k
        have hsec := smO_sec op
        have hat := agR_at hop
        have hlen2 := agR_len (l := l) (k := k + 1) (by omega)
        refine gc_skip ?_
        refine gx_then ?_
        refine gc_seq ?_
        refine gc_block ?_
        refine gsr ?_
        refine gp zmv ?_
        refine gp (r_val (v' := .pointer (some ⟨gx, ox + k * 6, none⟩)) zia (by simp)) ?_
        refine gp (r_ldNo rfl Ty.row_90 Ty.sz_90 hra hl6 (by decide) hA) ?_
        refine zal fun b7 => ?_
        refine gp zas ?_
        refine zsN ?_
        refine gnt ?_
        refine gsr ?_
        refine gp zfa ?_
        refine gp zl ?_
        refine gp zfa ?_
        refine gp zl ?_
        refine gp zfa ?_
        refine gp zl ?_
        refine zc ?_ (c := fun w1 F1 F2 h1 h2 hd hst => small_ok (i := op.round) (v := op.votes) (tx := op.tx) h1 (hE.mv hst.still) (hK.mv hst.still))
        rintro ⟨xb, xc⟩
        refine gl_pureR (fun hxx => ?_)
        obtain ⟨⟨hlb, hob⟩, hlc, hoc⟩ := hxx
        replace hlb : xb.length = 39 := hlb
        replace hlc : xc.length = 19 := hlc
        have ib := Len.of hlb
        have jb := One.of (show ∀ v ∈ xb, v.oneCell' = true from hob)
        have ic := Len.of hlc
        have jc := One.of (show ∀ v ∈ xc, v.oneCell' = true from hoc)
        rw [smO_eq]
        refine zal fun b8 => ?_
        refine zsN ?_
        refine gnt ?_
        refine gc_seq ?_
        refine gsr ?_
        refine gp zmv ?_
        refine gp zfa ?_
        refine gp (zL (sg := xb)) ?_
        refine gp zfa ?_
        refine gp (zL (sg := xc)) ?_
        refine zc (fun _ => ?_) (c := fun w1 F1 F2 h1 h2 hd hst => appC (b := (smO op).b) (c := (smO op).c) h1 (hE.mv hst.still) (hK.mv hst.still) (vl_rd h2 hd (by repeat (first | exact Pick.here | apply Pick.there))) (vl_rd h2 hd (by repeat (first | exact Pick.here | apply Pick.there))) (smO_ok op) (by show (agR l k).length < 200; omega) (by show 1 + tot (agR l k) + nsec (smO op).data.length + 2 ≤ 400; omega))
        rw [show agR l k ++ [(⟨(smO op).b, (smO op).c⟩ : LRec)] = agR l (k + 1) from (agR_succ hop).symm]
        refine gp (r_bool (c := false) (r_nenil rfl (by kernel_rfl)) rfl) ?_
        refine gnt ?_
        refine gc_condF rfl rfl ?_
        refine gc_skip ?_
        refine gx_then ?_
        refine gc_seq ?_
        refine gsr ?_
        refine gp zmv ?_
        refine zc (fun p => ?_) (c := fun w1 F1 F2 h1 h2 hd hst => openC h1 (hE.mv hst.still) (hK.mv hst.still))
        refine gp zmv ?_
        refine gp zex ?_
        refine gp zex ?_
        refine gp zas ?_
        refine gp zas ?_
        refine gnt ?_
        refine gsr ?_
        refine gp zmv ?_
        refine gp (r_bool (c := false) (r_nenil rfl (by kernel_rfl)) rfl) ?_
        refine gp zmv ?_
        refine gq zmv ?_
        refine zc (fun _ => ?_) (c := fun w1 F1 F2 h1 h2 hd hst => lenC h1)
        refine gq zmv ?_
        refine gq (r_int (j := ((k + 1 : Nat) : Int)) zad (by omega)) ?_
        refine gq (r_bool (c := false) zni (by simp [hlen2])) ?_
        refine gp zpk ?_
        refine gnt ?_
        refine gc_condF rfl rfl ?_
        refine gc_skip ?_
        refine gx_then ?_
        refine gsr ?_
        refine gp zmv ?_
        refine gp zmv ?_
        refine zc ?_ (c := fun w1 F1 F2 h1 h2 hd hst => getC (i := k) h1 (hE.mv hst.still) hat (smO_ok op))
        rintro ⟨yb, yc⟩
        refine gl_pureR (fun hyy => ?_)
        obtain ⟨⟨hlyb, hoyb⟩, hlyc, hoyc⟩ := hyy
        replace hlyb : yb.length = 39 := hlyb
        replace hlyc : yc.length = 19 := hlyc
        have iyb := Len.of hlyb
        have jyb := One.of (show ∀ v ∈ yb, v.oneCell' = true from hoyb)
        have iyc := Len.of hlyc
        have jyc := One.of (show ∀ v ∈ yc, v.oneCell' = true from hoyc)
        refine gp zmv ?_
        refine gp zex ?_
        refine gp zex ?_
        refine gp zex ?_
        refine zal fun b9 => ?_
        refine zal fun b10 => ?_
        refine zsN ?_
        refine zsN ?_
        refine gp zas ?_
        refine gnt ?_
        refine gc_seq ?_
        refine gsr ?_
        refine gp zmv ?_
        refine gp (r_bool (c := false) (r_nenil rfl (by kernel_rfl)) rfl) ?_
        refine gp zmv ?_
        refine gq (zL (sg := xb ++ xc)) ?_
        refine gq (zLa (cs := yb)) ?_
        refine gq (zLa (cs := yc)) ?_
        refine gq zbu ?_
        refine zc (fun _ => ?_) (c := fun w1 F1 F2 h1 h2 hd hst => same18_ok (x := smO op) (y := smO op) h1 hlb hlyb hlc hlyc hob hoyb hoc hoyc (vl_rd h2 hd (by repeat (first | exact Pick.here | apply Pick.there))) (vl_rd h2 hd (by repeat (first | exact Pick.here | apply Pick.there))) (vl_rd h2 hd (by repeat (first | exact Pick.here | apply Pick.there))) (vl_rd h2 hd (by repeat (first | exact Pick.here | apply Pick.there))))
        refine gq (r_bool (c := false) znt (by simp)) ?_
        refine gp zpk ?_
        refine gnt ?_
        refine gc_condF rfl rfl ?_
        refine gc_skip ?_
        refine gx_then ?_
        refine gsr ?_
        refine gl_fact (fun w' hw => St.vlOf (rd := RdQC) (cs := xc) (x := (smO op).c) hw (by repeat (first | exact Pick.here | apply Pick.there))) (fun hvl => ?_)
        obtain ⟨wv, A, hvl⟩ := hvl
        unfold RdQC at hvl
        obtain ⟨av, nv, kv, rfl, _⟩ := hvl
        refine gp zfa ?_
        refine gp zfa ?_
        refine gp zib ?_
        refine gp (zl (v := B8 ((smO op).c.block.l.getD 3 0)) (hv := bump_at hlb)) ?_
        refine gp zad ?_
        refine gp zfa ?_
        refine gp zfa ?_
        refine gp zib ?_
        refine zs1 ?_
        refine gl_eqc (g := b8) (cs' := xb ++ (.int .i64 (smO op).c.epoch :: .int .i64 (smO op).c.round :: (dc (bump (smO op).c.block) ++ [.slice av nv kv]))) (by repeat (first | exact Pick.here | apply Pick.there)) (by exact bump_store hlb) ?_
        have i94 := Len.of (show (.int .i64 (smO op).c.epoch :: .int .i64 (smO op).c.round :: (dc (bump (smO op).c.block) ++ [.slice av nv kv])).length = 19 by simp [dc_length])
        refine gnt ?_
        refine gsr ?_
        refine gp zmv ?_
        refine gp zfa ?_
        refine gp (zL (sg := xb)) ?_
        refine gp zfa ?_
        refine gp (zL (sg := .int .i64 (smO op).c.epoch :: .int .i64 (smO op).c.round :: (dc (bump (smO op).c.block) ++ [.slice av nv kv]))) ?_
        refine zc (fun _ => ?_) (c := fun w1 F1 F2 h1 h2 hd hst => appX (b := (smO op).b) (c := { (smO op).c with block := bump (smO op).c.block }) h1 (hE.mv hst.still) (hK.mv hst.still) (vl_rd h2 hd (by repeat (first | exact Pick.here | apply Pick.there))) (rd_bump (vl_rd h2 hd (by repeat (first | exact Pick.here | apply Pick.there)))) (by omega) 12 (.inl ⟨made_bump op, by decide⟩))
        refine zc (fun _ => ?_) (c := fun w1 F1 F2 h1 h2 hd hst => errNum_ok (n := 12) h1 (hN.mv hst.still) (by decide))
        refine gp (r_bool (c := false) zni (by simp)) ?_
        refine gnt ?_
        refine gc_condF rfl rfl ?_
        refine gc_skip ?_
        refine gx_block_normal ?_
        refine gx_then ?_
        refine gc_region ?_
        refine gp zad ?_
        refine gp zmv ?_
        refine gl_nil ?_
        refine zrd ((k + 1, p)) ?_ ?_
        · show n - (k + 1) < n - k
          omega
        · exact zlp (show k + 1 ≤ n by omega)
      · try simp only at hc33
        have hk' : k = n := by omega
        have hlen := agR_len (l := l) (k := k) (by omega)
        refine gc_exit ?_
        refine gx_then_exit ?_
        refine gx_round_exit ?_
        refine gx_block_hit ?_
        refine gx_then ?_
        refine gsr ?_
        refine gp zmv ?_
        refine zc (fun _ => ?_) (c := fun w1 F1 F2 h1 h2 hd hst => lenC h1)
        refine gp zmv ?_
        refine gp zln ?_
        refine gp (r_bool (c := true) zei (by show decide (((agR l k).length : Int) = (n : Int)) = true; rw [hlen, hk']; simp)) ?_
        refine gp zas ?_
        refine gnt ?_
        refine gc_ret ?_
        refine gx_ret1 rfl (by conv => lhs; whnf) ?_
        exact ze ()

end Go.Proofs.YtobjojeliibinaaGreatDoor

/- LedgerAgain: for every input the law returns true, and the input reads as it did: the row and its card. -/
namespace Go.Proofs.YtobjojeliibinaaGreatDoor
open Go
open Go.ChangeShapes Go.WideShapes Go.ChangeAt Go.RowKit
set_option linter.unusedVariables false

/-- One world that fits: the settled one, the listed variables as their initialisers lay them. -/
noncomputable def ledgerAgain_world (os : Os) : World :=
  let w0 := World.holding Tryz.prog os ⟨#[.cells #[.string ⟨#[113, 117, 111, 114, 97, 116, 101, 58, 32, 114, 97, 110, 103, 101]⟩] 365, .cells #[.string ⟨#[113, 117, 111, 114, 97, 116, 101, 58, 32, 115, 104, 111, 114, 116]⟩] 365, .cells #[.string ⟨#[113, 117, 111, 114, 97, 116, 101, 58, 32, 108, 111, 110, 103]⟩] 365, .cells #[.string ⟨#[113, 117, 111, 114, 97, 116, 101, 58, 32, 102, 111, 114, 109]⟩] 365, .cells #[.string ⟨#[113, 117, 111, 114, 97, 116, 101, 58, 32, 115, 112, 101, 110, 116]⟩] 365, .cells #[.string ⟨#[113, 117, 111, 114, 97, 116, 101, 58, 32, 112, 111, 119, 101, 114]⟩] 365, .cells #[.string ⟨#[113, 117, 111, 114, 97, 116, 101, 58, 32, 100, 105, 115, 107]⟩] 365, .cells #[.string ⟨#[113, 117, 111, 114, 97, 116, 101, 58, 32, 102, 117, 108, 108]⟩] 365, .cells #[.string ⟨#[113, 117, 111, 114, 97, 116, 101, 58, 32, 110, 111, 110, 101]⟩] 365, .cells #[.string ⟨#[113, 117, 111, 114, 97, 116, 101, 58, 32, 111, 108, 100]⟩] 365, .cells #[.string ⟨#[113, 117, 111, 114, 97, 116, 101, 58, 32, 115, 101, 116]⟩] 365, .cells #[.string ⟨#[113, 117, 111, 114, 97, 116, 101, 58, 32, 112, 114, 111, 111, 102]⟩] 365, .cells #[.string ⟨#[113, 117, 111, 114, 97, 116, 101, 58, 32, 108, 101, 97, 100, 101, 114]⟩] 365, .cells #[.string ⟨#[113, 117, 111, 114, 97, 116, 101, 58, 32, 114, 111, 117, 110, 100]⟩] 365, .cells #[.string ⟨#[113, 117, 111, 114, 97, 116, 101, 58, 32, 117, 110, 115, 97, 102, 101]⟩] 365, .cells #[.string ⟨#[113, 117, 111, 114, 97, 116, 101, 58, 32, 112, 97, 114, 101, 110, 116]⟩] 365, .cells #[.string ⟨#[113, 117, 111, 114, 97, 116, 101, 58, 32, 116, 119, 105, 99, 101]⟩] 365, .cells #[.string ⟨#[113, 117, 111, 114, 97, 116, 101, 58, 32, 101, 112, 111, 99, 104]⟩] 365], #[], []⟩
  { w0 with heap := ((((((((((((((((((w0.heap.modify 2 fun
      | .cells _ t fz => .cells #[.iface 340 (.pointer (some ⟨lowB + 0, 0, none⟩))] t fz
      | o => o).modify 3 fun
      | .cells _ t fz => .cells #[.iface 340 (.pointer (some ⟨lowB + 1, 0, none⟩))] t fz
      | o => o).modify 4 fun
      | .cells _ t fz => .cells #[.iface 340 (.pointer (some ⟨lowB + 2, 0, none⟩))] t fz
      | o => o).modify 0 fun
      | .cells _ t fz => .cells #[.iface 340 (.pointer (some ⟨lowB + 3, 0, none⟩))] t fz
      | o => o).modify 5 fun
      | .cells _ t fz => .cells #[.iface 340 (.pointer (some ⟨lowB + 4, 0, none⟩))] t fz
      | o => o).modify 6 fun
      | .cells _ t fz => .cells #[.iface 340 (.pointer (some ⟨lowB + 5, 0, none⟩))] t fz
      | o => o).modify 7 fun
      | .cells _ t fz => .cells #[.iface 340 (.pointer (some ⟨lowB + 6, 0, none⟩))] t fz
      | o => o).modify 8 fun
      | .cells _ t fz => .cells #[.iface 340 (.pointer (some ⟨lowB + 7, 0, none⟩))] t fz
      | o => o).modify 9 fun
      | .cells _ t fz => .cells #[.iface 340 (.pointer (some ⟨lowB + 8, 0, none⟩))] t fz
      | o => o).modify 10 fun
      | .cells _ t fz => .cells #[.iface 340 (.pointer (some ⟨lowB + 9, 0, none⟩))] t fz
      | o => o).modify 11 fun
      | .cells _ t fz => .cells #[.iface 340 (.pointer (some ⟨lowB + 10, 0, none⟩))] t fz
      | o => o).modify 1 fun
      | .cells _ t fz => .cells #[.iface 340 (.pointer (some ⟨lowB + 11, 0, none⟩))] t fz
      | o => o).modify 12 fun
      | .cells _ t fz => .cells #[.iface 340 (.pointer (some ⟨lowB + 12, 0, none⟩))] t fz
      | o => o).modify 13 fun
      | .cells _ t fz => .cells #[.iface 340 (.pointer (some ⟨lowB + 13, 0, none⟩))] t fz
      | o => o).modify 14 fun
      | .cells _ t fz => .cells #[.iface 340 (.pointer (some ⟨lowB + 14, 0, none⟩))] t fz
      | o => o).modify 15 fun
      | .cells _ t fz => .cells #[.iface 340 (.pointer (some ⟨lowB + 15, 0, none⟩))] t fz
      | o => o).modify 16 fun
      | .cells _ t fz => .cells #[.iface 340 (.pointer (some ⟨lowB + 16, 0, none⟩))] t fz
      | o => o).modify 17 fun
      | .cells _ t fz => .cells #[.iface 340 (.pointer (some ⟨lowB + 17, 0, none⟩))] t fz
      | o => o).modify 18 fun
      | .cells _ t fz => .cells (kc.map W32).toArray t fz
      | o => o }
def ledgerAgain_args : Array Value := #[.slice none 0 0]
theorem ledgerAgain_laid (os : Os) (args : Array Value) : laidMet Tryz.prog Rows.ledgerAgainRow.laid ((ledgerAgain_world os).forCall (fun _ _ => 0) ⟨#[], args, []⟩).memory :=
  laidMet_of_run' 8 (by kernel_rfl) (by kernel_rfl)
theorem ledgerAgain_reads (os : Os) {H : Type} (enc : TypeId × Value → H) : ∃ places, DataW.whole enc Tryz.prog ((ledgerAgain_world os).forCall (fun _ _ => 0) ⟨#[], ledgerAgain_args, []⟩).memory Tryz.f11.params.toList Rows.ledgerAgainSpec.vars false ledgerAgain_args.toList 8 = some ([.nil], [], places) :=
  ⟨[], by kernel_rfl⟩
set_option maxRecDepth 20000 in
theorem ledgerAgain_contract (H : Type) (enc : TypeId × Value → H) (W : World) (base : Nat) (args : Array Value) (ds gs : List (DataW H)) (before : List MemPlace)
    (hval : ∀ (j : Nat) t v, Tryz.f11.params[j]? = some t → args[j]? = some v → Value.okWide Tryz.prog W .any base t v)
    (hW : DataW.Whole enc Tryz.prog Tryz.f11.params.toList Rows.ledgerAgainSpec.vars false W args.toList ds gs before) (hL : laidMetH Tryz.prog Rows.ledgerAgainRow.laid W) :
    Calls Tryz.prog 11 args W fun e W' => ∃ v, e = .returned v ∧ Rows.ledgerAgainSpec.post enc Tryz.prog Tryz.f11 false true false false W args v W' := by
  have hW' := hW
  have hlt : ∀ p ∈ before, p.block < W.heap.size := fun p hp => hW.lt p hp
  obtain ⟨p, q, hA0, hV, rfl, hfz, hnd⟩ := hW
  have hA : DataW.TrodAll enc Tryz.prog W 0 (fun _ => true) true Tryz.f11.params.toList args.toList ds p := hA0
  rw [Tryz.params11] at hA hval
  obtain ⟨v0, vs0, d0, ds0, p0, q0, hargs, rfl, rfl, h0, r0⟩ := trodAll_cons hA
  obtain ⟨rfl, rfl, rfl⟩ := trodAll_nil r0
  obtain rfl : args = #[v0] := by cases args; simp_all
  obtain ⟨rfl, rfl⟩ := trodVars_none hV
  obtain ⟨a0, m0, c0, rfl⟩ := okWide_slice (run_sliceT Ty.sl_102) (hval 0 102 v0 rfl rfl)
  obtain ⟨x0, hx0⟩ : ∃ x, RdOps18 W TT [.slice a0 m0 c0] x := by obtain ⟨fuel, hf⟩ := h0; exact o_ops18 fuel _ _ hf
  have hL' : laidMet Tryz.prog Rows.ledgerAgainRow.laid W := hL
  obtain ⟨ea, hN⟩ := laid_nerr (r := [("quorate/hash.constants", Rows.laid_quorate_hash_constants)]) (show laidMet Tryz.prog (errNames.map errRow ++ [("quorate/hash.constants", Rows.laid_quorate_hash_constants)]) W from hL')
  have hK := laid_kr hL'.tail.tail.tail.tail.tail.tail.tail.tail.tail.tail.tail.tail.tail.tail.tail.tail.tail.tail
  have walk := ledgerAgain_ok (l := x0) (al := a0) (n := m0) (cl := c0) no_res hN hK (RdList.mv (ops18_list hx0) still_id fun _ _ h => h.mv still_id)
  refine Calls.mono (show Calls Tryz.prog 11 #[.slice a0 m0 c0] W _ from walk) fun e W' ⟨_, he, hs⟩ => ?_
  subst he
  have bel := below_of hs
  have eF : Rows.ledgerAgainSpec.fn H ([d0] ++ []) = { results := [.lit (.bool true)], args := [d0] } := rfl
  have l0 : ∀ z ∈ p0, z.block < W.heap.size := fun z hz => hlt z (by simp [hz])
  refine ⟨_, rfl, _, _, _, [], p0 ++ ([]), [], hW', ?_, ?_, ?_, bel.frame _, fun h => by cases h⟩
  · rw [eF]; exact trodAll_cons_mk (shut_bool Tryz.underlying4 _) trodAll_mk0
  · rw [eF, Tryz.params11]
    exact trodAll_cons_mk (Below.trod laidOut (by kernel_rfl) (of_decide_eq_true (by kernel_rfl)) h0 bel l0) (trodAll_mk0)
  · rw [eF]; rfl

set_option maxRecDepth 100000 in
theorem ledgerAgain_lifted (os : Os) (started : os.Started) (H : Type) (enc : TypeId × Value → H) (F : Stop.Interp) :
    ReturnsInHanded {} Tryz.checked os 11 .any ((OpenSpec.ofChange Rows.ledgerAgainSpec).preRow enc Tryz.prog Tryz.f11 Rows.ledgerAgainRow.domain false Rows.ledgerAgainRow.laid) (((OpenSpec.ofChange Rows.ledgerAgainSpec).at F).post enc Tryz.prog Tryz.f11 false true false false) := by
  obtain ⟨places, hx⟩ := ledgerAgain_reads os enc
  refine returnsInHanded_of_row (C := Tryz.checked) (s := OpenSpec.ofChange Rows.ledgerAgainSpec) own started (by kernel_rfl) Tryz.func11
    (witness_row_atRef (enc := enc) (C := Tryz.checked) false (ledgerAgain_world os) ledgerAgain_args rfl (by kernel_rfl) (by kernel_rfl) (by kernel_rfl)
      (OpenSpec.preRow_of_cond 8 hx (by kernel_rfl) (fun k hk => by cases hk) (by kernel_rfl) (ledgerAgain_laid os _))) ?_
  intro W base args ds gs before hval hW _ _ _ hL _ _
  exact ledgerAgain_contract H enc W base args ds gs before hval hW hL

theorem and_tt {a b : Bool} (h : a = true) (k : b = true) : (a && b) = true := by rw [h, k]; rfl
theorem ledgerAgain_k0 : (Rows.ledgerAgainRow.wf (OpenSpec.ofChange (OpenSpec.ofChange Rows.ledgerAgainSpec).bare)) = true := by kernel_rfl
theorem ledgerAgain_k1 : (laidOutB Tryz.pinned.checked.prog) = true := by kernel_rfl
theorem ledgerAgain_k2 : (mapsRowed Tryz.pinned.checked.prog) = true := by kernel_rfl
theorem ledgerAgain_k3 : (Tryz.f11.params.all (Tryz.pinned.checked.prog.readableRec ·)) = true := by kernel_rfl
theorem ledgerAgain_k4 : (namedTie Tryz.pinned.checked.prog Rows.ledgerAgainRow.named (OpenSpec.ofChange Rows.ledgerAgainSpec).bare.vars) = true := by kernel_rfl
theorem ledgerAgain_k5 : ((Rows.ledgerAgainRow.stops == [])) = true := by kernel_rfl
theorem ledgerAgain_k6 : ((Tryz.pinned.checked.prog.stops == [])) = true := by kernel_rfl
theorem ledgerAgain_k7 : ((Rows.ledgerAgainRow.knobs == [])) = true := by kernel_rfl
theorem ledgerAgain_k8 : ((Tryz.pinned.checked.prog.stopKnobs == [])) = true := by kernel_rfl
theorem ledgerAgain_k9 : ((Rows.ledgerAgainRow.inPlace == Tryz.pinned.checked.prog.inPlace 11)) = true := by kernel_rfl
theorem ledgerAgain_k10 : ((Rows.ledgerAgainRow.unfollowed == Tryz.pinned.checked.prog.unfollowed 11)) = true := by kernel_rfl
theorem ledgerAgain_k11 : ((Rows.ledgerAgainRow.recurses == Tryz.pinned.checked.prog.recurses 11)) = true := by kernel_rfl
theorem ledgerAgain_k12 : ((Rows.ledgerAgainRow.named == Tryz.pinned.checked.prog.varsNamed 11)) = true := by kernel_rfl
theorem ledgerAgain_k13 : ((Rows.ledgerAgainRow.maps == (Tryz.f11.params.toList ++ (OpenSpec.ofChange Rows.ledgerAgainSpec).bare.plain.varTypes Tryz.pinned.checked.prog).any (Tryz.pinned.checked.prog.mapsRec ·))) = true := by kernel_rfl
theorem ledgerAgain_k14 : ((Rows.ledgerAgainRow.ifaces == (Tryz.f11.params.toList ++ (OpenSpec.ofChange Rows.ledgerAgainSpec).bare.plain.varTypes Tryz.pinned.checked.prog).any (Tryz.pinned.checked.prog.ifacesRec ·))) = true := by kernel_rfl
theorem ledgerAgain_k15 : ((Rows.ledgerAgainRow.mapsOut == Tryz.pinned.checked.prog.mapsAmong Tryz.f11.resultTypes.toList)) = true := by kernel_rfl
theorem ledgerAgain_k16 : ((Rows.ledgerAgainRow.loops == (Tryz.f11.params.toList ++ (OpenSpec.ofChange Rows.ledgerAgainSpec).bare.plain.varTypes Tryz.pinned.checked.prog).any (Tryz.pinned.checked.prog.loopsFrom ·))) = true := by kernel_rfl
theorem ledgerAgain_k17 : ((Rows.ledgerAgainRow.wideKeys == (Tryz.f11.params.toList ++ (OpenSpec.ofChange Rows.ledgerAgainSpec).bare.plain.varTypes Tryz.pinned.checked.prog ++ Tryz.f11.resultTypes.toList).any (Tryz.pinned.checked.prog.wideKeysFrom ·))) = true := by kernel_rfl
theorem ledgerAgain_k18 : ((OpenSpec.ofChange Rows.ledgerAgainSpec).bare.vars.all (Tryz.pinned.checked.prog.varReadable ·)) = true := by kernel_rfl
theorem ledgerAgain_k19 : (Tryz.f11.resultTypes.all (fun t => Tryz.pinned.checked.prog.readableRec t && decide (t < Tryz.pinned.checked.prog.types.size))) = true := by kernel_rfl
theorem ledgerAgain_k20 : ((Rows.ledgerAgainRow.ifacesOut == Tryz.f11.resultTypes.toList.any (Tryz.pinned.checked.prog.ifacesRec ·))) = true := by kernel_rfl
theorem ledgerAgain_k21 : ((Rows.ledgerAgainRow.loopsOut == Tryz.f11.resultTypes.toList.any (Tryz.pinned.checked.prog.loopsFrom ·))) = true := by kernel_rfl
theorem ledgerAgain_k22 : ((Rows.ledgerAgainRow.plainKeys == Tryz.pinned.checked.prog.plainKeys)) = true := by kernel_rfl
theorem ledgerAgain_k23 : (Rows.ledgerAgainRow.shortTexts.isNone) = true := by kernel_rfl
theorem ledgerAgain_k24 : (Tryz.pinned.checked.prog.stopsHeard) = true := by kernel_rfl
theorem ledgerAgain_k25 : (Tryz.pinned.checked.prog.mayEnter) = true := by kernel_rfl
theorem ledgerAgain_k26 : ((Rows.ledgerAgainRow.lifted == Tryz.pinned.checked.prog.liftsFinal)) = true := by kernel_rfl
theorem ledgerAgain_k27 : ((Tryz.pinned.checked.prog.make == some Rows.ledgerAgainRow.make)) = true := by kernel_rfl
theorem ledgerAgain_k28 : ((Rows.ledgerAgainRow.kinds == (if Rows.ledgerAgainRow.domain.isEmpty then [] else Tryz.f11.params.toList.map fun t => match Tryz.pinned.checked.prog.underlying t with | some (.int k) => some k | _ => none))) = true := by kernel_rfl
theorem ledgerAgain_k29 : ((Rows.ledgerAgainRow.pinned == Rows.ledgerAgainRow.pinnedBy)) = true := by kernel_rfl
theorem ledgerAgain_k30 : ((Rows.ledgerAgainRow.veiled == (Tryz.f11.params.toList ++ (OpenSpec.ofChange Rows.ledgerAgainSpec).bare.plain.varTypes Tryz.pinned.checked.prog ++ Tryz.f11.resultTypes.toList).any (Tryz.pinned.checked.prog.veiledRec ·))) = true := by kernel_rfl
theorem ledgerAgain_k31 : (Rows.ledgerAgainRow.veiledFits Tryz.pinned.checked.prog Tryz.f11.params.toList (Tryz.f11.params.toList ++ (OpenSpec.ofChange Rows.ledgerAgainSpec).bare.plain.varTypes Tryz.pinned.checked.prog ++ Tryz.f11.resultTypes.toList)) = true := by kernel_rfl
set_option maxRecDepth 100000 in
theorem ledgerAgain_facts : joinedFacts Tryz.pinned.checked.prog 11 Tryz.f11 (OpenSpec.ofChange Rows.ledgerAgainSpec).bare Rows.ledgerAgainRow = true := (and_tt (and_tt (and_tt (and_tt (and_tt (and_tt (and_tt (and_tt (and_tt (and_tt (and_tt (and_tt (and_tt (and_tt (and_tt (and_tt (and_tt (and_tt (and_tt (and_tt (and_tt (and_tt (and_tt (and_tt (and_tt (and_tt (and_tt (and_tt (and_tt (and_tt (and_tt ledgerAgain_k0 ledgerAgain_k1) ledgerAgain_k2) ledgerAgain_k3) ledgerAgain_k4) ledgerAgain_k5) ledgerAgain_k6) ledgerAgain_k7) ledgerAgain_k8) ledgerAgain_k9) ledgerAgain_k10) ledgerAgain_k11) ledgerAgain_k12) ledgerAgain_k13) ledgerAgain_k14) ledgerAgain_k15) ledgerAgain_k16) ledgerAgain_k17) ledgerAgain_k18) ledgerAgain_k19) ledgerAgain_k20) ledgerAgain_k21) ledgerAgain_k22) ledgerAgain_k23) ledgerAgain_k24) ledgerAgain_k25) ledgerAgain_k26) ledgerAgain_k27) ledgerAgain_k28) ledgerAgain_k29) ledgerAgain_k30) ledgerAgain_k31)
theorem ledgerAgain_said : Rows.LedgerAgainSaid :=
  OpenClaim.holds_of_cond 11 Tryz.f11 rfl rfl rfl rfl rfl rfl rfl ⟨rfl, rfl, rfl, rfl, rfl⟩ rfl rfl rfl rfl rfl (by kernel_rfl) Tryz.func11 ledgerAgain_facts
    (of_decide_eq_true (by kernel_rfl)) (by unfold Func.isWrapper; first | (rw [if_pos (by decide +kernel)]; kernel_rfl) | (rw [if_neg (by decide +kernel)]; exact ⟨rfl, rfl⟩))
    (fun os started H enc _ F => by rw [OpenClaim.pre_eq_preRow]; exact ledgerAgain_lifted os started H enc F)
theorem ledgerAgain_plain (f : FuncId) (fn : Func) (hf : Tryz.pinned.checked.prog.funcNamed "quorate/quoratelaw18.LedgerAgain" = some f) (hfn : Tryz.pinned.checked.prog.funcs[f]? = some fn) :
    true = Tryz.pinned.checked.prog.looks [] ∧ ∀ (j : Nat) t, fn.params[j]? = some t → Tryz.pinned.checked.prog.wantsStandIn t = false := by
  obtain rfl : f = 11 := Option.some.inj ((show Tryz.prog.funcNamed "quorate/quoratelaw18.LedgerAgain" = some 11 by kernel_rfl).symm.trans hf) |>.symm
  obtain rfl : fn = Tryz.f11 := (Option.some.inj (Tryz.func11.symm.trans hfn)).symm
  refine ⟨by kernel_rfl, fun j t ht => ?_⟩
  rw [Tryz.params11] at ht
  have hm := Array.mem_of_getElem? ht
  have h : t = 102 := by simpa using hm
  subst h
  exact (show Tryz.prog.wantsStandIn 102 = false by kernel_rfl)
theorem ledgerAgain_holds : Rows.LedgerAgainCardSaid :=
  Claim7.holds_tied_plain_at .later [] _ _ _ _ ledgerAgain_said (fun _ h => by cases h) (by kernel_rfl) (fun _ h => by cases h) ledgerAgain_row_tie rfl ⟨rfl, rfl⟩ (by kernel_rfl) rfl ledgerAgain_plain (by kernel_rfl)
#print axioms ledgerAgain_holds
end Go.Proofs.YtobjojeliibinaaGreatDoor

