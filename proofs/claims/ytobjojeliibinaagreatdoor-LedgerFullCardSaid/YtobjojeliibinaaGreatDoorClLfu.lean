/- Part 6. What is proved: see the last part: for every input the law returns true, and the input reads as it did. -/
import Derived.Test.YtobjojeliibinaaGreatDoorCl5
import Derived.Test.YtobjojeliibinaaGreatDoorCards
import Derived.Test.YtobjojeliibinaaGreatDoorTie
import Derived.Deep.DeepHandedRow
import Derived.Deep.DeepWitnessRowRef
/- Walks, by program (wg.py) out of a spec. -/
namespace Go.Proofs.YtobjojeliibinaaGreatDoor
open Go
set_option linter.unusedVariables false
set_option linter.unusedSimpArgs false


def recsA (f : Nat → LRec) (k : Nat) : List LRec := (List.range k).map f
theorem recsA_succ (f : Nat → LRec) (k : Nat) : recsA f (k + 1) = recsA f k ++ [f k] := by simp [recsA, List.range_succ]
theorem recsA_len (f : Nat → LRec) (k : Nat) : (recsA f k).length = k := by simp [recsA]
theorem recsA_at {f : Nat → LRec} {k i : Nat} (h : i < k) : (recsA f k)[i]? = some (f i) := by simp [recsA, h]
theorem recsA_tot {f : Nat → LRec} (h : ∀ i, lenR (f i) ≤ 7) : ∀ k, tot (recsA f k) ≤ 7 * k
  | 0 => Nat.le_refl _
  | k + 1 => by rw [recsA_succ, tot_snoc]; have := recsA_tot h k; have := h k; omega
theorem lenR_sm (i v : Int) (tx : UInt8) : lenR (smR (rndU i) tx (vts v)) ≤ 7 := by have := sm_sec (n := rndU i) (tx := tx) (rnd_lt i) (vts_lt v); rw [lenR_eq]; omega
theorem smU_ok (i v : Int) (tx : UInt8) : (smR (rndU i) tx (vts v)).Ok := sm_ok (rnd_lt i) (vts_lt v)
theorem recsA_zero (f : Nat → LRec) : recsA f 0 = [] := rfl
def alF (i : Nat) : LRec := smR (rndU ((i + 1 : Nat) : Int)) 7 (vts 0)
theorem al_len (i : Nat) : lenR (alF i) ≤ 7 := lenR_sm _ _ _
theorem alF_eq (i : Nat) : alF i = smR (rndU ((i + 1 : Nat) : Int)) 7 (vts 0) := rfl
def secN (a : Int) : Nat := 2 + ((IntKind.u64.wrap a).tmod 100).toNat
theorem secN_eq (a : Int) : (IntKind.u64.wrap a).tmod 100 = ((secN a - 2 : Nat) : Int) ∧ 2 ≤ secN a ∧ secN a < 102 := by
  have := u64_rem a (m := 100) (by decide)
  unfold secN
  refine ⟨by rw [Nat.add_sub_cancel_left]; exact this.1, by omega, by have h2 : ((IntKind.u64.wrap a).tmod 100).toNat < 100 := this.2; omega⟩
def fuF (v : Int) (tx : UInt8) (i : Nat) : LRec := smR (rndU (i : Int)) tx (vts v)
theorem fu_eq (v : Int) (tx : UInt8) (k : Nat) : (⟨(smR (rndU (k : Int)) tx (vts v)).b, (smR (rndU (k : Int)) tx (vts v)).c⟩ : LRec) = fuF v tx k := rfl
theorem fu_len (v : Int) (tx : UInt8) (i : Nat) : lenR (fuF v tx i) = 1 + nsec (fuF v tx i).data.length := rfl

attribute [local irreducible] Gl Gc Gx Gs Runs Wt

attribute [local irreducible] dc RdRec RdBlock RdQC blkC qcC allE smR recsA alF fuF secN tot rndU vts LdR

set_option maxHeartbeats 400000 in
theorem alive18_ok {w : World} {F : Nat → Prop} (h : stars [] w F) {ea : Nat → Addr} {es : List Nat} [Has es 1] [Has es 2] [Has es 3] [Has es 4] [Has es 6] [Has es 7] [Has es 8] [Has es 12] (hE : GErr es w (fun k => ¬ F k) 340 ea) (hK : KR w (fun k => ¬ F k))  :
    Calls Tryz.prog 40 #[] w (Post w F (fun _ : Unit => .bool true) (fun _ => [])) := by
  refine g_enter (env := []) Tryz.func40 rfl h Tryz.ntmps40 rfl rfl ?_
  refine gsr ?_
  refine gp zas ?_
  refine gnt ?_
  refine gsr ?_
  refine zc (fun g => ?_) (c := fun w1 F1 F2 h1 h2 hd hst => new_ok (ea := ea) (n := 40) h1 (by decide) (by decide))
  refine gp zmv ?_
  refine gp zex ?_
  refine gp zex ?_
  refine gp zas ?_
  refine gp zas ?_
  refine gnt ?_
  refine gc_seq ?_
  refine gsr ?_
  refine gp zmv ?_
  refine gp (r_bool (c := false) (r_nenil rfl (by kernel_rfl)) rfl) ?_
  refine gp zmv ?_
  refine gq zmv ?_
  refine gq (r_bool (c := false) (r_eqpn rfl Ty.un_91) rfl) ?_
  refine gp zpk ?_
  refine gnt ?_
  refine gc_condF rfl rfl ?_
  refine gc_skip ?_
  refine gx_then ?_
  refine gsr ?_
  refine gp zmv ?_
  refine zc (fun q => ?_) (c := fun w1 F1 F2 h1 h2 hd hst => fmtC (n := 40) (bs := 0) h1 (by decide) (by decide) (hE.mv hst.still))
  refine gp zmv ?_
  refine gp zex ?_
  refine gp zex ?_
  refine gp zas ?_
  refine gp zas ?_
  refine gnt ?_
  refine gc_seq ?_
  refine gsr ?_
  refine gp zmv ?_
  refine gp (r_bool (c := false) (r_nenil rfl (by kernel_rfl)) rfl) ?_
  refine gp zmv ?_
  refine gq zmv ?_
  refine gq (r_bool (c := false) (r_eqpn rfl Ty.un_59) rfl) ?_
  refine gp zpk ?_
  refine gnt ?_
  refine gc_condF rfl rfl ?_
  refine gc_skip ?_
  refine gx_then ?_
  refine gc_seq ?_
  refine gsr ?_
  refine gp zmv ?_
  refine gnt ?_
  refine gc_block ?_
  refine gc_loop (α := Nat) (fun k => [pureR (k ≤ 2), LdR q g 40 0 (recsA alF k)]) (fun k => [(27, .int .i64 (k : Int))]) [0, 4, 5, 28, 29, 30, 31, 32, 33, 34, 35, 36, 37, 38, 39, 40] (fun k => 2 - k) 0 ?_ ?_ ?_
  · refine env_start (by kernel_rfl)
  · simp only [recsA_zero]
    exact zlp (Nat.zero_le _)
  · intro k u
    refine gc_pureR (fun hk => ?_)
    replace hk : k ≤ 2 := hk
    have hlen := recsA_len alF k
    have htot := recsA_tot al_len k
    have hsec := sm_sec (tx := 7) (rnd_lt ((k + 1 : Nat) : Int)) (vts_lt 0)
    refine gsr ?_
    refine gp zlt ?_
    refine gnt ?_
    refine gc_seq ?_
    refine gif rfl (fun hc28 => ?_) (fun hc28 => ?_)
    · try simp only at hc28
      have hk' : k < 2 := by omega
      refine gc_skip ?_
      refine gx_then ?_
      refine gc_seq ?_
      refine gc_block ?_
      refine gsr ?_
      refine gp zmv ?_
      refine gp zas ?_
      refine gnt ?_
      refine gsr ?_
      refine gp zmv ?_
      refine gp (r_int (j := ((k + 1 : Nat) : Int)) zad (by omega)) ?_
      refine zc ?_ (c := fun w1 F1 F2 h1 h2 hd hst => small_ok (i := ((k + 1 : Nat) : Int)) (v := 0) (tx := 7) h1 (hE.mv hst.still) (hK.mv hst.still))
      rintro ⟨xb, xc⟩
      refine gl_pureR (fun hxx => ?_)
      obtain ⟨⟨hlb, hob⟩, hlc, hoc⟩ := hxx
      replace hlb : xb.length = 39 := hlb
      replace hlc : xc.length = 19 := hlc
      have ib := Len.of hlb
      have jb := One.of (show ∀ v ∈ xb, v.oneCell' = true from hob)
      have ic := Len.of hlc
      have jc := One.of (show ∀ v ∈ xc, v.oneCell' = true from hoc)
      refine zal fun b5 => ?_
      refine zsN ?_
      refine gnt ?_
      refine gsr ?_
      refine gp zmv ?_
      refine gp zfa ?_
      refine gp (zL (sg := xb)) ?_
      refine gp zfa ?_
      refine gp (zL (sg := xc)) ?_
      refine zc (fun _ => ?_) (c := fun w1 F1 F2 h1 h2 hd hst => appC (b := (smR (rndU ((k + 1 : Nat) : Int)) 7 (vts 0)).b) (c := (smR (rndU ((k + 1 : Nat) : Int)) 7 (vts 0)).c) h1 (hE.mv hst.still) (hK.mv hst.still) (vl_rd h2 hd (by repeat (first | exact Pick.here | apply Pick.there))) (vl_rd h2 hd (by repeat (first | exact Pick.here | apply Pick.there))) (smU_ok _ _ _) (by omega) (by show 0 + tot (recsA alF k) + nsec (smR (rndU ((k + 1 : Nat) : Int)) 7 (vts 0)).data.length + 2 ≤ 40; omega))
      refine gp (r_bool (c := false) (r_nenil rfl (by kernel_rfl)) rfl) ?_
      refine gnt ?_
      refine gc_condF rfl rfl ?_
      refine gc_skip ?_
      refine gx_block_normal ?_
      refine gx_then ?_
      refine gc_region ?_
      refine gp zad ?_
      refine gp zmv ?_
      refine gl_nil ?_
      refine zrd (k + 1) ?_ ?_
      · show 2 - (k + 1) < 2 - k
        omega
      · simp only [recsA_succ, alF_eq]
        exact zlp (show k + 1 ≤ 2 by omega)
    · try simp only at hc28
      have hk' : k = 2 := by omega
      subst hk'
      refine gc_exit ?_
      refine gx_then_exit ?_
      refine gx_round_exit ?_
      refine gx_block_hit ?_
      refine gx_then ?_
      refine gsr ?_
      refine gp zmv ?_
      refine zc (fun _ => ?_) (c := fun w1 F1 F2 h1 h2 hd hst => crashC h1)
      refine gnt ?_
      refine gsr ?_
      refine gp zmv ?_
      refine zc (fun p => ?_) (c := fun w1 F1 F2 h1 h2 hd hst => openC h1 (hE.mv hst.still) (hK.mv hst.still))
      refine gp zmv ?_
      refine gp zex ?_
      refine gp zex ?_
      refine gp zas ?_
      refine gp zas ?_
      refine gnt ?_
      refine gsr ?_
      refine gp zmv ?_
      refine gp (r_bool (c := true) (r_eqnil (k := 0) rfl (by kernel_rfl)) rfl) ?_
      refine gp zmv ?_
      refine gq zmv ?_
      refine gq (r_bool (c := true) (r_nepn rfl Ty.un_59) rfl) ?_
      refine gp zpk ?_
      refine gp zmv ?_
      refine gq zmv ?_
      refine zc (fun _ => ?_) (c := fun w1 F1 F2 h1 h2 hd hst => lenC h1)
      refine gq (r_bool (c := true) zei (by simp [recsA_len])) ?_
      refine gp zpk ?_
      refine gp zas ?_
      refine gnt ?_
      refine gc_ret ?_
      refine gx_ret1 rfl (by conv => lhs; whnf) ?_
      exact ze ()

set_option maxHeartbeats 400000 in
theorem ledgerFull_ok {w : World} {F : Nat → Prop} {a ok ord ov os : Int} {tx : UInt8} {ao : Option Addr} {no co : Nat} {ea : Nat → Addr} (h : stars [] w F) (hN : NErr w (fun k => ¬ F k) ea) (hK : KR w (fun k => ¬ F k))  :
    Calls Tryz.prog 9 #[.int .i64 a, .agg (List.toArray [.int .i64 ok, .int .i64 ord, .int .i64 ov, .int .i64 os, B8 tx, .slice ao no co])] w (Post w F (fun _ : Unit => .bool true) (fun _ => [])) := by
  have hE := hN.g
  obtain ⟨hse, hs2, hs1⟩ := secN_eq a
  refine g_enter (env := [(0, .int .i64 a), (1, .agg (List.toArray [.int .i64 ok, .int .i64 ord, .int .i64 ov, .int .i64 os, B8 tx, .slice ao no co]))]) Tryz.func9 rfl h Tryz.ntmps9 rfl rfl ?_
  refine gsr ?_
  refine zbN fun b3 => ?_
  refine gp zas ?_
  refine gnt ?_
  refine gc_seq ?_
  refine gsr ?_
  refine zc (fun _ => ?_) (c := fun w1 F1 F2 h1 h2 hd hst => alive18_ok h1 (hE.mv hst.still) (hK.mv hst.still))
  refine gp znt ?_
  refine gnt ?_
  refine gc_condF rfl rfl ?_
  refine gc_skip ?_
  refine gx_then ?_
  refine gsr ?_
  refine gp zmv ?_
  refine gp zci ?_
  refine gp (r_int (j := ((secN a - 2 : Nat) : Int)) zrm hse) ?_
  refine gp (r_int (j := ((secN a - 2 : Nat) : Int)) zci (wrap_i64 (by omega) (by omega))) ?_
  refine gp (r_int (j := ((secN a : Nat) : Int)) zad (by omega)) ?_
  refine gp zas ?_
  refine gnt ?_
  refine gsr ?_
  refine gp zmv ?_
  refine zc (fun g => ?_) (c := fun w1 F1 F2 h1 h2 hd hst => new_ok (ea := ea) (n := secN a) h1 (by omega) (by omega))
  refine gp zmv ?_
  refine gp zex ?_
  refine gp zex ?_
  refine gp zas ?_
  refine gp zas ?_
  refine gnt ?_
  refine gc_seq ?_
  refine gsr ?_
  refine gp zmv ?_
  refine gp (r_bool (c := false) (r_nenil rfl (by kernel_rfl)) rfl) ?_
  refine gnt ?_
  refine gc_condF rfl rfl ?_
  refine gc_skip ?_
  refine gx_then ?_
  refine gsr ?_
  refine gp zmv ?_
  refine zc (fun q => ?_) (c := fun w1 F1 F2 h1 h2 hd hst => fmtC (n := secN a) (bs := 0) h1 (by omega) (by omega) (hE.mv hst.still))
  refine gp zmv ?_
  refine gp zex ?_
  refine gp zex ?_
  refine gp zas ?_
  refine gp zas ?_
  refine gnt ?_
  refine gc_seq ?_
  refine gsr ?_
  refine gp zmv ?_
  refine gp (r_bool (c := false) (r_nenil rfl (by kernel_rfl)) rfl) ?_
  refine gnt ?_
  refine gc_condF rfl rfl ?_
  refine gc_skip ?_
  refine gx_then ?_
  refine gsr ?_
  refine gp zas ?_
  refine gnt ?_
  refine gc_seq ?_
  refine gc_block ?_
  refine gc_loop (α := Nat) (fun k => [LdR q g (secN a) 0 (recsA (fuF ov tx) k), blk b3 90 [.int .i64 ok, .int .i64 ord, .int .i64 ov, .int .i64 os, B8 tx, .slice ao no co]]) (fun k => [(8, .int .i64 (k : Int))]) [4, 9, 10, 11, 34, 35, 36, 37, 38, 39, 40, 41, 42, 43, 44, 45, 46, 47, 48, 49, 50, 51, 52, 53, 54, 55, 56, 57, 58, 59, 60, 61, 62, 63, 64, 65, 66, 67, 68, 69] (fun k => secN a - tot (recsA (fuF ov tx) k)) 0 ?_ ?_ ?_
  · refine env_start (by kernel_rfl)
  · simp only [recsA_zero]
    exact zsel
  · intro k u
    have hlen := recsA_len (fuF ov tx) k
    have htg := tot_ge (recsA (fuF ov tx) k)
    refine gc_fact (p := 0 + tot (recsA (fuF ov tx) k) < secN a) (fun w' hw => by obtain ⟨F', hF', _⟩ := hw; obtain ⟨d, hd, _⟩ := ld_open hF'; exact tot_lt hd) (fun htl => ?_)
    have hts : tot (recsA (fuF ov tx) (k + 1)) = tot (recsA (fuF ov tx) k) + lenR (fuF ov tx k) := by rw [recsA_succ, tot_snoc]
    have hfl := fu_len ov tx k
    refine gc_block ?_
    refine gsr ?_
    refine gp zmv ?_
    refine gp zfa ?_
    refine gp (zl) ?_
    refine gp zfa ?_
    refine gp zl ?_
    refine zc ?_ (c := fun w1 F1 F2 h1 h2 hd hst => small_ok (i := (k : Int)) (v := ov) (tx := tx) h1 (hE.mv hst.still) (hK.mv hst.still))
    rintro ⟨xb, xc⟩
    refine gl_pureR (fun hxx => ?_)
    obtain ⟨⟨hlb, hob⟩, hlc, hoc⟩ := hxx
    replace hlb : xb.length = 39 := hlb
    replace hlc : xc.length = 19 := hlc
    have ib := Len.of hlb
    have jb := One.of (show ∀ v ∈ xb, v.oneCell' = true from hob)
    have ic := Len.of hlc
    have jc := One.of (show ∀ v ∈ xc, v.oneCell' = true from hoc)
    refine zal fun b9 => ?_
    refine zsN ?_
    refine gnt ?_
    refine gsr ?_
    refine gp zmv ?_
    refine zc (fun _ => ?_) (c := fun w1 F1 F2 h1 h2 hd hst => freeC h1)
    refine gp zas ?_
    refine gnt ?_
    refine gc_seq ?_
    by_cases hft : tot (recsA (fuF ov tx) k) + nsec (fuF ov tx k).data.length + 2 ≤ secN a
    · refine gc_region ?_
      refine gp zmv ?_
      refine gp zfa ?_
      refine gp (zL (sg := xb)) ?_
      refine gp zfa ?_
      refine gp (zL (sg := xc)) ?_
      refine zc (fun _ => ?_) (c := fun w1 F1 F2 h1 h2 hd hst => appC (b := (smR (rndU (k : Int)) tx (vts ov)).b) (c := (smR (rndU (k : Int)) tx (vts ov)).c) h1 (hE.mv hst.still) (hK.mv hst.still) (vl_rd h2 hd (by repeat (first | exact Pick.here | apply Pick.there))) (vl_rd h2 hd (by repeat (first | exact Pick.here | apply Pick.there))) (smU_ok _ _ _) (by omega) (by rw [fu_eq]; omega))
      rw [show recsA (fuF ov tx) k ++ [(⟨(smR (rndU (k : Int)) tx (vts ov)).b, (smR (rndU (k : Int)) tx (vts ov)).c⟩ : LRec)] = recsA (fuF ov tx) (k + 1) from by rw [recsA_succ, fu_eq]]
      refine gp zas ?_
      refine gnt ?_
      refine gc_seq ?_
      refine gsr ?_
      refine gp zmv ?_
      refine gp (r_bool (c := false) (r_nenil rfl (by kernel_rfl)) rfl) ?_
      refine gnt ?_
      refine gc_condF rfl rfl ?_
      refine gc_skip ?_
      refine gx_then ?_
      refine gsr ?_
      refine gp zmv ?_
      refine gp (r_int (j := ((k + 1 : Nat) : Int)) zad (by omega)) ?_
      refine gp zas ?_
      refine gnt ?_
      refine gsr ?_
      refine gp zmv ?_
      refine zc (fun _ => ?_) (c := fun w1 F1 F2 h1 h2 hd hst => freeC h1)
      refine gp zmv ?_
      refine gp (r_bool (c := false) zge (by simp only [decide_eq_false_iff_not]; omega)) ?_
      refine gp zmv ?_
      refine gq zmv ?_
      refine gq zmv ?_
      refine gq (r_bool (c := false) zgt (by simp only [decide_eq_false_iff_not]; omega)) ?_
      refine gp zpk ?_
      refine gnt ?_
      refine gc_condF rfl rfl ?_
      refine gc_skip ?_
      refine gx_block_normal ?_
      refine zrd (k + 1) ?_ ?_
      · show secN a - tot (recsA (fuF ov tx) (k + 1)) < secN a - tot (recsA (fuF ov tx) k)
        omega
      · exact zsel
    · refine gc_region ?_
      refine gp zmv ?_
      refine gp zfa ?_
      refine gp (zL (sg := xb)) ?_
      refine gp zfa ?_
      refine gp (zL (sg := xc)) ?_
      refine zc (fun _ => ?_) (c := fun w1 F1 F2 h1 h2 hd hst => appX (b := (smR (rndU (k : Int)) tx (vts ov)).b) (c := (smR (rndU (k : Int)) tx (vts ov)).c) h1 (hE.mv hst.still) (hK.mv hst.still) (vl_rd h2 hd (by repeat (first | exact Pick.here | apply Pick.there))) (vl_rd h2 hd (by repeat (first | exact Pick.here | apply Pick.there))) (by omega) 8 (.inr ⟨made_zero (smU_ok _ _ _), rfl, .inr (by rw [fu_eq]; omega)⟩))
      refine gp zas ?_
      refine gnt ?_
      refine gc_seq ?_
      refine gsr ?_
      refine gp zmv ?_
      refine gp (r_bool (c := true) (r_nenil rfl (by kernel_rfl)) rfl) ?_
      refine gnt ?_
      refine gc_condT rfl rfl ?_
      refine gc_seq ?_
      refine gsr ?_
      refine gp zmv ?_
      refine zc (fun _ => ?_) (c := fun w1 F1 F2 h1 h2 hd hst => errNum_ok (n := 8) h1 (hN.mv hst.still) (by decide))
      refine gp (r_bool (c := false) zni (by simp)) ?_
      refine gp zmv ?_
      refine gq zmv ?_
      refine zc (fun _ => ?_) (c := fun w1 F1 F2 h1 h2 hd hst => freeC h1)
      refine gq zmv ?_
      refine gq (r_bool (c := false) zni (by simp)) ?_
      refine gp zpk ?_
      refine gnt ?_
      refine gc_condF rfl rfl ?_
      refine gc_skip ?_
      refine gx_then ?_
      refine gc_exit ?_
      refine gx_then_exit ?_
      refine gx_block_miss rfl ?_
      refine gx_round_exit ?_
      refine gx_block_hit ?_
      refine gx_then ?_
      refine gsr ?_
      refine gp zmv ?_
      refine zc (fun p => ?_) (c := fun w1 F1 F2 h1 h2 hd hst => openC h1 (hE.mv hst.still) (hK.mv hst.still))
      refine gp zmv ?_
      refine gp zex ?_
      refine gp zex ?_
      refine gp zas ?_
      refine gp zas ?_
      refine gnt ?_
      refine gsr ?_
      refine gp zmv ?_
      refine gp (r_bool (c := true) (r_eqnil (k := 0) rfl (by kernel_rfl)) rfl) ?_
      refine gp zmv ?_
      refine gq zmv ?_
      refine zc (fun _ => ?_) (c := fun w1 F1 F2 h1 h2 hd hst => lenC h1)
      refine gq zmv ?_
      refine gq (r_bool (c := true) zei (by simp [recsA_len])) ?_
      refine gp zpk ?_
      refine gp zmv ?_
      refine gq zmv ?_
      refine zc (fun _ => ?_) (c := fun w1 F1 F2 h1 h2 hd hst => freeC h1)
      refine gq zmv ?_
      refine zc (fun _ => ?_) (c := fun w1 F1 F2 h1 h2 hd hst => freeC2 h1)
      refine gq (r_bool (c := true) zei (by simp)) ?_
      refine gp zpk ?_
      refine gp zas ?_
      refine gnt ?_
      refine gc_ret ?_
      refine gx_ret1 rfl (by conv => lhs; whnf) ?_
      exact ze ()

end Go.Proofs.YtobjojeliibinaaGreatDoor

/- LedgerFull: for every input the law returns true, and the input reads as it did: the row and its card. -/
namespace Go.Proofs.YtobjojeliibinaaGreatDoor
open Go
open Go.ChangeShapes Go.WideShapes Go.ChangeAt Go.RowKit
set_option linter.unusedVariables false

/-- One world that fits: the settled one, the listed variables as their initialisers lay them. -/
noncomputable def ledgerFull_world (os : Os) : World :=
  let w0 := World.holding Tryz.prog os ⟨#[.cells #[.string ⟨#[113, 117, 111, 114, 97, 116, 101, 58, 32, 114, 97, 110, 103, 101]⟩] 365, .cells #[.string ⟨#[113, 117, 111, 114, 97, 116, 101, 58, 32, 115, 104, 111, 114, 116]⟩] 365, .cells #[.string ⟨#[113, 117, 111, 114, 97, 116, 101, 58, 32, 108, 111, 110, 103]⟩] 365, .cells #[.string ⟨#[113, 117, 111, 114, 97, 116, 101, 58, 32, 102, 111, 114, 109]⟩] 365, .cells #[.string ⟨#[113, 117, 111, 114, 97, 116, 101, 58, 32, 115, 112, 101, 110, 116]⟩] 365, .cells #[.string ⟨#[113, 117, 111, 114, 97, 116, 101, 58, 32, 112, 111, 119, 101, 114]⟩] 365, .cells #[.string ⟨#[113, 117, 111, 114, 97, 116, 101, 58, 32, 100, 105, 115, 107]⟩] 365, .cells #[.string ⟨#[113, 117, 111, 114, 97, 116, 101, 58, 32, 102, 117, 108, 108]⟩] 365, .cells #[.string ⟨#[113, 117, 111, 114, 97, 116, 101, 58, 32, 110, 111, 110, 101]⟩] 365, .cells #[.string ⟨#[113, 117, 111, 114, 97, 116, 101, 58, 32, 111, 108, 100]⟩] 365, .cells #[.string ⟨#[113, 117, 111, 114, 97, 116, 101, 58, 32, 115, 101, 116]⟩] 365, .cells #[.string ⟨#[113, 117, 111, 114, 97, 116, 101, 58, 32, 112, 114, 111, 111, 102]⟩] 365, .cells #[.string ⟨#[113, 117, 111, 114, 97, 116, 101, 58, 32, 108, 101, 97, 100, 101, 114]⟩] 365, .cells #[.string ⟨#[113, 117, 111, 114, 97, 116, 101, 58, 32, 114, 111, 117, 110, 100]⟩] 365, .cells #[.string ⟨#[113, 117, 111, 114, 97, 116, 101, 58, 32, 117, 110, 115, 97, 102, 101]⟩] 365, .cells #[.string ⟨#[113, 117, 111, 114, 97, 116, 101, 58, 32, 112, 97, 114, 101, 110, 116]⟩] 365, .cells #[.string ⟨#[113, 117, 111, 114, 97, 116, 101, 58, 32, 116, 119, 105, 99, 101]⟩] 365, .cells #[.string ⟨#[113, 117, 111, 114, 97, 116, 101, 58, 32, 101, 112, 111, 99, 104]⟩] 365], #[], []⟩
  { w0 with heap := ((((((((((((((((((w0.heap.modify 2 fun
      | .cells _ t fz => .cells #[.iface 340 (.pointer (some ⟨lowB + 0, 0, none⟩))] t fz
      | o => o).modify 3 fun
      | .cells _ t fz => .cells #[.iface 340 (.pointer (some ⟨lowB + 1, 0, none⟩))] t fz
      | o => o).modify 4 fun
      | .cells _ t fz => .cells #[.iface 340 (.pointer (some ⟨lowB + 2, 0, none⟩))] t fz
      | o => o).modify 0 fun
      | .cells _ t fz => .cells #[.iface 340 (.pointer (some ⟨lowB + 3, 0, none⟩))] t fz
      | o => o).modify 5 fun
      | .cells _ t fz => .cells #[.iface 340 (.pointer (some ⟨lowB + 4, 0, none⟩))] t fz
      | o => o).modify 6 fun
      | .cells _ t fz => .cells #[.iface 340 (.pointer (some ⟨lowB + 5, 0, none⟩))] t fz
      | o => o).modify 7 fun
      | .cells _ t fz => .cells #[.iface 340 (.pointer (some ⟨lowB + 6, 0, none⟩))] t fz
      | o => o).modify 8 fun
      | .cells _ t fz => .cells #[.iface 340 (.pointer (some ⟨lowB + 7, 0, none⟩))] t fz
      | o => o).modify 9 fun
      | .cells _ t fz => .cells #[.iface 340 (.pointer (some ⟨lowB + 8, 0, none⟩))] t fz
      | o => o).modify 10 fun
      | .cells _ t fz => .cells #[.iface 340 (.pointer (some ⟨lowB + 9, 0, none⟩))] t fz
      | o => o).modify 11 fun
      | .cells _ t fz => .cells #[.iface 340 (.pointer (some ⟨lowB + 10, 0, none⟩))] t fz
      | o => o).modify 1 fun
      | .cells _ t fz => .cells #[.iface 340 (.pointer (some ⟨lowB + 11, 0, none⟩))] t fz
      | o => o).modify 12 fun
      | .cells _ t fz => .cells #[.iface 340 (.pointer (some ⟨lowB + 12, 0, none⟩))] t fz
      | o => o).modify 13 fun
      | .cells _ t fz => .cells #[.iface 340 (.pointer (some ⟨lowB + 13, 0, none⟩))] t fz
      | o => o).modify 14 fun
      | .cells _ t fz => .cells #[.iface 340 (.pointer (some ⟨lowB + 14, 0, none⟩))] t fz
      | o => o).modify 15 fun
      | .cells _ t fz => .cells #[.iface 340 (.pointer (some ⟨lowB + 15, 0, none⟩))] t fz
      | o => o).modify 16 fun
      | .cells _ t fz => .cells #[.iface 340 (.pointer (some ⟨lowB + 16, 0, none⟩))] t fz
      | o => o).modify 17 fun
      | .cells _ t fz => .cells #[.iface 340 (.pointer (some ⟨lowB + 17, 0, none⟩))] t fz
      | o => o).modify 18 fun
      | .cells _ t fz => .cells (kc.map W32).toArray t fz
      | o => o }
def ledgerFull_args : Array Value := #[.int .i64 0, .agg #[.int .i64 0, .int .i64 0, .int .i64 0, .int .i64 0, .int .u8 0, .slice none 0 0]]
theorem ledgerFull_laid (os : Os) (args : Array Value) : laidMet Tryz.prog Rows.ledgerFullRow.laid ((ledgerFull_world os).forCall (fun _ _ => 0) ⟨#[], args, []⟩).memory :=
  laidMet_of_run' 8 (by kernel_rfl) (by kernel_rfl)
theorem ledgerFull_reads (os : Os) {H : Type} (enc : TypeId × Value → H) : ∃ places, DataW.whole enc Tryz.prog ((ledgerFull_world os).forCall (fun _ _ => 0) ⟨#[], ledgerFull_args, []⟩).memory Tryz.f9.params.toList Rows.ledgerFullSpec.vars false ledgerFull_args.toList 8 = some ([.lit (.int .i64 0), .agg [.lit (.int .i64 0), .lit (.int .i64 0), .lit (.int .i64 0), .lit (.int .i64 0), .lit (.int .u8 0), .nil]], [], places) :=
  ⟨[], by kernel_rfl⟩
set_option maxRecDepth 20000 in
theorem ledgerFull_contract (H : Type) (enc : TypeId × Value → H) (W : World) (base : Nat) (args : Array Value) (ds gs : List (DataW H)) (before : List MemPlace)
    (hval : ∀ (j : Nat) t v, Tryz.f9.params[j]? = some t → args[j]? = some v → Value.okWide Tryz.prog W .any base t v)
    (hW : DataW.Whole enc Tryz.prog Tryz.f9.params.toList Rows.ledgerFullSpec.vars false W args.toList ds gs before) (hL : laidMetH Tryz.prog Rows.ledgerFullRow.laid W) :
    Calls Tryz.prog 9 args W fun e W' => ∃ v, e = .returned v ∧ Rows.ledgerFullSpec.post enc Tryz.prog Tryz.f9 false true false false W args v W' := by
  have hW' := hW
  have hlt : ∀ p ∈ before, p.block < W.heap.size := fun p hp => hW.lt p hp
  obtain ⟨p, q, hA0, hV, rfl, hfz, hnd⟩ := hW
  have hA : DataW.TrodAll enc Tryz.prog W 0 (fun _ => true) true Tryz.f9.params.toList args.toList ds p := hA0
  rw [Tryz.params9] at hA hval
  obtain ⟨v0, vs0, d0, ds0, p0, q0, hargs, rfl, rfl, h0, r0⟩ := trodAll_cons hA
  obtain ⟨v1, vs1, d1, ds1, p1, q1, rfl, rfl, rfl, h1, r1⟩ := trodAll_cons r0
  obtain ⟨rfl, rfl, rfl⟩ := trodAll_nil r1
  obtain rfl : args = #[v0, v1] := by cases args; simp_all
  obtain ⟨rfl, rfl⟩ := trodVars_none hV
  obtain ⟨n0, rfl, _, _, wf0⟩ := open_int Ty.un_3 (hval 0 3 v0 rfl rfl) h0
  obtain ⟨x1, hx1⟩ : ∃ x, RdOp18 W TT v1.cells.toList x := by obtain ⟨fuel, hf⟩ := h1; exact o_op18 fuel _ _ hf
  have e1 := agg_of_len (n := 6) (by obtain ⟨_, _, _, hce, _⟩ := hx1; rw [hce]; rfl) (by decide)
  obtain ⟨oa1, on1, oc1, hce1, _⟩ := hx1
  rw [hce1] at e1
  have hL' : laidMet Tryz.prog Rows.ledgerFullRow.laid W := hL
  obtain ⟨ea, hN⟩ := laid_nerr (r := [("quorate/hash.constants", Rows.laid_quorate_hash_constants)]) (show laidMet Tryz.prog (errNames.map errRow ++ [("quorate/hash.constants", Rows.laid_quorate_hash_constants)]) W from hL')
  have hK := laid_kr hL'.tail.tail.tail.tail.tail.tail.tail.tail.tail.tail.tail.tail.tail.tail.tail.tail.tail.tail
  have walk := ledgerFull_ok (a := n0) (ok := x1.kind) (ord := x1.round) (ov := x1.votes) (os := x1.spoil) (tx := x1.tx) (ao := oa1) (no := on1) (co := oc1) no_res hN hK
  rw [← e1] at walk
  refine Calls.mono (show Calls Tryz.prog 9 #[.int .i64 n0, v1] W _ from walk) fun e W' ⟨_, he, hs⟩ => ?_
  subst he
  have bel := below_of hs
  have eF : Rows.ledgerFullSpec.fn H ([d0, d1] ++ []) = { results := [.lit (.bool true)], args := [d0, d1] } := rfl
  have l0 : ∀ z ∈ p0, z.block < W.heap.size := fun z hz => hlt z (by simp [hz])
  have l1 : ∀ z ∈ p1, z.block < W.heap.size := fun z hz => hlt z (by simp [hz])
  refine ⟨_, rfl, _, _, _, [], p0 ++ (p1 ++ ([])), [], hW', ?_, ?_, ?_, bel.frame _, fun h => by cases h⟩
  · rw [eF]; exact trodAll_cons_mk (shut_bool Tryz.underlying4 _) trodAll_mk0
  · rw [eF, Tryz.params9]
    exact trodAll_cons_mk (Below.trod laidOut (by kernel_rfl) (of_decide_eq_true (by kernel_rfl)) h0 bel l0) (trodAll_cons_mk (Below.trod laidOut (by kernel_rfl) (of_decide_eq_true (by kernel_rfl)) h1 bel l1) (trodAll_mk0))
  · rw [eF]; rfl

set_option maxRecDepth 100000 in
theorem ledgerFull_lifted (os : Os) (started : os.Started) (H : Type) (enc : TypeId × Value → H) (F : Stop.Interp) :
    ReturnsInHanded {} Tryz.checked os 9 .any ((OpenSpec.ofChange Rows.ledgerFullSpec).preRow enc Tryz.prog Tryz.f9 Rows.ledgerFullRow.domain false Rows.ledgerFullRow.laid) (((OpenSpec.ofChange Rows.ledgerFullSpec).at F).post enc Tryz.prog Tryz.f9 false true false false) := by
  obtain ⟨places, hx⟩ := ledgerFull_reads os enc
  refine returnsInHanded_of_row (C := Tryz.checked) (s := OpenSpec.ofChange Rows.ledgerFullSpec) own started (by kernel_rfl) Tryz.func9
    (witness_row_atRef (enc := enc) (C := Tryz.checked) false (ledgerFull_world os) ledgerFull_args rfl (by kernel_rfl) (by kernel_rfl) (by kernel_rfl)
      (OpenSpec.preRow_of_cond 8 hx (by kernel_rfl) (fun k hk => by cases hk) (by kernel_rfl) (ledgerFull_laid os _))) ?_
  intro W base args ds gs before hval hW _ _ _ hL _ _
  exact ledgerFull_contract H enc W base args ds gs before hval hW hL

theorem and_tt {a b : Bool} (h : a = true) (k : b = true) : (a && b) = true := by rw [h, k]; rfl
theorem ledgerFull_k0 : (Rows.ledgerFullRow.wf (OpenSpec.ofChange (OpenSpec.ofChange Rows.ledgerFullSpec).bare)) = true := by kernel_rfl
theorem ledgerFull_k1 : (laidOutB Tryz.pinned.checked.prog) = true := by kernel_rfl
theorem ledgerFull_k2 : (mapsRowed Tryz.pinned.checked.prog) = true := by kernel_rfl
theorem ledgerFull_k3 : (Tryz.f9.params.all (Tryz.pinned.checked.prog.readableRec ·)) = true := by kernel_rfl
theorem ledgerFull_k4 : (namedTie Tryz.pinned.checked.prog Rows.ledgerFullRow.named (OpenSpec.ofChange Rows.ledgerFullSpec).bare.vars) = true := by kernel_rfl
theorem ledgerFull_k5 : ((Rows.ledgerFullRow.stops == [])) = true := by kernel_rfl
theorem ledgerFull_k6 : ((Tryz.pinned.checked.prog.stops == [])) = true := by kernel_rfl
theorem ledgerFull_k7 : ((Rows.ledgerFullRow.knobs == [])) = true := by kernel_rfl
theorem ledgerFull_k8 : ((Tryz.pinned.checked.prog.stopKnobs == [])) = true := by kernel_rfl
theorem ledgerFull_k9 : ((Rows.ledgerFullRow.inPlace == Tryz.pinned.checked.prog.inPlace 9)) = true := by kernel_rfl
theorem ledgerFull_k10 : ((Rows.ledgerFullRow.unfollowed == Tryz.pinned.checked.prog.unfollowed 9)) = true := by kernel_rfl
theorem ledgerFull_k11 : ((Rows.ledgerFullRow.recurses == Tryz.pinned.checked.prog.recurses 9)) = true := by kernel_rfl
theorem ledgerFull_k12 : ((Rows.ledgerFullRow.named == Tryz.pinned.checked.prog.varsNamed 9)) = true := by kernel_rfl
theorem ledgerFull_k13 : ((Rows.ledgerFullRow.maps == (Tryz.f9.params.toList ++ (OpenSpec.ofChange Rows.ledgerFullSpec).bare.plain.varTypes Tryz.pinned.checked.prog).any (Tryz.pinned.checked.prog.mapsRec ·))) = true := by kernel_rfl
theorem ledgerFull_k14 : ((Rows.ledgerFullRow.ifaces == (Tryz.f9.params.toList ++ (OpenSpec.ofChange Rows.ledgerFullSpec).bare.plain.varTypes Tryz.pinned.checked.prog).any (Tryz.pinned.checked.prog.ifacesRec ·))) = true := by kernel_rfl
theorem ledgerFull_k15 : ((Rows.ledgerFullRow.mapsOut == Tryz.pinned.checked.prog.mapsAmong Tryz.f9.resultTypes.toList)) = true := by kernel_rfl
theorem ledgerFull_k16 : ((Rows.ledgerFullRow.loops == (Tryz.f9.params.toList ++ (OpenSpec.ofChange Rows.ledgerFullSpec).bare.plain.varTypes Tryz.pinned.checked.prog).any (Tryz.pinned.checked.prog.loopsFrom ·))) = true := by kernel_rfl
theorem ledgerFull_k17 : ((Rows.ledgerFullRow.wideKeys == (Tryz.f9.params.toList ++ (OpenSpec.ofChange Rows.ledgerFullSpec).bare.plain.varTypes Tryz.pinned.checked.prog ++ Tryz.f9.resultTypes.toList).any (Tryz.pinned.checked.prog.wideKeysFrom ·))) = true := by kernel_rfl
theorem ledgerFull_k18 : ((OpenSpec.ofChange Rows.ledgerFullSpec).bare.vars.all (Tryz.pinned.checked.prog.varReadable ·)) = true := by kernel_rfl
theorem ledgerFull_k19 : (Tryz.f9.resultTypes.all (fun t => Tryz.pinned.checked.prog.readableRec t && decide (t < Tryz.pinned.checked.prog.types.size))) = true := by kernel_rfl
theorem ledgerFull_k20 : ((Rows.ledgerFullRow.ifacesOut == Tryz.f9.resultTypes.toList.any (Tryz.pinned.checked.prog.ifacesRec ·))) = true := by kernel_rfl
theorem ledgerFull_k21 : ((Rows.ledgerFullRow.loopsOut == Tryz.f9.resultTypes.toList.any (Tryz.pinned.checked.prog.loopsFrom ·))) = true := by kernel_rfl
theorem ledgerFull_k22 : ((Rows.ledgerFullRow.plainKeys == Tryz.pinned.checked.prog.plainKeys)) = true := by kernel_rfl
theorem ledgerFull_k23 : (Rows.ledgerFullRow.shortTexts.isNone) = true := by kernel_rfl
theorem ledgerFull_k24 : (Tryz.pinned.checked.prog.stopsHeard) = true := by kernel_rfl
theorem ledgerFull_k25 : (Tryz.pinned.checked.prog.mayEnter) = true := by kernel_rfl
theorem ledgerFull_k26 : ((Rows.ledgerFullRow.lifted == Tryz.pinned.checked.prog.liftsFinal)) = true := by kernel_rfl
theorem ledgerFull_k27 : ((Tryz.pinned.checked.prog.make == some Rows.ledgerFullRow.make)) = true := by kernel_rfl
theorem ledgerFull_k28 : ((Rows.ledgerFullRow.kinds == (if Rows.ledgerFullRow.domain.isEmpty then [] else Tryz.f9.params.toList.map fun t => match Tryz.pinned.checked.prog.underlying t with | some (.int k) => some k | _ => none))) = true := by kernel_rfl
theorem ledgerFull_k29 : ((Rows.ledgerFullRow.pinned == Rows.ledgerFullRow.pinnedBy)) = true := by kernel_rfl
theorem ledgerFull_k30 : ((Rows.ledgerFullRow.veiled == (Tryz.f9.params.toList ++ (OpenSpec.ofChange Rows.ledgerFullSpec).bare.plain.varTypes Tryz.pinned.checked.prog ++ Tryz.f9.resultTypes.toList).any (Tryz.pinned.checked.prog.veiledRec ·))) = true := by kernel_rfl
theorem ledgerFull_k31 : (Rows.ledgerFullRow.veiledFits Tryz.pinned.checked.prog Tryz.f9.params.toList (Tryz.f9.params.toList ++ (OpenSpec.ofChange Rows.ledgerFullSpec).bare.plain.varTypes Tryz.pinned.checked.prog ++ Tryz.f9.resultTypes.toList)) = true := by kernel_rfl
set_option maxRecDepth 100000 in
theorem ledgerFull_facts : joinedFacts Tryz.pinned.checked.prog 9 Tryz.f9 (OpenSpec.ofChange Rows.ledgerFullSpec).bare Rows.ledgerFullRow = true := (and_tt (and_tt (and_tt (and_tt (and_tt (and_tt (and_tt (and_tt (and_tt (and_tt (and_tt (and_tt (and_tt (and_tt (and_tt (and_tt (and_tt (and_tt (and_tt (and_tt (and_tt (and_tt (and_tt (and_tt (and_tt (and_tt (and_tt (and_tt (and_tt (and_tt (and_tt ledgerFull_k0 ledgerFull_k1) ledgerFull_k2) ledgerFull_k3) ledgerFull_k4) ledgerFull_k5) ledgerFull_k6) ledgerFull_k7) ledgerFull_k8) ledgerFull_k9) ledgerFull_k10) ledgerFull_k11) ledgerFull_k12) ledgerFull_k13) ledgerFull_k14) ledgerFull_k15) ledgerFull_k16) ledgerFull_k17) ledgerFull_k18) ledgerFull_k19) ledgerFull_k20) ledgerFull_k21) ledgerFull_k22) ledgerFull_k23) ledgerFull_k24) ledgerFull_k25) ledgerFull_k26) ledgerFull_k27) ledgerFull_k28) ledgerFull_k29) ledgerFull_k30) ledgerFull_k31)
theorem ledgerFull_said : Rows.LedgerFullSaid :=
  OpenClaim.holds_of_cond 9 Tryz.f9 rfl rfl rfl rfl rfl rfl rfl ⟨rfl, rfl, rfl, rfl, rfl⟩ rfl rfl rfl rfl rfl (by kernel_rfl) Tryz.func9 ledgerFull_facts
    (of_decide_eq_true (by kernel_rfl)) (by unfold Func.isWrapper; first | (rw [if_pos (by decide +kernel)]; kernel_rfl) | (rw [if_neg (by decide +kernel)]; exact ⟨rfl, rfl⟩))
    (fun os started H enc _ F => by rw [OpenClaim.pre_eq_preRow]; exact ledgerFull_lifted os started H enc F)
theorem ledgerFull_plain (f : FuncId) (fn : Func) (hf : Tryz.pinned.checked.prog.funcNamed "quorate/quoratelaw18.LedgerFull" = some f) (hfn : Tryz.pinned.checked.prog.funcs[f]? = some fn) :
    true = Tryz.pinned.checked.prog.looks [] ∧ ∀ (j : Nat) t, fn.params[j]? = some t → Tryz.pinned.checked.prog.wantsStandIn t = false := by
  obtain rfl : f = 9 := Option.some.inj ((show Tryz.prog.funcNamed "quorate/quoratelaw18.LedgerFull" = some 9 by kernel_rfl).symm.trans hf) |>.symm
  obtain rfl : fn = Tryz.f9 := (Option.some.inj (Tryz.func9.symm.trans hfn)).symm
  refine ⟨by kernel_rfl, fun j t ht => ?_⟩
  rw [Tryz.params9] at ht
  have hm := Array.mem_of_getElem? ht
  have h : t = 3 ∨ t = 90 := by simpa using hm
  rcases h with rfl | rfl
  · exact (show Tryz.prog.wantsStandIn 3 = false by kernel_rfl)
  · exact (show Tryz.prog.wantsStandIn 90 = false by kernel_rfl)
theorem ledgerFull_holds : Rows.LedgerFullCardSaid :=
  Claim7.holds_tied_plain_at .later [] _ _ _ _ ledgerFull_said (fun _ h => by cases h) (by kernel_rfl) (fun _ h => by cases h) ledgerFull_row_tie rfl ⟨rfl, rfl⟩ (by kernel_rfl) rfl ledgerFull_plain (by kernel_rfl)
#print axioms ledgerFull_holds
end Go.Proofs.YtobjojeliibinaaGreatDoor

