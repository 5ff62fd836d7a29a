/- Part 5. What is proved: see the last part: for every input the law returns true, and the input reads as it did. -/
import Derived.Test.YtggjlkheniombaaGreatDoorCv4
import Derived.Test.YtggjlkheniombaaGreatDoorCards
import Derived.Test.YtggjlkheniombaaGreatDoorTie
import Derived.Deep.DeepHandedRow
import Derived.Deep.DeepWitnessRowRef
namespace Go.Proofs.YtggjlkheniombaaGreatDoor
open Go
set_option linter.unusedVariables false
set_option linter.unusedSimpArgs false
set_option linter.unusedSectionVars false
set_option maxHeartbeats 400000
section
def sV (n : Nat) : VSt := ⟨1, n, 0, 0, n⟩
theorem sV_ok {n : Nat} (h : n ≤ 32) : (sV n).ok = true := VSt.okM (by simp only [sV]; omega)
def fL : Nat → Nat → Sec
  | 0 => fE1 1
  | i + 1 => if i < 32 then gF (fL i) (i + 1) (sV (i + 1)) else fL i
theorem lvs_vote {i n : Nat} (hn : n = min i 32) (hi : i < 100) : voteV (sV n) 1 ((i + 1 : Nat) : Int) (i : Int) 0 = if i < 32 then (sV (i + 1), 0) else (sV n, 5) := by
  have hb : beginV (sV n) 1 ((i + 1 : Nat) : Int) = 0 := by
    rw [beginV, if_pos (sV_ok (by omega)), if_pos (show (1 : Int) = (sV n).e from rfl), if_neg (by omega)]
  rw [voteV, if_pos hb, if_neg (by omega), if_neg (by simp only [sV]; omega), if_neg (by simp only [sV]; omega)]
  by_cases h : i < 32
  · have : n = i := by omega
    subst this
    rw [if_neg (by simp only [sV]; omega), if_pos h, if_pos (by omega)]
    simp [sV]
  · rw [if_pos (by simp only [sV]; omega), if_neg h]
theorem lvs_late {i n : Nat} (hn : n = min i 32) (hi : i < 100) : lateG (sV n) 1 ((i + 1 : Nat) : Int) (i : Int) = if i < 32 then (sV (i + 1), 0) else (sV n, 5) := by
  have hb : beginV (sV n) 1 ((i + 1 : Nat) : Int) = 0 := by
    rw [beginV, if_pos (sV_ok (by omega)), if_pos (show (1 : Int) = (sV n).e from rfl), if_neg (by omega)]
  have hl : lateV (sV n) 1 ((i + 1 : Nat) : Int) = if i < 32 then (sV (i + 1), 0) else (sV n, 5) := by
    rw [lateV, if_pos hb]
    by_cases h : i < 32
    · have : n = i := by omega
      subst this
      rw [if_neg (by simp only [sV]; omega), if_pos h]
      simp only [sV, Prod.mk.injEq, VSt.mk.injEq, and_true, true_and]
      omega
    · rw [if_pos (by simp only [sV]; omega), if_neg h]
  by_cases h : i < 32
  · rw [if_pos h] at hl
    rw [lateG_0 (by rw [hl]) (by omega), hl, if_pos h]
  · rw [if_neg h] at hl
    rw [lateG_e1 (by rw [hl]; show ¬ (5 : Nat) = 0; decide), hl, if_neg h]
theorem lvs_step {i n : Nat} {r : VSt × Nat} (hn : n = min i 32) (hi : i < 100) (hr : r = if i < 32 then (sV (i + 1), 0) else (sV n, 5)) :
    gstep (dZ (fL i)) ⟨0, n + 1, bytV (sV n)⟩ (sV n) r = (if i < 32 then 0 else 5, dZ (fL (i + 1)), ⟨0, min (i + 1) 32 + 1, bytV (sV (min (i + 1) 32))⟩, sV (min (i + 1) 32)) := by
  by_cases h : i < 32
  · have e1 : n = i := by omega
    have e2 : min (i + 1) 32 = i + 1 := by omega
    subst e1
    rw [if_pos h] at hr
    rw [gstep_T hr (sV_ok (by omega)) (by omega), e2, fL, if_pos h, if_pos h]
  · have e1 : n = 32 := by omega
    have e2 : min (i + 1) 32 = 32 := by omega
    subst e1
    rw [if_neg h] at hr
    rw [gstep_N hr (by decide), e2, fL, if_neg h, if_neg h]
attribute [local irreducible] Gl Gc Gx Gs Runs Wt
theorem guardLeaves_ok {w : World} {F : Nat → Prop} {seed : Dig} {al : Option Addr} {nl cl : Nat} {xs : List Bool} (h : stars [] w F) {ea : Nat → Addr} (hN : NErr w (fun k => ¬ F k) ea) (hK : KR w (fun k => ¬ F k)) (hl : RdRow w (fun k => ¬ F k) 1 al nl (xs.map Value.bool)) :
    Calls Tryz.prog 5 #[.agg (dc seed).toArray, .slice al nl cl] w (Post w F (fun _ : Unit => .bool true) (fun _ => [])) := by
 have hE := hN.g
 refine g_enter (env := [(0, .agg (dc seed).toArray), (1, .slice al nl cl)]) Tryz.func5 rfl h Tryz.ntmps5 rfl rfl ?_; refine gsr (zbN fun b2 => ?_); refine zxa ?_; refine gnt (gc_seq (gsr (zc (fun _ => ?_) (c := fun w1 F1 F2 h1 h2 hd hst => alive14_ok h1 (hN.mv hst.still) (hK.mv hst.still)))))
 refine gp (r_bool (c := false) znt (rfl)) ?_; refine gnt (gc_condF rfl rfl ?_); refine gc_skip (gx_then (gc_seq (gsr (zxm ?_)))); refine gp zln ?_; refine gp zgt ?_; refine gnt (gif rfl (fun hc15 => ?_) (fun hc15 => ?_))
 ·refine gsr (zxa ?_); refine gnt (gc_ret (gx_then_ret (gx_ret1 rfl (by conv => lhs; whnf) ?_))); exact ze ()
 ·try simp only at hc15
  have hn100 : nl ≤ 100 := by omega
  refine gc_skip (gx_then (gsr (gp zL ?_))); refine zc (fun x => ?_) (c := fun w1 F1 F2 h1 h2 hd hst => begin14_ok (seed := seed) (e := 1) h1 (by decide) (hE.mv hst.still) (hK.mv hst.still))
  refine zxm ?_; refine gp zex ?_; refine gp zex ?_; refine zxa ?_; refine zxa ?_; refine gnt (gc_seq (gsr (zxm ?_))); refine gp (r_bool (c := false) znt (rfl)) ?_; refine gnt (gc_condF rfl rfl ?_); refine gc_skip (gx_then (gsr (zxa ?_))); refine gnt (gc_seq (gsr (zxm ?_))); refine gp zln ?_; refine zxm ?_; refine gnt (gc_block (gc_loop (α := Nat × Nat) (fun y => [pureR (y.1 ≤ nl ∧ y.2 = min y.1 32), GdR x.g x.qk x.qs x.gd (sV y.2) ⟨0, y.2 + 1, bytV (sV y.2)⟩, DiskR x.gd (dZ (fL y.1)), KeyR x.qk seed, blk x.p 59 (plC x (sE 1) (.slice none 0 0) (.slice none 0 0)), blk b2 32 (dc seed)]) (fun y => [(25, .int .i64 (y.1 : Int)), (7, .int .i64 (y.2 : Int))]) [4, 8, 9, 10, 26, 27, 28, 29, 30, 31, 32, 33, 34, 35, 36, 37, 38, 39, 40, 41, 42, 43, 44, 45, 46, 47, 48, 49, 50, 51, 52, 53, 54, 55, 56, 57, 58, 59, 60, 61, 62, 63] (fun y => nl - y.1) (0, 0) ?_ ?_ ?_))
  ·refine env_start (by kernel_rfl)
  ·exact zlp ⟨Nat.zero_le _, rfl⟩
  ·intro y u; obtain ⟨i, n⟩ := y; refine gc_pureR (fun hk => ?_)
   obtain ⟨hk, hn⟩ := hk; replace hk : i ≤ nl := hk
   replace hn : n = min i 32 := hn
   refine gsr (gp zlt ?_); refine gnt (gc_seq (gif rfl (fun hc26 => ?_) (fun hc26 => ?_)))
   ·try simp only at hc26
    have hk' : i < nl := by omega
    obtain ⟨ga, oa, ha, hA, hce⟩ := rd_bool hl hk'; subst ha; refine gc_skip (gx_then (gc_seq (gc_block (gsr (zxm ?_))))); refine gp (r_val (v' := .pointer (some ⟨ga, oa + i, none⟩)) zia (by simp)) ?_; refine gp (r_ld1o rfl Ty.row_4 hce hA) ?_; refine zxa ?_; refine zxa ?_; refine zxs ?_; refine zxa ?_; refine gnt (gc_join (α := Unit) (fun z => [GdR x.g x.qk x.qs x.gd (sV (min (i + 1) 32)) ⟨0, (min (i + 1) 32) + 1, bytV (sV (min (i + 1) 32))⟩, DiskR x.gd (dZ (fL (i + 1))), KeyR x.qk seed, blk x.p 59 (plC x (sE 1) (.slice none 0 0) (.slice none 0 0)), blk b2 32 (dc seed)]) (fun z => [(10, eV 241 ea (if i < 32 then 0 else 5))]) [30, 31, 32, 33, 34, 35, 36, 37, 38, 39, 40, 41, 42, 43, 44, 45, 46, 47, 48, 49, 50, 51, 52, 53] ?_ ?_)
    ·refine gsr (zxm ?_); refine gnt (gif rfl (fun hc30 => ?_) (fun hc30 => ?_))
     ·refine gc_regionZ 12 ([blk x.p 59 (plC x (sE 1) (.slice none 0 0) (.slice none 0 0)), blk b2 32 (dc seed)]) ?_; refine yps 0 rfl zmv ?_; refine yps 1 rfl znc ?_; refine yps 2 rfl zfa ?_; refine yps 3 rfl zl ?_; refine yps 4 rfl zmv ?_; refine yps 5 rfl (r_int (j := ((i + 1 : Nat) : Int)) zad (by omega)) ?_; refine yps 6 rfl zmv ?_; refine yps 7 rfl zL ?_; refine yos 8 rfl ?_; refine zc (fun x40 => ?_) (c := fun w1 F1 F2 h1 h2 hd hst => gvote_S (D := seed) (seed := seed) (e := 1) (r := ((i + 1 : Nat) : Int)) (q := (i : Int)) (gr := 0) (lvs_step hn (by omega) (lvs_vote hn (by omega))) h1 (sV_ok (by omega)) (dZ_ok _) nat0 (by simp only; omega) (hE.mv hst.still) (hK.mv hst.still))
      refine yxs ?_; refine yps 9 rfl zmv ?_; refine yps 10 rfl zex ?_; refine yps 11 rfl zex ?_; refine yzs rfl ?_; refine zxa ?_; refine gl_nil (zjn (()) ?_)
      ·exact zsel
     ·refine gc_region (zxm ?_); refine gp znc ?_; refine gp zfa ?_; refine gp zl ?_; refine zxm ?_; refine gp (r_int (j := ((i + 1 : Nat) : Int)) zad (by omega)) ?_; refine zxm ?_; refine zc (fun x51 => ?_) (c := fun w1 F1 F2 h1 h2 hd hst => glate_S (seed := seed) (e := 1) (r := ((i + 1 : Nat) : Int)) (hi := (i : Int)) (lvs_step hn (by omega) (lvs_late hn (by omega))) h1 (sV_ok (by omega)) (dZ_ok _) nat0 (by simp only; omega) (hE.mv hst.still) (hK.mv hst.still))
      refine zxm ?_; refine gp zex ?_; refine gp zex ?_; refine zxa ?_; refine gl_nil (zjn (()) ?_)
      ·exact zsel
    ·intro z u; refine gc_seq (gc_seq ?_); by_cases h32 : i < 32
     ·refine gc_region (zxm ?_); refine gp (r_bool (c := false) zei (decide_eq_false (by omega))) ?_; refine gnt (gc_condF rfl rfl ?_); refine gc_skip (gx_then (gc_seq (gsr (zxm ?_)))); refine gp (r_bool (c := false) (r_nenil (k := if i < 32 then 0 else 5) rfl (by kernel_rfl)) (by simp [h32])) ?_; refine gnt (gc_condF rfl rfl ?_); refine gc_skip (gx_then (gc_region (zxm ?_))); refine gp (r_int (j := ((n + 1 : Nat) : Int)) zad (by omega)) ?_; refine zxa ?_; refine gl_nil (gx_block_normal (gx_then (gc_region (gp zad ?_)))); refine zxm ?_; refine gl_nil (zrd ((i + 1, n + 1)) ?_ ?_)
      ·show nl - (i + 1) < nl - i
       omega
      ·intro w' hw; have e : min (i + 1) 32 = n + 1 := by omega
       rw [e] at hw; exact St.pureI (show i + 1 ≤ nl ∧ n + 1 = min (i + 1) 32 from ⟨by omega, e.symm⟩) (hw.sel (M := [GdR x.g x.qk x.qs x.gd (sV (n + 1)) ⟨0, (n + 1) + 1, bytV (sV (n + 1))⟩, DiskR x.gd (dZ (fL (i + 1))), KeyR x.qk seed, blk x.p 59 (plC x (sE 1) (.slice none 0 0) (.slice none 0 0)), blk b2 32 (dc seed)]) (by repeat (first | exact Sel.nil | (apply Sel.cons; · (repeat (first | exact Pick.here | apply Pick.there))))))
     ·refine gc_region (zxm ?_); refine gp (r_bool (c := true) zei (decide_eq_true (by omega))) ?_; refine gnt (gc_condT rfl rfl ?_); refine gc_seq (gsr (zxm ?_)); refine zc (fun _ => ?_) (c := fun w1 F1 F2 h1 h2 hd hst => errNum_ok (n := if i < 32 then 0 else 5) h1 (hN.mv hst.still) (by split <;> decide))
      refine gp (r_bool (c := false) zni (by simp [h32])) ?_; refine gnt (gc_condF rfl rfl ?_); refine gc_skip (gx_then (gc_exit ?_)); refine gx_then_exit ?_; refine gx_block_hit ?_; refine gx_then (gc_region (gp zad ?_)); refine zxm ?_; refine gl_nil (zrd ((i + 1, n)) ?_ ?_)
      ·show nl - (i + 1) < nl - i
       omega
      ·intro w' hw; have e : min (i + 1) 32 = n := by omega
       rw [e] at hw; exact St.pureI (show i + 1 ≤ nl ∧ n = min (i + 1) 32 from ⟨by omega, e.symm⟩) (hw.sel (M := [GdR x.g x.qk x.qs x.gd (sV (n)) ⟨0, (n) + 1, bytV (sV (n))⟩, DiskR x.gd (dZ (fL (i + 1))), KeyR x.qk seed, blk x.p 59 (plC x (sE 1) (.slice none 0 0) (.slice none 0 0)), blk b2 32 (dc seed)]) (by repeat (first | exact Sel.nil | (apply Sel.cons; · (repeat (first | exact Pick.here | apply Pick.there))))))
   ·refine gc_exit ?_; refine gx_then_exit ?_; refine gx_round_exit ?_; refine gx_block_hit ?_; refine gx_then (gsr (zxm ?_)); refine gp znc ?_; refine gp zfa ?_; refine gp zl ?_; refine zc (fun _ => ?_) (c := fun w1 F1 F2 h1 h2 hd hst => gstate_ok (d := dZ fun _ => sec0) h1)
    refine gp (r_field1 (cs := stC (sV n)) rfl (k := 4) (by kernel_rfl) Ty.row_3 rfl) ?_; refine zxm ?_; refine gp (r_bool (c := true) zei (decide_eq_true rfl)) ?_; refine zxa ?_; refine gnt (gc_ret (gx_ret1 rfl (by conv => lhs; whnf) ?_)); exact ze ()
end
section
open Go.ChangeShapes Go.WideShapes Go.ChangeAt Go.RowKit
noncomputable def guardLeaves_world (os : Os) : World :=
  let w0 := World.holding Tryz.prog os ⟨#[.cells #[.string ⟨#[113, 117, 111, 114, 97, 116, 101, 58, 32, 114, 97, 110, 103, 101]⟩] 266, .cells #[.string ⟨#[113, 117, 111, 114, 97, 116, 101, 58, 32, 115, 104, 111, 114, 116]⟩] 266, .cells #[.string ⟨#[113, 117, 111, 114, 97, 116, 101, 58, 32, 108, 111, 110, 103]⟩] 266, .cells #[.string ⟨#[113, 117, 111, 114, 97, 116, 101, 58, 32, 102, 111, 114, 109]⟩] 266, .cells #[.string ⟨#[113, 117, 111, 114, 97, 116, 101, 58, 32, 115, 112, 101, 110, 116]⟩] 266, .cells #[.string ⟨#[113, 117, 111, 114, 97, 116, 101, 58, 32, 112, 111, 119, 101, 114]⟩] 266, .cells #[.string ⟨#[113, 117, 111, 114, 97, 116, 101, 58, 32, 100, 105, 115, 107]⟩] 266, .cells #[.string ⟨#[113, 117, 111, 114, 97, 116, 101, 58, 32, 102, 117, 108, 108]⟩] 266, .cells #[.string ⟨#[113, 117, 111, 114, 97, 116, 101, 58, 32, 110, 111, 110, 101]⟩] 266, .cells #[.string ⟨#[113, 117, 111, 114, 97, 116, 101, 58, 32, 111, 108, 100]⟩] 266, .cells #[.string ⟨#[113, 117, 111, 114, 97, 116, 101, 58, 32, 115, 101, 116]⟩] 266, .cells #[.string ⟨#[113, 117, 111, 114, 97, 116, 101, 58, 32, 112, 114, 111, 111, 102]⟩] 266, .cells #[.string ⟨#[113, 117, 111, 114, 97, 116, 101, 58, 32, 108, 101, 97, 100, 101, 114]⟩] 266, .cells #[.string ⟨#[113, 117, 111, 114, 97, 116, 101, 58, 32, 114, 111, 117, 110, 100]⟩] 266, .cells #[.string ⟨#[113, 117, 111, 114, 97, 116, 101, 58, 32, 117, 110, 115, 97, 102, 101]⟩] 266, .cells #[.string ⟨#[113, 117, 111, 114, 97, 116, 101, 58, 32, 112, 97, 114, 101, 110, 116]⟩] 266, .cells #[.string ⟨#[113, 117, 111, 114, 97, 116, 101, 58, 32, 116, 119, 105, 99, 101]⟩] 266, .cells #[.string ⟨#[113, 117, 111, 114, 97, 116, 101, 58, 32, 101, 112, 111, 99, 104]⟩] 266], #[], []⟩
  { w0 with heap := ((((((((((((((((((w0.heap.modify 0 fun
      | .cells _ t fz => .cells #[.iface 241 (.pointer (some ⟨lowB + 0, 0, none⟩))] t fz
      | o => o).modify 2 fun
      | .cells _ t fz => .cells #[.iface 241 (.pointer (some ⟨lowB + 1, 0, none⟩))] t fz
      | o => o).modify 3 fun
      | .cells _ t fz => .cells #[.iface 241 (.pointer (some ⟨lowB + 2, 0, none⟩))] t fz
      | o => o).modify 4 fun
      | .cells _ t fz => .cells #[.iface 241 (.pointer (some ⟨lowB + 3, 0, none⟩))] t fz
      | o => o).modify 5 fun
      | .cells _ t fz => .cells #[.iface 241 (.pointer (some ⟨lowB + 4, 0, none⟩))] t fz
      | o => o).modify 6 fun
      | .cells _ t fz => .cells #[.iface 241 (.pointer (some ⟨lowB + 5, 0, none⟩))] t fz
      | o => o).modify 1 fun
      | .cells _ t fz => .cells #[.iface 241 (.pointer (some ⟨lowB + 6, 0, none⟩))] t fz
      | o => o).modify 7 fun
      | .cells _ t fz => .cells #[.iface 241 (.pointer (some ⟨lowB + 7, 0, none⟩))] t fz
      | o => o).modify 8 fun
      | .cells _ t fz => .cells #[.iface 241 (.pointer (some ⟨lowB + 8, 0, none⟩))] t fz
      | o => o).modify 9 fun
      | .cells _ t fz => .cells #[.iface 241 (.pointer (some ⟨lowB + 9, 0, none⟩))] t fz
      | o => o).modify 10 fun
      | .cells _ t fz => .cells #[.iface 241 (.pointer (some ⟨lowB + 10, 0, none⟩))] t fz
      | o => o).modify 11 fun
      | .cells _ t fz => .cells #[.iface 241 (.pointer (some ⟨lowB + 11, 0, none⟩))] t fz
      | o => o).modify 12 fun
      | .cells _ t fz => .cells #[.iface 241 (.pointer (some ⟨lowB + 12, 0, none⟩))] t fz
      | o => o).modify 13 fun
      | .cells _ t fz => .cells #[.iface 241 (.pointer (some ⟨lowB + 13, 0, none⟩))] t fz
      | o => o).modify 14 fun
      | .cells _ t fz => .cells #[.iface 241 (.pointer (some ⟨lowB + 14, 0, none⟩))] t fz
      | o => o).modify 15 fun
      | .cells _ t fz => .cells #[.iface 241 (.pointer (some ⟨lowB + 15, 0, none⟩))] t fz
      | o => o).modify 16 fun
      | .cells _ t fz => .cells #[.iface 241 (.pointer (some ⟨lowB + 16, 0, none⟩))] t fz
      | o => o).modify 17 fun
      | .cells _ t fz => .cells #[.iface 241 (.pointer (some ⟨lowB + 17, 0, none⟩))] t fz
      | o => o).modify 18 fun
      | .cells _ t fz => .cells (kc.map W32).toArray t fz
      | o => o }
def guardLeaves_args : Array Value := #[.agg (dc dig0).toArray, .slice none 0 0]
theorem guardLeaves_laid (os : Os) (args : Array Value) : laidMet Tryz.prog Rows.guardLeavesRow.laid ((guardLeaves_world os).forCall (fun _ _ => 0) ⟨#[], args, []⟩).memory :=
  laidMet_of_run' 8 (by kernel_rfl) (by kernel_rfl)
theorem guardLeaves_reads (os : Os) {H : Type} (enc : TypeId × Value → H) : ∃ places, DataW.whole enc Tryz.prog ((guardLeaves_world os).forCall (fun _ _ => 0) ⟨#[], guardLeaves_args, []⟩).memory Tryz.f5.params.toList Rows.guardLeavesSpec.vars false guardLeaves_args.toList 8 = some ([digD, .nil], [], places) :=
  ⟨[], by kernel_rfl⟩
set_option maxRecDepth 20000 in
theorem guardLeaves_contract (H : Type) (enc : TypeId × Value → H) (W : World) (base : Nat) (args : Array Value) (ds gs : List (DataW H)) (before : List MemPlace)
    (hval : ∀ (j : Nat) t v, Tryz.f5.params[j]? = some t → args[j]? = some v → Value.okWide Tryz.prog W .any base t v)
    (hW : DataW.Whole enc Tryz.prog Tryz.f5.params.toList Rows.guardLeavesSpec.vars false W args.toList ds gs before) (hL : laidMetH Tryz.prog Rows.guardLeavesRow.laid W) :
    Calls Tryz.prog 5 args W fun e W' => ∃ v, e = .returned v ∧ Rows.guardLeavesSpec.post enc Tryz.prog Tryz.f5 false true false false W args v W' := by
  have hW' := hW
  have hlt : ∀ p ∈ before, p.block < W.heap.size := fun p hp => hW.lt p hp
  obtain ⟨p, q, hA0, hV, rfl, hfz, hnd⟩ := hW
  have hA : DataW.TrodAll enc Tryz.prog W 0 (fun _ => true) true Tryz.f5.params.toList args.toList ds p := hA0
  rw [Tryz.params5] at hA hval
  obtain ⟨v0, vs0, d0, ds0, p0, q0, hargs, rfl, rfl, h0, r0⟩ := trodAll_cons hA
  obtain ⟨v1, vs1, d1, ds1, p1, q1, rfl, rfl, rfl, h1, r1⟩ := trodAll_cons r0
  obtain ⟨rfl, rfl, rfl⟩ := trodAll_nil r1
  obtain rfl : args = #[v0, v1] := by cases args; simp_all
  obtain ⟨rfl, rfl⟩ := trodVars_none hV
  obtain ⟨x0, hx0⟩ : ∃ x, RdDig v0.cells.toList x := by obtain ⟨fuel, hf⟩ := h0; exact o_dig fuel _ _ hf
  have e0 := agg_of_len (n := 16) (by rw [show v0.cells.toList = dc x0 from hx0]; exact dc_length _) (by decide)
  rw [show v0.cells.toList = dc x0 from hx0] at e0
  obtain ⟨a1, m1, c1, rfl⟩ := okWide_slice (run_sliceT Ty.sl_67) (hval 1 67 v1 rfl rfl)
  obtain ⟨x1, hx1⟩ : ∃ x, RdRowC Value.bool W TT [.slice a1 m1 c1] x := by obtain ⟨fuel, hf⟩ := h1; exact o_rbools fuel _ _ hf
  have hL' : laidMet Tryz.prog Rows.guardLeavesRow.laid W := hL
  obtain ⟨ea, hN⟩ := laid_nerr (r := [("quorate/hash.constants", Rows.laid_quorate_hash_constants)]) (show laidMet Tryz.prog (errNames.map errRow ++ [("quorate/hash.constants", Rows.laid_quorate_hash_constants)]) W from hL')
  have hK := laid_kr hL'.tail.tail.tail.tail.tail.tail.tail.tail.tail.tail.tail.tail.tail.tail.tail.tail.tail.tail
  have walk := guardLeaves_ok (seed := x0) (cl := c1) no_res hN hK (hx1.row.mv still_id)
  rw [← e0] at walk
  refine Calls.mono (show Calls Tryz.prog 5 #[v0, .slice a1 m1 c1] W _ from walk) fun e W' ⟨_, he, hs⟩ => ?_
  subst he
  have bel := below_of hs
  have eF : Rows.guardLeavesSpec.fn H ([d0, d1] ++ []) = { results := [.lit (.bool true)], args := [d0, d1] } := rfl
  have l0 : ∀ z ∈ p0, z.block < W.heap.size := fun z hz => hlt z (by simp [hz])
  have l1 : ∀ z ∈ p1, z.block < W.heap.size := fun z hz => hlt z (by simp [hz])
  refine ⟨_, rfl, _, _, _, [], p0 ++ (p1 ++ ([])), [], hW', ?_, ?_, ?_, bel.frame _, fun h => by cases h⟩
  · rw [eF]; exact trodAll_cons_mk (shut_bool Tryz.underlying4 _) trodAll_mk0
  · rw [eF, Tryz.params5]
    exact trodAll_cons_mk (Below.trod laidOut (by kernel_rfl) (of_decide_eq_true (by kernel_rfl)) h0 bel l0) (trodAll_cons_mk (Below.trod laidOut (by kernel_rfl) (of_decide_eq_true (by kernel_rfl)) h1 bel l1) (trodAll_mk0))
  · rw [eF]; rfl
set_option maxRecDepth 100000 in
theorem guardLeaves_lifted (os : Os) (started : os.Started) (H : Type) (enc : TypeId × Value → H) (F : Stop.Interp) :
    ReturnsInHanded {} Tryz.checked os 5 .any ((OpenSpec.ofChange Rows.guardLeavesSpec).preRow enc Tryz.prog Tryz.f5 Rows.guardLeavesRow.domain false Rows.guardLeavesRow.laid) (((OpenSpec.ofChange Rows.guardLeavesSpec).at F).post enc Tryz.prog Tryz.f5 false true false false) := by
  obtain ⟨places, hx⟩ := guardLeaves_reads os enc
  refine returnsInHanded_of_row (C := Tryz.checked) (s := OpenSpec.ofChange Rows.guardLeavesSpec) own started (by kernel_rfl) Tryz.func5
    (witness_row_atRef (enc := enc) (C := Tryz.checked) false (guardLeaves_world os) guardLeaves_args rfl (by kernel_rfl) (by kernel_rfl) (by kernel_rfl)
      (OpenSpec.preRow_of_cond 8 hx (by kernel_rfl) (fun k hk => by cases hk) (by kernel_rfl) (guardLeaves_laid os _))) ?_
  intro W base args ds gs before hval hW _ _ _ hL _ _
  exact guardLeaves_contract H enc W base args ds gs before hval hW hL
theorem and_tt {a b : Bool} (h : a = true) (k : b = true) : (a && b) = true := by rw [h, k]; rfl
theorem guardLeaves_k0 : (Rows.guardLeavesRow.wf (OpenSpec.ofChange (OpenSpec.ofChange Rows.guardLeavesSpec).bare)) = true := by kernel_rfl
theorem guardLeaves_k1 : (laidOutB Tryz.pinned.checked.prog) = true := by kernel_rfl
theorem guardLeaves_k2 : (mapsRowed Tryz.pinned.checked.prog) = true := by kernel_rfl
theorem guardLeaves_k3 : (Tryz.f5.params.all (Tryz.pinned.checked.prog.readableRec ·)) = true := by kernel_rfl
theorem guardLeaves_k4 : (namedTie Tryz.pinned.checked.prog Rows.guardLeavesRow.named (OpenSpec.ofChange Rows.guardLeavesSpec).bare.vars) = true := by kernel_rfl
theorem guardLeaves_k5 : ((Rows.guardLeavesRow.stops == [])) = true := by kernel_rfl
theorem guardLeaves_k6 : ((Tryz.pinned.checked.prog.stops == [])) = true := by kernel_rfl
theorem guardLeaves_k7 : ((Rows.guardLeavesRow.knobs == [])) = true := by kernel_rfl
theorem guardLeaves_k8 : ((Tryz.pinned.checked.prog.stopKnobs == [])) = true := by kernel_rfl
theorem guardLeaves_k9 : ((Rows.guardLeavesRow.inPlace == Tryz.pinned.checked.prog.inPlace 5)) = true := by kernel_rfl
theorem guardLeaves_k10 : ((Rows.guardLeavesRow.unfollowed == Tryz.pinned.checked.prog.unfollowed 5)) = true := by kernel_rfl
theorem guardLeaves_k11 : ((Rows.guardLeavesRow.recurses == Tryz.pinned.checked.prog.recurses 5)) = true := by kernel_rfl
theorem guardLeaves_k12 : ((Rows.guardLeavesRow.named == Tryz.pinned.checked.prog.varsNamed 5)) = true := by kernel_rfl
theorem guardLeaves_k13 : ((Rows.guardLeavesRow.maps == (Tryz.f5.params.toList ++ (OpenSpec.ofChange Rows.guardLeavesSpec).bare.plain.varTypes Tryz.pinned.checked.prog).any (Tryz.pinned.checked.prog.mapsRec ·))) = true := by kernel_rfl
theorem guardLeaves_k14 : ((Rows.guardLeavesRow.ifaces == (Tryz.f5.params.toList ++ (OpenSpec.ofChange Rows.guardLeavesSpec).bare.plain.varTypes Tryz.pinned.checked.prog).any (Tryz.pinned.checked.prog.ifacesRec ·))) = true := by kernel_rfl
theorem guardLeaves_k15 : ((Rows.guardLeavesRow.mapsOut == Tryz.pinned.checked.prog.mapsAmong Tryz.f5.resultTypes.toList)) = true := by kernel_rfl
theorem guardLeaves_k16 : ((Rows.guardLeavesRow.loops == (Tryz.f5.params.toList ++ (OpenSpec.ofChange Rows.guardLeavesSpec).bare.plain.varTypes Tryz.pinned.checked.prog).any (Tryz.pinned.checked.prog.loopsFrom ·))) = true := by kernel_rfl
theorem guardLeaves_k17 : ((Rows.guardLeavesRow.wideKeys == (Tryz.f5.params.toList ++ (OpenSpec.ofChange Rows.guardLeavesSpec).bare.plain.varTypes Tryz.pinned.checked.prog ++ Tryz.f5.resultTypes.toList).any (Tryz.pinned.checked.prog.wideKeysFrom ·))) = true := by kernel_rfl
theorem guardLeaves_k18 : ((OpenSpec.ofChange Rows.guardLeavesSpec).bare.vars.all (Tryz.pinned.checked.prog.varReadable ·)) = true := by kernel_rfl
theorem guardLeaves_k19 : (Tryz.f5.resultTypes.all (fun t => Tryz.pinned.checked.prog.readableRec t && decide (t < Tryz.pinned.checked.prog.types.size))) = true := by kernel_rfl
theorem guardLeaves_k20 : ((Rows.guardLeavesRow.ifacesOut == Tryz.f5.resultTypes.toList.any (Tryz.pinned.checked.prog.ifacesRec ·))) = true := by kernel_rfl
theorem guardLeaves_k21 : ((Rows.guardLeavesRow.loopsOut == Tryz.f5.resultTypes.toList.any (Tryz.pinned.checked.prog.loopsFrom ·))) = true := by kernel_rfl
theorem guardLeaves_k22 : ((Rows.guardLeavesRow.plainKeys == Tryz.pinned.checked.prog.plainKeys)) = true := by kernel_rfl
theorem guardLeaves_k23 : (Rows.guardLeavesRow.shortTexts.isNone) = true := by kernel_rfl
theorem guardLeaves_k24 : (Tryz.pinned.checked.prog.stopsHeard) = true := by kernel_rfl
theorem guardLeaves_k25 : (Tryz.pinned.checked.prog.mayEnter) = true := by kernel_rfl
theorem guardLeaves_k26 : ((Rows.guardLeavesRow.lifted == Tryz.pinned.checked.prog.liftsFinal)) = true := by kernel_rfl
theorem guardLeaves_k27 : ((Tryz.pinned.checked.prog.make == some Rows.guardLeavesRow.make)) = true := by kernel_rfl
theorem guardLeaves_k28 : ((Rows.guardLeavesRow.kinds == (if Rows.guardLeavesRow.domain.isEmpty then [] else Tryz.f5.params.toList.map fun t => match Tryz.pinned.checked.prog.underlying t with | some (.int k) => some k | _ => none))) = true := by kernel_rfl
theorem guardLeaves_k29 : ((Rows.guardLeavesRow.pinned == Rows.guardLeavesRow.pinnedBy)) = true := by kernel_rfl
theorem guardLeaves_k30 : ((Rows.guardLeavesRow.veiled == (Tryz.f5.params.toList ++ (OpenSpec.ofChange Rows.guardLeavesSpec).bare.plain.varTypes Tryz.pinned.checked.prog ++ Tryz.f5.resultTypes.toList).any (Tryz.pinned.checked.prog.veiledRec ·))) = true := by kernel_rfl
theorem guardLeaves_k31 : (Rows.guardLeavesRow.veiledFits Tryz.pinned.checked.prog Tryz.f5.params.toList (Tryz.f5.params.toList ++ (OpenSpec.ofChange Rows.guardLeavesSpec).bare.plain.varTypes Tryz.pinned.checked.prog ++ Tryz.f5.resultTypes.toList)) = true := by kernel_rfl
set_option maxRecDepth 100000 in
theorem guardLeaves_facts : joinedFacts Tryz.pinned.checked.prog 5 Tryz.f5 (OpenSpec.ofChange Rows.guardLeavesSpec).bare Rows.guardLeavesRow = true := (and_tt (and_tt (and_tt (and_tt (and_tt (and_tt (and_tt (and_tt (and_tt (and_tt (and_tt (and_tt (and_tt (and_tt (and_tt (and_tt (and_tt (and_tt (and_tt (and_tt (and_tt (and_tt (and_tt (and_tt (and_tt (and_tt (and_tt (and_tt (and_tt (and_tt (and_tt guardLeaves_k0 guardLeaves_k1) guardLeaves_k2) guardLeaves_k3) guardLeaves_k4) guardLeaves_k5) guardLeaves_k6) guardLeaves_k7) guardLeaves_k8) guardLeaves_k9) guardLeaves_k10) guardLeaves_k11) guardLeaves_k12) guardLeaves_k13) guardLeaves_k14) guardLeaves_k15) guardLeaves_k16) guardLeaves_k17) guardLeaves_k18) guardLeaves_k19) guardLeaves_k20) guardLeaves_k21) guardLeaves_k22) guardLeaves_k23) guardLeaves_k24) guardLeaves_k25) guardLeaves_k26) guardLeaves_k27) guardLeaves_k28) guardLeaves_k29) guardLeaves_k30) guardLeaves_k31)
theorem guardLeaves_said : Rows.GuardLeavesSaid :=
  OpenClaim.holds_of_cond 5 Tryz.f5 rfl rfl rfl rfl rfl rfl rfl ⟨rfl, rfl, rfl, rfl, rfl⟩ rfl rfl rfl rfl rfl (by kernel_rfl) Tryz.func5 guardLeaves_facts
    (of_decide_eq_true (by kernel_rfl)) (by unfold Func.isWrapper; first | (rw [if_pos (by decide +kernel)]; kernel_rfl) | (rw [if_neg (by decide +kernel)]; exact ⟨rfl, rfl⟩))
    (fun os started H enc _ F => by rw [OpenClaim.pre_eq_preRow]; exact guardLeaves_lifted os started H enc F)
theorem guardLeaves_plain (f : FuncId) (fn : Func) (hf : Tryz.pinned.checked.prog.funcNamed "quorate/quoratelaw14.GuardLeaves" = some f) (hfn : Tryz.pinned.checked.prog.funcs[f]? = some fn) :
    true = Tryz.pinned.checked.prog.looks [] ∧ ∀ (j : Nat) t, fn.params[j]? = some t → Tryz.pinned.checked.prog.wantsStandIn t = false := by
  obtain rfl : f = 5 := Option.some.inj ((show Tryz.prog.funcNamed "quorate/quoratelaw14.GuardLeaves" = some 5 by kernel_rfl).symm.trans hf) |>.symm
  obtain rfl : fn = Tryz.f5 := (Option.some.inj (Tryz.func5.symm.trans hfn)).symm
  refine ⟨by kernel_rfl, fun j t ht => ?_⟩
  rw [Tryz.params5] at ht
  have hm := Array.mem_of_getElem? ht
  have h : t = 32 ∨ t = 67 := by simpa using hm
  rcases h with rfl | rfl
  · exact (show Tryz.prog.wantsStandIn 32 = false by kernel_rfl)
  · exact (show Tryz.prog.wantsStandIn 67 = false by kernel_rfl)
theorem guardLeaves_holds : Rows.GuardLeavesCardSaid :=
  Claim7.holds_tied_plain_at .later [] _ _ _ _ guardLeaves_said (fun _ h => by cases h) (by kernel_rfl) (fun _ h => by cases h) guardLeaves_row_tie rfl ⟨rfl, rfl⟩ (by kernel_rfl) rfl guardLeaves_plain (by kernel_rfl)
#print axioms guardLeaves_holds
end
end Go.Proofs.YtggjlkheniombaaGreatDoor
