/- Part 7. What is proved: see the last part: for every input the law returns true, and the input reads as it did. -/
import Derived.Test.YtheonhgffglegaaGreatDoorCfp6
import Derived.Test.YtheonhgffglegaaGreatDoorCards
import Derived.Test.YtheonhgffglegaaGreatDoorTie
import Derived.Deep.DeepHandedRow
import Derived.Deep.DeepWitnessRowRef
namespace Go.Proofs.YtheonhgffglegaaGreatDoor
open Go
set_option linter.unusedVariables false
set_option linter.unusedSimpArgs false
set_option linter.unusedSectionVars false
section
theorem ask_first (k : Dig) (n : Nat) : askE19 ([], n) k = (true, ([k], n)) := by unfold askE19; rw [if_neg (by simp)]; rfl
theorem ask_twice {s : Ask19} {k : Dig} (h : k ∈ s.1) : askE19 s k = (false, s) := by unfold askE19; rw [if_pos (.inl h)]
theorem keyD_fill (u : UInt8) : fillL (fun i => some (i * 1, 1)) zD [(0, B8 u)] = some (dc (keyD u)) := by rfl
def u8i (u : UInt8) : Int := (u.toNat : Int)
theorem u8i_inj {u v : UInt8} (h : u8i u = u8i v) : u = v := by unfold u8i at h; exact UInt8.toNat_inj.1 (by omega)
theorem u8i_mem {u : UInt8} {us : List UInt8} : u8i u ∈ us.map u8i ↔ u ∈ us := ⟨fun h => by obtain ⟨v, hv, e⟩ := List.mem_map.1 h; exact u8i_inj e ▸ hv, fun h => List.mem_map.2 ⟨u, h, rfl⟩⟩
theorem keyD_mem {u : UInt8} {us : List UInt8} : keyD u ∈ us.map keyD ↔ u ∈ us := ⟨fun h => by obtain ⟨v, hv, e⟩ := List.mem_map.1 h; exact keyD_inj e ▸ hv, fun h => List.mem_map.2 ⟨u, h, rfl⟩⟩
theorem ask_us (us : List UInt8) (u : UInt8) (n : Nat) : askE19 (us.map keyD, n) (keyD u) = if u ∈ us ∨ 7 ≤ us.length then (false, (us.map keyD, n)) else (true, ((us ++ [u]).map keyD, n)) := by
  unfold askE19
  simp only [keyD_mem, List.length_map, List.map_append, List.map_cons, List.map_nil]
def tk19 (ks : List Dig) (j : Nat) : Ask19 := if j < 4 then (ks, j) else ([], 0)
theorem tk19_zero (ks : List Dig) : tk19 ks 0 = (ks, 0) := rfl
theorem tk19_succ {ks : List Dig} (h : 0 < ks.length) (j : Nat) : tickE19 (tk19 ks j) = tk19 ks (j + 1) := by
  unfold tk19
  by_cases h1 : j + 1 < 4
  · rw [if_pos (by omega), if_pos h1]; unfold tickE19; rw [if_neg (by show ¬ ks.length = 0; omega), if_neg (by show ¬ j + 1 = 4; omega)]
  · rw [if_neg h1]
    by_cases h2 : j < 4
    · rw [if_pos h2]; unfold tickE19; rw [if_neg (by show ¬ ks.length = 0; omega), if_pos (by show j + 1 = 4; omega)]
    · rw [if_neg h2]; rfl
theorem tk19_le (ks : List Dig) (j : Nat) : (tk19 ks j).2 ≤ 3 := by unfold tk19; split <;> simp <;> omega
instance : KeyT Tryz.prog 5 (Value.int .u8) := keyT_int Ty.un_5
attribute [local irreducible] Gl Gc Gx Gs Runs Wt
attribute [local irreducible] rowR blk VlR ElR dc qcC blkC mapR AskR MAskR keyD
set_option maxHeartbeats 2000000 in
theorem fetchPatience_ok {w : World} {F : Nat → Prop} {ak : Option Addr} {n ck : Nat} {ks : List UInt8} {ticks : Int} {got : Bool} {ea : Nat → Addr} {er : List Nat} [Has er 1] [Has er 2] [Has er 3] [Has er 4] [Has er 6] [Has er 8] [Has er 9] [Has er 12] [Has er 14] [Has er 16] [Has er 17] (hE : GErr er w (fun k => ¬ F k) 251 ea) (hK : KR w (fun k => ¬ F k)) (h : stars [] w F) (hx : RdRow w (fun k => ¬ F k) 1 ak n (ks.map B8)) (hck : n ≤ ck) :
    Calls Tryz.prog 7 #[.slice ak n ck, .int .i64 ticks, .bool got] w (Post w F (fun _ : Unit => .bool true) (fun _ => [])) := by
 have hn : n = ks.length := by have := hx.1; simp at this; omega
 have hmx := hx.2.1
 simp only [maxLen] at hmx
 refine g_enter (env := [(0, .slice ak n ck), (1, .int .i64 ticks), (2, .bool got)]) Tryz.func7 rfl h Tryz.ntmps7 rfl rfl ?_; refine gsr ?_; refine zxa ?_; refine gnt ?_; refine gc_seq ?_; refine gsr ?_; refine zc (fun _ => ?_) (c := fun w1 F1 F2 h1 h2 hd hst => alive19_ok (hE.mv hst.still) (hK.mv hst.still) h1)
 refine gp znt ?_; refine gnt ?_; refine gc_condF rfl rfl ?_; refine gc_skip ?_; refine gx_then ?_; refine gc_seq ?_; refine gc_seq ?_; by_cases hn1 : n < 1
 ·refine gc_region ?_; refine zxm ?_; refine gp zln ?_; refine gp (r_bool (c := true) zlt (decide_eq_true (by omega))) ?_; refine zxm ?_; refine gn ?_; refine gn ?_; refine gn ?_; refine gp zpk ?_; refine gnt ?_; refine gc_condT rfl rfl ?_; refine gsr ?_; refine zxa ?_; refine gnt ?_; refine gc_ret ?_; refine gx_then_ret ?_; refine gx_ret1 rfl (by conv => lhs; whnf) ?_; exact ze ()
 ·by_cases hn30 : 30 < n
  ·refine gc_region ?_; refine zxm ?_; refine gp zln ?_; refine gp (r_bool (c := false) zlt (decide_eq_false (by omega))) ?_; refine zxm ?_; refine gq zmv ?_; refine gq zln ?_; refine gq (r_bool (c := true) zgt (decide_eq_true (by omega))) ?_; refine gp zpk ?_; refine gnt ?_; refine gc_condT rfl rfl ?_; refine gsr ?_; refine zxa ?_; refine gnt ?_; refine gc_ret ?_; refine gx_then_ret ?_; refine gx_ret1 rfl (by conv => lhs; whnf) ?_; exact ze ()
  ·refine gc_region ?_; refine zxm ?_; refine gp zln ?_; refine gp (r_bool (c := false) zlt (decide_eq_false (by omega))) ?_; refine zxm ?_; refine gq zmv ?_; refine gq zln ?_; refine gq (r_bool (c := false) zgt (decide_eq_false (by omega))) ?_; refine gp zpk ?_; refine gnt ?_; refine gc_condF rfl rfl ?_; refine gc_skip ?_; refine gx_then ?_; refine gsr ?_; refine zc (fun a => ?_) (c := fun w1 F1 F2 h1 h2 hd hst => anew_ok h1)
   refine zxa ?_; refine gnt ?_; refine gc_seq ?_; refine gc_seq ?_; obtain ⟨ga, oa, ha, hA, _, _⟩ := hx.elem (show 0 < n by omega); subst ha; have hce : ∀ i, i < n → w.cell? ⟨ga, oa + i * 1, none⟩ = some (B8 (ks.getD i 0)) := fun i hi => by obtain ⟨g2, o2, h2, _, _, hra⟩ := hx.elem hi; cases h2; exact hra 0 _ (by simp [List.getElem?_take, List.getD, show i < ks.length by omega])
   have hce0 := hce 0 (by omega)
   obtain ⟨k0, hk0⟩ : ∃ k0, k0 = ks.getD 0 0 := ⟨_, rfl⟩; rw [← hk0] at hce0; refine gc_region ?_; refine zxm ?_; refine zxm ?_; refine gp (r_val (v' := .pointer (some ⟨ga, oa + 0 * 1, none⟩)) zia rfl) ?_; refine gp (r_ld1o rfl Ty.row_5 hce0 hA) ?_; refine gp (zba (cs := dc (keyD k0)) (hf := keyD_fill k0)) ?_; refine zc (fun _ => ?_) (c := fun w1 F1 F2 h1 h2 hd hst => aask_ok (s := ([], 0)) (k := keyD k0) h1)
   rw [ask_first]; refine gp znt ?_; refine zxm ?_; refine gq zmv ?_; refine gq zmv ?_; refine gq (r_val (v' := .pointer (some ⟨ga, oa + 0 * 1, none⟩)) zia rfl) ?_; refine gq (r_ld1o rfl Ty.row_5 hce0 hA) ?_; refine gq (zba (cs := dc (keyD k0)) (hf := keyD_fill k0)) ?_; refine zc (fun _ => ?_) (c := fun w1 F1 F2 h1 h2 hd hst => aask_ok (s := ([keyD k0], 0)) (k := keyD k0) h1)
   rw [ask_twice (by simp)]; refine gp zpk ?_; refine gnt ?_; refine gc_condF rfl rfl ?_; refine gc_skip ?_; refine gx_then ?_; refine gsr ?_; refine zxa ?_; refine zxs ?_; refine gl_mkMap (wt0 rfl) (fun m39 => ?_)
   refine zxm ?_; refine gp (r_val (v' := .pointer (some ⟨ga, oa + 0 * 1, none⟩)) zia rfl) ?_; refine gp (r_ld1o rfl Ty.row_5 hce0 hA) ?_; refine gl_ins (K := Value.int .u8) (l := []) (key := u8i k0) (v := .bool true) (wt0 rfl) rfl rfl rfl Ty.un_69 (by repeat (first | exact Pick.here | apply Pick.there)) ?_; refine zxm ?_; refine zxa ?_; refine gnt ?_; refine gc_seq ?_; refine gc_seq ?_; obtain ⟨a1, ha1⟩ : ∃ a1, a1 = (if ck = 1 then some ⟨ga, oa, none⟩ else (some (⟨ga, oa, none⟩ : Addr)).map (·.add (1 * 1))) := ⟨_, rfl⟩; have ha2 : 1 < n → a1 = some ⟨ga, oa + 1, none⟩ := fun h' => by rw [ha1, if_neg (by omega)]; simp [Addr.add_mid]
   refine gc_region ?_; refine zxm ?_; refine gp (r_val (v' := .slice a1 (n - 1) (ck - 1)) (r_slice_slice (a := some ⟨ga, oa, none⟩) (m := n) (c := ck) (l := 1) (h := n) rfl Ty.sl_68 Ty.sz_5 ⟨_, rfl⟩ rfl (by omega) (by omega)) (by rw [ha1])) ?_; refine gp zln ?_; refine zxm ?_; refine gnt ?_; refine gc_block ?_; refine gc_loop (α := Nat × List UInt8) (fun y => [pureR (y.1 ≤ n - 1 ∧ k0 ∈ y.2 ∧ y.2.length ≤ 7), AskR a (y.2.map keyD, 0), mapR m39 (encK (Value.int .u8) (yesK (y.2.map u8i)))]) (fun y => [(47, .int .i64 (y.1 : Int)), (8, .int .i64 (y.2.length : Int))]) [6, 11, 48, 49, 50, 51, 52, 53, 54, 55, 56, 57, 58, 59, 60, 61, 62, 63, 64, 65, 66, 67, 68, 69, 70, 71, 72, 73, 74, 75, 76] (fun y => n - 1 - y.1) (0, [k0]) ?_ ?_ ?_
   ·refine env_start (by kernel_rfl)
   ·intro w' hw; refine St.pureI (p := 0 ≤ n - 1 ∧ k0 ∈ [k0] ∧ ([k0] : List UInt8).length ≤ 7) ⟨Nat.zero_le _, by simp, by simp⟩ ?_; show St w F [AskR a ([k0].map keyD, 0), mapR m39 (encK (Value.int .u8) (yesK ([k0].map u8i)))] w'
    exact hw.sel (M := [AskR a ([keyD k0], 0), mapR m39 (encK (Value.int .u8) (putK (u8i k0) (.bool true) []))]) (by repeat (first | exact Sel.nil | (apply Sel.cons; · (repeat (first | exact Pick.here | apply Pick.there)))))
   ·intro y u; obtain ⟨k, us⟩ := y; refine gc_pureR (fun hk => ?_)
    obtain ⟨hk, hk0m, hu7⟩ := hk; replace hk : k ≤ n - 1 := hk
    replace hk0m : k0 ∈ us := hk0m
    replace hu7 : us.length ≤ 7 := hu7
    refine gsr ?_; refine gp zlt ?_; refine gnt ?_; refine gc_seq ?_; refine gif rfl (fun hc48 => ?_) (fun hc48 => ?_)
    ·try simp only at hc48
     have hk' : k < n - 1 := by omega
     have ha3 := ha2 (by omega)
     obtain ⟨u, hu⟩ : ∃ u, u = ks.getD (k + 1) 0 := ⟨_, rfl⟩; have hceu := hce (k + 1) (by omega)
     rw [← hu] at hceu; refine gc_skip ?_; refine gx_then ?_; refine gc_seq ?_; refine gc_block ?_; refine gsr ?_; refine gp (r_val (v' := .pointer (some ⟨ga, oa + (k + 1) * 1, none⟩)) (zia (hx := by rw [← ha3]; rfl)) (by simp [Nat.add_assoc, Nat.add_comm 1])) ?_; refine gp (r_ld1o rfl Ty.row_5 hceu hA) ?_; refine zxa ?_; refine gnt ?_; refine gc_seq ?_; refine gc_seq ?_; by_cases hS : u ∈ us ∨ 7 ≤ us.length
     ·by_cases hm : u ∈ us
      ·refine gc_regionH ([mapR m39 (encK (Value.int .u8) (yesK (us.map u8i)))]) ?_; refine yp 0 rfl zmv ?_; refine yp 1 rfl zmv ?_; refine yp 2 rfl (zba (cs := dc (keyD u)) (hf := keyD_fill u)) ?_; refine yp 4 rfl zmv ?_; refine yp 5 rfl zmv ?_; refine yp 6 rfl (r_val (v' := .bool (decide (u ∈ us))) (r_look (K := Value.int .u8) (l := yesK (us.map u8i)) (key := u8i u) (z := .bool false) (b := false) rfl rfl Ty.un_69 (by kernel_rfl) (by repeat (first | exact Pick.here | apply Pick.there))) (by rw [show (if (false : Bool) then _ else (getK (u8i u) (yesK (us.map u8i))).getD (.bool false)) = _ from yesK_get (u8i u) (us.map u8i), decide_eq_decide.2 u8i_mem])) ?_; refine yp 7 rfl (r_bool (c := false) znt (by simp [hm])) ?_; refine yo 3 rfl ?_; refine zc (fun _ => ?_) (c := fun w1 F1 F2 h1 h2 hd hst => aask_ok (s := (us.map keyD, 0)) (k := keyD u) h1)
       rw [ask_us, if_pos hS]; refine yx ?_; refine yp 8 rfl zmv ?_; refine yn 9 rfl ?_; refine yn 10 rfl ?_; refine yp 11 rfl zpk ?_; refine yp 12 rfl (r_bool (c := false) (r_neq_bool rfl rfl Tryz.underlying4) (by simp)) ?_; refine yd ?_; refine gx_then ?_; refine gc_condF rfl rfl ?_; refine gc_skip ?_; refine gx_then ?_; refine gsr ?_; refine zxm ?_; refine zxm ?_; refine gp (r_val (v' := .bool (decide (u ∈ us))) (r_look (K := Value.int .u8) (l := yesK (us.map u8i)) (key := u8i u) (z := .bool false) (b := false) rfl rfl Ty.un_69 (by kernel_rfl) (by repeat (first | exact Pick.here | apply Pick.there))) (by rw [show (if (false : Bool) then _ else (getK (u8i u) (yesK (us.map u8i))).getD (.bool false)) = _ from yesK_get (u8i u) (us.map u8i), decide_eq_decide.2 u8i_mem])) ?_; refine gp (r_bool (c := false) znt (by simp [hm])) ?_; refine zxm ?_; refine gn ?_; refine gn ?_; refine gp zpk ?_; refine gnt ?_; refine gc_condF rfl rfl ?_; refine gc_skip ?_; refine gx_block_normal ?_; refine gx_then ?_; refine gc_region ?_; refine gp zad ?_; refine zxm ?_; refine gl_nil ?_; refine zrd ((k + 1, us)) ?_ ?_
       ·show n - 1 - (k + 1) < n - 1 - k
        omega
       ·exact zlp (p := k + 1 ≤ n - 1 ∧ k0 ∈ us ∧ us.length ≤ 7) ⟨by omega, hk0m, hu7⟩
      ·have h7 : 7 ≤ us.length := hS.resolve_left hm
       refine gc_regionH ([mapR m39 (encK (Value.int .u8) (yesK (us.map u8i)))]) ?_; refine yp 0 rfl zmv ?_; refine yp 1 rfl zmv ?_; refine yp 2 rfl (zba (cs := dc (keyD u)) (hf := keyD_fill u)) ?_; refine yp 4 rfl zmv ?_; refine yp 5 rfl zmv ?_; refine yp 6 rfl (r_val (v' := .bool (decide (u ∈ us))) (r_look (K := Value.int .u8) (l := yesK (us.map u8i)) (key := u8i u) (z := .bool false) (b := false) rfl rfl Ty.un_69 (by kernel_rfl) (by repeat (first | exact Pick.here | apply Pick.there))) (by rw [show (if (false : Bool) then _ else (getK (u8i u) (yesK (us.map u8i))).getD (.bool false)) = _ from yesK_get (u8i u) (us.map u8i), decide_eq_decide.2 u8i_mem])) ?_; refine yp 7 rfl (r_bool (c := true) znt (by simp [hm])) ?_; refine yo 3 rfl ?_; refine zc (fun _ => ?_) (c := fun w1 F1 F2 h1 h2 hd hst => aask_ok (s := (us.map keyD, 0)) (k := keyD u) h1)
       rw [ask_us, if_pos hS]; refine yx ?_; refine yp 8 rfl zmv ?_; refine yp 9 rfl zmv ?_; refine yp 10 rfl (r_bool (c := false) zlt (by show decide ((us.length : Int) < 7) = false; exact decide_eq_false (by omega))) ?_; refine yp 11 rfl zpk ?_; refine yp 12 rfl (r_bool (c := false) (r_neq_bool rfl rfl Tryz.underlying4) (by simp)) ?_; refine yd ?_; refine gx_then ?_; refine gc_condF rfl rfl ?_; refine gc_skip ?_; refine gx_then ?_; refine gsr ?_; refine zxm ?_; refine zxm ?_; refine gp (r_val (v' := .bool (decide (u ∈ us))) (r_look (K := Value.int .u8) (l := yesK (us.map u8i)) (key := u8i u) (z := .bool false) (b := false) rfl rfl Ty.un_69 (by kernel_rfl) (by repeat (first | exact Pick.here | apply Pick.there))) (by rw [show (if (false : Bool) then _ else (getK (u8i u) (yesK (us.map u8i))).getD (.bool false)) = _ from yesK_get (u8i u) (us.map u8i), decide_eq_decide.2 u8i_mem])) ?_; refine gp (r_bool (c := true) znt (by simp [hm])) ?_; refine zxm ?_; refine gq zmv ?_; refine gq (r_bool (c := false) zlt (by show decide ((us.length : Int) < 7) = false; exact decide_eq_false (by omega))) ?_; refine gp zpk ?_; refine gnt ?_; refine gc_condF rfl rfl ?_; refine gc_skip ?_; refine gx_block_normal ?_; refine gx_then ?_; refine gc_region ?_; refine gp zad ?_; refine zxm ?_; refine gl_nil ?_; refine zrd ((k + 1, us)) ?_ ?_
       ·show n - 1 - (k + 1) < n - 1 - k
        omega
       ·exact zlp (p := k + 1 ≤ n - 1 ∧ k0 ∈ us ∧ us.length ≤ 7) ⟨by omega, hk0m, hu7⟩
     ·have hm : ¬ u ∈ us := fun h' => hS (.inl h')
      have h7 : ¬ 7 ≤ us.length := fun h' => hS (.inr h')
      refine gc_regionH ([mapR m39 (encK (Value.int .u8) (yesK (us.map u8i)))]) ?_; refine yp 0 rfl zmv ?_; refine yp 1 rfl zmv ?_; refine yp 2 rfl (zba (cs := dc (keyD u)) (hf := keyD_fill u)) ?_; refine yp 4 rfl zmv ?_; refine yp 5 rfl zmv ?_; refine yp 6 rfl (r_val (v' := .bool (decide (u ∈ us))) (r_look (K := Value.int .u8) (l := yesK (us.map u8i)) (key := u8i u) (z := .bool false) (b := false) rfl rfl Ty.un_69 (by kernel_rfl) (by repeat (first | exact Pick.here | apply Pick.there))) (by rw [show (if (false : Bool) then _ else (getK (u8i u) (yesK (us.map u8i))).getD (.bool false)) = _ from yesK_get (u8i u) (us.map u8i), decide_eq_decide.2 u8i_mem])) ?_; refine yp 7 rfl (r_bool (c := true) znt (by simp [hm])) ?_; refine yo 3 rfl ?_; refine zc (fun _ => ?_) (c := fun w1 F1 F2 h1 h2 hd hst => aask_ok (s := (us.map keyD, 0)) (k := keyD u) h1)
      rw [ask_us, if_neg hS]; refine yx ?_; refine yp 8 rfl zmv ?_; refine yp 9 rfl zmv ?_; refine yp 10 rfl (r_bool (c := true) zlt (by show decide ((us.length : Int) < 7) = true; exact decide_eq_true (by omega))) ?_; refine yp 11 rfl zpk ?_; refine yp 12 rfl (r_bool (c := false) (r_neq_bool rfl rfl Tryz.underlying4) (by simp)) ?_; refine yd ?_; refine gx_then ?_; refine gc_condF rfl rfl ?_; refine gc_skip ?_; refine gx_then ?_; refine gsr ?_; refine zxm ?_; refine zxm ?_; refine gp (r_val (v' := .bool (decide (u ∈ us))) (r_look (K := Value.int .u8) (l := yesK (us.map u8i)) (key := u8i u) (z := .bool false) (b := false) rfl rfl Ty.un_69 (by kernel_rfl) (by repeat (first | exact Pick.here | apply Pick.there))) (by rw [show (if (false : Bool) then _ else (getK (u8i u) (yesK (us.map u8i))).getD (.bool false)) = _ from yesK_get (u8i u) (us.map u8i), decide_eq_decide.2 u8i_mem])) ?_; refine gp (r_bool (c := true) znt (by simp [hm])) ?_; refine zxm ?_; refine gq zmv ?_; refine gq (r_bool (c := true) zlt (by show decide ((us.length : Int) < 7) = true; exact decide_eq_true (by omega))) ?_; refine gp zpk ?_; refine gnt ?_; refine gc_condT rfl rfl ?_; refine gsr ?_; refine zxm ?_; refine zxm ?_; refine gl_put (K := Value.int .u8) (l := yesK (us.map u8i)) (key := u8i u) (v := .bool true) (wt0 rfl) rfl rfl rfl Ty.un_69 (by repeat (first | exact Pick.here | apply Pick.there)) ?_; rw [yesK_put (fun h' => hm (u8i_mem.1 h')), show us.map u8i ++ [u8i u] = (us ++ [u]).map u8i by simp]; refine gnt ?_; refine gc_region ?_; refine zxm ?_; refine gp (r_val (v' := .int .i64 ((us ++ [u]).length : Int)) (zad (i := (us.length : Int)) (m := (us.length : Int) + 1) (h := wrap_i64 (by omega) (by omega))) (by rw [List.length_append]; rfl)) ?_; refine zxa ?_; refine gl_nil ?_; refine gx_block_normal ?_; refine gx_then ?_; refine gc_region ?_; refine gp zad ?_; refine zxm ?_; refine gl_nil ?_; refine zrd ((k + 1, us ++ [u])) ?_ ?_
      ·show n - 1 - (k + 1) < n - 1 - k
       omega
      ·intro w' hw; refine St.pureI (p := k + 1 ≤ n - 1 ∧ k0 ∈ us ++ [u] ∧ (us ++ [u]).length ≤ 7) ⟨by omega, by simp [hk0m], by simp; omega⟩ ?_; show St w F [AskR a ((us ++ [u]).map keyD, 0), mapR m39 (encK (Value.int .u8) (yesK ((us ++ [u]).map u8i)))] w'
       exact hw.z
    ·refine gc_exit ?_; refine gx_then_exit ?_; refine gx_round_exit ?_; refine gx_block_hit ?_; refine gx_then ?_; refine gc_seq ?_; obtain ⟨hT, hT8⟩ := uMod_eq ticks (m := 8) (by decide); have hul : 0 < (us.map keyD).length := by rw [List.length_map]; exact List.length_pos_of_mem hk0m
     refine gc_region ?_; refine zxm ?_; refine gp zci ?_; refine gp (r_int (j := ((uMod ticks 8 : Nat) : Int)) zrm hT) ?_; refine gp (r_int (j := ((uMod ticks 8 : Nat) : Int)) zci (wrap_i64 (by omega) (by omega))) ?_; refine zxa ?_; refine gnt ?_; refine gc_seq ?_; refine gsr ?_; refine zxm ?_; refine zxm ?_; refine gnt ?_; refine gc_block ?_; refine gc_loop (α := Nat) (fun j => [pureR (j ≤ uMod ticks 8), AskR a (tk19 (us.map keyD) j)]) (fun j => [(82, .int .i64 (j : Int))]) [83, 84, 85, 86] (fun j => uMod ticks 8 - j) 0 ?_ ?_ ?_
     ·refine env_start (by kernel_rfl)
     ·rw [tk19_zero]; exact zlp (Nat.zero_le _)
     ·intro j u; refine gc_pureR (fun hj => ?_)
      replace hj : j ≤ uMod ticks 8 := hj
      refine gsr ?_; refine gp zlt ?_; refine gnt ?_; refine gc_seq ?_; refine gif rfl (fun hc83 => ?_) (fun hc83 => ?_)
      ·refine gc_skip ?_; refine gx_then ?_; refine gc_seq ?_; refine gc_block ?_; refine gc_region ?_; refine zxm ?_; refine zc (fun _ => ?_) (c := fun w1 F1 F2 h1 h2 hd hst => atick_ok h1 (tk19_le _ _))
       rw [tk19_succ hul]; refine gl_nil ?_; refine gx_block_normal ?_; refine gx_then ?_; refine gc_region ?_; refine gp zad ?_; refine zxm ?_; refine gl_nil ?_; refine zrd (j + 1) ?_ ?_
       ·show uMod ticks 8 - (j + 1) < uMod ticks 8 - j
        omega
       ·exact zlp (show j + 1 ≤ uMod ticks 8 by omega)
      ·try simp only at hc83
       obtain rfl : j = uMod ticks 8 := by omega
       refine gc_exit ?_; refine gx_then_exit ?_; refine gx_round_exit ?_; refine gx_block_hit ?_; refine gx_then ?_; refine gc_seq ?_; refine gc_seq ?_; by_cases hg : got = true
       ·subst hg; refine gc_region ?_; refine zxm ?_; refine gnt ?_; refine gc_condT rfl rfl ?_; refine gc_region ?_; refine zxm ?_; refine zc (fun _ => ?_) (c := fun w1 F1 F2 h1 h2 hd hst => agot_ok h1)
        refine zxs ?_; refine zxm ?_; refine zxm ?_; refine gn ?_; refine gn ?_; refine gp zpk ?_; refine zxa ?_; refine zxs ?_; refine zxm ?_; refine zc (fun _ => ?_) (c := fun w1 F1 F2 h1 h2 hd hst => aopen_ok (s := ([], 0)) h1)
        refine zxm ?_; refine gp znt ?_; refine gp zeb ?_; refine zxm ?_; refine gq zmv ?_; refine gq zmv ?_; refine gq (r_val (v' := .pointer (some ⟨ga, oa + 0 * 1, none⟩)) zia rfl) ?_; refine gq (r_ld1o rfl Ty.row_5 hce0 hA) ?_; refine gq (zba (cs := dc (keyD k0)) (hf := keyD_fill k0)) ?_; refine zc (fun _ => ?_) (c := fun w1 F1 F2 h1 h2 hd hst => aask_ok (s := ([], 0)) (k := keyD k0) h1)
        rw [ask_first]; refine gq zmv ?_; refine gq zeb ?_; refine gp zpk ?_; refine zxa ?_; refine gnt ?_; refine gc_ret ?_; refine gx_ret1 rfl (by conv => lhs; whnf) ?_; exact ze ()
       ·obtain rfl : got = false := by simpa using hg
        refine gc_region ?_; refine zxm ?_; refine gnt ?_; refine gc_condF rfl rfl ?_; refine gc_skip ?_; refine gx_then ?_; refine gc_seq ?_; by_cases hT4 : uMod ticks 8 < 4
        ·have htk : tk19 (us.map keyD) (uMod ticks 8) = (us.map keyD, uMod ticks 8) := by unfold tk19; rw [if_pos hT4]
         rw [htk]; refine gc_region ?_; refine zxm ?_; refine zxm ?_; refine gq zmv ?_; refine gq (r_bool (c := false) zge (decide_eq_false (by omega))) ?_; refine gp zpk ?_; refine zxa ?_; refine zxs ?_; refine zxm ?_; refine zc (fun _ => ?_) (c := fun w1 F1 F2 h1 h2 hd hst => aopen_ok (s := (us.map keyD, uMod ticks 8)) h1)
         refine zxm ?_; refine gp znt ?_; refine gp (r_bool (c := true) zeb (by rw [decide_eq_true (by show (0 : Int) < ((us.map keyD).length : Int); omega)]; rfl)) ?_; refine zxm ?_; refine gq zmv ?_; refine gq zmv ?_; refine gq (r_val (v' := .pointer (some ⟨ga, oa + 0 * 1, none⟩)) zia rfl) ?_; refine gq (r_ld1o rfl Ty.row_5 hce0 hA) ?_; refine gq (zba (cs := dc (keyD k0)) (hf := keyD_fill k0)) ?_; refine zc (fun _ => ?_) (c := fun w1 F1 F2 h1 h2 hd hst => aask_ok (s := (us.map keyD, uMod ticks 8)) (k := keyD k0) h1)
         rw [ask_twice (keyD_mem.2 hk0m)]; refine gq zmv ?_; refine gq zeb ?_; refine gp zpk ?_; refine zxa ?_; refine gnt ?_; refine gc_ret ?_; refine gx_ret1 rfl (by conv => lhs; whnf) ?_; exact ze ()
        ·have htk : tk19 (us.map keyD) (uMod ticks 8) = ([], 0) := by unfold tk19; rw [if_neg hT4]
         rw [htk]; refine gc_region ?_; refine zxm ?_; refine zxm ?_; refine gq zmv ?_; refine gq (r_bool (c := true) zge (decide_eq_true (by omega))) ?_; refine gp zpk ?_; refine zxa ?_; refine zxs ?_; refine zxm ?_; refine zc (fun _ => ?_) (c := fun w1 F1 F2 h1 h2 hd hst => aopen_ok (s := ([], 0)) h1)
         refine zxm ?_; refine gp znt ?_; refine gp zeb ?_; refine zxm ?_; refine gq zmv ?_; refine gq zmv ?_; refine gq (r_val (v' := .pointer (some ⟨ga, oa + 0 * 1, none⟩)) zia rfl) ?_; refine gq (r_ld1o rfl Ty.row_5 hce0 hA) ?_; refine gq (zba (cs := dc (keyD k0)) (hf := keyD_fill k0)) ?_; refine zc (fun _ => ?_) (c := fun w1 F1 F2 h1 h2 hd hst => aask_ok (s := ([], 0)) (k := keyD k0) h1)
         rw [ask_first]; refine gq zmv ?_; refine gq zeb ?_; refine gp zpk ?_; refine zxa ?_; refine gnt ?_; refine gc_ret ?_; refine gx_ret1 rfl (by conv => lhs; whnf) ?_; exact ze ()
end
section
open Go.ChangeShapes Go.WideShapes Go.ChangeAt Go.RowKit
noncomputable def fetchPatience_world (os : Os) : World :=
  let w0 := World.holding Tryz.prog os ⟨#[.cells #[.string ⟨#[113, 117, 111, 114, 97, 116, 101, 58, 32, 114, 97, 110, 103, 101]⟩] 269, .cells #[.string ⟨#[113, 117, 111, 114, 97, 116, 101, 58, 32, 115, 104, 111, 114, 116]⟩] 269, .cells #[.string ⟨#[113, 117, 111, 114, 97, 116, 101, 58, 32, 108, 111, 110, 103]⟩] 269, .cells #[.string ⟨#[113, 117, 111, 114, 97, 116, 101, 58, 32, 102, 111, 114, 109]⟩] 269, .cells #[.string ⟨#[113, 117, 111, 114, 97, 116, 101, 58, 32, 112, 111, 119, 101, 114]⟩] 269, .cells #[.string ⟨#[113, 117, 111, 114, 97, 116, 101, 58, 32, 102, 117, 108, 108]⟩] 269, .cells #[.string ⟨#[113, 117, 111, 114, 97, 116, 101, 58, 32, 110, 111, 110, 101]⟩] 269, .cells #[.string ⟨#[113, 117, 111, 114, 97, 116, 101, 58, 32, 112, 114, 111, 111, 102]⟩] 269, .cells #[.string ⟨#[113, 117, 111, 114, 97, 116, 101, 58, 32, 114, 111, 117, 110, 100]⟩] 269, .cells #[.string ⟨#[113, 117, 111, 114, 97, 116, 101, 58, 32, 112, 97, 114, 101, 110, 116]⟩] 269, .cells #[.string ⟨#[113, 117, 111, 114, 97, 116, 101, 58, 32, 116, 119, 105, 99, 101]⟩] 269], #[], []⟩
  { w0 with heap := (((((((((((w0.heap.modify 0 fun
      | .cells _ t fz => .cells #[.iface 251 (.pointer (some ⟨lowB + 0, 0, none⟩))] t fz
      | o => o).modify 11 fun
      | .cells _ t fz => .cells #[.iface 251 (.pointer (some ⟨lowB + 1, 0, none⟩))] t fz
      | o => o).modify 10 fun
      | .cells _ t fz => .cells #[.iface 251 (.pointer (some ⟨lowB + 2, 0, none⟩))] t fz
      | o => o).modify 1 fun
      | .cells _ t fz => .cells #[.iface 251 (.pointer (some ⟨lowB + 3, 0, none⟩))] t fz
      | o => o).modify 8 fun
      | .cells _ t fz => .cells #[.iface 251 (.pointer (some ⟨lowB + 4, 0, none⟩))] t fz
      | o => o).modify 2 fun
      | .cells _ t fz => .cells #[.iface 251 (.pointer (some ⟨lowB + 5, 0, none⟩))] t fz
      | o => o).modify 7 fun
      | .cells _ t fz => .cells #[.iface 251 (.pointer (some ⟨lowB + 6, 0, none⟩))] t fz
      | o => o).modify 3 fun
      | .cells _ t fz => .cells #[.iface 251 (.pointer (some ⟨lowB + 7, 0, none⟩))] t fz
      | o => o).modify 6 fun
      | .cells _ t fz => .cells #[.iface 251 (.pointer (some ⟨lowB + 8, 0, none⟩))] t fz
      | o => o).modify 5 fun
      | .cells _ t fz => .cells #[.iface 251 (.pointer (some ⟨lowB + 9, 0, none⟩))] t fz
      | o => o).modify 4 fun
      | .cells _ t fz => .cells #[.iface 251 (.pointer (some ⟨lowB + 10, 0, none⟩))] t fz
      | o => o).modify 9 fun
      | .cells _ t fz => .cells (kc.map W32).toArray t fz
      | o => o }
def fetchPatience_args : Array Value := #[.slice none 0 0, .int .i64 0, .bool false]
theorem fetchPatience_laid (os : Os) (args : Array Value) : laidMet Tryz.prog Rows.fetchPatienceRow.laid ((fetchPatience_world os).forCall (fun _ _ => 0) ⟨#[], args, []⟩).memory :=
  laidMet_of_run' 8 (by kernel_rfl) (by kernel_rfl)
theorem fetchPatience_reads (os : Os) {H : Type} (enc : TypeId × Value → H) : ∃ places, DataW.whole enc Tryz.prog ((fetchPatience_world os).forCall (fun _ _ => 0) ⟨#[], fetchPatience_args, []⟩).memory Tryz.f7.params.toList Rows.fetchPatienceSpec.vars false fetchPatience_args.toList 8 = some ([.nil, .lit (.int .i64 0), .lit (.bool false)], [], places) :=
  ⟨[], by kernel_rfl⟩
set_option maxRecDepth 20000 in
theorem fetchPatience_contract (H : Type) (enc : TypeId × Value → H) (W : World) (base : Nat) (args : Array Value) (ds gs : List (DataW H)) (before : List MemPlace)
    (hval : ∀ (j : Nat) t v, Tryz.f7.params[j]? = some t → args[j]? = some v → Value.okWide Tryz.prog W .any base t v)
    (hW : DataW.Whole enc Tryz.prog Tryz.f7.params.toList Rows.fetchPatienceSpec.vars false W args.toList ds gs before) (hL : laidMetH Tryz.prog Rows.fetchPatienceRow.laid W) :
    Calls Tryz.prog 7 args W fun e W' => ∃ v, e = .returned v ∧ Rows.fetchPatienceSpec.post enc Tryz.prog Tryz.f7 false true false false W args v W' := by
  have hW' := hW
  have hlt : ∀ p ∈ before, p.block < W.heap.size := fun p hp => hW.lt p hp
  obtain ⟨p, q, hA0, hV, rfl, hfz, hnd⟩ := hW
  have hA : DataW.TrodAll enc Tryz.prog W 0 (fun _ => true) true Tryz.f7.params.toList args.toList ds p := hA0
  rw [Tryz.params7] at hA hval
  obtain ⟨v0, vs0, d0, ds0, p0, q0, hargs, rfl, rfl, h0, r0⟩ := trodAll_cons hA
  obtain ⟨v1, vs1, d1, ds1, p1, q1, rfl, rfl, rfl, h1, r1⟩ := trodAll_cons r0
  obtain ⟨v2, vs2, d2, ds2, p2, q2, rfl, rfl, rfl, h2, r2⟩ := trodAll_cons r1
  obtain ⟨rfl, rfl, rfl⟩ := trodAll_nil r2
  obtain rfl : args = #[v0, v1, v2] := by cases args; simp_all
  obtain ⟨rfl, rfl⟩ := trodVars_none hV
  obtain ⟨a0, m0, c0, rfl⟩ := okWide_slice (run_sliceT Ty.sl_68) (hval 0 68 v0 rfl rfl)
  obtain ⟨x0, hx0⟩ : ∃ x, RdRowC B8 W TT [.slice a0 m0 c0] x := by obtain ⟨fuel, hf⟩ := h0; exact o_rbytes fuel _ _ hf
  obtain ⟨n1, rfl, _, _, wf1⟩ := open_int Ty.un_3 (hval 1 3 v1 rfl rfl) h1
  obtain ⟨n2, rfl, _, _⟩ := open_bool Tryz.underlying4 (hval 2 4 v2 rfl rfl) h2
  have hL' : laidMet Tryz.prog Rows.fetchPatienceRow.laid W := hL
  obtain ⟨a_1, s_1, c_1, _, _⟩ := laid_err (g := 0) hL' (by kernel_rfl) (by kernel_rfl)
  obtain ⟨a_2, s_2, c_2, _, _⟩ := laid_err (g := 11) hL'.tail (by kernel_rfl) (by kernel_rfl)
  obtain ⟨a_3, s_3, c_3, _, _⟩ := laid_err (g := 10) hL'.tail.tail (by kernel_rfl) (by kernel_rfl)
  obtain ⟨a_4, s_4, c_4, _, _⟩ := laid_err (g := 1) hL'.tail.tail.tail (by kernel_rfl) (by kernel_rfl)
  obtain ⟨a_6, s_6, c_6, _, _⟩ := laid_err (g := 8) hL'.tail.tail.tail.tail (by kernel_rfl) (by kernel_rfl)
  obtain ⟨a_8, s_8, c_8, _, _⟩ := laid_err (g := 2) hL'.tail.tail.tail.tail.tail (by kernel_rfl) (by kernel_rfl)
  obtain ⟨a_9, s_9, c_9, _, _⟩ := laid_err (g := 7) hL'.tail.tail.tail.tail.tail.tail (by kernel_rfl) (by kernel_rfl)
  obtain ⟨a_12, s_12, c_12, _, _⟩ := laid_err (g := 3) hL'.tail.tail.tail.tail.tail.tail.tail (by kernel_rfl) (by kernel_rfl)
  obtain ⟨a_14, s_14, c_14, _, _⟩ := laid_err (g := 6) hL'.tail.tail.tail.tail.tail.tail.tail.tail (by kernel_rfl) (by kernel_rfl)
  obtain ⟨a_16, s_16, c_16, _, _⟩ := laid_err (g := 5) hL'.tail.tail.tail.tail.tail.tail.tail.tail.tail (by kernel_rfl) (by kernel_rfl)
  obtain ⟨a_17, s_17, c_17, _, _⟩ := laid_err (g := 4) hL'.tail.tail.tail.tail.tail.tail.tail.tail.tail.tail (by kernel_rfl) (by kernel_rfl)
  have hK := laid_kr hL'.tail.tail.tail.tail.tail.tail.tail.tail.tail.tail.tail
  have hE : GErr [1, 2, 3, 4, 6, 8, 9, 12, 14, 16, 17] W (fun k => ¬ (fun _ : Nat => False) k) 251 (fun i => if i = 1 then a_1 else if i = 2 then a_2 else if i = 3 then a_3 else if i = 4 then a_4 else if i = 6 then a_6 else if i = 8 then a_8 else if i = 9 then a_9 else if i = 12 then a_12 else if i = 14 then a_14 else if i = 16 then a_16 else a_17) := by
    refine ⟨fun i hi => ?_, fun i _ => id⟩
    simp only [List.mem_cons, List.not_mem_nil, or_false] at hi
    rcases hi with rfl | rfl | rfl | rfl | rfl | rfl | rfl | rfl | rfl | rfl | rfl
    · unfold eV; exact c_1
    · unfold eV; exact c_2
    · unfold eV; exact c_3
    · unfold eV; exact c_4
    · unfold eV; exact c_6
    · unfold eV; exact c_8
    · unfold eV; exact c_9
    · unfold eV; exact c_12
    · unfold eV; exact c_14
    · unfold eV; exact c_16
    · unfold eV; exact c_17
  have walk := fetchPatience_ok (ticks := n1) (got := n2) hE hK no_res (hx0.row.mv still_id) (by obtain ⟨_, _, _, e, hle, _⟩ := hx0; cases e; exact hle)
  refine Calls.mono (show Calls Tryz.prog 7 #[.slice a0 m0 c0, .int .i64 n1, .bool n2] W _ from walk) fun e W' ⟨_, he, hs⟩ => ?_
  subst he
  have bel := below_of hs
  have eF : Rows.fetchPatienceSpec.fn H ([d0, d1, d2] ++ []) = { results := [.lit (.bool true)], args := [d0, d1, d2] } := rfl
  have l0 : ∀ z ∈ p0, z.block < W.heap.size := fun z hz => hlt z (by simp [hz])
  have l1 : ∀ z ∈ p1, z.block < W.heap.size := fun z hz => hlt z (by simp [hz])
  have l2 : ∀ z ∈ p2, z.block < W.heap.size := fun z hz => hlt z (by simp [hz])
  refine ⟨_, rfl, _, _, _, [], p0 ++ (p1 ++ (p2 ++ ([]))), [], hW', ?_, ?_, ?_, bel.frame _, fun h => by cases h⟩
  · rw [eF]; exact trodAll_cons_mk (shut_bool Tryz.underlying4 _) trodAll_mk0
  · rw [eF, Tryz.params7]
    exact trodAll_cons_mk (Below.trod laidOut (by kernel_rfl) (of_decide_eq_true (by kernel_rfl)) h0 bel l0) (trodAll_cons_mk (Below.trod laidOut (by kernel_rfl) (of_decide_eq_true (by kernel_rfl)) h1 bel l1) (trodAll_cons_mk (Below.trod laidOut (by kernel_rfl) (of_decide_eq_true (by kernel_rfl)) h2 bel l2) (trodAll_mk0)))
  · rw [eF]; rfl
set_option maxRecDepth 100000 in
theorem fetchPatience_lifted (os : Os) (started : os.Started) (H : Type) (enc : TypeId × Value → H) (F : Stop.Interp) :
    ReturnsInHanded {} Tryz.checked os 7 .any ((OpenSpec.ofChange Rows.fetchPatienceSpec).preRow enc Tryz.prog Tryz.f7 Rows.fetchPatienceRow.domain false Rows.fetchPatienceRow.laid) (((OpenSpec.ofChange Rows.fetchPatienceSpec).at F).post enc Tryz.prog Tryz.f7 false true false false) := by
  obtain ⟨places, hx⟩ := fetchPatience_reads os enc
  refine returnsInHanded_of_row (C := Tryz.checked) (s := OpenSpec.ofChange Rows.fetchPatienceSpec) own started (by kernel_rfl) Tryz.func7
    (witness_row_atRef (enc := enc) (C := Tryz.checked) false (fetchPatience_world os) fetchPatience_args rfl (by kernel_rfl) (by kernel_rfl) (by kernel_rfl)
      (OpenSpec.preRow_of_cond 8 hx (by kernel_rfl) (fun k hk => by cases hk) (by kernel_rfl) (fetchPatience_laid os _))) ?_
  intro W base args ds gs before hval hW _ _ _ hL _ _
  exact fetchPatience_contract H enc W base args ds gs before hval hW hL
theorem and_tt {a b : Bool} (h : a = true) (k : b = true) : (a && b) = true := by rw [h, k]; rfl
theorem fetchPatience_k0 : (Rows.fetchPatienceRow.wf (OpenSpec.ofChange (OpenSpec.ofChange Rows.fetchPatienceSpec).bare)) = true := by kernel_rfl
theorem fetchPatience_k1 : (laidOutB Tryz.pinned.checked.prog) = true := by kernel_rfl
theorem fetchPatience_k2 : (mapsRowed Tryz.pinned.checked.prog) = true := by kernel_rfl
theorem fetchPatience_k3 : (Tryz.f7.params.all (Tryz.pinned.checked.prog.readableRec ·)) = true := by kernel_rfl
theorem fetchPatience_k4 : (namedTie Tryz.pinned.checked.prog Rows.fetchPatienceRow.named (OpenSpec.ofChange Rows.fetchPatienceSpec).bare.vars) = true := by kernel_rfl
theorem fetchPatience_k5 : ((Rows.fetchPatienceRow.stops == [])) = true := by kernel_rfl
theorem fetchPatience_k6 : ((Tryz.pinned.checked.prog.stops == [])) = true := by kernel_rfl
theorem fetchPatience_k7 : ((Rows.fetchPatienceRow.knobs == [])) = true := by kernel_rfl
theorem fetchPatience_k8 : ((Tryz.pinned.checked.prog.stopKnobs == [])) = true := by kernel_rfl
theorem fetchPatience_k9 : ((Rows.fetchPatienceRow.inPlace == Tryz.pinned.checked.prog.inPlace 7)) = true := by kernel_rfl
theorem fetchPatience_k10 : ((Rows.fetchPatienceRow.unfollowed == Tryz.pinned.checked.prog.unfollowed 7)) = true := by kernel_rfl
theorem fetchPatience_k11 : ((Rows.fetchPatienceRow.recurses == Tryz.pinned.checked.prog.recurses 7)) = true := by kernel_rfl
theorem fetchPatience_k12 : ((Rows.fetchPatienceRow.named == Tryz.pinned.checked.prog.varsNamed 7)) = true := by kernel_rfl
theorem fetchPatience_k13 : ((Rows.fetchPatienceRow.maps == (Tryz.f7.params.toList ++ (OpenSpec.ofChange Rows.fetchPatienceSpec).bare.plain.varTypes Tryz.pinned.checked.prog).any (Tryz.pinned.checked.prog.mapsRec ·))) = true := by kernel_rfl
theorem fetchPatience_k14 : ((Rows.fetchPatienceRow.ifaces == (Tryz.f7.params.toList ++ (OpenSpec.ofChange Rows.fetchPatienceSpec).bare.plain.varTypes Tryz.pinned.checked.prog).any (Tryz.pinned.checked.prog.ifacesRec ·))) = true := by kernel_rfl
theorem fetchPatience_k15 : ((Rows.fetchPatienceRow.mapsOut == Tryz.pinned.checked.prog.mapsAmong Tryz.f7.resultTypes.toList)) = true := by kernel_rfl
theorem fetchPatience_k16 : ((Rows.fetchPatienceRow.loops == (Tryz.f7.params.toList ++ (OpenSpec.ofChange Rows.fetchPatienceSpec).bare.plain.varTypes Tryz.pinned.checked.prog).any (Tryz.pinned.checked.prog.loopsFrom ·))) = true := by kernel_rfl
theorem fetchPatience_k17 : ((Rows.fetchPatienceRow.wideKeys == (Tryz.f7.params.toList ++ (OpenSpec.ofChange Rows.fetchPatienceSpec).bare.plain.varTypes Tryz.pinned.checked.prog ++ Tryz.f7.resultTypes.toList).any (Tryz.pinned.checked.prog.wideKeysFrom ·))) = true := by kernel_rfl
theorem fetchPatience_k18 : ((OpenSpec.ofChange Rows.fetchPatienceSpec).bare.vars.all (Tryz.pinned.checked.prog.varReadable ·)) = true := by kernel_rfl
theorem fetchPatience_k19 : (Tryz.f7.resultTypes.all (fun t => Tryz.pinned.checked.prog.readableRec t && decide (t < Tryz.pinned.checked.prog.types.size))) = true := by kernel_rfl
theorem fetchPatience_k20 : ((Rows.fetchPatienceRow.ifacesOut == Tryz.f7.resultTypes.toList.any (Tryz.pinned.checked.prog.ifacesRec ·))) = true := by kernel_rfl
theorem fetchPatience_k21 : ((Rows.fetchPatienceRow.loopsOut == Tryz.f7.resultTypes.toList.any (Tryz.pinned.checked.prog.loopsFrom ·))) = true := by kernel_rfl
theorem fetchPatience_k22 : ((Rows.fetchPatienceRow.plainKeys == Tryz.pinned.checked.prog.plainKeys)) = true := by kernel_rfl
theorem fetchPatience_k23 : (Rows.fetchPatienceRow.shortTexts.isNone) = true := by kernel_rfl
theorem fetchPatience_k24 : (Tryz.pinned.checked.prog.stopsHeard) = true := by kernel_rfl
theorem fetchPatience_k25 : (Tryz.pinned.checked.prog.mayEnter) = true := by kernel_rfl
theorem fetchPatience_k26 : ((Rows.fetchPatienceRow.lifted == Tryz.pinned.checked.prog.liftsFinal)) = true := by kernel_rfl
theorem fetchPatience_k27 : ((Tryz.pinned.checked.prog.make == some Rows.fetchPatienceRow.make)) = true := by kernel_rfl
theorem fetchPatience_k28 : ((Rows.fetchPatienceRow.kinds == (if Rows.fetchPatienceRow.domain.isEmpty then [] else Tryz.f7.params.toList.map fun t => match Tryz.pinned.checked.prog.underlying t with | some (.int k) => some k | _ => none))) = true := by kernel_rfl
theorem fetchPatience_k29 : ((Rows.fetchPatienceRow.pinned == Rows.fetchPatienceRow.pinnedBy)) = true := by kernel_rfl
theorem fetchPatience_k30 : ((Rows.fetchPatienceRow.veiled == (Tryz.f7.params.toList ++ (OpenSpec.ofChange Rows.fetchPatienceSpec).bare.plain.varTypes Tryz.pinned.checked.prog ++ Tryz.f7.resultTypes.toList).any (Tryz.pinned.checked.prog.veiledRec ·))) = true := by kernel_rfl
theorem fetchPatience_k31 : (Rows.fetchPatienceRow.veiledFits Tryz.pinned.checked.prog Tryz.f7.params.toList (Tryz.f7.params.toList ++ (OpenSpec.ofChange Rows.fetchPatienceSpec).bare.plain.varTypes Tryz.pinned.checked.prog ++ Tryz.f7.resultTypes.toList)) = true := by kernel_rfl
set_option maxRecDepth 100000 in
theorem fetchPatience_facts : joinedFacts Tryz.pinned.checked.prog 7 Tryz.f7 (OpenSpec.ofChange Rows.fetchPatienceSpec).bare Rows.fetchPatienceRow = true := (and_tt (and_tt (and_tt (and_tt (and_tt (and_tt (and_tt (and_tt (and_tt (and_tt (and_tt (and_tt (and_tt (and_tt (and_tt (and_tt (and_tt (and_tt (and_tt (and_tt (and_tt (and_tt (and_tt (and_tt (and_tt (and_tt (and_tt (and_tt (and_tt (and_tt (and_tt fetchPatience_k0 fetchPatience_k1) fetchPatience_k2) fetchPatience_k3) fetchPatience_k4) fetchPatience_k5) fetchPatience_k6) fetchPatience_k7) fetchPatience_k8) fetchPatience_k9) fetchPatience_k10) fetchPatience_k11) fetchPatience_k12) fetchPatience_k13) fetchPatience_k14) fetchPatience_k15) fetchPatience_k16) fetchPatience_k17) fetchPatience_k18) fetchPatience_k19) fetchPatience_k20) fetchPatience_k21) fetchPatience_k22) fetchPatience_k23) fetchPatience_k24) fetchPatience_k25) fetchPatience_k26) fetchPatience_k27) fetchPatience_k28) fetchPatience_k29) fetchPatience_k30) fetchPatience_k31)
theorem fetchPatience_said : Rows.FetchPatienceSaid :=
  OpenClaim.holds_of_cond 7 Tryz.f7 rfl rfl rfl rfl rfl rfl rfl ⟨rfl, rfl, rfl, rfl, rfl⟩ rfl rfl rfl rfl rfl (by kernel_rfl) Tryz.func7 fetchPatience_facts
    (of_decide_eq_true (by kernel_rfl)) (by unfold Func.isWrapper; first | (rw [if_pos (by decide +kernel)]; kernel_rfl) | (rw [if_neg (by decide +kernel)]; exact ⟨rfl, rfl⟩))
    (fun os started H enc _ F => by rw [OpenClaim.pre_eq_preRow]; exact fetchPatience_lifted os started H enc F)
theorem fetchPatience_plain (f : FuncId) (fn : Func) (hf : Tryz.pinned.checked.prog.funcNamed "quorate/quoratelaw19.FetchPatience" = some f) (hfn : Tryz.pinned.checked.prog.funcs[f]? = some fn) :
    false = Tryz.pinned.checked.prog.looks [] ∧ ∀ (j : Nat) t, fn.params[j]? = some t → Tryz.pinned.checked.prog.wantsStandIn t = false := by
  obtain rfl : f = 7 := Option.some.inj ((show Tryz.prog.funcNamed "quorate/quoratelaw19.FetchPatience" = some 7 by kernel_rfl).symm.trans hf) |>.symm
  obtain rfl : fn = Tryz.f7 := (Option.some.inj (Tryz.func7.symm.trans hfn)).symm
  refine ⟨by kernel_rfl, fun j t ht => ?_⟩
  rw [Tryz.params7] at ht
  have hm := Array.mem_of_getElem? ht
  have h : t = 68 ∨ t = 3 ∨ t = 4 := by simpa using hm
  rcases h with rfl | rfl | rfl
  · exact (show Tryz.prog.wantsStandIn 68 = false by kernel_rfl)
  · exact (show Tryz.prog.wantsStandIn 3 = false by kernel_rfl)
  · exact (show Tryz.prog.wantsStandIn 4 = false by kernel_rfl)
theorem fetchPatience_holds : Rows.FetchPatienceCardSaid :=
  Claim7.holds_tied_plain_at .later [] _ _ _ _ fetchPatience_said (fun _ h => by cases h) (by kernel_rfl) (fun _ h => by cases h) fetchPatience_row_tie rfl ⟨rfl, rfl⟩ (by kernel_rfl) rfl fetchPatience_plain (by kernel_rfl)
#print axioms fetchPatience_holds
end
end Go.Proofs.YtheonhgffglegaaGreatDoor
