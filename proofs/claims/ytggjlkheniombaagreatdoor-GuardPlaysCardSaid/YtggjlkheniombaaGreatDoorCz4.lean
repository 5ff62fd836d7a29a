/- Part 4. What is proved: see the last part: for every input the law returns true, and the input reads as it did. -/
import Derived.Test.YtggjlkheniombaaGreatDoorCz3
namespace Go.Proofs.YtggjlkheniombaaGreatDoor
open Go
set_option linter.unusedVariables false
set_option linter.unusedSimpArgs false
set_option linter.unusedSectionVars false
set_option maxHeartbeats 400000
section
attribute [local irreducible] Gl Gc Gx Gs Runs Wt
theorem levels1_ok {w : World} {F : Nat → Prop} {l : List Dig} {a0 : Option Addr} {c0 b1 lp : Nat} {J : Nat → Res} {Jx : Res} (h : stars [blk b1 61 [.slice a0 32 c0], rowR 32 16 a0 32 c0 (l.map dc).flatten, J 0] w F) (hl : l.length = 32) (hK : KR w (fun k => ¬ F k)) (hy : RoundsH Tryz.prog lp lvE (lvG l) lvH J Jx w F) :
    Calls Tryz.prog 96 #[.func (.yield lp) #[] #[], .pointer (some ⟨b1, 0, none⟩)] w (Post w F (fun _ : Bool => .tuple #[]) (fun y => (match allOr 6 y with | some m => J m | none => Jx) :: [blk b1 61 [.slice a0 32 c0], rowR 32 16 a0 32 c0 (l.map dc).flatten])) := by
 refine g_enterM (env := [(0, .func (.yield lp) #[] #[]), (1, .pointer (some ⟨b1, 0, none⟩))]) Tryz.func96 rfl h Tryz.ntmps96 rfl rfl ?_; refine gsr (gp zl ?_); refine zxa ?_; refine gnt (gc_block (gc_loopF (α := Nat × Nat × Option Addr × Nat × List Nat) (fun y => ⟨29, y.2.2.2.2.map mkD, none⟩) (fun y => [pureR (y.1 ≤ 5 ∧ y.2.1 = (lvL l y.1).length ∧ (y.1 = 0 → y.2.2.1 = a0 ∧ y.2.2.2.1 = c0)), rowR 32 16 y.2.2.1 y.2.1 y.2.2.2.1 ((lvL l y.1).map dc).flatten, keepR y.1 (rowR 32 16 a0 32 c0 (l.map dc).flatten), blk b1 61 [.slice a0 32 c0], J y.1, allR (dfsR y.2.2.2.2)]) (fun y => [(3, .slice y.2.2.1 y.2.1 y.2.2.2.1)]) [4, 5, 7, 8, 9, 10, 11, 12, 13, 14, 15, 16, 18, 19, 20, 21, 22, 23, 24, 25, 26, 27, 28] (fun y => 5 - y.1) (0, 32, a0, c0, []) (fun _ => rfl) rfl ?_ ?_ ?_))
 ·refine env_start (by kernel_rfl)
 ·intro w' hw; exact zlp ⟨Nat.zero_le _, hl.symm, fun _ => ⟨rfl, rfl⟩⟩ (by repeat (first | exact Sel.nil | (apply Sel.cons; · (repeat (first | exact Pick.here | apply Pick.there))))) w' ((dfs0 (keep0 (R := rowR 32 16 a0 32 c0 (l.map dc).flatten) hw)).sel (M := [rowR 32 16 a0 32 c0 (l.map dc).flatten, keepR 0 (rowR 32 16 a0 32 c0 (l.map dc).flatten), blk b1 61 [.slice a0 32 c0], J 0, allR (dfsR [])]) (by repeat (first | exact Sel.nil | (apply Sel.cons; · (repeat (first | exact Pick.here | apply Pick.there))))))
 ·intro y u; obtain ⟨k, n, a, c, bs⟩ := y; refine gc_pureR (fun hk => ?_)
  obtain ⟨hk, hn, h0⟩ := hk; replace hk : k ≤ 5 := hk
  replace hn : n = (lvL l k).length := hn
  replace h0 : k = 0 → a = a0 ∧ c = c0 := h0
  subst hn; have hbig := lv_big hl hk
  refine gc_seq (gsr (zxm ?_)); refine zxm ?_; refine gl_pI (p := k < 6 ∧ lvL l k = lvL l k) ⟨by omega, rfl⟩ ?_; refine gydH hy k (a, c, lvL l k) rfl (by repeat (first | exact Sel.nil | (apply Sel.cons; · (repeat (first | exact Pick.here | apply Pick.there))))) (fun x9 => ?_)
  rcases x9 with _ | _
  ·refine gp (r_bool (c := false) zmv (rfl)) ?_; refine gn ?_; refine gn ?_; refine gn ?_; refine gp zpk ?_; refine gnt (gc_condF rfl rfl ?_); refine gc_exit ?_; refine gx_then_exit ?_; refine gx_round_exit ?_; refine gx_block_hit ?_; refine gx_marks' (by repeat (first | exact Pick.here | apply Pick.there)) ?_; refine gx_mark0' ?_; refine gx_ret0' rfl ?_; intro w' hw; exact ⟨false, rfl, (keep_next h0 hl (hw.sel (M := [rowR 32 16 a (lvL l k).length c ((lvL l k).map dc).flatten, keepR k (rowR 32 16 a0 32 c0 (l.map dc).flatten), Jx, blk b1 61 [.slice a0 32 c0]]) (by repeat (first | exact Sel.nil | (apply Sel.cons; · (repeat (first | exact Pick.here | apply Pick.there))))))).z⟩
  ·refine gp (r_bool (c := true) zmv (rfl)) ?_; refine gq zmv ?_; refine gq zln ?_; refine gq (r_bool (c := decide (k < 5)) zgt (by rw [Bool.eq_iff_iff]; simp only [decide_eq_true_eq]; omega)) ?_; refine gp zpk ?_; refine gl_nil (gx_thenM ?_); refine gif rfl (fun hc14 => ?_) (fun hc14 => ?_)
   ·try simp only at hc14
    have hk5 : k < 5 := by simpa using hc14
    obtain ⟨mm, hm, hm1, hm16, hml⟩ := lv_two hl hk5; have hup : (upT (lvL l k)).take mm = (lvL l (k + 1)) := List.take_of_length_le (Nat.le_of_eq hml.symm)
    refine gc_fact (fun w' hw => St.rowAt (hw.sel (M := [rowR 32 16 a (lvL l k).length c ((lvL l k).map dc).flatten]) (by repeat (first | exact Sel.nil | (apply Sel.cons; · (repeat (first | exact Pick.here | apply Pick.there)))))) .here (by omega)) (fun hra => ?_)
    obtain ⟨hcc, ga, oa, ha⟩ := hra; subst ha; refine gc_skip (gx_then (gc_block (gsr (zal fun b4 => ?_)))); refine gnt (gc_seq (gsr (zxm ?_))); refine zc ?_ (c := fun w1 F1 F2 h1 h2 hd hst => chunk2_ok h1)
    rintro ⟨q1, q2⟩
    refine gnt (gc_block (gc_turn (L2 := [DgsR b4 ((upT (lvL l k)).take 0), blk q1 61 [.slice (some ⟨ga, oa, none⟩) (lvL l k).length c], blk q2 3 [.int .i64 2], rowR 32 16 (some ⟨ga, oa, none⟩) (lvL l k).length c ((lvL l k).map dc).flatten, keepR k (rowR 32 16 a0 32 c0 (l.map dc).flatten), blk b1 61 [.slice a0 32 c0], J (k + 1), allR (dfsR bs)]) (fun w' hw => St.dgs (hw.rowNil.sel (M := [blk b4 61 [.slice none 0 0], rowR 32 16 none 0 0 [], blk q1 61 [.slice (some ⟨ga, oa, none⟩) (lvL l k).length c], blk q2 3 [.int .i64 2], rowR 32 16 (some ⟨ga, oa, none⟩) (lvL l k).length c ((lvL l k).map dc).flatten, keepR k (rowR 32 16 a0 32 c0 (l.map dc).flatten), blk b1 61 [.slice a0 32 c0], J (k + 1), allR (dfsR bs)]) (by repeat (first | exact Sel.nil | (apply Sel.cons; · (repeat (first | exact Pick.here | apply Pick.there)))))) rfl rfl) ?_)); refine gc_range (own := [blk q1 61 [.slice (some ⟨ga, oa, none⟩) (lvL l k).length c], blk q2 3 [.int .i64 2]]) (fun i => [DgsR b4 ((upT (lvL l k)).take i), rowR 32 16 (some ⟨ga, oa, none⟩) (lvL l k).length c ((lvL l k).map dc).flatten]) (fun _ _ => [pureR False]) (by exact rfl) Ty.call_119 (by repeat (first | exact Sel.nil | (apply Sel.cons; · (repeat (first | exact Pick.here | apply Pick.there))))) (by intros; rfl) (fun lp J Jx w1 F1 F2 h1 h2 hd hst => chunk3_it h1 hcc (by omega) hm) ?_ ?_ ?_
    ·intro lp rc rc' i x w1 F1 F2 h1 h2 hd hst; try dsimp only [List.cons_append, List.nil_append, zipE]
     have hK1 := hK.mv hst.still
     refine gc_pure1 (p := i < mm) (by repeat (first | exact Pick.here | apply Pick.there)) (fun hi => ?_)
     obtain ⟨e1, he1⟩ : ∃ e, (lvL l k)[2 * i]? = some e := ⟨_, List.getElem?_eq_getElem (by omega)⟩; obtain ⟨e2, he2⟩ : ∃ e, (lvL l k)[2 * i + 1]? = some e := ⟨_, List.getElem?_eq_getElem (by omega)⟩; have htl : ((upT (lvL l k)).take i).length ≤ 16 := by rw [List.length_take]; omega
     refine gc_dgs (by repeat (first | exact Pick.here | apply Pick.there)) (fun a4 c4 => ?_)
     refine gc_region (zxa ?_); refine gl_nil (gx_lp (by repeat (first | exact Pick.here | apply Pick.there)) ?_); refine gx_begin ?_; refine gc_block (gc_regionZ 10 ([blk b4 61 [.slice a4 ((upT (lvL l k)).take i).length c4], rowR 32 16 (some ⟨ga, oa, none⟩) (lvL l k).length c ((lvL l k).map dc).flatten]) ?_); refine yps 0 rfl zl ?_; refine yps 1 rfl zmv ?_; refine yps 2 rfl (r_val (v' := .pointer (some ⟨ga, oa + (2 * i) * 16, none⟩)) zia (by simp)) ?_; refine yps 3 rfl (r_ldRow (i := 2 * i) rfl Ty.row_32 Ty.sz_32 (by repeat (first | exact Pick.here | apply Pick.there)) (dcs_len _) (dcs_get he1) (by omega)) ?_; refine yps 4 rfl zmv ?_; refine yps 5 rfl (r_val (v' := .pointer (some ⟨ga, oa + (2 * i + 1) * 16, none⟩)) zia (by first | (simp; done) | (simp; omega))) ?_; refine yps 6 rfl (r_ldRow (i := 2 * i + 1) rfl Ty.row_32 Ty.sz_32 (by repeat (first | exact Pick.here | apply Pick.there)) (dcs_len _) (dcs_get he2) (by omega)) ?_; refine yos 7 rfl ?_; refine zc (fun _ => ?_) (c := fun w1 F1 F2 h1 h2 hd hst => join4_ok (x := e1) (y := e2) h1 (hK1.mv hst.still))
     refine yxs ?_; refine yos 8 rfl ?_; refine zeN fun b26 => ?_; refine yxs ?_; refine yos 9 rfl ?_; refine zapo (m := ((upT (lvL l k)).take i).length) (j := 1) (fun a27 c27 => ?_)
     refine yxs ?_; refine yzs rfl ?_; refine zs1 ?_; refine gl_nil (gx_block_normal (gx_rdn ?_)); intro w' hw; exact (St.dgs (ds := (upT (lvL l k)).take (i + 1)) (hw.sel (M := [blk b4 61 [.slice a27 _ c27], rowR 32 16 a27 _ c27 _, lpR lp rc', rowR 32 16 (some ⟨ga, oa, none⟩) (lvL l k).length c ((lvL l k).map dc).flatten]) (by repeat (first | exact Sel.nil | (apply Sel.cons; · (repeat (first | exact Pick.here | apply Pick.there)))))) (by rw [upT_take he1 he2, List.length_append]; rfl) (by rw [upT_take he1 he2]; simp)).z
    ·intro bU4 y m hy; try dsimp only [List.cons_append, List.nil_append]
     obtain rfl : m = mm := by cases y <;> simp_all [allOr]
     refine gx_block_normal (gx_thenM ?_); rw [hup]; refine gc_dgs (by repeat (first | exact Pick.here | apply Pick.there)) (fun a4 c4 => ?_)
     refine gc_region (gp zl ?_); refine zxa ?_; refine gl_nil (gx_block_normal (zrdF ((k + 1, (lvL l (k + 1)).length, a4, c4, bU4 :: bs)) ?_ ?_))
     ·show 5 - (k + 1) < 5 - k
      omega
     ·intro w' hw; have g1 := dfsS (keep_next h0 hl (hw.sel (M := [rowR 32 16 (some ⟨ga, oa, none⟩) (lvL l k).length c ((lvL l k).map dc).flatten, keepR k (rowR 32 16 a0 32 c0 (l.map dc).flatten), rowR 32 16 a4 (lvL l (k + 1)).length c4 ((lvL l (k + 1)).map dc).flatten, blk b1 61 [.slice a0 32 c0], J (k + 1), dfR bU4, allR (dfsR bs)]) (by repeat (first | exact Sel.nil | (apply Sel.cons; · (repeat (first | exact Pick.here | apply Pick.there)))))) |>.sel (M := [dfR bU4, allR (dfsR bs), rowR 32 16 a0 32 c0 (l.map dc).flatten, rowR 32 16 a4 (lvL l (k + 1)).length c4 ((lvL l (k + 1)).map dc).flatten, blk b1 61 [.slice a0 32 c0], J (k + 1)]) (by repeat (first | exact Sel.nil | (apply Sel.cons; · (repeat (first | exact Pick.here | apply Pick.there))))))
      have g2 : St w F [allR (dfsR (bU4 :: bs)), keepR (k + 1) (rowR 32 16 a0 32 c0 (l.map dc).flatten), rowR 32 16 a4 (lvL l (k + 1)).length c4 ((lvL l (k + 1)).map dc).flatten, blk b1 61 [.slice a0 32 c0], J (k + 1)] w' := by rw [kpS]; exact g1
      exact St.pureI (show k + 1 ≤ 5 ∧ (lvL l (k + 1)).length = (lvL l (k + 1)).length ∧ (k + 1 = 0 → a4 = a0 ∧ c4 = c0) from ⟨by omega, rfl, fun h => absurd h (by omega)⟩) (g2.z)
    ·exact fun _ _ _ _ _ => gc_noway
   ·try simp only at hc14
    have hk5 : k = 5 := by first | omega | (simp at hc14; omega)
    subst hk5; refine gc_exit ?_; refine gx_then_exit ?_; refine gx_round_exit ?_; refine gx_block_hit ?_; refine gx_marks' (by repeat (first | exact Pick.here | apply Pick.there)) ?_; refine gx_mark0' ?_; refine gx_ret0' rfl ?_; intro w' hw; exact ⟨true, rfl, (keep_next h0 hl (hw.sel (M := [rowR 32 16 a (lvL l 5).length c ((lvL l 5).map dc).flatten, keepR 5 (rowR 32 16 a0 32 c0 (l.map dc).flatten), J 6, blk b1 61 [.slice a0 32 c0]]) (by repeat (first | exact Sel.nil | (apply Sel.cons; · (repeat (first | exact Pick.here | apply Pick.there))))))).z⟩
theorem levels1_it {w : World} {F : Nat → Prop} {l : List Dig} {a0 : Option Addr} {c0 b1 lp : Nat} {J : Nat → Res} {Jx : Res} (h : stars [blk b1 61 [.slice a0 32 c0], rowR 32 16 a0 32 c0 (l.map dc).flatten, J 0] w F) (hl : l.length = 32) (hK : KR w (fun k => ¬ F k)) :
    IterH Tryz.prog 96 #[.pointer (some ⟨b1, 0, none⟩)] lvE (lvG l) lvH (allOr 6) (fun _ => [blk b1 61 [.slice a0 32 c0], rowR 32 16 a0 32 c0 (l.map dc).flatten]) (fun _ : Bool => .tuple #[]) lp J Jx w F := fun hy => by
  have h2 := levels1_ok h hl hK hy
  exact h2
end
section
theorem lv_some {l : List Dig} (h : l.length = 32) {i j : Nat} (hi : i < 6) (hj : j < (lvL l i).length) : (lvL l i)[j]? = some ((lvL l i).getD j dig0) := by
  rw [List.getD_eq_getElem?_getD, List.getElem?_eq_getElem hj]; rfl
theorem lv_pos {l : List Dig} (h : l.length = 32) {i : Nat} (hi : i < 6) : 0 < (lvL l i).length ∧ (lvL l i).length ≤ 32 := by
  have h1 := lvL_len h i
  have h' : i = 0 ∨ i = 1 ∨ i = 2 ∨ i = 3 ∨ i = 4 ∨ i = 5 := by omega
  rcases h' with rfl | rfl | rfl | rfl | rfl | rfl <;> simp [h1]
theorem mate_in {l : List Dig} (h : l.length = 32) {i x : Nat} (hi : i < 5) (hx : x < 32) : mate (x / 2 ^ i) < (lvL l i).length := by
  have h1 := lvL_len h i
  have h' : i = 0 ∨ i = 1 ∨ i = 2 ∨ i = 3 ∨ i = 4 := by omega
  rw [h1]
  unfold mate
  rcases h' with rfl | rfl | rfl | rfl | rfl <;> (split <;> omega)
def curR (l : List Dig) (i : Nat) : Dig := if i = 0 then dig0 else (lvL l (i - 1)).getD 0 dig0
attribute [local irreducible] Gl Gc Gx Gs Runs Wt
theorem root4_ok {w : World} {F : Nat → Prop} {ea : Nat → Addr} {l : List Dig} {a0 : Option Addr} {c0 : Nat} (h : stars [rowR 32 16 a0 32 c0 (l.map dc).flatten] w F) (hl : l.length = 32) (hK : KR w (fun k => ¬ F k))  :
    Calls Tryz.prog 31 #[.slice a0 32 c0] w (Post w F (fun _ : Unit => .tuple #[.agg (dc (rootT 5 l)).toArray, eV 241 ea 0]) (fun _ => [rowR 32 16 a0 32 c0 (l.map dc).flatten])) := by
 refine g_enterM (env := [(0, .slice a0 32 c0)]) Tryz.func31 rfl h Tryz.ntmps31 rfl rfl ?_; refine gsr (zal fun b2 => ?_); refine zxa ?_; refine gnt (gc_seq (gsr (zxm ?_))); refine gp zln ?_; refine gp (r_bool (c := false) zni (rfl)) ?_; refine gnt (gc_condF rfl rfl ?_); refine gc_skip (gx_then (gsr (zal fun b4 => ?_))); refine gnt (gc_seq (gsr (zxm ?_))); refine zc (fun q12 => ?_) (c := fun w1 F1 F2 h1 h2 hd hst => levels_ok h1)
 refine gnt (gc_block (gc_rangeH (H := lvH) (own := [blk q12 61 [.slice a0 32 c0], rowR 32 16 a0 32 c0 (l.map dc).flatten]) (fun i => [blk b4 32 (dc (curR l i)), blk b2 32 zD]) (fun _ _ => [pureR False]) (by exact rfl) Ty.call_96 (by repeat (first | exact Sel.nil | (apply Sel.cons; · (repeat (first | exact Pick.here | apply Pick.there))))) (by intros; rfl) (fun lp J Jx w1 F1 F2 h1 h2 hd hst => levels1_it h1 hl (hK.mv hst.still)) ?_ ?_ ?_))
 ·intro lp rc rc' i y w1 F1 F2 h1 h2 hd hst; try dsimp only [List.cons_append, List.nil_append, zipE]
  obtain ⟨xa, xc, xl⟩ := y; refine gc_pure1 (p := i < 6 ∧ xl = lvL l i) (by repeat (first | exact Pick.here | apply Pick.there)) (fun hx => ?_)
  obtain ⟨hi, rfl⟩ := hx; have hps := lv_pos hl hi
  refine gc_fact (fun w' hw => St.rowAt (hw.sel (M := [lvH i (xa, xc, lvL l i)]) (by repeat (first | exact Sel.nil | (apply Sel.cons; · (repeat (first | exact Pick.here | apply Pick.there)))))) .here (by exact hps.1)) (fun hra => ?_)
  obtain ⟨_, ga, oa, ha⟩ := hra; replace ha : xa = _ := ha
  subst ha; refine gc_region (zxa ?_); refine gl_nil (gx_begin ?_); refine gc_block (gc_region (zxm ?_)); refine gp (r_val (v' := .pointer (some ⟨ga, oa + 0 * 16, none⟩)) (zia (g := ga) (o := oa) (m := (lvL l i).length) (c := xc) (i := 0)) (by simp)) ?_; refine gp (r_ldRow (i := 0) (cs := dc ((lvL l i).getD 0 dig0)) rfl Ty.row_32 Ty.sz_32 (by repeat (first | exact Pick.here | apply Pick.there)) (dcs_len _) (dcs_get (lv_some hl hi hps.1)) hps.1) ?_; refine zsN ?_; refine gl_nil (gx_block_normal (gx_rdn ?_)); intro w' hw; exact (hw.sel (M := [lpR lp rc', blk b4 32 (dc ((lvL l i).getD 0 dig0)), blk b2 32 zD, lvH i (some ⟨ga, oa, none⟩, xc, lvL l i)]) (by repeat (first | exact Sel.nil | (apply Sel.cons; · (repeat (first | exact Pick.here | apply Pick.there))))))
 ·intro bU5 y m hy; try dsimp only [List.cons_append, List.nil_append]
  obtain rfl : m = 6 := by cases y <;> simp_all [allOr]
  rw [show curR l 6 = rootT 5 l from (rootT_lv l 5).symm]; refine gx_block_normal (gx_thenM ?_); refine gsr (gp zL ?_); refine zsN ?_; refine zxa ?_; refine gnt (gc_ret (gx_mark (by repeat (first | exact Pick.here | apply Pick.there)) ?_)); refine gx_mark0 ?_; refine gx_retct rfl rfl (by conv => lhs; whnf) (ldA Ty.row_32 Ty.sz_32) ?_; exact fun w' hw => ⟨(), by rw [eV_zero], hw.z⟩
 ·exact fun _ _ _ _ _ => gc_noway
end
section
attribute [local irreducible] Gl Gc Gx Gs Runs Wt
theorem path4_ok {w : World} {F : Nat → Prop} {ea : Nat → Addr} {l : List Dig} {a0 : Option Addr} {c0 x : Nat} (h : stars [rowR 32 16 a0 32 c0 (l.map dc).flatten] w F) (hl : l.length = 32) (hx : x < 32) (hK : KR w (fun k => ¬ F k))  :
    Calls Tryz.prog 108 #[.slice a0 32 c0, .int .i64 (x : Int)] w (Post w F (fun p : Option Addr × Nat => .tuple #[.slice p.1 5 p.2, eV 241 ea 0]) (fun p => [rowR 32 16 p.1 5 p.2 ((pathT 5 l x).map dc).flatten, rowR 32 16 a0 32 c0 (l.map dc).flatten])) := by
 refine g_enterM (env := [(0, .slice a0 32 c0), (1, .int .i64 (x : Int))]) Tryz.func108 rfl h Tryz.ntmps108 rfl rfl ?_; refine gsr (zb1 fun b3 => ?_); refine zxa ?_; refine zxa ?_; refine gnt (gc_seq (gc_block (gsr (zxm ?_)))); refine gp zln ?_; refine gp (r_bool (c := false) zni (rfl)) ?_; refine zxa ?_; refine gnt (gc_condF rfl rfl ?_); refine gsr (gp zl ?_); refine gp (r_bool (c := false) zlt (decide_eq_false (by omega))) ?_; refine zxm ?_; refine gq zl ?_; refine gq (r_bool (c := false) zge (decide_eq_false (by omega))) ?_; refine gp zpk ?_; refine zxa ?_; refine gnt (gc_condF rfl rfl ?_); refine gc_skip (gx_block_normal (gx_then (gsr (zal fun b6 => ?_)))); refine gnt (gc_seq (gsr (zxm ?_))); refine zc (fun q22 => ?_) (c := fun w1 F1 F2 h1 h2 hd hst => levels_ok h1)
 refine gnt (gc_block (gc_turn (L2 := [DgsR b6 (pathT (min 0 5) l x), blk q22 61 [.slice a0 32 c0], rowR 32 16 a0 32 c0 (l.map dc).flatten, blk b3 3 [.int .i64 ((x / 2 ^ 0 : Nat) : Int)]]) (fun w' hw => St.dgs (hw.rowNil.sel (M := [blk b6 61 [.slice none 0 0], rowR 32 16 none 0 0 [], blk q22 61 [.slice a0 32 c0], rowR 32 16 a0 32 c0 (l.map dc).flatten, blk b3 3 [.int .i64 ((x / 2 ^ 0 : Nat) : Int)]]) (by rw [Nat.pow_zero, Nat.div_one]; exact (by repeat (first | exact Sel.nil | (apply Sel.cons; · (repeat (first | exact Pick.here | apply Pick.there))))))) rfl rfl) ?_)); refine gc_rangeH (H := lvH) (own := [blk q22 61 [.slice a0 32 c0], rowR 32 16 a0 32 c0 (l.map dc).flatten]) (fun i => [DgsR b6 (pathT (min i 5) l x), blk b3 3 [.int .i64 ((x / 2 ^ i : Nat) : Int)]]) (fun _ _ => [pureR False]) (by exact rfl) Ty.call_96 (by repeat (first | exact Sel.nil | (apply Sel.cons; · (repeat (first | exact Pick.here | apply Pick.there))))) (by intros; rfl) (fun lp J Jx w1 F1 F2 h1 h2 hd hst => levels1_it h1 hl (hK.mv hst.still)) ?_ ?_ ?_
 ·intro lp rc rc' i y w1 F1 F2 h1 h2 hd hst; try dsimp only [List.cons_append, List.nil_append, zipE]
  obtain ⟨xa, xc, xl⟩ := y; refine gc_pure1 (p := i < 6 ∧ xl = lvL l i) (by repeat (first | exact Pick.here | apply Pick.there)) (fun hx => ?_)
  obtain ⟨hi, rfl⟩ := hx; have hps := lv_pos hl hi
  have hbig := lv_big hl (show i ≤ 5 by omega)
  refine gc_fact (fun w' hw => St.rowAt (hw.sel (M := [lvH i (xa, xc, lvL l i)]) (by repeat (first | exact Sel.nil | (apply Sel.cons; · (repeat (first | exact Pick.here | apply Pick.there)))))) .here (by exact hps.1)) (fun hra => ?_)
  obtain ⟨_, ga, oa, ha⟩ := hra; replace ha : xa = _ := ha
  subst ha; have hpl := pathT_len (min i 5) l x
  refine gc_dgs (by repeat (first | exact Pick.here | apply Pick.there)) (fun a6 c6 => ?_)
  refine gc_region (zxa ?_); refine gl_nil (gx_lp (by repeat (first | exact Pick.here | apply Pick.there)) ?_); refine gx_begin ?_; refine gc_block (gc_seq (gsr (zxm ?_))); refine gp zln ?_; refine gp (r_bool (c := decide (i < 5)) zgt (by rw [Bool.eq_iff_iff]; simp only [decide_eq_true_eq]; show ((((lvL l i).length : Nat) : Int) > 1) ↔ i < 5; omega)) ?_; refine gnt (gif rfl (fun hc26 => ?_) (fun hc26 => ?_))
  ·try simp only at hc26
   have hi5 : i < 5 := by simpa using hc26
   have hmi := mate_in hl hi5 hx
   have hp1 : pathT (min (i + 1) 5) l x = pathT (min i 5) l x ++ [(lvL l i).getD (mate (x / 2 ^ i)) dig0] := by rw [show min (i + 1) 5 = i + 1 by omega, show min i 5 = i by omega]; exact pathT_snoc i l x
   have hxi : x / 2 ^ i < 32 := Nat.lt_of_le_of_lt (Nat.div_le_self _ _) hx
   refine gc_regionZ 8 ([blk b6 61 [.slice a6 (pathT (min i 5) l x).length c6], blk b3 3 [.int .i64 ((x / 2 ^ i : Nat) : Int)], lvH i (some ⟨ga, oa, none⟩, xc, lvL l i)]) ?_; refine yps 0 rfl zl ?_; refine yps 1 rfl zmv ?_; refine yps 2 rfl zl ?_; refine yps 3 rfl (r_int (j := (((mate (x / 2 ^ i)) : Nat) : Int)) zbt (xor1 hxi)) ?_; refine yps 4 rfl (r_val (v' := .pointer (some ⟨ga, oa + (mate (x / 2 ^ i)) * 16, none⟩)) (zia (g := ga) (o := oa) (m := (lvL l i).length) (c := xc) (i := (((mate (x / 2 ^ i)) : Nat) : Int))) (by simp)) ?_; refine yps 5 rfl (r_ldRow (i := (mate (x / 2 ^ i))) (cs := dc ((lvL l i).getD (mate (x / 2 ^ i)) dig0)) rfl Ty.row_32 Ty.sz_32 (by repeat (first | exact Pick.here | apply Pick.there)) (dcs_len _) (dcs_get (lv_some hl hi hmi)) hmi) ?_; refine yos 6 rfl ?_; refine zeN fun b33 => ?_; refine yxs ?_; refine yos 7 rfl ?_; refine zapo (m := (pathT (min i 5) l x).length) (j := 1) (fun a34 c34 => ?_)
   refine yxs ?_; refine yzs rfl ?_; refine zs1 ?_; refine gnt (gc_region (gp zl ?_)); refine gp (r_int (j := ((x / 2 ^ (i + 1) : Nat) : Int)) zqu ((congrArg IntKind.i64.wrap (quo_nat (m := x / 2 ^ i) (k := 2))).trans (by rw [Nat.div_div_eq_div_mul, ← Nat.pow_succ]; exact wrap_nat (Nat.lt_of_le_of_lt (Nat.div_le_self _ _) (by omega))))) ?_; refine zs1 ?_; refine gl_nil (gx_block_normal (gx_rdn ?_)); intro w' hw; exact (St.dgs (ds := pathT (min (i + 1) 5) l x) (hw.sel (M := [blk b6 61 [.slice a34 _ c34], rowR 32 16 a34 _ c34 _, lpR lp rc', blk b3 3 [.int .i64 ((x / 2 ^ (i + 1) : Nat) : Int)], lvH i (some ⟨ga, oa, none⟩, xc, lvL l i)]) (by repeat (first | exact Sel.nil | (apply Sel.cons; · (repeat (first | exact Pick.here | apply Pick.there)))))) (by rw [pathT_len, pathT_len]; omega) (by rw [hp1]; simp)).z
  ·try simp only at hc26
   have hi5 : ¬ i < 5 := by simpa using hc26
   have hp1 : pathT (min (i + 1) 5) l x = pathT (min i 5) l x := by rw [show min (i + 1) 5 = min i 5 by omega]
   refine gc_skip (gx_then (gc_region (gp zl ?_))); refine gp (r_int (j := ((x / 2 ^ (i + 1) : Nat) : Int)) zqu ((congrArg IntKind.i64.wrap (quo_nat (m := x / 2 ^ i) (k := 2))).trans (by rw [Nat.div_div_eq_div_mul, ← Nat.pow_succ]; exact wrap_nat (Nat.lt_of_le_of_lt (Nat.div_le_self _ _) (by omega))))) ?_; refine zs1 ?_; refine gl_nil (gx_block_normal (gx_rdn ?_)); intro w' hw; exact (St.dgs (ds := pathT (min (i + 1) 5) l x) (hw.sel (M := [blk b6 61 [.slice a6 _ c6], rowR 32 16 a6 _ c6 _, lpR lp rc', blk b3 3 [.int .i64 ((x / 2 ^ (i + 1) : Nat) : Int)], lvH i (some ⟨ga, oa, none⟩, xc, lvL l i)]) (by repeat (first | exact Sel.nil | (apply Sel.cons; · (repeat (first | exact Pick.here | apply Pick.there)))))) (by rw [pathT_len, pathT_len]; omega) (by rw [hp1])).z
 ·intro bU7 y m hy; try dsimp only [List.cons_append, List.nil_append]
  obtain rfl : m = 6 := by cases y <;> simp_all [allOr]
  refine gx_block_normal (gx_thenM ?_); refine gc_seq ?_; have hpl := pathT_len 5 l x
  refine gc_dgs (ds := pathT 5 l x) (by repeat (first | exact Pick.here | apply Pick.there)) (fun a6 c6 => ?_)
  rw [hpl]; refine gc_region (gp zl ?_); refine zxa ?_; refine zxa ?_; refine gnt (gc_ret (gx_mark (by repeat (first | exact Pick.here | apply Pick.there)) ?_)); refine gx_mark0 ?_; refine gx_ret2 rfl (by conv => lhs; whnf) (by conv => lhs; whnf) ?_; exact fun w' hw => ⟨(a6, c6), by rw [eV_zero], hw.z⟩
 ·exact fun _ _ _ _ _ => gc_noway
end
section
attribute [local irreducible] Gl Gc Gx Gs Runs Wt
theorem digits_ok {w : World} {F : Nat → Prop} {d : Dig} (h : stars [] w F) :
    Calls Tryz.prog 123 #[.agg (dc d).toArray] w (Post w F (fun x : Option Addr × Nat => .slice x.1 68 x.2) (fun x => [rowR 3 1 x.1 68 x.2 ((digC d).map I64)])) := by
 have hdl := d.h
 refine g_enter (env := [(0, .agg (dc d).toArray)]) Tryz.func123 rfl h Tryz.ntmps123 rfl rfl ?_; refine gsr (zbN fun b1 => ?_); refine zxa ?_; refine zxs ?_; refine zxa ?_; refine zxs ?_; refine zxa ?_; refine gnt (gc_seq (gsr (gp zL ?_))); refine zxm ?_; refine gnt (gc_block (gc_loop (α := Nat × Nat × Nat × Option Addr × Nat) (fun y => [pureR (y.1 ≤ 16 ∧ y.2.1 = 4 * y.1 ∧ y.2.2.1 = sumD (digs (d.l.take y.1))), rowR 3 1 y.2.2.2.1 y.2.1 y.2.2.2.2 ((digs (d.l.take y.1)).map I64)]) (fun y => [(11, .int .i64 (y.1 : Int)), (3, .slice y.2.2.2.1 y.2.1 y.2.2.2.2), (4, .int .i64 (y.2.2.1 : Int))]) [6, 7, 8, 12, 13, 14, 15, 16, 17, 18, 19, 20, 21, 22, 23, 24, 25, 26, 27, 28, 29, 30, 31] (fun y => 16 - y.1) (0, 0, 0, none, 0) ?_ ?_ ?_))
 ·refine env_start (by kernel_rfl)
 ·exact fun w' hw => zlp ⟨Nat.zero_le _, rfl, rfl⟩ (by repeat (first | exact Sel.nil | (apply Sel.cons; · (repeat (first | exact Pick.here | apply Pick.there))))) w' hw.rowNil
 ·intro y u; obtain ⟨k, n, S, a, c⟩ := y; refine gc_pureR (fun hk => ?_)
  obtain ⟨hk, hn, hS⟩ := hk; replace hk : k ≤ 16 := hk
  replace hn : n = 4 * k := hn
  replace hS : S = sumD (digs (d.l.take k)) := hS
  have hsk := sumD_le (digs (d.l.take k))
  rw [digs_take_len (by omega), ← hS] at hsk; refine gsr (gp zlt ?_); refine gnt (gc_seq (gif rfl (fun hc12 => ?_) (fun hc12 => ?_)))
  ·try simp only at hc12
   have hk' : k < 16 := by omega
   have hst2 := digs_take (l := d.l) (k := k) (by omega)
   have hbx := (d.l.getD k 0).toNat_lt
   refine gc_skip (gx_then (gc_seq (gc_block (gsr (gp (r_index1 (v := B8 (d.l.getD k 0)) rfl rfl Ty.arr_32 Ty.sz_5 Ty.row_5 (by omega) (by omega) (row_byte (by omega) (by rw [d.h]; exact hk'))) ?_))))); refine zxa ?_; refine zxs ?_; refine zxa ?_; refine gnt (gc_block (gc_loop (α := Nat × Nat × Nat × Option Addr × Nat) (fun z => [pureR (z.1 ≤ 4 ∧ z.2.1 = n + z.1 ∧ z.2.2.1 = sumD ((digs (d.l.take k)) ++ (dig2 (d.l.getD k 0).toNat).take z.1)), rowR 3 1 z.2.2.2.1 z.2.1 z.2.2.2.2 (((digs (d.l.take k)) ++ (dig2 (d.l.getD k 0).toNat).take z.1).map I64)]) (fun z => [(7, .int .i64 (6 - 2 * (z.1 : Int))), (3, .slice z.2.2.2.1 z.2.1 z.2.2.2.2), (4, .int .i64 (z.2.2.1 : Int))]) [8, 14, 15, 16, 17, 18, 19, 20, 21, 22, 23, 24, 25, 26, 27, 28, 29, 30] (fun z => 4 - z.1) (0, n, S, a, c) ?_ ?_ ?_))
   ·refine env_start (by kernel_rfl)
   ·rw [List.take_zero, List.append_nil]; exact zlp ⟨Nat.zero_le _, rfl, hS⟩
   ·intro z u; obtain ⟨j, n2, S2, a2, c2⟩ := z; refine gc_pureR (fun hj => ?_)
    obtain ⟨hj, hn2, hS2⟩ := hj; replace hj : j ≤ 4 := hj
    replace hn2 : n2 = n + j := hn2
    replace hS2 : S2 = sumD ((digs (d.l.take k)) ++ (dig2 (d.l.getD k 0).toNat).take j) := hS2
    have hsj := sumD_le ((digs (d.l.take k)) ++ (dig2 (d.l.getD k 0).toNat).take j)
    rw [List.length_append, digs_take_len (by omega), ← hS2] at hsj; have hlj : ((dig2 (d.l.getD k 0).toNat).take j).length ≤ 4 := by rw [List.length_take]; exact Nat.le_trans (Nat.min_le_left _ _) hj
    refine gc_seq (gsr (zxm ?_)); refine gp zge ?_; refine gnt (gif rfl (fun hc15 => ?_) (fun hc15 => ?_))
    ·try simp only at hc15
     have hj' : j < 4 := by omega
     have hdj := dig2_take (b := (d.l.getD k 0).toNat) hj'
     have hx4 : ((d.l.getD k 0).toNat / 2 ^ (6 - 2 * j)) % 4 ≤ 3 := by omega
     have hdv : ((d.l.getD k 0).toNat / 2 ^ (6 - 2 * j)) ≤ (d.l.getD k 0).toNat := Nat.div_le_self _ _
     refine gc_skip (gx_then (gc_seq (gc_block (gsr (zxm ?_))))); refine zxm ?_; refine gp (r_val (v' := .int .u8 ((((d.l.getD k 0).toNat / 2 ^ (6 - 2 * j)) : Nat) : Int)) zhr (congrArg (Value.int .u8) (shr_b rfl hj' (by decide)))) ?_; refine gp (r_int (j := ((((d.l.getD k 0).toNat / 2 ^ (6 - 2 * j)) : Nat) : Int)) zci (wrap_nat (by omega))) ?_; refine gp (r_int (j := ((((d.l.getD k 0).toNat / 2 ^ (6 - 2 * j)) % 4 : Nat) : Int)) zbt (and3 (by omega))) ?_; refine zxa ?_; refine zxs ?_; refine zxm ?_; refine zxm ?_; refine ze1 fun b25 => ?_; refine zapo (m := n2) (j := 1) (news := [I64 (((d.l.getD k 0).toNat / 2 ^ (6 - 2 * j)) % 4)]) (fun a26 c26 => ?_)
     refine zxa ?_; refine gnt (gc_region (zxm ?_)); refine zxm ?_; refine gp (r_int (j := ((3 - ((d.l.getD k 0).toNat / 2 ^ (6 - 2 * j)) % 4 : Nat) : Int)) (zsb (h := sub3w hx4)) rfl) ?_; refine gp (r_int (j := ((S2 + (3 - ((d.l.getD k 0).toNat / 2 ^ (6 - 2 * j)) % 4) : Nat) : Int)) (zad (i := (S2 : Int)) (j := ((3 - ((d.l.getD k 0).toNat / 2 ^ (6 - 2 * j)) % 4 : Nat) : Int)) (h := add_w (by omega))) rfl) ?_; refine zxa ?_; refine gl_nil (gx_block_normal (gx_then (gc_region (zxm ?_)))); refine gp (r_int (j := 6 - 2 * ((j + 1 : Nat) : Int)) (zsb (i := 6 - 2 * (j : Int)) (j := 2) (h := wrap_i64 (by omega) (by omega))) (by omega)) ?_; refine zxa ?_; refine gl_nil (zrd ((j + 1, n2 + 1, S2 + (3 - ((d.l.getD k 0).toNat / 2 ^ (6 - 2 * j)) % 4), a26, c26)) ?_ ?_)
     ·show 4 - (j + 1) < 4 - j
      omega
     ·rw [hdj, ← List.append_assoc, map_I64]; exact zlp (show j + 1 ≤ 4 ∧ n2 + 1 = n + (j + 1) ∧ S2 + (3 - ((d.l.getD k 0).toNat / 2 ^ (6 - 2 * j)) % 4) = sumD (((digs (d.l.take k)) ++ (dig2 (d.l.getD k 0).toNat).take j) ++ [((d.l.getD k 0).toNat / 2 ^ (6 - 2 * j)) % 4]) from ⟨by omega, by omega, by rw [sumD_snoc, hS2]⟩)
    ·try simp only at hc15
     have hj' : j = 4 := by omega
     subst hj'; have e4 : (dig2 (d.l.getD k 0).toNat).take 4 = (dig2 (d.l.getD k 0).toNat) := rfl
     rw [e4] at hS2; rw [e4]; refine gc_exit ?_; refine gx_then_exit ?_; refine gx_round_exit ?_; refine gx_block_hit ?_; refine gx_block_normal (gx_then (gc_region (gp zad ?_))); refine zxm ?_; refine gl_nil (zrd ((k + 1, n2, S2, a2, c2)) ?_ ?_)
     ·show 16 - (k + 1) < 16 - k
      omega
     ·rw [← hst2]; exact zlp (show k + 1 ≤ 16 ∧ n2 = 4 * (k + 1) ∧ S2 = sumD (digs (d.l.take (k + 1))) from ⟨by omega, by omega, by rw [hst2]; exact hS2⟩)
  ·try simp only at hc12
   have hk' : k = 16 := by omega
   subst hk'; have e16 : d.l.take 16 = d.l := List.take_of_length_le (by omega)
   rw [e16] at hS; rw [e16]; refine gc_exit ?_; refine gx_then_exit ?_; refine gx_round_exit ?_; refine gx_block_hit ?_; refine gx_then (gc_seq (gsr (zxa ?_))); refine gnt (gc_block (gc_loop (α := Nat × Nat × Option Addr × Nat) (fun z => [pureR (z.1 ≤ 4 ∧ z.2.1 = 64 + z.1), rowR 3 1 z.2.2.1 z.2.1 z.2.2.2 ((digs d.l ++ (dig2 (sumD (digs d.l))).take z.1).map I64)]) (fun z => [(9, .int .i64 (6 - 2 * (z.1 : Int))), (3, .slice z.2.2.1 z.2.1 z.2.2.2)]) [32, 33, 34, 35, 36, 37, 38, 39, 40, 41, 42] (fun z => 4 - z.1) (0, n, a, c) ?_ ?_ ?_))
   ·refine env_start (by kernel_rfl)
   ·rw [List.take_zero, List.append_nil]; exact zlp ⟨Nat.zero_le _, by simp only; omega⟩
   ·intro z u; obtain ⟨j, n2, a2, c2⟩ := z; refine gc_pureR (fun hj => ?_)
    obtain ⟨hj, hn2⟩ := hj; replace hj : j ≤ 4 := hj
    replace hn2 : n2 = 64 + j := hn2
    refine gc_seq (gsr (zxm ?_)); refine gp zge ?_; refine gnt (gif rfl (fun hc33 => ?_) (fun hc33 => ?_))
    ·try simp only at hc33
     have hj' : j < 4 := by omega
     have hdj := dig2_take (b := sumD (digs d.l)) hj'
     have hdv : (sumD (digs d.l) / 2 ^ (6 - 2 * j)) ≤ sumD (digs d.l) := Nat.div_le_self _ _
     refine gc_skip (gx_then (gc_seq (gc_block (gc_region (zxm ?_))))); refine gp (r_int (j := ((sumD (digs d.l) : Nat) : Int)) zmv (by rw [← hS])) ?_; refine zxm ?_; refine gp (r_int (j := (((sumD (digs d.l) / 2 ^ (6 - 2 * j)) : Nat) : Int)) zhr (shr_b rfl hj' (by decide))) ?_; refine gp (r_int (j := (((sumD (digs d.l) / 2 ^ (6 - 2 * j)) % 4 : Nat) : Int)) zbt (and3 (by omega))) ?_; refine ze1 fun b41 => ?_; refine zapo (m := n2) (j := 1) (news := [I64 ((sumD (digs d.l) / 2 ^ (6 - 2 * j)) % 4)]) (fun a42 c42 => ?_)
     refine zxa ?_; refine gl_nil (gx_block_normal (gx_then (gc_region (zxm ?_)))); refine gp (r_int (j := 6 - 2 * ((j + 1 : Nat) : Int)) (zsb (i := 6 - 2 * (j : Int)) (j := 2) (h := wrap_i64 (by omega) (by omega))) (by omega)) ?_; refine zxa ?_; refine gl_nil (zrd ((j + 1, n2 + 1, a42, c42)) ?_ ?_)
     ·show 4 - (j + 1) < 4 - j
      omega
     ·rw [hdj, ← List.append_assoc, map_I64]; exact zlp (show j + 1 ≤ 4 ∧ n2 + 1 = 64 + (j + 1) by omega)
    ·try simp only at hc33
     have hj' : j = 4 := by omega
     subst hj'; have e4 : digs d.l ++ (dig2 (sumD (digs d.l))).take 4 = digC d := rfl
     rw [e4]; have hn68 : n2 = 68 := by omega
     subst hn68; refine gc_exit ?_; refine gx_then_exit ?_; refine gx_round_exit ?_; refine gx_block_hit ?_; refine gx_then (gsr (zxm ?_)); refine zxa ?_; refine gnt (gc_ret (gx_ret1 rfl (by conv => lhs; whnf) ?_)); exact ze (a2, c2)
end
section
def sigE (seed : Dig) (leaf : Nat) (d : Dig) (i : Nat) : Dig := runC leaf i 0 ((digC d).getD i 0) (secC seed leaf i)
def sigT (seed : Dig) (leaf : Nat) (d : Dig) (k : Nat) : List Value := ((List.range k).map fun i => dc (sigE seed leaf d i)).flatten
theorem sigT_succ (seed : Dig) (leaf : Nat) (d : Dig) (k : Nat) : sigT seed leaf d (k + 1) = sigT seed leaf d k ++ dc (sigE seed leaf d k) := by simp [sigT, List.range_succ]
theorem sigT_all (seed : Dig) (leaf : Nat) (d : Dig) : sigT seed leaf d 68 = ((sigC seed leaf d).map dc).flatten := by simp [sigT, sigC, sigE, Function.comp_def]
theorem row_int {l : List Nat} {e j : Nat} (he : e = j) (hj : j < l.length) : (l.map I64)[e]? = some (I64 (l.getD j 0)) := by
  subst he; rw [List.getElem?_map, List.getElem?_eq_getElem hj]; simp [List.getD, List.getElem?_eq_getElem hj]
theorem digC_get {d : Dig} {k : Nat} (hk : k < 68) : (digC d).getD k 0 ≤ 3 := by
  have hl : k < (digC d).length := by rw [digC_len]; exact hk
  rw [List.getD_eq_getElem?_getD, List.getElem?_eq_getElem hl]; exact digC_le (List.getElem_mem hl)
attribute [local irreducible] Gl Gc Gx Gs Runs Wt
theorem csign_ok {w : World} {F : Nat → Prop} {ea : Nat → Addr} {seed d : Dig} {leaf : Nat} (h : stars [] w F) (hl : leaf < 32) (hK : KR w (fun k => ¬ F k))  :
    Calls Tryz.prog 107 #[.agg (dc seed).toArray, .int .i64 (leaf : Int), .agg (dc d).toArray] w (Post w F (fun x : Option Addr × Nat => .tuple #[.slice x.1 68 x.2, eV 241 ea 0]) (fun x => [rowR 32 16 x.1 68 x.2 ((sigC seed leaf d).map dc).flatten])) := by
 refine g_enter (env := [(0, .agg (dc seed).toArray), (1, .int .i64 (leaf : Int)), (2, .agg (dc d).toArray)]) Tryz.func107 rfl h Tryz.ntmps107 rfl rfl ?_; refine gsr (zbN fun b3 => ?_); refine zbN fun b5 => ?_; refine zxa ?_; refine zxa ?_; refine gnt (gc_seq (gsr (zxm ?_))); refine zc (fun _ => ?_) (c := fun w1 F1 F2 h1 h2 hd hst => cright_ok h1 hl)
 refine gp (r_bool (c := false) znt (rfl)) ?_; refine gnt (gc_condF rfl rfl ?_); refine gc_skip (gx_then (gsr (zxa ?_))); refine gnt (gc_seq (gsr (gp zL ?_))); refine zc ?_ (c := fun w1 F1 F2 h1 h2 hd hst => digits_ok (d := d) h1)
 rintro ⟨a16, c16⟩
 refine gp zln ?_; refine zxm ?_; refine gnt (gc_block (gc_loop (α := Nat × Option Addr × Nat) (fun y => [pureR (y.1 ≤ 68), rowR 32 16 y.2.1 y.1 y.2.2 (sigT seed leaf d y.1), rowR 3 1 a16 68 c16 ((digC d).map I64), blk b3 32 (dc seed)]) (fun y => [(18, .int .i64 (y.1 : Int)), (8, .slice y.2.1 y.1 y.2.2)]) [9, 10, 19, 20, 21, 22, 23, 24, 25, 26, 27, 28, 29, 30, 31, 32, 33, 34] (fun y => 68 - y.1) (0, none, 0) ?_ ?_ ?_))
 ·refine env_start (by kernel_rfl)
 ·exact fun w' hw => zlp (Nat.zero_le _) (by repeat (first | exact Sel.nil | (apply Sel.cons; · (repeat (first | exact Pick.here | apply Pick.there))))) w' hw.rowNil
 ·intro y u; obtain ⟨k, a, c⟩ := y; refine gc_pureR (fun hk => ?_)
  replace hk : k ≤ 68 := hk
  refine gsr (gp zlt ?_); refine gnt (gc_seq (gif rfl (fun hc19 => ?_) (fun hc19 => ?_)))
  ·try simp only at hc19
   have hk' : k < 68 := by omega
   have hg := digC_get (d := d) hk'
   refine gc_fact (fun w' hw => St.rowAt (hw.sel (M := [rowR 3 1 a16 68 c16 ((digC d).map I64)]) (by repeat (first | exact Sel.nil | (apply Sel.cons; · (repeat (first | exact Pick.here | apply Pick.there)))))) .here (by omega)) (fun hra => ?_)
   obtain ⟨_, ga, oa, ha⟩ := hra; subst ha; refine gc_skip (gx_then (gc_seq (gc_block (gsr (zxm ?_))))); refine gp zia ?_; refine gp (r_ld1r (v := I64 ((digC d).getD k 0)) rfl Ty.row_3 (by repeat (first | exact Pick.here | apply Pick.there)) (row_int (by omega) (by rw [digC_len]; exact hk'))) ?_; refine zxa ?_; refine zxa ?_; refine gnt (gc_region (zxm ?_)); refine gp zL ?_; refine zxm ?_; refine zxm ?_; refine zc (fun _ => ?_) (c := fun w1 F1 F2 h1 h2 hd hst => secret_ok (seed := seed) (leaf := leaf) (i := k) h1 hl hk' (hK.mv hst.still))
   refine zxm ?_; refine zxm ?_; refine zxm ?_; refine zc (fun _ => ?_) (c := fun w1 F1 F2 h1 h2 hd hst => run_ok' (x := secC seed leaf k) (leaf := leaf) (i := k) (m := (digC d).getD k 0) h1 hl hk' hg (hK.mv hst.still))
   rw [show runC leaf k 0 ((digC d).getD k 0) (secC seed leaf k) = sigE seed leaf d k from rfl]; refine zeN fun b32 => ?_; refine zapo (m := k) (j := 1) (fun a33 c33 => ?_)
   refine zxa ?_; refine gl_nil (gx_block_normal (gx_then (gc_region (gp zad ?_)))); refine zxm ?_; refine gl_nil (zrd ((k + 1, a33, c33)) ?_ ?_)
   ·show 68 - (k + 1) < 68 - k
    omega
   ·rw [sigT_succ]; exact zlp (show k + 1 ≤ 68 by omega)
  ·try simp only at hc19
   have hk' : k = 68 := by omega
   subst hk'; rw [sigT_all]; refine gc_exit ?_; refine gx_then_exit ?_; refine gx_round_exit ?_; refine gx_block_hit ?_; refine gx_then (gsr (zxm ?_)); refine zxa ?_; refine zxa ?_; refine gnt (gc_ret (gx_ret2 rfl (by conv => lhs; whnf) (by conv => lhs; whnf) ?_)); exact fun w' hw => ⟨(a, c), by rw [eV_zero], hw.z⟩
end
section
def leavesK (seed : Dig) : List Dig := (List.range 32).map (pubK seed)
theorem leavesK_len (seed : Dig) : (leavesK seed).length = 32 := by simp [leavesK]
def rootK (seed : Dig) : Dig := rootT 5 (leavesK seed)
def lvsT (seed : Dig) (k : Nat) : List Value := ((List.range k).map fun i => dc (pubK seed i)).flatten
theorem lvsT_succ (seed : Dig) (k : Nat) : lvsT seed (k + 1) = lvsT seed k ++ dc (pubK seed k) := by simp [lvsT, List.range_succ]
theorem lvsT_all (seed : Dig) : lvsT seed 32 = ((leavesK seed).map dc).flatten := by simp [lvsT, leavesK, Function.comp_def]
def KeyR (q : Nat) (seed : Dig) : Res := exR fun p : Option Addr × Nat => allR [blk q 87 (dc seed ++ (.slice p.1 32 p.2 :: dc (rootK seed))), rowR 32 16 p.1 32 p.2 ((leavesK seed).map dc).flatten]
def sgC (leaf : Nat) (x : (Option Addr × Nat) × (Option Addr × Nat)) : List Value := [.int .i64 (leaf : Int), .slice x.1.1 68 x.1.2, .slice x.2.1 5 x.2.2]
def sgZ : List Value := [.int .i64 0, .slice none 0 0, .slice none 0 0]
def sgV (e leaf : Nat) (x : (Option Addr × Nat) × (Option Addr × Nat)) : List Value := if e = 0 then sgC leaf x else sgZ
def SgR (e : Nat) (x : (Option Addr × Nat) × (Option Addr × Nat)) (seed : Dig) (leaf : Nat) (d : Dig) : Res := if e = 0 then allR [rowR 32 16 x.1.1 68 x.1.2 ((sigC seed leaf d).map dc).flatten, rowR 32 16 x.2.1 5 x.2.2 ((pathT 5 (leavesK seed) leaf).map dc).flatten] else pureR True
def xn : (Option Addr × Nat) × (Option Addr × Nat) := ((none, 0), (none, 0))
instance {leaf : Nat} {x : (Option Addr × Nat) × (Option Addr × Nat)} : Len (sgC leaf x) 3 := ⟨rfl⟩
instance {leaf : Nat} {x : (Option Addr × Nat) × (Option Addr × Nat)} : One (sgC leaf x) := One.of (all_cons' rfl (all_cons' rfl (all_cons' rfl all_nil')))
theorem sgC_len (leaf : Nat) (x : (Option Addr × Nat) × (Option Addr × Nat)) : (sgC leaf x).length = 3 := rfl
theorem sgV_0 {e leaf : Nat} {x : (Option Addr × Nat) × (Option Addr × Nat)} (h : e = 0) : sgV e leaf x = sgC leaf x := if_pos h
theorem sgV_n {e leaf : Nat} {x : (Option Addr × Nat) × (Option Addr × Nat)} (h : ¬ e = 0) : sgV e leaf x = sgZ := if_neg h
theorem sgV_len (e leaf : Nat) (x : (Option Addr × Nat) × (Option Addr × Nat)) : (sgV e leaf x).length = 3 := by unfold sgV; split <;> rfl
theorem sgV_one (e leaf : Nat) (x : (Option Addr × Nat) × (Option Addr × Nat)) : ∀ v ∈ sgV e leaf x, v.oneCell' = true := by
  unfold sgV; split
  · exact all_cons' rfl (all_cons' rfl (all_cons' rfl all_nil'))
  · exact all_cons' rfl (all_cons' rfl (all_cons' rfl all_nil'))
instance {e leaf : Nat} {x : (Option Addr × Nat) × (Option Addr × Nat)} : Len (sgV e leaf x) 3 := ⟨sgV_len e leaf x⟩
instance {e leaf : Nat} {x : (Option Addr × Nat) × (Option Addr × Nat)} : One (sgV e leaf x) := One.of (sgV_one e leaf x)
def guC (qk qs : Nat) (s : VSt) : List Value := .pointer (some ⟨qk, 0, none⟩) :: .pointer (some ⟨qs, 0, none⟩) :: stC s
def GdR (g qk qs gd : Nat) (s : VSt) (sl : SL) : Res := allR [blk g 50 (guC qk qs s), SlR qs gd sl]
section
variable {w0 w : World} {F F0 : Nat → Prop} {L L' : List Res} {Q : Exit → Act → World → Prop} {n : Fm} {env : Env} {ops : Array Oper} {rest : List Oper} {P : Program} {q qk qs gd g m : Nat} {seed : Dig} {a : Option Addr} {c : Nat} {s : VSt} {sl : SL}
theorem key_open (h : stars (KeyR q seed :: L) w F) : ∃ a c, stars (blk q 87 (dc seed ++ (.slice a 32 c :: dc (rootK seed))) :: rowR 32 16 a 32 c ((leavesK seed).map dc).flatten :: L) w F := by
  obtain ⟨⟨a, c⟩, h⟩ := stars_ex h
  exact ⟨a, c, stars_all h⟩
theorem St.key (h : St w0 F0 (blk q 87 (dc seed ++ (.slice a 32 c :: dc (rootK seed))) :: rowR 32 16 a 32 c ((leavesK seed).map dc).flatten :: L) w) : St w0 F0 (KeyR q seed :: L) w := by
  obtain ⟨F, hF, hst⟩ := h
  exact ⟨F, stars_ex_mk (a, c) (stars_all_mk hF), hst⟩
theorem gd_open (h : stars (GdR g qk qs gd s sl :: L) w F) : stars (blk g 50 (.pointer (some ⟨qk, 0, none⟩) :: .pointer (some ⟨qs, 0, none⟩) :: stC s) :: SlR qs gd sl :: L) w F := stars_all h
theorem St.gu (h : St w0 F0 (blk g 50 (.pointer (some ⟨qk, 0, none⟩) :: .pointer (some ⟨qs, 0, none⟩) :: stC s) :: SlR qs gd sl :: L) w) : St w0 F0 (GdR g qk qs gd s sl :: L) w := by
  obtain ⟨F, hF, hst⟩ := h
  exact ⟨F, stars_all_mk hF, hst⟩
theorem gc_gd {k : Code} (hp : Pick L (GdR g qk qs gd s sl) L') (K : Gc P w0 F0 (blk g 50 (.pointer (some ⟨qk, 0, none⟩) :: .pointer (some ⟨qs, 0, none⟩) :: stC s) :: SlR qs gd sl :: L') k Q n env) : Gc P w0 F0 L k Q n env := fun w hw => by
  obtain ⟨F, hF, hst⟩ := hw.pick hp
  exact K w ⟨F, gd_open hF, hst⟩
theorem St.sg {x : (Option Addr × Nat) × (Option Addr × Nat)} {d : Dig} {leaf : Nat} (h : St w0 F0 (rowR 32 16 x.1.1 68 x.1.2 ((sigC seed leaf d).map dc).flatten :: rowR 32 16 x.2.1 5 x.2.2 ((pathT 5 (leavesK seed) leaf).map dc).flatten :: L) w) : St w0 F0 (SgR 0 x seed leaf d :: L) w := by
  obtain ⟨F, hF, hst⟩ := h
  exact ⟨F, stars_all_mk hF, hst⟩
theorem St.sgN {e : Nat} {x : (Option Addr × Nat) × (Option Addr × Nat)} {d : Dig} {leaf : Nat} (he : e ≠ 0) (h : St w0 F0 L w) : St w0 F0 (SgR e x seed leaf d :: L) w := by
  obtain ⟨F, hF, hst⟩ := h
  unfold SgR; rw [if_neg he]
  exact ⟨F, stars_pure_mk trivial hF, hst⟩
end
attribute [local irreducible] Gl Gc Gx Gs Runs Wt
theorem knew_ok {w : World} {F : Nat → Prop} {ea : Nat → Addr} {seed : Dig} (h : stars [] w F) (hK : KR w (fun k => ¬ F k))  :
    Calls Tryz.prog 10 #[.agg (dc seed).toArray] w (Post w F (fun q : Nat => .pointer (some ⟨q, 0, none⟩)) (fun q => [KeyR q seed])) := by
 refine g_enter (env := [(0, .agg (dc seed).toArray)]) Tryz.func10 rfl h Tryz.ntmps10 rfl rfl ?_; refine gsr (zbN fun b1 => ?_); refine zxa ?_; refine zxs ?_; refine gp zL ?_; refine gp (zbu (cs := dc seed ++ (.slice none 0 0 :: zD))) ?_; refine zbN fun b11 => ?_; refine zxa ?_; refine gnt (gc_seq (gsr (zxm ?_))); refine gnt (gc_block (gc_loop (α := Nat × Option Addr × Nat) (fun y => [pureR (y.1 ≤ 32), blk b11 87 (dc seed ++ (.slice y.2.1 y.1 y.2.2 :: dc dig0)), rowR 32 16 y.2.1 y.1 y.2.2 (lvsT seed y.1), blk b1 32 (dc seed)]) (fun y => [(12, .int .i64 (y.1 : Int))]) [4, 5, 6, 13, 14, 15, 16, 17, 18, 19, 20, 21, 22, 23, 24, 25, 26, 27, 28, 29, 30, 31, 32, 33] (fun y => 32 - y.1) (0, none, 0) ?_ ?_ ?_))
 ·refine env_start (by kernel_rfl)
 ·exact fun w' hw => zlp (Nat.zero_le _) (by repeat (first | exact Sel.nil | (apply Sel.cons; · (repeat (first | exact Pick.here | apply Pick.there))))) w' hw.rowNil
 ·intro y u; obtain ⟨k, a, c⟩ := y; refine gc_pureR (fun hk => ?_)
  replace hk : k ≤ 32 := hk
  refine gsr (gp zlt ?_); refine gnt (gc_seq (gif rfl (fun hc13 => ?_) (fun hc13 => ?_)))
  ·try simp only at hc13
   have hk' : k < 32 := by omega
   refine gc_skip (gx_then (gc_seq (gc_block (gsr (zxm ?_))))); refine zxa ?_; refine zxs ?_; refine gp zL ?_; refine zxm ?_; refine zc (fun _ => ?_) (c := fun w1 F1 F2 h1 h2 hd hst => Public_ok (ea := ea) (seed := seed) (leaf := k) h1 hk' (hK.mv hst.still))
   refine zxm ?_; refine gp zex ?_; refine gp zex ?_; refine zal fun b5 => ?_; refine zsN ?_; refine zxa ?_; refine zxs ?_; refine zxm ?_; refine gp (r_bool (c := true) (r_eqnil (k := 0) rfl (by kernel_rfl)) rfl) ?_; refine gnt (gc_condT rfl rfl ?_); refine gc_regionU 8 ([blk b11 87 (dc seed ++ (.slice a k c :: dc dig0)), blk b5 32 (dc (pubK seed k))]) ?_; refine ypu 0 rfl zmv ?_; refine ypu 1 rfl zmv ?_; refine ypu 2 rfl znc ?_; refine ypu 3 rfl zfa ?_; refine ypu 4 rfl zl ?_; refine ypu 5 rfl zL ?_; refine you 6 rfl ?_; refine zeN fun b29 => ?_; refine yxu ?_; refine you 7 rfl ?_; refine zapo (m := k) (j := 1) (fun a30 c30 => ?_)
   refine yxu ?_; refine yzu ?_; refine gp znc ?_; refine gp zfa ?_; refine zs1 ?_; refine gl_nil (gx_block_normal (gx_then (gc_region (gp zad ?_)))); refine zxm ?_; refine gl_nil (zrd ((k + 1, a30, c30)) ?_ ?_)
   ·show 32 - (k + 1) < 32 - k
    omega
   ·rw [lvsT_succ]; exact zlp (show k + 1 ≤ 32 by omega)
  ·try simp only at hc13
   have hk' : k = 32 := by omega
   subst hk'; rw [lvsT_all]; refine gc_exit ?_; refine gx_then_exit ?_; refine gx_round_exit ?_; refine gx_block_hit ?_; refine gx_then (gsr (zxm ?_)); refine gp znc ?_; refine gp zfa ?_; refine gp zl ?_; refine zc (fun _ => ?_) (c := fun w1 F1 F2 h1 h2 hd hst => root4_ok (ea := ea) (l := leavesK seed) h1 (leavesK_len seed) (hK.mv hst.still))
   refine zxm ?_; refine gp zex ?_; refine gp zex ?_; refine zal fun b7 => ?_; refine zsN ?_; refine zxa ?_; refine gnt (gc_seq (gsr (zxm ?_))); refine gp (r_bool (c := true) (r_eqnil (k := 0) rfl (by kernel_rfl)) rfl) ?_; refine gnt (gc_condT rfl rfl ?_); refine gc_region (zxm ?_); refine gp zL ?_; refine gp znc ?_; refine gp zfa ?_; refine zsN ?_; refine zxs ?_; refine zxm ?_; refine zxa ?_; refine gnt (gc_ret (gx_ret1 rfl (by conv => lhs; whnf) ?_)); exact fun w' hw => ⟨b11, rfl, St.key (a := a) (c := c) (hw.z)⟩
theorem kroot_ok {w : World} {F : Nat → Prop} {q : Nat} {seed : Dig} (h : stars [KeyR q seed] w F) :
    Calls Tryz.prog 18 #[.pointer (some ⟨q, 0, none⟩)] w (Post w F (fun _ : Unit => .agg (dc (rootK seed)).toArray) (fun _ => [KeyR q seed])) := by
 obtain ⟨a, c, h⟩ := key_open h; refine g_enter (env := [(0, .pointer (some ⟨q, 0, none⟩))]) Tryz.func18 rfl h Tryz.ntmps18 rfl rfl ?_; refine gsr (zal fun b2 => ?_); refine zxs ?_; refine zxm ?_; refine gp znc ?_; refine gp zfa ?_; refine gp zL ?_; refine zsA (dc_length _) (dc_one _) ?_; refine gnt (gc_ret (gx_retc rfl rfl (ldA Ty.row_32 Ty.sz_32) ?_)); exact fun w' hw => ⟨(), rfl, St.key (a := a) (c := c) (hw.z)⟩
end
section
attribute [local irreducible] Gl Gc Gx Gs Runs Wt
theorem ksign_ok {w : World} {F : Nat → Prop} {ea : Nat → Addr} {q leaf : Nat} {seed d : Dig} (h : stars [KeyR q seed] w F) (hl : leaf < 32) (hK : KR w (fun k => ¬ F k))  :
    Calls Tryz.prog 80 #[.pointer (some ⟨q, 0, none⟩), .int .i64 (leaf : Int), .agg (dc d).toArray] w (Post w F (fun x : (Option Addr × Nat) × (Option Addr × Nat) => .tuple #[.agg (sgC leaf x).toArray, eV 241 ea 0]) (fun x => [SgR 0 x seed leaf d, KeyR q seed])) := by
 obtain ⟨a, c, h⟩ := key_open h; refine g_enter (env := [(0, .pointer (some ⟨q, 0, none⟩)), (1, .int .i64 (leaf : Int)), (2, .agg (dc d).toArray)]) Tryz.func80 rfl h Tryz.ntmps80 rfl rfl ?_; refine gsr (zbN fun b5 => ?_); refine zal fun b6 => ?_; refine zxa ?_; refine gnt (gc_seq (gc_block (gsr (zxm ?_)))); refine gp (r_bool (c := false) zlt (decide_eq_false (by omega))) ?_; refine zxa ?_; refine gnt (gc_condF rfl rfl ?_); refine gsr (zxm ?_); refine gp (r_bool (c := false) zge (decide_eq_false (by omega))) ?_; refine zxa ?_; refine gnt (gc_condF rfl rfl ?_); refine gc_skip (gx_block_normal (gx_then (gc_seq (gc_regionZ 11 ([blk q 87 (dc seed ++ (.slice a 32 c :: dc (rootK seed))), blk b5 32 (dc d)]) ?_)))); refine yps 0 rfl zmv ?_; refine yps 1 rfl znc ?_; refine yps 2 rfl zfa ?_; refine yps 3 rfl zL ?_; refine yps 4 rfl zmv ?_; refine yps 5 rfl zL ?_; refine yos 6 rfl ?_; refine zc ?_ (c := fun w1 F1 F2 h1 h2 hd hst => csign_ok (ea := ea) (seed := seed) (d := d) (leaf := leaf) h1 hl (hK.mv hst.still))
 rintro ⟨a28, c28⟩
 refine yxs ?_; refine yps 7 rfl zmv ?_; refine yps 8 rfl zex ?_; refine yps 9 rfl zex ?_; refine yps 10 rfl zas ?_; refine yzs rfl ?_; refine zxa ?_; refine gnt (gc_seq (gsr (zxm ?_))); refine gp (r_bool (c := false) (r_nenil (k := 0) rfl (by kernel_rfl)) rfl) ?_; refine gnt (gc_condF rfl rfl ?_); refine gc_skip (gx_then (gsr (zxm ?_))); refine gp znc ?_; refine gp zfa ?_; refine gp zl ?_; refine zxm ?_; refine zc ?_ (c := fun w1 F1 F2 h1 h2 hd hst => path4_ok (ea := ea) (l := leavesK seed) (x := leaf) h1 (leavesK_len seed) hl (hK.mv hst.still))
 rintro ⟨a41, c41⟩
 refine zxm ?_; refine gp zex ?_; refine gp zex ?_; refine zxa ?_; refine zxa ?_; refine gnt (gc_seq (gsr (zxm ?_))); refine gp (r_bool (c := false) (r_nenil (k := 0) rfl (by kernel_rfl)) rfl) ?_; refine gnt (gc_condF rfl rfl ?_); refine gc_skip (gx_then (gsr (zxm ?_))); refine zxm ?_; refine zxm ?_; refine gp (zbu (cs := sgC leaf ((a28, c28), (a41, c41)))) ?_; refine zsA (sgC_len leaf ((a28, c28), (a41, c41))) One.h ?_; refine zxa ?_; refine gnt (gc_ret (gx_retct rfl rfl (by conv => lhs; whnf) (ldA Ty.row_63 Ty.sz_63) ?_)); exact fun w' hw => ⟨((a28, c28), (a41, c41)), by rw [eV_zero], St.sg (x := ((a28, c28), (a41, c41))) (d := d) (leaf := leaf) ((St.key (a := a) (c := c) (L := [rowR 32 16 a28 68 c28 ((sigC seed leaf d).map dc).flatten, rowR 32 16 a41 5 c41 ((pathT 5 (leavesK seed) leaf).map dc).flatten]) (hw.z)).z)⟩
end
section
attribute [local irreducible] Gl Gc Gx Gs Runs Wt
theorem vvote_ok {w : World} {F : Nat → Prop} {s : VSt} {e r q g : Int} (h : stars [] w F) {ea : Nat → Addr} {es : List Nat} [Has es 4] [Has es 5] [Has es 10] [Has es 14] [Has es 15] [Has es 18] (hE : GErr es w (fun k => ¬ F k) 241 ea)  :
    Calls Tryz.prog 46 #[.agg (stC s).toArray, .int .i64 e, .int .i64 r, .int .i64 q, .int .i64 g] w (Post w F (fun _ : Unit => .tuple #[.agg (stC (voteV s e r q g).1).toArray, eV 241 ea (voteV s e r q g).2]) (fun _ => [])) := by
 refine g_enter (env := [(0, .agg (stC s).toArray), (1, .int .i64 e), (2, .int .i64 r), (3, .int .i64 q), (4, .int .i64 g)]) Tryz.func46 rfl h Tryz.ntmps46 rfl rfl ?_; refine gsr (zbN fun b5 => ?_); refine zal fun b10 => ?_; refine zxa ?_; refine gnt (gc_seq (gsr (gp zL ?_))); refine zxm ?_; refine zxm ?_; refine zc (fun _ => ?_) (c := fun w1 F1 F2 h1 h2 hd hst => begin13_ok (e := e) (r := r) h1 (hE.mv hst.still))
 refine zxa ?_; refine zxs ?_; refine zxm ?_; refine gp (r_bool (c := decide (¬ beginV s e r = 0)) (r_nenil rfl (by kernel_rfl)) (by simp)) ?_; refine gnt (gif rfl (fun hc20 => ?_) (fun hc20 => ?_))
 ·try simp only at hc20
  have hb : ¬ beginV s e r = 0 := by simpa using hc20
  refine gsr (gp zL ?_); refine zxm ?_; refine zsN ?_; refine zxa ?_; refine gnt (gc_ret (gx_then_ret (gx_retct rfl rfl (by conv => lhs; whnf) (ldA Ty.row_45 Ty.sz_45) ?_))); exact fun w' hw => ⟨(), by rw [voteV, if_neg hb]; try rfl, hw.z⟩
 ·try simp only at hc20
  have hb : beginV s e r = 0 := by simpa using hc20
  obtain ⟨hok, he, hr1, hr2⟩ := beginV_ok hb; have hi := VSt.okI hok
  refine gc_skip (gx_then (gc_seq (gc_block (gc_seq ?_)))); by_cases hq : q < 0
  ·refine gc_region (zxm ?_); refine gp (r_bool (c := true) zlt (decide_eq_true hq)) ?_; refine zxm ?_; refine gn ?_; refine gn ?_; refine gn ?_; refine gp zpk ?_; refine zxa ?_; refine gnt (gc_condT rfl rfl ?_); refine gc_seq (gc_regionZ 3 ([blk b5 45 (stC s)]) ?_); refine yps 0 rfl zL ?_; refine yps 1 rfl (r_ld1o rfl Ty.row_26 (hE.c 14 Has.h) (hE.n 14 Has.h)) ?_; refine yos 2 rfl ?_; refine zsN ?_; refine yxs ?_; refine yzs rfl ?_; refine zxa ?_; refine gnt (gc_ret (gx_block_ret ?_)); refine gx_then_ret (gx_retct rfl rfl (by conv => lhs; whnf) (ldA Ty.row_45 Ty.sz_45) ?_); exact fun w' hw => ⟨(), by rw [voteV, if_pos hb, if_pos (.inl hq)]; try rfl, hw.z⟩
  ·refine gc_region (zxm ?_); refine gp (r_bool (c := false) zlt (decide_eq_false hq)) ?_; refine zxm ?_; refine gq zmv ?_; refine gq zmv ?_; refine gq zge ?_; refine gp zpk ?_; refine zxa ?_; refine gnt (gif rfl (fun hc23 => ?_) (fun hc23 => ?_))
   ·try simp only at hc23
    have hq2 : r ≤ q := by simpa using hc23
    refine gc_seq (gc_regionZ 3 ([blk b5 45 (stC s)]) ?_); refine yps 0 rfl zL ?_; refine yps 1 rfl (r_ld1o rfl Ty.row_26 (hE.c 14 Has.h) (hE.n 14 Has.h)) ?_; refine yos 2 rfl ?_; refine zsN ?_; refine yxs ?_; refine yzs rfl ?_; refine zxa ?_; refine gnt (gc_ret (gx_block_ret ?_)); refine gx_then_ret (gx_retct rfl rfl (by conv => lhs; whnf) (ldA Ty.row_45 Ty.sz_45) ?_); exact fun w' hw => ⟨(), by rw [voteV, if_pos hb, if_pos (.inr hq2)]; try rfl, hw.z⟩
   ·try simp only at hc23
    have hq2 : ¬ r ≤ q := by simpa using hc23
    have hq3 : ¬ (q < 0 ∨ r ≤ q) := by omega
    refine gsr (zxm ?_); refine gp zfa ?_; refine gp zl ?_; refine gp zle ?_; refine zxa ?_; refine gnt (gif rfl (fun hc33 => ?_) (fun hc33 => ?_))
    ·try simp only at hc33
     have hv : r ≤ s.v := by simpa using hc33
     refine gc_seq (gc_regionZ 3 ([blk b5 45 (stC s)]) ?_); refine yps 0 rfl zL ?_; refine yps 1 rfl (r_ld1o rfl Ty.row_26 (hE.c 10 Has.h) (hE.n 10 Has.h)) ?_; refine yos 2 rfl ?_; refine zsN ?_; refine yxs ?_; refine yzs rfl ?_; refine zxa ?_; refine gnt (gc_ret (gx_block_ret ?_)); refine gx_then_ret (gx_retct rfl rfl (by conv => lhs; whnf) (ldA Ty.row_45 Ty.sz_45) ?_); exact fun w' hw => ⟨(), by rw [voteV, if_pos hb, if_neg hq3, if_pos hv]; try rfl, hw.z⟩
    ·try simp only at hc33
     have hv : ¬ r ≤ s.v := by simpa using hc33
     refine gsr (zxm ?_); refine gp zfa ?_; refine gp zl ?_; refine gp zlt ?_; refine zxa ?_; refine gnt (gif rfl (fun hc40 => ?_) (fun hc40 => ?_))
     ·try simp only at hc40
      have hl : q < s.l := by simpa using hc40
      refine gc_seq (gc_regionZ 3 ([blk b5 45 (stC s)]) ?_); refine yps 0 rfl zL ?_; refine yps 1 rfl (r_ld1o rfl Ty.row_26 (hE.c 15 Has.h) (hE.n 15 Has.h)) ?_; refine yos 2 rfl ?_; refine zsN ?_; refine yxs ?_; refine yzs rfl ?_; refine zxa ?_; refine gnt (gc_ret (gx_block_ret ?_)); refine gx_then_ret (gx_retct rfl rfl (by conv => lhs; whnf) (ldA Ty.row_45 Ty.sz_45) ?_); exact fun w' hw => ⟨(), by rw [voteV, if_pos hb, if_neg hq3, if_neg hv, if_pos hl]; try rfl, hw.z⟩
     ·try simp only at hc40
      have hl : ¬ q < s.l := by simpa using hc40
      refine gc_skip (gx_block_normal (gx_then (gc_seq ?_))); by_cases h32 : 32 ≤ s.lf
      ·have ee : endV s false = (s, 5) := by rw [endV, if_neg (by decide), if_pos h32]
       refine gc_region (gp zL ?_); refine zc (fun _ => ?_) (c := fun w1 F1 F2 h1 h2 hd hst => end13_ok (old := false) h1 (by omega) (hE.mv hst.still))
       rw [ee]; refine zxm ?_; refine gp zex ?_; refine gp zex ?_; refine zal fun b13 => ?_; refine zsN ?_; refine zxa ?_; refine gnt (gc_seq (gsr (zxm ?_))); refine gp (r_bool (c := true) (r_nenil rfl (by kernel_rfl)) (by simp)) ?_; refine gnt (gc_condT rfl rfl ?_); refine gsr (gp zL ?_); refine zxm ?_; refine zsN ?_; refine zxa ?_; refine gnt (gc_ret (gx_then_ret (gx_retct rfl rfl (by conv => lhs; whnf) (ldA Ty.row_45 Ty.sz_45) ?_))); exact fun w' hw => ⟨(), by rw [voteV, if_pos hb, if_neg hq3, if_neg hv, if_neg hl, if_pos h32]; try rfl, hw.z⟩
      ·have ee : endV s false = ({ s with lf := s.lf + 1 }, 0) := by rw [endV, if_neg (by decide), if_neg h32]
       refine gc_region (gp zL ?_); refine zc (fun _ => ?_) (c := fun w1 F1 F2 h1 h2 hd hst => end13_ok (old := false) h1 (by omega) (hE.mv hst.still))
       rw [ee]; refine zxm ?_; refine gp zex ?_; refine gp zex ?_; refine zal fun b13 => ?_; refine zsN ?_; refine zxa ?_; refine gnt (gc_seq (gsr (zxm ?_))); refine gp (r_bool (c := false) (r_nenil rfl (by kernel_rfl)) (by simp)) ?_; refine gnt (gc_condF rfl rfl ?_); refine gc_skip (gx_then (gsr (zxm ?_))); refine gp zfa ?_; refine gl_stI (l' := stC { s with lf := s.lf + 1, v := r }) (i := 1) (by repeat (first | exact Pick.here | apply Pick.there)) (by show 1 < 5; omega) rfl ?_; refine gnt (gc_seq (gsr (zxm ?_))); refine zxm ?_; refine gp zle ?_; refine gnt (gif rfl (fun hc60 => ?_) (fun hc60 => ?_))
       ·try simp only at hc60
        have hg : g ≤ q := by simpa using hc60
        refine gc_region (gp zfa ?_); refine gp zl ?_; refine zxm ?_; refine gp (r_int (j := max s.l g) r_max (by split <;> omega)) ?_; refine gp zfa ?_; refine gl_stI (l' := stC { s with lf := s.lf + 1, v := r, l := max s.l g }) (i := 2) (by repeat (first | exact Pick.here | apply Pick.there)) (by show 2 < 5; omega) rfl ?_; refine zxs ?_; refine gp zL ?_; refine zsN ?_; refine zxa ?_; refine gnt (gc_ret (gx_retct rfl rfl (by conv => lhs; whnf) (ldA Ty.row_45 Ty.sz_45) ?_)); exact fun w' hw => ⟨(), by rw [voteV, if_pos hb, if_neg hq3, if_neg hv, if_neg hl, if_neg h32, if_pos hg]; simp only [eV_zero]; try rfl, hw.z⟩
       ·try simp only at hc60
        have hg : ¬ g ≤ q := by simpa using hc60
        refine gc_skip (gx_then (gsr (gp zL ?_))); refine zsN ?_; refine zxa ?_; refine gnt (gc_ret (gx_retct rfl rfl (by conv => lhs; whnf) (ldA Ty.row_45 Ty.sz_45) ?_)); exact fun w' hw => ⟨(), by rw [voteV, if_pos hb, if_neg hq3, if_neg hv, if_neg hl, if_neg h32, if_neg hg]; simp only [eV_zero]; try rfl, hw.z⟩
theorem vlate_ok {w : World} {F : Nat → Prop} {s : VSt} {e r : Int} (h : stars [] w F) {ea : Nat → Addr} {es : List Nat} [Has es 4] [Has es 5] [Has es 10] [Has es 14] [Has es 15] [Has es 18] (hE : GErr es w (fun k => ¬ F k) 241 ea)  :
    Calls Tryz.prog 49 #[.agg (stC s).toArray, .int .i64 e, .int .i64 r] w (Post w F (fun _ : Unit => .tuple #[.agg (stC (lateV s e r).1).toArray, eV 241 ea (lateV s e r).2]) (fun _ => [])) := by
 refine g_enter (env := [(0, .agg (stC s).toArray), (1, .int .i64 e), (2, .int .i64 r)]) Tryz.func49 rfl h Tryz.ntmps49 rfl rfl ?_; refine gsr (zbN fun b3 => ?_); refine zal fun b6 => ?_; refine zxa ?_; refine gnt (gc_seq (gsr (gp zL ?_))); refine zxm ?_; refine zxm ?_; refine zc (fun _ => ?_) (c := fun w1 F1 F2 h1 h2 hd hst => begin13_ok (e := e) (r := r) h1 (hE.mv hst.still))
 refine zxa ?_; refine zxs ?_; refine zxm ?_; refine gp (r_bool (c := decide (¬ beginV s e r = 0)) (r_nenil rfl (by kernel_rfl)) (by simp)) ?_; refine gnt (gif rfl (fun hc16 => ?_) (fun hc16 => ?_))
 ·try simp only at hc16
  have hb : ¬ beginV s e r = 0 := by simpa using hc16
  refine gsr (gp zL ?_); refine zxm ?_; refine zsN ?_; refine zxa ?_; refine gnt (gc_ret (gx_then_ret (gx_retct rfl rfl (by conv => lhs; whnf) (ldA Ty.row_45 Ty.sz_45) ?_))); exact fun w' hw => ⟨(), by rw [lateV, if_neg hb]; try rfl, hw.z⟩
 ·try simp only at hc16
  have hb : beginV s e r = 0 := by simpa using hc16
  obtain ⟨hok, he, hr1, hr2⟩ := beginV_ok hb; have hi := VSt.okI hok
  refine gc_skip (gx_then (gc_seq ?_)); by_cases h32 : 32 ≤ s.lf
  ·have ee : endV s false = (s, 5) := by rw [endV, if_neg (by decide), if_pos h32]
   refine gc_region (gp zL ?_); refine zc (fun _ => ?_) (c := fun w1 F1 F2 h1 h2 hd hst => end13_ok (old := false) h1 (by omega) (hE.mv hst.still))
   rw [ee]; refine zxm ?_; refine gp zex ?_; refine gp zex ?_; refine zal fun b9 => ?_; refine zsN ?_; refine zxa ?_; refine gnt (gc_seq (gsr (zxm ?_))); refine gp (r_bool (c := true) (r_nenil rfl (by kernel_rfl)) (by simp)) ?_; refine gnt (gc_condT rfl rfl ?_); refine gsr (gp zL ?_); refine zxm ?_; refine zsN ?_; refine zxa ?_; refine gnt (gc_ret (gx_then_ret (gx_retct rfl rfl (by conv => lhs; whnf) (ldA Ty.row_45 Ty.sz_45) ?_))); exact fun w' hw => ⟨(), by rw [lateV, if_pos hb, if_pos h32]; try rfl, hw.z⟩
  ·have ee : endV s false = ({ s with lf := s.lf + 1 }, 0) := by rw [endV, if_neg (by decide), if_neg h32]
   refine gc_region (gp zL ?_); refine zc (fun _ => ?_) (c := fun w1 F1 F2 h1 h2 hd hst => end13_ok (old := false) h1 (by omega) (hE.mv hst.still))
   rw [ee]; refine zxm ?_; refine gp zex ?_; refine gp zex ?_; refine zal fun b9 => ?_; refine zsN ?_; refine zxa ?_; refine gnt (gc_seq (gsr (zxm ?_))); refine gp (r_bool (c := false) (r_nenil rfl (by kernel_rfl)) (by simp)) ?_; refine gnt (gc_condF rfl rfl ?_); refine gc_skip (gx_then (gsr (gp zfa ?_))); refine gp zl ?_; refine zxm ?_; refine gp (r_int (j := max s.v r) r_max (by split <;> omega)) ?_; refine gp zfa ?_; refine zs1 ?_; refine zxs ?_; refine gp zL ?_; refine zsN ?_; refine zxa ?_; refine gnt (gc_ret (gx_retct rfl rfl (by conv => lhs; whnf) (ldA Ty.row_45 Ty.sz_45) ?_)); exact fun w' hw => ⟨(), by rw [lateV, if_pos hb, if_neg h32]; simp only [eV_zero]; try rfl, hw.z⟩
end
section
attribute [local irreducible] Gl Gc Gx Gs Runs Wt
theorem vprop_ok {w : World} {F : Nat → Prop} {s : VSt} {e r : Int} (h : stars [] w F) {ea : Nat → Addr} {es : List Nat} [Has es 4] [Has es 5] [Has es 10] [Has es 14] [Has es 15] [Has es 18] (hE : GErr es w (fun k => ¬ F k) 241 ea)  :
    Calls Tryz.prog 82 #[.agg (stC s).toArray, .int .i64 e, .int .i64 r] w (Post w F (fun _ : Unit => .tuple #[.agg (stC (propV s e r).1).toArray, eV 241 ea (propV s e r).2]) (fun _ => [])) := by
 refine g_enter (env := [(0, .agg (stC s).toArray), (1, .int .i64 e), (2, .int .i64 r)]) Tryz.func82 rfl h Tryz.ntmps82 rfl rfl ?_; refine gsr (zbN fun b3 => ?_); refine zal fun b6 => ?_; refine zxa ?_; refine gnt (gc_seq (gsr (gp zL ?_))); refine zxm ?_; refine zxm ?_; refine zc (fun _ => ?_) (c := fun w1 F1 F2 h1 h2 hd hst => begin13_ok (e := e) (r := r) h1 (hE.mv hst.still))
 refine zxa ?_; refine zxs ?_; refine zxm ?_; refine gp (r_bool (c := decide (¬ beginV s e r = 0)) (r_nenil rfl (by kernel_rfl)) (by simp)) ?_; refine gnt (gif rfl (fun hc16 => ?_) (fun hc16 => ?_))
 ·try simp only at hc16
  have hb : ¬ beginV s e r = 0 := by simpa using hc16
  refine gsr (gp zL ?_); refine zxm ?_; refine zsN ?_; refine zxa ?_; refine gnt (gc_ret (gx_then_ret (gx_retct rfl rfl (by conv => lhs; whnf) (ldA Ty.row_45 Ty.sz_45) ?_))); exact fun w' hw => ⟨(), by rw [propV, if_neg hb]; try rfl, hw.z⟩
 ·try simp only at hc16
  have hb : beginV s e r = 0 := by simpa using hc16
  obtain ⟨hok, he, hr1, hr2⟩ := beginV_ok hb; have hi := VSt.okI hok
  refine gc_skip (gx_then (gc_seq ?_)); by_cases hp : r ≤ s.p
  ·have ee : endV s (decide (r ≤ s.p)) = (s, 10) := by rw [endV, if_pos (decide_eq_true hp)]
   refine gc_region (gp zL ?_); refine zxm ?_; refine gp zfa ?_; refine gp zl ?_; refine gp zle ?_; refine zc (fun _ => ?_) (c := fun w1 F1 F2 h1 h2 hd hst => end13_ok (old := decide (r ≤ s.p)) h1 (by omega) (hE.mv hst.still))
   rw [ee]; refine zxm ?_; refine gp zex ?_; refine gp zex ?_; refine zal fun b9 => ?_; refine zsN ?_; refine zxa ?_; refine gnt (gc_seq (gsr (zxm ?_))); refine gp (r_bool (c := true) (r_nenil rfl (by kernel_rfl)) (by simp)) ?_; refine gnt (gc_condT rfl rfl ?_); refine gsr (gp zL ?_); refine zxm ?_; refine zsN ?_; refine zxa ?_; refine gnt (gc_ret (gx_then_ret (gx_retct rfl rfl (by conv => lhs; whnf) (ldA Ty.row_45 Ty.sz_45) ?_))); exact fun w' hw => ⟨(), by rw [propV, if_pos hb, if_pos hp]; try rfl, hw.z⟩
  ·by_cases h32 : 32 ≤ s.lf
   ·have ee : endV s (decide (r ≤ s.p)) = (s, 5) := by rw [endV, if_neg (by simpa using hp), if_pos h32]
    refine gc_region (gp zL ?_); refine zxm ?_; refine gp zfa ?_; refine gp zl ?_; refine gp zle ?_; refine zc (fun _ => ?_) (c := fun w1 F1 F2 h1 h2 hd hst => end13_ok (old := decide (r ≤ s.p)) h1 (by omega) (hE.mv hst.still))
    rw [ee]; refine zxm ?_; refine gp zex ?_; refine gp zex ?_; refine zal fun b9 => ?_; refine zsN ?_; refine zxa ?_; refine gnt (gc_seq (gsr (zxm ?_))); refine gp (r_bool (c := true) (r_nenil rfl (by kernel_rfl)) (by simp)) ?_; refine gnt (gc_condT rfl rfl ?_); refine gsr (gp zL ?_); refine zxm ?_; refine zsN ?_; refine zxa ?_; refine gnt (gc_ret (gx_then_ret (gx_retct rfl rfl (by conv => lhs; whnf) (ldA Ty.row_45 Ty.sz_45) ?_))); exact fun w' hw => ⟨(), by rw [propV, if_pos hb, if_neg hp, if_pos h32]; try rfl, hw.z⟩
   ·have ee : endV s (decide (r ≤ s.p)) = ({ s with lf := s.lf + 1 }, 0) := by rw [endV, if_neg (by simpa using hp), if_neg h32]
    refine gc_region (gp zL ?_); refine zxm ?_; refine gp zfa ?_; refine gp zl ?_; refine gp zle ?_; refine zc (fun _ => ?_) (c := fun w1 F1 F2 h1 h2 hd hst => end13_ok (old := decide (r ≤ s.p)) h1 (by omega) (hE.mv hst.still))
    rw [ee]; refine zxm ?_; refine gp zex ?_; refine gp zex ?_; refine zal fun b9 => ?_; refine zsN ?_; refine zxa ?_; refine gnt (gc_seq (gsr (zxm ?_))); refine gp (r_bool (c := false) (r_nenil rfl (by kernel_rfl)) (by simp)) ?_; refine gnt (gc_condF rfl rfl ?_); refine gc_skip (gx_then (gsr (zxm ?_))); refine gp zfa ?_; refine zs1 ?_; refine zxs ?_; refine gp zL ?_; refine zsN ?_; refine zxa ?_; refine gnt (gc_ret (gx_retct rfl rfl (by conv => lhs; whnf) (ldA Ty.row_45 Ty.sz_45) ?_)); exact fun w' hw => ⟨(), by rw [propV, if_pos hb, if_neg hp, if_neg h32]; simp only [eV_zero]; try rfl, hw.z⟩
theorem venter_ok {w : World} {F : Nat → Prop} {s : VSt} {e : Int} (h : stars [] w F) {ea : Nat → Addr} {es : List Nat} [Has es 4] [Has es 18] (hE : GErr es w (fun k => ¬ F k) 241 ea)  :
    Calls Tryz.prog 45 #[.agg (stC s).toArray, .int .i64 e] w (Post w F (fun _ : Unit => .tuple #[.agg (stC (enterV s e).1).toArray, eV 241 ea (enterV s e).2]) (fun _ => [])) := by
 refine g_enter (env := [(0, .agg (stC s).toArray), (1, .int .i64 e)]) Tryz.func45 rfl h Tryz.ntmps45 rfl rfl ?_; refine gsr (zbN fun b2 => ?_); refine zal fun b4 => ?_; refine zxa ?_; refine gnt (gc_seq (gc_block (gsr (gp zL ?_)))); refine zc (fun _ => ?_) (c := fun w1 F1 F2 h1 h2 hd hst => vright_ok h1)
 refine gp znt ?_; refine zxa ?_; refine gnt (gif rfl (fun hc6 => ?_) (fun hc6 => ?_))
 ·try simp only at hc6
  have hk : ¬ s.ok = true := by simpa using hc6
  refine gc_seq (gc_regionZ 3 ([blk b2 45 (stC s)]) ?_); refine yps 0 rfl zL ?_; refine yps 1 rfl (r_ld1o rfl Ty.row_26 (hE.c 4 Has.h) (hE.n 4 Has.h)) ?_; refine yos 2 rfl ?_; refine zsN ?_; refine yxs ?_; refine yzs rfl ?_; refine zxa ?_; refine gnt (gc_ret (gx_block_ret ?_)); refine gx_then_ret (gx_retct rfl rfl (by conv => lhs; whnf) (ldA Ty.row_45 Ty.sz_45) ?_); exact fun w' hw => ⟨(), by rw [enterV, if_neg hk]; try rfl, hw.z⟩
 ·try simp only at hc6
  have hk : s.ok = true := by simpa using hc6
  refine gc_seq ?_; by_cases he : e ≤ s.e
  ·refine gc_region (zxm ?_); refine gp zfa ?_; refine gp zl ?_; refine gp (r_bool (c := true) zle (decide_eq_true he)) ?_; refine zxm ?_; refine gn ?_; refine gn ?_; refine gp zpk ?_; refine zxa ?_; refine gnt (gc_condT rfl rfl ?_); refine gc_seq (gc_regionZ 3 ([blk b2 45 (stC s)]) ?_); refine yps 0 rfl zL ?_; refine yps 1 rfl (r_ld1o rfl Ty.row_26 (hE.c 18 Has.h) (hE.n 18 Has.h)) ?_; refine yos 2 rfl ?_; refine zsN ?_; refine yxs ?_; refine yzs rfl ?_; refine zxa ?_; refine gnt (gc_ret (gx_block_ret ?_)); refine gx_then_ret (gx_retct rfl rfl (by conv => lhs; whnf) (ldA Ty.row_45 Ty.sz_45) ?_); exact fun w' hw => ⟨(), by rw [enterV, if_pos hk, if_pos (.inl he)]; try rfl, hw.z⟩
  ·refine gc_region (zxm ?_); refine gp zfa ?_; refine gp zl ?_; refine gp (r_bool (c := false) zle (decide_eq_false he)) ?_; refine zxm ?_; refine gq zmv ?_; refine gq zgt ?_; refine gp zpk ?_; refine zxa ?_; refine gnt (gif rfl (fun hc12 => ?_) (fun hc12 => ?_))
   ·try simp only at hc12
    have he2 : 1073741824 < e := by simpa using hc12
    refine gc_seq (gc_regionZ 3 ([blk b2 45 (stC s)]) ?_); refine yps 0 rfl zL ?_; refine yps 1 rfl (r_ld1o rfl Ty.row_26 (hE.c 18 Has.h) (hE.n 18 Has.h)) ?_; refine yos 2 rfl ?_; refine zsN ?_; refine yxs ?_; refine yzs rfl ?_; refine zxa ?_; refine gnt (gc_ret (gx_block_ret ?_)); refine gx_then_ret (gx_retct rfl rfl (by conv => lhs; whnf) (ldA Ty.row_45 Ty.sz_45) ?_); exact fun w' hw => ⟨(), by rw [enterV, if_pos hk, if_pos (.inr he2)]; try rfl, hw.z⟩
   ·try simp only at hc12
    have he2 : ¬ 1073741824 < e := by simpa using hc12
    refine gc_skip (gx_block_normal (gx_then (gsr (zxm ?_)))); refine gp zfa ?_; refine gp zl ?_; refine gp (zbu (cs := stC ⟨e, 0, 0, 0, s.lf⟩)) ?_; refine zsA (stC_len _) (stC_one _) ?_; refine zxa ?_; refine gnt (gc_ret (gx_retct rfl rfl (by conv => lhs; whnf) (ldA Ty.row_45 Ty.sz_45) ?_)); exact fun w' hw => ⟨(), by rw [enterV, if_pos hk, if_neg (by omega)]; simp only [eV_zero]; try rfl, hw.z⟩
end
section
theorem gput_e {d : DS} {sl : SL} {s t : VSt} (ht : t.ok = true) (h : ¬ (put d sl (bytV t)).1 = 0) : gput d sl s t = ((put d sl (bytV t)).1, (put d sl (bytV t)).2.1, (put d sl (bytV t)).2.2, s) := by rw [gput, if_pos ht, if_neg h]
theorem gput_0 {d : DS} {sl : SL} {s t : VSt} (ht : t.ok = true) (h : (put d sl (bytV t)).1 = 0) : gput d sl s t = (0, (put d sl (bytV t)).2.1, (put d sl (bytV t)).2.2, t) := by rw [gput, if_pos ht, if_pos h, h]
theorem nat_lf {s t : VSt} (hs : s.ok = true) (ht : t.ok = true) (h : t.lf = s.lf + 1) : s.lf = ((s.lf.toNat : Nat) : Int) ∧ s.lf.toNat < 32 := by
  have h1 := VSt.okI hs; have h2 := VSt.okI ht
  omega
attribute [local irreducible] Gl Gc Gx Gs Runs Wt
theorem gput_ok' {w : World} {F : Nat → Prop} {g qk qs gd : Nat} {s : VSt} {sl : SL} {d : DS} {t : VSt} (h : stars [GdR g qk qs gd s sl, DiskR gd d] w F) (ht : t.ok = true) (hk : DOk d) (hb : 0 ≤ sl.base ∧ sl.base ≤ 4096) (hc : sl.count < 9223372036854775808) {ea : Nat → Addr} {es : List Nat} [Has es 1] [Has es 6] [Has es 7] [Has es 8] (hE : GErr es w (fun k => ¬ F k) 241 ea) (hK : KR w (fun k => ¬ F k))  :
    Calls Tryz.prog 44 #[.pointer (some ⟨g, 0, none⟩), .agg (stC t).toArray] w (Post w F (fun _ : Unit => eV 241 ea (gput d sl s t).1) (fun _ => [GdR g qk qs gd (gput d sl s t).2.2.2 (gput d sl s t).2.2.1, DiskR gd (gput d sl s t).2.1])) := by
 have h' := gd_open h
 refine g_enter (env := [(0, .pointer (some ⟨g, 0, none⟩)), (1, .agg (stC t).toArray)]) Tryz.func44 rfl h' Tryz.ntmps44 rfl rfl ?_; refine gsr (zbN fun b3 => ?_); refine zxa ?_; refine zxs ?_; refine gp zL ?_; refine zc ?_ (c := fun w1 F1 F2 h1 h2 hd hst => vbytes_ok (s := t) h1 ht (hE.mv hst.still))
 rintro ⟨a10, c10⟩
 refine zxm ?_; refine gp zex ?_; refine gp zex ?_; refine zxa ?_; refine zxa ?_; refine gnt (gc_seq (gsr (zxm ?_))); refine gp (r_bool (c := false) (r_nenil (k := 0) rfl (by kernel_rfl)) rfl) ?_; refine gnt (gc_condF rfl rfl ?_); refine gc_skip (gx_then (gc_seq (gsr (zxm ?_)))); refine gp znc ?_; refine gp zfa ?_; refine gp zl ?_; refine zxm ?_; refine zc (fun _ => ?_) (c := fun w1 F1 F2 h1 h2 hd hst => put_ok' (s := sl) (r := bytV t) h1 hk (hE.mv hst.still) (hK.mv hst.still) hb hc (rd_row h2 hd (by repeat (first | exact Pick.here | apply Pick.there))) (rd_le h2 (by repeat (first | exact Pick.here | apply Pick.there))))
 refine zxa ?_; refine zxs ?_; refine zxm ?_; refine gp (r_bool (c := decide (¬ (put d sl (bytV t)).1 = 0)) (r_nenil rfl (by kernel_rfl)) (by simp)) ?_; refine gnt (gif rfl (fun hc23 => ?_) (fun hc23 => ?_))
 ·try simp only at hc23
  have e := gput_e (s := s) ht (show ¬ (put d sl (bytV t)).1 = 0 from hc23)
  refine gsr (zxm ?_); refine zxa ?_; refine gnt (gc_ret (gx_then_ret (gx_ret1 rfl (by conv => lhs; whnf) ?_))); exact fun w' hw => ⟨(), by rw [e], by rw [e]; exact (St.gu (hw.sel (M := [blk g 50 (.pointer (some ⟨qk, 0, none⟩) :: .pointer (some ⟨qs, 0, none⟩) :: stC s), SlR qs gd (put d sl (bytV t)).2.2, DiskR gd (put d sl (bytV t)).2.1]) (by repeat (first | exact Sel.nil | (apply Sel.cons; · (repeat (first | exact Pick.here | apply Pick.there)))))))⟩
 ·try simp only at hc23
  have h0 : (put d sl (bytV t)).1 = 0 := by simpa using hc23
  have e := gput_0 (s := s) ht h0
  refine gc_skip (gx_then (gsr (zxm ?_))); refine gp zL ?_; refine gp znc ?_; refine gp zfa ?_; refine zsN ?_; refine zxs ?_; refine zxa ?_; refine gnt (gc_ret (gx_ret1 rfl (by conv => lhs; whnf) ?_)); exact fun w' hw => ⟨(), by rw [e, eV_zero], by rw [e]; exact (St.gu (hw.sel (M := [blk g 50 (.pointer (some ⟨qk, 0, none⟩) :: .pointer (some ⟨qs, 0, none⟩) :: stC t), SlR qs gd (put d sl (bytV t)).2.2, DiskR gd (put d sl (bytV t)).2.1]) (by repeat (first | exact Sel.nil | (apply Sel.cons; · (repeat (first | exact Pick.here | apply Pick.there)))))))⟩
theorem gsign_ok {w : World} {F : Nat → Prop} {g qk qs gd : Nat} {s : VSt} {sl : SL} {d : DS} {t : VSt} {leaf : Nat} {seed D : Dig} (h : stars [GdR g qk qs gd s sl, DiskR gd d, KeyR qk seed] w F) (ht : t.ok = true) (hlf : s.lf = (leaf : Int)) (hl : leaf < 32) (hk : DOk d) (hb : 0 ≤ sl.base ∧ sl.base ≤ 4096) (hc : sl.count < 9223372036854775808) {ea : Nat → Addr} {es : List Nat} [Has es 1] [Has es 6] [Has es 7] [Has es 8] (hE : GErr es w (fun k => ¬ F k) 241 ea) (hK : KR w (fun k => ¬ F k))  :
    Calls Tryz.prog 47 #[.pointer (some ⟨g, 0, none⟩), .agg (stC t).toArray, .agg (dc D).toArray] w (Post w F (fun x : (Option Addr × Nat) × (Option Addr × Nat) => .tuple #[.agg (sgV ((gput d sl s t).1) (leaf) x).toArray, eV 241 ea ((gput d sl s t).1)]) (fun x => [SgR ((gput d sl s t).1) x seed (leaf) (D), GdR g qk qs gd (gput d sl s t).2.2.2 (gput d sl s t).2.2.1, DiskR gd (gput d sl s t).2.1, KeyR qk seed])) := by
 have h' := gd_open h
 have hl0 : (stC s)[4]? = some (.int .i64 (leaf : Int)) := by rw [← hlf]; rfl
 refine g_enter (env := [(0, .pointer (some ⟨g, 0, none⟩)), (1, .agg (stC t).toArray), (2, .agg (dc D).toArray)]) Tryz.func47 rfl h' Tryz.ntmps47 rfl rfl ?_; refine gsr (zbN fun b4 => ?_); refine zbN fun b5 => ?_; refine zal fun b6 => ?_; refine zxa ?_; refine zxs ?_; refine zxm ?_; refine gp znc ?_; refine gp zfa ?_; refine gp zfa ?_; refine gp (r_int (j := (leaf : Int)) zl (by rw [hlf])) ?_; refine zxa ?_; refine gnt (gc_seq (gc_seq (gc_turn (L2 := [GdR g qk qs gd s sl, DiskR gd d, KeyR qk seed, blk b4 45 (stC t), blk b5 32 (dc D), blk b6 63 sgZ]) (fun w' hw => St.gu (hw.z)) ?_))); refine gc_region (zxm ?_); refine gp zL ?_; refine zc (fun _ => ?_) (c := fun w1 F1 F2 h1 h2 hd hst => gput_ok' (t := t) h1 ht hk hb hc (hE.mv hst.still) (hK.mv hst.still))
 refine zxa ?_; refine zxs ?_; refine zxm ?_; refine gp (r_bool (c := decide (¬ (gput d sl s t).1 = 0)) (r_nenil rfl (by kernel_rfl)) (by simp)) ?_; refine gnt (gif rfl (fun hc19 => ?_) (fun hc19 => ?_))
 ·try simp only at hc19
  have hne : ¬ (gput d sl s t).1 = 0 := hc19
  refine gsr (gp (zbu (cs := sgZ)) ?_); refine zxm ?_; refine zsA (new := sgZ) (m := 3) rfl (sgV_one 1 0 xn) ?_; refine zxa ?_; refine gnt (gc_ret (gx_then_ret (gx_retct rfl rfl (by conv => lhs; whnf) (ldA Ty.row_63 Ty.sz_63) ?_))); exact fun w' hw => ⟨xn, by dsimp only; rw [sgV_n hne]; rfl, St.sgN hne (hw.z)⟩
 ·try simp only at hc19
  have h0 : (gput d sl s t).1 = 0 := by simpa using hc19
  refine gc_skip (gx_then (gc_seq (gc_gd (by repeat (first | exact Pick.here | apply Pick.there)) ?_))); refine gc_regionZ 10 ([blk g 50 (.pointer (some ⟨qk, 0, none⟩) :: .pointer (some ⟨qs, 0, none⟩) :: stC (gput d sl s t).2.2.2), blk b5 32 (dc D)]) ?_; refine yps 0 rfl zmv ?_; refine yps 1 rfl znc ?_; refine yps 2 rfl zfa ?_; refine yps 3 rfl zl ?_; refine yps 4 rfl zmv ?_; refine yps 5 rfl zL ?_; refine yos 6 rfl ?_; refine zc (fun x28 => ?_) (c := fun w1 F1 F2 h1 h2 hd hst => ksign_ok (ea := ea) (d := D) (leaf := leaf) h1 hl (hK.mv hst.still))
  refine yxs ?_; refine yps 7 rfl zex ?_; refine yps 8 rfl zex ?_; refine yos 9 rfl ?_; refine zsA (sgC_len _ _) One.h ?_; refine yxs ?_; refine yzs rfl ?_; refine zxa ?_; refine gnt (gc_ret (gx_retct rfl rfl (by conv => lhs; whnf) (ldA Ty.row_63 Ty.sz_63) ?_)); exact fun w' hw => ⟨x28, by dsimp only; rw [h0, sgV_0 rfl], by dsimp only; rw [h0]; exact (St.gu (hw.sel (M := [blk g 50 (.pointer (some ⟨qk, 0, none⟩) :: .pointer (some ⟨qs, 0, none⟩) :: stC (gput d sl s t).2.2.2), SlR qs gd (gput d sl s t).2.2.1, SgR 0 x28 seed leaf D, DiskR gd (gput d sl s t).2.1, KeyR qk seed]) (by repeat (first | exact Sel.nil | (apply Sel.cons; · (repeat (first | exact Pick.here | apply Pick.there))))))).z⟩
end
section
theorem gstep_e {d : DS} {sl : SL} {s : VSt} {r : VSt × Nat} (h : ¬ r.2 = 0) : gstep d sl s r = (r.2, d, sl, s) := if_neg h
theorem gstep_0 {d : DS} {sl : SL} {s : VSt} {r : VSt × Nat} (h : r.2 = 0) : gstep d sl s r = gput d sl s r.1 := if_pos h
theorem lateG_e1 {s : VSt} {e r h : Int} (hh : ¬ (lateV s e r).2 = 0) : lateG s e r h = (s, (lateV s e r).2) := if_neg hh
theorem lateG_e2 {s : VSt} {e r h : Int} (hh : (lateV s e r).2 = 0) (h2 : h < 0 ∨ r ≤ h) : lateG s e r h = (s, 14) := by rw [lateG, if_pos hh, if_pos h2]
theorem lateG_0 {s : VSt} {e r h : Int} (hh : (lateV s e r).2 = 0) (h2 : ¬ (h < 0 ∨ r ≤ h)) : lateG s e r h = lateV s e r := by rw [lateG, if_pos hh, if_neg h2]
attribute [local irreducible] Gl Gc Gx Gs Runs Wt
theorem gvote_ok {w : World} {F : Nat → Prop} {g qk qs gd : Nat} {s : VSt} {sl : SL} {d : DS} {seed : Dig} {e r q gr : Int} {D : Dig} (h : stars [GdR g qk qs gd s sl, DiskR gd d, KeyR qk seed] w F) (hs : s.ok = true) (hk : DOk d) (hb : 0 ≤ sl.base ∧ sl.base ≤ 4096) (hc : sl.count < 9223372036854775808) {ea : Nat → Addr} {es : List Nat} [Has es 1] [Has es 4] [Has es 5] [Has es 6] [Has es 7] [Has es 8] [Has es 10] [Has es 14] [Has es 15] [Has es 18] (hE : GErr es w (fun k => ¬ F k) 241 ea) (hK : KR w (fun k => ¬ F k))  :
    Calls Tryz.prog 21 #[.pointer (some ⟨g, 0, none⟩), .int .i64 e, .int .i64 r, .int .i64 q, .int .i64 gr, .agg (dc D).toArray] w (Post w F (fun x : (Option Addr × Nat) × (Option Addr × Nat) => .tuple #[.agg (sgV ((gstep d sl s (voteV s e r q gr)).1) (s.lf.toNat) x).toArray, eV 241 ea ((gstep d sl s (voteV s e r q gr)).1)]) (fun x => [SgR ((gstep d sl s (voteV s e r q gr)).1) x seed (s.lf.toNat) (dOf Kc 7 [beN e 8, beN r 8, D.l]), GdR g qk qs gd (gstep d sl s (voteV s e r q gr)).2.2.2 (gstep d sl s (voteV s e r q gr)).2.2.1, DiskR gd (gstep d sl s (voteV s e r q gr)).2.1, KeyR qk seed])) := by
 have h' := gd_open h
 refine g_enter (env := [(0, .pointer (some ⟨g, 0, none⟩)), (1, .int .i64 e), (2, .int .i64 r), (3, .int .i64 q), (4, .int .i64 gr), (5, .agg (dc D).toArray)]) Tryz.func21 rfl h' Tryz.ntmps21 rfl rfl ?_; refine gsr (zbN fun b11 => ?_); refine zal fun b12 => ?_; refine zxa ?_; refine zxs ?_; refine zxm ?_; refine gp znc ?_; refine gp zfa ?_; refine gp zL ?_; refine zxm ?_; refine zxm ?_; refine zxm ?_; refine zxm ?_; refine zc (fun _ => ?_) (c := fun w1 F1 F2 h1 h2 hd hst => vvote_ok (s := s) (e := e) (r := r) (q := q) (g := gr) h1 (hE.mv hst.still))
 refine zxm ?_; refine gp zex ?_; refine gp zex ?_; refine zal fun b14 => ?_; refine zsN ?_; refine zxa ?_; refine gnt (gc_seq (gsr (zxm ?_))); refine gp (r_bool (c := decide (¬ (voteV s e r q gr).2 = 0)) (r_nenil rfl (by kernel_rfl)) (by simp)) ?_; refine gnt (gif rfl (fun hc29 => ?_) (fun hc29 => ?_))
 ·try simp only at hc29
  have hne : ¬ (voteV s e r q gr).2 = 0 := by simpa using hc29
  refine gsr (gp (zbu (cs := sgZ)) ?_); refine zxm ?_; refine zsA (new := sgZ) (m := 3) rfl (sgV_one 1 0 xn) ?_; refine zxa ?_; refine gnt (gc_ret (gx_then_ret (gx_retct rfl rfl (by conv => lhs; whnf) (ldA Ty.row_63 Ty.sz_63) ?_))); have hne2 := hne
  exact fun w' hw => ⟨xn, by dsimp only; rw [gstep_e hne, sgV_n hne2]; rfl, by dsimp only; rw [gstep_e hne]; exact St.sgN hne2 (St.gu (hw.sel (M := [blk g 50 (.pointer (some ⟨qk, 0, none⟩) :: .pointer (some ⟨qs, 0, none⟩) :: stC s), SlR qs gd sl, DiskR gd d, KeyR qk seed]) (by repeat (first | exact Sel.nil | (apply Sel.cons; · (repeat (first | exact Pick.here | apply Pick.there)))))))⟩
 ·try simp only at hc29
  have h20 : (voteV s e r q gr).2 = 0 := by simpa using hc29
  have hVt := voteV_ok (show voteV s e r q gr = ((voteV s e r q gr).1, 0) from Prod.ext rfl h20)
  have hlf := nat_lf hs hVt.1 hVt.2
  refine gc_skip (gx_then (gc_seq (gc_turn (L2 := [GdR g qk qs gd s sl, DiskR gd d, KeyR qk seed, blk b14 45 (stC (voteV s e r q gr).1), blk b11 32 (dc D), blk b12 63 sgZ]) (fun w' hw => St.gu (hw.z)) ?_))); refine gc_regionZ 10 ([blk b14 45 (stC (voteV s e r q gr).1), blk b11 32 (dc D)]) ?_; refine yps 0 rfl zmv ?_; refine yps 1 rfl zL ?_; refine yps 2 rfl zmv ?_; refine yps 3 rfl zmv ?_; refine yps 4 rfl zL ?_; refine yos 5 rfl ?_; refine zc (fun _ => ?_) (c := fun w1 F1 F2 h1 h2 hd hst => forVote_ok (epoch := e) (round := r) (high := 0) (d := D) h1 (hK.mv hst.still))
  refine yxs ?_; refine yos 6 rfl ?_; refine zc (fun x38 => ?_) (c := fun w1 F1 F2 h1 h2 hd hst => gsign_ok (t := (voteV s e r q gr).1) (leaf := s.lf.toNat) (D := dOf Kc 7 [beN e 8, beN r 8, D.l]) h1 hVt.1 hlf.1 hlf.2 hk hb hc (hE.mv hst.still) (hK.mv hst.still))
  refine yxs ?_; refine yps 7 rfl zex ?_; refine yps 8 rfl zex ?_; refine yos 9 rfl ?_; refine zsA (sgV_len _ _ _) (sgV_one _ _ _) ?_; refine yxs ?_; refine yzs rfl ?_; refine zxa ?_; refine gnt (gc_ret (gx_retct rfl rfl (by conv => lhs; whnf) (ldA Ty.row_63 Ty.sz_63) ?_)); exact fun w' hw => ⟨x38, by rw [gstep_0 h20], by dsimp only; rw [gstep_0 h20]; exact hw.z⟩
theorem gprop_ok {w : World} {F : Nat → Prop} {g qk qs gd : Nat} {s : VSt} {sl : SL} {d : DS} {seed : Dig} {e r : Int} {D : Dig} (h : stars [GdR g qk qs gd s sl, DiskR gd d, KeyR qk seed] w F) (hs : s.ok = true) (hk : DOk d) (hb : 0 ≤ sl.base ∧ sl.base ≤ 4096) (hc : sl.count < 9223372036854775808) {ea : Nat → Addr} {es : List Nat} [Has es 1] [Has es 4] [Has es 5] [Has es 6] [Has es 7] [Has es 8] [Has es 10] [Has es 14] [Has es 15] [Has es 18] (hE : GErr es w (fun k => ¬ F k) 241 ea) (hK : KR w (fun k => ¬ F k))  :
    Calls Tryz.prog 51 #[.pointer (some ⟨g, 0, none⟩), .int .i64 e, .int .i64 r, .agg (dc D).toArray] w (Post w F (fun x : (Option Addr × Nat) × (Option Addr × Nat) => .tuple #[.agg (sgV ((gstep d sl s (propV s e r)).1) (s.lf.toNat) x).toArray, eV 241 ea ((gstep d sl s (propV s e r)).1)]) (fun x => [SgR ((gstep d sl s (propV s e r)).1) x seed (s.lf.toNat) (dOf Kc 9 [D.l]), GdR g qk qs gd (gstep d sl s (propV s e r)).2.2.2 (gstep d sl s (propV s e r)).2.2.1, DiskR gd (gstep d sl s (propV s e r)).2.1, KeyR qk seed])) := by
 have h' := gd_open h
 refine g_enter (env := [(0, .pointer (some ⟨g, 0, none⟩)), (1, .int .i64 e), (2, .int .i64 r), (3, .agg (dc D).toArray)]) Tryz.func51 rfl h' Tryz.ntmps51 rfl rfl ?_; refine gsr (zbN fun b7 => ?_); refine zal fun b8 => ?_; refine zxa ?_; refine zxs ?_; refine zxm ?_; refine gp znc ?_; refine gp zfa ?_; refine gp zL ?_; refine zxm ?_; refine zxm ?_; refine zc (fun _ => ?_) (c := fun w1 F1 F2 h1 h2 hd hst => vprop_ok (s := s) (e := e) (r := r) h1 (hE.mv hst.still))
 refine zxm ?_; refine gp zex ?_; refine gp zex ?_; refine zal fun b10 => ?_; refine zsN ?_; refine zxa ?_; refine gnt (gc_seq (gsr (zxm ?_))); refine gp (r_bool (c := decide (¬ (propV s e r).2 = 0)) (r_nenil rfl (by kernel_rfl)) (by simp)) ?_; refine gnt (gif rfl (fun hc23 => ?_) (fun hc23 => ?_))
 ·try simp only at hc23
  have hne : ¬ (propV s e r).2 = 0 := by simpa using hc23
  refine gsr (gp (zbu (cs := sgZ)) ?_); refine zxm ?_; refine zsA (new := sgZ) (m := 3) rfl (sgV_one 1 0 xn) ?_; refine zxa ?_; refine gnt (gc_ret (gx_then_ret (gx_retct rfl rfl (by conv => lhs; whnf) (ldA Ty.row_63 Ty.sz_63) ?_))); have hne2 := hne
  exact fun w' hw => ⟨xn, by dsimp only; rw [gstep_e hne, sgV_n hne2]; rfl, by dsimp only; rw [gstep_e hne]; exact St.sgN hne2 (St.gu (hw.sel (M := [blk g 50 (.pointer (some ⟨qk, 0, none⟩) :: .pointer (some ⟨qs, 0, none⟩) :: stC s), SlR qs gd sl, DiskR gd d, KeyR qk seed]) (by repeat (first | exact Sel.nil | (apply Sel.cons; · (repeat (first | exact Pick.here | apply Pick.there)))))))⟩
 ·try simp only at hc23
  have h20 : (propV s e r).2 = 0 := by simpa using hc23
  have hVt := propV_ok (show propV s e r = ((propV s e r).1, 0) from Prod.ext rfl h20)
  have hlf := nat_lf hs hVt.1 hVt.2
  refine gc_skip (gx_then (gc_seq (gc_turn (L2 := [GdR g qk qs gd s sl, DiskR gd d, KeyR qk seed, blk b10 45 (stC (propV s e r).1), blk b7 32 (dc D), blk b8 63 sgZ]) (fun w' hw => St.gu (hw.z)) ?_))); refine gc_regionZ 8 ([blk b10 45 (stC (propV s e r).1), blk b7 32 (dc D)]) ?_; refine yps 0 rfl zmv ?_; refine yps 1 rfl zL ?_; refine yps 2 rfl zL ?_; refine yos 3 rfl ?_; refine zc (fun _ => ?_) (c := fun w1 F1 F2 h1 h2 hd hst => forProposal_ok (epoch := 0) (round := 0) (high := 0) (d := D) h1 (hK.mv hst.still))
  refine yxs ?_; refine yos 4 rfl ?_; refine zc (fun x30 => ?_) (c := fun w1 F1 F2 h1 h2 hd hst => gsign_ok (t := (propV s e r).1) (leaf := s.lf.toNat) (D := dOf Kc 9 [D.l]) h1 hVt.1 hlf.1 hlf.2 hk hb hc (hE.mv hst.still) (hK.mv hst.still))
  refine yxs ?_; refine yps 5 rfl zex ?_; refine yps 6 rfl zex ?_; refine yos 7 rfl ?_; refine zsA (sgV_len _ _ _) (sgV_one _ _ _) ?_; refine yxs ?_; refine yzs rfl ?_; refine zxa ?_; refine gnt (gc_ret (gx_retct rfl rfl (by conv => lhs; whnf) (ldA Ty.row_63 Ty.sz_63) ?_)); exact fun w' hw => ⟨x30, by rw [gstep_0 h20], by dsimp only; rw [gstep_0 h20]; exact hw.z⟩
end
section
attribute [local irreducible] Gl Gc Gx Gs Runs Wt
theorem glate_ok {w : World} {F : Nat → Prop} {g qk qs gd : Nat} {s : VSt} {sl : SL} {d : DS} {seed : Dig} {e r hi : Int} {D : Dig} (h : stars [GdR g qk qs gd s sl, DiskR gd d, KeyR qk seed] w F) (hs : s.ok = true) (hk : DOk d) (hb : 0 ≤ sl.base ∧ sl.base ≤ 4096) (hc : sl.count < 9223372036854775808) {ea : Nat → Addr} {es : List Nat} [Has es 1] [Has es 4] [Has es 5] [Has es 6] [Has es 7] [Has es 8] [Has es 10] [Has es 14] [Has es 15] [Has es 18] (hE : GErr es w (fun k => ¬ F k) 241 ea) (hK : KR w (fun k => ¬ F k))  :
    Calls Tryz.prog 22 #[.pointer (some ⟨g, 0, none⟩), .int .i64 e, .int .i64 r, .int .i64 hi] w (Post w F (fun x : (Option Addr × Nat) × (Option Addr × Nat) => .tuple #[.agg (sgV ((gstep d sl s (lateG s e r hi)).1) (s.lf.toNat) x).toArray, eV 241 ea ((gstep d sl s (lateG s e r hi)).1)]) (fun x => [SgR ((gstep d sl s (lateG s e r hi)).1) x seed (s.lf.toNat) (dOf Kc 8 [beN e 8, beN r 8, beN hi 8]), GdR g qk qs gd (gstep d sl s (lateG s e r hi)).2.2.2 (gstep d sl s (lateG s e r hi)).2.2.1, DiskR gd (gstep d sl s (lateG s e r hi)).2.1, KeyR qk seed])) := by
 have h' := gd_open h
 refine g_enter (env := [(0, .pointer (some ⟨g, 0, none⟩)), (1, .int .i64 e), (2, .int .i64 r), (3, .int .i64 hi)]) Tryz.func22 rfl h' Tryz.ntmps22 rfl rfl ?_; refine gsr (zal fun b8 => ?_); refine zxa ?_; refine zxs ?_; refine zxm ?_; refine gp znc ?_; refine gp zfa ?_; refine gp zL ?_; refine zxm ?_; refine zxm ?_; refine zc (fun _ => ?_) (c := fun w1 F1 F2 h1 h2 hd hst => vlate_ok (s := s) (e := e) (r := r) h1 (hE.mv hst.still))
 refine zxm ?_; refine gp zex ?_; refine gp zex ?_; refine zal fun b10 => ?_; refine zsN ?_; refine zxa ?_; refine gnt (gc_seq (gc_block (gsr (zxm ?_)))); refine gp (r_bool (c := decide (¬ (lateV s e r).2 = 0)) (r_nenil rfl (by kernel_rfl)) (by simp)) ?_; refine zxa ?_; refine gnt (gif rfl (fun hc22 => ?_) (fun hc22 => ?_))
 ·try simp only at hc22
  have hne : ¬ (lateV s e r).2 = 0 := by simpa using hc22
  refine gsr (gp (zbu (cs := sgZ)) ?_); refine zxm ?_; refine zsA (new := sgZ) (m := 3) rfl (sgV_one 1 0 xn) ?_; refine zxa ?_; refine gnt (gc_ret (gx_block_ret ?_)); refine gx_then_ret (gx_retct rfl rfl (by conv => lhs; whnf) (ldA Ty.row_63 Ty.sz_63) ?_); have hne2 := hne
  have hG := lateG_e1 (h := hi) hne
  have hG2 : gstep d sl s (lateG s e r hi) = ((lateV s e r).2, d, sl, s) := by rw [hG]; exact gstep_e hne
  exact fun w' hw => ⟨xn, by dsimp only; rw [hG2, sgV_n hne2]; rfl, by dsimp only; rw [hG2]; exact St.sgN hne2 (St.gu (hw.sel (M := [blk g 50 (.pointer (some ⟨qk, 0, none⟩) :: .pointer (some ⟨qs, 0, none⟩) :: stC s), SlR qs gd sl, DiskR gd d, KeyR qk seed]) (by repeat (first | exact Sel.nil | (apply Sel.cons; · (repeat (first | exact Pick.here | apply Pick.there)))))))⟩
 ·try simp only at hc22
  have h20 : (lateV s e r).2 = 0 := by simpa using hc22
  have hVt := lateV_ok (show lateV s e r = ((lateV s e r).1, 0) from Prod.ext rfl h20)
  have hlf := nat_lf hs hVt.1 hVt.2
  refine gc_seq ?_; by_cases hh : hi < 0
  ·refine gc_region (zxm ?_); refine gp (r_bool (c := true) zlt (decide_eq_true hh)) ?_; refine zxm ?_; refine gn ?_; refine gn ?_; refine gn ?_; refine gp zpk ?_; refine zxa ?_; refine gnt (gc_condT rfl rfl ?_); refine gc_seq (gc_regionZ 3 [] ?_); refine yps 0 rfl (zbu (cs := sgZ)) ?_; refine yps 1 rfl (r_ld1o rfl Ty.row_26 (hE.c 14 Has.h) (hE.n 14 Has.h)) ?_; refine yos 2 rfl ?_; refine zsA (new := sgZ) (m := 3) rfl (sgV_one 1 0 xn) ?_; refine yxs ?_; refine yzs rfl ?_; refine zxa ?_; refine gnt (gc_ret (gx_block_ret ?_)); refine gx_then_ret (gx_retct rfl rfl (by conv => lhs; whnf) (ldA Ty.row_63 Ty.sz_63) ?_); have hbad : hi < 0 ∨ r ≤ hi := .inl hh
   have hne2 : ¬ (14 : Nat) = 0 := by decide
   have hG := lateG_e2 (s := s) (e := e) (r := r) (h := hi) h20 hbad
   have hG2 : gstep d sl s (lateG s e r hi) = (14, d, sl, s) := by rw [hG]; rfl
   exact fun w' hw => ⟨xn, by dsimp only; rw [hG2, sgV_n hne2]; rfl, by dsimp only; rw [hG2]; exact St.sgN hne2 (St.gu (hw.sel (M := [blk g 50 (.pointer (some ⟨qk, 0, none⟩) :: .pointer (some ⟨qs, 0, none⟩) :: stC s), SlR qs gd sl, DiskR gd d, KeyR qk seed]) (by repeat (first | exact Sel.nil | (apply Sel.cons; · (repeat (first | exact Pick.here | apply Pick.there)))))))⟩
  ·refine gc_region (zxm ?_); refine gp (r_bool (c := false) zlt (decide_eq_false hh)) ?_; refine zxm ?_; refine gq zmv ?_; refine gq zmv ?_; refine gq zge ?_; refine gp zpk ?_; refine zxa ?_; refine gnt (gif rfl (fun hc27 => ?_) (fun hc27 => ?_))
   ·try simp only at hc27
    have hbad : hi < 0 ∨ r ≤ hi := .inr (by simpa using hc27)
    refine gc_seq (gc_regionZ 3 [] ?_); refine yps 0 rfl (zbu (cs := sgZ)) ?_; refine yps 1 rfl (r_ld1o rfl Ty.row_26 (hE.c 14 Has.h) (hE.n 14 Has.h)) ?_; refine yos 2 rfl ?_; refine zsA (new := sgZ) (m := 3) rfl (sgV_one 1 0 xn) ?_; refine yxs ?_; refine yzs rfl ?_; refine zxa ?_; refine gnt (gc_ret (gx_block_ret ?_)); refine gx_then_ret (gx_retct rfl rfl (by conv => lhs; whnf) (ldA Ty.row_63 Ty.sz_63) ?_); have hne2 : ¬ (14 : Nat) = 0 := by decide
    have hG := lateG_e2 (s := s) (e := e) (r := r) (h := hi) h20 hbad
    have hG2 : gstep d sl s (lateG s e r hi) = (14, d, sl, s) := by rw [hG]; rfl
    exact fun w' hw => ⟨xn, by dsimp only; rw [hG2, sgV_n hne2]; rfl, by dsimp only; rw [hG2]; exact St.sgN hne2 (St.gu (hw.sel (M := [blk g 50 (.pointer (some ⟨qk, 0, none⟩) :: .pointer (some ⟨qs, 0, none⟩) :: stC s), SlR qs gd sl, DiskR gd d, KeyR qk seed]) (by repeat (first | exact Sel.nil | (apply Sel.cons; · (repeat (first | exact Pick.here | apply Pick.there)))))))⟩
   ·try simp only at hc27
    have hgood : ¬ (hi < 0 ∨ r ≤ hi) := by omega
    have hG := lateG_0 h20 hgood
    refine gc_skip (gx_block_normal (gx_then (gc_seq (gc_turn (L2 := [GdR g qk qs gd s sl, DiskR gd d, KeyR qk seed, blk b10 45 (stC (lateV s e r).1), blk b8 63 sgZ]) (fun w' hw => St.gu (hw.z)) ?_)))); refine gc_regionZ 10 ([blk b10 45 (stC (lateV s e r).1)]) ?_; refine yps 0 rfl zmv ?_; refine yps 1 rfl zL ?_; refine yps 2 rfl zmv ?_; refine yps 3 rfl zmv ?_; refine yps 4 rfl zmv ?_; refine yos 5 rfl ?_; refine zc (fun _ => ?_) (c := fun w1 F1 F2 h1 h2 hd hst => forLate_ok (epoch := e) (round := r) (high := hi) (d := dig0) h1 (hK.mv hst.still))
    refine yxs ?_; refine yos 6 rfl ?_; refine zc (fun x43 => ?_) (c := fun w1 F1 F2 h1 h2 hd hst => gsign_ok (t := (lateV s e r).1) (leaf := s.lf.toNat) (D := dOf Kc 8 [beN e 8, beN r 8, beN hi 8]) h1 hVt.1 hlf.1 hlf.2 hk hb hc (hE.mv hst.still) (hK.mv hst.still))
    refine yxs ?_; refine yps 7 rfl zex ?_; refine yps 8 rfl zex ?_; refine yos 9 rfl ?_; refine zsA (sgV_len _ _ _) (sgV_one _ _ _) ?_; refine yxs ?_; refine yzs rfl ?_; refine zxa ?_; refine gnt (gc_ret (gx_retct rfl rfl (by conv => lhs; whnf) (ldA Ty.row_63 Ty.sz_63) ?_)); exact fun w' hw => ⟨x43, by rw [hG, gstep_0 h20], by dsimp only; rw [hG, gstep_0 h20]; exact hw.z⟩
theorem genter_ok {w : World} {F : Nat → Prop} {g qk qs gd : Nat} {s : VSt} {sl : SL} {d : DS} {e : Int} (h : stars [GdR g qk qs gd s sl, DiskR gd d] w F) (hs : s.ok = true) (hk : DOk d) (hb : 0 ≤ sl.base ∧ sl.base ≤ 4096) (hc : sl.count < 9223372036854775808) {ea : Nat → Addr} {es : List Nat} [Has es 1] [Has es 4] [Has es 6] [Has es 7] [Has es 8] [Has es 18] (hE : GErr es w (fun k => ¬ F k) 241 ea) (hK : KR w (fun k => ¬ F k))  :
    Calls Tryz.prog 20 #[.pointer (some ⟨g, 0, none⟩), .int .i64 e] w (Post w F (fun _ : Unit => eV 241 ea (gstep d sl s (enterV s e)).1) (fun _ => [GdR g qk qs gd (gstep d sl s (enterV s e)).2.2.2 (gstep d sl s (enterV s e)).2.2.1, DiskR gd (gstep d sl s (enterV s e)).2.1])) := by
 have h' := gd_open h
 refine g_enter (env := [(0, .pointer (some ⟨g, 0, none⟩)), (1, .int .i64 e)]) Tryz.func20 rfl h' Tryz.ntmps20 rfl rfl ?_; refine gsr (zxa ?_); refine zxs ?_; refine zxm ?_; refine gp znc ?_; refine gp zfa ?_; refine gp zL ?_; refine zxm ?_; refine zc (fun _ => ?_) (c := fun w1 F1 F2 h1 h2 hd hst => venter_ok (s := s) (e := e) h1 (hE.mv hst.still))
 refine zxm ?_; refine gp zex ?_; refine gp zex ?_; refine zal fun b5 => ?_; refine zsN ?_; refine zxa ?_; refine gnt (gc_seq (gsr (zxm ?_))); refine gp (r_bool (c := decide (¬ (enterV s e).2 = 0)) (r_nenil rfl (by kernel_rfl)) (by simp)) ?_; refine gnt (gif rfl (fun hc17 => ?_) (fun hc17 => ?_))
 ·try simp only at hc17
  have hne : ¬ (enterV s e).2 = 0 := by simpa using hc17
  refine gsr (zxm ?_); refine zxa ?_; refine gnt (gc_ret (gx_then_ret (gx_ret1 rfl (by conv => lhs; whnf) ?_))); exact fun w' hw => ⟨(), by rw [gstep_e hne], by dsimp only; rw [gstep_e hne]; exact St.gu (hw.sel (M := [blk g 50 (.pointer (some ⟨qk, 0, none⟩) :: .pointer (some ⟨qs, 0, none⟩) :: stC s), SlR qs gd sl, DiskR gd d]) (by repeat (first | exact Sel.nil | (apply Sel.cons; · (repeat (first | exact Pick.here | apply Pick.there))))))⟩
 ·try simp only at hc17
  have h20 : (enterV s e).2 = 0 := by simpa using hc17
  have hVt := enterV_ok (show enterV s e = ((enterV s e).1, 0) from Prod.ext rfl h20)
  refine gc_skip (gx_then (gc_seq (gc_turn (L2 := [GdR g qk qs gd s sl, DiskR gd d, blk b5 45 (stC (enterV s e).1)]) (fun w' hw => St.gu (hw.z)) ?_))); refine gc_region (zxm ?_); refine gp zL ?_; refine zc (fun _ => ?_) (c := fun w1 F1 F2 h1 h2 hd hst => gput_ok' (t := (enterV s e).1) h1 hVt.2.1 hk hb hc (hE.mv hst.still) (hK.mv hst.still))
  refine zxa ?_; refine gnt (gc_ret (gx_ret1 rfl (by conv => lhs; whnf) ?_)); exact fun w' hw => ⟨(), by rw [gstep_0 h20], by dsimp only; rw [gstep_0 h20]; exact hw.z⟩
theorem gstate_ok {w : World} {F : Nat → Prop} {g qk qs gd : Nat} {s : VSt} {sl : SL} {d : DS} (h : stars [GdR g qk qs gd s sl] w F) :
    Calls Tryz.prog 16 #[.pointer (some ⟨g, 0, none⟩)] w (Post w F (fun _ : Unit => .agg (stC s).toArray) (fun _ => [GdR g qk qs gd s sl])) := by
 have h' := gd_open h
 refine g_enter (env := [(0, .pointer (some ⟨g, 0, none⟩))]) Tryz.func16 rfl h' Tryz.ntmps16 rfl rfl ?_; refine gsr (zal fun b2 => ?_); refine zxs ?_; refine zxm ?_; refine gp znc ?_; refine gp zfa ?_; refine gp zL ?_; refine zsA (stC_len _) (stC_one _) ?_; refine gnt (gc_ret (gx_retc rfl rfl (ldA Ty.row_45 Ty.sz_45) ?_)); exact fun w' hw => ⟨(), rfl, St.gu (hw.z)⟩
end
section
section
variable {w : World} {F : Nat → Prop} {g gd e : Nat} {d d' : DS} {s s' : SL} {ea : Nat → Addr} {es : List Nat} [Has es 1] [Has es 6] [Has es 7] [Has es 8] {f : Nat → Sec} {b : Int} {r : List UInt8} {a : Option Addr} {n cc : Nat}
theorem format_G (he : fmt d b = (0, d')) (h : stars [DiskR g d] w F) (hk : DOk d) (hE : GErr es w (fun k => ¬ F k) 241 ea) (hK : KR w (fun k => ¬ F k)) :
    Calls Tryz.prog 13 #[.pointer (some ⟨g, 0, none⟩), .int .i64 b] w (Post w F (fun q : Nat => .tuple #[.pointer (some ⟨q, 0, none⟩), eV 241 ea 0]) (fun q => [SlR q g ⟨b, 0, []⟩, DiskR g d'])) :=
  Calls.mono (format_ok (b := b) h hk hE hK) fun x w' ⟨q, h1, h2⟩ => ⟨q, by rw [h1, he]; rfl, by rw [he] at h2; exact h2⟩
theorem open_S (he : opn d b = some s) (h : stars [DiskR g d] w F) (hk : DOk d) (hoff : d.off = false) (hE : GErr es w (fun k => ¬ F k) 241 ea) (hK : KR w (fun k => ¬ F k)) (hrt : d.right b = true) :
    Calls Tryz.prog 32 #[.pointer (some ⟨g, 0, none⟩), .int .i64 b] w (Post w F (fun q : Nat => .tuple #[.pointer (some ⟨q, 0, none⟩), eV 241 ea 0]) (fun q => [SlR q g s, DiskR g d])) :=
  Calls.mono (open_ok (b := b) h hk hoff hE hK hrt) fun x w' ⟨q, h1, h2⟩ => ⟨q, by rw [h1, he]; rfl, by rw [he] at h2; exact h2⟩
end
theorem gput_fin {d d' : DS} {sl sl' : SL} {s t : VSt} (ht : t.ok = true) (hp : put d sl (bytV t) = (0, d', sl')) : gput d sl s t = (0, d', sl', t) := by rw [gput_0 ht (by rw [hp]), hp]
attribute [local irreducible] Gl Gc Gx Gs Runs Wt
theorem gopen_S {w : World} {F : Nat → Prop} {gd qk : Nat} {d : DS} {b : Int} (h : stars [DiskR gd d] w F) (hk : DOk d) {sl : SL} {s : VSt} (hoff : d.off = false) (hrt : d.right b = true) (ho : opn d b = some sl) (hlen : sl.rec'.length ≤ 31) (hv : readV sl.rec' = (0, s)) {ea : Nat → Addr} {es : List Nat} [Has es 1] [Has es 2] [Has es 3] [Has es 4] [Has es 6] [Has es 7] [Has es 8] (hE : GErr es w (fun k => ¬ F k) 241 ea) (hK : KR w (fun k => ¬ F k))  :
    Calls Tryz.prog 11 #[.pointer (some ⟨gd, 0, none⟩), .int .i64 b, .pointer (some ⟨qk, 0, none⟩)] w (Post w F (fun x : Nat × Nat => .tuple #[.pointer (some ⟨x.1, 0, none⟩), eV 241 ea 0]) (fun x => [GdR x.1 qk x.2 gd s (sl), DiskR gd d])) := by
 refine g_enter (env := [(0, .pointer (some ⟨gd, 0, none⟩)), (1, .int .i64 b), (2, .pointer (some ⟨qk, 0, none⟩))]) Tryz.func11 rfl h Tryz.ntmps11 rfl rfl ?_; refine gsr (zxa ?_); refine zxa ?_; refine zxs ?_; refine zxm ?_; refine zxm ?_; refine zc (fun q14 => ?_) (c := fun w1 F1 F2 h1 h2 hd hst => open_S (b := b) ho h1 hk hoff (hE.mv hst.still) (hK.mv hst.still) hrt)
 refine zxm ?_; refine gp zex ?_; refine gp zex ?_; refine zxa ?_; refine zxa ?_; refine gnt (gc_seq (gsr (zxm ?_))); refine gp (r_bool (c := false) (r_nenil (k := 0) rfl (by kernel_rfl)) rfl) ?_; refine gnt (gc_condF rfl rfl ?_); refine gc_skip (gx_then (gsr (zxm ?_))); refine zc (fun x22 => ?_) (c := fun w1 F1 F2 h1 h2 hd hst => record_ok (s := sl) h1 hlen)
 refine zc (fun _ => ?_) (c := fun w1 F1 F2 h1 h2 hd hst => vread_ok (b := sl.rec') h1 (hE.mv hst.still) (rd_row h2 hd (by repeat (first | exact Pick.here | apply Pick.there))) (by omega))
 rw [hv]; refine zxm ?_; refine gp zex ?_; refine gp zex ?_; refine zal fun b10 => ?_; refine zsA (stC_len _) (stC_one _) ?_; refine zxa ?_; refine gnt (gc_seq (gsr (zxm ?_))); refine gp (r_bool (c := false) (r_nenil (k := 0) rfl (by kernel_rfl)) rfl) ?_; refine gnt (gc_condF rfl rfl ?_); refine gc_skip (gx_then (gsr (zxm ?_))); refine zxm ?_; refine gp zL ?_; refine gp (zbu (cs := .pointer (some ⟨qk, 0, none⟩) :: .pointer (some ⟨q14, 0, none⟩) :: stC s)) ?_; refine zbN fun b33 => ?_; refine zxa ?_; refine zxa ?_; refine gnt (gc_ret (gx_ret2 rfl (by conv => lhs; whnf) (by conv => lhs; whnf) ?_)); exact fun w' hw => ⟨(b33, q14), by rw [eV_zero], St.gu (hw.z)⟩
theorem gform_S {w : World} {F : Nat → Prop} {gd qk : Nat} {d : DS} {b : Int} (h : stars [DiskR gd d] w F) (hk : DOk d) {d' d2 : DS} {sl' : SL} {e : Int} (hrt : d.right b = true) (hok : (⟨e, 0, 0, 0, 0⟩ : VSt).ok = true) (he : fmt d b = (0, d')) (hk' : DOk d') (hp : put d' ⟨b, 0, []⟩ (bytV (⟨e, 0, 0, 0, 0⟩ : VSt)) = (0, d2, sl')) (hb : 0 ≤ b ∧ b ≤ 4096) {ea : Nat → Addr} {es : List Nat} [Has es 1] [Has es 4] [Has es 6] [Has es 7] [Has es 8] (hE : GErr es w (fun k => ¬ F k) 241 ea) (hK : KR w (fun k => ¬ F k))  :
    Calls Tryz.prog 17 #[.pointer (some ⟨gd, 0, none⟩), .int .i64 b, .pointer (some ⟨qk, 0, none⟩), .int .i64 e] w (Post w F (fun x : Nat × Nat => .tuple #[.pointer (some ⟨x.1, 0, none⟩), eV 241 ea 0]) (fun x => [GdR x.1 qk x.2 gd (⟨e, 0, 0, 0, 0⟩ : VSt) (sl'), DiskR gd d2])) := by
 have hgp := gput_fin (s := z13) hok hp
 refine g_enter (env := [(0, .pointer (some ⟨gd, 0, none⟩)), (1, .int .i64 b), (2, .pointer (some ⟨qk, 0, none⟩)), (3, .int .i64 e)]) Tryz.func17 rfl h Tryz.ntmps17 rfl rfl ?_; refine gsr (zxa ?_); refine zxa ?_; refine zxs ?_; refine zxm ?_; refine gp (zbu (cs := stC (⟨e, 0, 0, 0, 0⟩ : VSt))) ?_; refine zal fun b10 => ?_; refine zsA (stC_len _) (stC_one _) ?_; refine gnt (gc_seq (gsr (gp (zLa (cs := stC (⟨e, 0, 0, 0, 0⟩ : VSt))) ?_))); refine zc (fun _ => ?_) (c := fun w1 F1 F2 h1 h2 hd hst => vright_ok (s := (⟨e, 0, 0, 0, 0⟩ : VSt)) h1)
 refine gp (r_bool (c := false) znt (by rw [hok]; rfl)) ?_; refine gnt (gc_condF rfl rfl ?_); refine gc_skip (gx_then (gsr (zxm ?_))); refine zxm ?_; refine zc (fun q24 => ?_) (c := fun w1 F1 F2 h1 h2 hd hst => format_G he h1 hk (hE.mv hst.still) (hK.mv hst.still))
 refine zxm ?_; refine gp zex ?_; refine gp zex ?_; refine zxa ?_; refine zxa ?_; refine gnt (gc_seq (gsr (zxm ?_))); refine gp (r_bool (c := false) (r_nenil (k := 0) rfl (by kernel_rfl)) rfl) ?_; refine gnt (gc_condF rfl rfl ?_); refine gc_skip (gx_then (gsr (zxm ?_))); refine zxm ?_; refine gp (zbu (cs := .pointer (some ⟨qk, 0, none⟩) :: .pointer (some ⟨q24, 0, none⟩) :: stC z13)) ?_; refine zbN fun b33 => ?_; refine zxa ?_; refine gnt (gc_seq (gc_seq (gc_turn (L2 := [GdR b33 qk q24 gd z13 ⟨b, 0, []⟩, DiskR gd d', blk b10 45 (stC (⟨e, 0, 0, 0, 0⟩ : VSt))]) (fun w' hw => St.gu (hw.z)) ?_))); refine gc_region (zxm ?_); refine gp (zLa (cs := stC (⟨e, 0, 0, 0, 0⟩ : VSt))) ?_; refine zc (fun _ => ?_) (c := fun w1 F1 F2 h1 h2 hd hst => gput_ok' (s := z13) (t := (⟨e, 0, 0, 0, 0⟩ : VSt)) (sl := ⟨b, 0, []⟩) (d := d') h1 hok hk' hb (by show (0 : Nat) < _; decide) (hE.mv hst.still) (hK.mv hst.still))
 rw [hgp]; refine zxa ?_; refine zxs ?_; refine zxm ?_; refine gp (r_bool (c := false) (r_nenil (k := 0) rfl (by kernel_rfl)) rfl) ?_; refine gnt (gc_condF rfl rfl ?_); refine gc_skip (gx_then (gsr (zxm ?_))); refine zxa ?_; refine zxa ?_; refine gnt (gc_ret (gx_ret2 rfl (by conv => lhs; whnf) (by conv => lhs; whnf) ?_)); exact fun w' hw => ⟨(b33, q24), by rw [eV_zero], hw.z⟩
end
section
section
variable {w : World} {F : Nat → Prop} {g qk qs gd er : Nat} {s s' : VSt} {sl sl' : SL} {d d' : DS} {seed D : Dig} {e r q gr hi : Int} {ea : Nat → Addr} {es : List Nat} [Has es 1] [Has es 4] [Has es 5] [Has es 6] [Has es 7] [Has es 8] [Has es 10] [Has es 14] [Has es 15] [Has es 18]
theorem gvote_S (he : gstep d sl s (voteV s e r q gr) = (er, d', sl', s')) (h : stars [GdR g qk qs gd s sl, DiskR gd d, KeyR qk seed] w F) (hs : s.ok = true) (hk : DOk d) (hb : 0 ≤ sl.base ∧ sl.base ≤ 4096) (hc : sl.count < 9223372036854775808) (hE : GErr es w (fun k => ¬ F k) 241 ea) (hK : KR w (fun k => ¬ F k)) :
    Calls Tryz.prog 21 #[.pointer (some ⟨g, 0, none⟩), .int .i64 e, .int .i64 r, .int .i64 q, .int .i64 gr, .agg (dc D).toArray] w (Post w F (fun x : (Option Addr × Nat) × (Option Addr × Nat) => .tuple #[.agg (sgV er s.lf.toNat x).toArray, eV 241 ea er]) (fun x => [SgR er x seed s.lf.toNat (dOf Kc 7 [beN e 8, beN r 8, D.l]), GdR g qk qs gd s' sl', DiskR gd d', KeyR qk seed])) := by
  have h1 := gvote_ok (D := D) (seed := seed) (e := e) (r := r) (q := q) (gr := gr) h hs hk hb hc hE hK
  rw [he] at h1
  exact h1
theorem gprop_S (he : gstep d sl s (propV s e r) = (er, d', sl', s')) (h : stars [GdR g qk qs gd s sl, DiskR gd d, KeyR qk seed] w F) (hs : s.ok = true) (hk : DOk d) (hb : 0 ≤ sl.base ∧ sl.base ≤ 4096) (hc : sl.count < 9223372036854775808) (hE : GErr es w (fun k => ¬ F k) 241 ea) (hK : KR w (fun k => ¬ F k)) :
    Calls Tryz.prog 51 #[.pointer (some ⟨g, 0, none⟩), .int .i64 e, .int .i64 r, .agg (dc D).toArray] w (Post w F (fun x : (Option Addr × Nat) × (Option Addr × Nat) => .tuple #[.agg (sgV er s.lf.toNat x).toArray, eV 241 ea er]) (fun x => [SgR er x seed s.lf.toNat (dOf Kc 9 [D.l]), GdR g qk qs gd s' sl', DiskR gd d', KeyR qk seed])) := by
  have h1 := gprop_ok (D := D) (seed := seed) (e := e) (r := r) h hs hk hb hc hE hK
  rw [he] at h1
  exact h1
theorem glate_S (he : gstep d sl s (lateG s e r hi) = (er, d', sl', s')) (h : stars [GdR g qk qs gd s sl, DiskR gd d, KeyR qk seed] w F) (hs : s.ok = true) (hk : DOk d) (hb : 0 ≤ sl.base ∧ sl.base ≤ 4096) (hc : sl.count < 9223372036854775808) (hE : GErr es w (fun k => ¬ F k) 241 ea) (hK : KR w (fun k => ¬ F k)) :
    Calls Tryz.prog 22 #[.pointer (some ⟨g, 0, none⟩), .int .i64 e, .int .i64 r, .int .i64 hi] w (Post w F (fun x : (Option Addr × Nat) × (Option Addr × Nat) => .tuple #[.agg (sgV er s.lf.toNat x).toArray, eV 241 ea er]) (fun x => [SgR er x seed s.lf.toNat (dOf Kc 8 [beN e 8, beN r 8, beN hi 8]), GdR g qk qs gd s' sl', DiskR gd d', KeyR qk seed])) := by
  have h1 := glate_ok (D := dig0) (seed := seed) (e := e) (r := r) (hi := hi) h hs hk hb hc hE hK
  rw [he] at h1
  exact h1
theorem genter_S (he : gstep d sl s (enterV s e) = (er, d', sl', s')) (h : stars [GdR g qk qs gd s sl, DiskR gd d] w F) (hs : s.ok = true) (hk : DOk d) (hb : 0 ≤ sl.base ∧ sl.base ≤ 4096) (hc : sl.count < 9223372036854775808) (hE : GErr es w (fun k => ¬ F k) 241 ea) (hK : KR w (fun k => ¬ F k)) :
    Calls Tryz.prog 20 #[.pointer (some ⟨g, 0, none⟩), .int .i64 e] w (Post w F (fun _ : Unit => eV 241 ea er) (fun _ => [GdR g qk qs gd s' sl', DiskR gd d'])) := by
  have h1 := genter_ok (e := e) h hs hk hb hc hE hK
  rw [he] at h1
  exact h1
end
theorem gstep_T {f : Nat → Sec} {c : Nat} {q : List UInt8} {s t : VSt} {r : VSt × Nat} (h : r = (t, 0)) (ht : t.ok = true) (hc : c < 1000000) : gstep (dZ f) ⟨0, c, q⟩ s r = (0, dZ (gF f c t), ⟨0, c + 1, bytV t⟩, t) := by subst h; rw [gstep_0 rfl, gput_Z ht hc]
theorem gstep_N {d : DS} {sl : SL} {s t : VSt} {r : VSt × Nat} {e : Nat} (h : r = (t, e)) (he : ¬ e = 0) : gstep d sl s r = (e, d, sl, s) := by subst h; exact gstep_e he
theorem put_B {f : Nat → Sec} {c : Nat} {q : List UInt8} {t : VSt} (hc : c < 1000000) : put (dZ f) ⟨0, c, q⟩ (bytV t) = (0, dZ (gF f c t), ⟨0, c + 1, bytV t⟩) := put_Z (by omega) (by rw [bytV_len]; omega)
end
section
def digO (n : UInt8) : Dig := ⟨n :: List.replicate 15 0, rfl⟩
def sE (e : Int) : VSt := ⟨e, 0, 0, 0, 0⟩
def fE1 (e : Int) : Nat → Sec := gF (fmtF fun _ => sec0) 0 (sE e)
theorem sE_ok {e : Int} (h : 0 ≤ e ∧ e ≤ 1073741824) : (sE e).ok = true := VSt.okM (by simp [sE]; exact h)
theorem fE1_gk {e : Int} (h : 0 ≤ e ∧ e ≤ 1073741824) : GK (fE1 e) 1 (sE e) := gk_put (good_fmt _) (sE_ok h) (by decide)
structure PX where
  p : Nat
  gd : Nat
  qk : Nat
  qs : Nat
  g : Nat
  mp : Nat
def plC (x : PX) (s : VSt) (may high : Value) : List Value := [.pointer (some ⟨x.gd, 0, none⟩), .pointer (some ⟨x.qk, 0, none⟩), .pointer (some ⟨x.g, 0, none⟩), .int .i64 s.e, .int .i64 s.v, .int .i64 s.l, .int .i64 s.p, .int .i64 s.lf, may, .map (some x.mp), high]
theorem al_v1 : voteV (sE 1) 1 1 0 0 = (⟨1, 1, 0, 0, 1⟩, 0) := by decide
theorem al_v2 : voteV ⟨1, 1, 0, 0, 1⟩ 1 1 0 0 = (⟨1, 1, 0, 0, 1⟩, 10) := by decide
def sA1 : VSt := ⟨1, 1, 0, 0, 1⟩
def fA1 : Nat → Sec := gF (fE1 1) 1 sA1
theorem fA1_gk : GK fA1 2 sA1 := gk_put (fE1_gk (by decide)).good (by decide) (by decide)
theorem nat0 : 0 ≤ (0 : Int) ∧ (0 : Int) ≤ 4096 := by decide
attribute [local irreducible] Gl Gc Gx Gs Runs Wt
theorem alive14_ok {w : World} {F : Nat → Prop} (h : stars [] w F) {ea : Nat → Addr} (hN : NErr w (fun k => ¬ F k) ea) (hK : KR w (fun k => ¬ F k))  :
    Calls Tryz.prog 8 #[] w (Post w F (fun _ : Unit => .bool true) (fun _ => [])) := by
 have hE := hN.g
 refine g_enter (env := []) Tryz.func8 rfl h Tryz.ntmps8 rfl rfl ?_; refine gsr (zxa ?_); refine zxs ?_; refine zc (fun g8 => ?_) (c := fun w1 F1 F2 h1 h2 hd hst => new_ok (n := 2) (ea := ea) h1 (by decide) (by decide))
 refine zxm ?_; refine gp zex ?_; refine gp zex ?_; refine zxa ?_; refine zxa ?_; refine gnt (gc_seq (gsr (zxm ?_))); refine gp (r_bool (c := false) (r_nenil rfl (by kernel_rfl)) rfl) ?_; refine zxm ?_; refine gq zmv ?_; refine gq (r_bool (c := false) (r_eqpn rfl Ty.un_24) rfl) ?_; refine gp zpk ?_; refine gnt (gc_condF rfl rfl ?_); refine gc_skip (gx_then (gsr (gp (zba (cs := dc (digO 5)) (hf := by kernel_rfl)) ?_))); refine zc (fun q18 => ?_) (c := fun w1 F1 F2 h1 h2 hd hst => knew_ok (ea := ea) (seed := digO 5) h1 (hK.mv hst.still))
 refine zxa ?_; refine zxs ?_; refine zxm ?_; refine zxm ?_; refine zc ?_ (c := fun w1 F1 F2 h1 h2 hd hst => gform_S (b := 0) (e := 1) (d := dZ fun _ => sec0) h1 (dZ_ok _) rfl (sE_ok (e := 1) (by decide)) (fmt_Z fun _ => sec0) (dZ_ok _) (put_B (by decide)) nat0 (hE.mv hst.still) (hK.mv hst.still))
 rintro ⟨g22, q22⟩
 refine zxm ?_; refine gp zex ?_; refine gp zex ?_; refine zxa ?_; refine zxa ?_; refine gnt (gc_seq (gsr (zxm ?_))); refine gp (r_bool (c := false) (r_nenil rfl (by kernel_rfl)) rfl) ?_; refine zxm ?_; refine gq zmv ?_; refine gq (r_bool (c := false) (r_eqpn rfl Ty.un_33) rfl) ?_; refine gp zpk ?_; refine gnt (gc_condF rfl rfl ?_); refine gc_skip (gx_then (gc_seq (gsr (zxm ?_)))); refine gp (zba (cs := dc (digO 1)) (hf := by kernel_rfl)) ?_; refine zc (fun x34 => ?_) (c := fun w1 F1 F2 h1 h2 hd hst => gvote_S (s := sE 1) (sl := ⟨0, 1, bytV (sE 1)⟩) (seed := digO 5) (D := digO 1) (e := 1) (r := 1) (q := 0) (gr := 0) (gstep_T (f := fE1 1) al_v1 (by decide) (by decide)) h1 (by decide) (dZ_ok _) nat0 (by show (1 : Nat) < _; decide) (hE.mv hst.still) (hK.mv hst.still))
 refine zxm ?_; refine gp zex ?_; refine gp zex ?_; refine zal fun b5 => ?_; refine zsA (sgV_len _ _ _) (sgV_one _ _ _) ?_; refine zxa ?_; refine zxs ?_; refine zxm ?_; refine gp (r_bool (c := false) (r_nenil rfl (by kernel_rfl)) rfl) ?_; refine gnt (gc_condF rfl rfl ?_); refine gc_skip (gx_then (gsr (zxm ?_))); refine zc (fun _ => ?_) (c := fun w1 F1 F2 h1 h2 hd hst => crash_ok' (d := dZ fA1) (kb := []) h1 (dZ_ok _) RdRow.nil)
 rw [crash_Z]; refine zxs ?_; refine zxm ?_; refine zxm ?_; refine zc ?_ (c := fun w1 F1 F2 h1 h2 hd hst => gopen_S (b := 0) (d := dZ fA1) (sl := ⟨0, 2, bytV sA1⟩) (s := sA1) h1 (dZ_ok _) rfl rfl (gk_opn fA1_gk) (by rw [bytV_len]; decide) (readV_byt (by decide)) (hE.mv hst.still) (hK.mv hst.still))
 rintro ⟨g44, q44⟩
 refine zxm ?_; refine gp zex ?_; refine gp zex ?_; refine zxa ?_; refine zxa ?_; refine gnt (gc_seq (gsr (zxm ?_))); refine gp (r_bool (c := false) (r_nenil rfl (by kernel_rfl)) rfl) ?_; refine zxm ?_; refine gq zmv ?_; refine gq (r_bool (c := false) (r_eqpn rfl Ty.un_33) rfl) ?_; refine gp zpk ?_; refine gnt (gc_condF rfl rfl ?_); refine gc_skip (gx_then (gsr (zxm ?_))); refine gp (zba (cs := dc (digO 2)) (hf := by kernel_rfl)) ?_; refine zc (fun x56 => ?_) (c := fun w1 F1 F2 h1 h2 hd hst => gvote_S (s := sA1) (sl := ⟨0, 2, bytV sA1⟩) (seed := digO 5) (D := digO 2) (e := 1) (r := 1) (q := 0) (gr := 0) (gstep_N (d := dZ fA1) al_v2 (by decide)) h1 (by decide) (dZ_ok _) nat0 (by show (2 : Nat) < _; decide) (hE.mv hst.still) (hK.mv hst.still))
 refine zxm ?_; refine gp zex ?_; refine gp zex ?_; refine zxa ?_; refine zxs ?_; refine zxm ?_; refine zc (fun _ => ?_) (c := fun w1 F1 F2 h1 h2 hd hst => errNum_ok (n := 10) h1 (hN.mv hst.still) (by decide))
 refine gp (r_bool (c := true) zei (decide_eq_true rfl)) ?_; refine zxa ?_; refine gnt (gc_ret (gx_ret1 rfl (by conv => lhs; whnf) ?_)); exact ze ()
theorem begin14_ok {w : World} {F : Nat → Prop} {seed : Dig} {e : Int} (h : stars [] w F) (he : 0 ≤ e ∧ e ≤ 1073741824) {ea : Nat → Addr} {es : List Nat} [Has es 1] [Has es 4] [Has es 6] [Has es 7] [Has es 8] (hE : GErr es w (fun k => ¬ F k) 241 ea) (hK : KR w (fun k => ¬ F k))  :
    Calls Tryz.prog 19 #[.agg (dc seed).toArray, .int .i64 e] w (Post w F (fun x : PX => .tuple #[.pointer (some ⟨x.p, 0, none⟩), .bool true]) (fun x => [blk x.p 59 (plC x (sE e) (.slice none 0 0) (.slice none 0 0)), GdR x.g x.qk x.qs x.gd (sE e) ⟨0, 1, bytV (sE e)⟩, DiskR x.gd (dZ (fE1 e)), KeyR x.qk seed, mapR x.mp []])) := by
 refine g_enter (env := [(0, .agg (dc seed).toArray), (1, .int .i64 e)]) Tryz.func19 rfl h Tryz.ntmps19 rfl rfl ?_; refine gsr (zbN fun b2 => ?_); refine zxa ?_; refine zxa ?_; refine zxs ?_; refine zc (fun g10 => ?_) (c := fun w1 F1 F2 h1 h2 hd hst => new_ok (n := 2) (ea := ea) h1 (by decide) (by decide))
 refine zxm ?_; refine gp zex ?_; refine gp zex ?_; refine zxa ?_; refine zxa ?_; refine gnt (gc_seq (gsr (zxm ?_))); refine gp (r_bool (c := false) (r_nenil rfl (by kernel_rfl)) rfl) ?_; refine gnt (gc_condF rfl rfl ?_); refine gc_skip (gx_then (gsr (zxm ?_))); refine gp zL ?_; refine zc (fun q17 => ?_) (c := fun w1 F1 F2 h1 h2 hd hst => knew_ok (ea := ea) (seed := seed) h1 (hK.mv hst.still))
 refine gl_mkMap (wt0 rfl) (fun g18 => ?_)
 refine zxm ?_; refine gp (zbu (cs := stC (sE e))) ?_; refine gp (zbu (cs := [.pointer (some ⟨g10, 0, none⟩), .pointer (some ⟨q17, 0, none⟩), .pointer none, .int .i64 e, .int .i64 0, .int .i64 0, .int .i64 0, .int .i64 0, .slice none 0 0, .map (some g18), .slice none 0 0])) ?_; refine zbN fun b22 => ?_; refine zxa ?_; refine zxs ?_; refine zxm ?_; refine zxm ?_; refine zxm ?_; refine gp znc ?_; refine gp zfa ?_; refine gp zl ?_; refine zxm ?_; refine zc ?_ (c := fun w1 F1 F2 h1 h2 hd hst => gform_S (b := 0) (e := e) (d := dZ fun _ => sec0) h1 (dZ_ok _) rfl (sE_ok he) (fmt_Z fun _ => sec0) (dZ_ok _) (put_B (by decide)) nat0 (hE.mv hst.still) (hK.mv hst.still))
 rintro ⟨g31, q31⟩
 refine zxm ?_; refine gp zex ?_; refine gp zex ?_; refine gp znc ?_; refine gp zfa ?_; refine zs1 ?_; refine zxa ?_; refine gnt (gc_seq (gc_regionS (by kernel_rfl) (by kernel_rfl) ?_)); refine sp zmv ?_; refine sp zmv ?_; refine sp (r_bool (c := true) (r_eqnil (k := 0) rfl (by kernel_rfl)) rfl) ?_; refine sp zmv ?_; refine sq zmv ?_; refine sq znc ?_; refine sq zfa ?_; refine sq zl ?_; refine sq (r_bool (c := true) (r_nepn rfl Ty.un_33) rfl) ?_; refine sp zpk ?_; refine sp zas ?_; refine sp zas ?_; refine gs_nil ?_; refine gx_then (gc_ret (gx_ret2 rfl (by conv => lhs; whnf) (by conv => lhs; whnf) ?_)); exact fun w' hw => ⟨(⟨b22, g10, q17, q31, g31, g18⟩ : PX), rfl, hw.z⟩
end
section
structure AskV where
  kind : Int
  e : Int
  r : Int
  q : Int
  g : Int
  d : Dig
def askC (a : AskV) : List Value := .int .i64 a.kind :: .int .i64 a.e :: .int .i64 a.r :: .int .i64 a.q :: .int .i64 a.g :: dc a.d
theorem askC_len (a : AskV) : (askC a).length = 21 := by simp [askC, dc_length]
theorem askC_dig (a : AskV) : ((askC a).drop 5).take 16 = dc a.d := List.take_of_length_le (by simp [askC, dc_length])
theorem askC_one (a : AskV) : ∀ v ∈ askC a, v.oneCell' = true := all_cons' rfl (all_cons' rfl (all_cons' rfl (all_cons' rfl (all_cons' rfl (dc_one _)))))
instance {a : AskV} : Len (askC a) 21 := ⟨askC_len a⟩
instance {a : AskV} : One (askC a) := One.of (askC_one a)
def askV (s : VSt) (a : AskV) : VSt × Nat := if a.kind = 1 then voteV s a.e a.r a.q a.g else if a.kind = 2 then lateG s a.e a.r a.q else if a.kind = 3 then propV s a.e a.r else enterV s a.e
def signedV (a : AskV) : Dig := if a.kind = 1 then dOf Kc 7 [beN a.e 8, beN a.r 8, a.d.l] else if a.kind = 2 then dOf Kc 8 [beN a.e 8, beN a.r 8, beN a.q 8] else dOf Kc 9 [a.d.l]
def sgE (a : AskV) (er : Nat) : Nat := if a.kind = 1 ∨ a.kind = 2 ∨ a.kind = 3 then er else 1
theorem askV_ok {s t : VSt} {a : AskV} (hs : s.ok = true) (h : askV s a = (t, 0)) : t.ok = true := by
  unfold askV at h
  split at h
  · exact (voteV_ok h).1
  · split at h
    · exact (lateG_ok h).1
    · split at h
      · exact (propV_ok h).1
      · exact (enterV_ok h).2.1
def vI (cs : List Value) (i : Nat) : Int := match cs[i]? with | some (.int _ a) => a | _ => 0
theorem run_eqFieldsI {P : Program} {I : TypeId} (hI : P.underlying I = some (.int .i64)) (a b : VSt) (w : World) (d : Nat) : ∀ (fs : List Field), (∀ f ∈ fs, f.name ≠ "_" ∧ f.type = I ∧ f.offset < 5) →
    (Go.Op.eqFields (d + 1) (stC a).toArray (stC b).toArray fs).run P w = .ok (fs.all fun f => decide (vI (stC a) f.offset = vI (stC b) f.offset)) w
  | [], _ => by simp [Go.Op.eqFields]
  | f :: fs, h => by
    obtain ⟨h1, h2, h3⟩ := h f (by simp)
    have ih := run_eqFieldsI hI a b w d fs (fun g hg => h g (by simp [hg]))
    have hr : rowT P f.type = some false := by rw [h2]; simp [rowT, hI]
    have hv : ∀ s : VSt, (stC s)[f.offset]? = some (.int .i64 (vI (stC s) f.offset)) := fun s => by
      have h' : f.offset = 0 ∨ f.offset = 1 ∨ f.offset = 2 ∨ f.offset = 3 ∨ f.offset = 4 := by omega
      rcases h' with e | e | e | e | e <;> rw [e] <;> rfl
    have p1 := run_part1 (P := P) (T := f.type) (off := f.offset) (cs := stC a) hr (hv a) w
    have p2 := run_part1 (P := P) (T := f.type) (off := f.offset) (cs := stC b) hr (hv b) w
    have p3 := run_equalIn_int (P := P) w d f.type .i64 .i64 (vI (stC a) f.offset) (vI (stC b) f.offset) (by rw [h2]; exact hI)
    simp only [Go.Op.eqFields, if_pos h1, Sem.run_bind, p1, p2, p3, Result.andThen_ok, Sem.run_ite]
    by_cases hab : vI (stC a) f.offset = vI (stC b) f.offset
    · simp [hab, ih]
    · simp [hab]
theorem st_dec (a b : VSt) : ([0, 1, 2, 3, 4].all fun i => decide (vI (stC a) i = vI (stC b) i)) = decide (a = b) := by
  cases a; cases b
  simp [vI, stC]
section
variable {P : Program} {w0 : World} {F0 : Nat → Prop} {L : List Res} {n : Fm} {env : Env} {d : Option Tmp} {ty : TypeId} {pos : String} {af : Array Edge} {gd : Option (Nat × Bool)}
theorem run_eqSt {T I : TypeId} (w : World) (a b : VSt) (hu : P.underlying T = some (.struct (P.fieldsOf T))) (hp : P.stoodInHeld T = false) (hI : P.underlying I = some (.int .i64)) (h1 : (P.fieldsOf T).toList.map (fun f => f.offset) = [0, 1, 2, 3, 4]) (h2 : ((P.fieldsOf T).toList.all fun f => !(f.name == "_") && f.type == I) = true) :
    (Go.Op.equalIn 10000 T (.agg (stC a).toArray) (.agg (stC b).toArray)).run P w = .ok (decide (a = b)) w := by
  have hf : ∀ f ∈ (P.fieldsOf T).toList, f.name ≠ "_" ∧ f.type = I ∧ f.offset < 5 := fun f hf => by
    have h3 := List.all_eq_true.1 h2 f hf
    simp only [Bool.and_eq_true, Bool.not_eq_true', beq_eq_false_iff_ne, beq_iff_eq] at h3
    have h4 : f.offset ∈ [0, 1, 2, 3, 4] := by rw [← h1]; exact List.mem_map.2 ⟨f, hf, rfl⟩
    refine ⟨h3.1, h3.2, ?_⟩
    simp at h4; omega
  rw [run_equalIn_struct w 9999 T _ _ hu hp, run_eqFieldsI (d := 9998) hI a b w _ hf, ← st_dec, ← h1, List.all_map]
  rfl
theorem r_eqst {x y : Operand} {T T' I : TypeId} {a b : VSt} (hu : P.underlying T = some (.struct (P.fieldsOf T))) (hp : P.stoodInHeld T = false) (hI : P.underlying I = some (.int .i64)) (h1 : (P.fieldsOf T).toList.map (fun f => f.offset) = [0, 1, 2, 3, 4]) (h2 : ((P.fieldsOf T).toList.all fun f => !(f.name == "_") && f.type == I) = true) (hg : P.eqGuardType P.depth T = false) (hx : ev n env x = .agg (stC a).toArray := by exact rfl) (hy : ev n env y = .agg (stC b).toArray := by exact rfl) :
    Runs P w0 F0 L n env ⟨d, .binOp .eql T x y T', ty, pos, af, gd⟩ (.bool (decide (a = b))) := fun w _ => by
  simp only [execOp, hx, hy, Sem.run_bind, run_eqGuard_agg w _ _ _ _ _ _ hg, Result.andThen_ok, run_eql_struct, run_eqSt w a b hu hp hI h1 h2, Sem.run_pure]
theorem r_nest {x y : Operand} {T T' I : TypeId} {a b : VSt} (hu : P.underlying T = some (.struct (P.fieldsOf T))) (hp : P.stoodInHeld T = false) (hI : P.underlying I = some (.int .i64)) (h1 : (P.fieldsOf T).toList.map (fun f => f.offset) = [0, 1, 2, 3, 4]) (h2 : ((P.fieldsOf T).toList.all fun f => !(f.name == "_") && f.type == I) = true) (hg : P.eqGuardType P.depth T = false) (hx : ev n env x = .agg (stC a).toArray := by exact rfl) (hy : ev n env y = .agg (stC b).toArray := by exact rfl) :
    Runs P w0 F0 L n env ⟨d, .binOp .neq T x y T', ty, pos, af, gd⟩ (.bool (!decide (a = b))) := fun w _ => by
  simp only [execOp, hx, hy, Sem.run_bind, run_eqGuard_agg w _ _ _ _ _ _ hg, Result.andThen_ok, run_neq_struct, run_eqSt w a b hu hp hI h1 h2, Sem.run_pure]
end
theorem vn3_ok {s : VSt} {k : Nat} (hk : k < 3) (h : s.ok = true) : 0 ≤ vn3 s k ∧ vn3 s k ≤ 1099511627776 := by
  have hi := VSt.okI h
  have h' : k = 0 ∨ k = 1 ∨ k = 2 := by omega
  rcases h' with rfl | rfl | rfl <;> simp [vn3] <;> omega
theorem rok_T {s : VSt} (h : ∀ j, j < 3 → 0 ≤ vn3 s j ∧ vn3 s j ≤ 1099511627776) (h1 : 0 ≤ s.e) (h2 : s.e ≤ 1073741824) (h3 : 0 ≤ s.lf) : s.ok = decide (s.lf ≤ 32) := by
  have g0 := h 0 (by decide); have g1 := h 1 (by decide); have g2 := h 2 (by decide)
  simp [vn3] at g0 g1 g2
  rw [Bool.eq_iff_iff, decide_eq_true_eq]
  exact ⟨fun h0 => (VSt.okI h0).2.2.2.2.2, fun h4 => VSt.okM ⟨⟨h1, h2⟩, g0, g1, g2, h3, h4⟩⟩
theorem rok_F {s : VSt} (h : s.ok = true → False) : s.ok = false := by cases h0 : s.ok with
  | false => rfl
  | true => exact (h h0).elim
attribute [local irreducible] Gl Gc Gx Gs Runs Wt
theorem rvright_ok {w : World} {F : Nat → Prop} {s : VSt} (h : stars [] w F) :
    Calls Tryz.prog 24 #[.agg (stC s).toArray] w (Post w F (fun _ : Unit => .bool s.ok) (fun _ => [])) := by
 refine g_enter (env := [(0, .agg (stC s).toArray)]) Tryz.func24 rfl h Tryz.ntmps24 rfl rfl ?_; refine gsr (zbN fun b1 => ?_); refine zxa ?_; refine gnt (gc_seq (gsr (gp zfa ?_))); refine gp zl ?_; refine gp zfa ?_; refine gp zl ?_; refine gp zfa ?_; refine gp zl ?_; refine gl_bsls (vs := [.int .i64 s.v, .int .i64 s.l, .int .i64 s.p]) (wt0 rfl) Ty.sl_52 Ty.sz_3 Ty.zc_3 rfl rfl (all_cons' rfl (all_cons' rfl (all_cons' rfl all_nil'))) rfl rfl rfl ?_; intro b11; refine gp zln ?_; refine zxm ?_; refine gnt (gc_block (gc_loop (α := Nat) (fun k => [pureR (k ≤ 3 ∧ ∀ j, j < k → 0 ≤ vn3 s j ∧ vn3 s j ≤ 1099511627776), rowR 3 1 (some ⟨b11, 0, none⟩) 3 3 [.int .i64 s.v, .int .i64 s.l, .int .i64 s.p], blk b1 42 (stC s)]) (fun k => [(13, .int .i64 (k : Int))]) [2, 4, 14, 15, 16, 17, 18, 19, 20, 21, 22, 23] (fun k => 3 - k) 0 ?_ ?_ ?_))
 ·refine env_start (by kernel_rfl)
 ·exact zlp ⟨Nat.zero_le _, fun j hj => absurd hj (Nat.not_lt_zero _)⟩
 ·intro k u; refine gc_pureR (fun hk => ?_)
  obtain ⟨hk, hall⟩ := hk; replace hk : k ≤ 3 := hk
  refine gsr (gp zlt ?_); refine gnt (gc_seq (gif rfl (fun hc14 => ?_) (fun hc14 => ?_)))
  ·try simp only at hc14
   have hk' : k < 3 := by omega
   refine gc_skip (gx_then (gc_seq (gc_block (gsr (gp (r_val (v' := .pointer (some ⟨b11, 0 + k, none⟩)) zia (by simp)) ?_))))); refine gp (r_ld1r (v := .int .i64 (vn3 s k)) rfl Ty.row_3 (by repeat (first | exact Pick.here | apply Pick.there)) (by have h' : k = 0 ∨ k = 1 ∨ k = 2 := (by omega); rcases h' with rfl | rfl | rfl <;> rfl)) ?_; refine zxa ?_; refine gnt (gc_seq ?_); by_cases hn : vn3 s k < 0
   ·refine gc_region (zxm ?_); refine gp (r_bool (c := true) zlt (decide_eq_true hn)) ?_; refine zxm ?_; refine gn ?_; refine gn ?_; refine gp zpk ?_; refine gnt (gc_condT rfl rfl ?_); refine gsr (zxa ?_); refine gnt (gc_ret (gx_block_ret ?_)); refine gx_then_ret (gx_round_ret ?_); refine gx_block_ret ?_; refine gx_then_ret (gx_ret1 rfl (by conv => lhs; whnf) ?_); have e0 : s.ok = false := rok_F (fun h0 => by have := vn3_ok hk' h0; omega)
    exact fun w' hw => ⟨(), by rw [e0], hw.z⟩
   ·refine gc_region (zxm ?_); refine gp (r_bool (c := false) zlt (decide_eq_false hn)) ?_; refine zxm ?_; refine gq zmv ?_; refine gq zgt ?_; refine gp zpk ?_; refine gnt (gif rfl (fun hc22 => ?_) (fun hc22 => ?_))
    ·try simp only at hc22
     have hb : 1099511627776 < vn3 s k := by simpa using hc22
     refine gsr (zxa ?_); refine gnt (gc_ret (gx_block_ret ?_)); refine gx_then_ret (gx_round_ret ?_); refine gx_block_ret ?_; refine gx_then_ret (gx_ret1 rfl (by conv => lhs; whnf) ?_); have e0 : s.ok = false := rok_F (fun h0 => by have := vn3_ok hk' h0; omega)
     exact fun w' hw => ⟨(), by rw [e0], hw.z⟩
    ·try simp only at hc22
     have hb : ¬ 1099511627776 < vn3 s k := by simpa using hc22
     refine gc_skip (gx_block_normal (gx_then (gc_region (gp zad ?_)))); refine zxm ?_; refine gl_nil (zrd (k + 1) ?_ ?_)
     ·show 3 - (k + 1) < 3 - k
      omega
     ·exact zlp (show k + 1 ≤ 3 ∧ ∀ j, j < k + 1 → 0 ≤ vn3 s j ∧ vn3 s j ≤ 1099511627776 from ⟨by omega, fun j hj => (by by_cases h' : j < k; exact hall j h'; (obtain rfl : j = k := by omega); omega)⟩)
  ·try simp only at hc14
   have hk' : k = 3 := by omega
   subst hk'; refine gc_exit ?_; refine gx_then_exit ?_; refine gx_round_exit ?_; refine gx_block_hit ?_; refine gx_then (gc_seq ?_); by_cases he0 : 0 ≤ s.e
   ·by_cases he1 : s.e ≤ 1073741824
    ·by_cases hl0 : 0 ≤ s.lf
     ·refine gc_region (gp zfa ?_); refine gp zl ?_; refine gp (r_bool (c := true) zge (decide_eq_true he0)) ?_; refine zxm ?_; refine gq zfa ?_; refine gq zl ?_; refine gq (r_bool (c := true) zle (decide_eq_true he1)) ?_; refine gp zpk ?_; refine zxm ?_; refine gq zfa ?_; refine gq zl ?_; refine gq (r_bool (c := true) zge (decide_eq_true hl0)) ?_; refine gp zpk ?_; refine zxm ?_; refine gq zfa ?_; refine gq zl ?_; refine gq zle ?_; refine gp zpk ?_; refine zxa ?_; refine gnt (gc_ret (gx_ret1 rfl (by conv => lhs; whnf) ?_)); exact fun w' hw => ⟨(), by rw [rok_T hall he0 he1 hl0], hw.z⟩
     ·refine gc_region (gp zfa ?_); refine gp zl ?_; refine gp (r_bool (c := true) zge (decide_eq_true he0)) ?_; refine zxm ?_; refine gq zfa ?_; refine gq zl ?_; refine gq (r_bool (c := true) zle (decide_eq_true he1)) ?_; refine gp zpk ?_; refine zxm ?_; refine gq zfa ?_; refine gq zl ?_; refine gq (r_bool (c := false) zge (decide_eq_false hl0)) ?_; refine gp zpk ?_; refine zxm ?_; refine gn ?_; refine gn ?_; refine gn ?_; refine gp zpk ?_; refine zxa ?_; refine gnt (gc_ret (gx_ret1 rfl (by conv => lhs; whnf) ?_)); have e0 : s.ok = false := rok_F (fun h0 => by have := VSt.okI h0; omega)
      exact fun w' hw => ⟨(), by rw [e0], hw.z⟩
    ·refine gc_region (gp zfa ?_); refine gp zl ?_; refine gp (r_bool (c := true) zge (decide_eq_true he0)) ?_; refine zxm ?_; refine gq zfa ?_; refine gq zl ?_; refine gq (r_bool (c := false) zle (decide_eq_false he1)) ?_; refine gp zpk ?_; refine zxm ?_; refine gn ?_; refine gn ?_; refine gn ?_; refine gp zpk ?_; refine zxm ?_; refine gn ?_; refine gn ?_; refine gn ?_; refine gp zpk ?_; refine zxa ?_; refine gnt (gc_ret (gx_ret1 rfl (by conv => lhs; whnf) ?_)); have e0 : s.ok = false := rok_F (fun h0 => by have := VSt.okI h0; omega)
     exact fun w' hw => ⟨(), by rw [e0], hw.z⟩
   ·refine gc_region (gp zfa ?_); refine gp zl ?_; refine gp (r_bool (c := false) zge (decide_eq_false he0)) ?_; refine zxm ?_; refine gn ?_; refine gn ?_; refine gn ?_; refine gp zpk ?_; refine zxm ?_; refine gn ?_; refine gn ?_; refine gn ?_; refine gp zpk ?_; refine zxm ?_; refine gn ?_; refine gn ?_; refine gn ?_; refine gp zpk ?_; refine zxa ?_; refine gnt (gc_ret (gx_ret1 rfl (by conv => lhs; whnf) ?_)); have e0 : s.ok = false := rok_F (fun h0 => by have := VSt.okI h0; omega)
    exact fun w' hw => ⟨(), by rw [e0], hw.z⟩
theorem ask14_ok {w : World} {F : Nat → Prop} {g qk qs gd : Nat} {s : VSt} {sl : SL} {d : DS} {seed : Dig} {a : AskV} {er : Nat} {d' : DS} {sl' : SL} {s' : VSt} (h : stars [GdR g qk qs gd s sl, DiskR gd d, KeyR qk seed] w F) (hg : gstep d sl s (askV s a) = (er, d', sl', s')) (hs : s.ok = true) (hk : DOk d) (hb : 0 ≤ sl.base ∧ sl.base ≤ 4096) (hc : sl.count < 9223372036854775808) {ea : Nat → Addr} {es : List Nat} [Has es 1] [Has es 4] [Has es 5] [Has es 6] [Has es 7] [Has es 8] [Has es 10] [Has es 14] [Has es 15] [Has es 18] (hE : GErr es w (fun k => ¬ F k) 241 ea) (hK : KR w (fun k => ¬ F k))  :
    Calls Tryz.prog 23 #[.pointer (some ⟨g, 0, none⟩), .agg (askC a).toArray] w (Post w F (fun x : (Option Addr × Nat) × (Option Addr × Nat) => .tuple #[.agg (sgV (sgE a er) s.lf.toNat x).toArray, eV 241 ea er]) (fun x => [SgR (sgE a er) x seed s.lf.toNat (signedV a), GdR g qk qs gd s' sl', DiskR gd d', KeyR qk seed])) := by
 refine g_enter (env := [(0, .pointer (some ⟨g, 0, none⟩)), (1, _)]) Tryz.func23 rfl h Tryz.ntmps23 rfl rfl ?_; refine gsr (zbN fun b3 => ?_); refine zal fun b4 => ?_; refine zxa ?_; refine gnt (gc_seq (gsr (gp zfa ?_))); refine gp zl ?_; refine gnt (gc_block (gsr (gp zei ?_))); refine zxa ?_; refine gnt (gif rfl (fun hc8 => ?_) (fun hc8 => ?_))
 ·try simp only at hc8
  have hk1 : a.kind = 1 := by simpa using hc8
  have hv : askV s a = voteV s a.e a.r a.q a.g := if_pos hk1
  rw [hv] at hg; have hge : sgE a er = er := if_pos (.inl hk1)
  have hsg : signedV a = dOf Kc 7 [beN a.e 8, beN a.r 8, a.d.l] := if_pos hk1
  refine gsr (zxm ?_); refine gp zfa ?_; refine gp zl ?_; refine gp zfa ?_; refine gp zl ?_; refine gp zfa ?_; refine gp zl ?_; refine gp zfa ?_; refine gp zl ?_; refine gp zfa ?_; refine gp (zL (sg := dc a.d) (hg := askC_dig a) (hl := dc_length _)) ?_; refine zc (fun x21 => ?_) (c := fun w1 F1 F2 h1 h2 hd hst => gvote_S (D := a.d) (seed := seed) hg h1 hs hk hb hc (hE.mv hst.still) (hK.mv hst.still))
  refine gp zex ?_; refine gp zex ?_; refine zsA (sgV_len _ _ _) (sgV_one _ _ _) ?_; refine zxa ?_; refine gnt (gc_ret (gx_block_ret ?_)); refine gx_then_ret (gx_retct rfl rfl (by conv => lhs; whnf) (ldA Ty.row_63 Ty.sz_63) ?_); exact fun w' hw => ⟨x21, by rw [hge], by dsimp only; rw [hge, hsg]; exact hw.z⟩
 ·try simp only at hc8
  have hk1 : ¬ a.kind = 1 := by simpa using hc8
  refine gsr (gp zei ?_); refine zxa ?_; refine gnt (gif rfl (fun hc24 => ?_) (fun hc24 => ?_))
  ·try simp only at hc24
   have hk2 : a.kind = 2 := by simpa using hc24
   have hv : askV s a = lateG s a.e a.r a.q := by rw [askV, if_neg hk1, if_pos hk2]
   rw [hv] at hg; have hge : sgE a er = er := if_pos (.inr (.inl hk2))
   have hsg : signedV a = dOf Kc 8 [beN a.e 8, beN a.r 8, beN a.q 8] := by rw [signedV, if_neg hk1, if_pos hk2]
   refine gsr (zxm ?_); refine gp zfa ?_; refine gp zl ?_; refine gp zfa ?_; refine gp zl ?_; refine gp zfa ?_; refine gp zl ?_; refine zc (fun x33 => ?_) (c := fun w1 F1 F2 h1 h2 hd hst => glate_S (seed := seed) hg h1 hs hk hb hc (hE.mv hst.still) (hK.mv hst.still))
   refine gp zex ?_; refine gp zex ?_; refine zsA (sgV_len _ _ _) (sgV_one _ _ _) ?_; refine zxa ?_; refine gnt (gc_ret (gx_block_ret ?_)); refine gx_then_ret (gx_retct rfl rfl (by conv => lhs; whnf) (ldA Ty.row_63 Ty.sz_63) ?_); exact fun w' hw => ⟨x33, by rw [hge], by dsimp only; rw [hge, hsg]; exact hw.z⟩
  ·try simp only at hc24
   have hk2 : ¬ a.kind = 2 := by simpa using hc24
   refine gsr (gp zei ?_); refine zxa ?_; refine gnt (gif rfl (fun hc36 => ?_) (fun hc36 => ?_))
   ·try simp only at hc36
    have hk3 : a.kind = 3 := by simpa using hc36
    have hv : askV s a = propV s a.e a.r := by rw [askV, if_neg hk1, if_neg hk2, if_pos hk3]
    rw [hv] at hg; have hge : sgE a er = er := if_pos (.inr (.inr hk3))
    have hsg : signedV a = dOf Kc 9 [a.d.l] := by rw [signedV, if_neg hk1, if_neg hk2]
    refine gsr (zxm ?_); refine gp zfa ?_; refine gp zl ?_; refine gp zfa ?_; refine gp zl ?_; refine gp zfa ?_; refine gp (zL (sg := dc a.d) (hg := askC_dig a) (hl := dc_length _)) ?_; refine zc (fun x45 => ?_) (c := fun w1 F1 F2 h1 h2 hd hst => gprop_S (D := a.d) (seed := seed) hg h1 hs hk hb hc (hE.mv hst.still) (hK.mv hst.still))
    refine gp zex ?_; refine gp zex ?_; refine zsA (sgV_len _ _ _) (sgV_one _ _ _) ?_; refine zxa ?_; refine gnt (gc_ret (gx_block_ret ?_)); refine gx_then_ret (gx_retct rfl rfl (by conv => lhs; whnf) (ldA Ty.row_63 Ty.sz_63) ?_); exact fun w' hw => ⟨x45, by rw [hge], by dsimp only; rw [hge, hsg]; exact hw.z⟩
   ·try simp only at hc36
    have hk3 : ¬ a.kind = 3 := by simpa using hc36
    have hv : askV s a = enterV s a.e := by rw [askV, if_neg hk1, if_neg hk2, if_neg hk3]
    rw [hv] at hg; have hge : sgE a er = 1 := if_neg (by omega)
    refine gc_skip (gx_block_normal (gx_then (gsr (gp (zbu (cs := sgZ)) ?_)))); refine zxm ?_; refine gp zfa ?_; refine gp zl ?_; refine zc (fun _ => ?_) (c := fun w1 F1 F2 h1 h2 hd hst => genter_S hg h1 hs hk hb hc (hE.mv hst.still) (hK.mv hst.still))
    refine zsA (new := sgZ) (m := 3) rfl (sgV_one 1 0 xn) ?_; refine zxa ?_; refine gnt (gc_ret (gx_retct rfl rfl (by conv => lhs; whnf) (ldA Ty.row_63 Ty.sz_63) ?_)); exact fun w' hw => ⟨xn, by dsimp only; rw [hge, sgV_n (by decide)]; rfl, by dsimp only; rw [hge]; exact St.sgN (by decide) (hw.z)⟩
end
section
def i64N (n : Int) : Prop := -9223372036854775808 ≤ n ∧ n ≤ 9223372036854775807
structure OpV where
  a : AskV
  kind : Int
  n : Int
  keep : List Bool
def opC (o : OpV) (ak : Option Addr) (nk ck : Nat) : List Value := askC o.a ++ [.int .i64 o.kind, .int .i64 o.n, .slice ak nk ck]
theorem opC_len (o : OpV) (ak : Option Addr) (nk ck : Nat) : (opC o ak nk ck).length = 24 := by rw [opC, List.length_append, askC_len]; rfl
theorem opC_one (o : OpV) (ak : Option Addr) (nk ck : Nat) : ∀ v ∈ opC o ak nk ck, v.oneCell' = true := all_app' (askC_one _) (all_cons' rfl (all_cons' rfl (all_cons' rfl all_nil')))
theorem opC_ask (o : OpV) (ak : Option Addr) (nk ck : Nat) : ((opC o ak nk ck).drop 0).take 21 = askC o.a := by rw [List.drop_zero, opC, List.take_left' (askC_len _)]
def RdOp14 (w : World) (A : Nat → Prop) (cs : List Value) (o : OpV) : Prop := ∃ ak nk ck, cs = opC o ak nk ck ∧ (i64N o.a.kind ∧ i64N o.a.e ∧ i64N o.a.r ∧ i64N o.a.q ∧ i64N o.a.g ∧ i64N o.kind ∧ i64N o.n) ∧ nk ≤ ck ∧ RdRow w A 1 ak nk (o.keep.map Value.bool)
theorem RdOp14.mv {w w' : World} {A A' : Nat → Prop} {cs : List Value} {o : OpV} (h : RdOp14 w A cs o) (hk : Still w A w' A') : RdOp14 w' A' cs o := by
  obtain ⟨a, n, c, h1, h2, h3, h4⟩ := h; exact ⟨a, n, c, h1, h2, h3, h4.mv hk⟩
structure AgS where
  i : Nat
  f : Nat → Sec
  c : Nat
  s : VSt
attribute [local irreducible] Gl Gc Gx Gs Runs Wt
end
section
section
variable {H : Type} {enc : TypeId × Value → H} {w : World} {base : Nat} {sp : Nat → Bool} {held : Bool}
def RdAsk14 (cs : List Value) (a : AskV) : Prop := cs = askC a ∧ (i64N a.kind ∧ i64N a.e ∧ i64N a.r ∧ i64N a.q ∧ i64N a.g)
theorem o_ask14 : Opens enc Tryz.prog w base sp held 72 RdAsk14 := fun fuel cs x h => by
  have hl := opens_lenT (i := 0) (f := 3) (o := 0) (s := 21) (by kernel_rfl) (by kernel_rfl) h
  obtain ⟨n0, h0, i0⟩ := opens_fieldT (i := 0) (f := 3) (o := 0) (s := 1) (by kernel_rfl) (by kernel_rfl) (opens_i64 Ty.un_3) h
  obtain ⟨n1, h1, i1⟩ := opens_fieldT (i := 1) (f := 3) (o := 1) (s := 1) (by kernel_rfl) (by kernel_rfl) (opens_i64 Ty.un_3) h
  obtain ⟨n2, h2, i2⟩ := opens_fieldT (i := 2) (f := 3) (o := 2) (s := 1) (by kernel_rfl) (by kernel_rfl) (opens_i64 Ty.un_3) h
  obtain ⟨n3, h3, i3⟩ := opens_fieldT (i := 3) (f := 3) (o := 3) (s := 1) (by kernel_rfl) (by kernel_rfl) (opens_i64 Ty.un_3) h
  obtain ⟨n4, h4, i4⟩ := opens_fieldT (i := 4) (f := 3) (o := 4) (s := 1) (by kernel_rfl) (by kernel_rfl) (opens_i64 Ty.un_3) h
  obtain ⟨d5, h5⟩ := opens_fieldT (i := 5) (f := 32) (o := 5) (s := 16) (by kernel_rfl) (by kernel_rfl) o_dig h
  have e0 := seg cs 0 1
  have e1 := seg cs 1 1
  have e2 := seg cs 2 1
  have e3 := seg cs 3 1
  have e4 := seg cs 4 1
  have e5 := seg cs 5 16
  have ee := drop_all hl
  have e : cs = _ := (List.drop_zero (l := cs)).symm.trans e0
  simp only [Nat.reduceAdd, Nat.zero_add] at e e1 e2 e3 e4 e5
  rw [h0, e1, h1, e2, h2, e3, h3, e4, h4, e5, show (List.take 16 (List.drop 5 cs)) = dc d5 from h5, ee] at e
  exact ⟨⟨n0, n1, n2, n3, n4, d5⟩, by rw [e]; simp [askC], i0, i1, i2, i3, i4⟩
theorem o_op14 : Opens enc Tryz.prog w base sp held 74 (RdOp14 w TT) := fun fuel cs x h => by
  have hl := opens_lenT (i := 0) (f := 72) (o := 0) (s := 24) (by kernel_rfl) (by kernel_rfl) h
  obtain ⟨a, h0, j0, j1, j2, j3, j4⟩ := opens_fieldT (i := 0) (f := 72) (o := 0) (s := 21) (by kernel_rfl) (by kernel_rfl) o_ask14 h
  obtain ⟨n1, h1, i1⟩ := opens_fieldT (i := 1) (f := 3) (o := 21) (s := 1) (by kernel_rfl) (by kernel_rfl) (opens_i64 Ty.un_3) h
  obtain ⟨n2, h2, i2⟩ := opens_fieldT (i := 2) (f := 3) (o := 22) (s := 1) (by kernel_rfl) (by kernel_rfl) (opens_i64 Ty.un_3) h
  obtain ⟨l3, a3, m3, c3, h3, k3, r3⟩ := opens_fieldT (i := 3) (f := 67) (o := 23) (s := 1) (by kernel_rfl) (by kernel_rfl) o_rbools h
  have e0 := seg cs 0 21
  have e1 := seg cs 21 1
  have e2 := seg cs 22 1
  have e3 := seg cs 23 1
  have ee := drop_all hl
  have e : cs = _ := (List.drop_zero (l := cs)).symm.trans e0
  simp only [Nat.reduceAdd, Nat.zero_add] at e e1 e2 e3
  rw [h0, e1, h1, e2, h2, e3, h3, ee] at e
  exact ⟨⟨a, n1, n2, l3⟩, a3, m3, c3, by rw [e]; simp [opC], ⟨j0, j1, j2, j3, j4, i1, i2⟩, k3, r3⟩
def RdOps14 (w : World) (A : Nat → Prop) (cs : List Value) (l : List OpV) : Prop := ∃ a n c, cs = [.slice a n c] ∧ n ≤ c ∧ RdList (RdOp14 w A) w A 24 a n l
theorem o_ops14 : Opens enc Tryz.prog w base sp held 70 (RdOps14 w TT) := opens_slice (s := 24) Ty.sl_70 Ty.sz_74 (by decide) o_op14
theorem ops14_list {a : Option Addr} {n c : Nat} {l : List OpV} (h : RdOps14 w TT [.slice a n c] l) : RdList (RdOp14 w TT) w TT 24 a n l := by
  obtain ⟨a', n', c', e, _, hr⟩ := h
  injection e with e _
  injection e with e1 e2 e3
  subst e1; subst e2
  exact hr
end
end
section
theorem unit_get {j : Nat} (h : j < 4) {e : Nat} (he : e = j) : [Value.int .i64 64, .int .i64 16, .int .i64 4, .int .i64 1][e]? = some (.int .i64 ((2 ^ (6 - 2 * j) : Nat) : Int)) := by
  subst he
  have h' : e = 0 ∨ e = 1 ∨ e = 2 ∨ e = 3 := by omega
  rcases h' with rfl | rfl | rfl | rfl <;> rfl
theorem dig2_sum {S : Nat} (h : S ≤ 192) : [S / 64, S / 16 % 4, S / 4 % 4, S % 4] = dig2 S := by
  have : S / 64 % 4 = S / 64 := by omega
  simp [dig2, this]
attribute [local irreducible] Gl Gc Gx Gs Runs Wt
theorem one3_ok {w : World} {F : Nat → Prop} {n : Nat} (h : stars [] w F) (hn : n ≤ 255) :
    Calls Tryz.prog 125 #[.int .i64 (n : Int)] w (Post w F (fun _ : Unit => .string (str (b1 n))) (fun _ => [])) := by
 refine g_enter (env := [(0, .int .i64 (n : Int))]) Tryz.func125 rfl h Tryz.ntmps125 rfl rfl ?_; refine gsr (zxa ?_); refine zxs ?_; refine zxm ?_; refine gp (r_val zci (conv_len (m := n) (by omega))) ?_; refine ze1 fun b5 => ?_; refine gp (zso (b := b1 n)) ?_; refine zxa ?_; refine gnt (gc_ret (gx_ret1 rfl (by conv => lhs; whnf) ?_)); exact ze ()
theorem rstep3_ok {w : World} {F : Nat → Prop} {x : Dig} {leaf i k : Nat} (h : stars [] w F) (hl : leaf < 32) (hi : i < 68) (hk : k < 3) :
    Calls Tryz.prog 124 #[.agg (dc x).toArray, .int .i64 (leaf : Int), .int .i64 (i : Int), .int .i64 (k : Int)] w (Post w F (fun _ : Unit => .agg (dc (stepC leaf i k x)).toArray) (fun _ => [])) := by
 refine g_enter (env := [(0, .agg (dc x).toArray), (1, .int .i64 (leaf : Int)), (2, .int .i64 (i : Int)), (3, .int .i64 (k : Int))]) Tryz.func124 rfl h Tryz.ntmps124 rfl rfl ?_; refine gsr (zbN fun b4 => ?_); refine zal fun b8 => ?_; refine zxs ?_; refine gp zL ?_; refine zc (fun _ => ?_) (c := fun w1 F1 F2 h1 h2 hd hst => text_ok h1)
 refine zxm ?_; refine zc (fun _ => ?_) (c := fun w1 F1 F2 h1 h2 hd hst => one3_ok (n := leaf) h1 (by omega))
 refine zxm ?_; refine zc (fun _ => ?_) (c := fun w1 F1 F2 h1 h2 hd hst => one3_ok (n := i) h1 (by omega))
 refine zxm ?_; refine zc (fun _ => ?_) (c := fun w1 F1 F2 h1 h2 hd hst => one3_ok (n := k) h1 (by omega))
 refine gl_bsls (vs := [.string (str (x.l)), .string (str (b1 leaf)), .string (str (b1 i)), .string (str (b1 k))]) (wt0 rfl) Ty.sl_211 Ty.sz_9 Ty.zc_9 rfl rfl (all_cons' rfl (all_cons' rfl (all_cons' rfl (all_cons' rfl all_nil')))) rfl rfl rfl ?_; intro b17; refine zc (fun _ => ?_) (c := fun w1 F1 F2 h1 h2 hd hst => of2_ok (dom := 2) (parts := [x.l, b1 leaf, b1 i, b1 k]) h1 (.of1 (rd_row (xs := [.string (str (x.l)), .string (str (b1 leaf)), .string (str (b1 i)), .string (str (b1 k))]) h2 hd (by repeat (first | exact Pick.here | apply Pick.there))) (.cons rfl (.cons rfl (.cons rfl (.cons rfl .nil))))) (by simp [pcost, b1, Dig.h]))
 refine zsA (dc_length _) (dc_one _) ?_; refine gnt (gc_ret (gx_retc rfl rfl (ldA Ty.row_32 Ty.sz_32) ?_)); exact ze ()
theorem rrun3_ok {w : World} {F : Nat → Prop} {x : Dig} {leaf i m : Nat} (h : stars [] w F) (hl : leaf < 32) (hi : i < 68) (hm : m ≤ 3) :
    Calls Tryz.prog 112 #[.agg (dc x).toArray, .int .i64 (leaf : Int), .int .i64 (i : Int), .int .i64 (m : Int), .int .i64 3] w (Post w F (fun _ : Unit => .agg (dc (runC leaf i m (3 - m) x)).toArray) (fun _ => [])) := by
 refine g_enter (env := [(0, .agg (dc x).toArray), (1, .int .i64 (leaf : Int)), (2, .int .i64 (i : Int)), (3, .int .i64 (m : Int)), (4, .int .i64 3)]) Tryz.func112 rfl h Tryz.ntmps112 rfl rfl ?_; refine gsr (zbN fun b5 => ?_); refine zal fun b10 => ?_; refine gnt (gc_seq (gsr (zxm ?_))); refine zxa ?_; refine gnt (gc_block (gc_loop (α := Nat) (fun j => [pureR (m + j ≤ 3), blk b5 32 (dc (runC leaf i m j x)), blk b10 32 zD]) (fun j => [(11, .int .i64 ((m + j : Nat) : Int))]) [13, 14, 15, 16, 17, 18, 19, 20, 21, 22] (fun j => 3 - (m + j)) 0 ?_ ?_ ?_))
 ·refine env_start (by kernel_rfl)
 ·exact zlp (show m + 0 ≤ 3 by omega)
 ·intro j u; refine gc_pureR (fun hk => ?_)
  replace hk : m + j ≤ 3 := hk
  refine gc_seq (gsr (zxm ?_)); refine zxm ?_; refine gp zlt ?_; refine gnt (gif rfl (fun hc15 => ?_) (fun hc15 => ?_))
  ·try simp only at hc15
   have hk' : m + j < 3 := by omega
   refine gc_skip (gx_then (gc_seq (gc_block (gc_region (gp zL ?_))))); refine zxm ?_; refine zxm ?_; refine zxm ?_; refine zc (fun _ => ?_) (c := fun w1 F1 F2 h1 h2 hd hst => rstep3_ok (x := (runC leaf i m j x)) (leaf := leaf) (i := i) (k := m + j) h1 hl hi hk')
   refine zsA (dc_length _) (dc_one _) ?_; refine gl_nil (gx_block_normal (gx_then (gc_region (zxm ?_)))); refine gp (r_int (j := ((m + (j + 1) : Nat) : Int)) (zad (i := ((m + j : Nat) : Int)) (j := 1) (h := wrap_i64 (by omega) (by omega))) (by omega)) ?_; refine zxa ?_; refine gl_nil (zrd (j + 1) ?_ ?_)
   ·show 3 - (m + (j + 1)) < 3 - (m + j)
    omega
   ·rw [runC_snoc]; exact zlp (show m + (j + 1) ≤ 3 by omega)
  ·try simp only at hc15
   have hk' : j = 3 - m := by omega
   subst hk'; refine gc_exit ?_; refine gx_then_exit ?_; refine gx_round_exit ?_; refine gx_block_hit ?_; refine gx_then (gsr (gp zL ?_)); refine zsA (dc_length _) (dc_one _) ?_; refine gnt (gc_ret (gx_retc rfl rfl (ldA Ty.row_32 Ty.sz_32) ?_)); exact ze ()
theorem rdigits3_ok {w : World} {F : Nat → Prop} {d : Dig} (h : stars [] w F) :
    Calls Tryz.prog 110 #[.agg (dc d).toArray] w (Post w F (fun x : Option Addr × Nat => .slice x.1 68 x.2) (fun x => [rowR 3 1 x.1 68 x.2 ((digC d).map I64)])) := by
 have hdl := d.h
 refine g_enter (env := [(0, .agg (dc d).toArray)]) Tryz.func110 rfl h Tryz.ntmps110 rfl rfl ?_; refine gsr (zbN fun b1 => ?_); refine zxa ?_; refine zxs ?_; refine ze0 fun b11 => ?_; refine zxa ?_; refine zxs ?_; refine zxa ?_; refine gnt (gc_seq (gsr (gp zL ?_))); refine zxm ?_; refine gnt (gc_block (gc_loop (α := Nat × Nat × Nat × Option Addr × Nat) (fun y => [pureR (y.1 ≤ 16 ∧ y.2.1 = 4 * y.1 ∧ y.2.2.1 = sumD (digs (d.l.take y.1))), rowR 3 1 y.2.2.2.1 y.2.1 y.2.2.2.2 ((digs (d.l.take y.1)).map I64)]) (fun y => [(13, .int .i64 (y.1 : Int)), (3, .slice y.2.2.2.1 y.2.1 y.2.2.2.2), (4, .int .i64 (y.2.2.1 : Int))]) [6, 7, 9, 10, 14, 15, 16, 17, 18, 19, 20, 21, 22, 23, 24, 25, 26, 27, 28, 29, 30, 31, 32, 33, 34, 35, 36, 37] (fun y => 16 - y.1) (0, 0, 0, some ⟨b11, 0, none⟩, 0) ?_ ?_ ?_))
 ·refine env_start (by kernel_rfl)
 ·exact zlp ⟨Nat.zero_le _, rfl, rfl⟩
 ·intro y u; obtain ⟨k, n, S, a, c⟩ := y; refine gc_pureR (fun hk => ?_)
  obtain ⟨hk, hn, hS⟩ := hk; replace hk : k ≤ 16 := hk
  replace hn : n = 4 * k := hn
  replace hS : S = sumD (digs (d.l.take k)) := hS
  have hsk := sumD_le (digs (d.l.take k))
  rw [digs_take_len (by omega), ← hS] at hsk; refine gsr (gp zlt ?_); refine gnt (gc_seq (gif rfl (fun hc14 => ?_) (fun hc14 => ?_)))
  ·try simp only at hc14
   have hk' : k < 16 := by omega
   have hst2 := digs_take (l := d.l) (k := k) (by omega)
   have hbx := (d.l.getD k 0).toNat_lt
   refine gc_skip (gx_then (gc_seq (gc_block (gsr (gp (r_index1 (v := B8 (d.l.getD k 0)) rfl rfl Ty.arr_32 Ty.sz_5 Ty.row_5 (by omega) (by omega) (row_byte (by omega) (by rw [d.h]; exact hk'))) ?_))))); refine zxa ?_; refine zxs ?_; refine zxm ?_; refine gp (r_int (j := ((d.l.getD k 0).toNat : Int)) zci (wrap_nat (by omega))) ?_; refine zxa ?_; refine zxs ?_; refine gl_bsls (vs := [.int .i64 64, .int .i64 16, .int .i64 4, .int .i64 1]) (wt0 rfl) Ty.sl_52 Ty.sz_3 Ty.zc_3 rfl rfl (all_cons' rfl (all_cons' rfl (all_cons' rfl (all_cons' rfl all_nil')))) rfl rfl rfl ?_; intro b18; refine gp zln ?_; refine zxm ?_; refine gnt (gc_block (gc_loop (α := Nat × Nat × Nat × Option Addr × Nat) (fun z => [pureR (z.1 ≤ 4 ∧ z.2.1 = n + z.1 ∧ z.2.2.1 = sumD ((digs (d.l.take k)) ++ (dig2 (d.l.getD k 0).toNat).take z.1)), rowR 3 1 z.2.2.2.1 z.2.1 z.2.2.2.2 (((digs (d.l.take k)) ++ (dig2 (d.l.getD k 0).toNat).take z.1).map I64), rowR 3 1 (some ⟨b18, 0, none⟩) 4 4 [.int .i64 64, .int .i64 16, .int .i64 4, .int .i64 1]]) (fun z => [(20, .int .i64 (z.1 : Int)), (3, .slice z.2.2.2.1 z.2.1 z.2.2.2.2), (4, .int .i64 (z.2.2.1 : Int))]) [9, 10, 21, 22, 23, 24, 25, 26, 27, 28, 29, 30, 31, 32, 33, 34, 35, 36] (fun z => 4 - z.1) (0, n, S, a, c) ?_ ?_ ?_))
   ·refine env_start (by kernel_rfl)
   ·rw [List.take_zero, List.append_nil]; exact zlp ⟨Nat.zero_le _, rfl, hS⟩
   ·intro z u; obtain ⟨j, n2, S2, a2, c2⟩ := z; refine gc_pureR (fun hj => ?_)
    obtain ⟨hj, hn2, hS2⟩ := hj; replace hj : j ≤ 4 := hj
    replace hn2 : n2 = n + j := hn2
    replace hS2 : S2 = sumD ((digs (d.l.take k)) ++ (dig2 (d.l.getD k 0).toNat).take j) := hS2
    have hsj := sumD_le ((digs (d.l.take k)) ++ (dig2 (d.l.getD k 0).toNat).take j)
    rw [List.length_append, digs_take_len (by omega), ← hS2] at hsj; have hlj : ((dig2 (d.l.getD k 0).toNat).take j).length ≤ 4 := by rw [List.length_take]; exact Nat.le_trans (Nat.min_le_left _ _) hj
    refine gsr (gp zlt ?_); refine gnt (gc_seq (gif rfl (fun hc21 => ?_) (fun hc21 => ?_)))
    ·try simp only at hc21
     have hj' : j < 4 := by omega
     have hdj := dig2_take (b := (d.l.getD k 0).toNat) hj'
     have hx4 : ((d.l.getD k 0).toNat / 2 ^ (6 - 2 * j)) % 4 ≤ 3 := by omega
     have hdv : ((d.l.getD k 0).toNat / 2 ^ (6 - 2 * j)) ≤ (d.l.getD k 0).toNat := Nat.div_le_self _ _
     have hup : 0 < 2 ^ (6 - 2 * j) := Nat.pow_pos (by decide)
     refine gc_skip (gx_then (gc_seq (gc_block (gsr (gp (r_val (v' := .pointer (some ⟨b18, 0 + j, none⟩)) (zia (g := b18) (o := 0) (m := 4) (c := 4) (i := (j : Int))) (by simp)) ?_))))); refine gp (r_ld1r (v := .int .i64 ((2 ^ (6 - 2 * j) : Nat) : Int)) rfl Ty.row_3 (by repeat (first | exact Pick.here | apply Pick.there)) (unit_get hj' rfl)) ?_; refine zxa ?_; refine zxs ?_; refine zxm ?_; refine zxm ?_; refine gp (r_int (j := ((((d.l.getD k 0).toNat / 2 ^ (6 - 2 * j)) : Nat) : Int)) (zqu (i := ((d.l.getD k 0).toNat : Int)) (j := ((2 ^ (6 - 2 * j) : Nat) : Int)) (hj := (by omega))) ((congrArg IntKind.i64.wrap (quo_nat (m := (d.l.getD k 0).toNat) (k := 2 ^ (6 - 2 * j)))).trans (wrap_nat (by omega)))) ?_; refine gp (r_int (j := ((((d.l.getD k 0).toNat / 2 ^ (6 - 2 * j)) % 4 : Nat) : Int)) zrm rfl) ?_; refine zxa ?_; refine zxs ?_; refine zxm ?_; refine zxm ?_; refine ze1 fun b30 => ?_; refine zapo (m := n2) (j := 1) (news := [I64 (((d.l.getD k 0).toNat / 2 ^ (6 - 2 * j)) % 4)]) (fun a31 c31 => ?_)
     refine zxa ?_; refine gnt (gc_region (zxm ?_)); refine zxm ?_; refine gp (r_int (j := ((3 - ((d.l.getD k 0).toNat / 2 ^ (6 - 2 * j)) % 4 : Nat) : Int)) (zsb (h := sub3w hx4)) rfl) ?_; refine gp (r_int (j := ((S2 + (3 - ((d.l.getD k 0).toNat / 2 ^ (6 - 2 * j)) % 4) : Nat) : Int)) (zad (i := (S2 : Int)) (j := ((3 - ((d.l.getD k 0).toNat / 2 ^ (6 - 2 * j)) % 4 : Nat) : Int)) (h := add_w (by omega))) rfl) ?_; refine zxa ?_; refine gl_nil (gx_block_normal (gx_then (gc_region (gp (r_int (j := ((j + 1 : Nat) : Int)) (zad (i := (j : Int)) (j := 1) (h := wrap_i64 (by omega) (by omega))) (by omega)) ?_)))); refine zxm ?_; refine gl_nil (zrd ((j + 1, n2 + 1, S2 + (3 - ((d.l.getD k 0).toNat / 2 ^ (6 - 2 * j)) % 4), a31, c31)) ?_ ?_)
     ·show 4 - (j + 1) < 4 - j
      omega
     ·rw [hdj, ← List.append_assoc, map_I64]; exact zlp (show j + 1 ≤ 4 ∧ n2 + 1 = n + (j + 1) ∧ S2 + (3 - ((d.l.getD k 0).toNat / 2 ^ (6 - 2 * j)) % 4) = sumD (((digs (d.l.take k)) ++ (dig2 (d.l.getD k 0).toNat).take j) ++ [((d.l.getD k 0).toNat / 2 ^ (6 - 2 * j)) % 4]) from ⟨by omega, by omega, by rw [sumD_snoc, hS2]⟩)
    ·try simp only at hc21
     have hj' : j = 4 := by omega
     subst hj'; have e4 : (dig2 (d.l.getD k 0).toNat).take 4 = (dig2 (d.l.getD k 0).toNat) := rfl
     rw [e4] at hS2; rw [e4]; refine gc_exit ?_; refine gx_then_exit ?_; refine gx_round_exit ?_; refine gx_block_hit ?_; refine gx_block_normal (gx_then (gc_region (gp (r_int (j := ((k + 1 : Nat) : Int)) (zad (i := (k : Int)) (j := 1) (h := wrap_i64 (by omega) (by omega))) (by omega)) ?_))); refine zxm ?_; refine gl_nil (zrd ((k + 1, n2, S2, a2, c2)) ?_ ?_)
     ·show 16 - (k + 1) < 16 - k
      omega
     ·rw [← hst2]; exact zlp (show k + 1 ≤ 16 ∧ n2 = 4 * (k + 1) ∧ S2 = sumD (digs (d.l.take (k + 1))) from ⟨by omega, by omega, by rw [hst2]; exact hS2⟩)
  ·try simp only at hc14
   have hk' : k = 16 := by omega
   subst hk'; have e16 : d.l.take 16 = d.l := List.take_of_length_le (by omega)
   rw [e16] at hS; rw [e16]; have hn64 : n = 64 := by omega
   subst hn64; refine gc_exit ?_; refine gx_then_exit ?_; refine gx_round_exit ?_; refine gx_block_hit ?_; refine gx_then (gsr (zxm ?_)); refine zxm ?_; refine gp (r_int (j := ((S / 64 : Nat) : Int)) (zqu (i := (S : Int)) (j := 64)) ((congrArg IntKind.i64.wrap (quo_nat (m := S) (k := 64))).trans (wrap_nat (by omega)))) ?_; refine zxm ?_; refine gp (r_int (j := ((S / 16 : Nat) : Int)) (zqu (i := (S : Int)) (j := 16)) ((congrArg IntKind.i64.wrap (quo_nat (m := S) (k := 16))).trans (wrap_nat (by omega)))) ?_; refine gp (r_int (j := ((S / 16 % 4 : Nat) : Int)) zrm rfl) ?_; refine zxm ?_; refine gp (r_int (j := ((S / 4 : Nat) : Int)) (zqu (i := (S : Int)) (j := 4)) ((congrArg IntKind.i64.wrap (quo_nat (m := S) (k := 4))).trans (wrap_nat (by omega)))) ?_; refine gp (r_int (j := ((S / 4 % 4 : Nat) : Int)) zrm rfl) ?_; refine zxm ?_; refine gp (r_int (j := ((S % 4 : Nat) : Int)) (zrm (i := (S : Int))) rfl) ?_; refine gl_bsls (vs := [I64 (S / 64), I64 (S / 16 % 4), I64 (S / 4 % 4), I64 (S % 4)]) (wt0 rfl) Ty.sl_52 Ty.sz_3 Ty.zc_3 rfl rfl (all_cons' rfl (all_cons' rfl (all_cons' rfl (all_cons' rfl all_nil')))) rfl rfl rfl ?_; intro b49; refine zapo (m := 64) (j := 4) (news := [I64 (S / 64), I64 (S / 16 % 4), I64 (S / 4 % 4), I64 (S % 4)]) (fun a50 c50 => ?_)
   refine zxa ?_; refine gnt (gc_ret (gx_ret1 rfl (by conv => lhs; whnf) ?_)); rw [show (digs d.l).map I64 ++ [I64 (S / 64), I64 (S / 16 % 4), I64 (S / 4 % 4), I64 (S % 4)] = (digC d).map I64 by rw [digC, ← hS, ← dig2_sum (by omega), List.map_append]; rfl]; exact ze (a50, c50)
end
section
def recB (leaf : Nat) (xs : List Dig) (d : Dig) (k : Nat) : List UInt8 := (List.range k).flatMap fun i => (recE leaf xs d i).l
theorem recB_succ (leaf : Nat) (xs : List Dig) (d : Dig) (k : Nat) : recB leaf xs d (k + 1) = recB leaf xs d k ++ (recE leaf xs d k).l := by simp [recB, List.range_succ]
theorem recB_len (leaf : Nat) (xs : List Dig) (d : Dig) : ∀ k, (recB leaf xs d k).length = 16 * k
  | 0 => rfl
  | k + 1 => by rw [recB_succ, List.length_append, recB_len leaf xs d k, Dig.h]; omega
theorem recB_all (leaf : Nat) (xs : List Dig) (d : Dig) : dOf Kc 3 [b1 leaf, recB leaf xs d 68] = recC leaf xs d := by
  unfold recC pubC recB; rw [List.flatMap_map]
theorem row_dig {w : World} {A : Nat → Prop} {a : Option Addr} {n i : Nat} {l : List Dig} (h : RdRow w A 16 a n (l.map dc).flatten) (hi : i < n) (hl : i < l.length) : ∃ g o, a = some ⟨g, o, none⟩ ∧ A g ∧ w.rangeAt g (o + i * 16) (dc (l.getD i dig0)) := by
  obtain ⟨g, o, ha, hA, _, hr⟩ := h.elem hi
  have hg : (l.map dc)[i]? = some (dc (l.getD i dig0)) := by rw [List.getElem?_map, List.getElem?_eq_getElem hl, List.getD_eq_getElem?_getD, List.getElem?_eq_getElem hl]; rfl
  rw [flatten_at (dcs_len l) hg] at hr
  exact ⟨g, o, ha, hA, hr⟩
theorem climb_drop {x : Dig} {i : Nat} {ys : List Dig} {k : Nat} (h : k < ys.length) : climbT x i (ys.drop k) = climbT (if i % 2 = 0 then joinT x (ys.getD k dig0) else joinT (ys.getD k dig0) x) (i / 2) (ys.drop (k + 1)) := by
  rw [List.drop_eq_getElem_cons h, climbT, List.getD_eq_getElem?_getD, List.getElem?_eq_getElem h]; rfl
theorem leavesK_get {seed : Dig} {leaf : Nat} (h : leaf < 32) : (leavesK seed)[leaf]? = some (pubK seed leaf) := by rw [leavesK, List.getElem?_map, List.getElem?_range h]; rfl
theorem sig_right {seed D : Dig} {leaf : Nat} (h : leaf < 32) : climbT (recC leaf (sigC seed leaf D) D) leaf (pathT 5 (leavesK seed) leaf) = rootK seed := by
  rw [recC_sig]; exact climb_path 5 _ _ _ (leavesK_len seed) (leavesK_get h)
theorem sigC_len (seed : Dig) (leaf : Nat) (d : Dig) : (sigC seed leaf d).length = 68 := by simp [sigC]
attribute [local irreducible] Gl Gc Gx Gs Runs Wt
theorem ended3_ok {w : World} {F : Nat → Prop} {leaf : Nat} {b : List UInt8} (h : stars [] w F) (hl : leaf < 32) (hb : b.length ≤ 4096) :
    Calls Tryz.prog 113 #[.int .i64 (leaf : Int), .string (str (b))] w (Post w F (fun _ : Unit => .agg (dc (dOf Kc 3 [b1 leaf, b])).toArray) (fun _ => [])) := by
 refine g_enter (env := [(0, .int .i64 (leaf : Int)), (1, .string (str (b)))]) Tryz.func113 rfl h Tryz.ntmps113 rfl rfl ?_; refine gsr (zal fun b4 => ?_); refine zxs ?_; refine zxm ?_; refine zc (fun _ => ?_) (c := fun w1 F1 F2 h1 h2 hd hst => one3_ok (n := leaf) h1 (by omega))
 refine zxm ?_; refine gl_bsls (vs := [.string (str (b1 leaf)), .string (str (b))]) (wt0 rfl) Ty.sl_211 Ty.sz_9 Ty.zc_9 rfl rfl (all_cons' rfl (all_cons' rfl all_nil')) rfl rfl rfl ?_; intro b8; refine zc (fun _ => ?_) (c := fun w1 F1 F2 h1 h2 hd hst => of2_ok (dom := 3) (parts := [b1 leaf, b]) h1 (.of1 (rd_row (xs := [.string (str (b1 leaf)), .string (str (b))]) h2 hd (by repeat (first | exact Pick.here | apply Pick.there))) (.cons rfl (.cons rfl .nil))) (by simp [pcost, b1]; omega))
 refine zsA (dc_length _) (dc_one _) ?_; refine gnt (gc_ret (gx_retc rfl rfl (ldA Ty.row_32 Ty.sz_32) ?_)); exact ze ()
theorem recover3_ok {w : World} {F : Nat → Prop} {a : Option Addr} {c leaf : Nat} {xs : List Dig} {d : Dig} (h : stars [] w F) (hl : leaf < 32) (hx : RdRow w (fun k => ¬ F k) 16 a 68 (xs.map dc).flatten) (hxl : xs.length = 68) :
    Calls Tryz.prog 89 #[.int .i64 (leaf : Int), .slice a 68 c, .agg (dc d).toArray] w (Post w F (fun _ : Unit => .agg (dc (recC leaf xs d)).toArray) (fun _ => [])) := by
 refine g_enter (env := [(0, .int .i64 (leaf : Int)), (1, .slice a 68 c), (2, .agg (dc d).toArray)]) Tryz.func89 rfl h Tryz.ntmps89 rfl rfl ?_; refine gsr (zbN fun b5 => ?_); refine zal fun b6 => ?_; refine zxs ?_; refine zxa ?_; refine gnt (gc_seq (gsr (gp zL ?_))); refine zc ?_ (c := fun w1 F1 F2 h1 h2 hd hst => rdigits3_ok (d := d) h1)
 rintro ⟨a11, c11⟩
 refine gp zln ?_; refine zxm ?_; refine gnt (gc_block (gc_loop (α := Nat) (fun k => [pureR (k ≤ 68), rowR 3 1 a11 68 c11 ((digC d).map I64), blk b6 32 zD]) (fun k => [(13, .int .i64 (k : Int)), (7, .string (str (recB leaf xs d k)))]) [8, 9, 14, 15, 16, 17, 18, 19, 20, 21, 22, 23, 24, 25, 26, 27, 28, 29] (fun k => 68 - k) 0 ?_ ?_ ?_))
 ·refine env_start (by kernel_rfl)
 ·exact zlp (Nat.zero_le _)
 ·intro k u; refine gc_pureR (fun hk => ?_)
  replace hk : k ≤ 68 := hk
  have hrl := recB_len leaf xs d k
  refine gsr (gp zlt ?_); refine gnt (gc_seq (gif rfl (fun hc14 => ?_) (fun hc14 => ?_)))
  ·try simp only at hc14
   have hk' : k < 68 := by omega
   have hg := digC_get (d := d) hk'
   obtain ⟨gx, ox, hax, hAx, hrx⟩ := row_dig hx hk' (by omega); subst hax; refine gc_fact (fun w' hw => St.rowAt (hw.sel (M := [rowR 3 1 a11 68 c11 ((digC d).map I64)]) (by repeat (first | exact Sel.nil | (apply Sel.cons; · (repeat (first | exact Pick.here | apply Pick.there)))))) .here (by omega)) (fun hra => ?_)
   obtain ⟨_, ga, oa, ha⟩ := hra; subst ha; refine gc_skip (gx_then (gc_seq (gc_block (gsr (zxm ?_))))); refine gp zia ?_; refine gp (r_ld1r (v := I64 ((digC d).getD k 0)) rfl Ty.row_3 (by repeat (first | exact Pick.here | apply Pick.there)) (row_int (by omega) (by rw [digC_len]; exact hk'))) ?_; refine zxa ?_; refine zxa ?_; refine gnt (gc_region (zxm ?_)); refine zxm ?_; refine zxm ?_; refine gp (r_val (v' := .pointer (some ⟨gx, ox + k * 16, none⟩)) zia (by simp)) ?_; refine gp (r_ldNo (seg := dc (xs.getD k dig0)) rfl Ty.row_32 Ty.sz_32 hrx (dc_length _) (by decide) hAx) ?_; refine zxm ?_; refine zxm ?_; refine zxm ?_; refine zc (fun _ => ?_) (c := fun w1 F1 F2 h1 h2 hd hst => rrun3_ok (x := xs.getD k dig0) (leaf := leaf) (i := k) (m := (digC d).getD k 0) h1 hl hk' hg)
   rw [show runC leaf k ((digC d).getD k 0) (3 - (digC d).getD k 0) (xs.getD k dig0) = recE leaf xs d k from rfl]; refine zc (fun _ => ?_) (c := fun w1 F1 F2 h1 h2 hd hst => text_ok h1)
   refine gp (r_val (zcat (a := recB leaf xs d k) (b := (recE leaf xs d k).l) (hl := by rw [hrl, Dig.h]; omega)) (congrArg (fun l => Value.string (str l)) (recB_succ leaf xs d k).symm)) ?_; refine zxa ?_; refine gl_nil (gx_block_normal (gx_then (gc_region (gp zad ?_)))); refine zxm ?_; refine gl_nil (zrd (k + 1) ?_ ?_)
   ·show 68 - (k + 1) < 68 - k
    omega
   ·exact zlp (show k + 1 ≤ 68 by omega)
  ·try simp only at hc14
   have hk' : k = 68 := by omega
   subst hk'; refine gc_exit ?_; refine gx_then_exit ?_; refine gx_round_exit ?_; refine gx_block_hit ?_; refine gx_then (gsr (zxm ?_)); refine zxm ?_; refine zc (fun _ => ?_) (c := fun w1 F1 F2 h1 h2 hd hst => ended3_ok (leaf := leaf) (b := recB leaf xs d 68) h1 hl (by rw [hrl]; decide))
   rw [recB_all]; refine zsA (dc_length _) (dc_one _) ?_; refine gnt (gc_ret (gx_retc rfl rfl (ldA Ty.row_32 Ty.sz_32) ?_)); exact ze ()
theorem rjoin4_ok {w : World} {F : Nat → Prop} {x y : Dig} (h : stars [] w F) :
    Calls Tryz.prog 109 #[.agg (dc x).toArray, .agg (dc y).toArray] w (Post w F (fun _ : Unit => .agg (dc (joinT x y)).toArray) (fun _ => [])) := by
 refine g_enter (env := [(0, .agg (dc x).toArray), (1, .agg (dc y).toArray)]) Tryz.func109 rfl h Tryz.ntmps109 rfl rfl ?_; refine gsr (zbN fun b2 => ?_); refine zbN fun b3 => ?_; refine zal fun b4 => ?_; refine gnt (gc_seq (gc_regionZ 6 ([blk b2 32 (dc x), blk b3 32 (dc y)]) ?_)); refine yps 0 rfl zL ?_; refine yps 2 rfl zL ?_; refine yos 1 rfl ?_; refine zc (fun _ => ?_) (c := fun w1 F1 F2 h1 h2 hd hst => text_ok h1)
 refine yxs ?_; refine yos 3 rfl ?_; refine zc (fun _ => ?_) (c := fun w1 F1 F2 h1 h2 hd hst => text_ok h1)
 refine yxs ?_; refine yos 4 rfl ?_; refine gl_bsls (vs := [.string (str (x.l)), .string (str (y.l))]) (wt0 rfl) Ty.sl_211 Ty.sz_9 Ty.zc_9 rfl rfl (all_cons' rfl (all_cons' rfl all_nil')) rfl rfl rfl ?_; intro b9; refine yxs ?_; refine yos 5 rfl ?_; refine zc (fun _ => ?_) (c := fun w1 F1 F2 h1 h2 hd hst => of2_ok (dom := 4) (parts := [x.l, y.l]) h1 (.of1 (rd_row (xs := [.string (str (x.l)), .string (str (y.l))]) h2 hd (by repeat (first | exact Pick.here | apply Pick.there))) (.cons rfl (.cons rfl .nil))) (by simp [pcost, b1, Dig.h]))
 refine yxs ?_; refine yzs rfl ?_; refine zsA (dc_length _) (dc_one _) ?_; refine gnt (gc_ret (gx_retc rfl rfl (ldA Ty.row_32 Ty.sz_32) ?_)); exact ze ()
theorem climb4_ok {w : World} {F : Nat → Prop} {a : Option Addr} {c i : Nat} {ys : List Dig} {d : Dig} (h : stars [] w F) (hi : i < 32) (hx : RdRow w (fun k => ¬ F k) 16 a 5 (ys.map dc).flatten) (hxl : ys.length = 5) :
    Calls Tryz.prog 88 #[.agg (dc d).toArray, .int .i64 (i : Int), .slice a 5 c] w (Post w F (fun _ : Unit => .agg (dc (climbT d i ys)).toArray) (fun _ => [])) := by
 refine g_enter (env := [(0, .agg (dc d).toArray), (1, .int .i64 (i : Int)), (2, .slice a 5 c)]) Tryz.func88 rfl h Tryz.ntmps88 rfl rfl ?_; refine gsr (zbN fun b3 => ?_); refine zal fun b6 => ?_; refine gnt (gc_seq (gsr (zxm ?_))); refine gp zln ?_; refine zxm ?_; refine gnt (gc_block (gc_loop (α := Nat × Nat × Dig) (fun y => [pureR (y.1 ≤ 5 ∧ y.2.1 < 32 ∧ climbT y.2.2 y.2.1 (ys.drop y.1) = climbT d i ys), blk b3 32 (dc y.2.2), blk b6 32 zD]) (fun y => [(11, .int .i64 (y.1 : Int)), (1, .int .i64 (y.2.1 : Int))]) [8, 12, 13, 14, 15, 16, 17, 18, 19, 20, 21, 22, 23, 24, 25, 26] (fun y => 5 - y.1) (0, i, d) ?_ ?_ ?_))
 ·refine env_start (by kernel_rfl)
 ·exact zlp ⟨Nat.zero_le _, hi, rfl⟩
 ·intro y u; obtain ⟨k, j, x⟩ := y; refine gc_pureR (fun hk => ?_)
  obtain ⟨hk, hj, hcl⟩ := hk; replace hk : k ≤ 5 := hk
  replace hj : j < 32 := hj
  replace hcl : climbT x j (ys.drop k) = climbT d i ys := hcl
  refine gsr (gp zlt ?_); refine gnt (gc_seq (gif rfl (fun hc12 => ?_) (fun hc12 => ?_)))
  ·try simp only at hc12
   have hk' : k < 5 := by omega
   obtain ⟨gx, ox, hax, hAx, hrx⟩ := row_dig hx hk' (by omega); subst hax; refine gc_skip (gx_then (gc_seq (gc_block (gsr (gp (r_val (v' := .pointer (some ⟨gx, ox + k * 16, none⟩)) zia (by simp)) ?_))))); refine gp (r_ldNo (seg := dc (ys.getD k dig0)) rfl Ty.row_32 Ty.sz_32 hrx (dc_length _) (by decide) hAx) ?_; refine zal fun b8 => ?_; refine zsA (dc_length _) (dc_one _) ?_; refine gnt (gc_seq (gsr (zxm ?_))); refine gp (r_int (j := ((j % 2 : Nat) : Int)) (zrm (i := (j : Int)) (j := 2)) rfl) ?_; refine gp (r_bool (c := decide (j % 2 = 1)) zei (by rw [Bool.eq_iff_iff]; simp only [decide_eq_true_eq]; omega)) ?_; refine gnt (gif rfl (fun hc17 => ?_) (fun hc17 => ?_))
   ·try simp only at hc17
    have hm : j % 2 = 1 := by simpa using hc17
    refine gc_region (gp zL ?_); refine gp zL ?_; refine zc (fun _ => ?_) (c := fun w1 F1 F2 h1 h2 hd hst => rjoin4_ok (x := (ys.getD k dig0)) (y := x) h1)
    refine zsA (dc_length _) (dc_one _) ?_; refine gnt (gc_region (zxm ?_)); refine gp (r_int (j := ((j / 2 : Nat) : Int)) (zqu (i := (j : Int)) (j := 2)) ((congrArg IntKind.i64.wrap (quo_nat (m := j) (k := 2))).trans (wrap_nat (by omega)))) ?_; refine zxa ?_; refine gl_nil (gx_block_normal (gx_then (gc_region (gp (r_int (j := ((k + 1 : Nat) : Int)) (zad (i := (k : Int)) (j := 1) (h := wrap_i64 (by omega) (by omega))) (by omega)) ?_)))); refine zxm ?_; refine gl_nil (zrd ((k + 1, j / 2, joinT (ys.getD k dig0) x)) ?_ ?_)
    ·show 5 - (k + 1) < 5 - k
     omega
    ·exact zlp (show k + 1 ≤ 5 ∧ j / 2 < 32 ∧ climbT _ (j / 2) (ys.drop (k + 1)) = climbT d i ys from ⟨by omega, by omega, by rw [← hcl, climb_drop (x := x) (i := j) (k := k) (by omega), if_neg (by omega)]⟩)
   ·try simp only at hc17
    have hm : ¬ j % 2 = 1 := by simpa using hc17
    refine gc_region (gp zL ?_); refine gp zL ?_; refine zc (fun _ => ?_) (c := fun w1 F1 F2 h1 h2 hd hst => rjoin4_ok (x := x) (y := (ys.getD k dig0)) h1)
    refine zsA (dc_length _) (dc_one _) ?_; refine gnt (gc_region (zxm ?_)); refine gp (r_int (j := ((j / 2 : Nat) : Int)) (zqu (i := (j : Int)) (j := 2)) ((congrArg IntKind.i64.wrap (quo_nat (m := j) (k := 2))).trans (wrap_nat (by omega)))) ?_; refine zxa ?_; refine gl_nil (gx_block_normal (gx_then (gc_region (gp (r_int (j := ((k + 1 : Nat) : Int)) (zad (i := (k : Int)) (j := 1) (h := wrap_i64 (by omega) (by omega))) (by omega)) ?_)))); refine zxm ?_; refine gl_nil (zrd ((k + 1, j / 2, joinT x (ys.getD k dig0))) ?_ ?_)
    ·show 5 - (k + 1) < 5 - k
     omega
    ·exact zlp (show k + 1 ≤ 5 ∧ j / 2 < 32 ∧ climbT _ (j / 2) (ys.drop (k + 1)) = climbT d i ys from ⟨by omega, by omega, by rw [← hcl, climb_drop (x := x) (i := j) (k := k) (by omega), if_pos (by omega)]⟩)
  ·try simp only at hc12
   have hk' : k = 5 := by omega
   subst hk'; have hx5 : x = climbT d i ys := by rw [← hcl, List.drop_eq_nil_of_le (by omega)]; rfl
   subst hx5; refine gc_exit ?_; refine gx_then_exit ?_; refine gx_round_exit ?_; refine gx_block_hit ?_; refine gx_then (gsr (gp zL ?_)); refine zsA (dc_length _) (dc_one _) ?_; refine gnt (gc_ret (gx_retc rfl rfl (ldA Ty.row_32 Ty.sz_32) ?_)); exact ze ()
theorem right5_ok {w : World} {F : Nat → Prop} {seed D : Dig} {leaf : Nat} {x : (Option Addr × Nat) × (Option Addr × Nat)} (h : stars [] w F) (hl : leaf < 32) (h1x : RdRow w (fun k => ¬ F k) 16 x.1.1 68 ((sigC seed leaf D).map dc).flatten) (h2x : RdRow w (fun k => ¬ F k) 16 x.2.1 5 ((pathT 5 (leavesK seed) leaf).map dc).flatten) :
    Calls Tryz.prog 54 #[.agg (dc (rootK seed)).toArray, .agg (dc D).toArray, .agg (sgC leaf x).toArray] w (Post w F (fun _ : Unit => .bool true) (fun _ => [])) := by
 refine g_enter (env := [(0, .agg (dc (rootK seed)).toArray), (1, .agg (dc D).toArray), (2, _)]) Tryz.func54 rfl h Tryz.ntmps54 rfl rfl ?_; refine gsr (zbN fun b3 => ?_); refine zbN fun b4 => ?_; refine zbN fun b5 => ?_; refine zxa ?_; refine gnt (gc_seq (gsr (gp zfa ?_))); refine gp zl ?_; refine gp (r_bool (c := false) zlt (decide_eq_false (by omega))) ?_; refine zxm ?_; refine gq zfa ?_; refine gq zl ?_; refine gq (r_bool (c := false) zgt (decide_eq_false (by omega))) ?_; refine gp zpk ?_; refine zxm ?_; refine gq zfa ?_; refine gq zl ?_; refine gq zln ?_; refine gq (r_bool (c := false) zni (rfl)) ?_; refine gp zpk ?_; refine zxm ?_; refine gq zfa ?_; refine gq zl ?_; refine gq zln ?_; refine gq (r_bool (c := false) zni (rfl)) ?_; refine gp zpk ?_; refine gnt (gc_condF rfl rfl ?_); refine gc_skip (gx_then (gc_seq (gc_regionZ 13 ([blk b5 63 (sgC leaf x), blk b4 32 (dc D), blk b3 32 (dc (rootK seed))]) ?_))); refine yps 0 rfl zfa ?_; refine yps 1 rfl zl ?_; refine yps 2 rfl zfa ?_; refine yps 3 rfl zl ?_; refine yps 4 rfl zL ?_; refine yps 6 rfl zfa ?_; refine yps 7 rfl zl ?_; refine yps 8 rfl zfa ?_; refine yps 9 rfl zl ?_; refine yps 11 rfl zL ?_; refine yos 5 rfl ?_; refine zc (fun _ => ?_) (c := fun w1 F1 F2 h1 h2 hd hst => recover3_ok (leaf := leaf) (xs := sigC seed leaf D) (d := D) h1 hl (h1x.mv hst.still) (sigC_len _ _ _))
 refine yxs ?_; refine yos 10 rfl ?_; refine zc (fun _ => ?_) (c := fun w1 F1 F2 h1 h2 hd hst => climb4_ok (i := leaf) (ys := pathT 5 (leavesK seed) leaf) (d := recC leaf (sigC seed leaf D) D) h1 hl (h2x.mv hst.still) (pathT_len _ _ _))
 rw [sig_right hl]; refine yxs ?_; refine yps 12 rfl (r_bool (c := true) zed (decide_eq_true rfl)) ?_; refine yzs rfl ?_; refine zxa ?_; refine gnt (gc_ret (gx_ret1 rfl (by conv => lhs; whnf) ?_)); exact ze ()
end
section
structure PInv7 (d : DS) (s : SL) (t : List UInt8) (tried : Bool) (k : Nat) : Prop where
  ok : DOk d
  n : d.n = 2
  base : s.base = 0
  cnt : s.count ≤ k
  good : GoodAt d.ss s.count s.rec'
  ws : d.ws = [] ∨ (tried = true ∧ d.ws = [((((s.count + 1) % 2 : Nat) : Int), slotS ((s.count + 1 : Nat) : Int) t)] ∧ t.length ≤ 31)
  off : tried = true → d.off = true
theorem PInv7.next {d : DS} {s : SL} {t : List UInt8} {tried : Bool} {k : Nat} (h : PInv7 d s t tried k) : PInv7 d s t tried (k + 1) := ⟨h.ok, h.n, h.base, Nat.le_succ_of_le h.cnt, h.good, h.ws, h.off⟩
theorem pinv_put {d : DS} {s : SL} {t : List UInt8} {tried : Bool} {k : Nat} {r : List UInt8} (h : PInv7 d s t tried k) (hk : k ≤ 60) (hr : r.length ≤ 31) :
    (∃ d', put d s r = (0, d', ⟨0, s.count + 1, r⟩) ∧ PInv7 d' ⟨0, s.count + 1, r⟩ t false (k + 1)) ∨ (∃ d', put d s r = (6, d', s) ∧ (if tried = true then PInv7 d' s t true (k + 1) else PInv7 d' s r true (k + 1))) := by
  have hc := h.cnt
  have hg := h.good
  have hmx : ¬ s.count = 9223372036854775807 := by omega
  have hb : s.base + (((s.count + 1) % 2 : Nat) : Int) = (((s.count + 1) % 2 : Nat) : Int) := by rw [h.base]; omega
  have hh : d.has (((s.count + 1) % 2 : Nat) : Int) = true := has_iff.2 ⟨by omega, by rw [h.n]; omega⟩
  cases ho : (oper d).off with
  | true =>
    refine .inr ⟨oper d, ?_, ?_⟩
    · rw [put, if_neg (by omega), if_neg hmx, hb, wr_off hh ho, if_neg (show ¬ (6 : Nat) = 0 by decide)]
    · have hp : ∀ t', (t' = t ∨ tried = false) → PInv7 (oper d) s t' true (k + 1) := fun t' ht => by
        refine ⟨oper_ok h.ok, by rw [oper_n]; exact h.n, h.base, by omega, by rw [oper_ss]; exact hg, ?_, fun _ => ho⟩
        rw [oper_ws]
        rcases h.ws with hw | ⟨h1, h2, h3⟩
        · exact .inl hw
        · rcases ht with rfl | ht
          · exact .inr ⟨rfl, h2, h3⟩
          · rw [ht] at h1; cases h1
      cases tried with
      | true => rw [if_pos rfl]; exact hp t (.inl rfl)
      | false => rw [if_neg (by decide)]; exact hp r (.inr rfl)
  | false =>
    have hoff : d.off = false := by
      cases hd : d.off with
      | false => rfl
      | true => rw [oper_no (.inr hd), hd] at ho; cases ho
    have htr : tried = false := by
      cases tried with
      | false => rfl
      | true => have := h.off rfl; rw [hoff] at this; cases this
    have hws : d.ws = [] := by
      rcases h.ws with hw | ⟨h1, _⟩
      · exact hw
      · rw [htr] at h1; cases h1
    have hw1 := wr_on (v := slotS ((s.count + 1 : Nat) : Int) r) hh ho
    have hk1 : DOk ((oper d).write (((s.count + 1) % 2 : Nat) : Int) (slotS ((s.count + 1 : Nat) : Int) r)) := by
      have := wr_ok (i := (((s.count + 1) % 2 : Nat) : Int)) (v := slotS ((s.count + 1 : Nat) : Int) r) h.ok
      rwa [hw1] at this
    generalize hd1 : (oper d).write (((s.count + 1) % 2 : Nat) : Int) (slotS ((s.count + 1 : Nat) : Int) r) = d1 at *
    have e1 : d1.ss = d.ss := by rw [← hd1]; exact oper_ss d
    have e2 : d1.ws = [((((s.count + 1) % 2 : Nat) : Int), slotS ((s.count + 1 : Nat) : Int) r)] := by rw [← hd1]; show putW _ _ (oper d).ws = _; rw [oper_ws, hws]; rfl
    have e3 : d1.n = 2 := by rw [← hd1]; show (oper d).n = 2; rw [oper_n]; exact h.n
    cases ho1 : (oper d1).off with
    | true =>
      refine .inr ⟨oper d1, ?_, ?_⟩
      · rw [put, if_neg (by omega), if_neg hmx, hb, hw1]
        simp only [if_true, ho1, DS.syncd]
      · rw [if_neg (by rw [htr]; decide)]
        exact ⟨oper_ok hk1, by rw [oper_n]; exact e3, h.base, by omega, by rw [oper_ss, e1]; exact hg, .inr ⟨rfl, by rw [oper_ws]; exact e2, hr⟩, fun _ => ho1⟩
    | false =>
      refine .inl ⟨(oper d1).sync, ?_, ?_⟩
      · rw [put, if_neg (by omega), if_neg hmx, hb, hw1]
        simp only [if_true, ho1, DS.syncd, Bool.false_eq_true, if_false, h.base]
      · have hat : (oper d1).sync.ss = updS d.ss ((s.count + 1) % 2) (slotS ((s.count + 1 : Nat) : Int) r) := by
          funext i
          show (oper d1).at i = _
          simp only [DS.at, oper_ws, oper_ss, e1, e2, lookW, updS]
          by_cases hi : i = (s.count + 1) % 2
          · subst hi; simp
          · rw [if_neg (by omega), if_neg hi]; rfl
        exact ⟨sync_ok (oper_ok hk1), by show (oper d1).n = 2; rw [oper_n]; exact e3, rfl, by simp only; omega, by rw [hat]; exact good_put hg (by omega) hr, .inl rfl, fun hx => by cases hx⟩
theorem pinv_crash {d : DS} {s : SL} {t : List UInt8} {tried : Bool} {k : Nat} (h : PInv7 d s t tried k) (hk : k ≤ 60) (kb : List Bool) :
    ∃ s', opn (d.crash kb) 0 = some s' ∧ PInv7 (d.crash kb) s' t false (k + 1) ∧ (s'.rec' = s.rec' ∨ (tried = true ∧ s'.rec' = t)) := by
  have hc := h.cnt
  have hg := h.good
  have hn : (d.crash kb).n = 2 := h.n
  have hws : (d.crash kb).ws = [] := rfl
  have hat : (d.crash kb).at = (d.crash kb).ss := rfl
  have keep : (d.crash kb).ss = d.ss → ∃ s', opn (d.crash kb) 0 = some s' ∧ PInv7 (d.crash kb) s' t false (k + 1) ∧ (s'.rec' = s.rec' ∨ (tried = true ∧ s'.rec' = t)) := fun e =>
    ⟨⟨0, s.count, s.rec'⟩, opn_good (by rw [hat, e]; exact hg), ⟨crash_ok h.ok, hn, rfl, by simp only; omega, by rw [e]; exact hg, .inl hws, fun hx => by cases hx⟩, .inl rfl⟩
  rcases h.ws with hw | ⟨h1, h2, h3⟩
  · exact keep (by rw [crash_idle hw])
  · have hks : sortZ (keysW d.ws) = [(((s.count + 1) % 2 : Nat) : Int)] := by rw [h2]; simp [keysW, sortZ]
    have hss : (d.crash kb).ss = keepF [(((s.count + 1) % 2 : Nat) : Int)] kb d.ws d.ss 1 := by
      show keepF (sortZ (keysW d.ws)) kb d.ws d.ss (sortZ (keysW d.ws)).length = _
      rw [hks]; rfl
    cases hkb : kb.getD 0 false with
    | false => exact keep (by rw [hss, keepF_no hkb]; rfl)
    | true =>
      have hup : (d.crash kb).ss = updS d.ss ((s.count + 1) % 2) (slotS ((s.count + 1 : Nat) : Int) t) := by
        rw [hss, keepF_yes hkb, h2]
        have e : lookW (((s.count + 1) % 2 : Nat) : Int) [((((s.count + 1) % 2 : Nat) : Int), slotS ((s.count + 1 : Nat) : Int) t)] = some (slotS ((s.count + 1 : Nat) : Int) t) := by simp only [lookW, if_true]
        show updS d.ss (((s.count + 1) % 2 : Nat) : Int).toNat ((lookW (((s.count + 1) % 2 : Nat) : Int) [((((s.count + 1) % 2 : Nat) : Int), slotS ((s.count + 1 : Nat) : Int) t)]).getD sec0) = _
        rw [e, Int.toNat_natCast]; rfl
      have hg2 := good_put hg (by omega) h3
      exact ⟨⟨0, s.count + 1, t⟩, opn_good (by rw [hat, hup]; exact hg2), ⟨crash_ok h.ok, hn, rfl, by simp only; omega, by rw [hup]; exact hg2, .inl hws, fun hx => by cases hx⟩, .inr ⟨h1, rfl⟩⟩
theorem pinv_arm {d : DS} {s : SL} {t : List UInt8} {tried : Bool} {k : Nat} {n : Int} (h : PInv7 d s t tried k) (ho : d.off = false) (hn : -9223372036854775808 ≤ n ∧ n ≤ 9223372036854775807) : PInv7 { d with armed := decide (0 ≤ n), left := n } s t tried (k + 1) :=
  ⟨⟨h.ok.n, h.ok.nd, h.ok.ks, fun h1 _ => by simpa using h1, hn⟩, h.n, h.base, Nat.le_succ_of_le h.cnt, h.good, h.ws, fun hx => by have := h.off hx; rw [ho] at this; cases this⟩
theorem pinv_put0 {d : DS} {s : SL} {t : List UInt8} {tried : Bool} {k : Nat} {r : List UInt8} (h : PInv7 d s t tried k) (hk : k ≤ 60) (hr : r.length ≤ 31) (h0 : (put d s r).1 = 0) :
    ∃ d', put d s r = (0, d', ⟨0, s.count + 1, r⟩) ∧ PInv7 d' ⟨0, s.count + 1, r⟩ t false (k + 1) := by
  rcases pinv_put h hk hr with ⟨d', e, hi⟩ | ⟨d', e, _⟩
  · exact ⟨d', e, hi⟩
  · rw [e] at h0; cases h0
theorem pinv_put6 {d : DS} {s : SL} {t : List UInt8} {tried : Bool} {k : Nat} {r : List UInt8} (h : PInv7 d s t tried k) (hk : k ≤ 60) (hr : r.length ≤ 31) (h0 : ¬ (put d s r).1 = 0) :
    ∃ d', put d s r = (6, d', s) ∧ (tried = true → PInv7 d' s t true (k + 1)) ∧ (tried = false → PInv7 d' s r true (k + 1)) := by
  rcases pinv_put h hk hr with ⟨d', e, _⟩ | ⟨d', e, hi⟩
  · rw [e] at h0; exact absurd rfl h0
  · refine ⟨d', e, fun ht => ?_, fun ht => ?_⟩
    · rw [if_pos ht] at hi; exact hi
    · rw [if_neg (by rw [ht]; decide)] at hi; exact hi
theorem PInv7.len {d : DS} {s : SL} {t : List UInt8} {tried : Bool} {k : Nat} (h : PInv7 d s t tried k) : s.rec'.length ≤ 31 := h.good.rl
end
section
section
variable {s t u : VSt} {e r q g h : Int}
theorem beginV_0 (hs : s.ok = true) (he : e = s.e) (h1 : 1 ≤ r) (h2 : r ≤ 1099511627776) : beginV s e r = 0 := by rw [beginV, if_pos hs, if_pos he, if_neg (by omega)]
theorem beginV_18 (hs : s.ok = true) (he : ¬ e = s.e) : beginV s e r = 18 := by rw [beginV, if_pos hs, if_neg he]
theorem beginV_14 (hs : s.ok = true) (he : e = s.e) (h1 : r < 1 ∨ 1099511627776 < r) : beginV s e r = 14 := by rw [beginV, if_pos hs, if_pos he, if_pos h1]
theorem vote_18 (hs : s.ok = true) (he : ¬ e = s.e) : voteV s e r q g = (s, 18) := by rw [voteV, beginV_18 hs he, if_neg (by decide)]
theorem vote_14 (hs : s.ok = true) (he : e = s.e) (h : (r < 1 ∨ 1099511627776 < r) ∨ q < 0 ∨ r ≤ q) : voteV s e r q g = (s, 14) := by
  by_cases hr : r < 1 ∨ 1099511627776 < r
  · rw [voteV, beginV_14 hs he hr, if_neg (by decide)]
  · rw [voteV, if_pos (beginV_0 hs he (by omega) (by omega)), if_pos (by omega)]
section
variable (hs : s.ok = true) (he : e = s.e) (h1 : 1 ≤ r) (h2 : r ≤ 1099511627776) (h3 : 0 ≤ q) (h4 : q < r)
include hs he h1 h2 h3 h4
theorem vote_10 (hv : r ≤ s.v) : voteV s e r q g = (s, 10) := by rw [voteV, if_pos (beginV_0 hs he h1 h2), if_neg (by omega), if_pos hv]
theorem vote_15 (hv : ¬ r ≤ s.v) (hl : q < s.l) : voteV s e r q g = (s, 15) := by rw [voteV, if_pos (beginV_0 hs he h1 h2), if_neg (by omega), if_neg hv, if_pos hl]
theorem vote_5 (hv : ¬ r ≤ s.v) (hl : ¬ q < s.l) (hf : s.lf = 32) : voteV s e r q g = (s, 5) := by rw [voteV, if_pos (beginV_0 hs he h1 h2), if_neg (by omega), if_neg hv, if_neg hl, if_pos (by omega)]
theorem vote_g (hv : ¬ r ≤ s.v) (hl : ¬ q < s.l) (hf : ¬ s.lf = 32) (hg : 0 ≤ g ∧ g ≤ q ∧ s.l < g) : voteV s e r q g = (⟨s.e, r, g, s.p, s.lf + 1⟩, 0) := by
  have hi := VSt.okI hs
  rw [voteV, if_pos (beginV_0 hs he h1 h2), if_neg (by omega), if_neg hv, if_neg hl, if_neg (by omega), if_pos (by omega)]
  simp only [Prod.mk.injEq, VSt.mk.injEq, and_true, true_and]; omega
theorem vote_n (hv : ¬ r ≤ s.v) (hl : ¬ q < s.l) (hf : ¬ s.lf = 32) (hg : ¬ (0 ≤ g ∧ g ≤ q ∧ s.l < g)) : voteV s e r q g = (⟨s.e, r, s.l, s.p, s.lf + 1⟩, 0) := by
  have hi := VSt.okI hs
  rw [voteV, if_pos (beginV_0 hs he h1 h2), if_neg (by omega), if_neg hv, if_neg hl, if_neg (by omega)]
  simp only [Prod.mk.injEq, VSt.mk.injEq, and_true, true_and]
  split <;> omega
end
theorem late_18 (hs : s.ok = true) (he : ¬ e = s.e) : lateV s e r = (s, 18) := by rw [lateV, beginV_18 hs he, if_neg (by decide)]
theorem late_14 (hs : s.ok = true) (he : e = s.e) (h : r < 1 ∨ 1099511627776 < r) : lateV s e r = (s, 14) := by rw [lateV, beginV_14 hs he h, if_neg (by decide)]
theorem late_5 (hs : s.ok = true) (he : e = s.e) (h1 : 1 ≤ r) (h2 : r ≤ 1099511627776) (hf : s.lf = 32) : lateV s e r = (s, 5) := by rw [lateV, if_pos (beginV_0 hs he h1 h2), if_pos (by omega)]
theorem late_g (hs : s.ok = true) (he : e = s.e) (h1 : 1 ≤ r) (h2 : r ≤ 1099511627776) (hf : ¬ s.lf = 32) (hv : s.v < r) : lateV s e r = (⟨s.e, r, s.l, s.p, s.lf + 1⟩, 0) := by
  have hi := VSt.okI hs
  rw [lateV, if_pos (beginV_0 hs he h1 h2), if_neg (by omega)]; simp only [Prod.mk.injEq, VSt.mk.injEq, and_true, true_and]; omega
theorem late_n (hs : s.ok = true) (he : e = s.e) (h1 : 1 ≤ r) (h2 : r ≤ 1099511627776) (hf : ¬ s.lf = 32) (hv : ¬ s.v < r) : lateV s e r = (⟨s.e, s.v, s.l, s.p, s.lf + 1⟩, 0) := by
  have hi := VSt.okI hs
  rw [lateV, if_pos (beginV_0 hs he h1 h2), if_neg (by omega)]; simp only [Prod.mk.injEq, VSt.mk.injEq, and_true, true_and]; omega
theorem prop_18 (hs : s.ok = true) (he : ¬ e = s.e) : propV s e r = (s, 18) := by rw [propV, beginV_18 hs he, if_neg (by decide)]
theorem prop_14 (hs : s.ok = true) (he : e = s.e) (h : r < 1 ∨ 1099511627776 < r) : propV s e r = (s, 14) := by rw [propV, beginV_14 hs he h, if_neg (by decide)]
theorem prop_10 (hs : s.ok = true) (he : e = s.e) (h1 : 1 ≤ r) (h2 : r ≤ 1099511627776) (hp : r ≤ s.p) : propV s e r = (s, 10) := by rw [propV, if_pos (beginV_0 hs he h1 h2), if_pos hp]
theorem prop_5 (hs : s.ok = true) (he : e = s.e) (h1 : 1 ≤ r) (h2 : r ≤ 1099511627776) (hp : ¬ r ≤ s.p) (hf : s.lf = 32) : propV s e r = (s, 5) := by rw [propV, if_pos (beginV_0 hs he h1 h2), if_neg hp, if_pos (by omega)]
theorem prop_g (hs : s.ok = true) (he : e = s.e) (h1 : 1 ≤ r) (h2 : r ≤ 1099511627776) (hp : ¬ r ≤ s.p) (hf : ¬ s.lf = 32) : propV s e r = (⟨s.e, s.v, s.l, r, s.lf + 1⟩, 0) := by
  have hi := VSt.okI hs
  rw [propV, if_pos (beginV_0 hs he h1 h2), if_neg hp, if_neg (by omega)]
def covV (s t : VSt) : Bool := if s.lf < t.lf ∨ s.e < t.e then false else if s.e > t.e then true else decide (s.v ≥ t.v) && (decide (s.l ≥ t.l) && decide (s.p ≥ t.p))
theorem covV_iff : covV s t = true ↔ t.lf ≤ s.lf ∧ (t.e < s.e ∨ (s.e = t.e ∧ t.v ≤ s.v ∧ t.l ≤ s.l ∧ t.p ≤ s.p)) := by
  unfold covV
  split
  · simp; omega
  · split
    · simp; omega
    · simp; omega
theorem covV_refl (s : VSt) : covV s s = true := covV_iff.2 (by omega)
theorem covV_trans (h1 : covV s t = true) (h2 : covV t u = true) : covV s u = true := by
  have a := covV_iff.1 h1; have b := covV_iff.1 h2
  exact covV_iff.2 (by omega)
theorem vote_cov (h : voteV s e r q g = (t, 0)) : covV t s = true ∧ t.lf = s.lf + 1 := by
  refine ⟨?_, (voteV_ok h).2⟩
  unfold voteV at h
  split at h
  · rename_i hb
    obtain ⟨h1, h2, h3, h4⟩ := beginV_ok hb
    repeat' split at h
    all_goals first | (simp at h; done) | skip
    all_goals (simp only [Prod.mk.injEq, and_true] at h; subst h; refine covV_iff.2 ⟨?_, .inr ⟨rfl, ?_, ?_, ?_⟩⟩ <;> first | omega | (simp only; omega) | exact Int.le_refl _)
  · rename_i hb
    simp only [Prod.mk.injEq] at h
    exact absurd h.2 hb
theorem late_cov (h : lateV s e r = (t, 0)) : covV t s = true ∧ t.lf = s.lf + 1 := by
  refine ⟨?_, (lateV_ok h).2⟩
  unfold lateV at h
  split at h
  · split at h
    · simp at h
    · simp only [Prod.mk.injEq, and_true] at h; subst h; refine covV_iff.2 ⟨?_, .inr ⟨rfl, ?_, ?_, ?_⟩⟩ <;> first | omega | (simp only; omega) | exact Int.le_refl _
  · rename_i hb
    simp only [Prod.mk.injEq] at h
    exact absurd h.2 hb
theorem prop_cov (h : propV s e r = (t, 0)) : covV t s = true ∧ t.lf = s.lf + 1 := by
  refine ⟨?_, (propV_ok h).2⟩
  unfold propV at h
  split at h
  · repeat' split at h
    all_goals first | (simp at h; done) | skip
    all_goals (simp only [Prod.mk.injEq, and_true] at h; subst h; refine covV_iff.2 ⟨?_, .inr ⟨rfl, ?_, ?_, ?_⟩⟩ <;> first | omega | (simp only; omega) | exact Int.le_refl _)
  · rename_i hb
    simp only [Prod.mk.injEq] at h
    exact absurd h.2 hb
theorem enter_cov (h : enterV s e = (t, 0)) : covV t s = true ∧ t.lf = s.lf := by
  obtain ⟨rfl, _, h3⟩ := enterV_ok h
  exact ⟨covV_iff.2 (by simp only; omega), rfl⟩
end
theorem late_covG {s t : VSt} {e r q : Int} (h : lateG s e r q = (t, 0)) : covV t s = true ∧ t.lf = s.lf + 1 := by
  unfold lateG at h
  split at h
  · split at h
    · simp at h
    · exact late_cov h
  · rename_i hb
    simp only [Prod.mk.injEq] at h
    exact absurd h.2 hb
def sgn14 (a : AskV) : Prop := a.kind = 1 ∨ a.kind = 2 ∨ a.kind = 3
theorem ask_cov {s t : VSt} {a : AskV} (h : askV s a = (t, 0)) : covV t s = true ∧ (sgn14 a → t.lf = s.lf + 1) ∧ s.lf ≤ t.lf := by
  unfold askV at h
  split at h
  · have := vote_cov h; exact ⟨this.1, fun _ => this.2, by omega⟩
  · split at h
    · have := late_covG h; exact ⟨this.1, fun _ => this.2, by omega⟩
    · split at h
      · have := prop_cov h; exact ⟨this.1, fun _ => this.2, by omega⟩
      · have := enter_cov h
        rename_i h1 h2 h3
        exact ⟨this.1, fun hk => by rcases hk with hk | hk | hk <;> contradiction, by omega⟩
theorem begin_le (s : VSt) (e r : Int) : beginV s e r ≤ 18 := by unfold beginV; repeat' split
                                                                 all_goals omega
theorem ask_le (s : VSt) (a : AskV) : (askV s a).2 ≤ 18 := by
  have hb := begin_le s a.e a.r
  unfold askV voteV lateG lateV propV enterV
  repeat' split
  all_goals first | omega | (simp only; omega) | (simp only; repeat' split) 
  all_goals first | omega | (simp only; omega) | skip
structure PlayI (d : DS) (sl : SL) (s t : VSt) (tried : Bool) (may high : List VSt) (lm : List (Int × Dig)) (k : Nat) : Prop where
  inv : PInv7 d sl (bytV t) tried k
  rc : sl.rec' = bytV s
  ok : s.ok = true
  tok : tried = true → t.ok = true ∧ t ∈ may ∧ (∀ x ∈ high, covV t x = true) ∧ s.lf ≤ t.lf
  cov : ∀ x ∈ high, covV s x = true
  leaf : ∀ p ∈ lm, p.1 < s.lf
theorem play_start {e : Int} (h : 0 ≤ e ∧ e ≤ 1073741824) : PlayI (dZ (fE1 e)) ⟨0, 1, bytV (sE e)⟩ (sE e) (sE e) false [] [] [] 1 :=
  ⟨⟨dZ_ok _, rfl, rfl, Nat.le_refl 1, (fE1_gk h).good, .inl rfl, fun h => (by cases h)⟩, rfl, sE_ok h, fun h => (by cases h), fun _ h => (by cases h), fun _ h => (by cases h)⟩
section
variable {d : DS} {sl : SL} {s t : VSt} {tried : Bool} {may high : List VSt} {lm : List (Int × Dig)} {k : Nat} {a : AskV}
theorem PlayI.next (h : PlayI d sl s t tried may high lm k) : PlayI d sl s t tried may high lm (k + 1) := ⟨h.inv.next, h.rc, h.ok, h.tok, h.cov, h.leaf⟩
theorem PlayI.bytes (h : PlayI d sl s t tried may high lm k) : sl.rec'.length ≤ 31 := by rw [h.rc, bytV_len]; omega
theorem play_0 {w : VSt} (h : PlayI d sl s t tried may high lm k) (hk : k ≤ 60) (hw : askV s a = (w, 0)) (hp : (put d sl (bytV w)).1 = 0) :
    ∃ d', gstep d sl s (askV s a) = (0, d', ⟨0, sl.count + 1, bytV w⟩, w) ∧ PlayI d' ⟨0, sl.count + 1, bytV w⟩ w t false may high lm (k + 1) ∧ (sgn14 a → PlayI d' ⟨0, sl.count + 1, bytV w⟩ w t false may (high ++ [w]) (lm ++ [(s.lf, signedV a)]) (k + 1)) := by
  have hok := askV_ok h.ok hw
  obtain ⟨hc, hl, hle⟩ := ask_cov hw
  obtain ⟨d', e, hi⟩ := pinv_put0 h.inv hk (by rw [bytV_len]; omega) hp
  refine ⟨d', ?_, ⟨hi, rfl, hok, (fun h => by cases h), fun x hx => covV_trans hc (h.cov x hx), fun p hp => by have := h.leaf p hp; omega⟩, fun hs => ⟨hi, rfl, hok, (fun h => by cases h), fun x hx => ?_, fun p hp => ?_⟩⟩
  · rw [hw, gstep_0 rfl, gput_0 hok hp, e]
  · rcases List.mem_append.1 hx with hx | hx
    · exact covV_trans hc (h.cov x hx)
    · simp at hx; subst hx; exact covV_refl _
  · have := hl hs
    rcases List.mem_append.1 hp with hp | hp
    · have := h.leaf p hp; omega
    · simp at hp; subst hp; simp only; omega
theorem play_6 {w : VSt} (h : PlayI d sl s t tried may high lm k) (hk : k ≤ 60) (hw : askV s a = (w, 0)) (hp : ¬ (put d sl (bytV w)).1 = 0) :
    ∃ d' t', gstep d sl s (askV s a) = (6, d', sl, s) ∧ d'.off = true ∧ PlayI d' sl s t' true (may ++ [w]) high lm (k + 1) := by
  have hok := askV_ok h.ok hw
  obtain ⟨hc, hl, hle⟩ := ask_cov hw
  obtain ⟨d', e, h1, h2⟩ := pinv_put6 h.inv hk (r := bytV w) (by rw [bytV_len]; omega) hp
  have hg : gstep d sl s (askV s a) = (6, d', sl, s) := by rw [hw, gstep_0 rfl, gput_e hok hp, e]
  cases tried with
  | true =>
    have g := h1 rfl
    obtain ⟨a1, a2, a3, a4⟩ := h.tok rfl
    exact ⟨d', t, hg, g.off rfl, g, h.rc, h.ok, fun _ => ⟨a1, List.mem_append_left _ a2, a3, a4⟩, h.cov, h.leaf⟩
  | false =>
    have g := h2 rfl
    exact ⟨d', w, hg, g.off rfl, g, h.rc, h.ok, fun _ => ⟨hok, by simp, fun x hx => covV_trans hc (h.cov x hx), hle⟩, h.cov, h.leaf⟩
theorem play_E (h : PlayI d sl s t tried may high lm k) (he : ¬ (askV s a).2 = 0) : gstep d sl s (askV s a) = ((askV s a).2, d, sl, s) := gstep_e he
theorem play_arm {n : Int} (h : PlayI d sl s t tried may high lm k) (ho : d.off = false) (hn : -9223372036854775808 ≤ n ∧ n ≤ 9223372036854775807) : PlayI { d with armed := decide (0 ≤ n), left := n } sl s t tried may high lm (k + 1) :=
  ⟨pinv_arm h.inv ho hn, h.rc, h.ok, h.tok, h.cov, h.leaf⟩
theorem play_open (h : PlayI d sl s t tried may high lm k) (hk : k ≤ 60) (kb : List Bool) :
    ∃ sl' s', opn (d.crash kb) 0 = some sl' ∧ sl'.rec' = bytV s' ∧ (s' = s ∨ s' ∈ may) ∧ PlayI (d.crash kb) sl' s' t false [] high lm (k + 1) := by
  obtain ⟨sl', h1, h2, h3⟩ := pinv_crash h.inv hk kb
  rcases h3 with h3 | ⟨ht, h3⟩
  · exact ⟨sl', s, h1, h3.trans h.rc, .inl rfl, h2, h3.trans h.rc, h.ok, (fun h => by cases h), h.cov, h.leaf⟩
  · obtain ⟨a1, a2, a3, a4⟩ := h.tok ht
    exact ⟨sl', t, h1, h3, .inr a2, h2, h3, a1, (fun h => by cases h), a3, fun p hp => by have := h.leaf p hp; omega⟩
end
end
section
attribute [local irreducible] Gl Gc Gx Gs Runs Wt
theorem refVote_ok {w : World} {F : Nat → Prop} {s : VSt} {e r q g : Int} (h : stars [] w F) (hs : s.ok = true) :
    Calls Tryz.prog 84 #[.agg (stC s).toArray, .int .i64 e, .int .i64 r, .int .i64 q, .int .i64 g] w (Post w F (fun _ : Unit => .tuple #[.agg (stC (voteV s e r q g).1).toArray, .int .i64 ((voteV s e r q g).2 : Int)]) (fun _ => [])) := by
 have hi := VSt.okI hs
 refine g_enter (env := [(0, .agg (stC s).toArray), (1, .int .i64 e), (2, .int .i64 r), (3, .int .i64 q), (4, .int .i64 g)]) Tryz.func84 rfl h Tryz.ntmps84 rfl rfl ?_; refine gsr (zbN fun b5 => ?_); refine zal fun b10 => ?_; refine zxa ?_; refine gnt (gc_seq (gc_block (gsr (gp zL ?_)))); refine zc (fun _ => ?_) (c := fun w1 F1 F2 h1 h2 hd hst => rvright_ok (s := s) h1)
 rw [hs]; refine gp (r_bool (c := false) znt (rfl)) ?_; refine zxa ?_; refine gnt (gc_condF rfl rfl ?_); refine gsr (zxm ?_); refine gp zfa ?_; refine gp zl ?_; refine gp zni ?_; refine zxa ?_; refine gnt (gif rfl (fun hc17 => ?_) (fun hc17 => ?_))
 ·try simp only at hc17
  have he : ¬ e = s.e := by simpa using hc17
  refine gsr (gp zL ?_); refine zsN ?_; refine zxa ?_; refine gnt (gc_ret (gx_block_ret ?_)); refine gx_then_ret (gx_retct rfl rfl (by conv => lhs; whnf) (ldA Ty.row_42 Ty.sz_42) ?_); exact fun w' hw => ⟨(), by rw [vote_18 hs he]; try rfl, hw.z⟩
 ·try simp only at hc17
  have he : e = s.e := by simpa using hc17
  refine gc_seq ?_; by_cases g1 : r < 1
  ·refine gc_region (zxm ?_); refine gp (r_bool (c := true) zlt (decide_eq_true g1)) ?_; refine zxm ?_; refine gn ?_; refine gn ?_; refine gp zpk ?_; refine zxm ?_; refine gn ?_; refine gn ?_; refine gp zpk ?_; refine zxm ?_; refine gn ?_; refine gn ?_; refine gn ?_; refine gp zpk ?_; refine zxa ?_; refine gnt (gc_condT rfl rfl ?_); refine gsr (gp zL ?_); refine zsN ?_; refine zxa ?_; refine gnt (gc_ret (gx_block_ret ?_)); refine gx_then_ret (gx_retct rfl rfl (by conv => lhs; whnf) (ldA Ty.row_42 Ty.sz_42) ?_); exact fun w' hw => ⟨(), by rw [vote_14 hs he (by omega)]; try rfl, hw.z⟩
  ·by_cases g2 : 1099511627776 < r
   ·refine gc_region (zxm ?_); refine gp (r_bool (c := false) zlt (decide_eq_false g1)) ?_; refine zxm ?_; refine gq zmv ?_; refine gq (r_bool (c := true) zgt (decide_eq_true g2)) ?_; refine gp zpk ?_; refine zxm ?_; refine gn ?_; refine gn ?_; refine gp zpk ?_; refine zxm ?_; refine gn ?_; refine gn ?_; refine gn ?_; refine gp zpk ?_; refine zxa ?_; refine gnt (gc_condT rfl rfl ?_); refine gsr (gp zL ?_); refine zsN ?_; refine zxa ?_; refine gnt (gc_ret (gx_block_ret ?_)); refine gx_then_ret (gx_retct rfl rfl (by conv => lhs; whnf) (ldA Ty.row_42 Ty.sz_42) ?_); exact fun w' hw => ⟨(), by rw [vote_14 hs he (by omega)]; try rfl, hw.z⟩
   ·by_cases g3 : q < 0
    ·refine gc_region (zxm ?_); refine gp (r_bool (c := false) zlt (decide_eq_false g1)) ?_; refine zxm ?_; refine gq zmv ?_; refine gq (r_bool (c := false) zgt (decide_eq_false g2)) ?_; refine gp zpk ?_; refine zxm ?_; refine gq zmv ?_; refine gq (r_bool (c := true) zlt (decide_eq_true g3)) ?_; refine gp zpk ?_; refine zxm ?_; refine gn ?_; refine gn ?_; refine gn ?_; refine gp zpk ?_; refine zxa ?_; refine gnt (gc_condT rfl rfl ?_); refine gsr (gp zL ?_); refine zsN ?_; refine zxa ?_; refine gnt (gc_ret (gx_block_ret ?_)); refine gx_then_ret (gx_retct rfl rfl (by conv => lhs; whnf) (ldA Ty.row_42 Ty.sz_42) ?_); exact fun w' hw => ⟨(), by rw [vote_14 hs he (by omega)]; try rfl, hw.z⟩
    ·by_cases g4 : r ≤ q
     ·refine gc_region (zxm ?_); refine gp (r_bool (c := false) zlt (decide_eq_false g1)) ?_; refine zxm ?_; refine gq zmv ?_; refine gq (r_bool (c := false) zgt (decide_eq_false g2)) ?_; refine gp zpk ?_; refine zxm ?_; refine gq zmv ?_; refine gq (r_bool (c := false) zlt (decide_eq_false g3)) ?_; refine gp zpk ?_; refine zxm ?_; refine gq zmv ?_; refine gq zmv ?_; refine gq (r_bool (c := true) zge (decide_eq_true g4)) ?_; refine gp zpk ?_; refine zxa ?_; refine gnt (gc_condT rfl rfl ?_); refine gsr (gp zL ?_); refine zsN ?_; refine zxa ?_; refine gnt (gc_ret (gx_block_ret ?_)); refine gx_then_ret (gx_retct rfl rfl (by conv => lhs; whnf) (ldA Ty.row_42 Ty.sz_42) ?_); exact fun w' hw => ⟨(), by rw [vote_14 hs he (by omega)]; try rfl, hw.z⟩
     ·refine gc_region (zxm ?_); refine gp (r_bool (c := false) zlt (decide_eq_false g1)) ?_; refine zxm ?_; refine gq zmv ?_; refine gq (r_bool (c := false) zgt (decide_eq_false g2)) ?_; refine gp zpk ?_; refine zxm ?_; refine gq zmv ?_; refine gq (r_bool (c := false) zlt (decide_eq_false g3)) ?_; refine gp zpk ?_; refine zxm ?_; refine gq zmv ?_; refine gq zmv ?_; refine gq (r_bool (c := false) zge (decide_eq_false g4)) ?_; refine gp zpk ?_; refine zxa ?_; refine gnt (gc_condF rfl rfl ?_); refine gsr (zxm ?_); refine gp zfa ?_; refine gp zl ?_; refine gp zle ?_; refine zxa ?_; refine gnt (gif rfl (fun hc40 => ?_) (fun hc40 => ?_))
      ·try simp only at hc40
       have hv : r ≤ s.v := by simpa using hc40
       refine gsr (gp zL ?_); refine zsN ?_; refine zxa ?_; refine gnt (gc_ret (gx_block_ret ?_)); refine gx_then_ret (gx_retct rfl rfl (by conv => lhs; whnf) (ldA Ty.row_42 Ty.sz_42) ?_); exact fun w' hw => ⟨(), by rw [vote_10 hs he (by omega) (by omega) (by omega) (by omega) hv]; try rfl, hw.z⟩
      ·try simp only at hc40
       have hv : ¬ r ≤ s.v := by simpa using hc40
       refine gsr (zxm ?_); refine gp zfa ?_; refine gp zl ?_; refine gp zlt ?_; refine zxa ?_; refine gnt (gif rfl (fun hc46 => ?_) (fun hc46 => ?_))
       ·try simp only at hc46
        have hl : q < s.l := by simpa using hc46
        refine gsr (gp zL ?_); refine zsN ?_; refine zxa ?_; refine gnt (gc_ret (gx_block_ret ?_)); refine gx_then_ret (gx_retct rfl rfl (by conv => lhs; whnf) (ldA Ty.row_42 Ty.sz_42) ?_); exact fun w' hw => ⟨(), by rw [vote_15 hs he (by omega) (by omega) (by omega) (by omega) hv hl]; try rfl, hw.z⟩
       ·try simp only at hc46
        have hl : ¬ q < s.l := by simpa using hc46
        refine gsr (gp zfa ?_); refine gp zl ?_; refine gp zei ?_; refine zxa ?_; refine gnt (gif rfl (fun hc52 => ?_) (fun hc52 => ?_))
        ·try simp only at hc52
         have hf : s.lf = 32 := by simpa using hc52
         refine gsr (gp zL ?_); refine zsN ?_; refine zxa ?_; refine gnt (gc_ret (gx_block_ret ?_)); refine gx_then_ret (gx_retct rfl rfl (by conv => lhs; whnf) (ldA Ty.row_42 Ty.sz_42) ?_); exact fun w' hw => ⟨(), by rw [vote_5 hs he (by omega) (by omega) (by omega) (by omega) hv hl hf]; try rfl, hw.z⟩
        ·try simp only at hc52
         have hf : ¬ s.lf = 32 := by simpa using hc52
         refine gc_skip (gx_block_normal (gx_then (gsr (zxm ?_)))); refine gp zfa ?_; refine gl_stI (g := b5) (l' := stC ⟨s.e, r, s.l, s.p, s.lf⟩) (i := 1) (by repeat (first | exact Pick.here | apply Pick.there)) (by show 1 < 5; omega) rfl ?_; refine zxs ?_; refine gp zfa ?_; refine gp zl ?_; refine gp (r_int (j := s.lf + 1) zad (wrap_i64 (by omega) (by omega))) ?_; refine gp zfa ?_; refine gl_stI (g := b5) (l' := stC ⟨s.e, r, s.l, s.p, s.lf + 1⟩) (i := 4) (by repeat (first | exact Pick.here | apply Pick.there)) (by show 4 < 5; omega) rfl ?_; refine gnt (gc_seq (gc_seq ?_)); by_cases k1 : 0 ≤ g
         ·by_cases k2 : g ≤ q
          ·by_cases k3 : s.l < g
           ·refine gc_region (zxm ?_); refine gp (r_bool (c := true) zge (decide_eq_true k1)) ?_; refine zxm ?_; refine gq zmv ?_; refine gq zmv ?_; refine gq (r_bool (c := true) zle (decide_eq_true k2)) ?_; refine gp zpk ?_; refine zxm ?_; refine gq zmv ?_; refine gq zfa ?_; refine gq zl ?_; refine gq (r_bool (c := true) zgt (decide_eq_true k3)) ?_; refine gp zpk ?_; refine gnt (gc_condT rfl rfl ?_); refine gc_region (zxm ?_); refine gp zfa ?_; refine gl_stI (g := b5) (l' := stC ⟨s.e, r, g, s.p, s.lf + 1⟩) (i := 2) (by repeat (first | exact Pick.here | apply Pick.there)) (by show 2 < 5; omega) rfl ?_; refine zxs ?_; refine gp zL ?_; refine zsN ?_; refine zxa ?_; refine gnt (gc_ret (gx_retct rfl rfl (by conv => lhs; whnf) (ldA Ty.row_42 Ty.sz_42) ?_)); exact fun w' hw => ⟨(), by rw [vote_g hs he (by omega) (by omega) (by omega) (by omega) hv hl hf ⟨k1, k2, k3⟩]; try rfl, hw.z⟩
           ·refine gc_region (zxm ?_); refine gp (r_bool (c := true) zge (decide_eq_true k1)) ?_; refine zxm ?_; refine gq zmv ?_; refine gq zmv ?_; refine gq (r_bool (c := true) zle (decide_eq_true k2)) ?_; refine gp zpk ?_; refine zxm ?_; refine gq zmv ?_; refine gq zfa ?_; refine gq zl ?_; refine gq (r_bool (c := false) zgt (decide_eq_false k3)) ?_; refine gp zpk ?_; refine gnt (gc_condF rfl rfl ?_); refine gc_skip (gx_then (gsr (gp zL ?_))); refine zsN ?_; refine zxa ?_; refine gnt (gc_ret (gx_retct rfl rfl (by conv => lhs; whnf) (ldA Ty.row_42 Ty.sz_42) ?_)); exact fun w' hw => ⟨(), by rw [vote_n hs he (by omega) (by omega) (by omega) (by omega) hv hl hf (by omega)]; try rfl, hw.z⟩
          ·refine gc_region (zxm ?_); refine gp (r_bool (c := true) zge (decide_eq_true k1)) ?_; refine zxm ?_; refine gq zmv ?_; refine gq zmv ?_; refine gq (r_bool (c := false) zle (decide_eq_false k2)) ?_; refine gp zpk ?_; refine zxm ?_; refine gn ?_; refine gn ?_; refine gn ?_; refine gn ?_; refine gp zpk ?_; refine gnt (gc_condF rfl rfl ?_); refine gc_skip (gx_then (gsr (gp zL ?_))); refine zsN ?_; refine zxa ?_; refine gnt (gc_ret (gx_retct rfl rfl (by conv => lhs; whnf) (ldA Ty.row_42 Ty.sz_42) ?_)); exact fun w' hw => ⟨(), by rw [vote_n hs he (by omega) (by omega) (by omega) (by omega) hv hl hf (by omega)]; try rfl, hw.z⟩
         ·refine gc_region (zxm ?_); refine gp (r_bool (c := false) zge (decide_eq_false k1)) ?_; refine zxm ?_; refine gn ?_; refine gn ?_; refine gn ?_; refine gp zpk ?_; refine zxm ?_; refine gn ?_; refine gn ?_; refine gn ?_; refine gn ?_; refine gp zpk ?_; refine gnt (gc_condF rfl rfl ?_); refine gc_skip (gx_then (gsr (gp zL ?_))); refine zsN ?_; refine zxa ?_; refine gnt (gc_ret (gx_retct rfl rfl (by conv => lhs; whnf) (ldA Ty.row_42 Ty.sz_42) ?_)); exact fun w' hw => ⟨(), by rw [vote_n hs he (by omega) (by omega) (by omega) (by omega) hv hl hf (by omega)]; try rfl, hw.z⟩
theorem refLate_ok {w : World} {F : Nat → Prop} {s : VSt} {e r : Int} (h : stars [] w F) (hs : s.ok = true) :
    Calls Tryz.prog 85 #[.agg (stC s).toArray, .int .i64 e, .int .i64 r] w (Post w F (fun _ : Unit => .tuple #[.agg (stC (lateV s e r).1).toArray, .int .i64 ((lateV s e r).2 : Int)]) (fun _ => [])) := by
 have hi := VSt.okI hs
 refine g_enter (env := [(0, .agg (stC s).toArray), (1, .int .i64 e), (2, .int .i64 r)]) Tryz.func85 rfl h Tryz.ntmps85 rfl rfl ?_; refine gsr (zbN fun b3 => ?_); refine zal fun b6 => ?_; refine zxa ?_; refine gnt (gc_seq (gc_block (gsr (gp zL ?_)))); refine zc (fun _ => ?_) (c := fun w1 F1 F2 h1 h2 hd hst => rvright_ok (s := s) h1)
 rw [hs]; refine gp (r_bool (c := false) znt (rfl)) ?_; refine zxa ?_; refine gnt (gc_condF rfl rfl ?_); refine gsr (zxm ?_); refine gp zfa ?_; refine gp zl ?_; refine gp zni ?_; refine zxa ?_; refine gnt (gif rfl (fun hc13 => ?_) (fun hc13 => ?_))
 ·try simp only at hc13
  have he : ¬ e = s.e := by simpa using hc13
  refine gsr (gp zL ?_); refine zsN ?_; refine zxa ?_; refine gnt (gc_ret (gx_block_ret ?_)); refine gx_then_ret (gx_retct rfl rfl (by conv => lhs; whnf) (ldA Ty.row_42 Ty.sz_42) ?_); exact fun w' hw => ⟨(), by rw [late_18 hs he]; try rfl, hw.z⟩
 ·try simp only at hc13
  have he : e = s.e := by simpa using hc13
  refine gc_seq ?_; by_cases g1 : r < 1
  ·refine gc_region (zxm ?_); refine gp (r_bool (c := true) zlt (decide_eq_true g1)) ?_; refine zxm ?_; refine gn ?_; refine gn ?_; refine gp zpk ?_; refine zxa ?_; refine gnt (gc_condT rfl rfl ?_); refine gsr (gp zL ?_); refine zsN ?_; refine zxa ?_; refine gnt (gc_ret (gx_block_ret ?_)); refine gx_then_ret (gx_retct rfl rfl (by conv => lhs; whnf) (ldA Ty.row_42 Ty.sz_42) ?_); exact fun w' hw => ⟨(), by rw [late_14 hs he (by omega)]; try rfl, hw.z⟩
  ·by_cases g2 : 1099511627776 < r
   ·refine gc_region (zxm ?_); refine gp (r_bool (c := false) zlt (decide_eq_false g1)) ?_; refine zxm ?_; refine gq zmv ?_; refine gq (r_bool (c := true) zgt (decide_eq_true g2)) ?_; refine gp zpk ?_; refine zxa ?_; refine gnt (gc_condT rfl rfl ?_); refine gsr (gp zL ?_); refine zsN ?_; refine zxa ?_; refine gnt (gc_ret (gx_block_ret ?_)); refine gx_then_ret (gx_retct rfl rfl (by conv => lhs; whnf) (ldA Ty.row_42 Ty.sz_42) ?_); exact fun w' hw => ⟨(), by rw [late_14 hs he (by omega)]; try rfl, hw.z⟩
   ·refine gc_region (zxm ?_); refine gp (r_bool (c := false) zlt (decide_eq_false g1)) ?_; refine zxm ?_; refine gq zmv ?_; refine gq (r_bool (c := false) zgt (decide_eq_false g2)) ?_; refine gp zpk ?_; refine zxa ?_; refine gnt (gc_condF rfl rfl ?_); refine gsr (gp zfa ?_); refine gp zl ?_; refine gp zei ?_; refine zxa ?_; refine gnt (gif rfl (fun hc27 => ?_) (fun hc27 => ?_))
    ·try simp only at hc27
     have hf : s.lf = 32 := by simpa using hc27
     refine gsr (gp zL ?_); refine zsN ?_; refine zxa ?_; refine gnt (gc_ret (gx_block_ret ?_)); refine gx_then_ret (gx_retct rfl rfl (by conv => lhs; whnf) (ldA Ty.row_42 Ty.sz_42) ?_); exact fun w' hw => ⟨(), by rw [late_5 hs he (by omega) (by omega) hf]; try rfl, hw.z⟩
    ·try simp only at hc27
     have hf : ¬ s.lf = 32 := by simpa using hc27
     refine gc_skip (gx_block_normal (gx_then (gc_seq (gsr (zxm ?_))))); refine gp zfa ?_; refine gp zl ?_; refine gp zgt ?_; refine gnt (gif rfl (fun hc35 => ?_) (fun hc35 => ?_))
     ·try simp only at hc35
      have hv : s.v < r := by simpa using hc35
      refine gc_region (zxm ?_); refine gp zfa ?_; refine gl_stI (g := b3) (l' := stC ⟨s.e, r, s.l, s.p, s.lf⟩) (i := 1) (by repeat (first | exact Pick.here | apply Pick.there)) (by show 1 < 5; omega) rfl ?_; refine zxs ?_; refine gp zfa ?_; refine gp zl ?_; refine gp (r_int (j := s.lf + 1) zad (wrap_i64 (by omega) (by omega))) ?_; refine gp zfa ?_; refine gl_stI (g := b3) (l' := stC ⟨s.e, r, s.l, s.p, s.lf + 1⟩) (i := 4) (by repeat (first | exact Pick.here | apply Pick.there)) (by show 4 < 5; omega) rfl ?_; refine zxs ?_; refine gp zL ?_; refine zsN ?_; refine zxa ?_; refine gnt (gc_ret (gx_retct rfl rfl (by conv => lhs; whnf) (ldA Ty.row_42 Ty.sz_42) ?_)); exact fun w' hw => ⟨(), by rw [late_g hs he (by omega) (by omega) hf hv]; try rfl, hw.z⟩
     ·try simp only at hc35
      have hv : ¬ s.v < r := by simpa using hc35
      refine gc_skip (gx_then (gsr (gp zfa ?_))); refine gp zl ?_; refine gp (r_int (j := s.lf + 1) zad (wrap_i64 (by omega) (by omega))) ?_; refine gp zfa ?_; refine gl_stI (g := b3) (l' := stC ⟨s.e, s.v, s.l, s.p, s.lf + 1⟩) (i := 4) (by repeat (first | exact Pick.here | apply Pick.there)) (by show 4 < 5; omega) rfl ?_; refine zxs ?_; refine gp zL ?_; refine zsN ?_; refine zxa ?_; refine gnt (gc_ret (gx_retct rfl rfl (by conv => lhs; whnf) (ldA Ty.row_42 Ty.sz_42) ?_)); exact fun w' hw => ⟨(), by rw [late_n hs he (by omega) (by omega) hf hv]; try rfl, hw.z⟩
end
end Go.Proofs.YtggjlkheniombaaGreatDoor
