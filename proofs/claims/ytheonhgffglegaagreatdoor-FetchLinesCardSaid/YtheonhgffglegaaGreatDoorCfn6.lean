/- Part 6. What is proved: see the last part: for every input the law returns true, and the input reads as it did. -/
import Derived.Test.YtheonhgffglegaaGreatDoorCfn5
namespace Go.Proofs.YtheonhgffglegaaGreatDoor
open Go
set_option linter.unusedVariables false
set_option linter.unusedSimpArgs false
set_option linter.unusedSectionVars false
set_option maxHeartbeats 400000
section
attribute [local irreducible] Gl Gc Gx Gs Runs Wt
attribute [local irreducible] rowR blk VlR ElR dc qcC blkC idOf ModR TreeR LdR gid genC leB leI leRs leL leD trN trT trL trB idsB chC
set_option maxHeartbeats 20000000 in
set_option maxRecDepth 2000 in
theorem build_ok {w : World} {F : Nat → Prop} {ae ap aS : Option Addr} {ne ce np kp nS kS : Nat} {es : List Bool} {ps ss : List Int} {ea : Nat → Addr} {er : List Nat} (h : stars [] w F) [Has er 1] [Has er 4] [Has er 6] [Has er 8] [Has er 9] [Has er 12] [Has er 14] [Has er 16] [Has er 17] (hE : GErr er w (fun k => ¬ F k) 251 ea) (hK : KR w (fun k => ¬ F k)) (hes : RdRow w (fun k => ¬ F k) 1 ae ne (es.map Value.bool)) (hps : RdRow w (fun k => ¬ F k) 1 ap np (ps.map (Value.int .i64))) (hss : RdRow w (fun k => ¬ F k) 1 aS nS (ss.map (Value.int .i64))) :
    Calls Tryz.prog 9 #[.agg (List.toArray [.slice ae ne ce, .slice ap np kp, .slice aS nS kS])] w (Post w F (fun r : Bool × List Value × Bx => .tuple #[.agg r.2.1.toArray, .bool r.1]) (BuiltR es ps ss)) := by
 obtain rfl : ne = es.length := by have := hes.1; simp at this; omega
 obtain rfl : np = ps.length := by have := hps.1; simp at this; omega
 obtain rfl : nS = ss.length := by have := hss.1; simp at this; omega
 have hm1 := hes.2.1
 have hm2 := hps.2.1
 have hm3 := hss.2.1
 simp only [maxLen] at hm1 hm2 hm3
 have igen := Len.of genC_len
 have jgen := One.of (rdGen (w := w) (A := fun _ => True)).one
 refine g_enter (env := [(0, .agg (List.toArray [.slice ae es.length ce, .slice ap ps.length kp, .slice aS ss.length kS]))]) Tryz.func9 rfl h Tryz.ntmps9 rfl rfl ?_; refine gsr (zbN fun b1 => ?_); refine zal fun b2 => ?_; refine gl_eqc (cs' := (.pointer none :: .slice none 0 0 :: .pointer none :: .pointer none :: .slice none 0 0 :: dc dig0)) (by repeat (first | exact Pick.here | apply Pick.there)) (by kernel_rfl) ?_; refine zxa ?_; refine zxs ?_; refine gp (zbu (cs := (.pointer none :: .slice none 0 0 :: .pointer none :: .pointer none :: .slice none 0 0 :: dc dig0)) (hf := by kernel_rfl)) ?_; refine zal fun b4 => ?_; refine gl_eqc (cs' := (.pointer none :: .slice none 0 0 :: .pointer none :: .pointer none :: .slice none 0 0 :: dc dig0)) (by repeat (first | exact Pick.here | apply Pick.there)) (by kernel_rfl) ?_; refine zsN ?_; refine zxs ?_; refine zc (fun g => ?_) (c := fun w1 F1 F2 h1 h2 hd hst => new_ok (ea := ea) (n := 200) h1 (by decide) (by decide))
 refine zxm ?_; refine gp zex ?_; refine gp zex ?_; refine zxa ?_; refine zxa ?_; refine gnt (gc_seq (gc_seq ?_)); by_cases hA : 10 < es.length
 ·refine gc_region (zxm ?_); refine gp (r_bool (c := false) (r_nenil rfl (by kernel_rfl)) rfl) ?_; refine zxm ?_; refine gq zfa ?_; refine gq zl ?_; refine gq zln ?_; refine gq (r_bool (c := true) zgt (decide_eq_true (by omega))) ?_; refine gp zpk ?_; refine zxm ?_; refine gn ?_; refine gn ?_; refine gn ?_; refine gn ?_; refine gp zpk ?_; refine zxm ?_; refine gn ?_; refine gn ?_; refine gn ?_; refine gn ?_; refine gn ?_; refine gn ?_; refine gn ?_; refine gp zpk ?_; refine gnt (gc_condT rfl rfl ?_); refine gsr (gp zL ?_); refine zsN ?_; refine zxa ?_; refine gnt (gc_ret (gx_then_ret (gx_retct rfl rfl (by conv => lhs; whnf) (ldA Ty.row_35 Ty.sz_35) ?_))); have hno : ¬ ShOk es ps ss := fun h => absurd h.a (by omega)
  exact fun w' hw => ⟨(false, _, ⟨0, 0, 0, 0, none, 0, none, 0, [], [], []⟩), rfl, St.pureI (p := ¬ ShOk es ps ss ∧ _ ∧ _) ⟨hno, by simp [dc_length], all_cons' rfl (all_cons' rfl (all_cons' rfl (all_cons' rfl (all_cons' rfl (dc_one _)))))⟩ (hw.sel Sel.nil)⟩
 ·by_cases hB : 12 < ps.length
  ·refine gc_region (zxm ?_); refine gp (r_bool (c := false) (r_nenil rfl (by kernel_rfl)) rfl) ?_; refine zxm ?_; refine gq zfa ?_; refine gq zl ?_; refine gq zln ?_; refine gq (r_bool (c := false) zgt (decide_eq_false (by omega))) ?_; refine gp zpk ?_; refine zxm ?_; refine gq zfa ?_; refine gq zl ?_; refine gq zln ?_; refine gq (r_bool (c := true) zgt (decide_eq_true (by omega))) ?_; refine gp zpk ?_; refine zxm ?_; refine gn ?_; refine gn ?_; refine gn ?_; refine gn ?_; refine gn ?_; refine gn ?_; refine gn ?_; refine gp zpk ?_; refine gnt (gc_condT rfl rfl ?_); refine gsr (gp zL ?_); refine zsN ?_; refine zxa ?_; refine gnt (gc_ret (gx_then_ret (gx_retct rfl rfl (by conv => lhs; whnf) (ldA Ty.row_35 Ty.sz_35) ?_))); have hno : ¬ ShOk es ps ss := fun h => absurd h.b (by omega)
   exact fun w' hw => ⟨(false, _, ⟨0, 0, 0, 0, none, 0, none, 0, [], [], []⟩), rfl, St.pureI (p := ¬ ShOk es ps ss ∧ _ ∧ _) ⟨hno, by simp [dc_length], all_cons' rfl (all_cons' rfl (all_cons' rfl (all_cons' rfl (all_cons' rfl (dc_one _)))))⟩ (hw.sel Sel.nil)⟩
  ·by_cases hC : ss.length < ps.length
   ·refine gc_region (zxm ?_); refine gp (r_bool (c := false) (r_nenil rfl (by kernel_rfl)) rfl) ?_; refine zxm ?_; refine gq zfa ?_; refine gq zl ?_; refine gq zln ?_; refine gq (r_bool (c := false) zgt (decide_eq_false (by omega))) ?_; refine gp zpk ?_; refine zxm ?_; refine gq zfa ?_; refine gq zl ?_; refine gq zln ?_; refine gq (r_bool (c := false) zgt (decide_eq_false (by omega))) ?_; refine gp zpk ?_; refine zxm ?_; refine gq zfa ?_; refine gq zl ?_; refine gq zln ?_; refine gq zfa ?_; refine gq zl ?_; refine gq zln ?_; refine gq (r_bool (c := true) zlt (decide_eq_true (by omega))) ?_; refine gp zpk ?_; refine gnt (gc_condT rfl rfl ?_); refine gsr (gp zL ?_); refine zsN ?_; refine zxa ?_; refine gnt (gc_ret (gx_then_ret (gx_retct rfl rfl (by conv => lhs; whnf) (ldA Ty.row_35 Ty.sz_35) ?_))); have hno : ¬ ShOk es ps ss := fun h => absurd h.c (by omega)
    exact fun w' hw => ⟨(false, _, ⟨0, 0, 0, 0, none, 0, none, 0, [], [], []⟩), rfl, St.pureI (p := ¬ ShOk es ps ss ∧ _ ∧ _) ⟨hno, by simp [dc_length], all_cons' rfl (all_cons' rfl (all_cons' rfl (all_cons' rfl (all_cons' rfl (dc_one _)))))⟩ (hw.sel Sel.nil)⟩
   ·refine gc_region (zxm ?_); refine gp (r_bool (c := false) (r_nenil rfl (by kernel_rfl)) rfl) ?_; refine zxm ?_; refine gq zfa ?_; refine gq zl ?_; refine gq zln ?_; refine gq (r_bool (c := false) zgt (decide_eq_false (by omega))) ?_; refine gp zpk ?_; refine zxm ?_; refine gq zfa ?_; refine gq zl ?_; refine gq zln ?_; refine gq (r_bool (c := false) zgt (decide_eq_false (by omega))) ?_; refine gp zpk ?_; refine zxm ?_; refine gq zfa ?_; refine gq zl ?_; refine gq zln ?_; refine gq zfa ?_; refine gq zl ?_; refine gq zln ?_; refine gq (r_bool (c := false) zlt (decide_eq_false (by omega))) ?_; refine gp zpk ?_; refine gnt (gc_condF rfl rfl ?_); refine gc_skip (gx_then (gc_seq (gsr (zxm ?_)))); refine zc (fun q => ?_) (c := fun w1 F1 F2 h1 h2 hd hst => fmtC (n := 200) (bs := 0) h1 (by decide) (by decide) (hE.mv hst.still))
    refine zxm ?_; refine gp zex ?_; refine gp zex ?_; refine gp zfa ?_; refine zs1 ?_; refine zxa ?_; refine zxs ?_; refine zxm ?_; refine gp (r_bool (c := false) (r_nenil rfl (by kernel_rfl)) rfl) ?_; refine gnt (gc_condF rfl rfl ?_); refine gc_skip (gx_then (gsr (gp (zbu (cs := genC) (hf := by kernel_rfl)) ?_))); refine zal fun b7 => ?_; refine gl_eqc (cs' := blkC) (by repeat (first | exact Pick.here | apply Pick.there)) (by kernel_rfl) ?_; refine zsA genC_len One.h ?_; refine zxs ?_; refine gp (zLa (cs := genC)) ?_; refine zc (fun _ => ?_) (c := fun w1 F1 F2 h1 h2 hd hst => id_ok (x := g0) h1 (hE.mv hst.still) (hK.mv hst.still) rdGen)
    rw [g0_id, g0_err]; refine zxm ?_; refine gp zex ?_; refine gp zex ?_; refine zal fun b8 => ?_; refine zsN ?_; refine zxa ?_; refine zxs ?_; refine gp zL ?_; refine gp zfa ?_; refine zsN ?_; refine zxs ?_; refine gp zL ?_; refine zeN fun b66 => ?_; refine gp zfa ?_; refine zs1 ?_; refine gnt (gc_seq (gsr (gp zfa ?_))); refine gp zl ?_; refine gp zln ?_; refine zxm ?_; refine gnt (gc_block (gc_loop (α := Nat × (Option Addr × Nat) × (Option Addr × Nat) × List (List Value) × List Value) (fun y => [pureR (y.1 ≤ es.length ∧ (y.2.2.2.2.length = 39 ∧ ∀ v ∈ y.2.2.2.2, v.oneCell' = true) ∧ (∀ c ∈ y.2.2.2.1, List.length c = 39) ∧ ((y.1 = 0 ∧ y.2.2.2.2 = genC) ∨ ∃ i, y.1 = i + 1 ∧ y.2.2.2.1[i]? = some y.2.2.2.2) ∧ ∃ w A, RdBlock w A y.2.2.2.2 (leB es y.1)), LdR q g 200 0 (leRs es y.1), blk b7 51 y.2.2.2.2, blk b8 27 (dc (leI es y.1)), blk b4 35 (.pointer (some ⟨q, 0, none⟩) :: .slice y.2.1.1 y.1 y.2.1.2 :: .pointer none :: .pointer none :: .slice y.2.2.1.1 (y.1 + 1) y.2.2.1.2 :: dc gid), rowR 51 39 y.2.1.1 y.1 y.2.1.2 y.2.2.2.1.flatten, ElR RdBlock y.2.2.2.1 (leL es y.1), rowR 27 16 y.2.2.1.1 (y.1 + 1) y.2.2.1.2 ((leD es y.1).map dc).flatten, blk b1 25 [.slice ae es.length ce, .slice ap ps.length kp, .slice aS ss.length kS], blk b2 35 (.pointer none :: .slice none 0 0 :: .pointer none :: .pointer none :: .slice none 0 0 :: dc dig0)]) (fun y => [(71, .int .i64 (y.1 : Int))]) [3, 6, 10, 11, 72, 73, 74, 75, 76, 77, 78, 79, 80, 81, 82, 83, 84, 85, 86, 87, 88, 89, 90, 91, 92, 93, 94, 95, 96, 97, 98, 99, 100, 101, 102, 103, 104, 105, 106, 107, 108, 109, 110, 111, 112, 113, 114, 115] (fun y => es.length - y.1) (0, (none, 0), (some ⟨b66, 0, none⟩, 1), [], genC) ?_ ?_ ?_))
    ·refine env_start (by kernel_rfl)
    ·intro w' hw; have hw := St.mapL hw (fun F' hF' => el_nil (rd := RdBlock) hF')
     refine St.pureI (p := 0 ≤ es.length ∧ (genC.length = 39 ∧ ∀ v ∈ genC, v.oneCell' = true) ∧ (∀ c ∈ ([] : List (List Value)), List.length c = 39) ∧ ((0 = 0 ∧ genC = genC) ∨ ∃ i, 0 = i + 1 ∧ ([] : List (List Value))[i]? = some genC) ∧ ∃ w A, RdBlock w A genC (leB es 0)) ⟨Nat.zero_le _, ⟨genC_len, One.h⟩, by simp, .inl ⟨rfl, rfl⟩, w, fun _ => True, by rw [leB_zero]; exact rdGen⟩ ?_; have e2 : leI es 0 = gid := leI_zero
     have e3 : ((leD es 0).map dc).flatten = dc gid := by simp [leD, e2]
     show St w F [LdR q g 200 0 (leRs es 0), blk b7 51 genC, blk b8 27 (dc (leI es 0)), blk b4 35 (.pointer (some ⟨q, 0, none⟩) :: .slice none 0 0 :: .pointer none :: .pointer none :: .slice (some ⟨b66, 0, none⟩) (0 + 1) 1 :: dc gid), rowR 51 39 none 0 0 [], ElR RdBlock [] (leL es 0), rowR 27 16 (some ⟨b66, 0, none⟩) (0 + 1) 1 ((leD es 0).map dc).flatten, blk b1 25 [.slice ae es.length ce, .slice ap ps.length kp, .slice aS ss.length kS], blk b2 35 (.pointer none :: .slice none 0 0 :: .pointer none :: .pointer none :: .slice none 0 0 :: dc dig0)] w'
     rw [e2, e3, leRs_zero, leL_zero]; exact (hw.rowNil (e := 51) (size := 39)).z
    ·intro y u; obtain ⟨k, ⟨la, lc⟩, ⟨ia, ic⟩, css, cs⟩ := y; refine gc_pureR (fun hk => ?_)
     obtain ⟨hk, ⟨hlc, hoc⟩, hcs, hlast, wq, Aq, hrd⟩ := hk; replace hk : k ≤ es.length := hk
     replace hlc : cs.length = 39 := hlc
     replace hcs : ∀ x ∈ css, List.length x = 39 := hcs
     replace hlast : (k = 0 ∧ cs = genC) ∨ ∃ i, k = i + 1 ∧ css[i]? = some cs := hlast
     replace hrd : RdBlock wq Aq cs (leB es k) := hrd
     have ic39 := Len.of hlc
     have jc39 := One.of (show ∀ v ∈ cs, v.oneCell' = true from hoc)
     have hrn := leB_round (es := es) k
     refine gsr (gp zlt ?_); refine gnt (gc_seq (gif rfl (fun hc72 => ?_) (fun hc72 => ?_)))
     ·try simp only at hc72
      have hk' : k < es.length := by omega
      obtain ⟨ga, oa, ha, hA, _, hra⟩ := hes.elem hk'; subst ha; have hce := hra 0 (.bool (es.getD k false)) (by simp [List.getElem?_take, List.getD, hk'])
      refine gc_skip (gx_then (gc_seq (gc_block (gsr (zxm ?_))))); refine gp (r_val (v' := .pointer (some ⟨ga, oa + k * 1, none⟩)) zia (by simp)) ?_; refine gp (r_ld1o rfl Ty.row_4 hce hA) ?_; refine zxa ?_; refine zxa ?_; refine zxs ?_; refine gp (zLa (cs := cs)) ?_; refine gp zL ?_; refine zxm ?_; refine zc ?_ (c := fun w1 F1 F2 h1 h2 hd hst => next19_ok (b := leB es k) (id := leI es k) (on := 1) (k := k) h1 hrd (by omega) (by decide))
      rintro ⟨y24, y25⟩
      have ich := Len.of (chC_len (leB es k) (leI es k) 1 y25)
      have jch := One.of (chC_one (leB es k) (leI es k) 1 y25)
      refine zsA (chC_len _ _ _ _) (chC_one _ _ _ _) ?_; refine gnt (gc_seq (gsr (zxm ?_))); refine gnt (gif rfl (fun hc80 => ?_) (fun hc80 => ?_))
      ·refine gc_region (gp (zbu (cs := dc dig0 ++ [.int .i64 1]) (hf := by kernel_rfl)) ?_); refine zeN fun b82 => ?_; refine gp zfa ?_; refine gl_store1 (v := .slice (some ⟨b82, 0, none⟩) 1 1) (wt0 rfl) rfl rfl rfl Ty.sz_49 (by repeat (first | exact Pick.here | apply Pick.there)) (by rw [chC_len]; decide) (chC_up _ _ _ _ _) ?_; refine gnt (gc_seq (gc_cz (M := [rowR 68 1 (some ⟨y25, 0, none⟩) 1 1 [.slice (some ⟨y24, 0, none⟩) 1 1], rowR 5 1 (some ⟨y24, 0, none⟩) 1 1 [B8 (txN k)], rowR 78 17 (some ⟨b82, 0, none⟩) 1 1 (dc dig0 ++ [.int .i64 1])]) (N := [VlR RdBlock (chN (leB es k) (leI es k) 1 y25 (.slice (some ⟨b82, 0, none⟩) 1 1)) (leB es (k + 1))]) (fun _ _ => vl_leT hc80) ?_)); have icn := Len.of (chN_len (leB es k) (leI es k) 1 y25 (.slice (some ⟨b82, 0, none⟩) 1 1))
       have jcn := One.of (chN_one (nx := .slice (some ⟨b82, 0, none⟩) 1 1) rfl (leB es k) (leI es k) 1 y25)
       refine gc_region (gp (zLa (cs := (chN (leB es k) (leI es k) 1 y25 (.slice (some ⟨b82, 0, none⟩) 1 1)))) ?_); refine zc (fun _ => ?_) (c := fun w1 F1 F2 h1 h2 hd hst => id_ok (x := leB es (k + 1)) h1 (hE.mv hst.still) (hK.mv hst.still) (vl_rd h2 hd (by repeat (first | exact Pick.here | apply Pick.there))))
       rw [leB_err (by omega), leI_def]; refine zxm ?_; refine gp zex ?_; refine gp zex ?_; refine zsN ?_; refine zxa ?_; refine gnt (gc_seq (gsr (zxm ?_))); refine gp (r_bool (c := false) (r_nenil rfl (by kernel_rfl)) rfl) ?_; refine zxm ?_; refine gq zfa ?_; refine gq zl ?_; refine gq (zLa (cs := (chN (leB es k) (leI es k) 1 y25 (.slice (some ⟨b82, 0, none⟩) 1 1)))) ?_; refine gq zfa ?_; refine gq (r_val (v' := .int .i64 (leB es (k + 1)).round) (zl (v := .int .i64 ((leB es k).round + 1)) (hv := rfl)) (by rw [leB_round, leB_round]; rfl)) ?_; refine gq zL ?_; refine gq (zbu (cs := .int .i64 1 :: .int .i64 (leB es (k + 1)).round :: (dc (leI es (k + 1)) ++ [.slice none 0 0]))) ?_; refine zc (fun _ => ?_) (c := fun w1 F1 F2 h1 h2 hd hst => appC (b := leB es (k + 1)) (c := leQ es (k + 1)) h1 (hE.mv hst.still) (hK.mv hst.still) (vl_rd h2 hd (by repeat (first | exact Pick.here | apply Pick.there))) (rdQ1 _ _ _) (leR_ok (by omega)) (by rw [leRs_len]; omega) (by have e1 := leRs_tot (es := es) (k := k) (by omega); have e2 := leR_len (es := es) (k := k) (by omega); show 0 + tot (leRs es k) + nsec (leR es k).data.length + 2 ≤ 200; omega))
       rw [show leRs es k ++ [(⟨leB es (k + 1), leQ es (k + 1)⟩ : LRec)] = leRs es (k + 1) from (leRs_succ k).symm]; refine gq (r_bool (c := false) (r_nenil rfl (by kernel_rfl)) rfl) ?_; refine gp zpk ?_; refine gnt (gc_condF rfl rfl ?_); refine gc_skip (gx_then ?_)
       have hend : ∀ (a112 : Option Addr) (c112 : Nat) (a107 : Option Addr) (c107 : Nat) (w' : World), St w F [LdR q g 200 0 (leRs es (k + 1)), blk b7 51 (chN (leB es k) (leI es k) 1 y25 (.slice (some ⟨b82, 0, none⟩) 1 1)), blk b8 27 (dc (leI es (k + 1))), blk b4 35 (.pointer (some ⟨q, 0, none⟩) :: .slice a112 (k + 1) c112 :: .pointer none :: .pointer none :: .slice a107 (k + 1 + 1) c107 :: dc gid), rowR 51 39 a112 (k + 1) c112 (css.flatten ++ (chN (leB es k) (leI es k) 1 y25 (.slice (some ⟨b82, 0, none⟩) 1 1))), ElR RdBlock css (leL es k), VlR RdBlock (chN (leB es k) (leI es k) 1 y25 (.slice (some ⟨b82, 0, none⟩) 1 1)) (leB es (k + 1)), rowR 27 16 a107 (k + 1 + 1) c107 (((leD es k).map dc).flatten ++ dc (leI es (k + 1))), blk b1 25 [.slice (some ⟨ga, oa, none⟩) es.length ce, .slice ap ps.length kp, .slice aS ss.length kS], blk b2 35 (.pointer none :: .slice none 0 0 :: .pointer none :: .pointer none :: .slice none 0 0 :: dc dig0)] w' → St w F [pureR ((k + 1) ≤ es.length ∧ ((chN (leB es k) (leI es k) 1 y25 (.slice (some ⟨b82, 0, none⟩) 1 1)).length = 39 ∧ ∀ v ∈ (chN (leB es k) (leI es k) 1 y25 (.slice (some ⟨b82, 0, none⟩) 1 1)), v.oneCell' = true) ∧ (∀ c ∈ (css ++ [(chN (leB es k) (leI es k) 1 y25 (.slice (some ⟨b82, 0, none⟩) 1 1))]), List.length c = 39) ∧ (((k + 1) = 0 ∧ (chN (leB es k) (leI es k) 1 y25 (.slice (some ⟨b82, 0, none⟩) 1 1)) = genC) ∨ ∃ i, (k + 1) = i + 1 ∧ (css ++ [(chN (leB es k) (leI es k) 1 y25 (.slice (some ⟨b82, 0, none⟩) 1 1))])[i]? = some (chN (leB es k) (leI es k) 1 y25 (.slice (some ⟨b82, 0, none⟩) 1 1))) ∧ ∃ w A, RdBlock w A (chN (leB es k) (leI es k) 1 y25 (.slice (some ⟨b82, 0, none⟩) 1 1)) (leB es (k + 1))), LdR q g 200 0 (leRs es (k + 1)), blk b7 51 (chN (leB es k) (leI es k) 1 y25 (.slice (some ⟨b82, 0, none⟩) 1 1)), blk b8 27 (dc (leI es (k + 1))), blk b4 35 (.pointer (some ⟨q, 0, none⟩) :: .slice a112 (k + 1) c112 :: .pointer none :: .pointer none :: .slice a107 ((k + 1) + 1) c107 :: dc gid), rowR 51 39 a112 (k + 1) c112 (css ++ [(chN (leB es k) (leI es k) 1 y25 (.slice (some ⟨b82, 0, none⟩) 1 1))]).flatten, ElR RdBlock (css ++ [(chN (leB es k) (leI es k) 1 y25 (.slice (some ⟨b82, 0, none⟩) 1 1))]) (leL es (k + 1)), rowR 27 16 a107 ((k + 1) + 1) c107 ((leD es (k + 1)).map dc).flatten, blk b1 25 [.slice (some ⟨ga, oa, none⟩) es.length ce, .slice ap ps.length kp, .slice aS ss.length kS], blk b2 35 (.pointer none :: .slice none 0 0 :: .pointer none :: .pointer none :: .slice none 0 0 :: dc dig0)] w' := fun a112 c112 a107 c107 w' hw => by
        have hcl : css.length = k := by have := (St.el (rd := RdBlock) (hw.sel (M := [ElR RdBlock css (leL es k)]) (by repeat (first | exact Sel.nil | (apply Sel.cons; · (repeat (first | exact Pick.here | apply Pick.there)))))) .here).1; rw [this, leL_len]
        obtain ⟨wv, Av, hvr⟩ := St.vlOfB (cs := (chN (leB es k) (leI es k) 1 y25 (.slice (some ⟨b82, 0, none⟩) 1 1))) (x := leB es (k + 1)) hw (by repeat (first | exact Pick.here | apply Pick.there)); have h3 := hw.conv (M := [ElR RdBlock css (leL es k), VlR RdBlock (chN (leB es k) (leI es k) 1 y25 (.slice (some ⟨b82, 0, none⟩) 1 1)) (leB es (k + 1))]) (by repeat (first | exact Sel.nil | (apply Sel.cons; · (repeat (first | exact Pick.here | apply Pick.there))))) (fun _ _ => el_snoc)
        refine St.pureI (p := (k + 1) ≤ es.length ∧ ((chN (leB es k) (leI es k) 1 y25 (.slice (some ⟨b82, 0, none⟩) 1 1)).length = 39 ∧ ∀ v ∈ (chN (leB es k) (leI es k) 1 y25 (.slice (some ⟨b82, 0, none⟩) 1 1)), v.oneCell' = true) ∧ (∀ c ∈ (css ++ [(chN (leB es k) (leI es k) 1 y25 (.slice (some ⟨b82, 0, none⟩) 1 1))]), List.length c = 39) ∧ (((k + 1) = 0 ∧ (chN (leB es k) (leI es k) 1 y25 (.slice (some ⟨b82, 0, none⟩) 1 1)) = genC) ∨ ∃ i, (k + 1) = i + 1 ∧ (css ++ [(chN (leB es k) (leI es k) 1 y25 (.slice (some ⟨b82, 0, none⟩) 1 1))])[i]? = some (chN (leB es k) (leI es k) 1 y25 (.slice (some ⟨b82, 0, none⟩) 1 1))) ∧ ∃ w A, RdBlock w A (chN (leB es k) (leI es k) 1 y25 (.slice (some ⟨b82, 0, none⟩) 1 1)) (leB es (k + 1))) ⟨by omega, ⟨chN_len _ _ _ _ _, chN_one rfl _ _ _ _⟩, fun x hx => (by rcases List.mem_append.1 hx with h | h; exact hcs x h; (simp at h; subst h; exact chN_len _ _ _ _ _)), .inr ⟨k, rfl, by rw [List.getElem?_append_right (by omega), hcl, Nat.sub_self]; rfl⟩, wv, Av, hvr⟩ ?_
        rw [show (css ++ [(chN (leB es k) (leI es k) 1 y25 (.slice (some ⟨b82, 0, none⟩) 1 1))]).flatten = css.flatten ++ (chN (leB es k) (leI es k) 1 y25 (.slice (some ⟨b82, 0, none⟩) 1 1)) by simp, show ((leD es (k + 1)).map dc).flatten = ((leD es k).map dc).flatten ++ dc (leI es (k + 1)) by rw [leD_succ]; simp, leL_succ]; exact h3.z
       refine gc_regionU 11 ([blk b7 51 (chN (leB es k) (leI es k) 1 y25 (.slice (some ⟨b82, 0, none⟩) 1 1)), blk b8 27 (dc (leI es (k + 1))), blk b4 35 (.pointer (some ⟨q, 0, none⟩) :: .slice la k lc :: .pointer none :: .pointer none :: .slice ia (k + 1) ic :: dc gid)]) ?_; refine ypu 0 rfl zfa ?_; refine ypu 1 rfl zl ?_; refine ypu 2 rfl zL ?_; refine ypu 5 rfl zfa ?_; refine ypu 6 rfl zl ?_; refine ypu 7 rfl (zLa (cs := (chN (leB es k) (leI es k) 1 y25 (.slice (some ⟨b82, 0, none⟩) 1 1)))) ?_; refine you2 3 8 rfl rfl ?_ ?_
       ·refine zeN fun b106 => ?_; refine yxu ?_; refine you2 4 8 rfl rfl ?_ ?_
        ·refine zapo (fun a107 c107 => ?_)
         refine yxu ?_; refine ypu 10 rfl zfa ?_; refine you 8 rfl ?_; refine zeN fun b111 => ?_; refine yxu ?_; refine you 9 rfl ?_; refine zapo (fun a112 c112 => ?_)
         refine yxu ?_; refine yzu ?_; refine zs1 ?_; refine gp zfa ?_; refine zs1 ?_; refine gl_nil (gx_block_normal (gx_then (gc_region (gp zad ?_)))); refine zxm ?_; refine gl_nil (zrd ((k + 1, (a112, c112), (a107, c107), css ++ [(chN (leB es k) (leI es k) 1 y25 (.slice (some ⟨b82, 0, none⟩) 1 1))], (chN (leB es k) (leI es k) 1 y25 (.slice (some ⟨b82, 0, none⟩) 1 1)))) ?_ ?_)
         ·show es.length - (k + 1) < es.length - k
          omega
         ·exact fun w' hw => hend a112 c112 a107 c107 w' (hw.z)
        ·refine zeN fun b111 => ?_; refine yxu ?_; refine you 4 rfl ?_; refine zapo (fun a107 c107 => ?_)
         refine yxu ?_; refine ypu 10 rfl zfa ?_; refine you 9 rfl ?_; refine zapo (fun a112 c112 => ?_)
         refine yxu ?_; refine yzu ?_; refine zs1 ?_; refine gp zfa ?_; refine zs1 ?_; refine gl_nil (gx_block_normal (gx_then (gc_region (gp zad ?_)))); refine zxm ?_; refine gl_nil (zrd ((k + 1, (a112, c112), (a107, c107), css ++ [(chN (leB es k) (leI es k) 1 y25 (.slice (some ⟨b82, 0, none⟩) 1 1))], (chN (leB es k) (leI es k) 1 y25 (.slice (some ⟨b82, 0, none⟩) 1 1)))) ?_ ?_)
         ·show es.length - (k + 1) < es.length - k
          omega
         ·exact fun w' hw => hend a112 c112 a107 c107 w' (hw.z)
       ·refine zeN fun b111 => ?_; refine yxu ?_; refine you 3 rfl ?_; refine zeN fun b106 => ?_; refine yxu ?_; refine you 4 rfl ?_; refine zapo (fun a107 c107 => ?_)
        refine yxu ?_; refine ypu 10 rfl zfa ?_; refine you 9 rfl ?_; refine zapo (fun a112 c112 => ?_)
        refine yxu ?_; refine yzu ?_; refine zs1 ?_; refine gp zfa ?_; refine zs1 ?_; refine gl_nil (gx_block_normal (gx_then (gc_region (gp zad ?_)))); refine zxm ?_; refine gl_nil (zrd ((k + 1, (a112, c112), (a107, c107), css ++ [(chN (leB es k) (leI es k) 1 y25 (.slice (some ⟨b82, 0, none⟩) 1 1))], (chN (leB es k) (leI es k) 1 y25 (.slice (some ⟨b82, 0, none⟩) 1 1)))) ?_ ?_)
        ·show es.length - (k + 1) < es.length - k
         omega
        ·exact fun w' hw => hend a112 c112 a107 c107 w' (hw.z)
      ·refine gc_skip (gx_then (gc_seq (gc_eqc (cs' := (chN (leB es k) (leI es k) 1 y25 (.slice none 0 0))) (by repeat (first | exact Pick.here | apply Pick.there)) (chN_none _ _ _ _) ?_))); refine gc_cz (M := [rowR 68 1 (some ⟨y25, 0, none⟩) 1 1 [.slice (some ⟨y24, 0, none⟩) 1 1], rowR 5 1 (some ⟨y24, 0, none⟩) 1 1 [B8 (txN k)]]) (N := [VlR RdBlock (chN (leB es k) (leI es k) 1 y25 (.slice none 0 0)) (leB es (k + 1))]) (fun _ _ => vl_leF hc80) ?_; have icn := Len.of (chN_len (leB es k) (leI es k) 1 y25 (.slice none 0 0))
       have jcn := One.of (chN_one (nx := .slice none 0 0) rfl (leB es k) (leI es k) 1 y25)
       refine gc_region (gp (zLa (cs := (chN (leB es k) (leI es k) 1 y25 (.slice none 0 0)))) ?_); refine zc (fun _ => ?_) (c := fun w1 F1 F2 h1 h2 hd hst => id_ok (x := leB es (k + 1)) h1 (hE.mv hst.still) (hK.mv hst.still) (vl_rd h2 hd (by repeat (first | exact Pick.here | apply Pick.there))))
       rw [leB_err (by omega), leI_def]; refine zxm ?_; refine gp zex ?_; refine gp zex ?_; refine zsN ?_; refine zxa ?_; refine gnt (gc_seq (gsr (zxm ?_))); refine gp (r_bool (c := false) (r_nenil rfl (by kernel_rfl)) rfl) ?_; refine zxm ?_; refine gq zfa ?_; refine gq zl ?_; refine gq (zLa (cs := (chN (leB es k) (leI es k) 1 y25 (.slice none 0 0)))) ?_; refine gq zfa ?_; refine gq (r_val (v' := .int .i64 (leB es (k + 1)).round) (zl (v := .int .i64 ((leB es k).round + 1)) (hv := rfl)) (by rw [leB_round, leB_round]; rfl)) ?_; refine gq zL ?_; refine gq (zbu (cs := .int .i64 1 :: .int .i64 (leB es (k + 1)).round :: (dc (leI es (k + 1)) ++ [.slice none 0 0]))) ?_; refine zc (fun _ => ?_) (c := fun w1 F1 F2 h1 h2 hd hst => appC (b := leB es (k + 1)) (c := leQ es (k + 1)) h1 (hE.mv hst.still) (hK.mv hst.still) (vl_rd h2 hd (by repeat (first | exact Pick.here | apply Pick.there))) (rdQ1 _ _ _) (leR_ok (by omega)) (by rw [leRs_len]; omega) (by have e1 := leRs_tot (es := es) (k := k) (by omega); have e2 := leR_len (es := es) (k := k) (by omega); show 0 + tot (leRs es k) + nsec (leR es k).data.length + 2 ≤ 200; omega))
       rw [show leRs es k ++ [(⟨leB es (k + 1), leQ es (k + 1)⟩ : LRec)] = leRs es (k + 1) from (leRs_succ k).symm]; refine gq (r_bool (c := false) (r_nenil rfl (by kernel_rfl)) rfl) ?_; refine gp zpk ?_; refine gnt (gc_condF rfl rfl ?_); refine gc_skip (gx_then ?_)
       have hend : ∀ (a112 : Option Addr) (c112 : Nat) (a107 : Option Addr) (c107 : Nat) (w' : World), St w F [LdR q g 200 0 (leRs es (k + 1)), blk b7 51 (chN (leB es k) (leI es k) 1 y25 (.slice none 0 0)), blk b8 27 (dc (leI es (k + 1))), blk b4 35 (.pointer (some ⟨q, 0, none⟩) :: .slice a112 (k + 1) c112 :: .pointer none :: .pointer none :: .slice a107 (k + 1 + 1) c107 :: dc gid), rowR 51 39 a112 (k + 1) c112 (css.flatten ++ (chN (leB es k) (leI es k) 1 y25 (.slice none 0 0))), ElR RdBlock css (leL es k), VlR RdBlock (chN (leB es k) (leI es k) 1 y25 (.slice none 0 0)) (leB es (k + 1)), rowR 27 16 a107 (k + 1 + 1) c107 (((leD es k).map dc).flatten ++ dc (leI es (k + 1))), blk b1 25 [.slice (some ⟨ga, oa, none⟩) es.length ce, .slice ap ps.length kp, .slice aS ss.length kS], blk b2 35 (.pointer none :: .slice none 0 0 :: .pointer none :: .pointer none :: .slice none 0 0 :: dc dig0)] w' → St w F [pureR ((k + 1) ≤ es.length ∧ ((chN (leB es k) (leI es k) 1 y25 (.slice none 0 0)).length = 39 ∧ ∀ v ∈ (chN (leB es k) (leI es k) 1 y25 (.slice none 0 0)), v.oneCell' = true) ∧ (∀ c ∈ (css ++ [(chN (leB es k) (leI es k) 1 y25 (.slice none 0 0))]), List.length c = 39) ∧ (((k + 1) = 0 ∧ (chN (leB es k) (leI es k) 1 y25 (.slice none 0 0)) = genC) ∨ ∃ i, (k + 1) = i + 1 ∧ (css ++ [(chN (leB es k) (leI es k) 1 y25 (.slice none 0 0))])[i]? = some (chN (leB es k) (leI es k) 1 y25 (.slice none 0 0))) ∧ ∃ w A, RdBlock w A (chN (leB es k) (leI es k) 1 y25 (.slice none 0 0)) (leB es (k + 1))), LdR q g 200 0 (leRs es (k + 1)), blk b7 51 (chN (leB es k) (leI es k) 1 y25 (.slice none 0 0)), blk b8 27 (dc (leI es (k + 1))), blk b4 35 (.pointer (some ⟨q, 0, none⟩) :: .slice a112 (k + 1) c112 :: .pointer none :: .pointer none :: .slice a107 ((k + 1) + 1) c107 :: dc gid), rowR 51 39 a112 (k + 1) c112 (css ++ [(chN (leB es k) (leI es k) 1 y25 (.slice none 0 0))]).flatten, ElR RdBlock (css ++ [(chN (leB es k) (leI es k) 1 y25 (.slice none 0 0))]) (leL es (k + 1)), rowR 27 16 a107 ((k + 1) + 1) c107 ((leD es (k + 1)).map dc).flatten, blk b1 25 [.slice (some ⟨ga, oa, none⟩) es.length ce, .slice ap ps.length kp, .slice aS ss.length kS], blk b2 35 (.pointer none :: .slice none 0 0 :: .pointer none :: .pointer none :: .slice none 0 0 :: dc dig0)] w' := fun a112 c112 a107 c107 w' hw => by
        have hcl : css.length = k := by have := (St.el (rd := RdBlock) (hw.sel (M := [ElR RdBlock css (leL es k)]) (by repeat (first | exact Sel.nil | (apply Sel.cons; · (repeat (first | exact Pick.here | apply Pick.there)))))) .here).1; rw [this, leL_len]
        obtain ⟨wv, Av, hvr⟩ := St.vlOfB (cs := (chN (leB es k) (leI es k) 1 y25 (.slice none 0 0))) (x := leB es (k + 1)) hw (by repeat (first | exact Pick.here | apply Pick.there)); have h3 := hw.conv (M := [ElR RdBlock css (leL es k), VlR RdBlock (chN (leB es k) (leI es k) 1 y25 (.slice none 0 0)) (leB es (k + 1))]) (by repeat (first | exact Sel.nil | (apply Sel.cons; · (repeat (first | exact Pick.here | apply Pick.there))))) (fun _ _ => el_snoc)
        refine St.pureI (p := (k + 1) ≤ es.length ∧ ((chN (leB es k) (leI es k) 1 y25 (.slice none 0 0)).length = 39 ∧ ∀ v ∈ (chN (leB es k) (leI es k) 1 y25 (.slice none 0 0)), v.oneCell' = true) ∧ (∀ c ∈ (css ++ [(chN (leB es k) (leI es k) 1 y25 (.slice none 0 0))]), List.length c = 39) ∧ (((k + 1) = 0 ∧ (chN (leB es k) (leI es k) 1 y25 (.slice none 0 0)) = genC) ∨ ∃ i, (k + 1) = i + 1 ∧ (css ++ [(chN (leB es k) (leI es k) 1 y25 (.slice none 0 0))])[i]? = some (chN (leB es k) (leI es k) 1 y25 (.slice none 0 0))) ∧ ∃ w A, RdBlock w A (chN (leB es k) (leI es k) 1 y25 (.slice none 0 0)) (leB es (k + 1))) ⟨by omega, ⟨chN_len _ _ _ _ _, chN_one rfl _ _ _ _⟩, fun x hx => (by rcases List.mem_append.1 hx with h | h; exact hcs x h; (simp at h; subst h; exact chN_len _ _ _ _ _)), .inr ⟨k, rfl, by rw [List.getElem?_append_right (by omega), hcl, Nat.sub_self]; rfl⟩, wv, Av, hvr⟩ ?_
        rw [show (css ++ [(chN (leB es k) (leI es k) 1 y25 (.slice none 0 0))]).flatten = css.flatten ++ (chN (leB es k) (leI es k) 1 y25 (.slice none 0 0)) by simp, show ((leD es (k + 1)).map dc).flatten = ((leD es k).map dc).flatten ++ dc (leI es (k + 1)) by rw [leD_succ]; simp, leL_succ]; exact h3.z
       refine gc_regionU 11 ([blk b7 51 (chN (leB es k) (leI es k) 1 y25 (.slice none 0 0)), blk b8 27 (dc (leI es (k + 1))), blk b4 35 (.pointer (some ⟨q, 0, none⟩) :: .slice la k lc :: .pointer none :: .pointer none :: .slice ia (k + 1) ic :: dc gid)]) ?_; refine ypu 0 rfl zfa ?_; refine ypu 1 rfl zl ?_; refine ypu 2 rfl zL ?_; refine ypu 5 rfl zfa ?_; refine ypu 6 rfl zl ?_; refine ypu 7 rfl (zLa (cs := (chN (leB es k) (leI es k) 1 y25 (.slice none 0 0)))) ?_; refine you2 3 8 rfl rfl ?_ ?_
       ·refine zeN fun b106 => ?_; refine yxu ?_; refine you2 4 8 rfl rfl ?_ ?_
        ·refine zapo (fun a107 c107 => ?_)
         refine yxu ?_; refine ypu 10 rfl zfa ?_; refine you 8 rfl ?_; refine zeN fun b111 => ?_; refine yxu ?_; refine you 9 rfl ?_; refine zapo (fun a112 c112 => ?_)
         refine yxu ?_; refine yzu ?_; refine zs1 ?_; refine gp zfa ?_; refine zs1 ?_; refine gl_nil (gx_block_normal (gx_then (gc_region (gp zad ?_)))); refine zxm ?_; refine gl_nil (zrd ((k + 1, (a112, c112), (a107, c107), css ++ [(chN (leB es k) (leI es k) 1 y25 (.slice none 0 0))], (chN (leB es k) (leI es k) 1 y25 (.slice none 0 0)))) ?_ ?_)
         ·show es.length - (k + 1) < es.length - k
          omega
         ·exact fun w' hw => hend a112 c112 a107 c107 w' (hw.z)
        ·refine zeN fun b111 => ?_; refine yxu ?_; refine you 4 rfl ?_; refine zapo (fun a107 c107 => ?_)
         refine yxu ?_; refine ypu 10 rfl zfa ?_; refine you 9 rfl ?_; refine zapo (fun a112 c112 => ?_)
         refine yxu ?_; refine yzu ?_; refine zs1 ?_; refine gp zfa ?_; refine zs1 ?_; refine gl_nil (gx_block_normal (gx_then (gc_region (gp zad ?_)))); refine zxm ?_; refine gl_nil (zrd ((k + 1, (a112, c112), (a107, c107), css ++ [(chN (leB es k) (leI es k) 1 y25 (.slice none 0 0))], (chN (leB es k) (leI es k) 1 y25 (.slice none 0 0)))) ?_ ?_)
         ·show es.length - (k + 1) < es.length - k
          omega
         ·exact fun w' hw => hend a112 c112 a107 c107 w' (hw.z)
       ·refine zeN fun b111 => ?_; refine yxu ?_; refine you 3 rfl ?_; refine zeN fun b106 => ?_; refine yxu ?_; refine you 4 rfl ?_; refine zapo (fun a107 c107 => ?_)
        refine yxu ?_; refine ypu 10 rfl zfa ?_; refine you 9 rfl ?_; refine zapo (fun a112 c112 => ?_)
        refine yxu ?_; refine yzu ?_; refine zs1 ?_; refine gp zfa ?_; refine zs1 ?_; refine gl_nil (gx_block_normal (gx_then (gc_region (gp zad ?_)))); refine zxm ?_; refine gl_nil (zrd ((k + 1, (a112, c112), (a107, c107), css ++ [(chN (leB es k) (leI es k) 1 y25 (.slice none 0 0))], (chN (leB es k) (leI es k) 1 y25 (.slice none 0 0)))) ?_ ?_)
        ·show es.length - (k + 1) < es.length - k
         omega
        ·exact fun w' hw => hend a112 c112 a107 c107 w' (hw.z)
     ·try simp only at hc72
      have hke : k = es.length := by omega
      subst hke; refine gc_exit ?_; refine gx_then_exit ?_; refine gx_round_exit ?_; refine gx_block_hit ?_; refine gx_then (gsr (gp zfa ?_)); refine gp (zl (v := .int .i64 (leB es es.length).round) (hv := rd_round hrd)) ?_; refine gp zL ?_; refine gp (zbu (cs := (.int .i64 1 :: .int .i64 (leB es es.length).round :: (dc (leI es es.length) ++ [.slice none 0 0])))) ?_; refine zal fun b12 => ?_; refine gl_eqc (cs' := qcC) (by repeat (first | exact Pick.here | apply Pick.there)) (by kernel_rfl) ?_; refine zsA (by simp [dc_length]) (all_cons' rfl (all_cons' rfl (all_app' (dc_one _) (all_cons' rfl all_nil')))) ?_; refine gnt (gc_seq (gsr (gp (zLa (cs := cs)) ?_))); refine gp (zLa (cs := (.int .i64 1 :: .int .i64 (leB es es.length).round :: (dc (leI es es.length) ++ [.slice none 0 0])))) ?_; refine zc (fun tq => ?_) (c := fun w1 F1 F2 h1 h2 hd hst => tnewB_ok (b := (leB es es.length)) (q := leQ es es.length) (hE.mv hst.still) (hK.mv hst.still) h1 (last_rd h2 hd (by repeat (first | exact Pick.here | apply Pick.there)) hlast) (rdQ1 _ _ _) (leB_sm _) (leQ_sm _) (leB_err (by omega)) (leQ_fits' _))
      rw [le_trT es ps ss]; refine zxm ?_; refine gp zex ?_; refine gp zex ?_; refine gp zfa ?_; refine zs1 ?_; refine zxa ?_; refine zxs ?_; refine zxm ?_; refine gp (r_bool (c := false) (r_nenil rfl (by kernel_rfl)) rfl) ?_; refine gnt (gc_condF rfl rfl ?_); refine gc_skip (gx_then (gsr (gp (zLa (cs := cs)) ?_))); refine gp (zLa (cs := (.int .i64 1 :: .int .i64 (leB es es.length).round :: (dc (leI es es.length) ++ [.slice none 0 0])))) ?_; refine zc (fun mq => ?_) (c := fun w1 F1 F2 h1 h2 hd hst => rnewM_ok (b := (leB es es.length)) (q := leQ es es.length) h1 (last_rd h2 hd (by repeat (first | exact Pick.here | apply Pick.there)) hlast) (leB_okb (by omega)) (rdQ1 _ _ _) (leB_err (by omega)) (leQ_fits' _))
      rw [le_trT es ps ss]; refine zxm ?_; refine gp zex ?_; refine gp zex ?_; refine gp zfa ?_; refine zs1 ?_; refine gnt (gc_seq (gsr (gp zfa ?_))); refine gp zl ?_; refine gp (r_bool (c := false) (r_eqpn rfl Ty.un_29) rfl) ?_; refine zxm ?_; refine gq zfa ?_; refine gq zl ?_; refine gq (r_bool (c := false) (r_eqpn rfl Ty.un_31) rfl) ?_; refine gp zpk ?_; refine zxm ?_; refine gq zfa ?_; refine gq zl ?_; refine gq (r_bool (c := false) (r_eqpn rfl Ty.un_32) rfl) ?_; refine gp zpk ?_; refine gnt (gc_condF rfl rfl ?_); refine gc_skip (gx_then (gc_join (α := Nat × Nat) (fun y => [rowR 51 39 (some ⟨y.1, 0, none⟩) 1 1 cs, rowR 27 16 (some ⟨y.2, 0, none⟩) 1 1 (dc (leI es es.length)), LdR q g 200 0 (leRs es es.length), blk b8 27 (dc (leI es es.length)), blk b4 35 (.pointer (some ⟨q, 0, none⟩) :: .slice la es.length lc :: .pointer (some ⟨tq, 0, none⟩) :: .pointer (some ⟨mq, 0, none⟩) :: .slice ia (es.length + 1) ic :: dc gid), rowR 51 39 la es.length lc css.flatten, ElR RdBlock css (leL es es.length), TreeR tq (trT (leB es es.length) ps ss 0), ModR mq (trT (leB es es.length) ps ss 0) [cs], rowR 27 16 ia (es.length + 1) ic ((leD es es.length).map dc).flatten, blk b1 25 [.slice ae es.length ce, .slice ap ps.length kp, .slice aS ss.length kS], blk b2 35 (.pointer none :: .slice none 0 0 :: .pointer none :: .pointer none :: .slice none 0 0 :: dc dig0)]) (fun y => [(13, .slice (some ⟨y.1, 0, none⟩) 1 1), (14, .slice (some ⟨y.2, 0, none⟩) 1 1)]) [151, 152, 153, 154] ?_ ?_))
      ·refine gc_regionZ 5 ([blk b7 51 cs, blk b8 27 (dc (leI es es.length))]) ?_; refine yps 0 rfl (zLa (cs := cs)) ?_; refine yps 2 rfl zL ?_; refine yo2s 1 3 rfl rfl ?_ ?_
       ·refine zeN fun b152 => ?_; refine yxs ?_; refine yps 4 rfl zas ?_; refine yos 3 rfl ?_; refine zeN fun b154 => ?_; refine yxs ?_; refine yzs rfl ?_; refine zxa ?_; refine gl_nil (zjn ((b152, b154)) ?_)
        ·exact zsel
       ·refine zeN fun b154 => ?_; refine yxs ?_; refine yos 1 rfl ?_; refine zeN fun b152 => ?_; refine yxs ?_; refine yps 4 rfl zas ?_; refine yzs rfl ?_; refine zxa ?_; refine gl_nil (zjn ((b152, b154)) ?_)
        ·exact zsel
      ·intro y u; obtain ⟨b152, b154⟩ := y; refine gc_seq (gsr (gp zfa ?_)); refine gp zl ?_; refine gp zln ?_; refine zxm ?_; refine gnt (gc_block (gc_loop (α := Nat × (Option Addr × Nat) × (Option Addr × Nat) × (Option Addr × Nat) × List (List Value) × Dig) (fun y => [pureR (y.1 ≤ ps.length ∧ (∀ c ∈ y.2.2.2.2.1, List.length c = 39) ∧ trOk (leB es es.length) ps ss y.1), rowR 51 39 y.2.1.1 (y.1 + 1) y.2.1.2 (cs :: y.2.2.2.2.1).flatten, rowR 27 16 y.2.2.1.1 (y.1 + 1) y.2.2.1.2 ((trD (leB es es.length) ps ss y.1).map dc).flatten, LdR q g 200 0 (leRs es es.length), blk b8 27 (dc y.2.2.2.2.2), blk b4 35 (.pointer (some ⟨q, 0, none⟩) :: .slice la es.length lc :: .pointer (some ⟨tq, 0, none⟩) :: .pointer (some ⟨mq, 0, none⟩) :: .slice y.2.2.2.1.1 (es.length + 1 + y.1) y.2.2.2.1.2 :: dc gid), rowR 51 39 la es.length lc css.flatten, ElR RdBlock css (leL es es.length), TreeR tq (trT (leB es es.length) ps ss y.1), ModR mq (trT (leB es es.length) ps ss y.1) (cs :: y.2.2.2.2.1), ElR RdBlock y.2.2.2.2.1 (trL (leB es es.length) ps ss y.1), rowR 27 16 y.2.2.2.1.1 (es.length + 1 + y.1) y.2.2.2.1.2 ((idsB es ps ss y.1).map dc).flatten, blk b1 25 [.slice ae es.length ce, .slice ap ps.length kp, .slice aS ss.length kS], blk b2 35 (.pointer none :: .slice none 0 0 :: .pointer none :: .pointer none :: .slice none 0 0 :: dc dig0)]) (fun y => [(158, .int .i64 (y.1 : Int)), (13, .slice y.2.1.1 (y.1 + 1) y.2.1.2), (14, .slice y.2.2.1.1 (y.1 + 1) y.2.2.1.2)]) [3, 6, 15, 16, 17, 18, 159, 160, 161, 162, 163, 164, 165, 166, 167, 168, 169, 170, 171, 172, 173, 174, 175, 176, 177, 178, 179, 180, 181, 182, 183, 184, 185, 186, 187, 188, 189, 190, 191, 192, 193, 194, 195, 196, 197, 198, 199, 200, 201, 202, 203, 204, 205, 206, 207, 208, 209, 210, 211, 212, 213, 214, 215, 216, 217, 218] (fun y => ps.length - y.1) (0, (some ⟨b152, 0, none⟩, 1), (some ⟨b154, 0, none⟩, 1), (ia, ic), [], leI es es.length) ?_ ?_ ?_))
       ·refine env_start (by kernel_rfl)
       ·intro w' hw; have hw := St.mapL hw (fun F' hF' => el_nil (rd := RdBlock) hF')
        refine St.pureI (p := 0 ≤ ps.length ∧ (∀ c ∈ ([] : List (List Value)), List.length c = 39) ∧ trOk (leB es es.length) ps ss 0) ⟨Nat.zero_le _, by simp, fun j hj => absurd hj (Nat.not_lt_zero _)⟩ ?_; have e1 : ((trD (leB es es.length) ps ss 0).map dc).flatten = dc (leI es es.length) := by simp [trD, trB, leI_def]
        have e2 : ((idsB es ps ss 0).map dc).flatten = ((leD es es.length).map dc).flatten := by rw [idsB_zero]
        have e3 : (cs :: ([] : List (List Value))).flatten = cs := by simp
        show St w F [rowR 51 39 (some ⟨b152, 0, none⟩) (0 + 1) 1 (cs :: ([] : List (List Value))).flatten, rowR 27 16 (some ⟨b154, 0, none⟩) (0 + 1) 1 ((trD (leB es es.length) ps ss 0).map dc).flatten, LdR q g 200 0 (leRs es es.length), blk b8 27 (dc (leI es es.length)), blk b4 35 (.pointer (some ⟨q, 0, none⟩) :: .slice la es.length lc :: .pointer (some ⟨tq, 0, none⟩) :: .pointer (some ⟨mq, 0, none⟩) :: .slice ia (es.length + 1 + 0) ic :: dc gid), rowR 51 39 la es.length lc css.flatten, ElR RdBlock css (leL es es.length), TreeR tq (trT (leB es es.length) ps ss 0), ModR mq (trT (leB es es.length) ps ss 0) (cs :: []), ElR RdBlock [] (trL (leB es es.length) ps ss 0), rowR 27 16 ia (es.length + 1 + 0) ic ((idsB es ps ss 0).map dc).flatten, blk b1 25 [.slice ae es.length ce, .slice ap ps.length kp, .slice aS ss.length kS], blk b2 35 (.pointer none :: .slice none 0 0 :: .pointer none :: .pointer none :: .slice none 0 0 :: dc dig0)] w'
        rw [e1, e2, e3, trL_zero]; exact hw.z
       ·intro y u; obtain ⟨i, ⟨a13, c13⟩, ⟨a14, c14⟩, ⟨ia2, ic2⟩, css2, d8⟩ := y; refine gc_pureR (fun hi => ?_)
        obtain ⟨hi, hcs2, hok⟩ := hi; replace hi : i ≤ ps.length := hi
        replace hcs2 : ∀ x ∈ css2, List.length x = 39 := hcs2
        replace hok : trOk (leB es es.length) ps ss i := hok
        refine gsr (gp zlt ?_); refine gnt (gc_seq (gif rfl (fun hc159 => ?_) (fun hc159 => ?_)))
        ·try simp only at hc159
         have hi' : i < ps.length := by omega
         have hb0 := leB_round (es := es) es.length
         have hTI : TrI (leB es es.length) ps ss i := tri_all (leB_epoch _) (leB_sm _) (by omega) (by omega) (by omega) hok
         obtain ⟨p, hp, hxe, hpe, hp0, hpb, hp1, hs3⟩ := hTI.x (by omega) (by omega) (by omega); obtain ⟨hpm, hpm2⟩ := uMod_eq (ps.getD i 0) (m := i + 1) (by omega); obtain ⟨hsm, _⟩ := uMod_eq (ss.getD i 0) (m := 3) (by decide); refine gc_fact (fun w' hw => St.el (rd := RdBlock) (hw.sel (M := [ElR RdBlock css2 (trL (leB es es.length) ps ss i)]) (by repeat (first | exact Sel.nil | (apply Sel.cons; · (repeat (first | exact Pick.here | apply Pick.there)))))) .here) (fun hel => ?_)
         obtain ⟨cp, hcp, wp, Ap, hrp⟩ := tree_cell ⟨wq, Aq, hrd⟩ hel.1 hel.2 hp; have hc39 : ∀ x ∈ cs :: css2, List.length x = 39 := fun x hx => (by rcases List.mem_cons.1 hx with h | h; (rw [h]; exact hlc); exact hcs2 x h)
         have icp := Len.of hrp.len
         have jcp := One.of hrp.one
         have hcl2 : css2.length = i := by rw [hel.1, trL_len]
         obtain ⟨ga, oa, ha, hA, _, hra⟩ := hps.elem hi'; subst ha; have hce := hra 0 (.int .i64 (ps.getD i 0)) (by simp [List.getElem?_take, List.getD, hi'])
         obtain ⟨gs, os, hs, hAs, _, hras⟩ := hss.elem (show i < ss.length by omega); subst hs; have hces := hras 0 (.int .i64 (ss.getD i 0)) (by simp [List.getElem?_take, List.getD, show i < ss.length by omega])
         refine gc_fact (fun w' hw => St.rowAt (hw.sel (M := [rowR 51 39 a13 (i + 1) c13 (cs :: css2).flatten]) (by repeat (first | exact Sel.nil | (apply Sel.cons; · (repeat (first | exact Pick.here | apply Pick.there)))))) .here (by omega)) (fun hra13 => ?_)
         obtain ⟨_, g13, o13, ha13⟩ := hra13; subst ha13; refine gc_fact (fun w' hw => St.rowAt (hw.sel (M := [rowR 27 16 a14 (i + 1) c14 ((trD (leB es es.length) ps ss i).map dc).flatten]) (by repeat (first | exact Sel.nil | (apply Sel.cons; · (repeat (first | exact Pick.here | apply Pick.there)))))) .here (by omega)) (fun hra14 => ?_)
         obtain ⟨_, g14, o14, ha14⟩ := hra14; subst ha14; have hd16 : ∀ c ∈ (trD (leB es es.length) ps ss i).map dc, List.length c = 16 := fun c hc => by obtain ⟨x, _, rfl⟩ := List.mem_map.1 hc; exact dc_length x
         have hdp : ((trD (leB es es.length) ps ss i).map dc)[uMod (ps.getD i 0) (i + 1)]? = some (dc (idOf p)) := by rw [List.getElem?_map, trD, List.getElem?_map, hp]; rfl
         refine gc_skip (gx_then (gc_join (α := (Option Addr × Nat) × (Option Addr × Nat) × (Option Addr × Nat) × List Value) (fun y => [pureR (List.length y.2.2.2 = 39 ∧ idOf (trN (leB es es.length) ps ss i) ∉ (trD (leB es es.length) ps ss i)), rowR 51 39 y.1.1 ((i + 1) + 1) y.1.2 (cs :: (css2 ++ [y.2.2.2])).flatten, rowR 27 16 y.2.1.1 ((i + 1) + 1) y.2.1.2 ((trD (leB es es.length) ps ss (i + 1)).map dc).flatten, LdR q g 200 0 (leRs es es.length), blk b8 27 (dc (idOf (trN (leB es es.length) ps ss i))), blk b4 35 (.pointer (some ⟨q, 0, none⟩) :: .slice la es.length lc :: .pointer (some ⟨tq, 0, none⟩) :: .pointer (some ⟨mq, 0, none⟩) :: .slice y.2.2.1.1 (es.length + 1 + (i + 1)) y.2.2.1.2 :: dc gid), rowR 51 39 la es.length lc css.flatten, ElR RdBlock css (leL es es.length), TreeR tq (trT (leB es es.length) ps ss (i + 1)), ModR mq (trT (leB es es.length) ps ss (i + 1)) (cs :: (css2 ++ [y.2.2.2])), ElR RdBlock (css2 ++ [y.2.2.2]) (trL (leB es es.length) ps ss (i + 1)), rowR 27 16 y.2.2.1.1 (es.length + 1 + (i + 1)) y.2.2.1.2 ((idsB es ps ss (i + 1)).map dc).flatten, blk b1 25 [.slice ae es.length ce, .slice (some ⟨ga, oa, none⟩) ps.length kp, .slice (some ⟨gs, os, none⟩) ss.length kS], blk b2 35 (.pointer none :: .slice none 0 0 :: .pointer none :: .pointer none :: .slice none 0 0 :: dc dig0)]) (fun y => [(13, .slice y.1.1 (i + 1 + 1) y.1.2), (14, .slice y.2.1.1 (i + 1 + 1) y.2.1.2)]) [3, 6, 15, 16, 17, 18, 160, 161, 162, 163, 164, 165, 166, 167, 168, 169, 170, 171, 172, 173, 174, 175, 176, 177, 178, 179, 180, 181, 182, 183, 184, 185, 186, 187, 188, 189, 190, 191, 192, 193, 194, 195, 196, 197, 198, 199, 200, 201, 202, 203, 204, 205, 206, 207, 208, 209, 210, 211, 212, 213, 214, 215, 216, 217] ?_ ?_))
         ·refine gc_block (gsr (zxm ?_)); refine gp (r_val (v' := .pointer (some ⟨ga, oa + i * 1, none⟩)) zia (by simp)) ?_; refine gp (r_ld1o rfl Ty.row_3 hce hA) ?_; refine zxa ?_; refine zxa ?_; refine zxs ?_; refine zxm ?_; refine gp zci ?_; refine zxm ?_; refine gp zln ?_; refine gp (r_int (j := ((i + 1 : Nat) : Int)) zci (wrap_u64 (by omega) (by omega))) ?_; refine gp (r_int (j := ((uMod (ps.getD i 0) (i + 1) : Nat) : Int)) zrm hpm) ?_; refine gp (r_int (j := ((uMod (ps.getD i 0) (i + 1) : Nat) : Int)) zci (wrap_i64 (by omega) (by omega))) ?_; refine zxa ?_; refine gnt (gc_join (α := Nat × Nat) (fun y => [blk y.1 51 (chC p (idOf p) (1 + ((uMod (ss.getD i 0) 3 : Nat) : Int)) y.2), VlR RdBlock (chC p (idOf p) (1 + ((uMod (ss.getD i 0) 3 : Nat) : Int)) y.2) (trN (leB es es.length) ps ss i), rowR 51 39 (some ⟨g13, o13, none⟩) (i + 1) c13 (cs :: css2).flatten, rowR 27 16 (some ⟨g14, o14, none⟩) (i + 1) c14 ((trD (leB es es.length) ps ss i).map dc).flatten, LdR q g 200 0 (leRs es es.length), blk b8 27 (dc d8), blk b4 35 (.pointer (some ⟨q, 0, none⟩) :: .slice la es.length lc :: .pointer (some ⟨tq, 0, none⟩) :: .pointer (some ⟨mq, 0, none⟩) :: .slice ia2 (es.length + 1 + i) ic2 :: dc gid), rowR 51 39 la es.length lc css.flatten, ElR RdBlock css (leL es es.length), TreeR tq (trT (leB es es.length) ps ss i), ModR mq (trT (leB es es.length) ps ss i) (cs :: css2), ElR RdBlock css2 (trL (leB es es.length) ps ss i), rowR 27 16 ia2 (es.length + 1 + i) ic2 ((idsB es ps ss i).map dc).flatten, blk b1 25 [.slice ae es.length ce, .slice (some ⟨ga, oa, none⟩) ps.length kp, .slice (some ⟨gs, os, none⟩) ss.length kS], blk b2 35 (.pointer none :: .slice none 0 0 :: .pointer none :: .pointer none :: .slice none 0 0 :: dc dig0)]) (fun y => [(18, .pointer (some ⟨y.1, 0, none⟩))]) [170, 171, 172, 173, 174, 175, 176, 177, 178, 179, 180, 181, 182, 183, 184, 185, 186, 187, 188, 189] ?_ ?_)
          ·refine gc_regionZ 21 ([rowR 51 39 (some ⟨g13, o13, none⟩) (i + 1) c13 (cs :: css2).flatten, rowR 27 16 (some ⟨g14, o14, none⟩) (i + 1) c14 ((trD (leB es es.length) ps ss i).map dc).flatten, blk b1 25 [.slice ae es.length ce, .slice (some ⟨ga, oa, none⟩) ps.length kp, .slice (some ⟨gs, os, none⟩) ss.length kS]]) ?_; refine yps 0 rfl zmv ?_; refine yps 1 rfl zmv ?_; refine yps 2 rfl (r_val (v' := .pointer (some ⟨g13, o13 + uMod (ps.getD i 0) (i + 1) * 39, none⟩)) zia (by rw [Int.toNat_natCast])) ?_; refine yps 3 rfl (r_ldRow (i := uMod (ps.getD i 0) (i + 1)) (g := g13) (o := o13) rfl Ty.row_51 Ty.sz_51 (by repeat (first | exact Pick.here | apply Pick.there)) hc39 hcp hpm2) ?_; refine yps 4 rfl zmv ?_; refine yps 5 rfl zmv ?_; refine yps 6 rfl (r_val (v' := .pointer (some ⟨g14, o14 + uMod (ps.getD i 0) (i + 1) * 16, none⟩)) zia (by rw [Int.toNat_natCast])) ?_; refine yps 7 rfl (r_ldRow (i := uMod (ps.getD i 0) (i + 1)) (g := g14) (o := o14) rfl Ty.row_27 Ty.sz_27 (by repeat (first | exact Pick.here | apply Pick.there)) hd16 hdp hpm2) ?_; refine yps 8 rfl zfa ?_; refine yps 9 rfl zl ?_; refine yps 10 rfl zmv ?_; refine yps 11 rfl (r_val (v' := .pointer (some ⟨gs, os + i * 1, none⟩)) zia (by simp)) ?_; refine yps 12 rfl (r_ld1o rfl Ty.row_3 hces hAs) ?_; refine yps 13 rfl zci ?_; refine yps 14 rfl (r_int (j := ((uMod (ss.getD i 0) 3 : Nat) : Int)) zrm hsm) ?_; refine yps 15 rfl (r_int (j := ((uMod (ss.getD i 0) 3 : Nat) : Int)) zci (wrap_i64 (by omega) (by omega))) ?_; refine yps 16 rfl (r_int (j := 1 + ((uMod (ss.getD i 0) 3 : Nat) : Int)) zad rfl) ?_; refine yps 17 rfl zmv ?_; refine yps 18 rfl (r_int (j := ((100 + i : Nat) : Int)) zad (by omega)) ?_; refine yo2s 19 20 rfl rfl ?_ ?_
           ·refine zc ?_ (c := fun w1 F1 F2 h1 h2 hd hst => next19_ok (b := p) (id := idOf p) (on := 1 + ((uMod (ss.getD i 0) 3 : Nat) : Int)) (k := 100 + i) h1 hrp (by omega) (by omega))
            rintro ⟨y24, y25⟩
            have ich := Len.of (chC_len p (idOf p) (1 + ((uMod (ss.getD i 0) 3 : Nat) : Int)) y25)
            have jch := One.of (chC_one p (idOf p) (1 + ((uMod (ss.getD i 0) 3 : Nat) : Int)) y25)
            refine yxs ?_; refine yos 20 rfl ?_; refine zal fun b18 => ?_; refine gl_eqc (cs' := blkC) (by repeat (first | exact Pick.here | apply Pick.there)) (by kernel_rfl) ?_; refine yxs ?_; refine yzs rfl ?_; refine zsA (chC_len _ _ _ _) (chC_one _ _ _ _) ?_; refine gl_nil (zjn ((b18, y25)) ?_)
            ·intro w' hw; have h3 := hw.conv (M := [rowR 68 1 (some ⟨y25, 0, none⟩) 1 1 [.slice (some ⟨y24, 0, none⟩) 1 1], rowR 5 1 (some ⟨y24, 0, none⟩) 1 1 [B8 (txN (100 + i))]]) (by repeat (first | exact Sel.nil | (apply Sel.cons; · (repeat (first | exact Pick.here | apply Pick.there))))) (fun _ _ => vl_chC (b := p) (id := idOf p) (on := 1 + ((uMod (ss.getD i 0) 3 : Nat) : Int)))
             rw [← hxe] at h3; exact h3.z
           ·refine zal fun b18 => ?_; refine gl_eqc (cs' := blkC) (by repeat (first | exact Pick.here | apply Pick.there)) (by kernel_rfl) ?_; refine yxs ?_; refine yos 19 rfl ?_; refine zc ?_ (c := fun w1 F1 F2 h1 h2 hd hst => next19_ok (b := p) (id := idOf p) (on := 1 + ((uMod (ss.getD i 0) 3 : Nat) : Int)) (k := 100 + i) h1 hrp (by omega) (by omega))
            rintro ⟨y24, y25⟩
            have ich := Len.of (chC_len p (idOf p) (1 + ((uMod (ss.getD i 0) 3 : Nat) : Int)) y25)
            have jch := One.of (chC_one p (idOf p) (1 + ((uMod (ss.getD i 0) 3 : Nat) : Int)) y25)
            refine yxs ?_; refine yzs rfl ?_; refine zsA (chC_len _ _ _ _) (chC_one _ _ _ _) ?_; refine gl_nil (zjn ((b18, y25)) ?_)
            ·intro w' hw; have h3 := hw.conv (M := [rowR 68 1 (some ⟨y25, 0, none⟩) 1 1 [.slice (some ⟨y24, 0, none⟩) 1 1], rowR 5 1 (some ⟨y24, 0, none⟩) 1 1 [B8 (txN (100 + i))]]) (by repeat (first | exact Sel.nil | (apply Sel.cons; · (repeat (first | exact Pick.here | apply Pick.there))))) (fun _ _ => vl_chC (b := p) (id := idOf p) (on := 1 + ((uMod (ss.getD i 0) 3 : Nat) : Int)))
             rw [← hxe] at h3; exact h3.z
          ·intro y u; obtain ⟨b18, y25⟩ := y; have ich := Len.of (chC_len p (idOf p) (1 + ((uMod (ss.getD i 0) 3 : Nat) : Int)) y25)
           have jch := One.of (chC_one p (idOf p) (1 + ((uMod (ss.getD i 0) 3 : Nat) : Int)) y25)
           refine gc_seq (gc_seq ?_); by_cases hS : idOf (trN (leB es es.length) ps ss i) ∈ (trD (leB es es.length) ps ss i)
           ·refine gc_region (gp zfa ?_); refine gp zl ?_; refine gp (zLa (cs := (chC p (idOf p) (1 + ((uMod (ss.getD i 0) 3 : Nat) : Int)) y25))) ?_; refine zc (fun _ => ?_) (c := fun w1 F1 F2 h1 h2 hd hst => tadd_eq (b := (trN (leB es es.length) ps ss i)) (id := idOf (trN (leB es es.length) ps ss i)) (hE.mv hst.still) (hK.mv hst.still) h1 hTI.ok (vl_rd h2 hd (by repeat (first | exact Pick.here | apply Pick.there))) (trN_sm i) (hTI.err (by omega) (by omega) (by omega)) rfl (hTI.twice hS))
            refine zxm ?_; refine gp zex ?_; refine gp zex ?_; refine zsN ?_; refine zxa ?_; refine zxs ?_; refine zxm ?_; refine gp (r_bool (c := true) (r_nenil rfl (by kernel_rfl)) rfl) ?_; refine gnt (gc_condT rfl rfl ?_); refine gsr (gp zL ?_); refine zsN ?_; refine zxa ?_; refine gnt (gc_ret (gx_then_ret (gx_block_ret ?_))); refine gx_then_ret (gx_round_ret ?_); refine gx_block_ret ?_; refine gx_then_ret (gx_retct rfl rfl (by conv => lhs; whnf) (ldA Ty.row_35 Ty.sz_35) ?_); have hno : ¬ ShOk es ps ss := fun h => (trOk_succ.1 (show trOk (leB es es.length) ps ss (i + 1) from fun j hj => h.d j (by omega))).2 hS
            exact fun w' hw => ⟨(false, _, ⟨0, 0, 0, 0, none, 0, none, 0, [], [], []⟩), rfl, St.pureI (p := ¬ ShOk es ps ss ∧ _ ∧ _) ⟨hno, by simp [dc_length], all_cons' rfl (all_cons' rfl (all_cons' rfl (all_cons' rfl (all_cons' rfl (dc_one _)))))⟩ (hw.sel Sel.nil)⟩
           ·have hstep := hTI.step (by omega) (by omega) (by omega) hS
            refine gc_region (gp zfa ?_); refine gp zl ?_; refine gp (zLa (cs := (chC p (idOf p) (1 + ((uMod (ss.getD i 0) 3 : Nat) : Int)) y25))) ?_; refine zc (fun _ => ?_) (c := fun w1 F1 F2 h1 h2 hd hst => tadd_eq (b := (trN (leB es es.length) ps ss i)) (id := idOf (trN (leB es es.length) ps ss i)) (hE.mv hst.still) (hK.mv hst.still) h1 hTI.ok (vl_rd h2 hd (by repeat (first | exact Pick.here | apply Pick.there))) (trN_sm i) (hTI.err (by omega) (by omega) (by omega)) rfl hstep.1)
            refine zxm ?_; refine gp zex ?_; refine gp zex ?_; refine zsN ?_; refine zxa ?_; refine zxs ?_; refine zxm ?_; refine gp (r_bool (c := false) (r_nenil rfl (by kernel_rfl)) rfl) ?_; refine gnt (gc_condF rfl rfl ?_); refine gc_skip (gx_then (gsr (gp zfa ?_))); refine gp zl ?_; refine gp (zLa (cs := (chC p (idOf p) (1 + ((uMod (ss.getD i 0) 3 : Nat) : Int)) y25))) ?_; refine zc (fun _ => ?_) (c := fun w1 F1 F2 h1 h2 hd hst => radd_ok h1 hTI.ok (vl_rd h2 hd (by repeat (first | exact Pick.here | apply Pick.there))) (trN_okb hTI (by omega) (by omega) (by omega)) (trN_sm i) (hTI.err (by omega) (by omega) (by omega)) (ask_of hstep.1))
            rw [trT_succ]; refine gnt ?_
            have hend : ∀ (a207 : Option Addr) (c207 : Nat) (a211 : Option Addr) (c211 : Nat) (a216 : Option Addr) (c216 : Nat) (w' : World), St w F [rowR 51 39 a207 (i + 1 + 1) c207 ((cs :: css2).flatten ++ (chC p (idOf p) (1 + ((uMod (ss.getD i 0) 3 : Nat) : Int)) y25)), rowR 27 16 a211 (i + 1 + 1) c211 (((trD (leB es es.length) ps ss i).map dc).flatten ++ dc (idOf (trN (leB es es.length) ps ss i))), rowR 27 16 a216 (es.length + 1 + i + 1) c216 (((idsB es ps ss i).map dc).flatten ++ dc (idOf (trN (leB es es.length) ps ss i))), ElR RdBlock css2 (trL (leB es es.length) ps ss i), VlR RdBlock (chC p (idOf p) (1 + ((uMod (ss.getD i 0) 3 : Nat) : Int)) y25) (trN (leB es es.length) ps ss i), LdR q g 200 0 (leRs es es.length), blk b8 27 (dc (idOf (trN (leB es es.length) ps ss i))), blk b4 35 (.pointer (some ⟨q, 0, none⟩) :: .slice la es.length lc :: .pointer (some ⟨tq, 0, none⟩) :: .pointer (some ⟨mq, 0, none⟩) :: .slice a216 (es.length + 1 + i + 1) c216 :: dc gid), rowR 51 39 la es.length lc css.flatten, ElR RdBlock css (leL es es.length), TreeR tq (trT (leB es es.length) ps ss (i + 1)), ModR mq (trT (leB es es.length) ps ss (i + 1)) (cs :: css2 ++ [(chC p (idOf p) (1 + ((uMod (ss.getD i 0) 3 : Nat) : Int)) y25)]), blk b1 25 [.slice ae es.length ce, .slice (some ⟨ga, oa, none⟩) ps.length kp, .slice (some ⟨gs, os, none⟩) ss.length kS], blk b2 35 (.pointer none :: .slice none 0 0 :: .pointer none :: .pointer none :: .slice none 0 0 :: dc dig0)] w' → St w F [pureR (List.length (chC p (idOf p) (1 + ((uMod (ss.getD i 0) 3 : Nat) : Int)) y25) = 39 ∧ idOf (trN (leB es es.length) ps ss i) ∉ (trD (leB es es.length) ps ss i)), rowR 51 39 a207 ((i + 1) + 1) c207 (cs :: (css2 ++ [(chC p (idOf p) (1 + ((uMod (ss.getD i 0) 3 : Nat) : Int)) y25)])).flatten, rowR 27 16 a211 ((i + 1) + 1) c211 ((trD (leB es es.length) ps ss (i + 1)).map dc).flatten, LdR q g 200 0 (leRs es es.length), blk b8 27 (dc (idOf (trN (leB es es.length) ps ss i))), blk b4 35 (.pointer (some ⟨q, 0, none⟩) :: .slice la es.length lc :: .pointer (some ⟨tq, 0, none⟩) :: .pointer (some ⟨mq, 0, none⟩) :: .slice a216 (es.length + 1 + (i + 1)) c216 :: dc gid), rowR 51 39 la es.length lc css.flatten, ElR RdBlock css (leL es es.length), TreeR tq (trT (leB es es.length) ps ss (i + 1)), ModR mq (trT (leB es es.length) ps ss (i + 1)) (cs :: (css2 ++ [(chC p (idOf p) (1 + ((uMod (ss.getD i 0) 3 : Nat) : Int)) y25)])), ElR RdBlock (css2 ++ [(chC p (idOf p) (1 + ((uMod (ss.getD i 0) 3 : Nat) : Int)) y25)]) (trL (leB es es.length) ps ss (i + 1)), rowR 27 16 a216 (es.length + 1 + (i + 1)) c216 ((idsB es ps ss (i + 1)).map dc).flatten, blk b1 25 [.slice ae es.length ce, .slice (some ⟨ga, oa, none⟩) ps.length kp, .slice (some ⟨gs, os, none⟩) ss.length kS], blk b2 35 (.pointer none :: .slice none 0 0 :: .pointer none :: .pointer none :: .slice none 0 0 :: dc dig0)] w' := fun a207 c207 a211 c211 a216 c216 w' hw => by
             have h3 := hw.conv (M := [ElR RdBlock css2 (trL (leB es es.length) ps ss i), VlR RdBlock (chC p (idOf p) (1 + ((uMod (ss.getD i 0) 3 : Nat) : Int)) y25) (trN (leB es es.length) ps ss i)]) (by repeat (first | exact Sel.nil | (apply Sel.cons; · (repeat (first | exact Pick.here | apply Pick.there))))) (fun _ _ => el_snoc)
             have e1 : (cs :: (css2 ++ [(chC p (idOf p) (1 + ((uMod (ss.getD i 0) 3 : Nat) : Int)) y25)])).flatten = (cs :: css2).flatten ++ (chC p (idOf p) (1 + ((uMod (ss.getD i 0) 3 : Nat) : Int)) y25) := by simp
             have e2 : ((trD (leB es es.length) ps ss (i + 1)).map dc).flatten = ((trD (leB es es.length) ps ss i).map dc).flatten ++ dc (idOf (trN (leB es es.length) ps ss i)) := by rw [trD_succ]; simp
             have e3 : ((idsB es ps ss (i + 1)).map dc).flatten = ((idsB es ps ss i).map dc).flatten ++ dc (idOf (trN (leB es es.length) ps ss i)) := by rw [idsB_succ]; simp
             refine St.pureI (p := _ ∧ _) ⟨chC_len _ _ _ _, hS⟩ ?_; rw [e1, e2, e3, trL_succ]; exact h3.z
            refine gc_regionZ 16 ([blk b18 51 (chC p (idOf p) (1 + ((uMod (ss.getD i 0) 3 : Nat) : Int)) y25), blk b8 27 (dc (idOf (trN (leB es es.length) ps ss i))), blk b4 35 (.pointer (some ⟨q, 0, none⟩) :: .slice la es.length lc :: .pointer (some ⟨tq, 0, none⟩) :: .pointer (some ⟨mq, 0, none⟩) :: .slice ia2 (es.length + 1 + i) ic2 :: dc gid)]) ?_; refine yps 0 rfl zmv ?_; refine yps 1 rfl (zLa (cs := (chC p (idOf p) (1 + ((uMod (ss.getD i 0) 3 : Nat) : Int)) y25))) ?_; refine yps 4 rfl zmv ?_; refine yps 5 rfl zL ?_; refine yps 8 rfl zfa ?_; refine yps 9 rfl zl ?_; refine yps 10 rfl zL ?_; refine yo3s 2 6 11 rfl rfl rfl ?_ ?_ ?_
            ·refine zeN fun b206 => ?_; refine yxs ?_; refine yo3s 3 6 11 rfl rfl rfl ?_ ?_ ?_
             ·refine zapo (fun a207 c207 => ?_)
              refine yxs ?_; refine yo2s 6 11 rfl rfl ?_ ?_
              ·refine zeN fun b210 => ?_; refine yxs ?_; refine yo2s 7 11 rfl rfl ?_ ?_
               ·refine zapo (fun a211 c211 => ?_)
                refine yxs ?_; refine yos 11 rfl ?_; refine zeN fun b215 => ?_; refine yxs ?_; refine yos 12 rfl ?_; refine zapo (fun a216 c216 => ?_)
                refine yxs ?_; refine yps 13 rfl zas ?_; refine yps 14 rfl zas ?_; refine yps 15 rfl zfa ?_; refine yzs rfl ?_; refine zs1 ?_; refine gl_nil (gx_block_normal (zjn (((a207, c207), (a211, c211), (a216, c216), (chC p (idOf p) (1 + ((uMod (ss.getD i 0) 3 : Nat) : Int)) y25))) ?_))
                ·exact fun w' hw => hend a207 c207 a211 c211 a216 c216 w' (hw.z)
               ·refine zeN fun b215 => ?_; refine yxs ?_; refine yos 7 rfl ?_; refine zapo (fun a211 c211 => ?_)
                refine yxs ?_; refine yos 12 rfl ?_; refine zapo (fun a216 c216 => ?_)
                refine yxs ?_; refine yps 13 rfl zas ?_; refine yps 14 rfl zas ?_; refine yps 15 rfl zfa ?_; refine yzs rfl ?_; refine zs1 ?_; refine gl_nil (gx_block_normal (zjn (((a207, c207), (a211, c211), (a216, c216), (chC p (idOf p) (1 + ((uMod (ss.getD i 0) 3 : Nat) : Int)) y25))) ?_))
                ·exact fun w' hw => hend a207 c207 a211 c211 a216 c216 w' (hw.z)
              ·refine zeN fun b215 => ?_; refine yxs ?_; refine yos 6 rfl ?_; refine zeN fun b210 => ?_; refine yxs ?_; refine yos 7 rfl ?_; refine zapo (fun a211 c211 => ?_)
               refine yxs ?_; refine yos 12 rfl ?_; refine zapo (fun a216 c216 => ?_)
               refine yxs ?_; refine yps 13 rfl zas ?_; refine yps 14 rfl zas ?_; refine yps 15 rfl zfa ?_; refine yzs rfl ?_; refine zs1 ?_; refine gl_nil (gx_block_normal (zjn (((a207, c207), (a211, c211), (a216, c216), (chC p (idOf p) (1 + ((uMod (ss.getD i 0) 3 : Nat) : Int)) y25))) ?_))
               ·exact fun w' hw => hend a207 c207 a211 c211 a216 c216 w' (hw.z)
             ·refine zeN fun b210 => ?_; refine yxs ?_; refine yo2s 3 11 rfl rfl ?_ ?_
              ·refine zapo (fun a207 c207 => ?_)
               refine yxs ?_; refine yo2s 7 11 rfl rfl ?_ ?_
               ·refine zapo (fun a211 c211 => ?_)
                refine yxs ?_; refine yos 11 rfl ?_; refine zeN fun b215 => ?_; refine yxs ?_; refine yos 12 rfl ?_; refine zapo (fun a216 c216 => ?_)
                refine yxs ?_; refine yps 13 rfl zas ?_; refine yps 14 rfl zas ?_; refine yps 15 rfl zfa ?_; refine yzs rfl ?_; refine zs1 ?_; refine gl_nil (gx_block_normal (zjn (((a207, c207), (a211, c211), (a216, c216), (chC p (idOf p) (1 + ((uMod (ss.getD i 0) 3 : Nat) : Int)) y25))) ?_))
                ·exact fun w' hw => hend a207 c207 a211 c211 a216 c216 w' (hw.z)
               ·refine zeN fun b215 => ?_; refine yxs ?_; refine yos 7 rfl ?_; refine zapo (fun a211 c211 => ?_)
                refine yxs ?_; refine yos 12 rfl ?_; refine zapo (fun a216 c216 => ?_)
                refine yxs ?_; refine yps 13 rfl zas ?_; refine yps 14 rfl zas ?_; refine yps 15 rfl zfa ?_; refine yzs rfl ?_; refine zs1 ?_; refine gl_nil (gx_block_normal (zjn (((a207, c207), (a211, c211), (a216, c216), (chC p (idOf p) (1 + ((uMod (ss.getD i 0) 3 : Nat) : Int)) y25))) ?_))
                ·exact fun w' hw => hend a207 c207 a211 c211 a216 c216 w' (hw.z)
              ·refine zeN fun b215 => ?_; refine yxs ?_; refine yos 3 rfl ?_; refine zapo (fun a207 c207 => ?_)
               refine yxs ?_; refine yos 7 rfl ?_; refine zapo (fun a211 c211 => ?_)
               refine yxs ?_; refine yos 12 rfl ?_; refine zapo (fun a216 c216 => ?_)
               refine yxs ?_; refine yps 13 rfl zas ?_; refine yps 14 rfl zas ?_; refine yps 15 rfl zfa ?_; refine yzs rfl ?_; refine zs1 ?_; refine gl_nil (gx_block_normal (zjn (((a207, c207), (a211, c211), (a216, c216), (chC p (idOf p) (1 + ((uMod (ss.getD i 0) 3 : Nat) : Int)) y25))) ?_))
               ·exact fun w' hw => hend a207 c207 a211 c211 a216 c216 w' (hw.z)
             ·refine zeN fun b215 => ?_; refine yxs ?_; refine yo2s 3 6 rfl rfl ?_ ?_
              ·refine zapo (fun a207 c207 => ?_)
               refine yxs ?_; refine yos 6 rfl ?_; refine zeN fun b210 => ?_; refine yxs ?_; refine yos 7 rfl ?_; refine zapo (fun a211 c211 => ?_)
               refine yxs ?_; refine yos 12 rfl ?_; refine zapo (fun a216 c216 => ?_)
               refine yxs ?_; refine yps 13 rfl zas ?_; refine yps 14 rfl zas ?_; refine yps 15 rfl zfa ?_; refine yzs rfl ?_; refine zs1 ?_; refine gl_nil (gx_block_normal (zjn (((a207, c207), (a211, c211), (a216, c216), (chC p (idOf p) (1 + ((uMod (ss.getD i 0) 3 : Nat) : Int)) y25))) ?_))
               ·exact fun w' hw => hend a207 c207 a211 c211 a216 c216 w' (hw.z)
              ·refine zeN fun b210 => ?_; refine yxs ?_; refine yos 3 rfl ?_; refine zapo (fun a207 c207 => ?_)
               refine yxs ?_; refine yos 7 rfl ?_; refine zapo (fun a211 c211 => ?_)
               refine yxs ?_; refine yos 12 rfl ?_; refine zapo (fun a216 c216 => ?_)
               refine yxs ?_; refine yps 13 rfl zas ?_; refine yps 14 rfl zas ?_; refine yps 15 rfl zfa ?_; refine yzs rfl ?_; refine zs1 ?_; refine gl_nil (gx_block_normal (zjn (((a207, c207), (a211, c211), (a216, c216), (chC p (idOf p) (1 + ((uMod (ss.getD i 0) 3 : Nat) : Int)) y25))) ?_))
               ·exact fun w' hw => hend a207 c207 a211 c211 a216 c216 w' (hw.z)
            ·refine zeN fun b210 => ?_; refine yxs ?_; refine yo2s 2 11 rfl rfl ?_ ?_
             ·refine zeN fun b206 => ?_; refine yxs ?_; refine yo2s 3 11 rfl rfl ?_ ?_
              ·refine zapo (fun a207 c207 => ?_)
               refine yxs ?_; refine yo2s 7 11 rfl rfl ?_ ?_
               ·refine zapo (fun a211 c211 => ?_)
                refine yxs ?_; refine yos 11 rfl ?_; refine zeN fun b215 => ?_; refine yxs ?_; refine yos 12 rfl ?_; refine zapo (fun a216 c216 => ?_)
                refine yxs ?_; refine yps 13 rfl zas ?_; refine yps 14 rfl zas ?_; refine yps 15 rfl zfa ?_; refine yzs rfl ?_; refine zs1 ?_; refine gl_nil (gx_block_normal (zjn (((a207, c207), (a211, c211), (a216, c216), (chC p (idOf p) (1 + ((uMod (ss.getD i 0) 3 : Nat) : Int)) y25))) ?_))
                ·exact fun w' hw => hend a207 c207 a211 c211 a216 c216 w' (hw.z)
               ·refine zeN fun b215 => ?_; refine yxs ?_; refine yos 7 rfl ?_; refine zapo (fun a211 c211 => ?_)
                refine yxs ?_; refine yos 12 rfl ?_; refine zapo (fun a216 c216 => ?_)
                refine yxs ?_; refine yps 13 rfl zas ?_; refine yps 14 rfl zas ?_; refine yps 15 rfl zfa ?_; refine yzs rfl ?_; refine zs1 ?_; refine gl_nil (gx_block_normal (zjn (((a207, c207), (a211, c211), (a216, c216), (chC p (idOf p) (1 + ((uMod (ss.getD i 0) 3 : Nat) : Int)) y25))) ?_))
                ·exact fun w' hw => hend a207 c207 a211 c211 a216 c216 w' (hw.z)
              ·refine zeN fun b215 => ?_; refine yxs ?_; refine yos 3 rfl ?_; refine zapo (fun a207 c207 => ?_)
               refine yxs ?_; refine yos 7 rfl ?_; refine zapo (fun a211 c211 => ?_)
               refine yxs ?_; refine yos 12 rfl ?_; refine zapo (fun a216 c216 => ?_)
               refine yxs ?_; refine yps 13 rfl zas ?_; refine yps 14 rfl zas ?_; refine yps 15 rfl zfa ?_; refine yzs rfl ?_; refine zs1 ?_; refine gl_nil (gx_block_normal (zjn (((a207, c207), (a211, c211), (a216, c216), (chC p (idOf p) (1 + ((uMod (ss.getD i 0) 3 : Nat) : Int)) y25))) ?_))
               ·exact fun w' hw => hend a207 c207 a211 c211 a216 c216 w' (hw.z)
             ·refine zeN fun b215 => ?_; refine yxs ?_; refine yos 2 rfl ?_; refine zeN fun b206 => ?_; refine yxs ?_; refine yos 3 rfl ?_; refine zapo (fun a207 c207 => ?_)
              refine yxs ?_; refine yos 7 rfl ?_; refine zapo (fun a211 c211 => ?_)
              refine yxs ?_; refine yos 12 rfl ?_; refine zapo (fun a216 c216 => ?_)
              refine yxs ?_; refine yps 13 rfl zas ?_; refine yps 14 rfl zas ?_; refine yps 15 rfl zfa ?_; refine yzs rfl ?_; refine zs1 ?_; refine gl_nil (gx_block_normal (zjn (((a207, c207), (a211, c211), (a216, c216), (chC p (idOf p) (1 + ((uMod (ss.getD i 0) 3 : Nat) : Int)) y25))) ?_))
              ·exact fun w' hw => hend a207 c207 a211 c211 a216 c216 w' (hw.z)
            ·refine zeN fun b215 => ?_; refine yxs ?_; refine yo2s 2 6 rfl rfl ?_ ?_
             ·refine zeN fun b206 => ?_; refine yxs ?_; refine yo2s 3 6 rfl rfl ?_ ?_
              ·refine zapo (fun a207 c207 => ?_)
               refine yxs ?_; refine yos 6 rfl ?_; refine zeN fun b210 => ?_; refine yxs ?_; refine yos 7 rfl ?_; refine zapo (fun a211 c211 => ?_)
               refine yxs ?_; refine yos 12 rfl ?_; refine zapo (fun a216 c216 => ?_)
               refine yxs ?_; refine yps 13 rfl zas ?_; refine yps 14 rfl zas ?_; refine yps 15 rfl zfa ?_; refine yzs rfl ?_; refine zs1 ?_; refine gl_nil (gx_block_normal (zjn (((a207, c207), (a211, c211), (a216, c216), (chC p (idOf p) (1 + ((uMod (ss.getD i 0) 3 : Nat) : Int)) y25))) ?_))
               ·exact fun w' hw => hend a207 c207 a211 c211 a216 c216 w' (hw.z)
              ·refine zeN fun b210 => ?_; refine yxs ?_; refine yos 3 rfl ?_; refine zapo (fun a207 c207 => ?_)
               refine yxs ?_; refine yos 7 rfl ?_; refine zapo (fun a211 c211 => ?_)
               refine yxs ?_; refine yos 12 rfl ?_; refine zapo (fun a216 c216 => ?_)
               refine yxs ?_; refine yps 13 rfl zas ?_; refine yps 14 rfl zas ?_; refine yps 15 rfl zfa ?_; refine yzs rfl ?_; refine zs1 ?_; refine gl_nil (gx_block_normal (zjn (((a207, c207), (a211, c211), (a216, c216), (chC p (idOf p) (1 + ((uMod (ss.getD i 0) 3 : Nat) : Int)) y25))) ?_))
               ·exact fun w' hw => hend a207 c207 a211 c211 a216 c216 w' (hw.z)
             ·refine zeN fun b210 => ?_; refine yxs ?_; refine yos 2 rfl ?_; refine zeN fun b206 => ?_; refine yxs ?_; refine yos 3 rfl ?_; refine zapo (fun a207 c207 => ?_)
              refine yxs ?_; refine yos 7 rfl ?_; refine zapo (fun a211 c211 => ?_)
              refine yxs ?_; refine yos 12 rfl ?_; refine zapo (fun a216 c216 => ?_)
              refine yxs ?_; refine yps 13 rfl zas ?_; refine yps 14 rfl zas ?_; refine yps 15 rfl zfa ?_; refine yzs rfl ?_; refine zs1 ?_; refine gl_nil (gx_block_normal (zjn (((a207, c207), (a211, c211), (a216, c216), (chC p (idOf p) (1 + ((uMod (ss.getD i 0) 3 : Nat) : Int)) y25))) ?_))
              ·exact fun w' hw => hend a207 c207 a211 c211 a216 c216 w' (hw.z)
         ·intro y u; obtain ⟨⟨a13', c13'⟩, ⟨a14', c14'⟩, ⟨ia', ic'⟩, cx⟩ := y; refine gc_pureR (fun hy => ?_)
          obtain ⟨hcx, hS⟩ := hy; replace hcx : cx.length = 39 := hcx
          refine gc_region (gp zad ?_); refine zxm ?_; refine gl_nil (zrd ((i + 1, (a13', c13'), (a14', c14'), (ia', ic'), css2 ++ [cx], idOf (trN (leB es es.length) ps ss i))) ?_ ?_)
          ·show ps.length - (i + 1) < ps.length - i
           omega
          ·exact fun w' hw => St.pureI (p := i + 1 ≤ ps.length ∧ (∀ c ∈ css2 ++ [cx], List.length c = 39) ∧ trOk (leB es es.length) ps ss (i + 1)) ⟨by omega, fun x hx => (by rcases List.mem_append.1 hx with h | h; exact hcs2 x h; (simp at h; subst h; exact hcx)), trOk_succ.2 ⟨hok, hS⟩⟩ (hw.z)
        ·try simp only at hc159
         have hke : i = ps.length := by omega
         subst hke; refine gc_exit ?_; refine gx_then_exit ?_; refine gx_round_exit ?_; refine gx_block_hit ?_; refine gx_then (gsr (gp zL ?_)); refine zsN ?_; refine zxa ?_; refine gnt (gc_ret (gx_retct rfl rfl (by conv => lhs; whnf) (ldA Ty.row_35 Ty.sz_35) ?_)); have hno : ShOk es ps ss := ⟨by omega, by omega, by omega, hok⟩
         exact fun w' hw => ⟨(true, _, ⟨q, g, tq, mq, la, lc, ia2, ic2, css, css2, cs⟩), rfl, St.pureI (p := ShOk es ps ss ∧ _ ∧ _ ∧ _ ∧ _) ⟨hno, rfl, hcs, hcs2, wq, Aq, hrd⟩ (hw.z)⟩
end
section
def bestK (t : Tr) (k : Nat) : Dig × Int := (t.nodes.take k).foldl (fun s p => if s.2 < p.2.round then (p.1, p.2.round) else s) (t.root, -1)
theorem bestK_succ {t : Tr} {k : Nat} {p : Dig × Block} (h : t.nodes[k]? = some p) : bestK t (k + 1) = if (bestK t k).2 < p.2.round then (p.1, p.2.round) else bestK t k := by rw [bestK, takeB_snoc h, List.foldl_append]; rfl
theorem bestK_zero (t : Tr) : (t.root, (-1 : Int)) = bestK t 0 := rfl
def bestD (t : Tr) : Dig := (bestK t t.nodes.length).1
theorem bestD_def (t : Tr) : (bestK t t.nodes.length).1 = bestD t := rfl
def lineL (bs : List Block) (t : Tr) : List Block := bs ++ (pathL t (bestD t)).map (bOf t)
theorem lineL_def (bs : List Block) (t : Tr) : bs ++ (pathL t (bestD t)).map (bOf t) = lineL bs t := rfl
theorem node_lk {t : Tr} (hok : TOk t) {k : Nat} {p : Dig × Block} (h : t.nodes[k]? = some p) : lkN p.1 t.nodes = some p.2 := lkN_at hok.nd (i := k) (by rw [h])
theorem pathL_len (t : Tr) (d : Dig) : (pathL t d).length ≤ t.nodes.length := by
  unfold pathL
  rw [List.length_reverse]
  refine Nat.le_trans (List.length_filter_le _ _) ?_
  rw [List.length_map]; exact upL_len t d
theorem blkAt_take {rs : List LRec} {i : Nat} (h : i < rs.length) : (rs.map (fun r : LRec => r.b)).take (i + 1) = (rs.map (fun r : LRec => r.b)).take i ++ [blkAt rs i] := by
  have hr : rs[i]? = some (rs[i]) := List.getElem?_eq_getElem h
  rw [takeB_snoc (x := (rs[i]).b) (by rw [List.getElem?_map, hr]; rfl), blkAt_eq hr]
theorem key_at {t : Tr} {k : Nat} {p : Dig × Block} (h : t.nodes[k]? = some p) : ((keysT t).map dc)[k]? = some (dc p.1) := by rw [List.getElem?_map, keysT, List.getElem?_map, h]; rfl
def idxB (d : Dig) : Nat → List Block → Int
  | _, [] => -1
  | k, b :: l => if b.parent = d then (k : Int) else idxB d (k + 1) l
theorem idxB_at {d : Dig} : ∀ (l : List Block) (k j : Nat), (∀ i, i < j → ∀ b, l[i]? = some b → b.parent ≠ d) → j ≤ l.length → idxB d k l = idxB d (k + j) (l.drop j)
  | [], k, j, _, hj => by have : j = 0 := by simpa using hj
                          subst this; rfl
  | r :: l, k, 0, _, _ => rfl
  | r :: l, k, j + 1, h, hj => by
    have h0 := h 0 (by omega) r rfl
    have ih := idxB_at l (k + 1) j (fun i hi r' hr => h (i + 1) (by omega) r' (by simpa using hr)) (by simpa using hj)
    rw [idxB, if_neg h0, List.drop_succ_cons, ih, show k + 1 + j = k + (j + 1) by omega]
theorem idxB_hit {d : Dig} {l : List Block} {j : Nat} {r : Block} (h : ∀ i, i < j → ∀ r, l[i]? = some r → r.parent ≠ d) (hr : l[j]? = some r) (he : r.parent = d) : idxB d 0 l = (j : Int) := by
  have hlt := (List.getElem?_eq_some_iff.1 hr).1
  have hh := idxB_at l 0 j h (by omega)
  have : l.drop j = r :: l.drop (j + 1) := by rw [List.drop_eq_getElem_cons hlt, (List.getElem?_eq_some_iff.1 hr).2]
  rw [hh, Nat.zero_add, this, idxB, if_pos he]
theorem idxB_miss {d : Dig} {l : List Block} (h : ∀ i, i < l.length → ∀ r, l[i]? = some r → r.parent ≠ d) : idxB d 0 l = -1 := by
  rw [idxB_at l 0 l.length h (Nat.le_refl _), List.drop_length]; rfl
theorem idxB_cases (d : Dig) (l : List Block) : (idxB d 0 l = -1 ∧ ∀ b ∈ l, b.parent ≠ d) ∨ ∃ j r, idxB d 0 l = ((j : Nat) : Int) ∧ l[j]? = some r ∧ r.parent = d ∧ ∀ i, i < j → ∀ b, l[i]? = some b → b.parent ≠ d := by
  by_cases h : ∃ j : Nat, ∃ r, l[j]? = some r ∧ r.parent = d
  · right
    have hm : ∃ j : Nat, (∃ r, l[j]? = some r ∧ r.parent = d) ∧ ∀ i, i < j → ¬ ∃ r, l[i]? = some r ∧ r.parent = d := by
      obtain ⟨j, hj⟩ := h
      induction j using Nat.strongRecOn with
      | ind j ih =>
        by_cases hh : ∃ i, i < j ∧ ∃ r, l[i]? = some r ∧ r.parent = d
        · obtain ⟨i, hi, hr⟩ := hh; exact ih i hi hr
        · exact ⟨j, hj, fun i hi hr => hh ⟨i, hi, hr⟩⟩
    obtain ⟨j, ⟨r, hr, he⟩, hn⟩ := hm
    exact ⟨j, r, idxB_hit (fun i hi r' hr' e => hn i hi ⟨r', hr', e⟩) hr he, hr, he, fun i hi b hb e => hn i hi ⟨b, hb, e⟩⟩
  · left
    refine ⟨idxB_miss fun i _ r hr e => h ⟨i, r, hr, e⟩, fun b hb e => ?_⟩
    obtain ⟨i, hi, he⟩ := List.mem_iff_getElem.1 hb
    exact h ⟨i, b, by rw [List.getElem?_eq_getElem hi, he], e⟩
def stopB (n : Nat) (b : Block) : Prop := 0 < b.next.length ∨ n + 1 = 8
instance (n : Nat) (b : Block) : Decidable (stopB n b) := inferInstanceAs (Decidable (_ ∨ _))
def cutB : Nat → List Block → List Block
  | _, [] => []
  | n, b :: l => b :: (if stopB n b then [] else cutB (n + 1) l)
theorem cutB_run : ∀ (i n : Nat) (l : List Block), i ≤ l.length → (∀ j b, j < i → l[j]? = some b → ¬ stopB (n + j) b) → cutB n l = l.take i ++ cutB (n + i) (l.drop i)
  | 0, n, l, _, _ => by simp
  | i + 1, n, [], h, _ => by simp at h
  | i + 1, n, b :: l, h, hs => by
    have h0 : ¬ stopB n b := hs 0 b (by omega) rfl
    rw [cutB, if_neg h0, cutB_run i (n + 1) l (by simpa using h) (fun j c hj hc => by have := hs (j + 1) c (by omega) (by simpa using hc); rwa [show n + 1 + j = n + (j + 1) by omega])]
    simp [Nat.add_assoc, Nat.add_comm 1 i]
def behL (l : List Block) (d : Dig) : List Block := if idxB d 0 l < 0 then [] else cutB 0 (l.drop (idxB d 0 l).toNat)
theorem behL_none {l : List Block} {d : Dig} (h : idxB d 0 l = -1) : behL l d = [] := by unfold behL; rw [if_pos (by rw [h]; decide)]
theorem behL_some {l : List Block} {d : Dig} {j : Nat} (h : idxB d 0 l = (j : Int)) : behL l d = cutB 0 (l.drop j) := by unfold behL; rw [if_neg (by rw [h]; omega), h, Int.toNat_natCast]
theorem cut_end {l : List Block} {i : Nat} (hi : i = l.length) (hs : ∀ j b, j < i → l[j]? = some b → ¬ stopB j b) : cutB 0 l = l.take i := by
  rw [cutB_run i 0 l (by omega) (fun j b hj hb => by rw [Nat.zero_add]; exact hs j b hj hb), hi, List.drop_length]; simp [cutB]
theorem cut_stop {l : List Block} {i : Nat} {x : Block} (hx : l[i]? = some x) (hs : ∀ j b, j < i → l[j]? = some b → ¬ stopB j b) (h : stopB i x) : cutB 0 l = l.take (i + 1) := by
  have hlt := (List.getElem?_eq_some_iff.1 hx).1
  have hd : l.drop i = x :: l.drop (i + 1) := by rw [List.drop_eq_getElem_cons hlt, (List.getElem?_eq_some_iff.1 hx).2]
  rw [cutB_run i 0 l (by omega) (fun j b hj hb => by rw [Nat.zero_add]; exact hs j b hj hb), hd, takeB_snoc hx, cutB, Nat.zero_add, if_pos h]
theorem el_sub {css : List (List Value)} {l : List Block} (a n : Nat) {w : World} {F : Nat → Prop} (h : stars [ElR RdBlock css l] w F) : stars [ElR RdBlock ((css.drop a).take n) ((l.drop a).take n)] w F := by
  have h0 := h
  obtain ⟨⟨hl, h1⟩, _⟩ := stars_one' h
  refine rdR_mk ⟨by simp [hl], fun i c x hc hx => ?_⟩ h0
  rw [List.getElem?_take] at hc hx
  split at hc
  · rename_i hlt
    rw [if_pos hlt, List.getElem?_drop] at hx
    rw [List.getElem?_drop] at hc
    exact h1 (a + i) c x hc hx
  · cases hc
theorem nil_out {R : Res} {e : Nat} {bs : List Block} {w : World} {F : Nat → Prop} (h : stars [R] w F) : stars [R, rowR e 39 none 0 0 ([] : List (List Value)).flatten, ElR RdBlock [] (bs.take 0)] w F := by
  have h1 := el_nil (rd := RdBlock) h
  have h2 := stars_row_nil (e := e) (size := 39) h1
  exact Pick.stars (.there (.there .here)) h2
theorem el_nil1 {css : List (List Value)} {l : List Block} {w : World} {F : Nat → Prop} (h : stars [ElR RdBlock css l] w F) : stars [ElR RdBlock [] []] w F := by
  have := el_sub 0 0 h
  simpa using this
attribute [local irreducible] Gl Gc Gx Gs Runs Wt
attribute [local irreducible] rowR blk VlR ElR dc qcC blkC idOf ModR TreeR LedR LdR gid lineL bestK bestD pathL
set_option maxHeartbeats 4000000 in
theorem line_ok {w : World} {F : Nat → Prop} {q g : Nat} {l : LS} {tq : Nat} {t : Tr} (h : stars [LedR q g l] w F) (hx : RdTree w (fun k => ¬ F k) tq t) (hok : TOk t) (hrs : ∀ r ∈ l.rs, r.Ok) (hln : l.rs.length < 4294967296) {ea : Nat → Addr} {es : List Nat} [Has es 1] [Has es 2] [Has es 3] [Has es 4] (hE : GErr es w (fun k => ¬ F k) 251 ea)  :
    Calls Tryz.prog 11 #[.pointer (some ⟨q, 0, none⟩), .pointer (some ⟨tq, 0, none⟩)] w (Post w F (fun r : Option Addr × Nat × List (List Value) => .slice r.1 (lineL (l.rs.map (fun r : LRec => r.b)) t).length r.2.1) (fun r => [pureR (∀ c ∈ r.2.2, List.length c = 39), LedR q g l, rowR 51 39 r.1 (lineL (l.rs.map (fun r : LRec => r.b)) t).length r.2.1 r.2.2.flatten, ElR RdBlock r.2.2 (lineL (l.rs.map (fun r : LRec => r.b)) t)])) := by
 have hle := hok.le
 have hkl : (keysT t).length = t.nodes.length := by simp [keysT]
 have hd16 : ∀ (ds : List Dig), ∀ c ∈ ds.map dc, List.length c = 16 := fun ds c hc => by obtain ⟨x, _, rfl⟩ := List.mem_map.1 hc; exact dc_length x
 have hpl := pathL_len t (bestD t)
 refine g_enterM (env := [(0, .pointer (some ⟨q, 0, none⟩)), (1, .pointer (some ⟨tq, 0, none⟩))]) Tryz.func11 rfl h Tryz.ntmps11 rfl rfl ?_; refine gsr (zxa ?_); refine zxs ?_; refine zal fun b5 => ?_; refine gnt (gc_seq (gsr (zxm ?_))); refine zc (fun bx => ?_) (c := fun w1 F1 F2 h1 h2 hd hst => all_ok h1)
 refine gnt (gc_block (gc_cz (M := [blk b5 30 [.slice none 0 0]]) (N := [exR fun x : (Option Addr × Nat) × List (List Value) => allR [pureR (∀ c ∈ x.2, List.length c = 39), blk b5 30 [.slice x.1.1 0 x.1.2], rowR 51 39 x.1.1 0 x.1.2 x.2.flatten, ElR RdBlock x.2 ((l.rs.map (fun r : LRec => r.b)).take 0)]]) (fun w'' F'' h => stars_ex_mk ((none, 0), []) (stars_all_mk (stars_pure_mk (by simp) (nil_out h)))) ?_)); refine gc_range (own := [blk bx 29 [.pointer (some ⟨q, 0, none⟩)], LedR q g l]) (fun i => [exR fun x : (Option Addr × Nat) × List (List Value) => allR [pureR (∀ c ∈ x.2, List.length c = 39), blk b5 30 [.slice x.1.1 i x.1.2], rowR 51 39 x.1.1 i x.1.2 x.2.flatten, ElR RdBlock x.2 ((l.rs.map (fun r : LRec => r.b)).take i)]]) (fun _ _ => [pureR False]) (by exact rfl) Ty.call_62 (by repeat (first | exact Sel.nil | (apply Sel.cons; · (repeat (first | exact Pick.here | apply Pick.there))))) (by intros; rfl) (fun lp J Jx w1 F1 F2 h1 h2 hd hst => all1_it h1 (hE.mv hst.still) hrs hln) ?_ ?_ ?_
 ·intro lp rc rc' i y w1 F1 F2 h1 h2 hd hst; try dsimp only [List.cons_append, List.nil_append, zipE]
  refine gc_pure1 (p := i < l.rs.length ∧ y.length = 39 ∧ ∀ v ∈ y, v.oneCell' = true) (by repeat (first | exact Pick.here | apply Pick.there)) (fun hi => ?_)
  obtain ⟨hil, hl39, ho39⟩ := hi; have i39 := Len.of hl39
  have j39 := One.of ho39
  refine gc_cz (M := [exR fun x : (Option Addr × Nat) × List (List Value) => allR [pureR (∀ c ∈ x.2, List.length c = 39), blk b5 30 [.slice x.1.1 i x.1.2], rowR 51 39 x.1.1 i x.1.2 x.2.flatten, ElR RdBlock x.2 ((l.rs.map (fun r : LRec => r.b)).take i)]]) (N := [exR fun x : (Option Addr × Nat) × List (List Value) => allR [pureR (∀ c ∈ x.2, List.length c = 39), blk b5 30 [.slice x.1.1 i x.1.2], rowR 51 39 x.1.1 i x.1.2 x.2.flatten, ElR RdBlock x.2 ((l.rs.map (fun r : LRec => r.b)).take i)]]) (fun _ _ h => h) ?_; refine gc_exR (fun xx => ?_)
  obtain ⟨⟨a5, c5⟩, css⟩ := xx; refine gc_cz (M := [allR [pureR (∀ c ∈ css, List.length c = 39), blk b5 30 [.slice a5 i c5], rowR 51 39 a5 i c5 css.flatten, ElR RdBlock css ((l.rs.map (fun r : LRec => r.b)).take i)]]) (N := [pureR (∀ c ∈ css, List.length c = 39), blk b5 30 [.slice a5 i c5], rowR 51 39 a5 i c5 css.flatten, ElR RdBlock css ((l.rs.map (fun r : LRec => r.b)).take i)]) (fun _ _ h => stars_all h) ?_; refine gc_pureR (fun hcs => ?_)
  refine gc_region (zal fun b7 => ?_); refine gl_eqc (cs' := blkC) (by repeat (first | exact Pick.here | apply Pick.there)) (by kernel_rfl) ?_; refine zsA hl39 ho39 ?_; refine gl_nil (gx_lp (by repeat (first | exact Pick.here | apply Pick.there)) ?_); refine gx_begin ?_; refine gc_block (gc_region (gp zl ?_)); refine gp (zLa (cs := y)) ?_; refine zeN fun b26 => ?_; refine zapo (fun a27 c27 => ?_)
  refine zs1 ?_; refine gl_nil (gx_block_normal (gx_rdn ?_)); intro w' hw; have h3 := hw.conv (M := [ElR RdBlock css ((l.rs.map (fun r : LRec => r.b)).take i), VlR RdBlock y (blkAt l.rs i)]) (by repeat (first | exact Sel.nil | (apply Sel.cons; · (repeat (first | exact Pick.here | apply Pick.there))))) (fun _ _ => el_snoc)
  rw [← blkAt_take hil] at h3; have h4 := h3.cz (M := [blk b5 30 [.slice a27 (i + 1) c27], rowR 51 39 a27 (i + 1) c27 (css.flatten ++ y), ElR RdBlock (css ++ [y]) ((l.rs.map (fun r : LRec => r.b)).take (i + 1))]) (N := [exR fun x : (Option Addr × Nat) × List (List Value) => allR [pureR (∀ c ∈ x.2, List.length c = 39), blk b5 30 [.slice x.1.1 (i + 1) x.1.2], rowR 51 39 x.1.1 (i + 1) x.1.2 x.2.flatten, ElR RdBlock x.2 ((l.rs.map (fun r : LRec => r.b)).take (i + 1))]]) (fun _ _ h => stars_ex_mk ((a27, c27), css ++ [y]) (stars_all_mk (stars_pure_mk (fun c hc => by rcases List.mem_append.1 hc with h' | h'; exact hcs c h'; (simp at h'; subst h'; exact hl39)) (by rw [show (css ++ [y]).flatten = css.flatten ++ y by simp]; exact h))))
  exact h4.z
 ·intro bU3 y m hy; try dsimp only [List.cons_append, List.nil_append]
  have hm : m = l.rs.length := by cases y <;> simp_all [allOr]
  subst hm; refine gx_block_normal (gx_thenM ?_); refine gc_seq (gc_cz (M := [exR fun x : (Option Addr × Nat) × List (List Value) => allR [pureR (∀ c ∈ x.2, List.length c = 39), blk b5 30 [.slice x.1.1 l.rs.length x.1.2], rowR 51 39 x.1.1 l.rs.length x.1.2 x.2.flatten, ElR RdBlock x.2 ((l.rs.map (fun r : LRec => r.b)).take l.rs.length)]]) (N := [exR fun x : (Option Addr × Nat) × List (List Value) => allR [pureR (∀ c ∈ x.2, List.length c = 39), blk b5 30 [.slice x.1.1 l.rs.length x.1.2], rowR 51 39 x.1.1 l.rs.length x.1.2 x.2.flatten, ElR RdBlock x.2 ((l.rs.map (fun r : LRec => r.b)).take l.rs.length)]]) (fun _ _ h => h) ?_); refine gc_exR (fun xx => ?_)
  obtain ⟨⟨a5, c5⟩, css⟩ := xx; refine gc_cz (M := [allR [pureR (∀ c ∈ css, List.length c = 39), blk b5 30 [.slice a5 l.rs.length c5], rowR 51 39 a5 l.rs.length c5 css.flatten, ElR RdBlock css ((l.rs.map (fun r : LRec => r.b)).take l.rs.length)]]) (N := [pureR (∀ c ∈ css, List.length c = 39), blk b5 30 [.slice a5 l.rs.length c5], rowR 51 39 a5 l.rs.length c5 css.flatten, ElR RdBlock css ((l.rs.map (fun r : LRec => r.b)).take l.rs.length)]) (fun _ _ h => stars_all h) ?_; refine gc_pureR (fun hcs => ?_)
  rw [show (l.rs.map (fun r : LRec => r.b)).take l.rs.length = (l.rs.map (fun r : LRec => r.b)) from List.take_of_length_le (by simp)]; refine gc_region (zxm ?_); refine zc (fun _ => ?_) (c := fun w1 F1 F2 h1 h2 hd hst => troot_ok (hx.mv hst.still) hok h1)
  refine zal fun b8 => ?_; refine zsN ?_; refine zxs ?_; refine zxa ?_; refine gnt (gc_seq (gsr (zxm ?_))); refine zc ?_ (c := fun w1 F1 F2 h1 h2 hd hst => tids_ok (hx.mv hst.still) hok h1)
  rintro ⟨a31, c31⟩
  refine gp zln ?_; refine zxm ?_; refine gnt (gc_block (gc_loop (α := Nat × (Dig × Int)) (fun y => [pureR (y.1 ≤ t.nodes.length ∧ y.2 = bestK t y.1), rowR 27 16 a31 t.nodes.length c31 ((keysT t).map dc).flatten, blk b8 27 (dc y.2.1), blk b5 30 [.slice a5 l.rs.length c5], rowR 51 39 a5 l.rs.length c5 css.flatten, ElR RdBlock css (l.rs.map (fun r : LRec => r.b)), LedR q g l, dfR bU3]) (fun y => [(33, .int .i64 (y.1 : Int)), (9, .int .i64 y.2.2)]) [11, 12, 13, 34, 35, 36, 37, 38, 39, 40, 41, 42, 43, 44, 45, 46, 47, 48, 49, 50] (fun y => t.nodes.length - y.1) (0, (t.root, -1)) ?_ ?_ ?_))
  ·refine env_start (by kernel_rfl)
  ·exact zlp (p := 0 ≤ t.nodes.length ∧ (t.root, -1) = bestK t 0) ⟨Nat.zero_le _, bestK_zero t⟩
  ·intro y u; obtain ⟨k, s⟩ := y; refine gc_pureR (fun hk => ?_)
   obtain ⟨hk, hs⟩ := hk; replace hk : k ≤ t.nodes.length := hk
   replace hs : s = bestK t k := hs
   refine gsr (gp zlt ?_); refine gnt (gc_seq (gif rfl (fun hc34 => ?_) (fun hc34 => ?_)))
   ·try simp only at hc34
    have hk' : k < t.nodes.length := by omega
    obtain ⟨p, hp⟩ : ∃ p, t.nodes[k]? = some p := ⟨t.nodes[k], List.getElem?_eq_getElem hk'⟩; have hlk := node_lk hok hp
    refine gc_fact (fun w' hw => St.rowAt (hw.sel (M := [rowR 27 16 a31 t.nodes.length c31 ((keysT t).map dc).flatten]) (by repeat (first | exact Sel.nil | (apply Sel.cons; · (repeat (first | exact Pick.here | apply Pick.there)))))) .here (by omega)) (fun hra => ?_)
    obtain ⟨_, g31, o31, ha31⟩ := hra; subst ha31; refine gc_skip (gx_then (gc_seq (gc_block (gsr (gp (r_val (v' := .pointer (some ⟨g31, o31 + k * 16, none⟩)) zia (by simp)) ?_))))); refine gp (r_ldRow (i := k) (g := g31) (o := o31) rfl Ty.row_27 Ty.sz_27 (by repeat (first | exact Pick.here | apply Pick.there)) (hd16 (keysT t)) (key_at hp) hk') ?_; refine zal fun b11 => ?_; refine zsN ?_; refine zxs ?_; refine zxm ?_; refine gp zL ?_; refine zc (fun x40 => ?_) (c := fun w1 F1 F2 h1 h2 hd hst => tget_ok (d := p.1) (hx.mv hst.still) hok h1)
    refine gl_pureR (fun hx40 => ?_)
    obtain ⟨hl40, ho40⟩ := hx40; replace hl40 : x40.length = 39 := hl40
    have i40 := Len.of hl40
    have j40 := One.of (show ∀ v ∈ x40, v.oneCell' = true from ho40)
    refine gl_fact (fun w' hw => St.vlOfB hw (by repeat (first | exact Pick.here | apply Pick.there))) (fun hv40 => ?_)
    obtain ⟨wv40, Av40, hr40⟩ := hv40; rw [hlk] at hr40 ⊢; refine zxm ?_; refine gp zex ?_; refine gp zex ?_; refine zal fun b12 => ?_; refine gl_eqc (cs' := blkC) (by repeat (first | exact Pick.here | apply Pick.there)) (by kernel_rfl) ?_; refine zsA hl40 ho40 ?_; refine zxa ?_; refine zxs ?_; refine gp zfa ?_; refine gp (zl (v := .int .i64 p.2.round) (hv := rd_round hr40)) ?_; refine zxm ?_; refine gp zgt ?_; refine gnt (gif rfl (fun hc46 => ?_) (fun hc46 => ?_))
    ·refine gc_regionZ 4 ([blk b11 27 (dc p.1), blk b12 51 x40]) ?_; refine yps 0 rfl zL ?_; refine yps 1 rfl zfa ?_; refine yps 2 rfl (zl (v := .int .i64 p.2.round) (hv := rd_round hr40)) ?_; refine yos 3 rfl ?_; refine zsN ?_; refine yxs ?_; refine yzs rfl ?_; refine zxa ?_; refine gl_nil (gx_block_normal (gx_then (gc_region (gp zad ?_)))); refine zxm ?_; refine gl_nil (zrd ((k + 1, (p.1, p.2.round))) ?_ ?_)
     ·show t.nodes.length - (k + 1) < t.nodes.length - k
      omega
     ·exact zlp (p := k + 1 ≤ t.nodes.length ∧ (p.1, p.2.round) = bestK t (k + 1)) ⟨by omega, by rw [bestK_succ hp, ← hs, if_pos hc46]⟩
    ·refine gc_skip (gx_block_normal (gx_then (gc_region (gp zad ?_)))); refine zxm ?_; refine gl_nil (zrd ((k + 1, s)) ?_ ?_)
     ·show t.nodes.length - (k + 1) < t.nodes.length - k
      omega
     ·exact zlp (p := k + 1 ≤ t.nodes.length ∧ s = bestK t (k + 1)) ⟨by omega, by rw [bestK_succ hp, ← hs, if_neg (by have h46 := hc46; simp only at h46; omega)]⟩
   ·try simp only at hc34
    obtain rfl : k = t.nodes.length := by omega
    have hsd : s.1 = bestD t := by rw [hs, bestD_def]
    refine gc_exit ?_; refine gx_then_exit ?_; refine gx_round_exit ?_; refine gx_block_hit ?_; refine gx_then (gc_seq ?_); rw [hsd]; refine gc_region (zxm ?_); refine gp zL ?_; refine zc ?_ (c := fun w1 F1 F2 h1 h2 hd hst => tpath_ok (d := bestD t) (hx.mv hst.still) hok h1)
    rintro ⟨a54, c54⟩
    refine zxm ?_; refine gp zex ?_; refine gp zex ?_; refine zxa ?_; refine zxa ?_; refine gnt (gc_seq (gsr (zxm ?_))); refine gp zln ?_; refine zxm ?_; refine gnt (gc_block (gc_loop (α := Nat × (Option Addr × Nat) × List (List Value)) (fun y => [pureR (y.1 ≤ (pathL t (bestD t)).length ∧ ∀ c ∈ y.2.2, List.length c = 39), rowR 27 16 a54 (pathL t (bestD t)).length c54 ((pathL t (bestD t)).map dc).flatten, blk b5 30 [.slice y.2.1.1 (l.rs.length + y.1) y.2.1.2], rowR 51 39 y.2.1.1 (l.rs.length + y.1) y.2.1.2 y.2.2.flatten, ElR RdBlock y.2.2 ((l.rs.map (fun r : LRec => r.b)) ++ ((pathL t (bestD t)).take y.1).map (bOf t)), LedR q g l, dfR bU3]) (fun y => [(59, .int .i64 (y.1 : Int))]) [17, 18, 19, 60, 61, 62, 63, 64, 65, 66, 67, 68, 69, 70, 71, 72, 73] (fun y => (pathL t (bestD t)).length - y.1) (0, (a5, c5), css) ?_ ?_ ?_))
    ·refine env_start (by kernel_rfl)
    ·intro w' hw; refine St.pureI (p := 0 ≤ (pathL t (bestD t)).length ∧ ∀ c ∈ css, List.length c = 39) ⟨Nat.zero_le _, hcs⟩ ?_; have e1 : (l.rs.map (fun r : LRec => r.b)) ++ ((pathL t (bestD t)).take 0).map (bOf t) = (l.rs.map (fun r : LRec => r.b)) := by simp
     show St w F [rowR 27 16 a54 (pathL t (bestD t)).length c54 ((pathL t (bestD t)).map dc).flatten, blk b5 30 [.slice a5 (l.rs.length + 0) c5], rowR 51 39 a5 (l.rs.length + 0) c5 css.flatten, ElR RdBlock css ((l.rs.map (fun r : LRec => r.b)) ++ ((pathL t (bestD t)).take 0).map (bOf t)), LedR q g l, dfR bU3] w'
     rw [e1]; exact hw.z
    ·intro y u; obtain ⟨j, ⟨a6, c6⟩, cs6⟩ := y; refine gc_pureR (fun hj => ?_)
     obtain ⟨hj, hcs6⟩ := hj; replace hj : j ≤ (pathL t (bestD t)).length := hj
     replace hcs6 : ∀ c ∈ cs6, List.length c = 39 := hcs6
     refine gsr (gp zlt ?_); refine gnt (gc_seq (gif rfl (fun hc60 => ?_) (fun hc60 => ?_)))
     ·try simp only at hc60
      have hj' : j < (pathL t (bestD t)).length := by omega
      obtain ⟨e, he⟩ : ∃ e, (pathL t (bestD t))[j]? = some e := ⟨(pathL t (bestD t))[j], List.getElem?_eq_getElem hj'⟩; refine gc_fact (fun w' hw => St.rowAt (hw.sel (M := [rowR 27 16 a54 (pathL t (bestD t)).length c54 ((pathL t (bestD t)).map dc).flatten]) (by repeat (first | exact Sel.nil | (apply Sel.cons; · (repeat (first | exact Pick.here | apply Pick.there)))))) .here (by omega)) (fun hra => ?_)
      obtain ⟨_, g54, o54, ha54⟩ := hra; subst ha54; refine gc_skip (gx_then (gc_seq (gc_block (gsr (gp (r_val (v' := .pointer (some ⟨g54, o54 + j * 16, none⟩)) zia (by simp)) ?_))))); refine gp (r_ldRow (i := j) (g := g54) (o := o54) rfl Ty.row_27 Ty.sz_27 (by repeat (first | exact Pick.here | apply Pick.there)) (hd16 _) (by rw [List.getElem?_map, he]; rfl) hj') ?_
      refine zal fun b17 => ?_; refine zsN ?_; refine zxs ?_; refine zxm ?_; refine gp zL ?_; refine zc (fun x66 => ?_) (c := fun w1 F1 F2 h1 h2 hd hst => tget_ok (d := e) (hx.mv hst.still) hok h1)
      refine gl_pureR (fun hx66 => ?_)
      obtain ⟨hl66, ho66⟩ := hx66; replace hl66 : x66.length = 39 := hl66
      have i66 := Len.of hl66
      have j66 := One.of (show ∀ v ∈ x66, v.oneCell' = true from ho66)
      refine gl_fact (fun w' hw => St.vlOfB hw (by repeat (first | exact Pick.here | apply Pick.there))) (fun hv66 => ?_)
      obtain ⟨wv66, Av66, hr66⟩ := hv66; refine zxm ?_; refine gp zex ?_; refine gp zex ?_; refine zal fun b18 => ?_; refine gl_eqc (cs' := blkC) (by repeat (first | exact Pick.here | apply Pick.there)) (by kernel_rfl) ?_; refine zsA hl66 ho66 ?_; refine zxa ?_; refine gnt (gc_region (gp zl ?_)); refine gp (zLa (cs := x66)) ?_; refine zeN fun b71 => ?_; refine zapo (fun a72 c72 => ?_)
      refine zs1 ?_; refine gl_nil (gx_block_normal (gx_then (gc_region (gp zad ?_)))); refine zxm ?_; refine gl_nil (zrd ((j + 1, (a72, c72), cs6 ++ [x66])) ?_ ?_)
      ·show (pathL t (bestD t)).length - (j + 1) < (pathL t (bestD t)).length - j
       omega
      ·intro w' hw; have h3 := hw.conv (M := [ElR RdBlock cs6 ((l.rs.map (fun r : LRec => r.b)) ++ ((pathL t (bestD t)).take j).map (bOf t)), VlR RdBlock x66 ((lkN e t.nodes).getD blk0)]) (by repeat (first | exact Sel.nil | (apply Sel.cons; · (repeat (first | exact Pick.here | apply Pick.there))))) (fun _ _ => el_snoc)
       have e1 : (l.rs.map (fun r : LRec => r.b)) ++ ((pathL t (bestD t)).take (j + 1)).map (bOf t) = (l.rs.map (fun r : LRec => r.b)) ++ ((pathL t (bestD t)).take j).map (bOf t) ++ [(lkN e t.nodes).getD blk0] := by rw [takeB_snoc he, List.map_append, List.append_assoc]; rfl
       rw [← e1] at h3; refine St.pureI (p := j + 1 ≤ (pathL t (bestD t)).length ∧ ∀ c ∈ cs6 ++ [x66], List.length c = 39) ⟨by omega, fun c hc => (by rcases List.mem_append.1 hc with h' | h'; exact hcs6 c h'; (simp at h'; subst h'; exact hl66))⟩ ?_; have e2 : (cs6 ++ [x66]).flatten = cs6.flatten ++ x66 := by simp
       show St w F [rowR 27 16 (some ⟨g54, o54, none⟩) (pathL t (bestD t)).length c54 ((pathL t (bestD t)).map dc).flatten, blk b5 30 [.slice a72 (l.rs.length + (j + 1)) c72], rowR 51 39 a72 (l.rs.length + (j + 1)) c72 (cs6 ++ [x66]).flatten, ElR RdBlock (cs6 ++ [x66]) ((l.rs.map (fun r : LRec => r.b)) ++ ((pathL t (bestD t)).take (j + 1)).map (bOf t)), LedR q g l, dfR bU3] w'
       rw [e2, ← Nat.add_assoc]; exact h3.z
     ·try simp only at hc60
      obtain rfl : j = (pathL t (bestD t)).length := by omega
      refine gc_exit ?_; refine gx_then_exit ?_; refine gx_round_exit ?_; refine gx_block_hit ?_; refine gx_then (gsr (gp zl ?_)); refine zxa ?_; refine gnt (gc_ret (gx_mark (by repeat (first | exact Pick.here | apply Pick.there)) ?_)); refine gx_mark0 ?_; refine gx_ret1 rfl (by conv => lhs; whnf) ?_; have hll : (lineL (l.rs.map (fun r : LRec => r.b)) t).length = l.rs.length + (pathL t (bestD t)).length := by simp [lineL]
      intro w' hw; have e1 : (l.rs.map (fun r : LRec => r.b)) ++ ((pathL t (bestD t)).take (pathL t (bestD t)).length).map (bOf t) = (lineL (l.rs.map (fun r : LRec => r.b)) t) := by rw [List.take_length, lineL_def]
      rw [e1] at hw; exact ⟨(a6, c6, cs6), by rw [hll], St.pureI (p := ∀ c ∈ cs6, List.length c = 39) hcs6 (by show St w F [LedR q g l, rowR 51 39 a6 (lineL (l.rs.map (fun r : LRec => r.b)) t).length c6 cs6.flatten, ElR RdBlock cs6 (lineL (l.rs.map (fun r : LRec => r.b)) t)] w'; rw [hll]; exact hw.z)⟩
 ·exact fun _ _ _ _ _ => gc_noway
end
section
attribute [local irreducible] Gl Gc Gx Gs Runs Wt
attribute [local irreducible] rowR blk VlR ElR dc qcC blkC idOf ModR TreeR LedR LdR gid lineL bestK bestD pathL behL
theorem behind1_ok {w : World} {F : Nat → Prop} {w' : World} {A : Nat → Prop} {cs : List Value} {b : Block} {bi : Nat} {d : Dig} (h : stars [blk bi 27 (dc d)] w F) (hb : RdBlock w' A cs b) :
    Calls Tryz.prog 40 #[.agg cs.toArray, .pointer (some ⟨bi, 0, none⟩)] w (Post w F (fun _ : Unit => .bool (decide (b.parent = d))) (fun _ => [blk bi 27 (dc d)])) := by
 obtain ⟨qj, a1, n1, c1, a2, n2, c2, rfl, hj, _⟩ := hb; have ij := Len.of hj.len
 have jj := One.of hj.one
 refine g_enter (env := [(0, _), (1, .pointer (some ⟨bi, 0, none⟩))]) Tryz.func40 rfl h Tryz.ntmps40 rfl rfl ?_; refine gsr (zbN fun b2 => ?_); refine zxa ?_; refine zxs ?_; refine gp zfa ?_; refine gp zL ?_; refine gp zL ?_; refine gp zed ?_; refine zxa ?_; refine gnt (gc_ret (gx_ret1 rfl (by conv => lhs; whnf) ?_)); exact ze ()
theorem indexB_ok {w : World} {F : Nat → Prop} {a : Option Addr} {n c bi : Nat} {d : Dig} {l : List Block} (h : stars [blk bi 27 (dc d)] w F) (hx : RdList (RdBlock w (fun k => ¬ F k)) w (fun k => ¬ F k) 39 a n l) :
    Calls Tryz.prog 39 #[.slice a n c, .func (.func 40) #[] #[.pointer (some ⟨bi, 0, none⟩)]] w (Post w F (fun _ : Unit => .int .i64 (idxB d 0 l)) (fun _ => [blk bi 27 (dc d)])) := by
 have hn := hx.len (by decide)
 have hmx := hx.max
 simp only [maxLen] at hmx
 refine g_enter (env := [(0, .slice a n c), (1, .func (.func 40) #[] #[.pointer (some ⟨bi, 0, none⟩)])]) Tryz.func39 rfl h Tryz.ntmps39 rfl rfl ?_; refine gsr (zxa ?_); refine gnt (gc_seq (gsr (zxm ?_))); refine gp zln ?_; refine zxm ?_; refine gnt (gc_block (gc_loop (α := Nat) (fun k => [pureR (k ≤ n ∧ ∀ i, i < k → ∀ r, l[i]? = some r → r.parent ≠ d), blk bi 27 (dc d)]) (fun k => [(8, .int .i64 (k : Int))]) [4, 5, 9, 10, 11, 12, 13, 14, 15, 16, 17, 18] (fun k => n - k) 0 ?_ ?_ ?_))
 ·refine env_start (by kernel_rfl)
 ·exact zlp ⟨Nat.zero_le _, fun i hi => absurd hi (Nat.not_lt_zero _)⟩
 ·intro k u; refine gc_pureR (fun hk => ?_)
  replace hk : k ≤ n ∧ ∀ i, i < k → ∀ r, l[i]? = some r → r.parent ≠ d := hk
  refine gsr (gp zlt ?_); refine gnt (gc_seq (gif rfl (fun hc9 => ?_) (fun hc9 => ?_)))
  ·try simp only at hc9
   have hk' : k < n := by omega
   obtain ⟨ga, oa, ce, r, ha, hA, _, hra, hl39, hr, hrd⟩ := hx.elem (i := k) (by decide) hk'; subst ha; have i39 := Len.of hl39
   have j39 := One.of hrd.one
   refine gc_skip (gx_then (gc_seq (gc_block (gsr (zxm ?_))))); refine zxa ?_; refine zxs ?_; refine zxm ?_; refine zxm ?_; refine zxm ?_; refine gp (r_val (v' := .pointer (some ⟨ga, oa + k * 39, none⟩)) zia (by simp)) ?_; refine gp (r_ldNo (seg := ce) rfl Ty.row_51 Ty.sz_51 hra hl39 (by decide) hA) ?_; refine gl_call (wt0 rfl) (e_callv (us := [.pointer (some ⟨bi, 0, none⟩)]) rfl Ty.call_40 rfl) (by repeat (first | exact Sel.nil | (apply Sel.cons; · (repeat (first | exact Pick.here | apply Pick.there))))) (fun w1 F1 F2 h1 h2 hd hst => behind1_ok (d := d) h1 hrd) ?_; intro _; refine gnt (gif rfl (fun hc16 => ?_) (fun hc16 => ?_))
   ·try simp only at hc16
    have hf := idxB_hit hk.2 hr (by simpa using hc16)
    refine gsr (zxm ?_); refine zxa ?_; refine gnt (gc_ret (gx_block_ret ?_)); refine gx_then_ret (gx_round_ret ?_); refine gx_block_ret ?_; refine gx_then_ret (gx_ret1 rfl (by conv => lhs; whnf) ?_); exact fun w' hw => ⟨(), by rw [hf], hw.z⟩
   ·refine gc_skip (gx_block_normal (gx_then (gc_region (gp zad ?_)))); refine zxm ?_; refine gl_nil (zrd (k + 1) ?_ ?_)
    ·show n - (k + 1) < n - k
     omega
    ·exact zlp (show k + 1 ≤ n ∧ ∀ i, i < k + 1 → ∀ r, l[i]? = some r → r.parent ≠ d from ⟨by omega, fun i hi r' hr' => (by by_cases h' : i < k; exact hk.2 i h' r' hr'; (obtain rfl : i = k := by omega); rw [hr] at hr'; cases hr'; simpa using hc16)⟩)
  ·try simp only at hc9
   have hk' : k = n := by omega
   have hf := idxB_miss (d := d) (l := l) (fun i hi => hk.2 i (by omega))
   refine gc_exit ?_; refine gx_then_exit ?_; refine gx_round_exit ?_; refine gx_block_hit ?_; refine gx_then (gsr (zxa ?_)); refine gnt (gc_ret (gx_ret1 rfl (by conv => lhs; whnf) ?_)); exact fun w' hw => ⟨(), by rw [hf], hw.z⟩
set_option maxHeartbeats 4000000 in
theorem behind_ok {w : World} {F : Nat → Prop} {q g : Nat} {l : LS} {tq : Nat} {t : Tr} (h : stars [LedR q g l] w F) (hx : RdTree w (fun k => ¬ F k) tq t) (hok : TOk t) (hrs : ∀ r ∈ l.rs, r.Ok) (hln : l.rs.length < 4294967296) {ea : Nat → Addr} {es : List Nat} [Has es 1] [Has es 2] [Has es 3] [Has es 4] (hE : GErr es w (fun k => ¬ F k) 251 ea) {d : Dig}  :
    Calls Tryz.prog 13 #[.pointer (some ⟨q, 0, none⟩), .pointer (some ⟨tq, 0, none⟩), .agg (dc d).toArray] w (Post w F (fun r : (Option Addr × Nat) × List (List Value) => .slice r.1.1 (behL (lineL (l.rs.map (fun r : LRec => r.b)) t) d).length r.1.2) (fun r => [pureR (∀ c ∈ r.2, List.length c = 39), LedR q g l, rowR 51 39 r.1.1 (behL (lineL (l.rs.map (fun r : LRec => r.b)) t) d).length r.1.2 r.2.flatten, ElR RdBlock r.2 (behL (lineL (l.rs.map (fun r : LRec => r.b)) t) d)])) := by
 have hle := hok.le
 have hpl := pathL_len t (bestD t)
 have hll : (lineL (l.rs.map (fun r : LRec => r.b)) t).length ≤ l.rs.length + t.nodes.length := by rw [← lineL_def]; simp only [List.length_append, List.length_map]; omega
 refine g_enter (env := [(0, .pointer (some ⟨q, 0, none⟩)), (1, .pointer (some ⟨tq, 0, none⟩)), (2, .agg (dc d).toArray)]) Tryz.func13 rfl h Tryz.ntmps13 rfl rfl ?_; refine gsr (zbN fun b5 => ?_); refine zxa ?_; refine zxs ?_; refine zxm ?_; refine zxm ?_; refine zc ?_ (c := fun w1 F1 F2 h1 h2 hd hst => line_ok h1 (hx.mv hst.still) hok hrs hln (hE.mv hst.still))
 rintro ⟨a14, c14, cx⟩
 refine gl_pureR (fun hcx => ?_)
 replace hcx : ∀ c ∈ cx, List.length c = 39 := hcx
 refine gl_fact (fun w' hw => (St.el (rd := RdBlock) (hw.sel (M := [ElR RdBlock cx (lineL (l.rs.map (fun r : LRec => r.b)) t)]) (by repeat (first | exact Sel.nil | (apply Sel.cons; · (repeat (first | exact Pick.here | apply Pick.there)))))) .here)) (fun hel => ?_)
 obtain ⟨hcl, hel⟩ := hel; refine zxa ?_; refine zxs ?_; refine zxm ?_; refine gp (r_makeF (us := [.pointer (some ⟨b5, 0, none⟩)]) rfl) ?_; refine zc (fun _ => ?_) (c := fun w1 F1 F2 h1 h2 hd hst => indexB_ok (d := d) (l := (lineL (l.rs.map (fun r : LRec => r.b)) t)) h1 ⟨cx, rd_row h2 hd (by repeat (first | exact Pick.here | apply Pick.there)), hcx, hcl, fun i c x hc hx => el_rd (rd := RdBlock) h2 hd (by repeat (first | exact Pick.here | apply Pick.there)) hc hx⟩)
 refine zxa ?_; refine gnt (gc_seq (gc_seq ?_)); by_cases hS : idxB d 0 (lineL (l.rs.map (fun r : LRec => r.b)) t) = -1
 ·refine gc_region (zxm ?_); refine gp (r_bool (c := true) zlt (decide_eq_true (by rw [hS]; decide))) ?_; refine gnt (gc_condT rfl rfl ?_); refine gsr (zxa ?_); refine gnt (gc_ret (gx_then_ret (gx_ret1 rfl (by conv => lhs; whnf) ?_))); intro w' hw; have hbn : (behL (lineL (l.rs.map (fun r : LRec => r.b)) t) d) = [] := behL_none hS
  have hw := hw.conv (M := [ElR RdBlock cx (lineL (l.rs.map (fun r : LRec => r.b)) t)]) (by repeat (first | exact Sel.nil | (apply Sel.cons; · (repeat (first | exact Pick.here | apply Pick.there))))) (fun _ _ => el_nil1)
  rw [hbn]; exact ⟨((none, 0), []), rfl, St.pureI (p := ∀ c ∈ ([] : List (List Value)), List.length c = 39) (by simp) ((hw.rowNil (e := 51) (size := 39)).z)⟩
 ·obtain ⟨j, r, hji, hjr, hjp, hjm⟩ := (idxB_cases d (lineL (l.rs.map (fun r : LRec => r.b)) t)).resolve_left (fun h => hS h.1); have hjl := (List.getElem?_eq_some_iff.1 hjr).1
  refine gc_region (zxm ?_); refine gp (r_bool (c := false) zlt (decide_eq_false (by rw [hji]; omega))) ?_; refine gnt (gc_condF rfl rfl ?_); refine gc_skip (gx_then (gsr (zxa ?_))); refine gnt (gc_seq (gc_seq (gc_fact (fun w' hw => St.rowAt (hw.sel (M := [rowR 51 39 a14 (lineL (l.rs.map (fun r : LRec => r.b)) t).length c14 cx.flatten]) (by repeat (first | exact Sel.nil | (apply Sel.cons; · (repeat (first | exact Pick.here | apply Pick.there)))))) .here (by omega)) (fun hra => ?_))))
  obtain ⟨hmc, gl, ol, ha14⟩ := hra; subst ha14; refine gc_region (zxm ?_); refine gp (r_int (j := ((j : Nat) : Int)) zmv hji) ?_; refine gp (r_val (v' := .slice (some ⟨gl, ol + j * 39, none⟩) ((lineL (l.rs.map (fun r : LRec => r.b)) t).length - j) (c14 - j)) (r_slice_slice (a := some ⟨gl, ol, none⟩) (m := (lineL (l.rs.map (fun r : LRec => r.b)) t).length) (c := c14) (l := j) (h := (lineL (l.rs.map (fun r : LRec => r.b)) t).length) rfl Ty.sl_30 Ty.sz_51 ⟨_, rfl⟩ rfl (by omega) (by omega)) (by rw [if_neg (by omega)]; simp [Addr.add_mid])) ?_; refine gp zln ?_; refine zxm ?_; refine gnt (gc_block (gc_loop (α := Nat × (Option Addr × Nat)) (fun y => [pureR (y.1 ≤ (lineL (l.rs.map (fun r : LRec => r.b)) t).length - j ∧ ∀ i b, i < y.1 → ((lineL (l.rs.map (fun r : LRec => r.b)) t).drop j)[i]? = some b → ¬ stopB i b), blk b5 27 (dc d), rowR 51 39 (some ⟨gl, ol, none⟩) (lineL (l.rs.map (fun r : LRec => r.b)) t).length c14 cx.flatten, ElR RdBlock cx (lineL (l.rs.map (fun r : LRec => r.b)) t), LedR q g l, rowR 51 39 y.2.1 y.1 y.2.2 (((cx.drop j).take y.1)).flatten]) (fun y => [(24, .int .i64 (y.1 : Int)), (9, .slice y.2.1 y.1 y.2.2)]) [11, 25, 26, 27, 28, 29, 30, 31, 32, 33, 34, 35, 36, 37, 38, 39, 40, 41] (fun y => (lineL (l.rs.map (fun r : LRec => r.b)) t).length - j - y.1) (0, (none, 0)) ?_ ?_ ?_))
  ·refine env_start (by kernel_rfl)
  ·intro w' hw; refine St.pureI (p := 0 ≤ (lineL (l.rs.map (fun r : LRec => r.b)) t).length - j ∧ ∀ i b, i < 0 → ((lineL (l.rs.map (fun r : LRec => r.b)) t).drop j)[i]? = some b → ¬ stopB i b) ⟨Nat.zero_le _, fun i b hi => absurd hi (Nat.not_lt_zero _)⟩ ?_; exact (hw.rowNil (e := 51) (size := 39)).z
  ·intro y u; obtain ⟨i, ⟨a9, c9⟩⟩ := y; refine gc_pureR (fun hi => ?_)
   obtain ⟨hi, hns⟩ := hi; replace hi : i ≤ (lineL (l.rs.map (fun r : LRec => r.b)) t).length - j := hi
   replace hns : ∀ i' b, i' < i → ((lineL (l.rs.map (fun r : LRec => r.b)) t).drop j)[i']? = some b → ¬ stopB i' b := hns
   refine gsr (gp zlt ?_); refine gnt (gc_seq (gif rfl (fun hc25 => ?_) (fun hc25 => ?_)))
   ·try simp only at hc25
    have hi' : i < (lineL (l.rs.map (fun r : LRec => r.b)) t).length - j := by omega
    have hil : j + i < (lineL (l.rs.map (fun r : LRec => r.b)) t).length := by omega
    obtain ⟨bx, hbx0⟩ : ∃ bx, (lineL (l.rs.map (fun r : LRec => r.b)) t)[j + i]? = some bx := ⟨(lineL (l.rs.map (fun r : LRec => r.b)) t)[j + i], List.getElem?_eq_getElem hil⟩; have hbx : ((lineL (l.rs.map (fun r : LRec => r.b)) t).drop j)[i]? = some bx := by rw [List.getElem?_drop]; exact hbx0
    obtain ⟨cp, hcp⟩ : ∃ cp, cx[j + i]? = some cp := ⟨cx[j + i]'(by omega), List.getElem?_eq_getElem _⟩; have hcp2 : (cx.drop j)[i]? = some cp := by rw [List.getElem?_drop]; exact hcp
    obtain ⟨wp, Ap, hrp⟩ := hel _ _ _ hcp hbx0; obtain ⟨qj, xa1, xn1, xc1, xa2, xn2, xc2, rfl, hqj, _, _, _, hxn⟩ := hrp; have hxl := hxn.len (by decide)
    have iqj := Len.of hqj.len
    have jqj := One.of hqj.one
    refine gc_skip (gx_then (gc_seq (gc_block (gsr (gp (r_val (v' := .pointer (some ⟨gl, ol + (j + i) * 39, none⟩)) zia (by rw [Int.toNat_natCast, Nat.add_mul, Nat.add_assoc])) ?_))))); refine gp (r_ldRow (i := j + i) (g := gl) (o := ol) rfl Ty.row_51 Ty.sz_51 (by repeat (first | exact Pick.here | apply Pick.there)) hcx hcp hil) ?_; refine zal fun b11 => ?_; refine gl_eqc (cs' := blkC) (by repeat (first | exact Pick.here | apply Pick.there)) (by kernel_rfl) ?_; refine zsA (by simp [dc_length, hqj.len]) (all_cons' rfl (all_cons' rfl (all_app' (dc_one _) (all_app' hqj.one (all_cons' rfl (all_cons' rfl all_nil')))))) ?_; refine zxs ?_; refine zxm ?_; refine gp (zLa (cs := (.int .i64 bx.epoch :: .int .i64 bx.round :: (dc bx.parent ++ (qj ++ [.slice xa1 xn1 xc1, .slice xa2 xn2 xc2]))))) ?_; refine zeN fun b30 => ?_; refine zapo (fun a31 c31 => ?_)
    refine zxa ?_; refine gnt (gc_seq ?_); by_cases hN : 0 < bx.next.length
    ·have hstop : stopB i bx := .inl hN
     refine gc_region (gp zfa ?_); refine gp zl ?_; refine gp zln ?_; refine gp (r_bool (c := true) zgt (decide_eq_true (by omega))) ?_; refine zxm ?_; refine gn ?_; refine gn ?_; refine gn ?_; refine gp zpk ?_; refine gnt (gc_condT rfl rfl ?_); refine gc_exit ?_; refine gx_block_miss rfl ?_; refine gx_then_exit ?_; refine gx_round_exit ?_; refine gx_block_hit ?_; refine gx_then (gsr (zxm ?_)); refine zxa ?_; refine gnt (gc_ret (gx_ret1 rfl (by conv => lhs; whnf) ?_)); have hbl : (behL (lineL (l.rs.map (fun r : LRec => r.b)) t) d) = ((lineL (l.rs.map (fun r : LRec => r.b)) t).drop j).take (i + 1) := by rw [behL_some hji]; exact cut_stop hbx hns hstop
     have hbn : (behL (lineL (l.rs.map (fun r : LRec => r.b)) t) d).length = i + 1 := by rw [hbl, List.length_take, List.length_drop]; omega
     intro w' hw; have h3 := hw.conv (M := [ElR RdBlock cx (lineL (l.rs.map (fun r : LRec => r.b)) t)]) (by repeat (first | exact Sel.nil | (apply Sel.cons; · (repeat (first | exact Pick.here | apply Pick.there))))) (fun _ _ => el_sub j (i + 1))
     rw [← hbl] at h3; exact ⟨((a31, c31), (cx.drop j).take (i + 1)), by rw [hbn], St.pureI (p := ∀ c ∈ (cx.drop j).take (i + 1), List.length c = 39) (fun c hc => hcx c (List.drop_subset _ _ (List.take_subset _ _ hc))) (by show St w F [LedR q g l, rowR 51 39 _ (behL (lineL (l.rs.map (fun r : LRec => r.b)) t) d).length _ ((cx.drop j).take (i + 1)).flatten, ElR RdBlock ((cx.drop j).take (i + 1)) (behL (lineL (l.rs.map (fun r : LRec => r.b)) t) d)] w'; rw [hbn]; rw [takeB_snoc hcp2] at h3 ⊢; rw [List.flatten_append, show ([(.int .i64 bx.epoch :: .int .i64 bx.round :: (dc bx.parent ++ (qj ++ [.slice xa1 xn1 xc1, .slice xa2 xn2 xc2])))]).flatten = (.int .i64 bx.epoch :: .int .i64 bx.round :: (dc bx.parent ++ (qj ++ [.slice xa1 xn1 xc1, .slice xa2 xn2 xc2]))) by simp]; exact h3.z)⟩
    ·refine gc_region (gp zfa ?_); refine gp zl ?_; refine gp zln ?_; refine gp (r_bool (c := false) zgt (decide_eq_false (by omega))) ?_; refine zxm ?_; refine gq zmv ?_; refine gq zln ?_; refine gq zei ?_; refine gp zpk ?_; refine gnt (gif rfl (fun hc40 => ?_) (fun hc40 => ?_))
     ·try simp only at hc40
      have hstop : stopB i bx := .inr (by have h40 := hc40; simp at h40; omega)
      refine gc_exit ?_; refine gx_block_miss rfl ?_; refine gx_then_exit ?_; refine gx_round_exit ?_; refine gx_block_hit ?_; refine gx_then (gsr (zxm ?_)); refine zxa ?_; refine gnt (gc_ret (gx_ret1 rfl (by conv => lhs; whnf) ?_)); have hbl : (behL (lineL (l.rs.map (fun r : LRec => r.b)) t) d) = ((lineL (l.rs.map (fun r : LRec => r.b)) t).drop j).take (i + 1) := by rw [behL_some hji]; exact cut_stop hbx hns hstop
      have hbn : (behL (lineL (l.rs.map (fun r : LRec => r.b)) t) d).length = i + 1 := by rw [hbl, List.length_take, List.length_drop]; omega
      intro w' hw; have h3 := hw.conv (M := [ElR RdBlock cx (lineL (l.rs.map (fun r : LRec => r.b)) t)]) (by repeat (first | exact Sel.nil | (apply Sel.cons; · (repeat (first | exact Pick.here | apply Pick.there))))) (fun _ _ => el_sub j (i + 1))
      rw [← hbl] at h3; exact ⟨((a31, c31), (cx.drop j).take (i + 1)), by rw [hbn], St.pureI (p := ∀ c ∈ (cx.drop j).take (i + 1), List.length c = 39) (fun c hc => hcx c (List.drop_subset _ _ (List.take_subset _ _ hc))) (by show St w F [LedR q g l, rowR 51 39 _ (behL (lineL (l.rs.map (fun r : LRec => r.b)) t) d).length _ ((cx.drop j).take (i + 1)).flatten, ElR RdBlock ((cx.drop j).take (i + 1)) (behL (lineL (l.rs.map (fun r : LRec => r.b)) t) d)] w'; rw [hbn]; rw [takeB_snoc hcp2] at h3 ⊢; rw [List.flatten_append, show ([(.int .i64 bx.epoch :: .int .i64 bx.round :: (dc bx.parent ++ (qj ++ [.slice xa1 xn1 xc1, .slice xa2 xn2 xc2])))]).flatten = (.int .i64 bx.epoch :: .int .i64 bx.round :: (dc bx.parent ++ (qj ++ [.slice xa1 xn1 xc1, .slice xa2 xn2 xc2]))) by simp]; exact h3.z)⟩
     ·refine gc_skip (gx_block_normal (gx_then (gc_region (gp zad ?_)))); refine zxm ?_; refine gl_nil (zrd ((i + 1, (a31, c31))) ?_ ?_)
      ·show (lineL (l.rs.map (fun r : LRec => r.b)) t).length - j - (i + 1) < (lineL (l.rs.map (fun r : LRec => r.b)) t).length - j - i
       omega
      ·intro w' hw; refine St.pureI (p := i + 1 ≤ (lineL (l.rs.map (fun r : LRec => r.b)) t).length - j ∧ ∀ i' b, i' < i + 1 → ((lineL (l.rs.map (fun r : LRec => r.b)) t).drop j)[i']? = some b → ¬ stopB i' b) ⟨by omega, fun i' b hi' hb => (by by_cases h' : i' < i; exact hns i' b h' hb; (obtain rfl : i' = i := by omega); rw [hb] at hbx; cases hbx; intro hst; have h40 := hc40; simp at h40; rcases hst with h | h <;> omega)⟩ ?_; show St w F [blk b5 27 (dc d), rowR 51 39 (some ⟨gl, ol, none⟩) (lineL (l.rs.map (fun r : LRec => r.b)) t).length c14 cx.flatten, ElR RdBlock cx (lineL (l.rs.map (fun r : LRec => r.b)) t), LedR q g l, rowR 51 39 a31 (i + 1) c31 (((cx.drop j).take (i + 1))).flatten] w'
       rw [takeB_snoc hcp2, List.flatten_append, show ([(.int .i64 bx.epoch :: .int .i64 bx.round :: (dc bx.parent ++ (qj ++ [.slice xa1 xn1 xc1, .slice xa2 xn2 xc2])))]).flatten = (.int .i64 bx.epoch :: .int .i64 bx.round :: (dc bx.parent ++ (qj ++ [.slice xa1 xn1 xc1, .slice xa2 xn2 xc2]))) by simp]; exact hw.z
   ·try simp only at hc25
    have hin : i = (lineL (l.rs.map (fun r : LRec => r.b)) t).length - j := by omega
    refine gc_exit ?_; refine gx_then_exit ?_; refine gx_round_exit ?_; refine gx_block_hit ?_; refine gx_then (gsr (zxm ?_)); refine zxa ?_; refine gnt (gc_ret (gx_ret1 rfl (by conv => lhs; whnf) ?_)); have hbl : (behL (lineL (l.rs.map (fun r : LRec => r.b)) t) d) = ((lineL (l.rs.map (fun r : LRec => r.b)) t).drop j).take (i) := by rw [behL_some hji]; exact cut_end (by rw [List.length_drop]; omega) hns
    have hbn : (behL (lineL (l.rs.map (fun r : LRec => r.b)) t) d).length = i := by rw [hbl, List.length_take, List.length_drop]; omega
    intro w' hw; have h3 := hw.conv (M := [ElR RdBlock cx (lineL (l.rs.map (fun r : LRec => r.b)) t)]) (by repeat (first | exact Sel.nil | (apply Sel.cons; · (repeat (first | exact Pick.here | apply Pick.there))))) (fun _ _ => el_sub j (i))
    rw [← hbl] at h3; exact ⟨((a9, c9), (cx.drop j).take (i)), by rw [hbn], St.pureI (p := ∀ c ∈ (cx.drop j).take (i), List.length c = 39) (fun c hc => hcx c (List.drop_subset _ _ (List.take_subset _ _ hc))) (by show St w F [LedR q g l, rowR 51 39 _ (behL (lineL (l.rs.map (fun r : LRec => r.b)) t) d).length _ ((cx.drop j).take (i)).flatten, ElR RdBlock ((cx.drop j).take (i)) (behL (lineL (l.rs.map (fun r : LRec => r.b)) t) d)] w'; rw [hbn];  exact h3.z)⟩
end
section
theorem ld_all {d : DS} {q g n bs : Nat} {rs : List LRec} {w : World} {F : Nat → Prop} (h : stars [allR [pureR (LdOk d n bs rs), LedR q g (lsOf bs rs), DiskR g d]] w F) : stars [pureR (LdOk d n bs rs), LedR q g (lsOf bs rs), DiskR g d] w F := stars_all h
theorem built_T (es : List Bool) (ps ss : List Int) (cs : List Value) (x : Bx) : BuiltR es ps ss (true, cs, x) =
  [pureR (ShOk es ps ss ∧ cs = bxC x es.length ps.length ∧ (∀ c ∈ x.css, List.length c = 39) ∧ (∀ c ∈ x.css2, List.length c = 39) ∧ ∃ w A, RdBlock w A x.c0 (leB es es.length)),
   LdR x.q x.g 200 0 (leRs es es.length), rowR 51 39 x.la es.length x.lc x.css.flatten, ElR RdBlock x.css (leL es es.length), TreeR x.t (trT (leB es es.length) ps ss ps.length), ModR x.m (trT (leB es es.length) ps ss ps.length) (x.c0 :: x.css2),
   ElR RdBlock x.css2 (trL (leB es es.length) ps ss ps.length), rowR 27 16 x.ia (es.length + 1 + ps.length) x.ic ((idsB es ps ss ps.length).map dc).flatten] := rfl
theorem built_F (es : List Bool) (ps ss : List Int) (cs : List Value) (x : Bx) : BuiltR es ps ss (false, cs, x) = [pureR (¬ ShOk es ps ss ∧ cs.length = 21 ∧ ∀ v ∈ cs, v.oneCell' = true)] := rfl
theorem ShOk.tri {es : List Bool} {ps ss : List Int} (h : ShOk es ps ss) : TrI (leB es es.length) ps ss ps.length := by
  have h0 := leB_round (es := es) es.length
  have ha := h.a
  exact tri_all (leB_epoch _) (leB_sm _) (by omega) (by omega) (by have := h.b; omega) h.d
def fa1 : Dig := ⟨[155, 149, 26, 169, 228, 149, 253, 1, 180, 96, 80, 13, 177, 242, 189, 133], rfl⟩
def fa2 : Dig := ⟨[122, 24, 211, 37, 131, 175, 230, 240, 175, 77, 87, 21, 46, 121, 47, 138], rfl⟩
def fa3 : Dig := ⟨[37, 90, 11, 216, 82, 36, 21, 73, 160, 35, 62, 109, 108, 35, 210, 182], rfl⟩
def fa4 : Dig := ⟨[11, 241, 45, 73, 151, 232, 211, 113, 59, 201, 250, 96, 115, 123, 243, 47], rfl⟩
def fb1 : Block := chB g0 gid 1 0
def fb2 : Block := chB fb1 fa1 1 1
def fb3 : Block := chB fb2 fa2 1 100
def fb4 : Block := chB fb3 fa3 1 101
theorem fb1_err : (wBlock fb1 ⟨0, []⟩).err = 0 := by kernel_rfl
theorem fb1_id : idOf fb1 = fa1 := idOf_is fb1_err (by kernel_rfl)
theorem fb2_err : (wBlock fb2 ⟨0, []⟩).err = 0 := by kernel_rfl
theorem fb2_id : idOf fb2 = fa2 := idOf_is fb2_err (by kernel_rfl)
theorem fb3_err : (wBlock fb3 ⟨0, []⟩).err = 0 := by kernel_rfl
theorem fb3_id : idOf fb3 = fa3 := idOf_is fb3_err (by kernel_rfl)
theorem fb4_err : (wBlock fb4 ⟨0, []⟩).err = 0 := by kernel_rfl
theorem fb4_id : idOf fb4 = fa4 := idOf_is fb4_err (by kernel_rfl)
attribute [local irreducible] idOf
abbrev esA : List Bool := [false, false]
abbrev psA : List Int := [0, 1]
abbrev ssA : List Int := [0, 0]
theorem le1A : leB esA 1 = fb1 := by
  show leX g0 false 0 = fb1
  unfold leX; rw [g0_id]; rfl
theorem le2A : leB esA 2 = fb2 := by
  show leX (leB esA 1) false 1 = fb2
  rw [le1A]; unfold leX; rw [fb1_id]; rfl
theorem trx0 : trX [fb2] 0 0 0 = fb3 := by
  have e1 : uMod 0 ([fb2] : List Block).length = 0 := by kernel_rfl
  have e2 : uMod 0 3 = 0 := by kernel_rfl
  unfold trX
  rw [e1, e2, show ([fb2] : List Block).getD 0 g0 = fb2 from rfl, fb2_id]; rfl
theorem trx1 : trX [fb2, fb3] 1 0 1 = fb4 := by
  have e1 : uMod 1 ([fb2, fb3] : List Block).length = 1 := by kernel_rfl
  have e2 : uMod 0 3 = 0 := by kernel_rfl
  unfold trX
  rw [e1, e2, show ([fb2, fb3] : List Block).getD 1 g0 = fb3 from rfl, fb3_id]; rfl
theorem tr0A : trN (leB esA 2) psA ssA 0 = fb3 := by rw [le2A]; exact trx0
theorem tr1A : trN (leB esA 2) psA ssA 1 = fb4 := by
  show trX (trB (leB esA 2) psA ssA 0 ++ [trN (leB esA 2) psA ssA 0]) 1 0 1 = fb4
  rw [tr0A, le2A]; exact trx1
theorem trT_zero {b0 : Block} {ps ss : List Int} : trT b0 ps ss 0 = newT b0 ⟨1, b0.round, idOf b0, []⟩ (idOf b0) := rfl
theorem trA1 : trT (leB esA 2) psA ssA (0 + 1) = (addE (newT fb2 ⟨1, fb2.round, fa2, []⟩ fa2) fb3 0 fa3).2.2 := by
  rw [← trT_succ, tr0A, trT_zero, le2A, fb2_id, fb3_id]
def tA19 : Tr := ⟨fa2, [(fa2, fb2), (fa3, fb3), (fa4, fb4)], [⟨1, 2, fa2, []⟩, ⟨1, 3, fa3, []⟩]⟩
theorem trA2 : trT (leB esA 2) psA ssA (0 + 1 + 1) = tA19 := by
  rw [← trT_succ, trA1, show trN (leB esA 2) psA ssA (0 + 1) = fb4 from tr1A, fb4_id]
  kernel_rfl
theorem idsB_at {es : List Bool} {ps ss : List Int} {k i : Nat} (h : i ≤ es.length) : (idsB es ps ss k)[i]? = some (leI es i) := by
  unfold idsB
  rw [List.getElem?_append_left (by rw [leD_len]; omega), leD_at h]
theorem shA : ShOk esA psA ssA := by
  refine ⟨by decide, by decide, by decide, fun j hj => ?_⟩
  match j with
  | 0 =>
    show idOf (trN (leB esA 2) psA ssA 0) ∉ [idOf (leB esA 2)]
    rw [tr0A, le2A, fb3_id, fb2_id]; decide
  | 1 =>
    show idOf (trN (leB esA 2) psA ssA 1) ∉ (trB (leB esA 2) psA ssA 0 ++ [trN (leB esA 2) psA ssA 0]).map idOf
    rw [tr1A, tr0A, fb4_id]
    show fa4 ∉ [idOf (leB esA 2), idOf fb3]
    rw [le2A, fb3_id, fb2_id]; decide
  | j + 2 => exact absurd hj (by simp)
theorem behA : behL (lineL ((leRs esA 2).map (fun r : LRec => r.b)) (trT (leB esA 2) psA ssA 2)) (leI esA 1) = [fb2, fb3, fb4] := by
  rw [leRs_b, show trT (leB esA 2) psA ssA 2 = tA19 from trA2]
  show behL (lineL [leB esA 1, leB esA 2] tA19) (idOf (leB esA 1)) = _
  rw [le1A, le2A, fb1_id]
  kernel_rfl
attribute [local irreducible] Gl Gc Gx Gs Runs Wt
attribute [local irreducible] rowR blk VlR ElR dc qcC blkC ModR TreeR gid lineL bestK bestD pathL behL leRs leI leB trT idsB
set_option maxHeartbeats 1000000 in
theorem alive19_ok {w : World} {F : Nat → Prop} {ea : Nat → Addr} {er : List Nat} [Has er 1] [Has er 2] [Has er 3] [Has er 4] [Has er 6] [Has er 8] [Has er 9] [Has er 12] [Has er 14] [Has er 16] [Has er 17] (hE : GErr er w (fun k => ¬ F k) 251 ea) (hK : KR w (fun k => ¬ F k)) (h : stars [] w F) :
    Calls Tryz.prog 8 #[] w (Post w F (fun _ : Unit => .bool true) (fun _ => [])) := by
 refine g_enter (env := []) Tryz.func8 rfl h Tryz.ntmps8 rfl rfl ?_; refine gsr (zxa ?_); refine zxs ?_; refine gl_bsls (vs := [.bool false, .bool false]) (wt0 rfl) Ty.sl_22 Ty.sz_4 Ty.zc_4 rfl rfl (all_cons' rfl (all_cons' rfl all_nil')) rfl rfl rfl (fun b4 => ?_)
 refine gl_bsls (vs := [.int .i64 0, .int .i64 1]) (wt0 rfl) Ty.sl_23 Ty.sz_3 Ty.zc_3 rfl rfl (all_cons' rfl (all_cons' rfl all_nil')) rfl rfl rfl (fun b5 => ?_)
 refine gl_bsls (vs := [.int .i64 0, .int .i64 0]) (wt0 rfl) Ty.sl_23 Ty.sz_3 Ty.zc_3 rfl rfl (all_cons' rfl (all_cons' rfl all_nil')) rfl rfl rfl (fun b6 => ?_)
 refine gp (zbu (cs := [.slice (some ⟨b4, 0, none⟩) 2 2, .slice (some ⟨b5, 0, none⟩) 2 2, .slice (some ⟨b6, 0, none⟩) 2 2]) (hf := by kernel_rfl)) ?_; refine zc ?_ (c := fun w1 F1 F2 h1 h2 hd hst => build_ok (es := esA) (ps := psA) (ss := ssA) h1 (hE.mv hst.still) (hK.mv hst.still) (rd_row h2 hd (by repeat (first | exact Pick.here | apply Pick.there))) (rd_row h2 hd (by repeat (first | exact Pick.here | apply Pick.there))) (rd_row h2 hd (by repeat (first | exact Pick.here | apply Pick.there))))
 rintro ⟨r8, cs8, x8⟩
 rcases r8 with _ | _
 ·rw [built_F]; exact gl_pureR (fun hb => absurd shA hb.1)
 rw [built_T]; refine gl_pureR (fun hb => ?_)
 obtain ⟨hsh, rfl, hc1, hc2, hr0⟩ := hb; obtain ⟨xq8, xg8, xt8, xm8, xla8, xlc8, xia8, xic8, xcs8, xd8, xc8⟩ := x8; refine zxm ?_; refine gp zex ?_; refine gp zex ?_; refine zal fun b1 => ?_; refine zsA (bxC_len _ _ _) (bxC_one _ _ _) ?_; refine zxa ?_; refine gnt (gc_seq (gc_fact (fun w' hw => St.rowAt (hw.sel (M := [rowR 27 16 xia8 (2 + 1 + 2) xic8 ((idsB esA psA ssA 2).map dc).flatten]) (by repeat (first | exact Sel.nil | (apply Sel.cons; · (repeat (first | exact Pick.here | apply Pick.there)))))) .here (by decide)) (fun hra => ?_)))
 obtain ⟨_, gi, oi, ha⟩ := hra; subst ha; have hd16 : ∀ c ∈ (idsB esA psA ssA 2).map dc, List.length c = 16 := fun c hc => by obtain ⟨x, _, rfl⟩ := List.mem_map.1 hc; exact dc_length x
 refine gc_cz (M := [LdR xq8 xg8 200 0 (leRs esA 2)]) (N := [exR fun d : DS => allR [pureR (LdOk d 200 0 (leRs esA 2)), LedR xq8 xg8 (lsOf 0 (leRs esA 2)), DiskR xg8 d]]) (fun _ _ h => h) ?_; refine gc_exR (fun d0 => ?_)
 refine gc_cz (M := [allR [pureR (LdOk d0 200 0 (leRs esA 2)), LedR xq8 xg8 (lsOf 0 (leRs esA 2)), DiskR xg8 d0]]) (N := [pureR (LdOk d0 200 0 (leRs esA 2)), LedR xq8 xg8 (lsOf 0 (leRs esA 2)), DiskR xg8 d0]) (fun _ _ => ld_all) ?_; refine gc_pureR (fun hd0 => ?_)
 refine gc_regionZ 14 ([blk b1 35 (bxC ⟨xq8, xg8, xt8, xm8, xla8, xlc8, some ⟨gi, oi, none⟩, xic8, xcs8, xd8, xc8⟩ 2 2), rowR 27 16 (some ⟨gi, oi, none⟩) (2 + 1 + 2) xic8 ((idsB esA psA ssA 2).map dc).flatten]) ?_; refine yps 0 rfl zmv ?_; refine yps 1 rfl zmv ?_; refine yps 2 rfl zfa ?_; refine yps 3 rfl zl ?_; refine yps 4 rfl zfa ?_; refine yps 5 rfl zl ?_; refine yps 6 rfl zfa ?_; refine yps 7 rfl zl ?_; refine yps 8 rfl (r_val (v' := .pointer (some ⟨gi, oi + 1 * 16, none⟩)) zia rfl) ?_; refine yps 9 rfl (r_ldRow (i := 1) (g := gi) (o := oi) rfl Ty.row_27 Ty.sz_27 (by repeat (first | exact Pick.here | apply Pick.there)) hd16 (by rw [List.getElem?_map, idsB_at (by decide)]; rfl) (by decide)) ?_
 refine yos 10 rfl ?_; refine zc ?_ (c := fun w1 F1 F2 h1 h2 hd hst => behind_ok (l := lsOf 0 (leRs esA 2)) (d := leI esA 1) h1 (tr_rd h2 hd (by repeat (first | exact Pick.here | apply Pick.there))) shA.tri.ok (leRs_ok (by decide)) (by show (leRs esA 2).length < _; rw [leRs_len]; decide) (hE.mv hst.still))
 rintro ⟨⟨a21, c21⟩, cx21⟩
 refine yxs ?_; refine yps 11 rfl zln ?_; refine yps 12 rfl (r_bool (c := true) zei (decide_eq_true (by show ((behL (lineL ((leRs esA 2).map (fun r : LRec => r.b)) (trT (leB esA 2) psA ssA 2)) (leI esA 1)).length : Int) = 3; rw [behA]; rfl))) ?_; refine yps 13 rfl zpk ?_; refine yzs rfl ?_; refine zxa ?_; refine gnt (gc_ret (gx_ret1 rfl (by conv => lhs; whnf) ?_)); exact ze ()
end
section
attribute [local irreducible] idOf gid
def chainB (p : Dig) : List Block → Prop
  | [] => True
  | b :: l => b.parent = p ∧ chainB (idOf b) l
def lastD (p : Dig) : List Block → Dig
  | [] => p
  | b :: l => lastD (idOf b) l
theorem lastD_app : ∀ (p : Dig) (l m : List Block), lastD p (l ++ m) = lastD (lastD p l) m
  | _, [], _ => rfl
  | _, b :: l, m => lastD_app (idOf b) l m
theorem chainB_app : ∀ (p : Dig) (l m : List Block), chainB p (l ++ m) ↔ chainB p l ∧ chainB (lastD p l) m
  | p, [], m => by simp [chainB, lastD]
  | p, b :: l, m => by
    have ih := chainB_app (idOf b) l m
    simp only [List.cons_append, chainB, lastD, ih, and_assoc]
theorem chain_le {es : List Bool} : ∀ k, chainB gid (leL es k) ∧ lastD gid (leL es k) = leI es k
  | 0 => ⟨trivial, leI_zero.symm⟩
  | k + 1 => by
    have ih := chain_le (es := es) k
    rw [leL_succ]
    refine ⟨(chainB_app _ _ _).2 ⟨ih.1, by rw [ih.2]; exact ⟨leB_parent k, trivial⟩⟩, ?_⟩
    rw [lastD_app]; rfl
section
variable {b0 : Block} {ps ss : List Int} {i : Nat}
theorem TrI.node {h : TrI b0 ps ss i} {j : Nat} {d : Dig} {b : Block} (hn : (trT b0 ps ss i).nodes[j]? = some (d, b)) : d = idOf b ∧ b ∈ trB b0 ps ss i := by
  rw [h.nd, List.getElem?_map, Option.map_eq_some_iff] at hn
  obtain ⟨x, hx, e⟩ := hn
  cases e
  exact ⟨rfl, List.mem_of_getElem? hx⟩
theorem TrI.bof {h : TrI b0 ps ss i} {d : Dig} {b : Block} (hl : lkN d (trT b0 ps ss i).nodes = some b) : bOf (trT b0 ps ss i) d = b ∧ idOf b = d ∧ b ∈ trB b0 ps ss i := by
  obtain ⟨j, hj⟩ := lkN_some hl
  have := TrI.node (h := h) hj
  exact ⟨by rw [bOf, hl]; rfl, this.1.symm, this.2⟩
theorem path_chain (h : TrI b0 ps ss i) : ∀ (j : Nat) (d : Dig) (b : Block), (trT b0 ps ss i).nodes[j]? = some (d, b) →
    chainB (idOf b0) ((pathL (trT b0 ps ss i) d).map (bOf (trT b0 ps ss i))) ∧ lastD (idOf b0) ((pathL (trT b0 ps ss i) d).map (bOf (trT b0 ps ss i))) = d ∧ ∀ e ∈ pathL (trT b0 ps ss i) d, ∃ x, lkN e (trT b0 ps ss i).nodes = some x := fun j => by
  induction j using Nat.strongRecOn with
  | ind j ih =>
    intro d b hj
    have hl : lkN d (trT b0 ps ss i).nodes = some b := node_lk h.ok hj
    have hu := upL_step h.ok hl
    by_cases hd : d = (trT b0 ps ss i).root
    · have hp : pathL (trT b0 ps ss i) d = [] := by unfold pathL; rw [hu, if_pos hd]; simp [hd]
      rw [hp]
      exact ⟨trivial, by rw [hd, h.rt]; rfl, by simp⟩
    · match j, ih, hj with
      | 0, _, hj =>
        obtain ⟨b', r, hr⟩ := h.ok.hd
        rw [hr] at hj
        simp at hj
        exact absurd hj.1.symm hd
      | j + 1, ih, hj =>
        obtain ⟨k, p, hk, hkp⟩ := h.ok.par j d b hj
        obtain ⟨h1, h2, h3⟩ := ih k (by omega) b.parent p hkp
        have hp : pathL (trT b0 ps ss i) d = pathL (trT b0 ps ss i) b.parent ++ [d] := by
          unfold pathL
          rw [hu, if_neg hd, List.map_cons, List.filter_cons, if_pos (by simp [hd]), List.reverse_cons]
        have hb := TrI.bof (h := h) hl
        rw [hp, List.map_append]
        refine ⟨(chainB_app _ _ _).2 ⟨h1, ?_⟩, ?_, fun e he => ?_⟩
        · rw [h2, List.map_cons, hb.1]; exact ⟨rfl, trivial⟩
        · rw [lastD_app, List.map_cons, hb.1]; exact hb.2.1
        · rcases List.mem_append.1 he with he | he
          · exact h3 e he
          · simp at he; subst he; exact ⟨b, hl⟩
theorem bestK_in (t : Tr) (hd : ∃ b r, t.nodes = (t.root, b) :: r) : ∀ k, k ≤ t.nodes.length → ∃ (j : Nat) (b : Block), t.nodes[j]? = some ((bestK t k).1, b)
  | 0, _ => by obtain ⟨b, r, e⟩ := hd; exact ⟨0, b, by rw [e]; rfl⟩
  | k + 1, hk => by
    obtain ⟨p, hp⟩ : ∃ p, t.nodes[k]? = some p := ⟨t.nodes[k], List.getElem?_eq_getElem (by omega)⟩
    rw [bestK_succ hp]
    split
    · exact ⟨k, p.2, hp⟩
    · exact bestK_in t hd k (by omega)
end
theorem ShOk.chain {es : List Bool} {ps ss : List Int} (h : ShOk es ps ss) : chainB gid (lineL (leL es es.length) (trT (leB es es.length) ps ss ps.length)) ∧ ∀ b ∈ lineL (leL es es.length) (trT (leB es es.length) ps ss ps.length), (wBlock b ⟨0, []⟩).err = 0 := by
  have ht := h.tri
  have ha := h.a
  have hb := h.b
  have hc := chain_le (es := es) es.length
  obtain ⟨j, b, hj⟩ := bestK_in _ ht.ok.hd _ (Nat.le_refl _)
  have hp := path_chain ht j _ b hj
  rw [← lineL_def]
  refine ⟨(chainB_app _ _ _).2 ⟨hc.1, by rw [hc.2]; exact hp.1⟩, fun x hx => ?_⟩
  rcases List.mem_append.1 hx with hx | hx
  · simp only [leL, List.mem_map, List.mem_range] at hx
    obtain ⟨k, hk, rfl⟩ := hx
    exact leB_err (by omega)
  · obtain ⟨e, he, rfl⟩ := List.mem_map.1 hx
    obtain ⟨y, hy⟩ := hp.2.2 e he
    have hby := TrI.bof (h := ht) hy
    rw [hby.1]
    have hm := hby.2.2
    rw [trB_cons] at hm
    have h0 := leB_round (es := es) es.length
    rcases List.mem_cons.1 hm with hm | hm
    · rw [hm]; exact leB_err (by omega)
    · simp only [trL, List.mem_map, List.mem_range] at hm
      obtain ⟨k, hk, rfl⟩ := hm
      have hk2 : TrI (leB es es.length) ps ss k := tri_all (leB_epoch _) (leB_sm _) (by omega) (by omega) (by omega) (fun j hj => h.d j (by omega))
      exact hk2.err (by omega) (by omega) (by omega)
theorem cutB_len : ∀ (n : Nat) (l : List Block), n < 8 → (cutB n l).length + n ≤ 8
  | n, [], h => by simp [cutB]; omega
  | n, b :: l, h => by
    unfold cutB
    split
    · simp; omega
    · rename_i hs
      have hn : ¬ n + 1 = 8 := fun e => hs (.inr e)
      have ih := cutB_len (n + 1) l (by omega)
      simp; omega
theorem behL_at (l : List Block) (d : Dig) : behL l d = [] ∧ (∀ b ∈ l, b.parent ≠ d) ∨ ∃ j r, l[j]? = some r ∧ r.parent = d ∧ behL l d = cutB 0 (l.drop j) ∧ 0 < (behL l d).length := by
  rcases idxB_cases d l with ⟨h, hn⟩ | ⟨j, r, h, hr, hp, _⟩
  · exact .inl ⟨behL_none h, hn⟩
  · refine .inr ⟨j, r, hr, hp, behL_some h, ?_⟩
    have hlt := (List.getElem?_eq_some_iff.1 hr).1
    have hd : l.drop j = r :: l.drop (j + 1) := by rw [List.drop_eq_getElem_cons hlt, (List.getElem?_eq_some_iff.1 hr).2]
    rw [behL_some h, hd]; unfold cutB; simp
theorem behL_len (l : List Block) (d : Dig) : (behL l d).length ≤ 8 := by
  rcases behL_at l d with ⟨h, _⟩ | ⟨j, r, _, _, h, _⟩
  · rw [h]; simp
  · rw [h]; exact cutB_len 0 _ (by decide)
end
section
theorem dcs_one : ∀ (l : List Dig), ∀ v ∈ (l.map dc).flatten, v.oneCell' = true
  | [] => all_nil'
  | d :: l => by rw [List.map_cons, List.flatten_cons]; exact all_app' (dc_one _) (dcs_one l)
theorem pathL_step {t : Tr} (h : TOk t) {d : Dig} {b : Block} (hl : lkN d t.nodes = some b) (hne : d ≠ t.root) : pathL t d = pathL t b.parent ++ [d] := by
  unfold pathL; rw [upL_step h hl, if_neg hne]; simp [hne]
theorem pathL_root {t : Tr} (h : TOk t) {b : Block} (hl : lkN t.root t.nodes = some b) : pathL t t.root = [] := by
  unfold pathL; rw [upL_step h hl, if_pos rfl]; simp
def upJ (t : Tr) (j : Nat) : Nat := (upL t (((t.nodes[j]?).map Prod.fst).getD t.root)).length
theorem upJ_at {t : Tr} {j : Nat} {e : Dig} {b : Block} (h : t.nodes[j]? = some (e, b)) : upJ t j = (upL t e).length := by unfold upJ; rw [h]; rfl
theorem up_step {t : Tr} (h : TOk t) {j : Nat} {e : Dig} {b : Block} (hj : t.nodes[j]? = some (e, b)) (hne : e ≠ t.root) : ∃ i p, idxN b.parent 0 t.nodes = ((i : Nat) : Int) ∧ t.nodes[i]? = some (b.parent, p) ∧ upJ t i < upJ t j ∧ pathL t e = pathL t b.parent ++ [e] := by
  have hl := lkN_at h.nd hj
  obtain ⟨p, hp⟩ := h.up hl hne
  obtain ⟨i, hi, hn⟩ := idxN_some (k := 0) hp
  rw [Nat.zero_add] at hi
  refine ⟨i, p, hi, hn, ?_, pathL_step h hl hne⟩
  rw [upJ_at hn, upJ_at hj, upL_step h hl, if_neg hne]
  simp
theorem nd_parts {w w' : World} {A : Nat → Prop} {g o : Nat} {cs : List Value} {e : Dig} {b : Block} (h : w.rangeAt g o (dc e ++ cs)) (hb : RdBlock w' A cs b) : w.rangeAt g o (dc e) ∧ w.rangeAt g (o + 16) cs ∧ w.cell? ⟨g, o + 16 + 1, none⟩ = some (.int .i64 b.round) ∧ w.rangeAt g (o + 16 + 2) (dc b.parent) := by
  have h2 := range_right h
  rw [dc_length] at h2
  have h3 := h2
  obtain ⟨q, a1, n1, c1, a2, n2, c2, rfl, _⟩ := hb
  refine ⟨range_left h, h2, range_at h3 (j := 1) rfl, ?_⟩
  have h4 := range_right (xs := [Value.int .i64 b.epoch, .int .i64 b.round]) (ys := dc b.parent ++ (q ++ [.slice a1 n1 c1, .slice a2 n2 c2])) h3
  exact range_left h4
theorem nd_at {w : World} {A : Nat → Prop} {m : Nat} {t : Tr} {css : List (List Value)} {na : Option Addr} {nc : Nat} {ca : Option Addr} {cc j : Nat} {e : Dig} {b : Block} (hM : MdM w A m t css na nc ca cc) (hj : t.nodes[j]? = some (e, b)) : ∃ ga oa cq, na = some ⟨ga, oa, none⟩ ∧ A ga ∧ css[j]? = some cq ∧ w.rangeAt ga (oa + j * 55) (dc e) ∧ w.rangeAt ga (oa + j * 55 + 16) cq ∧ w.cell? ⟨ga, oa + j * 55 + 16 + 1, none⟩ = some (.int .i64 b.round) ∧ w.rangeAt ga (oa + j * 55 + 16 + 2) (dc b.parent) ∧ cq.length = 39 ∧ (∀ v ∈ cq, v.oneCell' = true) := by
  obtain ⟨ga, oa, ce, x, ha, hA, _, hra, hl55, hx, rfl, wq, Aq, hrd⟩ := hM.ns.elem (i := j) (by decide) (List.getElem?_eq_some_iff.1 hj).1
  obtain ⟨h1, h2⟩ := zip_at hx
  rw [hj] at h1
  have h1 := Option.some.inj h1
  have e1 : x.1.1 = e := by rw [← h1]
  have e2 : x.1.2 = b := by rw [← h1]
  rw [e1] at hra; rw [e2] at hrd
  obtain ⟨p1, p2, p3, p4⟩ := nd_parts hra hrd
  exact ⟨ga, oa, x.2, ha, hA, h2, p1, p2, p3, p4, hrd.len, hrd.one⟩
attribute [local irreducible] Gl Gc Gx Gs Runs Wt
attribute [local irreducible] rowR blk VlR ElR dc qcC blkC ModR TreeR gid idOf pathL upL upJ idxN
theorem rpath_ok {w : World} {F : Nat → Prop} {m : Nat} {t : Tr} {css : List (List Value)} (hx : RdMod w (fun k => ¬ F k) m t css) (hok : TOk t) {d : Dig} (h : stars [] w F) :
    Calls Tryz.prog 37 #[.pointer (some ⟨m, 0, none⟩), .agg (dc d).toArray] w (Post w F (fun r : Option Addr × Nat => .tuple #[.slice r.1 (pathL t d).length r.2, .bool (lkN d t.nodes).isSome]) (fun r => [rowR 27 16 r.1 (pathL t d).length r.2 ((pathL t d).map dc).flatten])) := by
 obtain ⟨na, nc, ca, cc, hM⟩ := hx; obtain ⟨hmA, hrt, h16, h17⟩ := hM.cells; have hle := hok.le
 have hcl := hok.cl
 have hpl := pathL_len t d
 have hxx := hM
 refine g_enter (env := [(0, .pointer (some ⟨m, 0, none⟩)), (1, .agg (dc d).toArray)]) Tryz.func37 rfl h Tryz.ntmps37 rfl rfl ?_; refine gsr (zbN fun b3 => ?_); refine zxa ?_; refine zxa ?_; refine zxs ?_; refine ze0 (fun b8 => ?_)
 refine zxa ?_; refine zxs ?_; refine zxm ?_; refine gp zL ?_; refine zc (fun _ => ?_) (c := fun w1 F1 F2 h1 h2 hd hst => rfind_ok (d := d) (RdMod.mv ⟨na, nc, ca, cc, hxx⟩ hst.still) hok h1)
 refine zxa ?_; refine gnt (gc_seq (gsr (zxm ?_))); refine gp zlt ?_; refine gnt (gif rfl (fun hc13 => ?_) (fun hc13 => ?_))
 ·try simp only at hc13
  have hnl : lkN d t.nodes = none := by (cases hl : lkN d t.nodes with | none => rfl | some b => (obtain ⟨j, hj, _⟩ := idxN_some (k := 0) hl; rw [hj] at hc13; omega))
  have hpn := pathL_none hnl
  refine gsr (zxm ?_); refine zxa ?_; refine zxa ?_; refine gnt (gc_ret (gx_then_ret (gx_ret2 rfl (by conv => lhs; whnf) (by conv => lhs; whnf) ?_))); exact fun w' hw => ⟨(some ⟨b8, 0, none⟩, 0), by rw [hpn, hnl]; rfl, by rw [hpn]; exact hw.z⟩
 ·try simp only at hc13
  obtain ⟨b0, hl0⟩ : ∃ b, lkN d t.nodes = some b := by (cases hl : lkN d t.nodes with | none => (rw [idxN_none hl] at hc13; exact absurd hc13 (by decide)) | some b => exact ⟨b, rfl⟩)
  obtain ⟨j0, hji0, hj0⟩ := idxN_some (k := 0) hl0; rw [Nat.zero_add] at hji0; rw [hji0]; refine gc_skip (gx_then (gc_seq (gc_block (gc_loop (α := (Nat × List Dig) × (Option Addr × Nat)) (fun y => [pureR (∃ e b, t.nodes[y.1.1]? = some (e, b) ∧ pathL t d = pathL t e ++ y.1.2), rowR 27 16 y.2.1 y.1.2.length y.2.2 (y.1.2.map dc).flatten]) (fun y => [(6, .slice y.2.1 y.1.2.length y.2.2), (7, .int .i64 (y.1.1 : Int))]) [15, 16, 17, 18, 19, 20, 21, 22, 23, 24, 25, 26, 27, 28, 29, 30, 31, 32, 33, 34, 35, 36, 37, 38, 39, 40, 41, 42, 43, 44, 45, 46, 47, 48, 49] (fun y => upJ t y.1.1) ((j0, []), (some ⟨b8, 0, none⟩, 0)) ?_ ?_ ?_))))
  ·refine env_start (by kernel_rfl)
  ·exact zlp (p := ∃ e b, t.nodes[j0]? = some (e, b) ∧ pathL t d = pathL t e ++ []) ⟨d, b0, hj0, by simp⟩
  ·intro y u; obtain ⟨⟨j, out⟩, ⟨a, c⟩⟩ := y; refine gc_pureR (fun hk => ?_)
   obtain ⟨e, b, hj, hpe⟩ := hk; replace hj : t.nodes[j]? = some (e, b) := hj
   replace hpe : pathL t d = pathL t e ++ out := hpe
   have hjl := (List.getElem?_eq_some_iff.1 hj).1
   obtain ⟨ga, oa, cq, hna, hgA, hcq, hp1, hp2, hp3, hp4, hl39, ho39⟩ := nd_at hM hj; have hle2 : out.length ≤ 16 := by have := congrArg List.length hpe; simp only [List.length_append] at this; omega
   subst hna; refine gc_seq (gc_seq (gc_regionS (by kernel_rfl) (by kernel_rfl) ?_)); refine sp zmv ?_; refine sp znc ?_; refine sp zfa ?_; refine sp (r_ld1o rfl Ty.row_96 h16 hmA) ?_; refine sp zmv ?_; refine sp (r_val (v' := .pointer (some ⟨ga, oa + j * 55, none⟩)) (zia (i := ((j : Nat) : Int))) (by rw [Int.toNat_natCast])) ?_; refine sp zfa ?_; refine sp (r_ldNo (seg := dc e) rfl Ty.row_27 Ty.sz_27 hp1 (dc_length _) (by decide) hgA) ?_; refine sp zmv ?_; refine sp znc ?_; refine sp zfa ?_; refine sp (r_ldNo (seg := dc t.root) rfl Ty.row_27 Ty.sz_27 hrt (dc_length _) (by decide) hmA) ?_; refine sp znd ?_; refine gs_nil ?_; refine gx_then (gif rfl (fun hc27 => ?_) (fun hc27 => ?_))
   ·try simp only at hc27
    have hne : e ≠ t.root := by simpa using hc27
    obtain ⟨i, p, hii, hi, hlt, hpp⟩ := up_step hok hj hne; refine gc_skip (gx_then (gc_block (gsr (zxm ?_)))); refine gp znc ?_; refine gp zfa ?_; refine gp (r_ld1o rfl Ty.row_96 h16 hmA) ?_; refine zxm ?_; refine gp (r_val (v' := .pointer (some ⟨ga, oa + j * 55, none⟩)) (zia (i := ((j : Nat) : Int))) (by rw [Int.toNat_natCast])) ?_; refine gp zfa ?_; refine gp (r_ldNo (seg := dc e) rfl Ty.row_27 Ty.sz_27 hp1 (dc_length _) (by decide) hgA) ?_; refine zeN fun b36 => ?_; refine zxm ?_; refine zapo (m := 1) (j := out.length) (fun a38 c38 => ?_) (h1 := dcs_one _)
    rw [Nat.add_comm 1 out.length]; refine zxa ?_; refine gnt (gc_region (zxm ?_)); refine zxm ?_; refine gp znc ?_; refine gp zfa ?_; refine gp (r_ld1o rfl Ty.row_96 h16 hmA) ?_; refine zxm ?_; refine gp (r_val (v' := .pointer (some ⟨ga, oa + j * 55, none⟩)) (zia (i := ((j : Nat) : Int))) (by rw [Int.toNat_natCast])) ?_; refine gp zfa ?_; refine gp zfa ?_; refine gp (r_ldNo (seg := dc b.parent) rfl Ty.row_27 Ty.sz_27 hp4 (dc_length _) (by decide) hgA) ?_; refine zc (fun _ => ?_) (c := fun w1 F1 F2 h1 h2 hd hst => rfind_ok (d := b.parent) (RdMod.mv ⟨_, nc, ca, cc, hxx⟩ hst.still) hok h1)
    rw [hii]; refine zxa ?_; refine gl_nil (gx_block_normal (zrd (((i, e :: out), (a38, c38))) ?_ ?_))
    ·exact hlt
    ·intro w' hw; refine St.pureI (p := ∃ e' b', t.nodes[i]? = some (e', b') ∧ pathL t d = pathL t e' ++ e :: out) ⟨b.parent, p, hi, by rw [hpe, hpp, List.append_assoc]; rfl⟩ ?_; exact hw.z
   ·try simp only at hc27
    have her : e = t.root := by simpa using hc27
    subst her; have hpz : pathL t d = out := by rw [hpe, pathL_root hok (lkN_at hok.nd hj)]; rfl
    refine gc_exit ?_; refine gx_then_exit ?_; refine gx_round_exit ?_; refine gx_block_hit ?_; refine gx_then (gsr (zxm ?_)); refine zxa ?_; refine zxa ?_; refine gnt (gc_ret (gx_ret2 rfl (by conv => lhs; whnf) (by conv => lhs; whnf) ?_)); have hsm : (lkN d t.nodes).isSome = true := by rw [hl0]; rfl
    exact fun w' hw => ⟨(a, c), by rw [hsm, hpz], by rw [hpz]; exact hw.z⟩
end
section
theorem upF_mem (t : Tr) : ∀ (n : Nat) (d : Dig) (x : Dig × Block), x ∈ upF t n d → lkN x.1 t.nodes = some x.2
  | 0, _, _, h => by cases h
  | n + 1, d, x, h => by
    unfold upF at h
    cases hl : lkN d t.nodes with
    | none => rw [hl] at h; cases h
    | some b =>
      rw [hl] at h
      rcases List.mem_cons.1 h with rfl | h
      · exact hl
      · split at h
        · cases h
        · exact upF_mem t n _ x h
theorem pathL_mem {t : Tr} {d e : Dig} (h : e ∈ pathL t d) : e ≠ t.root ∧ ∃ b, lkN e t.nodes = some b := by
  unfold pathL at h
  rw [List.mem_reverse, List.mem_filter, List.mem_map] at h
  obtain ⟨⟨x, hx, rfl⟩, h2⟩ := h
  exact ⟨by simpa using h2, x.2, upF_mem t _ d x hx⟩
def cellT (t : Tr) (css : List (List Value)) (e : Dig) : List Value := (css[(idxN e 0 t.nodes).toNat]?).getD []
theorem cellT_eq {t : Tr} {css : List (List Value)} {e : Dig} {i : Nat} {c : List Value} (h : idxN e 0 t.nodes = ((i : Nat) : Int)) (hc : css[i]? = some c) : cellT t css e = c := by unfold cellT; rw [h, Int.toNat_natCast, hc]; rfl
def lcT (t : Tr) (css bcs : List (List Value)) : List (List Value) := bcs ++ (pathL t (bestD t)).map (cellT t css)
theorem lcT_eq (t : Tr) (css bcs : List (List Value)) : bcs ++ (pathL t (bestD t)).map (cellT t css) = lcT t css bcs := rfl
theorem lcT_len (t : Tr) (css bcs : List (List Value)) : (lcT t css bcs).length = bcs.length + (pathL t (bestD t)).length := by simp [lcT]
theorem nd_in {w : World} {A : Nat → Prop} {m : Nat} {t : Tr} {css : List (List Value)} {ga oa : Nat} {nc : Nat} {ca : Option Addr} {cc j : Nat} {e : Dig} {b : Block} (hM : MdM w A m t css (some ⟨ga, oa, none⟩) nc ca cc) (hj : t.nodes[j]? = some (e, b)) : ∃ cq, css[j]? = some cq ∧ w.rangeAt ga (oa + j * 55) (dc e ++ cq) ∧ w.rangeAt ga (oa + j * 55) (dc e) ∧ w.rangeAt ga (oa + j * 55 + 16) cq ∧ w.cell? ⟨ga, oa + j * 55 + 16 + 1, none⟩ = some (.int .i64 b.round) ∧ cq.length = 39 ∧ (∀ v ∈ cq, v.oneCell' = true) ∧ (dc e ++ cq)[17]? = some (.int .i64 b.round) := by
  obtain ⟨ga', oa', ce, x, ha, _, _, hra, hl55, hx, rfl, wq, Aq, hrd⟩ := hM.ns.elem (i := j) (by decide) (List.getElem?_eq_some_iff.1 hj).1
  cases ha
  obtain ⟨h1, h2⟩ := zip_at hx
  rw [hj] at h1
  have h1 := Option.some.inj h1
  have e1 : x.1.1 = e := by rw [← h1]
  have e2 : x.1.2 = b := by rw [← h1]
  rw [e1] at hra; rw [e2] at hrd
  obtain ⟨p1, p2, p3, p4⟩ := nd_parts hra hrd
  refine ⟨x.2, h2, hra, p1, p2, p3, hrd.len, hrd.one, ?_⟩
  rw [List.getElem?_append_right (by rw [dc_length]; decide), dc_length]
  obtain ⟨q, a1, n1, c1, a2, n2, c2, hc, _⟩ := hrd
  rw [hc]; rfl
theorem nd_first {w : World} {A : Nat → Prop} {m : Nat} {t : Tr} {css : List (List Value)} {na : Option Addr} {nc : Nat} {ca : Option Addr} {cc : Nat} (hok : TOk t) (hM : MdM w A m t css na nc ca cc) : ∃ ga oa e p, na = some ⟨ga, oa, none⟩ ∧ A ga ∧ t.nodes[0]? = some (e, p) := by
  obtain ⟨b0, r, hr⟩ := hok.hd
  have h0 : t.nodes[0]? = some (t.root, b0) := by rw [hr]; rfl
  obtain ⟨ga, oa, cq, hna, hA, _⟩ := nd_at hM h0
  exact ⟨ga, oa, _, _, hna, hA, h0⟩
def bestN (t : Tr) (k j : Nat) : Prop := ∃ e p, t.nodes[j]? = some (e, p) ∧ ((k = 0 ∧ j = 0) ∨ bestK t k = (e, p.round))
theorem bestN_zero {t : Tr} {e : Dig} {p : Block} (h : t.nodes[0]? = some (e, p)) : bestN t 0 0 := ⟨e, p, h, .inl ⟨rfl, rfl⟩⟩
theorem bestN_hit {t : Tr} {k j : Nat} {e ek : Dig} {p b : Block} (hj : t.nodes[j]? = some (e, p)) (h : (k = 0 ∧ j = 0) ∨ bestK t k = (e, p.round)) (hk : t.nodes[k]? = some (ek, b)) (hlt : p.round < b.round) : bestN t (k + 1) k := by
  refine ⟨ek, b, hk, .inr ?_⟩
  rcases h with ⟨rfl, rfl⟩ | h
  · rw [hj] at hk; cases hk; exact absurd hlt (by omega)
  · rw [bestK_succ hk, h, if_pos hlt]
theorem bestN_miss {t : Tr} {k j : Nat} {e ek : Dig} {p b : Block} (h0 : ∀ p, t.nodes[0]? = some p → 0 ≤ p.2.round) (hj : t.nodes[j]? = some (e, p)) (h : (k = 0 ∧ j = 0) ∨ bestK t k = (e, p.round)) (hk : t.nodes[k]? = some (ek, b)) (hlt : ¬ p.round < b.round) : bestN t (k + 1) j := by
  refine ⟨e, p, hj, .inr ?_⟩
  rcases h with ⟨rfl, rfl⟩ | h
  · have := h0 _ hk
    rw [hj] at hk; cases hk
    rw [bestK_succ hj, ← bestK_zero, if_pos (by simp only at this ⊢; omega)]
  · rw [bestK_succ hk, h, if_neg hlt]
theorem bestN_done {t : Tr} {j : Nat} {e : Dig} {p : Block} (hok : TOk t) (hj : t.nodes[j]? = some (e, p)) (h : (t.nodes.length = 0 ∧ j = 0) ∨ bestK t t.nodes.length = (e, p.round)) : e = bestD t := by
  rcases h with ⟨h, _⟩ | h
  · obtain ⟨b, r, hr⟩ := hok.hd
    rw [hr] at h; cases h
  · rw [← bestD_def, h]
attribute [local irreducible] Gl Gc Gx Gs Runs Wt
attribute [local irreducible] rowR blk VlR ElR dc qcC blkC ModR TreeR gid idOf pathL upL upJ idxN bestD bestK cellT
theorem rline_ok {w : World} {F : Nat → Prop} {m : Nat} {t : Tr} {css : List (List Value)} (hx : RdMod w (fun k => ¬ F k) m t css) (hok : TOk t) {la : Option Addr} {lc : Nat} {bcs : List (List Value)} (hb : RdRow w (fun k => ¬ F k) 39 la bcs.length bcs.flatten) (hb1 : ∀ v ∈ bcs.flatten, v.oneCell' = true) (hbn : bcs.length ≤ 1000000) (hr0 : ∀ p, t.nodes[0]? = some p → 0 ≤ p.2.round) (h : stars [] w F) :
    Calls Tryz.prog 12 #[.slice la bcs.length lc, .pointer (some ⟨m, 0, none⟩)] w (Post w F (fun r : Option Addr × Nat => .slice r.1 (lcT t css bcs).length r.2) (fun r => [rowR 51 39 r.1 (lcT t css bcs).length r.2 (lcT t css bcs).flatten])) := by
 obtain ⟨na, nc, ca, cc, hM⟩ := hx; obtain ⟨hmA, hrt, h16, h17⟩ := hM.cells; have hle := hok.le
 have hcl := hok.cl
 obtain ⟨ga, oa, e0, p0, hna, hgA, hn0⟩ := nd_first hok hM; subst hna; have hpl := pathL_len t (bestD t)
 have hxx := hM
 refine g_enter (env := [(0, .slice la bcs.length lc), (1, .pointer (some ⟨m, 0, none⟩))]) Tryz.func12 rfl h Tryz.ntmps12 rfl rfl ?_; refine gsr (zxa ?_); refine zxs ?_; refine ze0 (fun b13 => ?_)
 refine zxm ?_; refine zap (m := 0) (j := bcs.length) (fun w hw => hw.rdOld hb) hb1 (by omega) (fun a15 c15 => ?_)
 rw [Nat.zero_add, List.nil_append]; refine zxa ?_; refine zxs ?_; refine zxa ?_; refine gnt (gc_seq (gsr (zxm ?_))); refine gp znc ?_; refine gp zfa ?_; refine gp (r_ld1o rfl Ty.row_96 h16 hmA) ?_; refine gp zln ?_; refine zxm ?_; refine gnt (gc_block (gc_loop (α := Nat × Nat) (fun y => [pureR (y.1 ≤ t.nodes.length ∧ bestN t y.1 y.2), rowR 51 39 a15 bcs.length c15 bcs.flatten]) (fun y => [(21, .int .i64 (y.1 : Int)), (6, .int .i64 (y.2 : Int))]) [7, 8, 22, 23, 24, 25, 26, 27, 28, 29, 30, 31, 32, 33, 34, 35, 36, 37, 38, 39, 40] (fun y => t.nodes.length - y.1) (0, 0) ?_ ?_ ?_))
 ·refine env_start (by kernel_rfl)
 ·exact zlp (p := 0 ≤ t.nodes.length ∧ bestN t 0 0) ⟨Nat.zero_le _, bestN_zero hn0⟩
 ·intro y u; obtain ⟨k, j⟩ := y; refine gc_pureR (fun hk => ?_)
  obtain ⟨hk, hbn2⟩ := hk; replace hk : k ≤ t.nodes.length := hk
  obtain ⟨e, p, hj, hbk⟩ := hbn2; replace hj : t.nodes[j]? = some (e, p) := hj
  replace hbk : (k = 0 ∧ j = 0) ∨ bestK t k = (e, p.round) := hbk
  have hjl := (List.getElem?_eq_some_iff.1 hj).1
  obtain ⟨cq, hcq, hw55, hp1, hp2, hp3, hl39, ho39, h17b⟩ := nd_in hM hj; refine gsr (gp zlt ?_); refine gnt (gc_seq (gif rfl (fun hc22 => ?_) (fun hc22 => ?_)))
  ·try simp only at hc22
   have hk' : k < t.nodes.length := by omega
   obtain ⟨⟨ek, bk⟩, hkn⟩ : ∃ p, t.nodes[k]? = some p := ⟨t.nodes[k], List.getElem?_eq_getElem hk'⟩; obtain ⟨ck, hck, kw55, kp1, kp2, kp3, kl39, ko39, k17⟩ := nd_in hM hkn; have hl55 : (dc ek ++ ck).length = 55 := by rw [List.length_append, dc_length, kl39]
   have ho55 := all_app' (dc_one ek) ko39
   refine gc_skip (gx_then (gc_seq (gc_block (gsr (zxm ?_))))); refine gp (r_val (v' := .pointer (some ⟨ga, oa + k * 55, none⟩)) (zia (i := ((k : Nat) : Int))) (by rw [Int.toNat_natCast])) ?_; refine gp (r_ldNo (seg := dc ek ++ ck) rfl Ty.row_101 Ty.sz_101 kw55 hl55 (by decide) hgA) ?_; refine zal fun b8 => ?_; refine zxa ?_; refine zsA hl55 ho55 ?_; refine gnt (gc_seq (gc_regionS (by kernel_rfl) (by kernel_rfl) ?_)); refine sp zfa ?_; refine sp zfa ?_; refine sp (zl (v := .int .i64 bk.round) (hv := k17)) ?_; refine sp zmv ?_; refine sp znc ?_; refine sp zfa ?_; refine sp (r_ld1o rfl Ty.row_96 h16 hmA) ?_; refine sp zmv ?_; refine sp (r_val (v' := .pointer (some ⟨ga, oa + j * 55, none⟩)) (zia (i := ((j : Nat) : Int))) (by rw [Int.toNat_natCast])) ?_; refine sp zfa ?_; refine sp zfa ?_; refine sp (r_ld1o rfl Ty.row_3 hp3 hgA) ?_; refine sp zgt ?_; refine gs_nil ?_; refine gx_then (gif rfl (fun hc38 => ?_) (fun hc38 => ?_))
   ·refine gc_region (zxm ?_); refine zxa ?_; refine gl_nil (gx_block_normal (gx_then (gc_region (gp zad ?_)))); refine zxm ?_; refine gl_nil (zrd ((k + 1, k)) ?_ ?_)
    ·show t.nodes.length - (k + 1) < t.nodes.length - k
     omega
    ·exact zlp (p := k + 1 ≤ t.nodes.length ∧ bestN t (k + 1) k) ⟨by omega, bestN_hit hj hbk hkn (by have h38 := hc38; (try simp only at h38); omega)⟩
   ·refine gc_skip (gx_block_normal (gx_then (gc_region (gp zad ?_)))); refine zxm ?_; refine gl_nil (zrd ((k + 1, j)) ?_ ?_)
    ·show t.nodes.length - (k + 1) < t.nodes.length - k
     omega
    ·exact zlp (p := k + 1 ≤ t.nodes.length ∧ bestN t (k + 1) j) ⟨by omega, bestN_miss hr0 hj hbk hkn (by have h38 := hc38; (try simp only at h38); omega)⟩
  ·try simp only at hc22
   obtain rfl : k = t.nodes.length := by omega
   obtain rfl := bestN_done hok hj hbk; refine gc_exit ?_; refine gx_then_exit ?_; refine gx_round_exit ?_; refine gx_block_hit ?_; refine gx_then (gsr (zxm ?_)); refine zxm ?_; refine gp znc ?_; refine gp zfa ?_; refine gp (r_ld1o rfl Ty.row_96 h16 hmA) ?_; refine zxm ?_; refine gp (r_val (v' := .pointer (some ⟨ga, oa + j * 55, none⟩)) (zia (i := ((j : Nat) : Int))) (by rw [Int.toNat_natCast])) ?_; refine gp zfa ?_; refine gp (r_ldNo (seg := dc (bestD t)) rfl Ty.row_27 Ty.sz_27 hp1 (dc_length _) (by decide) hgA) ?_; refine zc ?_ (c := fun w1 F1 F2 h1 h2 hd hst => rpath_ok (d := bestD t) (RdMod.mv ⟨_, nc, ca, cc, hxx⟩ hst.still) hok h1)
   rintro ⟨a51, c51⟩
   refine zxm ?_; refine gp zex ?_; refine gp zex ?_; refine zxa ?_; refine zxa ?_; refine gnt (gc_seq (gsr (zxm ?_))); refine gp zln ?_; refine zxm ?_; refine gnt (gc_block (gc_loop (α := Nat × (Option Addr × Nat)) (fun y => [pureR (y.1 ≤ (pathL t (bestD t)).length), rowR 27 16 a51 (pathL t (bestD t)).length c51 ((pathL t (bestD t)).map dc).flatten, rowR 51 39 y.2.1 (bcs.length + y.1) y.2.2 (bcs ++ (((pathL t (bestD t)).take y.1).map (cellT t css))).flatten]) (fun y => [(56, .int .i64 (y.1 : Int)), (5, .slice y.2.1 (bcs.length + y.1) y.2.2)]) [12, 57, 58, 59, 60, 61, 62, 63, 64, 65, 66, 67, 68, 69, 70, 71, 72, 73] (fun y => (pathL t (bestD t)).length - y.1) (0, (a15, c15)) ?_ ?_ ?_))
   ·refine env_start (by kernel_rfl)
   ·intro w' hw; refine St.pureI (p := 0 ≤ (pathL t (bestD t)).length) (Nat.zero_le _) ?_; have e1 : bcs ++ (((pathL t (bestD t)).take 0).map (cellT t css)) = bcs := by simp
    show St w F [rowR 27 16 a51 (pathL t (bestD t)).length c51 ((pathL t (bestD t)).map dc).flatten, rowR 51 39 a15 (bcs.length + 0) c15 (bcs ++ (((pathL t (bestD t)).take 0).map (cellT t css))).flatten] w'
    rw [e1]; exact hw.z
   ·intro y u; obtain ⟨i, ⟨a6, c6⟩⟩ := y; refine gc_pureR (fun hi => ?_)
    replace hi : i ≤ (pathL t (bestD t)).length := hi
    refine gsr (gp zlt ?_); refine gnt (gc_seq (gif rfl (fun hc57 => ?_) (fun hc57 => ?_)))
    ·try simp only at hc57
     have hi' : i < (pathL t (bestD t)).length := by omega
     obtain ⟨ez, he⟩ : ∃ e, (pathL t (bestD t))[i]? = some e := ⟨(pathL t (bestD t))[i], List.getElem?_eq_getElem hi'⟩; obtain ⟨_, bz, hlz⟩ := pathL_mem (List.mem_of_getElem? he); obtain ⟨jz, hjz, hnz⟩ := idxN_some (k := 0) hlz; rw [Nat.zero_add] at hjz; have hjzl := (List.getElem?_eq_some_iff.1 hnz).1
     obtain ⟨cz, hcz, zw55, zp1, zp2, zp3, zl39, zo39, z17⟩ := nd_in hM hnz; have hct := cellT_eq hjz hcz
     have iz := Len.of zl39
     have jz2 := One.of zo39
     refine gc_fact (fun w' hw => St.rowAt (hw.sel (M := [rowR 27 16 a51 (pathL t (bestD t)).length c51 ((pathL t (bestD t)).map dc).flatten]) (by repeat (first | exact Sel.nil | (apply Sel.cons; · (repeat (first | exact Pick.here | apply Pick.there)))))) .here (by omega)) (fun hra => ?_)
     obtain ⟨_, g51, o51, ha51⟩ := hra; subst ha51; refine gc_skip (gx_then (gc_seq (gc_block (gsr (gp (r_val (v' := .pointer (some ⟨g51, o51 + i * 16, none⟩)) (zia (i := ((i : Nat) : Int))) (by rw [Int.toNat_natCast])) ?_))))); refine gp (r_ldRow (i := i) (g := g51) (o := o51) rfl Ty.row_27 Ty.sz_27 (by repeat (first | exact Pick.here | apply Pick.there)) (fun c hc => by obtain ⟨x, _, rfl⟩ := List.mem_map.1 hc; exact dc_length x) (by rw [List.getElem?_map, he]; rfl) hi') ?_
     refine zal fun b12 => ?_; refine zsA (dc_length _) (dc_one _) ?_; refine gnt (gc_regionU 12 ([blk b12 27 (dc ez)]) ?_); refine ypu 0 rfl zmv ?_; refine ypu 1 rfl zmv ?_; refine ypu 2 rfl znc ?_; refine ypu 3 rfl zfa ?_; refine ypu 4 rfl (r_ld1o rfl Ty.row_96 h16 hmA) ?_; refine ypu 5 rfl zmv ?_; refine ypu 6 rfl (zLa (cs := dc ez)) ?_; refine you 7 rfl ?_; refine zc (fun _ => ?_) (c := fun w1 F1 F2 h1 h2 hd hst => rfind_ok (d := ez) (RdMod.mv ⟨_, nc, ca, cc, hxx⟩ hst.still) hok h1)
     rw [hjz]; refine yxu ?_; refine ypu 8 rfl (r_val (v' := .pointer (some ⟨ga, oa + jz * 55, none⟩)) (zia (i := ((jz : Nat) : Int))) (by rw [Int.toNat_natCast])) ?_; refine ypu 9 rfl zfa ?_; refine ypu 10 rfl (r_ldNo (seg := cz) rfl Ty.row_51 Ty.sz_51 zp2 zl39 (by decide) hgA) ?_; refine you 11 rfl ?_; refine zeN fun b71 => ?_; refine yxu ?_; refine yzu ?_; refine zapo (m := bcs.length + i) (j := 1) (fun a72 c72 => ?_)
     refine zxa ?_; refine gl_nil (gx_block_normal (gx_then (gc_region (gp zad ?_)))); refine zxm ?_; refine gl_nil (zrd ((i + 1, (a72, c72))) ?_ ?_)
     ·show (pathL t (bestD t)).length - (i + 1) < (pathL t (bestD t)).length - i
      omega
     ·intro w' hw; refine St.pureI (p := i + 1 ≤ (pathL t (bestD t)).length) (by omega) ?_; have e2 : (bcs ++ (((pathL t (bestD t)).take (i + 1)).map (cellT t css))).flatten = (bcs ++ (((pathL t (bestD t)).take i).map (cellT t css))).flatten ++ cz := by rw [takeB_snoc he, List.map_append, List.map_cons, List.map_nil, hct, ← List.append_assoc, List.flatten_append]; simp
      show St w F [rowR 27 16 (some ⟨g51, o51, none⟩) (pathL t (bestD t)).length c51 ((pathL t (bestD t)).map dc).flatten, rowR 51 39 a72 (bcs.length + (i + 1)) c72 (bcs ++ (((pathL t (bestD t)).take (i + 1)).map (cellT t css))).flatten] w'
      rw [e2, ← Nat.add_assoc]; exact hw.z
    ·try simp only at hc57
     obtain rfl : i = (pathL t (bestD t)).length := by omega
     refine gc_exit ?_; refine gx_then_exit ?_; refine gx_round_exit ?_; refine gx_block_hit ?_; refine gx_then (gsr (zxm ?_)); refine zxa ?_; refine gnt (gc_ret (gx_ret1 rfl (by conv => lhs; whnf) ?_)); have e1 : (pathL t (bestD t)).take (pathL t (bestD t)).length = (pathL t (bestD t)) := List.take_length
     intro w' hw; replace hw := hw.sel (M := [rowR 51 39 a6 (bcs.length + (pathL t (bestD t)).length) c6 (bcs ++ (((pathL t (bestD t)).take (pathL t (bestD t)).length).map (cellT t css))).flatten]) (by repeat (first | exact Sel.nil | (apply Sel.cons; · (repeat (first | exact Pick.here | apply Pick.there)))))
     rw [e1, lcT_eq, ← lcT_len t css bcs] at hw; exact ⟨(a6, c6), by rw [lcT_len], hw⟩
end
section
theorem idxN_mem {d : Dig} {l : List (Dig × Block)} {b : Block} (h : lkN d l = some b) : ∃ j, idxN d 0 l = ((j : Nat) : Int) ∧ l[j]? = some (d, b) := by
  obtain ⟨j, h1, h2⟩ := idxN_some (k := 0) h
  exact ⟨j, by rw [h1, Nat.zero_add], h2⟩
theorem lcT_rd {w : World} {A : Nat → Prop} {m : Nat} {t : Tr} {css bcs : List (List Value)} {bs : List Block} (hx : RdMod w A m t css) (hl : bcs.length = bs.length) (hb : ∀ (i : Nat) c x, bcs[i]? = some c → bs[i]? = some x → ∃ w A, RdBlock w A c x) :
    ∀ (i : Nat) c x, (lcT t css bcs)[i]? = some c → (lineL bs t)[i]? = some x → ∃ w A, RdBlock w A c x := fun i c x hc hx2 => by
  unfold lcT at hc
  rw [← lineL_def] at hx2
  by_cases hi : i < bcs.length
  · rw [List.getElem?_append_left hi] at hc
    rw [List.getElem?_append_left (by omega)] at hx2
    exact hb i c x hc hx2
  · rw [List.getElem?_append_right (by omega), List.getElem?_map] at hc
    rw [List.getElem?_append_right (by omega), List.getElem?_map, ← hl] at hx2
    cases he : (pathL t (bestD t))[i - bcs.length]? with
    | none => rw [he] at hc; cases hc
    | some e =>
      rw [he] at hc hx2
      cases hc; cases hx2
      obtain ⟨_, b, hlk⟩ := pathL_mem (List.mem_of_getElem? he)
      obtain ⟨j, hj, hn⟩ := idxN_mem hlk
      obtain ⟨na, nc, ca, cc, hM⟩ := hx
      obtain ⟨ga, oa, ce, y, ha, _, _, hra, hl55, hy, rfl, wq, Aq, hrd⟩ := hM.ns.elem (i := j) (by decide) (List.getElem?_eq_some_iff.1 hn).1
      obtain ⟨h1, h2⟩ := zip_at hy
      rw [hn] at h1
      have e2 : y.1.2 = b := by rw [← Option.some.inj h1]
      rw [cellT_eq hj h2, show bOf t e = b by rw [bOf, hlk]; rfl, ← e2]
      exact ⟨wq, Aq, hrd⟩
theorem lcT_39 {w : World} {A : Nat → Prop} {m : Nat} {t : Tr} {css bcs : List (List Value)} {bs : List Block} (hx : RdMod w A m t css) (hl : bcs.length = bs.length) (hb : ∀ (i : Nat) c x, bcs[i]? = some c → bs[i]? = some x → ∃ w A, RdBlock w A c x) : ∀ c ∈ lcT t css bcs, List.length c = 39 := fun c hc => by
  obtain ⟨i, hi, he⟩ := List.mem_iff_getElem.1 hc
  have hll : (lineL bs t).length = (lcT t css bcs).length := by rw [lcT_len, ← lineL_def, List.length_append, List.length_map, hl]
  obtain ⟨w, A, hr⟩ := lcT_rd hx hl hb i c ((lineL bs t)[i]'(by omega)) (by rw [List.getElem?_eq_getElem hi, he]) (List.getElem?_eq_getElem _)
  exact hr.len
def behI (l : List Block) (d : Dig) (j n : Nat) : Prop := j + n ≤ l.length ∧ (∀ i, i < j → ∀ b, l[i]? = some b → b.parent ≠ d) ∧ (0 < n → ∃ r, l[j]? = some r ∧ r.parent = d) ∧ ∀ i b, i < n → (l.drop j)[i]? = some b → ¬ stopB i b
section
variable {l : List Block} {d : Dig} {j n : Nat} {b : Block}
theorem behI_zero : behI l d 0 0 := ⟨Nat.zero_le _, fun i h => absurd h (Nat.not_lt_zero _), fun h => absurd h (Nat.lt_irrefl _), fun i _ h => absurd h (Nat.not_lt_zero _)⟩
theorem behI_skip (h : behI l d j 0) (hb : l[j]? = some b) (hn : b.parent ≠ d) : behI l d (j + 1) 0 := by
  refine ⟨(List.getElem?_eq_some_iff.1 hb).1, fun i hi r hr => ?_, fun h => absurd h (Nat.lt_irrefl _), fun i _ h => absurd h (Nat.not_lt_zero _)⟩
  by_cases h' : i < j
  · exact h.2.1 i h' r hr
  · obtain rfl : i = j := by omega
    rw [hb] at hr; cases hr; exact hn
theorem drop_at (hb : l[j + n]? = some b) : (l.drop j)[n]? = some b := by rw [List.getElem?_drop]; exact hb
theorem behI_hit (h : behI l d j n) (hb : l[j + n]? = some b) (hp : n = 0 → b.parent = d) : idxB d 0 l = (j : Int) := by
  by_cases h0 : n = 0
  · subst h0; exact idxB_hit h.2.1 hb (hp rfl)
  · obtain ⟨r, hr, he⟩ := h.2.2.1 (by omega)
    exact idxB_hit h.2.1 hr he
theorem behI_next (h : behI l d j n) (hb : l[j + n]? = some b) (hp : n = 0 → b.parent = d) (hs : ¬ stopB n b) : behI l d j (n + 1) := by
  refine ⟨by have := (List.getElem?_eq_some_iff.1 hb).1; omega, h.2.1, fun _ => ?_, fun i r hi hr => ?_⟩
  · by_cases h0 : n = 0
    · subst h0; exact ⟨b, hb, hp rfl⟩
    · exact h.2.2.1 (by omega)
  · by_cases h' : i < n
    · exact h.2.2.2 i r h' hr
    · obtain rfl : i = n := by omega
      rw [drop_at hb] at hr; cases hr; exact hs
theorem behI_stop (h : behI l d j n) (hb : l[j + n]? = some b) (hp : n = 0 → b.parent = d) (hs : stopB n b) : behL l d = (l.drop j).take (n + 1) := by
  rw [behL_some (behI_hit h hb hp)]
  exact cut_stop (drop_at hb) (fun i r hi hr => h.2.2.2 i r hi hr) hs
theorem behI_end (h : behI l d j n) (he : j + n = l.length) : behL l d = (l.drop j).take n := by
  by_cases h0 : n = 0
  · subst h0
    rw [behL_none (idxB_miss fun i hi r hr => h.2.1 i (by omega) r hr)]; simp
  · obtain ⟨r, hr, hp⟩ := h.2.2.1 (by omega)
    rw [behL_some (idxB_hit h.2.1 hr hp)]
    exact cut_end (by rw [List.length_drop]; omega) (fun i r hi hr => h.2.2.2 i r hi hr)
theorem behI_len (h : j + n ≤ l.length) (e : behL l d = (l.drop j).take n) : n = (behL l d).length := by rw [e, List.length_take, List.length_drop]; omega
end
attribute [local irreducible] Gl Gc Gx Gs Runs Wt
attribute [local irreducible] rowR blk VlR ElR dc qcC blkC ModR TreeR gid idOf pathL upL idxN bestD bestK cellT lcT lineL behL
theorem rbehind_ok {w : World} {F : Nat → Prop} {m : Nat} {t : Tr} {css : List (List Value)} (hx : RdMod w (fun k => ¬ F k) m t css) (hok : TOk t) {la : Option Addr} {lc : Nat} {bcs : List (List Value)} {bs : List Block} {d : Dig} (hb : RdRow w (fun k => ¬ F k) 39 la bcs.length bcs.flatten) (hb1 : ∀ v ∈ bcs.flatten, v.oneCell' = true) (hbn : bcs.length ≤ 1000000) (hbl : bcs.length = bs.length) (hbr : ∀ (i : Nat) c x, bcs[i]? = some c → bs[i]? = some x → ∃ w A, RdBlock w A c x) (hr0 : ∀ p, t.nodes[0]? = some p → 0 ≤ p.2.round) (h : stars [] w F) :
    Calls Tryz.prog 14 #[.slice la bcs.length lc, .pointer (some ⟨m, 0, none⟩), .agg (dc d).toArray] w (Post w F (fun r : (Option Addr × Nat) × (Nat × Nat) => .slice r.1.1 (behL (lineL bs t) d).length r.1.2) (fun r => [pureR (behL (lineL bs t) d = ((lineL bs t).drop r.2.1).take r.2.2), rowR 51 39 r.1.1 (behL (lineL bs t) d).length r.1.2 (((lcT t css bcs).drop r.2.1).take r.2.2).flatten])) := by
 have hle := hok.le
 have hpl := pathL_len t (bestD t)
 have hel := lcT_rd hx hbl hbr
 have hcx := lcT_39 hx hbl hbr
 have hcl : (lcT t css bcs).length = (lineL bs t).length := by rw [lcT_len, ← lineL_def, List.length_append, List.length_map, hbl]
 have hll : (lineL bs t).length ≤ 1000016 := by rw [← hcl, lcT_len]; omega
 refine g_enter (env := [(0, .slice la bcs.length lc), (1, .pointer (some ⟨m, 0, none⟩)), (2, .agg (dc d).toArray)]) Tryz.func14 rfl h Tryz.ntmps14 rfl rfl ?_; refine gsr (zbN fun b5 => ?_); refine zxa ?_; refine zxs ?_; refine ze0 (fun b10 => ?_)
 refine zxa ?_; refine gnt (gc_seq (gsr (zxm ?_))); refine zxm ?_; refine zc ?_ (c := fun w1 F1 F2 h1 h2 hd hst => rline_ok (hx.mv hst.still) hok (hb.mv hst.still) hb1 hbn hr0 h1)
 rintro ⟨a13, c13⟩
 refine gp zln ?_; refine zxm ?_; refine gnt (gc_block (gc_loop (α := (Nat × Nat) × (Option Addr × Nat)) (fun y => [pureR (behI (lineL bs t) d y.1.1 y.1.2), blk b5 27 (dc d), rowR 51 39 a13 (lcT t css bcs).length c13 (lcT t css bcs).flatten, rowR 51 39 y.2.1 y.1.2 y.2.2 (((lcT t css bcs).drop y.1.1).take y.1.2).flatten]) (fun y => [(15, .int .i64 ((y.1.1 + y.1.2 : Nat) : Int)), (7, .slice y.2.1 y.1.2 y.2.2)]) [9, 16, 17, 18, 19, 20, 21, 22, 23, 24, 25, 26, 27, 28, 29, 30, 31, 32, 33, 34, 35, 36, 37, 38, 39, 40, 41] (fun y => (lineL bs t).length - (y.1.1 + y.1.2)) ((0, 0), (some ⟨b10, 0, none⟩, 0)) ?_ ?_ ?_))
 ·refine env_start (by kernel_rfl)
 ·exact zlp (p := behI (lineL bs t) d 0 0) behI_zero
 ·intro y u; obtain ⟨⟨j, n⟩, ⟨a, c⟩⟩ := y; refine gc_pureR (fun hbi => ?_)
  replace hbi : behI (lineL bs t) d j n := hbi
  have hjn := hbi.1
  refine gsr (gp zlt ?_); refine gnt (gc_seq (gif rfl (fun hc16 => ?_) (fun hc16 => ?_)))
  ·try simp only at hc16
   have hk' : j + n < (lineL bs t).length := by rw [hcl] at hc16; omega
   obtain ⟨bx, hbx⟩ : ∃ bx, (lineL bs t)[j + n]? = some bx := ⟨(lineL bs t)[j + n]'hk', List.getElem?_eq_getElem hk'⟩; obtain ⟨cp, hcp⟩ : ∃ cp, (lcT t css bcs)[j + n]? = some cp := ⟨(lcT t css bcs)[j + n]'(by rw [hcl]; exact hk'), List.getElem?_eq_getElem _⟩; obtain ⟨wp, Ap, hrp⟩ := hel _ _ _ hcp hbx; have hbr := hrp
   obtain ⟨qj, xa1, xn1, xc1, xa2, xn2, xc2, rfl, hqj, _, _, _, hxn⟩ := hrp; have hxl := hxn.len (by decide)
   have iqj := Len.of hqj.len
   have jqj := One.of hqj.one
   refine gc_fact (fun w' hw => St.rowAt (hw.sel (M := [rowR 51 39 a13 (lcT t css bcs).length c13 (lcT t css bcs).flatten]) (by repeat (first | exact Sel.nil | (apply Sel.cons; · (repeat (first | exact Pick.here | apply Pick.there)))))) .here (by omega)) (fun hra => ?_)
   obtain ⟨_, gl, ol, hal⟩ := hra; subst hal; refine gc_skip (gx_then (gc_seq (gc_block (gsr (gp (r_val (v' := .pointer (some ⟨gl, ol + (j + n) * 39, none⟩)) (zia (i := ((j + n : Nat) : Int)) (hm := by omega)) (by rw [Int.toNat_natCast])) ?_))))); refine gp (r_ldRow (i := j + n) (g := gl) (o := ol) rfl Ty.row_51 Ty.sz_51 (by repeat (first | exact Pick.here | apply Pick.there)) hcx hcp (by omega)) ?_; refine zal fun b9 => ?_; refine gl_eqc (cs' := blkC) (by repeat (first | exact Pick.here | apply Pick.there)) (by kernel_rfl) ?_; refine zsA (by simp [dc_length, hqj.len]) (all_cons' rfl (all_cons' rfl (all_app' (dc_one _) (all_app' hqj.one (all_cons' rfl (all_cons' rfl all_nil')))))) ?_; refine gnt (gc_seq (gc_seq ?_)); by_cases hn0 : n = 0
   ·by_cases hP : bx.parent = d
    ·have hpn : n = 0 → bx.parent = d := fun _ => hP
     refine gc_region (zxm ?_); refine gp zln ?_; refine gp (r_bool (c := true) (r_eql_int rfl rfl) (decide_eq_true (show ((n : Nat) : Int) = 0 by omega))) ?_; refine zxm ?_; refine gq zfa ?_; refine gq zL ?_; refine gq zL ?_; refine gq (r_bool (c := false) znd (by simp [hP])) ?_; refine gp zpk ?_; refine gnt (gc_condF rfl rfl ?_); refine gc_skip (gx_then (gsr (zxm ?_))); refine gp (zLa (cs := (.int .i64 bx.epoch :: .int .i64 bx.round :: (dc bx.parent ++ (qj ++ [.slice xa1 xn1 xc1, .slice xa2 xn2 xc2]))))) ?_; refine zeN fun b30 => ?_; refine zapo (m := n) (j := 1) (fun a31 c31 => ?_)
     refine zxa ?_; refine gnt (gc_seq ?_); by_cases hN : 0 < bx.next.length
     ·refine gc_region (gp zfa ?_); refine gp zl ?_; refine gp zln ?_; refine gp (r_bool (c := true) zgt (decide_eq_true (by omega))) ?_; refine zxm ?_; refine gn ?_; refine gn ?_; refine gn ?_; refine gp zpk ?_; refine gnt (gc_condT rfl rfl ?_); refine gc_exit ?_; refine gx_block_miss rfl ?_; refine gx_then_exit ?_; refine gx_round_exit ?_; refine gx_block_hit ?_; refine gx_then (gsr (zxm ?_)); refine zxa ?_; refine gnt (gc_ret (gx_ret1 rfl (by conv => lhs; whnf) ?_)); have e2 : (((lcT t css bcs).drop j).take (n + 1)).flatten = (((lcT t css bcs).drop j).take n).flatten ++ (.int .i64 bx.epoch :: .int .i64 bx.round :: (dc bx.parent ++ (qj ++ [.slice xa1 xn1 xc1, .slice xa2 xn2 xc2]))) := by rw [takeB_snoc (by rw [List.getElem?_drop]; exact hcp), List.flatten_append]; simp
      rw [← e2]; have heq := behI_stop hbi hbx hpn (.inl hN)
      have hln := behI_len (j := j) (n := (n + 1)) (by omega) heq
      intro w' hw; refine ⟨((a31, c31), (j, (n + 1))), by rw [← hln], St.pureI (p := behL (lineL bs t) d = ((lineL bs t).drop j).take (n + 1)) heq ?_⟩
      show St w F [rowR 51 39 a31 (behL (lineL bs t) d).length c31 ((((lcT t css bcs)).drop j).take (n + 1)).flatten] w'
      rw [← hln]; exact hw.z
     ·by_cases h8 : n + 1 = 8
      ·refine gc_region (gp zfa ?_); refine gp zl ?_; refine gp zln ?_; refine gp (r_bool (c := false) zgt (decide_eq_false (by omega))) ?_; refine zxm ?_; refine gq zmv ?_; refine gq zln ?_; refine gq (r_bool (c := true) (r_eql_int rfl rfl) (decide_eq_true (by omega))) ?_; refine gp zpk ?_; refine gnt (gc_condT rfl rfl ?_); refine gc_exit ?_; refine gx_block_miss rfl ?_; refine gx_then_exit ?_; refine gx_round_exit ?_; refine gx_block_hit ?_; refine gx_then (gsr (zxm ?_)); refine zxa ?_; refine gnt (gc_ret (gx_ret1 rfl (by conv => lhs; whnf) ?_)); have e2 : (((lcT t css bcs).drop j).take (n + 1)).flatten = (((lcT t css bcs).drop j).take n).flatten ++ (.int .i64 bx.epoch :: .int .i64 bx.round :: (dc bx.parent ++ (qj ++ [.slice xa1 xn1 xc1, .slice xa2 xn2 xc2]))) := by rw [takeB_snoc (by rw [List.getElem?_drop]; exact hcp), List.flatten_append]; simp
       rw [← e2]; have heq := behI_stop hbi hbx hpn (.inr h8)
       have hln := behI_len (j := j) (n := (n + 1)) (by omega) heq
       intro w' hw; refine ⟨((a31, c31), (j, (n + 1))), by rw [← hln], St.pureI (p := behL (lineL bs t) d = ((lineL bs t).drop j).take (n + 1)) heq ?_⟩
       show St w F [rowR 51 39 a31 (behL (lineL bs t) d).length c31 ((((lcT t css bcs)).drop j).take (n + 1)).flatten] w'
       rw [← hln]; exact hw.z
      ·refine gc_region (gp zfa ?_); refine gp zl ?_; refine gp zln ?_; refine gp (r_bool (c := false) zgt (decide_eq_false (by omega))) ?_; refine zxm ?_; refine gq zmv ?_; refine gq zln ?_; refine gq (r_bool (c := false) (r_eql_int rfl rfl) (decide_eq_false (by omega))) ?_; refine gp zpk ?_; refine gnt (gc_condF rfl rfl ?_); refine gc_skip (gx_block_normal (gx_then (gc_region (gp (zad (i := ((j + n : Nat) : Int)) (h := wrap_i64 (by omega) (by omega))) ?_)))); refine zxm ?_; refine gl_nil (zrd (((j, n + 1), (a31, c31))) ?_ ?_)
       ·show (lineL bs t).length - (j + (n + 1)) < (lineL bs t).length - (j + n)
        omega
       ·have e2 : (((lcT t css bcs).drop j).take (n + 1)).flatten = (((lcT t css bcs).drop j).take n).flatten ++ (.int .i64 bx.epoch :: .int .i64 bx.round :: (dc bx.parent ++ (qj ++ [.slice xa1 xn1 xc1, .slice xa2 xn2 xc2]))) := by rw [takeB_snoc (by rw [List.getElem?_drop]; exact hcp), List.flatten_append]; simp
        intro w' hw; refine St.pureI (p := behI (lineL bs t) d j (n + 1)) (behI_next hbi hbx hpn (by unfold stopB; omega)) ?_; show St w F [blk b5 27 (dc d), rowR 51 39 (some ⟨gl, ol, none⟩) (lcT t css bcs).length c13 (lcT t css bcs).flatten, rowR 51 39 a31 (n + 1) c31 (((lcT t css bcs).drop j).take (n + 1)).flatten] w'
        rw [e2]; exact hw.z
    ·subst hn0; refine gc_region (zxm ?_); refine gp zln ?_; refine gp (r_bool (c := true) (r_eql_int rfl rfl) (rfl)) ?_; refine zxm ?_; refine gq zfa ?_; refine gq zL ?_; refine gq zL ?_; refine gq (r_bool (c := true) znd (by simp [hP])) ?_; refine gp zpk ?_; refine gnt (gc_condT rfl rfl ?_); refine gc_exit ?_; refine gx_then_exit ?_; refine gx_block_hit ?_; refine gx_then (gc_region (gp (zad (i := ((j + 0 : Nat) : Int)) (h := wrap_i64 (by omega) (by omega))) ?_)); refine zxm ?_; refine gl_nil (zrd (((j + 1, 0), (a, c))) ?_ ?_)
     ·show (lineL bs t).length - (j + 1 + 0) < (lineL bs t).length - (j + 0)
      omega
     ·exact zlp (p := behI (lineL bs t) d (j + 1) 0) (behI_skip hbi hbx hP)
   ·have hpn : n = 0 → bx.parent = d := fun h => absurd h hn0
    refine gc_region (zxm ?_); refine gp zln ?_; refine gp (r_bool (c := false) (r_eql_int rfl rfl) (decide_eq_false (show ¬ ((n : Nat) : Int) = 0 by omega))) ?_; refine zxm ?_; refine gn ?_; refine gn ?_; refine gn ?_; refine gn ?_; refine gp zpk ?_; refine gnt (gc_condF rfl rfl ?_); refine gc_skip (gx_then (gsr (zxm ?_))); refine gp (zLa (cs := (.int .i64 bx.epoch :: .int .i64 bx.round :: (dc bx.parent ++ (qj ++ [.slice xa1 xn1 xc1, .slice xa2 xn2 xc2]))))) ?_; refine zeN fun b30 => ?_; refine zapo (m := n) (j := 1) (fun a31 c31 => ?_)
    refine zxa ?_; refine gnt (gc_seq ?_); by_cases hN : 0 < bx.next.length
    ·refine gc_region (gp zfa ?_); refine gp zl ?_; refine gp zln ?_; refine gp (r_bool (c := true) zgt (decide_eq_true (by omega))) ?_; refine zxm ?_; refine gn ?_; refine gn ?_; refine gn ?_; refine gp zpk ?_; refine gnt (gc_condT rfl rfl ?_); refine gc_exit ?_; refine gx_block_miss rfl ?_; refine gx_then_exit ?_; refine gx_round_exit ?_; refine gx_block_hit ?_; refine gx_then (gsr (zxm ?_)); refine zxa ?_; refine gnt (gc_ret (gx_ret1 rfl (by conv => lhs; whnf) ?_)); have e2 : (((lcT t css bcs).drop j).take (n + 1)).flatten = (((lcT t css bcs).drop j).take n).flatten ++ (.int .i64 bx.epoch :: .int .i64 bx.round :: (dc bx.parent ++ (qj ++ [.slice xa1 xn1 xc1, .slice xa2 xn2 xc2]))) := by rw [takeB_snoc (by rw [List.getElem?_drop]; exact hcp), List.flatten_append]; simp
     rw [← e2]; have heq := behI_stop hbi hbx hpn (.inl hN)
     have hln := behI_len (j := j) (n := (n + 1)) (by omega) heq
     intro w' hw; refine ⟨((a31, c31), (j, (n + 1))), by rw [← hln], St.pureI (p := behL (lineL bs t) d = ((lineL bs t).drop j).take (n + 1)) heq ?_⟩
     show St w F [rowR 51 39 a31 (behL (lineL bs t) d).length c31 ((((lcT t css bcs)).drop j).take (n + 1)).flatten] w'
     rw [← hln]; exact hw.z
    ·by_cases h8 : n + 1 = 8
     ·refine gc_region (gp zfa ?_); refine gp zl ?_; refine gp zln ?_; refine gp (r_bool (c := false) zgt (decide_eq_false (by omega))) ?_; refine zxm ?_; refine gq zmv ?_; refine gq zln ?_; refine gq (r_bool (c := true) (r_eql_int rfl rfl) (decide_eq_true (by omega))) ?_; refine gp zpk ?_; refine gnt (gc_condT rfl rfl ?_); refine gc_exit ?_; refine gx_block_miss rfl ?_; refine gx_then_exit ?_; refine gx_round_exit ?_; refine gx_block_hit ?_; refine gx_then (gsr (zxm ?_)); refine zxa ?_; refine gnt (gc_ret (gx_ret1 rfl (by conv => lhs; whnf) ?_)); have e2 : (((lcT t css bcs).drop j).take (n + 1)).flatten = (((lcT t css bcs).drop j).take n).flatten ++ (.int .i64 bx.epoch :: .int .i64 bx.round :: (dc bx.parent ++ (qj ++ [.slice xa1 xn1 xc1, .slice xa2 xn2 xc2]))) := by rw [takeB_snoc (by rw [List.getElem?_drop]; exact hcp), List.flatten_append]; simp
      rw [← e2]; have heq := behI_stop hbi hbx hpn (.inr h8)
      have hln := behI_len (j := j) (n := (n + 1)) (by omega) heq
      intro w' hw; refine ⟨((a31, c31), (j, (n + 1))), by rw [← hln], St.pureI (p := behL (lineL bs t) d = ((lineL bs t).drop j).take (n + 1)) heq ?_⟩
      show St w F [rowR 51 39 a31 (behL (lineL bs t) d).length c31 ((((lcT t css bcs)).drop j).take (n + 1)).flatten] w'
      rw [← hln]; exact hw.z
     ·refine gc_region (gp zfa ?_); refine gp zl ?_; refine gp zln ?_; refine gp (r_bool (c := false) zgt (decide_eq_false (by omega))) ?_; refine zxm ?_; refine gq zmv ?_; refine gq zln ?_; refine gq (r_bool (c := false) (r_eql_int rfl rfl) (decide_eq_false (by omega))) ?_; refine gp zpk ?_; refine gnt (gc_condF rfl rfl ?_); refine gc_skip (gx_block_normal (gx_then (gc_region (gp (zad (i := ((j + n : Nat) : Int)) (h := wrap_i64 (by omega) (by omega))) ?_)))); refine zxm ?_; refine gl_nil (zrd (((j, n + 1), (a31, c31))) ?_ ?_)
      ·show (lineL bs t).length - (j + (n + 1)) < (lineL bs t).length - (j + n)
       omega
      ·have e2 : (((lcT t css bcs).drop j).take (n + 1)).flatten = (((lcT t css bcs).drop j).take n).flatten ++ (.int .i64 bx.epoch :: .int .i64 bx.round :: (dc bx.parent ++ (qj ++ [.slice xa1 xn1 xc1, .slice xa2 xn2 xc2]))) := by rw [takeB_snoc (by rw [List.getElem?_drop]; exact hcp), List.flatten_append]; simp
       intro w' hw; refine St.pureI (p := behI (lineL bs t) d j (n + 1)) (behI_next hbi hbx hpn (by unfold stopB; omega)) ?_; show St w F [blk b5 27 (dc d), rowR 51 39 (some ⟨gl, ol, none⟩) (lcT t css bcs).length c13 (lcT t css bcs).flatten, rowR 51 39 a31 (n + 1) c31 (((lcT t css bcs).drop j).take (n + 1)).flatten] w'
       rw [e2]; exact hw.z
  ·try simp only at hc16
   have hend : j + n = (lineL bs t).length := by rw [hcl] at hc16; omega
   refine gc_exit ?_; refine gx_then_exit ?_; refine gx_round_exit ?_; refine gx_block_hit ?_; refine gx_then (gsr (zxm ?_)); refine zxa ?_; refine gnt (gc_ret (gx_ret1 rfl (by conv => lhs; whnf) ?_)); have heq := behI_end hbi hend
   have hln := behI_len (j := j) (n := n) (by omega) heq
   intro w' hw; refine ⟨((a, c), (j, n)), by rw [← hln], St.pureI (p := behL (lineL bs t) d = ((lineL bs t).drop j).take n) heq ?_⟩
   show St w F [rowR 51 39 a (behL (lineL bs t) d).length c ((((lcT t css bcs)).drop j).take n).flatten] w'
   rw [← hln]; exact hw.z
end
section
theorem row_rd {L L' : List Res} {w : World} {F1 F2 : Nat → Prop} {e s m c : Nat} {a : Option Addr} {xs : List Value} (h2 : stars L w F2) (hd : ∀ k, F1 k → ¬ F2 k) (hp : Pick L (rowR e s a m c xs) L') : RdRow w (fun k => ¬ F1 k) s a m xs := by
  obtain ⟨G1, h1, hs⟩ := stars_pick hp h2
  exact (rowR.rd h1).mv (still_sub fun k hk h' => hd k h' (hs k hk))
theorem el_one {css : List (List Value)} {l : List Block} (hl : css.length = l.length) (he : ∀ (i : Nat) c x, css[i]? = some c → l[i]? = some x → ∃ w A, RdBlock w A c x) : ∀ v ∈ css.flatten, v.oneCell' = true := fun v hv => by
  obtain ⟨c, hc, hvc⟩ := List.mem_flatten.1 hv
  obtain ⟨i, hi, hg⟩ := List.mem_iff_getElem.1 hc
  obtain ⟨w, A, hr⟩ := he i c (l[i]'(by omega)) (by rw [List.getElem?_eq_getElem hi, hg]) (List.getElem?_eq_getElem _)
  exact hr.one v hvc
theorem lcT_live {R : List Value → Block → Prop} {b0 : Block} {ps ss : List Int} {k : Nat} {c0 : List Value} {css2 bcs : List (List Value)} {bs : List Block} (ht : TrI b0 ps ss k) (hl : bcs.length = bs.length) (h1 : ∀ (i : Nat) c x, bcs[i]? = some c → bs[i]? = some x → R c x) (hl2 : css2.length = (trL b0 ps ss k).length) (h2 : ∀ (i : Nat) c x, css2[i]? = some c → (trL b0 ps ss k)[i]? = some x → R c x) :
    ∀ (i : Nat) c x, (lcT (trT b0 ps ss k) (c0 :: css2) bcs)[i]? = some c → (lineL bs (trT b0 ps ss k))[i]? = some x → R c x := fun i c x hc hx2 => by
  unfold lcT at hc
  rw [← lineL_def] at hx2
  by_cases hi : i < bcs.length
  · rw [List.getElem?_append_left hi] at hc
    rw [List.getElem?_append_left (by omega)] at hx2
    exact h1 i c x hc hx2
  · rw [List.getElem?_append_right (by omega), List.getElem?_map] at hc
    rw [List.getElem?_append_right (by omega), List.getElem?_map, ← hl] at hx2
    cases he : (pathL (trT b0 ps ss k) (bestD (trT b0 ps ss k)))[i - bcs.length]? with
    | none => rw [he] at hc; cases hc
    | some e =>
      rw [he] at hc hx2
      cases hc; cases hx2
      obtain ⟨hne, b, hlk⟩ := pathL_mem (List.mem_of_getElem? he)
      obtain ⟨j, hj, hn⟩ := idxN_mem hlk
      have hn2 := hn
      rw [ht.nd, List.getElem?_map, trB_cons] at hn
      match j, hj, hn, hn2 with
      | 0, hj, hn, hn2 =>
        obtain ⟨b', r, hr⟩ := ht.ok.hd
        rw [hr] at hn2; simp at hn2
        exact absurd hn2.1.symm hne
      | j + 1, hj, hn, _ =>
        rw [List.getElem?_cons_succ] at hn
        cases hb : (trL b0 ps ss k)[j]? with
        | none => rw [hb] at hn; cases hn
        | some b2 =>
          rw [hb] at hn
          have e2 : b2 = b := congrArg Prod.snd (Option.some.inj hn)
          subst e2
          have hlt := (List.getElem?_eq_some_iff.1 hb).1
          have hc2 : css2[j]? = some (css2[j]'(by omega)) := List.getElem?_eq_getElem (by omega)
          rw [cellT_eq hj (c := css2[j]'(by omega)) (by rw [List.getElem?_cons_succ]; exact hc2), show bOf (trT b0 ps ss k) e = b2 by rw [bOf, hlk]; rfl]
          exact h2 j _ _ hc2 hb
theorem cut_live {R : List Value → Block → Prop} {lc : List (List Value)} {l : List Block} (j n : Nat) (h : ∀ (i : Nat) c x, lc[i]? = some c → l[i]? = some x → R c x) : ∀ (i : Nat) c x, ((lc.drop j).take n)[i]? = some c → ((l.drop j).take n)[i]? = some x → R c x := fun i c x hc hx => by
  rw [List.getElem?_take] at hc hx
  split at hc
  · rename_i hlt
    rw [if_pos hlt, List.getElem?_drop] at hx
    rw [List.getElem?_drop] at hc
    exact h (j + i) c x hc hx
  · cases hc
theorem tr_first {b0 : Block} {ps ss : List Int} {k : Nat} (ht : TrI b0 ps ss k) (h0 : 0 ≤ b0.round) : ∀ p, (trT b0 ps ss k).nodes[0]? = some p → 0 ≤ p.2.round := fun p hp => by
  rw [ht.nd, List.getElem?_map, trB_cons] at hp
  simp at hp; subst hp; exact h0
attribute [local irreducible] Gl Gc Gx Gs Runs Wt
attribute [local irreducible] rowR blk VlR ElR dc qcC blkC ModR TreeR gid idOf pathL upL idxN bestD bestK cellT lcT lineL behL
theorem same19_ok {w : World} {F : Nat → Prop} {a1 a2 : Option Addr} {c1 c2 : Nat} {l : List Block} (hx : RdList (RdBlock w (fun k => ¬ F k)) w (fun k => ¬ F k) 39 a1 l.length l) (hy : RdList (RdBlock w (fun k => ¬ F k)) w (fun k => ¬ F k) 39 a2 l.length l) (hln : l.length ≤ 1000000) (h : stars [] w F) :
    Calls Tryz.prog 10 #[.slice a1 l.length c1, .slice a2 l.length c2] w (Post w F (fun _ : Unit => .bool true) (fun _ => [])) := by
 refine g_enter (env := [(0, .slice a1 l.length c1), (1, .slice a2 l.length c2)]) Tryz.func10 rfl h Tryz.ntmps10 rfl rfl ?_; refine gsr (zxa ?_); refine gnt (gc_seq (gsr (zxm ?_))); refine gp zln ?_; refine zxm ?_; refine gp zln ?_; refine gp (r_bool (c := false) zni (by simp)) ?_; refine gnt (gc_condF rfl rfl ?_); refine gc_skip (gx_then (gc_seq (gsr (zxm ?_)))); refine gp zln ?_; refine zxm ?_; refine gnt (gc_block (gc_loop (α := Nat) (fun k => [pureR (k ≤ l.length)]) (fun k => [(13, .int .i64 (k : Int))]) [4, 5, 14, 15, 16, 17, 18, 19, 20, 21, 22, 23, 24, 25, 26] (fun k => l.length - k) 0 ?_ ?_ ?_))
 ·refine env_start (by kernel_rfl)
 ·exact zlp (p := 0 ≤ l.length) (Nat.zero_le _)
 ·intro k u; refine gc_pureR (fun hk => ?_)
  replace hk : k ≤ l.length := hk
  refine gsr (gp zlt ?_); refine gnt (gc_seq (gif rfl (fun hc14 => ?_) (fun hc14 => ?_)))
  ·try simp only at hc14
   have hk' : k < l.length := by omega
   obtain ⟨g1, o1, cs1, x, ha1, hA1, hg1, hra1, hcl1, hl1, hrd1⟩ := hx.elem (by decide) hk'; obtain ⟨g2, o2, cs2, y, ha2, hA2, hg2, hra2, hcl2, hl2, hrd2⟩ := hy.elem (i := k) (by decide) hk'; subst ha1; subst ha2; obtain rfl : x = y := Option.some.inj (hl1.symm.trans hl2); refine gc_skip (gx_then (gc_seq (gc_block (gsr (zxm ?_))))); refine zxa ?_; refine gnt (gc_seq (gc_regionT 8 (by kernel_rfl) (by kernel_rfl) ?_)); refine sp zmv ?_; refine sp zmv ?_; refine sp (r_indexAddr_slice rfl rfl Ty.sl_30 Ty.sz_51 (by omega) (by omega)) ?_; refine sp (r_ldNo rfl Ty.row_51 Ty.sz_51 hra1 hcl1 (by decide) hA1) ?_; refine sp zmv ?_; refine sp zmv ?_; refine sp (r_indexAddr_slice rfl rfl Ty.sl_30 Ty.sz_51 (by omega) (by omega)) ?_; refine sp (r_ldNo rfl Ty.row_51 Ty.sz_51 hra2 hcl2 (by decide) hA2) ?_; refine gs_nil ?_; refine zc (fun _ => ?_) (c := fun w1 F1 F2 h1 h2 hd hst => sameBlock_ok h1 (hrd1.mv hst.still) (hrd2.mv hst.still))
   rw [show decide (x = x) = true from decide_eq_true rfl]; refine gp znt ?_; refine gnt (gc_condF rfl rfl ?_); refine gc_skip (gx_block_normal (gx_then (gc_region (gp zad ?_)))); refine zxm ?_; refine gl_nil (zrd (k + 1) ?_ ?_)
   ·show l.length - (k + 1) < l.length - k
    omega
   ·exact zlp (p := k + 1 ≤ l.length) (by omega)
  ·refine gc_exit ?_; refine gx_then_exit ?_; refine gx_round_exit ?_; refine gx_block_hit ?_; refine gx_then (gsr (zxa ?_)); refine gnt (gc_ret (gx_ret1 rfl (by conv => lhs; whnf) ?_)); exact ze ()
end
end Go.Proofs.YtheonhgffglegaaGreatDoor
