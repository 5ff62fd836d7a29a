/- Walks, by program (wg.py) out of a spec. -/
import Derived.Test.YtkgbbnhdioghmaaDoorRb
namespace Go.Proofs.YtkgbbnhdioghmaaDoor
open Go
set_option linter.unusedVariables false
set_option linter.unusedSimpArgs false


def padDig (l : List UInt8) : Dig := digOf (l ++ List.replicate (16 - l.length) 0)
theorem padDig_cells {l : List UInt8} (h : l.length ≤ 16) : updL zD 0 (l.map B8) = dc (padDig l) := by
  have e : (l ++ List.replicate (16 - l.length) 0).length = 16 := by simp; omega
  rw [padDig, digOf, dif_pos e]
  simp only [dc, updL, List.take_zero, List.nil_append, Nat.zero_add, List.length_map, List.map_append, List.map_replicate]
  rw [zD, List.drop_replicate]
  rfl
theorem ag_dig {σ : RSt} {l : List UInt8} (h : Ag (pTake 16) σ l) : Ag pDig σ (padDig l) := by
  rintro b y r rfl hb
  obtain ⟨l', r1, h1, h2⟩ := pBind_ok hb
  obtain rfl := h b l' r1 rfl h1
  have hl := (pTake_ok h1).2
  obtain ⟨rfl, rfl⟩ := pPure_ok h2
  rw [padDig, hl]; simp
theorem rstep_dig {σ : RSt} {l : List UInt8} (h : Ag (pTake 16) σ l) : rstep pDig σ = rstep (pTake 16) σ := by rw [pDig, rstep_bind h, rstep_pure]
section
variable {w : World} {F : Nat → Prop}
theorem vl_pure {α : Type} {rd : World → (Nat → Prop) → List Value → α → Prop} [RdK rd] {L : List Res} {cs : List Value} {x : α} (h : rd w (fun _ => False) cs x) (hs : stars L w F) : stars (VlR rd cs x :: L) w F :=
  ⟨fun _ => False, F, ⟨h, fun _ h => h.elim⟩, hs, fun k => by simp, fun _ h => h.elim⟩
theorem St.vl {α : Type} {rd : World → (Nat → Prop) → List Value → α → Prop} [RdK rd] {w0 : World} {F0 : Nat → Prop} {L : List Res} {cs : List Value} {x : α} (hs : St w0 F0 L w) (h : rd w (fun _ => False) cs x) : St w0 F0 (VlR rd cs x :: L) w := hs.mapL fun F hF => vl_pure h hF
theorem vl_sig {leaf : Int} {a1 a2 : Option Addr} {n1 c1 n2 c2 : Nat} {l1 l2 : List Dig} (k1 : n1 ≤ c1) (k2 : n2 ≤ c2) (h : stars [LsR (fun _ _ => RdDig) 16 a1 n1 l1, LsR (fun _ _ => RdDig) 16 a2 n2 l2] w F) : stars [VlR RdSig [.int .i64 leaf, .slice a1 n1 c1, .slice a2 n2 c2] ⟨leaf, l1, l2⟩] w F := by
  obtain ⟨F1, F2, h1, h2, hF⟩ := stars_two h
  exact rdR_mk ⟨a1, n1, c1, a2, n2, c2, rfl, k1, k2, RdList.mv h1.1 (still_sub fun k hk => (hF k).2 (.inl hk)) fun _ _ h => h, RdList.mv h2.1 (still_sub fun k hk => (hF k).2 (.inr hk)) fun _ _ h => h⟩ h
theorem vl_signed {who : Int} {ss : List Value} {s : Sig} (h : stars [VlR RdSig ss s] w F) : stars [VlR RdSigned (.int .i64 who :: ss) ⟨who, s⟩] w F := rdR_mk ⟨ss, rfl, (stars_one' h).1⟩ h
theorem vl_late {who high : Int} {ss : List Value} {s : Sig} (h : stars [VlR RdSig ss s] w F) : stars [VlR RdLate (.int .i64 who :: .int .i64 high :: ss) ⟨who, high, s⟩] w F := rdR_mk ⟨ss, rfl, (stars_one' h).1⟩ h
theorem vl_qc {e r : Int} {d : Dig} {a : Option Addr} {n c : Nat} {l : List Signed} (k : n ≤ c) (h : stars [LsR RdSigned 4 a n l] w F) : stars [VlR RdQC (.int .i64 e :: .int .i64 r :: (dc d ++ [.slice a n c])) ⟨e, r, d, l⟩] w F := rdR_mk ⟨a, n, c, rfl, k, (stars_one' h).1⟩ h
theorem vl_tc {e r : Int} {a : Option Addr} {n c : Nat} {l : List Late} (k : n ≤ c) (h : stars [LsR RdLate 5 a n l] w F) : stars [VlR RdTC [.int .i64 e, .int .i64 r, .slice a n c] ⟨e, r, l⟩] w F := rdR_mk ⟨a, n, c, rfl, k, (stars_one' h).1⟩ h
theorem vl_bytes {e n c : Nat} {a : Option Addr} {b : List UInt8} (h : stars [rowR e 1 a n c (b.map B8)] w F) : stars [VlR RdBytes [.slice a n c] b] w F := by
  have hr := stars_one' h
  exact rdR_mk ⟨a, n, c, rfl, hr.2.1, rowR.rd hr⟩ h
theorem vl_block {e r : Int} {d : Dig} {q : List Value} {x : QC} {a1 a2 : Option Addr} {n1 c1 n2 c2 : Nat} {l1 : List (List UInt8)} {l2 : List Vdr} (k1 : n1 ≤ c1) (k2 : n2 ≤ c2)
    (h : stars [VlR RdQC q x, LsR RdBytes 1 a1 n1 l1, LsR (fun _ _ => RdVdr) 17 a2 n2 l2] w F) : stars [VlR RdBlock (.int .i64 e :: .int .i64 r :: (dc d ++ (q ++ [.slice a1 n1 c1, .slice a2 n2 c2]))) ⟨e, r, d, x, l1, l2⟩] w F := by
  obtain ⟨F1, F2, h1, h2, hF⟩ := stars_cons h
  obtain ⟨F3, F4, h3, h4, hF2⟩ := stars_two h2
  have s3 : ∀ k, F3 k → F k := fun k hk => (hF k).2 (.inr ((hF2 k).2 (.inl hk)))
  exact rdR_mk ⟨q, a1, n1, c1, a2, n2, c2, rfl, h1.1.mv (still_sub fun k hk => (hF k).2 (.inl hk)), k1, RdList.mv h3.1 (still_sub s3) fun _ _ h => h.mv (still_sub s3), k2, RdList.mv h4.1 (still_sub fun k hk => (hF k).2 (.inr ((hF2 k).2 (.inr hk)))) fun _ _ h => h⟩ h
end

attribute [local irreducible] Gl Gc Gx Gs Runs Wt

set_option maxHeartbeats 400000 in
theorem rdigest_ok {w : World} {F : Nat → Prop} {TE : Nat} {ea : Nat → Addr} {g : Nat} {σ : RSt} (h : stars [RdrR TE ea g σ] w F) {es : List Nat} [Has es 1] [Has es 2] (hE : GErr es w (fun k => ¬ F k) TE ea) :
    Calls Tryd.prog 108 #[.agg (List.toArray [.pointer (some ⟨g, 0, none⟩)])] w (Post w F (fun r : Dig => .agg (dc r).toArray) (fun r => [pureR (Ag pDig σ r), RdrR TE ea g (rstep pDig σ)])) := by
  refine g_enter (env := [(0, .agg (List.toArray [.pointer (some ⟨g, 0, none⟩)]))]) Tryd.func108 rfl h Tryd.ntmps108 rfl rfl ?_
  refine gsr ?_
  refine zbN fun b1 => ?_
  refine zal fun b2 => ?_
  refine gnt ?_
  refine gsr ?_
  refine zal fun b3 => ?_
  refine gnt ?_
  refine gc_seq ?_
  refine gc_regionH ([blk b1 126 [.pointer (some ⟨g, 0, none⟩)]]) ?_
  refine yp 0 rfl (r_slice_arr (l := 0) (h := 16) rfl Ty.arr_23 Ty.sz_5 rfl rfl (by decide) (by decide) (by decide)) ?_
  refine yp 1 rfl zfa ?_
  refine yp 2 rfl zl ?_
  refine yo 3 rfl ?_
  refine zc ?_ (c := fun w1 F1 F2 h1 h2 hd hst => rfixed_ok (n := 16) h1 (hE.mv hst.still) (by decide))
  rintro ⟨a7, c7, l⟩
  refine gl_pureR (fun h7 => ?_)
  obtain ⟨hag, hlw⟩ := h7
  replace hlw : l.length ≤ 16 := hlw
  replace hag : Ag (pTake 16) σ l := hag
  refine yx ?_
  refine yo 4 rfl ?_
  refine gl_copy (news := l.map B8) (hr := fun w hw => hw.row (by repeat (first | exact Pick.here | apply Pick.there))) (hj := hlw) (h1 := one_B8 _) (hl := by rw [zD_length]; omega) (k := ?_)
  rw [padDig_cells hlw]
  refine yx ?_
  refine yd ?_
  refine gx_then ?_
  refine gsr ?_
  refine gp (zLa (cs := dc (padDig l))) ?_
  refine zsA (dc_length _) (dc_one _) ?_
  refine gnt ?_
  refine gc_ret ?_
  refine gx_retc rfl rfl (ld_aggS Ty.row_23 Ty.sz_23 (by repeat (first | exact Pick.here | apply Pick.there)) (by (simp only [List.drop_succ_cons, List.drop_zero, List.take_succ_cons, List.take_zero, List.cons_append, List.nil_append, List.append_assoc, drop_dc, drop_dc', take_dc, take_dc', drop_L, drop_L', take_L, take_L', len_L, Nat.reduceLeDiff, Nat.reduceSub, Nat.reduceAdd, Nat.le_refl, List.length_cons, List.length_append, List.length_nil, dc_length, List.drop_nil, List.take_nil, List.append_nil, List.length_map, List.length_replicate]; first | done | rfl)) (by first | rfl | (simp only [List.drop_succ_cons, List.drop_zero, List.take_succ_cons, List.take_zero, List.cons_append, List.nil_append, List.append_assoc, drop_dc, drop_dc', take_dc, take_dc', drop_L, drop_L', take_L, take_L', len_L, Nat.reduceLeDiff, Nat.reduceSub, Nat.reduceAdd, Nat.le_refl, List.length_cons, List.length_append, List.length_nil, dc_length, List.drop_nil, List.take_nil, List.append_nil, List.length_map, List.length_replicate]; first | done | omega))) ?_
  rw [rstep_dig hag]
  exact fun w' hw => ⟨padDig l, rfl, St.pureI (ag_dig hag) (hw.sel (by repeat (first | exact Sel.nil | (apply Sel.cons; · (repeat (first | exact Pick.here | apply Pick.there))))))⟩

set_option maxHeartbeats 400000 in
theorem takeDigest_ok {w : World} {F : Nat → Prop} {TE : Nat} {ea : Nat → Addr} {g : Nat} {σ : RSt} (h : stars [RdrR TE ea g σ] w F) {es : List Nat} [Has es 1] [Has es 2] (hE : GErr es w (fun k => ¬ F k) TE ea) :
    Calls Tryd.prog 145 #[.pointer (some ⟨g, 0, none⟩)] w (Post w F (fun r : Dig => .agg (dc r).toArray) (fun r => [pureR (Ag pDig σ r), RdrR TE ea g (rstep pDig σ)])) := by
  refine g_enter (env := [(0, .pointer (some ⟨g, 0, none⟩))]) Tryd.func145 rfl h Tryd.ntmps145 rfl rfl ?_
  refine gsr ?_
  refine zal fun b2 => ?_
  refine gnt ?_
  refine gsr ?_
  refine gp zmv ?_
  refine gp zbu ?_
  refine zc (fun d5 => ?_) (c := fun w1 F1 F2 h1 h2 hd hst => rdigest_ok h1 (hE.mv hst.still))
  refine gl_pureR (fun g5 => ?_)
  refine zsA (dc_length _) (dc_one _) ?_
  refine gnt ?_
  refine gc_ret ?_
  refine gx_retc rfl rfl (ld_aggS Ty.row_23 Ty.sz_23 (by repeat (first | exact Pick.here | apply Pick.there)) (by (simp only [List.drop_succ_cons, List.drop_zero, List.take_succ_cons, List.take_zero, List.cons_append, List.nil_append, List.append_assoc, drop_dc, drop_dc', take_dc, take_dc', drop_L, drop_L', take_L, take_L', len_L, Nat.reduceLeDiff, Nat.reduceSub, Nat.reduceAdd, Nat.le_refl, List.length_cons, List.length_append, List.length_nil, dc_length, List.drop_nil, List.take_nil, List.append_nil, List.length_map, List.length_replicate]; first | done | rfl)) (by first | rfl | (simp only [List.drop_succ_cons, List.drop_zero, List.take_succ_cons, List.take_zero, List.cons_append, List.nil_append, List.append_assoc, drop_dc, drop_dc', take_dc, take_dc', drop_L, drop_L', take_L, take_L', len_L, Nat.reduceLeDiff, Nat.reduceSub, Nat.reduceAdd, Nat.le_refl, List.length_cons, List.length_append, List.length_nil, dc_length, List.drop_nil, List.take_nil, List.append_nil, List.length_map, List.length_replicate]; first | done | omega))) ?_
  exact fun w' hw => ⟨d5, rfl, St.pureI g5 (hw.sel (by repeat (first | exact Sel.nil | (apply Sel.cons; · (repeat (first | exact Pick.here | apply Pick.there))))))⟩

set_option maxHeartbeats 400000 in
theorem rat_ok {w : World} {F : Nat → Prop} {TE : Nat} {ea : Nat → Addr} {g : Nat} {σ : RSt} (h : stars [RdrR TE ea g σ] w F) {es : List Nat} [Has es 1] [Has es 2] (hE : GErr es w (fun k => ¬ F k) TE ea) :
    Calls Tryd.prog 107 #[.agg (List.toArray [.pointer (some ⟨g, 0, none⟩)])] w (Post w F (fun r : Nat × Nat => .tuple #[.int .i64 (r.1 : Int), .int .i64 (r.2 : Int)]) (fun r => [pureR (Ag pAt σ ((r.1 : Int), (r.2 : Int))), RdrR TE ea g (rstep pAt σ)])) := by
  refine g_enter (env := [(0, .agg (List.toArray [.pointer (some ⟨g, 0, none⟩)]))]) Tryd.func107 rfl h Tryd.ntmps107 rfl rfl ?_
  refine gsr ?_
  refine zbN fun b1 => ?_
  refine gp zas ?_
  refine gp zas ?_
  refine gnt ?_
  refine gsr ?_
  refine gp zfa ?_
  refine gp zl ?_
  refine zc (fun x => ?_) (c := fun w1 F1 F2 h1 h2 hd hst => rnum_ok (wd := 4) h1 (hE.mv hst.still) (by decide) (by decide))
  refine gl_pureR (fun hp7 => ?_)
  obtain ⟨g7, _⟩ := hp7
  refine gp zas ?_
  refine gnt ?_
  refine gsr ?_
  refine gp zmv ?_
  refine gp zfa ?_
  refine gp zl ?_
  refine zc (fun y => ?_) (c := fun w1 F1 F2 h1 h2 hd hst => rnum_ok (wd := 6) h1 (hE.mv hst.still) (by decide) (by decide))
  refine gl_pureR (fun hp11 => ?_)
  obtain ⟨g11, _⟩ := hp11
  refine gp zas ?_
  refine gp zas ?_
  refine gnt ?_
  refine gc_ret ?_
  refine gx_ret2 rfl (by conv => lhs; whnf) (by conv => lhs; whnf) ?_
  have ha : Ag pAt σ ((x : Int), (y : Int)) := g7.bind (g11.bind (Ag.pure _))
  have hr : rstep pAt σ = rstep (pNum 6) (rstep (pNum 4) (σ)) := by rw [pAt, rstep_bind g7, rstep_bind g11, rstep_pure]
  rw [hr]
  exact fun w' hw => ⟨(x, y), rfl, St.pureI ha (hw.sel (by repeat (first | exact Sel.nil | (apply Sel.cons; · (repeat (first | exact Pick.here | apply Pick.there))))))⟩

set_option maxHeartbeats 400000 in
theorem takeDigs_ok {w : World} {F : Nat → Prop} {TE : Nat} {ea : Nat → Addr} {g : Nat} {σ : RSt} (h : stars [RdrR TE ea g σ] w F) {es : List Nat} [Has es 1] [Has es 2] (hE : GErr es w (fun k => ¬ F k) TE ea) {most : Nat} (hm : most ≤ 255) :
    Calls Tryd.prog 149 #[.pointer (some ⟨g, 0, none⟩), .int .i64 (most : Int), .func (.func 145) #[] #[]] w (Post w F (fun r : Option Addr × Nat × Nat × List Dig => .slice r.1 r.2.1 r.2.2.1) (fun r => [pureR (Ag (pList pDig most) σ r.2.2.2 ∧ r.2.1 ≤ r.2.2.1 ∧ r.2.1 = r.2.2.2.length), LsR (fun _ _ => RdDig) 16 r.1 r.2.1 r.2.2.2, RdrR TE ea g (rstep (pList pDig most) σ)])) := by
  refine g_enter (env := [(0, .pointer (some ⟨g, 0, none⟩)), (1, .int .i64 (most : Int)), (2, .func (.func 145) #[] #[])]) Tryd.func149 rfl h Tryd.ntmps149 rfl rfl ?_
  refine gsr ?_
  refine gp zas ?_
  refine gnt ?_
  refine gsr ?_
  refine gp zmv ?_
  refine zc (fun x => ?_) (c := fun w1 F1 F2 h1 h2 hd hst => rnum_ok (wd := 1) h1 (hE.mv hst.still) (by decide) (by decide))
  refine gl_pureR (fun hx => ?_)
  obtain ⟨hx, hxb⟩ := hx
  have hx256 : x < 256 := by simpa using hxb
  refine gp zas ?_
  refine gnt ?_
  refine gc_join (α := RSt) (fun σ2 => [pureR ((if errOf (rstep (pNum 1) σ) = 0 ∧ most < x then failE 1 (rstep (pNum 1) σ) else rstep (pNum 1) σ) = σ2), RdrR TE ea g σ2]) (fun σ2 => []) [12, 13, 14, 15, 16, 17, 18, 19, 20, 21, 22, 23, 24, 25, 26, 27] ?_ ?_
  · refine gc_join (α := Bool) (fun z => [pureR (z = (decide (errOf (rstep (pNum 1) σ) = 0) && decide (most < x))), RdrR TE ea g (rstep (pNum 1) σ)]) (fun z => [(22, .bool z)]) [12, 13, 14, 15, 16, 17, 18, 19, 20, 21] ?_ ?_
    · by_cases he : errOf (rstep (pNum 1) σ) = 0
      · refine gc_region ?_
        refine gp zmv ?_
        refine gp znc ?_
        refine gp zfa ?_
        refine gp zfa ?_
        refine gp r_lde ?_
        refine gp (r_bool (c := true) (r_eqnil rfl (by kernel_rfl)) (decide_eq_true he)) ?_
        refine gp zmv ?_
        refine gq zmv ?_
        refine gq zmv ?_
        refine gq (r_bool (b := decide ((most : Int) < (x : Int))) zgt rfl) ?_
        refine gp zpk ?_
        refine gl_nil ?_
        refine zjn (decide ((most : Int) < (x : Int))) ?_
        · exact zlp (by rw [decide_eq_true he, Bool.true_and]; exact decide_eq_decide.2 (by omega))
      · refine gc_region ?_
        refine gp zmv ?_
        refine gp znc ?_
        refine gp zfa ?_
        refine gp zfa ?_
        refine gp r_lde ?_
        refine gp (r_bool (c := false) (r_eqnil rfl (by kernel_rfl)) (decide_eq_false he)) ?_
        refine gp zmv ?_
        refine gn ?_
        refine gn ?_
        refine gn ?_
        refine gp zpk ?_
        refine gl_nil ?_
        refine zjn (false) ?_
        · exact zlp (by rw [decide_eq_false he]; rfl)
    · intro z u
      refine gc_pureR (fun hz => ?_)
      subst hz
      refine gif rfl (fun hc22 => ?_) (fun hc22 => ?_)
      · try simp only at hc22
        have hb : errOf (rstep (pNum 1) σ) = 0 ∧ most < x := by omega
        refine gc_regionT 4 (by kernel_rfl) (by kernel_rfl) ?_
        refine sp zmv ?_
        refine sp znc ?_
        refine sp zfa ?_
        refine sp (r_ld1o rfl Ty.row_35 (hE.c 1 Has.h) (hE.n 1 Has.h)) ?_
        refine gs_nil ?_
        refine zc (fun _ => ?_) (c := fun w1 F1 F2 h1 h2 hd hst => failR_ok (by decide) h1)
        refine gl_nil ?_
        refine zjn (failE 1 (rstep (pNum 1) σ)) ?_
        · exact zlp (if_pos hb)
      · try simp only at hc22
        have hb : ¬ (errOf (rstep (pNum 1) σ) = 0 ∧ most < x) := by omega
        refine gc_skip ?_
        refine zjn ((rstep (pNum 1) σ)) ?_
        · exact zlp (if_neg hb)
  · intro σ2 u
    refine gc_pureR (fun hc2 => ?_)
    refine gsr ?_
    refine gp zas ?_
    refine gnt ?_
    refine gc_seq ?_
    refine gsr ?_
    refine gp zas ?_
    refine gnt ?_
    refine gc_block ?_
    refine gc_loop (α := Nat × RSt × Option Addr × Nat × List (List Value) × List Dig) (fun y => [pureR (y.1 ≤ x ∧ Many pDig x σ2 (x - y.1) y.2.1 y.2.2.2.2.2 ∧ (∀ c ∈ y.2.2.2.2.1, c.length = 16) ∧ y.2.2.2.2.2.length = y.1), rowR 23 16 y.2.2.1 y.1 y.2.2.2.1 y.2.2.2.2.1.flatten, ElR (fun _ _ => RdDig) y.2.2.2.2.1 y.2.2.2.2.2, RdrR TE ea g y.2.1]) (fun y => [(8, .slice y.2.2.1 y.1 y.2.2.2.1), (9, .int .i64 (y.1 : Int))]) [28, 29, 30, 31, 32, 33, 34, 35, 36, 37, 38, 39, 40, 41, 42, 43, 44, 45, 46] (fun y => x - y.1) (0, σ2, none, 0, [], []) ?_ ?_ ?_
    · refine env_start (by kernel_rfl)
    · exact fun w' hw => zlp ⟨Nat.zero_le _, Many.start, (by intro c hc; cases hc), rfl⟩ (by repeat (first | exact Sel.nil | (apply Sel.cons; · (repeat (first | exact Pick.here | apply Pick.there))))) w' (hw.mapL fun F' hF' => stars_row_nil (e := 23) (size := 16) (el_nil (rd := fun _ _ => RdDig) hF'))
    · intro y u
      obtain ⟨k, τ, a, c, css, l⟩ := y
      refine gc_pureR (fun hk => ?_)
      obtain ⟨hk, hmany, hcss, hll⟩ := hk
      replace hk : k ≤ x := hk
      replace hll : l.length = k := hll
      replace hcss : ∀ c ∈ css, c.length = 16 := hcss
      replace hmany : Many pDig x σ2 (x - k) τ l := hmany
      refine gc_seq ?_
      refine gc_seq ?_
      by_cases hkx : k < x
      · refine gc_region ?_
        refine gp zmv ?_
        refine gp zmv ?_
        refine gp (r_bool (c := true) zlt (decide_eq_true (by omega))) ?_
        refine gp zmv ?_
        refine gq zmv ?_
        refine gq znc ?_
        refine gq zfa ?_
        refine gq zfa ?_
        refine gq r_lde ?_
        refine gq (r_eqnil rfl (by kernel_rfl)) ?_
        refine gp zpk ?_
        refine gnt ?_
        refine gif rfl (fun hc38 => ?_) (fun hc38 => ?_)
        · try simp only at hc38
          have he2 : errOf τ = 0 := hc38
          refine gc_skip ?_
          refine gx_then ?_
          refine gc_seq ?_
          refine gc_block ?_
          refine gc_region ?_
          refine gp zmv ?_
          refine gp zmv ?_
          refine gp zmv ?_
          refine gl_call (wt0 rfl) (e_callv (us := []) rfl Ty.call_145 rfl) (by repeat (first | exact Sel.nil | (apply Sel.cons; · (repeat (first | exact Pick.here | apply Pick.there))))) (fun w1 F1 F2 h1 h2 hd hst => takeDigest_ok h1 (hE.mv hst.still)) ?_
          intro v
          refine gl_pureR (fun hag => ?_)
          obtain ⟨cs, hcs⟩ : ∃ cs, cs = dc v := ⟨_, rfl⟩
          have hcl : cs.length = 16 := by rw [hcs]; exact dc_length _
          rw [← hcs]
          have i1 := Len.of hcl
          have i2 := One.of (l := cs) (by rw [hcs]; exact dc_one _)
          refine gl_conv (M := []) (N := [VlR (fun _ _ => RdDig) cs v]) Sel.nil (fun w F hF => vl_pure (show RdDig cs v from hcs) hF) ?_
          refine zeN fun b45 => ?_
          refine zapo (news := cs) (fun a46 c46 => ?_)
          refine gp zas ?_
          refine gl_nil ?_
          refine gx_block_normal ?_
          refine gx_then ?_
          refine gc_region ?_
          refine gp zmv ?_
          refine gp zad ?_
          refine gp zas ?_
          refine gl_nil ?_
          refine zrd ((k + 1, rstep pDig τ, a46, c46, css ++ [cs], l ++ [v])) ?_ ?_
          · show x - (k + 1) < x - k
            omega
          · rintro w' hw
            have h1 := hw.conv (M := [ElR (fun _ _ => RdDig) css l, VlR (fun _ _ => RdDig) cs v]) (by repeat (first | exact Sel.nil | (apply Sel.cons; · (repeat (first | exact Pick.here | apply Pick.there))))) (fun _ _ => el_snoc)
            refine zlq (M' := [rowR 23 16 a46 (k + 1) c46 (css.flatten ++ cs), ElR (fun _ _ => RdDig) (css ++ [cs]) (l ++ [v]), RdrR TE ea g (rstep pDig τ)]) ⟨?_, ?_, ?_, ?_⟩ (by simp) (by repeat (first | exact Sel.nil | (apply Sel.cons; · (repeat (first | exact Pick.here | apply Pick.there))))) w' h1
            · show k + 1 ≤ x; omega
            · rw [show x - k = x - (k + 1) + 1 by omega] at hmany; exact hmany.next hag
            · intro c' hc'; rcases List.mem_append.1 hc' with h | h; exact hcss c' h; rw [List.mem_singleton.1 h]; exact hcl
            · simp [hll]
        · try simp only at hc38
          have he2 : ¬ errOf τ = 0 := hc38
          refine gc_exit ?_
          refine gx_then_exit ?_
          refine gx_round_exit ?_
          refine gx_block_hit ?_
          refine gx_then ?_
          refine gc_seq ?_
          refine gsr ?_
          refine gp zmv ?_
          refine gp znc ?_
          refine gp zfa ?_
          refine gp zfa ?_
          refine gp r_lde ?_
          refine gp (r_nenil rfl (by kernel_rfl)) ?_
          refine gnt ?_
          refine gif rfl (fun hc52 => ?_) (fun hc52 => ?_)
          · try simp only at hc52
            have hbad := hmany.bad hc52
            have hfin := list_fin hx hc2 ⟨hbad.1, hbad.2 []⟩
            refine gsr ?_
            refine gp zas ?_
            refine gnt ?_
            refine gc_ret ?_
            refine gx_then_ret ?_
            refine gx_ret1 rfl (by conv => lhs; whnf) ?_
            rw [hfin.1]
            exact fun w' hw => ⟨(none, 0, 0, []), rfl, St.pureI ⟨hfin.2, Nat.le_refl _, rfl⟩ ((hw.sel (M := [RdrR TE ea g τ]) (by repeat (first | exact Sel.nil | (apply Sel.cons; · (repeat (first | exact Pick.here | apply Pick.there)))))).mapL fun F' hF' => ls_nil hF')⟩
          · try simp only at hc52
            have hm0 : x - k = 0 := by first | omega | exact absurd hc52 he2
            rw [hm0] at hmany
            have hfin := list_fin hx hc2 hmany.done
            refine gc_skip ?_
            refine gx_then ?_
            refine gsr ?_
            refine gp zmv ?_
            refine gp zas ?_
            refine gnt ?_
            refine gc_ret ?_
            refine gx_ret1 rfl (by conv => lhs; whnf) ?_
            rw [hfin.1]
            intro w' hw
            have hle := (hw.rowLe (e := 23) (size := 16) (a := a) (m := k) (c := c) (xs := css.flatten) (by repeat (first | exact Pick.here | apply Pick.there))).1
            exact ⟨(a, k, c, l), rfl, St.pureI ⟨hfin.2, hle, hll.symm⟩ ((hw.conv (M := [rowR 23 16 a k c css.flatten, ElR (fun _ _ => RdDig) css l]) (by repeat (first | exact Sel.nil | (apply Sel.cons; · (repeat (first | exact Pick.here | apply Pick.there))))) (fun _ _ => ls_of hcss)).sel (by repeat (first | exact Sel.nil | (apply Sel.cons; · (repeat (first | exact Pick.here | apply Pick.there))))))⟩
      · refine gc_region ?_
        refine gp zmv ?_
        refine gp zmv ?_
        refine gp (r_bool (c := false) zlt (decide_eq_false (by omega))) ?_
        refine gp zmv ?_
        refine gn ?_
        refine gn ?_
        refine gn ?_
        refine gn ?_
        refine gn ?_
        refine gn ?_
        refine gp zpk ?_
        refine gnt ?_
        refine gc_condF rfl rfl ?_
        refine gc_exit ?_
        refine gx_then_exit ?_
        refine gx_round_exit ?_
        refine gx_block_hit ?_
        refine gx_then ?_
        refine gc_seq ?_
        refine gsr ?_
        refine gp zmv ?_
        refine gp znc ?_
        refine gp zfa ?_
        refine gp zfa ?_
        refine gp r_lde ?_
        refine gp (r_nenil rfl (by kernel_rfl)) ?_
        refine gnt ?_
        refine gif rfl (fun hc52 => ?_) (fun hc52 => ?_)
        · try simp only at hc52
          have hbad := hmany.bad hc52
          have hfin := list_fin hx hc2 ⟨hbad.1, hbad.2 []⟩
          refine gsr ?_
          refine gp zas ?_
          refine gnt ?_
          refine gc_ret ?_
          refine gx_then_ret ?_
          refine gx_ret1 rfl (by conv => lhs; whnf) ?_
          rw [hfin.1]
          exact fun w' hw => ⟨(none, 0, 0, []), rfl, St.pureI ⟨hfin.2, Nat.le_refl _, rfl⟩ ((hw.sel (M := [RdrR TE ea g τ]) (by repeat (first | exact Sel.nil | (apply Sel.cons; · (repeat (first | exact Pick.here | apply Pick.there)))))).mapL fun F' hF' => ls_nil hF')⟩
        · try simp only at hc52
          have hm0 : x - k = 0 := by first | omega | exact absurd hc52 he2
          rw [hm0] at hmany
          have hfin := list_fin hx hc2 hmany.done
          refine gc_skip ?_
          refine gx_then ?_
          refine gsr ?_
          refine gp zmv ?_
          refine gp zas ?_
          refine gnt ?_
          refine gc_ret ?_
          refine gx_ret1 rfl (by conv => lhs; whnf) ?_
          rw [hfin.1]
          intro w' hw
          have hle := (hw.rowLe (e := 23) (size := 16) (a := a) (m := k) (c := c) (xs := css.flatten) (by repeat (first | exact Pick.here | apply Pick.there))).1
          exact ⟨(a, k, c, l), rfl, St.pureI ⟨hfin.2, hle, hll.symm⟩ ((hw.conv (M := [rowR 23 16 a k c css.flatten, ElR (fun _ _ => RdDig) css l]) (by repeat (first | exact Sel.nil | (apply Sel.cons; · (repeat (first | exact Pick.here | apply Pick.there))))) (fun _ _ => ls_of hcss)).sel (by repeat (first | exact Sel.nil | (apply Sel.cons; · (repeat (first | exact Pick.here | apply Pick.there))))))⟩

set_option maxHeartbeats 400000 in
theorem rsig_ok {w : World} {F : Nat → Prop} {TE : Nat} {ea : Nat → Addr} {g : Nat} {σ : RSt} (h : stars [RdrR TE ea g σ] w F) {es : List Nat} [Has es 1] [Has es 2] (hE : GErr es w (fun k => ¬ F k) TE ea) :
    Calls Tryd.prog 135 #[.agg (List.toArray [.pointer (some ⟨g, 0, none⟩)])] w (Post w F (fun r : List Value × Sig => .agg r.1.toArray) (fun r => [pureR (Ag pSig σ r.2 ∧ r.1.length = 3 ∧ ∀ v ∈ r.1, v.oneCell' = true), VlR RdSig r.1 r.2, RdrR TE ea g (rstep pSig σ)])) := by
  refine g_enter (env := [(0, .agg (List.toArray [.pointer (some ⟨g, 0, none⟩)]))]) Tryd.func135 rfl h Tryd.ntmps135 rfl rfl ?_
  refine gsr ?_
  refine zbN fun b1 => ?_
  refine zal fun b2 => ?_
  refine gnt ?_
  refine gsr ?_
  refine gp zfa ?_
  refine gp zl ?_
  refine zc (fun x => ?_) (c := fun w1 F1 F2 h1 h2 hd hst => rnum_ok (wd := 1) h1 (hE.mv hst.still) (by decide) (by decide))
  refine gl_pureR (fun hp7 => ?_)
  obtain ⟨g7, _⟩ := hp7
  refine gp zas ?_
  refine gnt ?_
  refine gsr ?_
  refine gp zfa ?_
  refine gp zl ?_
  refine zc ?_ (c := fun w1 F1 F2 h1 h2 hd hst => takeDigs_ok (most := 68) h1 (hE.mv hst.still) (by decide))
  rintro ⟨a10, n10, c10, l10⟩
  refine gl_pureR (fun hp10 => ?_)
  obtain ⟨g10, k10, e10⟩ := hp10
  replace g10 : Ag (pList pDig 68) _ l10 := g10
  replace k10 : n10 ≤ c10 := k10
  refine gp zas ?_
  refine gnt ?_
  refine gsr ?_
  refine gp zmv ?_
  refine gp zmv ?_
  refine gp zfa ?_
  refine gp zl ?_
  refine zc ?_ (c := fun w1 F1 F2 h1 h2 hd hst => takeDigs_ok (most := 5) h1 (hE.mv hst.still) (by decide))
  rintro ⟨a15, n15, c15, l15⟩
  refine gl_pureR (fun hp15 => ?_)
  obtain ⟨g15, k15, e15⟩ := hp15
  replace g15 : Ag (pList pDig 5) _ l15 := g15
  replace k15 : n15 ≤ c15 := k15
  refine gp zbu ?_
  refine zsN ?_
  refine gnt ?_
  refine gc_ret ?_
  refine gx_retc rfl rfl (ld_aggS Ty.row_47 Ty.sz_47 (by repeat (first | exact Pick.here | apply Pick.there)) (by (simp only [List.drop_succ_cons, List.drop_zero, List.take_succ_cons, List.take_zero, List.cons_append, List.nil_append, List.append_assoc, drop_dc, drop_dc', take_dc, take_dc', drop_L, drop_L', take_L, take_L', len_L, Nat.reduceLeDiff, Nat.reduceSub, Nat.reduceAdd, Nat.le_refl, List.length_cons, List.length_append, List.length_nil, dc_length, List.drop_nil, List.take_nil, List.append_nil, List.length_map, List.length_replicate]; first | done | rfl)) (by first | rfl | (simp only [List.drop_succ_cons, List.drop_zero, List.take_succ_cons, List.take_zero, List.cons_append, List.nil_append, List.append_assoc, drop_dc, drop_dc', take_dc, take_dc', drop_L, drop_L', take_L, take_L', len_L, Nat.reduceLeDiff, Nat.reduceSub, Nat.reduceAdd, Nat.le_refl, List.length_cons, List.length_append, List.length_nil, dc_length, List.drop_nil, List.take_nil, List.append_nil, List.length_map, List.length_replicate]; first | done | omega))) ?_
  have ha : Ag pSig σ ⟨x, l10, l15⟩ := g7.bind (g10.bind (g15.bind (Ag.pure _)))
  have hr : rstep pSig σ = rstep (pList pDig 5) (rstep (pList pDig 68) (rstep (pNum 1) (σ))) := by rw [pSig, rstep_bind g7, rstep_bind g10, rstep_bind g15, rstep_pure]
  rw [hr]
  intro w' hw
  refine ⟨([.int .i64 x, .slice a10 n10 c10, .slice a15 n15 c15], ⟨x, l10, l15⟩), rfl, St.pureI ⟨ha, by first | rfl | simp only [List.length_cons, List.length_append, List.length_nil, dc_length, len_L] , all_cons' rfl (all_cons' rfl (all_cons' rfl all_nil'))⟩ ?_⟩
  exact (hw.conv (M := [LsR (fun _ _ => RdDig) 16 a10 n10 l10, LsR (fun _ _ => RdDig) 16 a15 n15 l15]) (by repeat (first | exact Sel.nil | (apply Sel.cons; · (repeat (first | exact Pick.here | apply Pick.there))))) (fun _ _ => vl_sig k10 k15)).sel (by repeat (first | exact Sel.nil | (apply Sel.cons; · (repeat (first | exact Pick.here | apply Pick.there)))))

set_option maxHeartbeats 400000 in
theorem rsigned_ok {w : World} {F : Nat → Prop} {TE : Nat} {ea : Nat → Addr} {g : Nat} {σ : RSt} (h : stars [RdrR TE ea g σ] w F) {es : List Nat} [Has es 1] [Has es 2] (hE : GErr es w (fun k => ¬ F k) TE ea) :
    Calls Tryd.prog 109 #[.agg (List.toArray [.pointer (some ⟨g, 0, none⟩)])] w (Post w F (fun r : List Value × Signed => .agg r.1.toArray) (fun r => [pureR (Ag pSigned σ r.2 ∧ r.1.length = 4 ∧ ∀ v ∈ r.1, v.oneCell' = true), VlR RdSigned r.1 r.2, RdrR TE ea g (rstep pSigned σ)])) := by
  refine g_enter (env := [(0, .agg (List.toArray [.pointer (some ⟨g, 0, none⟩)]))]) Tryd.func109 rfl h Tryd.ntmps109 rfl rfl ?_
  refine gsr ?_
  refine zbN fun b1 => ?_
  refine zal fun b2 => ?_
  refine gnt ?_
  refine gsr ?_
  refine gp zfa ?_
  refine gp zl ?_
  refine zc (fun x => ?_) (c := fun w1 F1 F2 h1 h2 hd hst => rnum_ok (wd := 1) h1 (hE.mv hst.still) (by decide) (by decide))
  refine gl_pureR (fun hp6 => ?_)
  obtain ⟨g6, _⟩ := hp6
  refine gp zas ?_
  refine gnt ?_
  refine gsr ?_
  refine gp zmv ?_
  refine gp zL ?_
  refine zc ?_ (c := fun w1 F1 F2 h1 h2 hd hst => rsig_ok h1 (hE.mv hst.still))
  rintro ⟨q9, v9⟩
  refine gl_pureR (fun hp9 => ?_)
  obtain ⟨g9, z9, o9⟩ := hp9
  replace z9 : q9.length = _ := z9
  have i9 := Len.of z9
  have j9 := One.of (show ∀ v ∈ q9, v.oneCell' = true from o9)
  refine gp zbu ?_
  refine zsN ?_
  refine gnt ?_
  refine gc_ret ?_
  refine gx_retc rfl rfl (ld_aggS Ty.row_49 Ty.sz_49 (by repeat (first | exact Pick.here | apply Pick.there)) (by (simp only [List.drop_succ_cons, List.drop_zero, List.take_succ_cons, List.take_zero, List.cons_append, List.nil_append, List.append_assoc, drop_dc, drop_dc', take_dc, take_dc', drop_L, drop_L', take_L, take_L', len_L, Nat.reduceLeDiff, Nat.reduceSub, Nat.reduceAdd, Nat.le_refl, List.length_cons, List.length_append, List.length_nil, dc_length, List.drop_nil, List.take_nil, List.append_nil, List.length_map, List.length_replicate]; first | done | rfl)) (by first | rfl | (simp only [List.drop_succ_cons, List.drop_zero, List.take_succ_cons, List.take_zero, List.cons_append, List.nil_append, List.append_assoc, drop_dc, drop_dc', take_dc, take_dc', drop_L, drop_L', take_L, take_L', len_L, Nat.reduceLeDiff, Nat.reduceSub, Nat.reduceAdd, Nat.le_refl, List.length_cons, List.length_append, List.length_nil, dc_length, List.drop_nil, List.take_nil, List.append_nil, List.length_map, List.length_replicate]; first | done | omega))) ?_
  have ha : Ag pSigned σ ⟨x, v9⟩ := g6.bind (g9.bind (Ag.pure _))
  have hr : rstep pSigned σ = rstep pSig (rstep (pNum 1) (σ)) := by rw [pSigned, rstep_bind g6, rstep_bind g9, rstep_pure]
  rw [hr]
  intro w' hw
  refine ⟨(.int .i64 x :: q9, ⟨x, v9⟩), rfl, St.pureI ⟨ha, by first | rfl | simp only [List.length_cons, List.length_append, List.length_nil, dc_length, len_L] , all_cons' rfl o9⟩ ?_⟩
  exact (hw.conv (M := [VlR RdSig q9 v9]) (by repeat (first | exact Sel.nil | (apply Sel.cons; · (repeat (first | exact Pick.here | apply Pick.there))))) (fun _ _ => vl_signed)).sel (by repeat (first | exact Sel.nil | (apply Sel.cons; · (repeat (first | exact Pick.here | apply Pick.there)))))

set_option maxHeartbeats 400000 in
theorem rqc1_ok {w : World} {F : Nat → Prop} {TE : Nat} {ea : Nat → Addr} {g : Nat} {σ : RSt} (h : stars [RdrR TE ea g σ] w F) {es : List Nat} [Has es 1] [Has es 2] (hE : GErr es w (fun k => ¬ F k) TE ea) :
    Calls Tryd.prog 137 #[.pointer (some ⟨g, 0, none⟩)] w (Post w F (fun r : List Value × Signed => .agg r.1.toArray) (fun r => [pureR (Ag pSigned σ r.2 ∧ r.1.length = 4 ∧ ∀ v ∈ r.1, v.oneCell' = true), VlR RdSigned r.1 r.2, RdrR TE ea g (rstep pSigned σ)])) := by
  refine g_enter (env := [(0, .pointer (some ⟨g, 0, none⟩))]) Tryd.func137 rfl h Tryd.ntmps137 rfl rfl ?_
  refine gsr ?_
  refine zal fun b2 => ?_
  refine gnt ?_
  refine gsr ?_
  refine gp zmv ?_
  refine gp zbu ?_
  refine zc ?_ (c := fun w1 F1 F2 h1 h2 hd hst => rsigned_ok h1 (hE.mv hst.still))
  rintro ⟨q5, v5⟩
  refine gl_pureR (fun hp5 => ?_)
  obtain ⟨g5, z5, o5⟩ := hp5
  replace z5 : q5.length = _ := z5
  have i5 := Len.of z5
  have j5 := One.of (show ∀ v ∈ q5, v.oneCell' = true from o5)
  refine zsN ?_
  refine gnt ?_
  refine gc_ret ?_
  refine gx_retc rfl rfl (ld_aggS Ty.row_49 Ty.sz_49 (by repeat (first | exact Pick.here | apply Pick.there)) (by (simp only [List.drop_succ_cons, List.drop_zero, List.take_succ_cons, List.take_zero, List.cons_append, List.nil_append, List.append_assoc, drop_dc, drop_dc', take_dc, take_dc', drop_L, drop_L', take_L, take_L', len_L, Nat.reduceLeDiff, Nat.reduceSub, Nat.reduceAdd, Nat.le_refl, List.length_cons, List.length_append, List.length_nil, dc_length, List.drop_nil, List.take_nil, List.append_nil, List.length_map, List.length_replicate]; first | done | rfl)) (by first | rfl | (simp only [List.drop_succ_cons, List.drop_zero, List.take_succ_cons, List.take_zero, List.cons_append, List.nil_append, List.append_assoc, drop_dc, drop_dc', take_dc, take_dc', drop_L, drop_L', take_L, take_L', len_L, Nat.reduceLeDiff, Nat.reduceSub, Nat.reduceAdd, Nat.le_refl, List.length_cons, List.length_append, List.length_nil, dc_length, List.drop_nil, List.take_nil, List.append_nil, List.length_map, List.length_replicate]; first | done | omega))) ?_
  exact fun w' hw => ⟨(q5, v5), rfl, St.pureI ⟨g5, z5, o5⟩ (hw.sel (by repeat (first | exact Sel.nil | (apply Sel.cons; · (repeat (first | exact Pick.here | apply Pick.there))))))⟩

set_option maxHeartbeats 400000 in
theorem takeSigneds_ok {w : World} {F : Nat → Prop} {TE : Nat} {ea : Nat → Addr} {g : Nat} {σ : RSt} (h : stars [RdrR TE ea g σ] w F) {es : List Nat} [Has es 1] [Has es 2] (hE : GErr es w (fun k => ¬ F k) TE ea) {most : Nat} (hm : most ≤ 255) :
    Calls Tryd.prog 136 #[.pointer (some ⟨g, 0, none⟩), .int .i64 (most : Int), .func (.func 137) #[] #[]] w (Post w F (fun r : Option Addr × Nat × Nat × List Signed => .slice r.1 r.2.1 r.2.2.1) (fun r => [pureR (Ag (pList pSigned most) σ r.2.2.2 ∧ r.2.1 ≤ r.2.2.1 ∧ r.2.1 = r.2.2.2.length), LsR (RdSigned) 4 r.1 r.2.1 r.2.2.2, RdrR TE ea g (rstep (pList pSigned most) σ)])) := by
  refine g_enter (env := [(0, .pointer (some ⟨g, 0, none⟩)), (1, .int .i64 (most : Int)), (2, .func (.func 137) #[] #[])]) Tryd.func136 rfl h Tryd.ntmps136 rfl rfl ?_
  refine gsr ?_
  refine gp zas ?_
  refine gnt ?_
  refine gsr ?_
  refine gp zmv ?_
  refine zc (fun x => ?_) (c := fun w1 F1 F2 h1 h2 hd hst => rnum_ok (wd := 1) h1 (hE.mv hst.still) (by decide) (by decide))
  refine gl_pureR (fun hx => ?_)
  obtain ⟨hx, hxb⟩ := hx
  have hx256 : x < 256 := by simpa using hxb
  refine gp zas ?_
  refine gnt ?_
  refine gc_join (α := RSt) (fun σ2 => [pureR ((if errOf (rstep (pNum 1) σ) = 0 ∧ most < x then failE 1 (rstep (pNum 1) σ) else rstep (pNum 1) σ) = σ2), RdrR TE ea g σ2]) (fun σ2 => []) [12, 13, 14, 15, 16, 17, 18, 19, 20, 21, 22, 23, 24, 25, 26, 27] ?_ ?_
  · refine gc_join (α := Bool) (fun z => [pureR (z = (decide (errOf (rstep (pNum 1) σ) = 0) && decide (most < x))), RdrR TE ea g (rstep (pNum 1) σ)]) (fun z => [(22, .bool z)]) [12, 13, 14, 15, 16, 17, 18, 19, 20, 21] ?_ ?_
    · by_cases he : errOf (rstep (pNum 1) σ) = 0
      · refine gc_region ?_
        refine gp zmv ?_
        refine gp znc ?_
        refine gp zfa ?_
        refine gp zfa ?_
        refine gp r_lde ?_
        refine gp (r_bool (c := true) (r_eqnil rfl (by kernel_rfl)) (decide_eq_true he)) ?_
        refine gp zmv ?_
        refine gq zmv ?_
        refine gq zmv ?_
        refine gq (r_bool (b := decide ((most : Int) < (x : Int))) zgt rfl) ?_
        refine gp zpk ?_
        refine gl_nil ?_
        refine zjn (decide ((most : Int) < (x : Int))) ?_
        · exact zlp (by rw [decide_eq_true he, Bool.true_and]; exact decide_eq_decide.2 (by omega))
      · refine gc_region ?_
        refine gp zmv ?_
        refine gp znc ?_
        refine gp zfa ?_
        refine gp zfa ?_
        refine gp r_lde ?_
        refine gp (r_bool (c := false) (r_eqnil rfl (by kernel_rfl)) (decide_eq_false he)) ?_
        refine gp zmv ?_
        refine gn ?_
        refine gn ?_
        refine gn ?_
        refine gp zpk ?_
        refine gl_nil ?_
        refine zjn (false) ?_
        · exact zlp (by rw [decide_eq_false he]; rfl)
    · intro z u
      refine gc_pureR (fun hz => ?_)
      subst hz
      refine gif rfl (fun hc22 => ?_) (fun hc22 => ?_)
      · try simp only at hc22
        have hb : errOf (rstep (pNum 1) σ) = 0 ∧ most < x := by omega
        refine gc_regionT 4 (by kernel_rfl) (by kernel_rfl) ?_
        refine sp zmv ?_
        refine sp znc ?_
        refine sp zfa ?_
        refine sp (r_ld1o rfl Ty.row_35 (hE.c 1 Has.h) (hE.n 1 Has.h)) ?_
        refine gs_nil ?_
        refine zc (fun _ => ?_) (c := fun w1 F1 F2 h1 h2 hd hst => failR_ok (by decide) h1)
        refine gl_nil ?_
        refine zjn (failE 1 (rstep (pNum 1) σ)) ?_
        · exact zlp (if_pos hb)
      · try simp only at hc22
        have hb : ¬ (errOf (rstep (pNum 1) σ) = 0 ∧ most < x) := by omega
        refine gc_skip ?_
        refine zjn ((rstep (pNum 1) σ)) ?_
        · exact zlp (if_neg hb)
  · intro σ2 u
    refine gc_pureR (fun hc2 => ?_)
    refine gsr ?_
    refine gp zas ?_
    refine gnt ?_
    refine gc_seq ?_
    refine gsr ?_
    refine gp zas ?_
    refine gnt ?_
    refine gc_block ?_
    refine gc_loop (α := Nat × RSt × Option Addr × Nat × List (List Value) × List Signed) (fun y => [pureR (y.1 ≤ x ∧ Many pSigned x σ2 (x - y.1) y.2.1 y.2.2.2.2.2 ∧ (∀ c ∈ y.2.2.2.2.1, c.length = 4) ∧ y.2.2.2.2.2.length = y.1), rowR 49 4 y.2.2.1 y.1 y.2.2.2.1 y.2.2.2.2.1.flatten, ElR (RdSigned) y.2.2.2.2.1 y.2.2.2.2.2, RdrR TE ea g y.2.1]) (fun y => [(8, .slice y.2.2.1 y.1 y.2.2.2.1), (9, .int .i64 (y.1 : Int))]) [28, 29, 30, 31, 32, 33, 34, 35, 36, 37, 38, 39, 40, 41, 42, 43, 44, 45, 46] (fun y => x - y.1) (0, σ2, none, 0, [], []) ?_ ?_ ?_
    · refine env_start (by kernel_rfl)
    · exact fun w' hw => zlp ⟨Nat.zero_le _, Many.start, (by intro c hc; cases hc), rfl⟩ (by repeat (first | exact Sel.nil | (apply Sel.cons; · (repeat (first | exact Pick.here | apply Pick.there))))) w' (hw.mapL fun F' hF' => stars_row_nil (e := 49) (size := 4) (el_nil (rd := RdSigned) hF'))
    · intro y u
      obtain ⟨k, τ, a, c, css, l⟩ := y
      refine gc_pureR (fun hk => ?_)
      obtain ⟨hk, hmany, hcss, hll⟩ := hk
      replace hk : k ≤ x := hk
      replace hll : l.length = k := hll
      replace hcss : ∀ c ∈ css, c.length = 4 := hcss
      replace hmany : Many pSigned x σ2 (x - k) τ l := hmany
      refine gc_seq ?_
      refine gc_seq ?_
      by_cases hkx : k < x
      · refine gc_region ?_
        refine gp zmv ?_
        refine gp zmv ?_
        refine gp (r_bool (c := true) zlt (decide_eq_true (by omega))) ?_
        refine gp zmv ?_
        refine gq zmv ?_
        refine gq znc ?_
        refine gq zfa ?_
        refine gq zfa ?_
        refine gq r_lde ?_
        refine gq (r_eqnil rfl (by kernel_rfl)) ?_
        refine gp zpk ?_
        refine gnt ?_
        refine gif rfl (fun hc38 => ?_) (fun hc38 => ?_)
        · try simp only at hc38
          have he2 : errOf τ = 0 := hc38
          refine gc_skip ?_
          refine gx_then ?_
          refine gc_seq ?_
          refine gc_block ?_
          refine gc_region ?_
          refine gp zmv ?_
          refine gp zmv ?_
          refine gp zmv ?_
          refine gl_call (wt0 rfl) (e_callv (us := []) rfl Ty.call_137 rfl) (by repeat (first | exact Sel.nil | (apply Sel.cons; · (repeat (first | exact Pick.here | apply Pick.there))))) (fun w1 F1 F2 h1 h2 hd hst => rqc1_ok h1 (hE.mv hst.still)) ?_
          rintro ⟨cs, v⟩
          refine gl_pureR (fun h44 => ?_)
          obtain ⟨hag, hcl, hone⟩ := h44
          replace hcl : cs.length = _ := hcl
          have i1 := Len.of hcl
          have i2 := One.of (show ∀ v ∈ cs, v.oneCell' = true from hone)
          refine zeN fun b45 => ?_
          refine zapo (news := cs) (fun a46 c46 => ?_)
          refine gp zas ?_
          refine gl_nil ?_
          refine gx_block_normal ?_
          refine gx_then ?_
          refine gc_region ?_
          refine gp zmv ?_
          refine gp zad ?_
          refine gp zas ?_
          refine gl_nil ?_
          refine zrd ((k + 1, rstep pSigned τ, a46, c46, css ++ [cs], l ++ [v])) ?_ ?_
          · show x - (k + 1) < x - k
            omega
          · rintro w' hw
            have h1 := hw.conv (M := [ElR (RdSigned) css l, VlR (RdSigned) cs v]) (by repeat (first | exact Sel.nil | (apply Sel.cons; · (repeat (first | exact Pick.here | apply Pick.there))))) (fun _ _ => el_snoc)
            refine zlq (M' := [rowR 49 4 a46 (k + 1) c46 (css.flatten ++ cs), ElR (RdSigned) (css ++ [cs]) (l ++ [v]), RdrR TE ea g (rstep pSigned τ)]) ⟨?_, ?_, ?_, ?_⟩ (by simp) (by repeat (first | exact Sel.nil | (apply Sel.cons; · (repeat (first | exact Pick.here | apply Pick.there))))) w' h1
            · show k + 1 ≤ x; omega
            · rw [show x - k = x - (k + 1) + 1 by omega] at hmany; exact hmany.next hag
            · intro c' hc'; rcases List.mem_append.1 hc' with h | h; exact hcss c' h; rw [List.mem_singleton.1 h]; exact hcl
            · simp [hll]
        · try simp only at hc38
          have he2 : ¬ errOf τ = 0 := hc38
          refine gc_exit ?_
          refine gx_then_exit ?_
          refine gx_round_exit ?_
          refine gx_block_hit ?_
          refine gx_then ?_
          refine gc_seq ?_
          refine gsr ?_
          refine gp zmv ?_
          refine gp znc ?_
          refine gp zfa ?_
          refine gp zfa ?_
          refine gp r_lde ?_
          refine gp (r_nenil rfl (by kernel_rfl)) ?_
          refine gnt ?_
          refine gif rfl (fun hc52 => ?_) (fun hc52 => ?_)
          · try simp only at hc52
            have hbad := hmany.bad hc52
            have hfin := list_fin hx hc2 ⟨hbad.1, hbad.2 []⟩
            refine gsr ?_
            refine gp zas ?_
            refine gnt ?_
            refine gc_ret ?_
            refine gx_then_ret ?_
            refine gx_ret1 rfl (by conv => lhs; whnf) ?_
            rw [hfin.1]
            exact fun w' hw => ⟨(none, 0, 0, []), rfl, St.pureI ⟨hfin.2, Nat.le_refl _, rfl⟩ ((hw.sel (M := [RdrR TE ea g τ]) (by repeat (first | exact Sel.nil | (apply Sel.cons; · (repeat (first | exact Pick.here | apply Pick.there)))))).mapL fun F' hF' => ls_nil hF')⟩
          · try simp only at hc52
            have hm0 : x - k = 0 := by first | omega | exact absurd hc52 he2
            rw [hm0] at hmany
            have hfin := list_fin hx hc2 hmany.done
            refine gc_skip ?_
            refine gx_then ?_
            refine gsr ?_
            refine gp zmv ?_
            refine gp zas ?_
            refine gnt ?_
            refine gc_ret ?_
            refine gx_ret1 rfl (by conv => lhs; whnf) ?_
            rw [hfin.1]
            intro w' hw
            have hle := (hw.rowLe (e := 49) (size := 4) (a := a) (m := k) (c := c) (xs := css.flatten) (by repeat (first | exact Pick.here | apply Pick.there))).1
            exact ⟨(a, k, c, l), rfl, St.pureI ⟨hfin.2, hle, hll.symm⟩ ((hw.conv (M := [rowR 49 4 a k c css.flatten, ElR (RdSigned) css l]) (by repeat (first | exact Sel.nil | (apply Sel.cons; · (repeat (first | exact Pick.here | apply Pick.there))))) (fun _ _ => ls_of hcss)).sel (by repeat (first | exact Sel.nil | (apply Sel.cons; · (repeat (first | exact Pick.here | apply Pick.there))))))⟩
      · refine gc_region ?_
        refine gp zmv ?_
        refine gp zmv ?_
        refine gp (r_bool (c := false) zlt (decide_eq_false (by omega))) ?_
        refine gp zmv ?_
        refine gn ?_
        refine gn ?_
        refine gn ?_
        refine gn ?_
        refine gn ?_
        refine gn ?_
        refine gp zpk ?_
        refine gnt ?_
        refine gc_condF rfl rfl ?_
        refine gc_exit ?_
        refine gx_then_exit ?_
        refine gx_round_exit ?_
        refine gx_block_hit ?_
        refine gx_then ?_
        refine gc_seq ?_
        refine gsr ?_
        refine gp zmv ?_
        refine gp znc ?_
        refine gp zfa ?_
        refine gp zfa ?_
        refine gp r_lde ?_
        refine gp (r_nenil rfl (by kernel_rfl)) ?_
        refine gnt ?_
        refine gif rfl (fun hc52 => ?_) (fun hc52 => ?_)
        · try simp only at hc52
          have hbad := hmany.bad hc52
          have hfin := list_fin hx hc2 ⟨hbad.1, hbad.2 []⟩
          refine gsr ?_
          refine gp zas ?_
          refine gnt ?_
          refine gc_ret ?_
          refine gx_then_ret ?_
          refine gx_ret1 rfl (by conv => lhs; whnf) ?_
          rw [hfin.1]
          exact fun w' hw => ⟨(none, 0, 0, []), rfl, St.pureI ⟨hfin.2, Nat.le_refl _, rfl⟩ ((hw.sel (M := [RdrR TE ea g τ]) (by repeat (first | exact Sel.nil | (apply Sel.cons; · (repeat (first | exact Pick.here | apply Pick.there)))))).mapL fun F' hF' => ls_nil hF')⟩
        · try simp only at hc52
          have hm0 : x - k = 0 := by first | omega | exact absurd hc52 he2
          rw [hm0] at hmany
          have hfin := list_fin hx hc2 hmany.done
          refine gc_skip ?_
          refine gx_then ?_
          refine gsr ?_
          refine gp zmv ?_
          refine gp zas ?_
          refine gnt ?_
          refine gc_ret ?_
          refine gx_ret1 rfl (by conv => lhs; whnf) ?_
          rw [hfin.1]
          intro w' hw
          have hle := (hw.rowLe (e := 49) (size := 4) (a := a) (m := k) (c := c) (xs := css.flatten) (by repeat (first | exact Pick.here | apply Pick.there))).1
          exact ⟨(a, k, c, l), rfl, St.pureI ⟨hfin.2, hle, hll.symm⟩ ((hw.conv (M := [rowR 49 4 a k c css.flatten, ElR (RdSigned) css l]) (by repeat (first | exact Sel.nil | (apply Sel.cons; · (repeat (first | exact Pick.here | apply Pick.there))))) (fun _ _ => ls_of hcss)).sel (by repeat (first | exact Sel.nil | (apply Sel.cons; · (repeat (first | exact Pick.here | apply Pick.there))))))⟩

set_option maxHeartbeats 400000 in
theorem rqc_ok {w : World} {F : Nat → Prop} {TE : Nat} {ea : Nat → Addr} {g : Nat} {σ : RSt} (h : stars [RdrR TE ea g σ] w F) {es : List Nat} [Has es 1] [Has es 2] (hE : GErr es w (fun k => ¬ F k) TE ea) :
    Calls Tryd.prog 110 #[.agg (List.toArray [.pointer (some ⟨g, 0, none⟩)])] w (Post w F (fun r : List Value × QC => .agg r.1.toArray) (fun r => [pureR (Ag pQC σ r.2 ∧ r.1.length = 19 ∧ ∀ v ∈ r.1, v.oneCell' = true), VlR RdQC r.1 r.2, RdrR TE ea g (rstep pQC σ)])) := by
  refine g_enter (env := [(0, .agg (List.toArray [.pointer (some ⟨g, 0, none⟩)]))]) Tryd.func110 rfl h Tryd.ntmps110 rfl rfl ?_
  refine gsr ?_
  refine zbN fun b1 => ?_
  refine zal fun b2 => ?_
  refine gnt ?_
  refine gsr ?_
  refine gp zL ?_
  refine zc ?_ (c := fun w1 F1 F2 h1 h2 hd hst => rat_ok h1 (hE.mv hst.still))
  rintro ⟨x5, y5⟩
  refine gl_pureR (fun g5 => ?_)
  replace g5 : Ag pAt _ ((x5 : Int), (y5 : Int)) := g5
  refine gp zmv ?_
  refine gp zex ?_
  refine gp zex ?_
  refine gp zfa ?_
  refine zs1 ?_
  refine gp zfa ?_
  refine zs1 ?_
  refine gnt ?_
  refine gsr ?_
  refine gp zL ?_
  refine zc (fun d11 => ?_) (c := fun w1 F1 F2 h1 h2 hd hst => rdigest_ok h1 (hE.mv hst.still))
  refine gl_pureR (fun g11 => ?_)
  refine gp zfa ?_
  refine zsN ?_
  refine gnt ?_
  refine gsr ?_
  refine gp zfa ?_
  refine gp zl ?_
  refine zc ?_ (c := fun w1 F1 F2 h1 h2 hd hst => takeSigneds_ok (most := 7) h1 (hE.mv hst.still) (by decide))
  rintro ⟨a15, n15, c15, l15⟩
  refine gl_pureR (fun hp15 => ?_)
  obtain ⟨g15, k15, e15⟩ := hp15
  replace g15 : Ag (pList pSigned 7) _ l15 := g15
  replace k15 : n15 ≤ c15 := k15
  refine gp zfa ?_
  refine zs1 ?_
  refine gnt ?_
  refine gsr ?_
  refine gp zL ?_
  refine zsN ?_
  refine gnt ?_
  refine gc_ret ?_
  refine gx_retc rfl rfl (ld_aggS Ty.row_26 Ty.sz_26 (by repeat (first | exact Pick.here | apply Pick.there)) (by (simp only [List.drop_succ_cons, List.drop_zero, List.take_succ_cons, List.take_zero, List.cons_append, List.nil_append, List.append_assoc, drop_dc, drop_dc', take_dc, take_dc', drop_L, drop_L', take_L, take_L', len_L, Nat.reduceLeDiff, Nat.reduceSub, Nat.reduceAdd, Nat.le_refl, List.length_cons, List.length_append, List.length_nil, dc_length, List.drop_nil, List.take_nil, List.append_nil, List.length_map, List.length_replicate]; first | done | rfl)) (by first | rfl | (simp only [List.drop_succ_cons, List.drop_zero, List.take_succ_cons, List.take_zero, List.cons_append, List.nil_append, List.append_assoc, drop_dc, drop_dc', take_dc, take_dc', drop_L, drop_L', take_L, take_L', len_L, Nat.reduceLeDiff, Nat.reduceSub, Nat.reduceAdd, Nat.le_refl, List.length_cons, List.length_append, List.length_nil, dc_length, List.drop_nil, List.take_nil, List.append_nil, List.length_map, List.length_replicate]; first | done | omega))) ?_
  have ha : Ag pQC σ ⟨x5, y5, d11, l15⟩ := g5.bind (g11.bind (g15.bind (Ag.pure _)))
  have hr : rstep pQC σ = rstep (pList pSigned 7) (rstep pDig (rstep pAt (σ))) := by rw [pQC, rstep_bind g5, rstep_bind g11, rstep_bind g15, rstep_pure]
  rw [hr]
  intro w' hw
  refine ⟨(.int .i64 x5 :: .int .i64 y5 :: (dc d11 ++ [.slice a15 n15 c15]), ⟨x5, y5, d11, l15⟩), rfl, St.pureI ⟨ha, by first | rfl | simp only [List.length_cons, List.length_append, List.length_nil, dc_length, len_L] , all_cons' rfl (all_cons' rfl (all_app' (dc_one _) (all_cons' rfl all_nil')))⟩ ?_⟩
  exact (hw.conv (M := [LsR RdSigned 4 a15 n15 l15]) (by repeat (first | exact Sel.nil | (apply Sel.cons; · (repeat (first | exact Pick.here | apply Pick.there))))) (fun _ _ => vl_qc k15)).sel (by repeat (first | exact Sel.nil | (apply Sel.cons; · (repeat (first | exact Pick.here | apply Pick.there)))))

end Go.Proofs.YtkgbbnhdioghmaaDoor
