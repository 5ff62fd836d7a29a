/- Walks, by program (wg.py) out of a spec. -/
import Derived.Test.YtkgbbnhdioghmaaDoorWc
namespace Go.Proofs.YtkgbbnhdioghmaaDoor
open Go
set_option linter.unusedVariables false
set_option linter.unusedSimpArgs false

attribute [local irreducible] Gl Gc Gx Gs Runs Wt

set_option maxHeartbeats 400000 in
theorem sig_ok {w : World} {F : Nat → Prop} {g TE : Nat} {ea : Nat → Addr} {s : WS} {cs : List Value} {x : Sig} (h : stars [WrR TE ea g s] w F) {es : List Nat} [Has es 1] (hE : GErr es w (fun k => ¬ F k) TE ea) (hx : RdSig w (fun k => ¬ F k) cs x) (hb : s.bs.length + 1171 ≤ 1099511627776) :
    Calls Tryd.prog 131 #[.agg (List.toArray [.pointer (some ⟨g, 0, none⟩)]), .agg cs.toArray] w (Post w F (fun _ : Unit => .tuple #[]) (fun _ => [WrR TE ea g (wSig x s)])) := by
  obtain ⟨a1, n1, c1, a2, n2, c2, rfl, hk1, hk2, hd1, hd2⟩ := hx
  refine g_enter (env := [(0, .agg (List.toArray [.pointer (some ⟨g, 0, none⟩)])), (1, .agg (List.toArray ([.int .i64 x.leaf, .slice a1 n1 c1, .slice a2 n2 c2])))]) Tryd.func131 rfl h Tryd.ntmps131 rfl rfl ?_
  refine gsr ?_
  refine zbN fun b2 => ?_
  refine zbN fun b3 => ?_
  refine gnt ?_
  refine gsr ?_
  refine gp zfa ?_
  refine gp zl ?_
  refine gp zfa ?_
  refine gp zl ?_
  refine zc (fun _ => ?_) (c := fun w1 F1 F2 h1 h2 hd hst => number_ok (wd := 1) h1 (hE.mv hst.still) (by decide) (by decide) (by omega))
  refine gnt ?_
  refine gsr ?_
  refine gp zfa ?_
  refine gp zl ?_
  refine gp zfa ?_
  refine gp zl ?_
  refine zc (fun _ => ?_) (c := fun w1 F1 F2 h1 h2 hd hst => putDigs_ok (most := 68) h1 (hE.mv hst.still) (hd1.mv hst.still) (by decide) (by have e0 := wNum_len x.leaf 1 s; omega))
  refine gnt ?_
  refine gc_region ?_
  refine gp zfa ?_
  refine gp zl ?_
  refine gp zfa ?_
  refine gp zl ?_
  refine zc (fun _ => ?_) (c := fun w1 F1 F2 h1 h2 hd hst => putDigs_ok (most := 5) h1 (hE.mv hst.still) (hd2.mv hst.still) (by decide) (by have e0 := wNum_len x.leaf 1 s; have e1 := wPut_len wDig_len x.chains 68 (wNum x.leaf 1 s); omega))
  refine gl_nil ?_
  refine gx_ret0' rfl ?_
  exact ze ()

set_option maxHeartbeats 400000 in
theorem signed_ok {w : World} {F : Nat → Prop} {g TE : Nat} {ea : Nat → Addr} {s : WS} {cs : List Value} {x : Signed} (h : stars [WrR TE ea g s] w F) {es : List Nat} [Has es 1] (hE : GErr es w (fun k => ¬ F k) TE ea) (hx : RdSigned w (fun k => ¬ F k) cs x) (hb : s.bs.length + 1172 ≤ 1099511627776) :
    Calls Tryd.prog 102 #[.agg (List.toArray [.pointer (some ⟨g, 0, none⟩)]), .agg cs.toArray] w (Post w F (fun _ : Unit => .tuple #[]) (fun _ => [WrR TE ea g (wSigned x s)])) := by
  obtain ⟨ss, rfl, hs⟩ := hx
  have hl := hs.len
  have z_hl := Len.of hl
  refine g_enter (env := [(0, .agg (List.toArray [.pointer (some ⟨g, 0, none⟩)])), (1, .agg (List.toArray (.int .i64 x.who :: ss)))]) Tryd.func102 rfl h Tryd.ntmps102 rfl rfl ?_
  refine gsr ?_
  refine zbN fun b2 => ?_
  refine zbN fun b3 => ?_
  refine gnt ?_
  refine gsr ?_
  refine gp zfa ?_
  refine gp zl ?_
  refine gp zfa ?_
  refine gp zl ?_
  refine zc (fun _ => ?_) (c := fun w1 F1 F2 h1 h2 hd hst => number_ok (wd := 1) h1 (hE.mv hst.still) (by decide) (by decide) (by omega))
  refine gnt ?_
  refine gc_region ?_
  refine gp zL ?_
  refine gp zfa ?_
  refine gp zL ?_
  refine zc (fun _ => ?_) (c := fun w1 F1 F2 h1 h2 hd hst => sig_ok h1 (hE.mv hst.still) (hs.mv hst.still) (by have e0 := wNum_len x.who 1 s; omega))
  refine gl_nil ?_
  refine gx_ret0' rfl ?_
  exact ze ()

set_option maxHeartbeats 400000 in
theorem qc1_ok {w : World} {F : Nat → Prop} {g TE : Nat} {ea : Nat → Addr} {s : WS} {cs : List Value} {x : Signed} (h : stars [WrR TE ea g s] w F) {es : List Nat} [Has es 1] (hE : GErr es w (fun k => ¬ F k) TE ea) (hx : RdSigned w (fun k => ¬ F k) cs x) (hb : s.bs.length + 1172 ≤ 1099511627776) :
    Calls Tryd.prog 126 #[.pointer (some ⟨g, 0, none⟩), .agg cs.toArray] w (Post w F (fun _ : Unit => .tuple #[]) (fun _ => [WrR TE ea g (wSigned x s)])) := by
  have hl := hx.len
  refine g_enter (env := [(0, .pointer (some ⟨g, 0, none⟩)), (1, .agg cs.toArray)]) Tryd.func126 rfl h Tryd.ntmps126 rfl rfl ?_
  refine gsr ?_
  refine zbN fun b3 => ?_
  refine gnt ?_
  refine gc_region ?_
  refine gp zmv ?_
  refine gp zbu ?_
  refine gp (r_ldN rfl Ty.row_49 Ty.sz_49 (by repeat (first | exact Pick.here | apply Pick.there)) (seg_all hl) hl) ?_
  refine zc (fun _ => ?_) (c := fun w1 F1 F2 h1 h2 hd hst => signed_ok h1 (hE.mv hst.still) (hx.mv hst.still) hb)
  refine gl_nil ?_
  refine gx_ret0' rfl ?_
  exact ze ()

set_option maxHeartbeats 400000 in
theorem putSigneds_big {w : World} {F : Nat → Prop} {g TE : Nat} {ea : Nat → Addr} {s : WS} {n c : Nat} {a : Option Addr} {l : List Signed} {most : Nat} (h : stars [WrR TE ea g s] w F) {es : List Nat} [Has es 1] (hE : GErr es w (fun k => ¬ F k) TE ea) (hl : RdList (RdSigned w (fun k => ¬ F k)) w (fun k => ¬ F k) 4 a n l) (hm : most ≤ 255) (hn : most < n) :
    Calls Tryd.prog 125 #[.pointer (some ⟨g, 0, none⟩), .slice a n c, .int .i64 (most : Int), .func (.func 126) #[] #[]] w (Post w F (fun _ : Unit => .tuple #[]) (fun _ => [WrR TE ea g (wFail 1 s)])) := by
  obtain ⟨a0, c0, h'⟩ := wr_open h
  refine g_enter (env := [(0, .pointer (some ⟨g, 0, none⟩)), (1, .slice a n c), (2, .int .i64 (most : Int)), (3, .func (.func 126) #[] #[])]) Tryd.func125 rfl h' Tryd.ntmps125 rfl rfl ?_
  refine gc_seq ?_
  refine gsr ?_
  refine gp zmv ?_
  refine gp zln ?_
  refine gp zmv ?_
  refine gp (r_bool (r_gtr rfl rfl) (decide_eq_true (by omega))) ?_
  refine gp zmv ?_
  refine gn ?_
  refine gn ?_
  refine gn ?_
  refine gp zpk ?_
  refine gnt ?_
  refine gc_condT rfl rfl ?_
  refine gc_seq ?_
  refine gc_regionT 4 (by kernel_rfl) (by kernel_rfl) ?_
  refine sp zmv ?_
  refine sp znc ?_
  refine sp zfa ?_
  refine sp (r_ld1o rfl Ty.row_35 (hE.c 1 Has.h) (hE.n 1 Has.h)) ?_
  refine gs_nil ?_
  refine zc (fun _ => ?_) (c := fun w1 F1 F2 h1 h2 hd hst => fail_ok h1)
  refine gnt ?_
  refine gc_ret ?_
  refine gx_then_ret ?_
  refine gx_ret0 rfl ?_
  exact fun w' hw => ⟨(), rfl, by rw [wFail]; by_cases he : s.err = 0 <;> simp only [he, if_true, if_false, ite_true, ite_false] at hw ⊢ <;> exact St.wr (hw.sel (by repeat (first | exact Sel.nil | (apply Sel.cons; · (repeat (first | exact Pick.here | apply Pick.there)))))) (by simp [he]) rfl rfl⟩

set_option maxHeartbeats 400000 in
theorem putSigneds_fit {w : World} {F : Nat → Prop} {g TE : Nat} {ea : Nat → Addr} {s : WS} {n c : Nat} {a : Option Addr} {l : List Signed} {most : Nat} (h : stars [WrR TE ea g s] w F) {es : List Nat} [Has es 1] (hE : GErr es w (fun k => ¬ F k) TE ea) (hl : RdList (RdSigned w (fun k => ¬ F k)) w (fun k => ¬ F k) 4 a n l) (hm : most ≤ 255) (hn : n ≤ most) (hb : s.bs.length + (1 + most * 1172) ≤ 1099511627776) :
    Calls Tryd.prog 125 #[.pointer (some ⟨g, 0, none⟩), .slice a n c, .int .i64 (most : Int), .func (.func 126) #[] #[]] w (Post w F (fun _ : Unit => .tuple #[]) (fun _ => [WrR TE ea g (l.foldl (fun s x => wSigned x s) (wNum (l.length : Int) 1 s))])) := by
  have hnl := hl.len (by decide)
  refine g_enter (env := [(0, .pointer (some ⟨g, 0, none⟩)), (1, .slice a n c), (2, .int .i64 (most : Int)), (3, .func (.func 126) #[] #[])]) Tryd.func125 rfl h Tryd.ntmps125 rfl rfl ?_
  refine gc_seq ?_
  refine gsr ?_
  refine gp zmv ?_
  refine gp zln ?_
  refine gp zmv ?_
  refine gp (r_bool (r_gtr rfl rfl) (decide_eq_false (by omega))) ?_
  refine gp zmv ?_
  refine gq zmv ?_
  refine gq zln ?_
  refine gq (r_bool (r_gtr rfl rfl) (decide_eq_false (by omega))) ?_
  refine gp zpk ?_
  refine gnt ?_
  refine gc_condF rfl rfl ?_
  refine gc_skip ?_
  refine gx_then ?_
  refine gsr ?_
  refine gp zmv ?_
  refine gp zmv ?_
  refine gp zln ?_
  refine zc (fun _ => ?_) (c := fun w1 F1 F2 h1 h2 hd hst => number_ok (wd := 1) h1 (hE.mv hst.still) (by decide) (by decide) (by omega))
  refine gnt ?_
  refine gsr ?_
  refine gp zmv ?_
  refine gp zln ?_
  refine gp zmv ?_
  refine gnt ?_
  refine gc_block ?_
  refine gc_loop (α := Nat) (fun k => [pureR (k ≤ n), WrR TE ea g ((l.take k).foldl (fun s x => wSigned x s) (wNum (l.length : Int) 1 s))]) (fun k => [(30, .int .i64 (k : Int))]) [9, 31, 32, 33, 34, 35, 36, 37, 38] (fun k => n - k) 0 ?_ ?_ ?_
  · refine env_start (by kernel_rfl)
  · rintro w' hw
    obtain ⟨F', hF', hst'⟩ := hw.sel (M := [WrR TE ea g (wNum (n : Int) 1 s)]) (by repeat (first | exact Sel.nil | (apply Sel.cons; · (repeat (first | exact Pick.here | apply Pick.there)))))
    rw [hnl] at hF'
    exact ⟨F', stars_pure_mk (Nat.zero_le _) hF', hst'⟩
  · intro k u
    refine gc_pureR (fun hk => ?_)
    replace hk : k ≤ n := hk
    refine gsr ?_
    refine gp zlt ?_
    refine gnt ?_
    refine gc_seq ?_
    refine gif rfl (fun hc31 => ?_) (fun hc31 => ?_)
    · have hk' : k < n := by (try simp only at hc31); omega
      obtain ⟨ga, o, cs, y, ha, hA, hg, hra, hcl, hly, hrd⟩ := hl.elem (by decide) hk'
      subst ha
      refine gc_skip ?_
      refine gx_then ?_
      refine gc_seq ?_
      refine gc_block ?_
      refine gsr ?_
      refine gp (r_indexAddr_slice rfl rfl Ty.sl_24 Ty.sz_49 (by omega) (by omega)) ?_
      refine gp (r_ldNo rfl Ty.row_49 Ty.sz_49 hra hcl (by decide) hA) ?_
      refine zal fun b9 => ?_
      refine gl_storeN (wt0 rfl) rfl rfl Ty.sz_49 hcl (by repeat (first | exact Pick.here | apply Pick.there)) (by first | rfl | (simp only [List.drop_succ_cons, List.drop_zero, List.take_succ_cons, List.take_zero, List.cons_append, List.nil_append, List.append_assoc, drop_dc, drop_dc', take_dc, take_dc', drop_L, drop_L', take_L, take_L', len_L, Nat.reduceLeDiff, Nat.reduceSub, Nat.reduceAdd, Nat.le_refl, List.length_cons, List.length_append, List.length_nil, dc_length, List.drop_nil, List.take_nil, List.append_nil, List.length_map, List.length_replicate, zD_length]; first | done | omega)) (hrd.one) (updL_all (by rw [hcl]; first | rfl | (simp only [List.drop_succ_cons, List.drop_zero, List.take_succ_cons, List.take_zero, List.cons_append, List.nil_append, List.append_assoc, drop_dc, drop_dc', take_dc, take_dc', drop_L, drop_L', take_L, take_L', len_L, Nat.reduceLeDiff, Nat.reduceSub, Nat.reduceAdd, Nat.le_refl, List.length_cons, List.length_append, List.length_nil, dc_length, List.drop_nil, List.take_nil, List.append_nil, List.length_map, List.length_replicate, zD_length]))) ?_
      refine gnt ?_
      refine gc_region ?_
      refine gp zmv ?_
      refine gp zmv ?_
      refine gp (r_ldN rfl Ty.row_49 Ty.sz_49 (by repeat (first | exact Pick.here | apply Pick.there)) (seg_all hcl) hcl) ?_
      refine gl_call (wt0 rfl) (e_callv (us := []) rfl Ty.call_126 rfl) (by repeat (first | exact Sel.nil | (apply Sel.cons; · (repeat (first | exact Pick.here | apply Pick.there))))) (fun w1 F1 F2 h1 h2 hd hst => qc1_ok h1 (hE.mv hst.still) (hrd.mv hst.still) (put_bound wSigned_len (by omega) (by omega) hb)) ?_
      intro _
      refine gl_nil ?_
      refine gx_block_normal ?_
      refine gx_then ?_
      refine gc_region ?_
      refine gp (r_arith (op := .add) rfl rfl (wrap_i64 (by omega) (by omega))) ?_
      refine gp zmv ?_
      refine gl_nil ?_
      refine zrd (k + 1) ?_ ?_
      · show n - (k + 1) < n - k
        omega
      · rintro w' hw
        obtain ⟨F', hF', hst'⟩ := hw.sel (M := [WrR TE ea g _]) (by repeat (first | exact Sel.nil | (apply Sel.cons; · (repeat (first | exact Pick.here | apply Pick.there)))))
        refine ⟨F', stars_pure_mk (show k + 1 ≤ n by omega) ?_, hst'⟩
        rw [foldl_take_succ _ _ _ hly]
        exact hF'
    · have hk' : k = l.length := by (try simp only at hc31); omega
      subst hk'
      refine gc_exit ?_
      refine gx_then_exit ?_
      refine gx_round_exit ?_
      refine gx_block_hit ?_
      refine gx_ret0' rfl ?_
      rw [List.take_length]
      exact ze ()


theorem putSigneds_ok {w : World} {F : Nat → Prop} {g TE : Nat} {ea : Nat → Addr} {s : WS} {n c : Nat} {a : Option Addr} {l : List Signed} {most : Nat} (h : stars [WrR TE ea g s] w F) {es : List Nat} [Has es 1] (hE : GErr es w (fun k => ¬ F k) TE ea) (hl : RdList (RdSigned w (fun k => ¬ F k)) w (fun k => ¬ F k) 4 a n l) (hm : most ≤ 255) (hb : s.bs.length + (1 + most * 1172) ≤ 1099511627776) :
    Calls Tryd.prog 125 #[.pointer (some ⟨g, 0, none⟩), .slice a n c, .int .i64 (most : Int), .func (.func 126) #[] #[]] w (Post w F (fun _ : Unit => .tuple #[]) (fun _ => [WrR TE ea g (wPut (wSigned) l most s)])) := by
  have hnl := hl.len (by decide)
  unfold wPut
  by_cases hn : most < n
  · rw [if_pos (.inl (by omega))]; exact putSigneds_big h hE hl hm hn
  · rw [if_neg (by omega)]; exact putSigneds_fit h hE hl hm (by omega) hb

set_option maxHeartbeats 400000 in
theorem tc1_ok {w : World} {F : Nat → Prop} {g TE : Nat} {ea : Nat → Addr} {s : WS} {cs : List Value} {x : Late} (h : stars [WrR TE ea g s] w F) {es : List Nat} [Has es 1] (hE : GErr es w (fun k => ¬ F k) TE ea) (hx : RdLate w (fun k => ¬ F k) cs x) (hb : s.bs.length + 1178 ≤ 1099511627776) :
    Calls Tryd.prog 133 #[.pointer (some ⟨g, 0, none⟩), .agg cs.toArray] w (Post w F (fun _ : Unit => .tuple #[]) (fun _ => [WrR TE ea g (wLate x s)])) := by
  obtain ⟨ss, rfl, hs⟩ := hx
  have hl := hs.len
  have z_hl := Len.of hl
  refine g_enter (env := [(0, .pointer (some ⟨g, 0, none⟩)), (1, .agg (List.toArray (.int .i64 x.who :: .int .i64 x.high :: ss)))]) Tryd.func133 rfl h Tryd.ntmps133 rfl rfl ?_
  refine gsr ?_
  refine zbN fun b3 => ?_
  refine gnt ?_
  refine gsr ?_
  refine gp zmv ?_
  refine gp zfa ?_
  refine gp zl ?_
  refine zc (fun _ => ?_) (c := fun w1 F1 F2 h1 h2 hd hst => number_ok (wd := 1) h1 (hE.mv hst.still) (by decide) (by decide) (by omega))
  refine gnt ?_
  refine gsr ?_
  refine gp zmv ?_
  refine gp zfa ?_
  refine gp zl ?_
  refine zc (fun _ => ?_) (c := fun w1 F1 F2 h1 h2 hd hst => number_ok (wd := 6) h1 (hE.mv hst.still) (by decide) (by decide) (by have e0 := wNum_len x.who 1 s; omega))
  refine gnt ?_
  refine gc_region ?_
  refine gp zmv ?_
  refine gp zbu ?_
  refine gp zfa ?_
  refine gp zL ?_
  refine zc (fun _ => ?_) (c := fun w1 F1 F2 h1 h2 hd hst => sig_ok h1 (hE.mv hst.still) (hs.mv hst.still) (by have e0 := wNum_len x.who 1 s; have e1 := wNum_len x.high 6 (wNum x.who 1 s); omega))
  refine gl_nil ?_
  refine gx_ret0' rfl ?_
  exact ze ()

set_option maxHeartbeats 400000 in
theorem putLates_big {w : World} {F : Nat → Prop} {g TE : Nat} {ea : Nat → Addr} {s : WS} {n c : Nat} {a : Option Addr} {l : List Late} {most : Nat} (h : stars [WrR TE ea g s] w F) {es : List Nat} [Has es 1] (hE : GErr es w (fun k => ¬ F k) TE ea) (hl : RdList (RdLate w (fun k => ¬ F k)) w (fun k => ¬ F k) 5 a n l) (hm : most ≤ 255) (hn : most < n) :
    Calls Tryd.prog 132 #[.pointer (some ⟨g, 0, none⟩), .slice a n c, .int .i64 (most : Int), .func (.func 133) #[] #[]] w (Post w F (fun _ : Unit => .tuple #[]) (fun _ => [WrR TE ea g (wFail 1 s)])) := by
  obtain ⟨a0, c0, h'⟩ := wr_open h
  refine g_enter (env := [(0, .pointer (some ⟨g, 0, none⟩)), (1, .slice a n c), (2, .int .i64 (most : Int)), (3, .func (.func 133) #[] #[])]) Tryd.func132 rfl h' Tryd.ntmps132 rfl rfl ?_
  refine gc_seq ?_
  refine gsr ?_
  refine gp zmv ?_
  refine gp zln ?_
  refine gp zmv ?_
  refine gp (r_bool (r_gtr rfl rfl) (decide_eq_true (by omega))) ?_
  refine gp zmv ?_
  refine gn ?_
  refine gn ?_
  refine gn ?_
  refine gp zpk ?_
  refine gnt ?_
  refine gc_condT rfl rfl ?_
  refine gc_seq ?_
  refine gc_regionT 4 (by kernel_rfl) (by kernel_rfl) ?_
  refine sp zmv ?_
  refine sp znc ?_
  refine sp zfa ?_
  refine sp (r_ld1o rfl Ty.row_35 (hE.c 1 Has.h) (hE.n 1 Has.h)) ?_
  refine gs_nil ?_
  refine zc (fun _ => ?_) (c := fun w1 F1 F2 h1 h2 hd hst => fail_ok h1)
  refine gnt ?_
  refine gc_ret ?_
  refine gx_then_ret ?_
  refine gx_ret0 rfl ?_
  exact fun w' hw => ⟨(), rfl, by rw [wFail]; by_cases he : s.err = 0 <;> simp only [he, if_true, if_false, ite_true, ite_false] at hw ⊢ <;> exact St.wr (hw.sel (by repeat (first | exact Sel.nil | (apply Sel.cons; · (repeat (first | exact Pick.here | apply Pick.there)))))) (by simp [he]) rfl rfl⟩

set_option maxHeartbeats 400000 in
theorem putLates_fit {w : World} {F : Nat → Prop} {g TE : Nat} {ea : Nat → Addr} {s : WS} {n c : Nat} {a : Option Addr} {l : List Late} {most : Nat} (h : stars [WrR TE ea g s] w F) {es : List Nat} [Has es 1] (hE : GErr es w (fun k => ¬ F k) TE ea) (hl : RdList (RdLate w (fun k => ¬ F k)) w (fun k => ¬ F k) 5 a n l) (hm : most ≤ 255) (hn : n ≤ most) (hb : s.bs.length + (1 + most * 1178) ≤ 1099511627776) :
    Calls Tryd.prog 132 #[.pointer (some ⟨g, 0, none⟩), .slice a n c, .int .i64 (most : Int), .func (.func 133) #[] #[]] w (Post w F (fun _ : Unit => .tuple #[]) (fun _ => [WrR TE ea g (l.foldl (fun s x => wLate x s) (wNum (l.length : Int) 1 s))])) := by
  have hnl := hl.len (by decide)
  refine g_enter (env := [(0, .pointer (some ⟨g, 0, none⟩)), (1, .slice a n c), (2, .int .i64 (most : Int)), (3, .func (.func 133) #[] #[])]) Tryd.func132 rfl h Tryd.ntmps132 rfl rfl ?_
  refine gc_seq ?_
  refine gsr ?_
  refine gp zmv ?_
  refine gp zln ?_
  refine gp zmv ?_
  refine gp (r_bool (r_gtr rfl rfl) (decide_eq_false (by omega))) ?_
  refine gp zmv ?_
  refine gq zmv ?_
  refine gq zln ?_
  refine gq (r_bool (r_gtr rfl rfl) (decide_eq_false (by omega))) ?_
  refine gp zpk ?_
  refine gnt ?_
  refine gc_condF rfl rfl ?_
  refine gc_skip ?_
  refine gx_then ?_
  refine gsr ?_
  refine gp zmv ?_
  refine gp zmv ?_
  refine gp zln ?_
  refine zc (fun _ => ?_) (c := fun w1 F1 F2 h1 h2 hd hst => number_ok (wd := 1) h1 (hE.mv hst.still) (by decide) (by decide) (by omega))
  refine gnt ?_
  refine gsr ?_
  refine gp zmv ?_
  refine gp zln ?_
  refine gp zmv ?_
  refine gnt ?_
  refine gc_block ?_
  refine gc_loop (α := Nat) (fun k => [pureR (k ≤ n), WrR TE ea g ((l.take k).foldl (fun s x => wLate x s) (wNum (l.length : Int) 1 s))]) (fun k => [(30, .int .i64 (k : Int))]) [9, 31, 32, 33, 34, 35, 36, 37, 38] (fun k => n - k) 0 ?_ ?_ ?_
  · refine env_start (by kernel_rfl)
  · rintro w' hw
    obtain ⟨F', hF', hst'⟩ := hw.sel (M := [WrR TE ea g (wNum (n : Int) 1 s)]) (by repeat (first | exact Sel.nil | (apply Sel.cons; · (repeat (first | exact Pick.here | apply Pick.there)))))
    rw [hnl] at hF'
    exact ⟨F', stars_pure_mk (Nat.zero_le _) hF', hst'⟩
  · intro k u
    refine gc_pureR (fun hk => ?_)
    replace hk : k ≤ n := hk
    refine gsr ?_
    refine gp zlt ?_
    refine gnt ?_
    refine gc_seq ?_
    refine gif rfl (fun hc31 => ?_) (fun hc31 => ?_)
    · have hk' : k < n := by (try simp only at hc31); omega
      obtain ⟨ga, o, cs, y, ha, hA, hg, hra, hcl, hly, hrd⟩ := hl.elem (by decide) hk'
      subst ha
      refine gc_skip ?_
      refine gx_then ?_
      refine gc_seq ?_
      refine gc_block ?_
      refine gsr ?_
      refine gp (r_indexAddr_slice rfl rfl Ty.sl_52 Ty.sz_178 (by omega) (by omega)) ?_
      refine gp (r_ldNo rfl Ty.row_178 Ty.sz_178 hra hcl (by decide) hA) ?_
      refine zal fun b9 => ?_
      refine gl_storeN (wt0 rfl) rfl rfl Ty.sz_178 hcl (by repeat (first | exact Pick.here | apply Pick.there)) (by first | rfl | (simp only [List.drop_succ_cons, List.drop_zero, List.take_succ_cons, List.take_zero, List.cons_append, List.nil_append, List.append_assoc, drop_dc, drop_dc', take_dc, take_dc', drop_L, drop_L', take_L, take_L', len_L, Nat.reduceLeDiff, Nat.reduceSub, Nat.reduceAdd, Nat.le_refl, List.length_cons, List.length_append, List.length_nil, dc_length, List.drop_nil, List.take_nil, List.append_nil, List.length_map, List.length_replicate, zD_length]; first | done | omega)) (hrd.one) (updL_all (by rw [hcl]; first | rfl | (simp only [List.drop_succ_cons, List.drop_zero, List.take_succ_cons, List.take_zero, List.cons_append, List.nil_append, List.append_assoc, drop_dc, drop_dc', take_dc, take_dc', drop_L, drop_L', take_L, take_L', len_L, Nat.reduceLeDiff, Nat.reduceSub, Nat.reduceAdd, Nat.le_refl, List.length_cons, List.length_append, List.length_nil, dc_length, List.drop_nil, List.take_nil, List.append_nil, List.length_map, List.length_replicate, zD_length]))) ?_
      refine gnt ?_
      refine gc_region ?_
      refine gp zmv ?_
      refine gp zmv ?_
      refine gp (r_ldN rfl Ty.row_178 Ty.sz_178 (by repeat (first | exact Pick.here | apply Pick.there)) (seg_all hcl) hcl) ?_
      refine gl_call (wt0 rfl) (e_callv (us := []) rfl Ty.call_133 rfl) (by repeat (first | exact Sel.nil | (apply Sel.cons; · (repeat (first | exact Pick.here | apply Pick.there))))) (fun w1 F1 F2 h1 h2 hd hst => tc1_ok h1 (hE.mv hst.still) (hrd.mv hst.still) (put_bound wLate_len (by omega) (by omega) hb)) ?_
      intro _
      refine gl_nil ?_
      refine gx_block_normal ?_
      refine gx_then ?_
      refine gc_region ?_
      refine gp (r_arith (op := .add) rfl rfl (wrap_i64 (by omega) (by omega))) ?_
      refine gp zmv ?_
      refine gl_nil ?_
      refine zrd (k + 1) ?_ ?_
      · show n - (k + 1) < n - k
        omega
      · rintro w' hw
        obtain ⟨F', hF', hst'⟩ := hw.sel (M := [WrR TE ea g _]) (by repeat (first | exact Sel.nil | (apply Sel.cons; · (repeat (first | exact Pick.here | apply Pick.there)))))
        refine ⟨F', stars_pure_mk (show k + 1 ≤ n by omega) ?_, hst'⟩
        rw [foldl_take_succ _ _ _ hly]
        exact hF'
    · have hk' : k = l.length := by (try simp only at hc31); omega
      subst hk'
      refine gc_exit ?_
      refine gx_then_exit ?_
      refine gx_round_exit ?_
      refine gx_block_hit ?_
      refine gx_ret0' rfl ?_
      rw [List.take_length]
      exact ze ()


theorem putLates_ok {w : World} {F : Nat → Prop} {g TE : Nat} {ea : Nat → Addr} {s : WS} {n c : Nat} {a : Option Addr} {l : List Late} {most : Nat} (h : stars [WrR TE ea g s] w F) {es : List Nat} [Has es 1] (hE : GErr es w (fun k => ¬ F k) TE ea) (hl : RdList (RdLate w (fun k => ¬ F k)) w (fun k => ¬ F k) 5 a n l) (hm : most ≤ 255) (hb : s.bs.length + (1 + most * 1178) ≤ 1099511627776) :
    Calls Tryd.prog 132 #[.pointer (some ⟨g, 0, none⟩), .slice a n c, .int .i64 (most : Int), .func (.func 133) #[] #[]] w (Post w F (fun _ : Unit => .tuple #[]) (fun _ => [WrR TE ea g (wPut (wLate) l most s)])) := by
  have hnl := hl.len (by decide)
  unfold wPut
  by_cases hn : most < n
  · rw [if_pos (.inl (by omega))]; exact putLates_big h hE hl hm hn
  · rw [if_neg (by omega)]; exact putLates_fit h hE hl hm (by omega) hb

set_option maxHeartbeats 400000 in
theorem block2_ok {w : World} {F : Nat → Prop} {g TE : Nat} {ea : Nat → Addr} {s : WS} {cs : List Value} {x : Vdr} (h : stars [WrR TE ea g s] w F) {es : List Nat} [Has es 1] (hE : GErr es w (fun k => ¬ F k) TE ea) (hx : RdVdr cs x) (hb : s.bs.length + 22 ≤ 1099511627776) :
    Calls Tryd.prog 93 #[.pointer (some ⟨g, 0, none⟩), .agg cs.toArray] w (Post w F (fun _ : Unit => .tuple #[]) (fun _ => [WrR TE ea g (wVdr x s)])) := by
  unfold RdVdr at hx
  subst hx
  refine g_enter (env := [(0, .pointer (some ⟨g, 0, none⟩)), (1, .agg (List.toArray (dc x.key ++ [.int .i64 x.power])))]) Tryd.func93 rfl h Tryd.ntmps93 rfl rfl ?_
  refine gsr ?_
  refine zbN fun b3 => ?_
  refine gnt ?_
  refine gsr ?_
  refine gp zmv ?_
  refine gp zfa ?_
  refine gp zL ?_
  refine zc (fun _ => ?_) (c := fun w1 F1 F2 h1 h2 hd hst => putDigest_ok h1 (hE.mv hst.still) (by omega))
  refine gnt ?_
  refine gc_region ?_
  refine gp zmv ?_
  refine gp zfa ?_
  refine gp zl ?_
  refine zc (fun _ => ?_) (c := fun w1 F1 F2 h1 h2 hd hst => number_ok (wd := 6) h1 (hE.mv hst.still) (by decide) (by decide) (by have e0 := wDig_len x.key s; omega))
  refine gl_nil ?_
  refine gx_ret0' rfl ?_
  exact ze ()

set_option maxHeartbeats 400000 in
theorem putVdrs_big {w : World} {F : Nat → Prop} {g TE : Nat} {ea : Nat → Addr} {s : WS} {n c : Nat} {a : Option Addr} {l : List Vdr} {most : Nat} (h : stars [WrR TE ea g s] w F) {es : List Nat} [Has es 1] (hE : GErr es w (fun k => ¬ F k) TE ea) (hl : RdList (RdVdr) w (fun k => ¬ F k) 17 a n l) (hm : most ≤ 255) (hn : most < n) :
    Calls Tryd.prog 92 #[.pointer (some ⟨g, 0, none⟩), .slice a n c, .int .i64 (most : Int), .func (.func 93) #[] #[]] w (Post w F (fun _ : Unit => .tuple #[]) (fun _ => [WrR TE ea g (wFail 1 s)])) := by
  obtain ⟨a0, c0, h'⟩ := wr_open h
  refine g_enter (env := [(0, .pointer (some ⟨g, 0, none⟩)), (1, .slice a n c), (2, .int .i64 (most : Int)), (3, .func (.func 93) #[] #[])]) Tryd.func92 rfl h' Tryd.ntmps92 rfl rfl ?_
  refine gc_seq ?_
  refine gsr ?_
  refine gp zmv ?_
  refine gp zln ?_
  refine gp zmv ?_
  refine gp (r_bool (r_gtr rfl rfl) (decide_eq_true (by omega))) ?_
  refine gp zmv ?_
  refine gn ?_
  refine gn ?_
  refine gn ?_
  refine gp zpk ?_
  refine gnt ?_
  refine gc_condT rfl rfl ?_
  refine gc_seq ?_
  refine gc_regionT 4 (by kernel_rfl) (by kernel_rfl) ?_
  refine sp zmv ?_
  refine sp znc ?_
  refine sp zfa ?_
  refine sp (r_ld1o rfl Ty.row_35 (hE.c 1 Has.h) (hE.n 1 Has.h)) ?_
  refine gs_nil ?_
  refine zc (fun _ => ?_) (c := fun w1 F1 F2 h1 h2 hd hst => fail_ok h1)
  refine gnt ?_
  refine gc_ret ?_
  refine gx_then_ret ?_
  refine gx_ret0 rfl ?_
  exact fun w' hw => ⟨(), rfl, by rw [wFail]; by_cases he : s.err = 0 <;> simp only [he, if_true, if_false, ite_true, ite_false] at hw ⊢ <;> exact St.wr (hw.sel (by repeat (first | exact Sel.nil | (apply Sel.cons; · (repeat (first | exact Pick.here | apply Pick.there)))))) (by simp [he]) rfl rfl⟩

set_option maxHeartbeats 400000 in
theorem putVdrs_fit {w : World} {F : Nat → Prop} {g TE : Nat} {ea : Nat → Addr} {s : WS} {n c : Nat} {a : Option Addr} {l : List Vdr} {most : Nat} (h : stars [WrR TE ea g s] w F) {es : List Nat} [Has es 1] (hE : GErr es w (fun k => ¬ F k) TE ea) (hl : RdList (RdVdr) w (fun k => ¬ F k) 17 a n l) (hm : most ≤ 255) (hn : n ≤ most) (hb : s.bs.length + (1 + most * 22) ≤ 1099511627776) :
    Calls Tryd.prog 92 #[.pointer (some ⟨g, 0, none⟩), .slice a n c, .int .i64 (most : Int), .func (.func 93) #[] #[]] w (Post w F (fun _ : Unit => .tuple #[]) (fun _ => [WrR TE ea g (l.foldl (fun s x => wVdr x s) (wNum (l.length : Int) 1 s))])) := by
  have hnl := hl.len (by decide)
  refine g_enter (env := [(0, .pointer (some ⟨g, 0, none⟩)), (1, .slice a n c), (2, .int .i64 (most : Int)), (3, .func (.func 93) #[] #[])]) Tryd.func92 rfl h Tryd.ntmps92 rfl rfl ?_
  refine gc_seq ?_
  refine gsr ?_
  refine gp zmv ?_
  refine gp zln ?_
  refine gp zmv ?_
  refine gp (r_bool (r_gtr rfl rfl) (decide_eq_false (by omega))) ?_
  refine gp zmv ?_
  refine gq zmv ?_
  refine gq zln ?_
  refine gq (r_bool (r_gtr rfl rfl) (decide_eq_false (by omega))) ?_
  refine gp zpk ?_
  refine gnt ?_
  refine gc_condF rfl rfl ?_
  refine gc_skip ?_
  refine gx_then ?_
  refine gsr ?_
  refine gp zmv ?_
  refine gp zmv ?_
  refine gp zln ?_
  refine zc (fun _ => ?_) (c := fun w1 F1 F2 h1 h2 hd hst => number_ok (wd := 1) h1 (hE.mv hst.still) (by decide) (by decide) (by omega))
  refine gnt ?_
  refine gsr ?_
  refine gp zmv ?_
  refine gp zln ?_
  refine gp zmv ?_
  refine gnt ?_
  refine gc_block ?_
  refine gc_loop (α := Nat) (fun k => [pureR (k ≤ n), WrR TE ea g ((l.take k).foldl (fun s x => wVdr x s) (wNum (l.length : Int) 1 s))]) (fun k => [(30, .int .i64 (k : Int))]) [9, 31, 32, 33, 34, 35, 36, 37, 38] (fun k => n - k) 0 ?_ ?_ ?_
  · refine env_start (by kernel_rfl)
  · rintro w' hw
    obtain ⟨F', hF', hst'⟩ := hw.sel (M := [WrR TE ea g (wNum (n : Int) 1 s)]) (by repeat (first | exact Sel.nil | (apply Sel.cons; · (repeat (first | exact Pick.here | apply Pick.there)))))
    rw [hnl] at hF'
    exact ⟨F', stars_pure_mk (Nat.zero_le _) hF', hst'⟩
  · intro k u
    refine gc_pureR (fun hk => ?_)
    replace hk : k ≤ n := hk
    refine gsr ?_
    refine gp zlt ?_
    refine gnt ?_
    refine gc_seq ?_
    refine gif rfl (fun hc31 => ?_) (fun hc31 => ?_)
    · have hk' : k < n := by (try simp only at hc31); omega
      obtain ⟨ga, o, cs, y, ha, hA, hg, hra, hcl, hly, hrd⟩ := hl.elem (by decide) hk'
      subst ha
      refine gc_skip ?_
      refine gx_then ?_
      refine gc_seq ?_
      refine gc_block ?_
      refine gsr ?_
      refine gp (r_indexAddr_slice rfl rfl Ty.sl_28 Ty.sz_86 (by omega) (by omega)) ?_
      refine gp (r_ldNo rfl Ty.row_86 Ty.sz_86 hra hcl (by decide) hA) ?_
      refine zal fun b9 => ?_
      refine gl_storeN (wt0 rfl) rfl rfl Ty.sz_86 hcl (by repeat (first | exact Pick.here | apply Pick.there)) (by first | rfl | (simp only [List.drop_succ_cons, List.drop_zero, List.take_succ_cons, List.take_zero, List.cons_append, List.nil_append, List.append_assoc, drop_dc, drop_dc', take_dc, take_dc', drop_L, drop_L', take_L, take_L', len_L, Nat.reduceLeDiff, Nat.reduceSub, Nat.reduceAdd, Nat.le_refl, List.length_cons, List.length_append, List.length_nil, dc_length, List.drop_nil, List.take_nil, List.append_nil, List.length_map, List.length_replicate, zD_length]; first | done | omega)) (hrd.one) (updL_all (by rw [hcl]; first | rfl | (simp only [List.drop_succ_cons, List.drop_zero, List.take_succ_cons, List.take_zero, List.cons_append, List.nil_append, List.append_assoc, drop_dc, drop_dc', take_dc, take_dc', drop_L, drop_L', take_L, take_L', len_L, Nat.reduceLeDiff, Nat.reduceSub, Nat.reduceAdd, Nat.le_refl, List.length_cons, List.length_append, List.length_nil, dc_length, List.drop_nil, List.take_nil, List.append_nil, List.length_map, List.length_replicate, zD_length]))) ?_
      refine gnt ?_
      refine gc_region ?_
      refine gp zmv ?_
      refine gp zmv ?_
      refine gp (r_ldN rfl Ty.row_86 Ty.sz_86 (by repeat (first | exact Pick.here | apply Pick.there)) (seg_all hcl) hcl) ?_
      refine gl_call (wt0 rfl) (e_callv (us := []) rfl Ty.call_93 rfl) (by repeat (first | exact Sel.nil | (apply Sel.cons; · (repeat (first | exact Pick.here | apply Pick.there))))) (fun w1 F1 F2 h1 h2 hd hst => block2_ok h1 (hE.mv hst.still) hrd (put_bound wVdr_len (by omega) (by omega) hb)) ?_
      intro _
      refine gl_nil ?_
      refine gx_block_normal ?_
      refine gx_then ?_
      refine gc_region ?_
      refine gp (r_arith (op := .add) rfl rfl (wrap_i64 (by omega) (by omega))) ?_
      refine gp zmv ?_
      refine gl_nil ?_
      refine zrd (k + 1) ?_ ?_
      · show n - (k + 1) < n - k
        omega
      · rintro w' hw
        obtain ⟨F', hF', hst'⟩ := hw.sel (M := [WrR TE ea g _]) (by repeat (first | exact Sel.nil | (apply Sel.cons; · (repeat (first | exact Pick.here | apply Pick.there)))))
        refine ⟨F', stars_pure_mk (show k + 1 ≤ n by omega) ?_, hst'⟩
        rw [foldl_take_succ _ _ _ hly]
        exact hF'
    · have hk' : k = l.length := by (try simp only at hc31); omega
      subst hk'
      refine gc_exit ?_
      refine gx_then_exit ?_
      refine gx_round_exit ?_
      refine gx_block_hit ?_
      refine gx_ret0' rfl ?_
      rw [List.take_length]
      exact ze ()


theorem putVdrs_ok {w : World} {F : Nat → Prop} {g TE : Nat} {ea : Nat → Addr} {s : WS} {n c : Nat} {a : Option Addr} {l : List Vdr} {most : Nat} (h : stars [WrR TE ea g s] w F) {es : List Nat} [Has es 1] (hE : GErr es w (fun k => ¬ F k) TE ea) (hl : RdList (RdVdr) w (fun k => ¬ F k) 17 a n l) (hm : most ≤ 255) (hb : s.bs.length + (1 + most * 22) ≤ 1099511627776) :
    Calls Tryd.prog 92 #[.pointer (some ⟨g, 0, none⟩), .slice a n c, .int .i64 (most : Int), .func (.func 93) #[] #[]] w (Post w F (fun _ : Unit => .tuple #[]) (fun _ => [WrR TE ea g (wPut (wVdr) l most s)])) := by
  have hnl := hl.len (by decide)
  unfold wPut
  by_cases hn : most < n
  · rw [if_pos (.inl (by omega))]; exact putVdrs_big h hE hl hm hn
  · rw [if_neg (by omega)]; exact putVdrs_fit h hE hl hm (by omega) hb

set_option maxHeartbeats 400000 in
theorem block1_ok {w : World} {F : Nat → Prop} {g TE : Nat} {ea : Nat → Addr} {s : WS} {x : List UInt8} {a : Option Addr} {n c : Nat} (h : stars [WrR TE ea g s] w F) {es : List Nat} [Has es 1] (hE : GErr es w (fun k => ¬ F k) TE ea) (hx : RdRow w (fun k => ¬ F k) 1 a n (x.map B8)) (hb : s.bs.length + 18 ≤ 1099511627776) :
    Calls Tryd.prog 90 #[.pointer (some ⟨g, 0, none⟩), .slice a n c] w (Post w F (fun _ : Unit => .tuple #[]) (fun _ => [WrR TE ea g (wBytes x 16 s)])) := by
  refine g_enter (env := [(0, .pointer (some ⟨g, 0, none⟩)), (1, .slice a n c)]) Tryd.func90 rfl h Tryd.ntmps90 rfl rfl ?_
  refine gc_region ?_
  refine gp zmv ?_
  refine gp zmv ?_
  refine zc (fun _ => ?_) (c := fun w1 F1 F2 h1 h2 hd hst => wbytes_ok (most := 16) h1 (hE.mv hst.still) (hx.mv hst.still) (by decide) (by omega))
  refine gl_nil ?_
  refine gx_ret0' rfl ?_
  exact ze ()

set_option maxHeartbeats 400000 in
theorem putTxs_big {w : World} {F : Nat → Prop} {g TE : Nat} {ea : Nat → Addr} {s : WS} {n c : Nat} {a : Option Addr} {l : List (List UInt8)} {most : Nat} (h : stars [WrR TE ea g s] w F) {es : List Nat} [Has es 1] (hE : GErr es w (fun k => ¬ F k) TE ea) (hl : RdList (RdBytes w (fun k => ¬ F k)) w (fun k => ¬ F k) 1 a n l) (hm : most ≤ 255) (hn : most < n) :
    Calls Tryd.prog 89 #[.pointer (some ⟨g, 0, none⟩), .slice a n c, .int .i64 (most : Int), .func (.func 90) #[] #[]] w (Post w F (fun _ : Unit => .tuple #[]) (fun _ => [WrR TE ea g (wFail 1 s)])) := by
  obtain ⟨a0, c0, h'⟩ := wr_open h
  refine g_enter (env := [(0, .pointer (some ⟨g, 0, none⟩)), (1, .slice a n c), (2, .int .i64 (most : Int)), (3, .func (.func 90) #[] #[])]) Tryd.func89 rfl h' Tryd.ntmps89 rfl rfl ?_
  refine gc_seq ?_
  refine gsr ?_
  refine gp zmv ?_
  refine gp zln ?_
  refine gp zmv ?_
  refine gp (r_bool (r_gtr rfl rfl) (decide_eq_true (by omega))) ?_
  refine gp zmv ?_
  refine gn ?_
  refine gn ?_
  refine gn ?_
  refine gp zpk ?_
  refine gnt ?_
  refine gc_condT rfl rfl ?_
  refine gc_seq ?_
  refine gc_regionT 4 (by kernel_rfl) (by kernel_rfl) ?_
  refine sp zmv ?_
  refine sp znc ?_
  refine sp zfa ?_
  refine sp (r_ld1o rfl Ty.row_35 (hE.c 1 Has.h) (hE.n 1 Has.h)) ?_
  refine gs_nil ?_
  refine zc (fun _ => ?_) (c := fun w1 F1 F2 h1 h2 hd hst => fail_ok h1)
  refine gnt ?_
  refine gc_ret ?_
  refine gx_then_ret ?_
  refine gx_ret0 rfl ?_
  exact fun w' hw => ⟨(), rfl, by rw [wFail]; by_cases he : s.err = 0 <;> simp only [he, if_true, if_false, ite_true, ite_false] at hw ⊢ <;> exact St.wr (hw.sel (by repeat (first | exact Sel.nil | (apply Sel.cons; · (repeat (first | exact Pick.here | apply Pick.there)))))) (by simp [he]) rfl rfl⟩

set_option maxHeartbeats 400000 in
theorem putTxs_fit {w : World} {F : Nat → Prop} {g TE : Nat} {ea : Nat → Addr} {s : WS} {n c : Nat} {a : Option Addr} {l : List (List UInt8)} {most : Nat} (h : stars [WrR TE ea g s] w F) {es : List Nat} [Has es 1] (hE : GErr es w (fun k => ¬ F k) TE ea) (hl : RdList (RdBytes w (fun k => ¬ F k)) w (fun k => ¬ F k) 1 a n l) (hm : most ≤ 255) (hn : n ≤ most) (hb : s.bs.length + (1 + most * 18) ≤ 1099511627776) :
    Calls Tryd.prog 89 #[.pointer (some ⟨g, 0, none⟩), .slice a n c, .int .i64 (most : Int), .func (.func 90) #[] #[]] w (Post w F (fun _ : Unit => .tuple #[]) (fun _ => [WrR TE ea g (l.foldl (fun s x => (fun t => wBytes t 16) x s) (wNum (l.length : Int) 1 s))])) := by
  have hnl := hl.len (by decide)
  refine g_enter (env := [(0, .pointer (some ⟨g, 0, none⟩)), (1, .slice a n c), (2, .int .i64 (most : Int)), (3, .func (.func 90) #[] #[])]) Tryd.func89 rfl h Tryd.ntmps89 rfl rfl ?_
  refine gc_seq ?_
  refine gsr ?_
  refine gp zmv ?_
  refine gp zln ?_
  refine gp zmv ?_
  refine gp (r_bool (r_gtr rfl rfl) (decide_eq_false (by omega))) ?_
  refine gp zmv ?_
  refine gq zmv ?_
  refine gq zln ?_
  refine gq (r_bool (r_gtr rfl rfl) (decide_eq_false (by omega))) ?_
  refine gp zpk ?_
  refine gnt ?_
  refine gc_condF rfl rfl ?_
  refine gc_skip ?_
  refine gx_then ?_
  refine gsr ?_
  refine gp zmv ?_
  refine gp zmv ?_
  refine gp zln ?_
  refine zc (fun _ => ?_) (c := fun w1 F1 F2 h1 h2 hd hst => number_ok (wd := 1) h1 (hE.mv hst.still) (by decide) (by decide) (by omega))
  refine gnt ?_
  refine gsr ?_
  refine gp zmv ?_
  refine gp zln ?_
  refine gp zmv ?_
  refine gnt ?_
  refine gc_block ?_
  refine gc_loop (α := Nat) (fun k => [pureR (k ≤ n), WrR TE ea g ((l.take k).foldl (fun s x => (fun t => wBytes t 16) x s) (wNum (l.length : Int) 1 s))]) (fun k => [(30, .int .i64 (k : Int))]) [9, 31, 32, 33, 34, 35, 36, 37, 38] (fun k => n - k) 0 ?_ ?_ ?_
  · refine env_start (by kernel_rfl)
  · rintro w' hw
    obtain ⟨F', hF', hst'⟩ := hw.sel (M := [WrR TE ea g (wNum (n : Int) 1 s)]) (by repeat (first | exact Sel.nil | (apply Sel.cons; · (repeat (first | exact Pick.here | apply Pick.there)))))
    rw [hnl] at hF'
    exact ⟨F', stars_pure_mk (Nat.zero_le _) hF', hst'⟩
  · intro k u
    refine gc_pureR (fun hk => ?_)
    replace hk : k ≤ n := hk
    refine gsr ?_
    refine gp zlt ?_
    refine gnt ?_
    refine gc_seq ?_
    refine gif rfl (fun hc31 => ?_) (fun hc31 => ?_)
    · have hk' : k < n := by (try simp only at hc31); omega
      obtain ⟨ga, o, cs, y, ha, hA, hg, hra, hcl, hly, hrd⟩ := hl.elem (by decide) hk'
      subst ha
      obtain ⟨a', n', c', rfl, hn', hrb⟩ := hrd
      refine gc_skip ?_
      refine gx_then ?_
      refine gc_seq ?_
      refine gc_block ?_
      refine gsr ?_
      refine gp (r_indexAddr_slice rfl rfl Ty.sl_27 Ty.sz_33 (by omega) (by omega)) ?_
      refine gp (r_ld1o rfl Ty.row_33 (hra 0 _ rfl) hA) ?_
      refine gp zas ?_
      refine gnt ?_
      refine gc_region ?_
      refine gp zmv ?_
      refine gp zmv ?_
      refine gp zmv ?_
      refine gl_call (wt0 rfl) (e_callv (us := []) rfl Ty.call_90 rfl) (by repeat (first | exact Sel.nil | (apply Sel.cons; · (repeat (first | exact Pick.here | apply Pick.there))))) (fun w1 F1 F2 h1 h2 hd hst => block1_ok h1 (hE.mv hst.still) (hrb.mv hst.still) (put_bound (fun x s => wBytes_len x 16 s) (by omega) (by omega) hb)) ?_
      intro _
      refine gl_nil ?_
      refine gx_block_normal ?_
      refine gx_then ?_
      refine gc_region ?_
      refine gp (r_arith (op := .add) rfl rfl (wrap_i64 (by omega) (by omega))) ?_
      refine gp zmv ?_
      refine gl_nil ?_
      refine zrd (k + 1) ?_ ?_
      · show n - (k + 1) < n - k
        omega
      · rintro w' hw
        obtain ⟨F', hF', hst'⟩ := hw.sel (M := [WrR TE ea g _]) (by repeat (first | exact Sel.nil | (apply Sel.cons; · (repeat (first | exact Pick.here | apply Pick.there)))))
        refine ⟨F', stars_pure_mk (show k + 1 ≤ n by omega) ?_, hst'⟩
        rw [foldl_take_succ _ _ _ hly]
        exact hF'
    · have hk' : k = l.length := by (try simp only at hc31); omega
      subst hk'
      refine gc_exit ?_
      refine gx_then_exit ?_
      refine gx_round_exit ?_
      refine gx_block_hit ?_
      refine gx_ret0' rfl ?_
      rw [List.take_length]
      exact ze ()


theorem putTxs_ok {w : World} {F : Nat → Prop} {g TE : Nat} {ea : Nat → Addr} {s : WS} {n c : Nat} {a : Option Addr} {l : List (List UInt8)} {most : Nat} (h : stars [WrR TE ea g s] w F) {es : List Nat} [Has es 1] (hE : GErr es w (fun k => ¬ F k) TE ea) (hl : RdList (RdBytes w (fun k => ¬ F k)) w (fun k => ¬ F k) 1 a n l) (hm : most ≤ 255) (hb : s.bs.length + (1 + most * 18) ≤ 1099511627776) :
    Calls Tryd.prog 89 #[.pointer (some ⟨g, 0, none⟩), .slice a n c, .int .i64 (most : Int), .func (.func 90) #[] #[]] w (Post w F (fun _ : Unit => .tuple #[]) (fun _ => [WrR TE ea g (wPut ((fun t => wBytes t 16)) l most s)])) := by
  have hnl := hl.len (by decide)
  unfold wPut
  by_cases hn : most < n
  · rw [if_pos (.inl (by omega))]; exact putTxs_big h hE hl hm hn
  · rw [if_neg (by omega)]; exact putTxs_fit h hE hl hm (by omega) hb

set_option maxHeartbeats 400000 in
theorem qc_ok {w : World} {F : Nat → Prop} {g TE : Nat} {ea : Nat → Addr} {s : WS} {cs : List Value} {x : QC} (h : stars [WrR TE ea g s] w F) {es : List Nat} [Has es 1] (hE : GErr es w (fun k => ¬ F k) TE ea) (hx : RdQC w (fun k => ¬ F k) cs x) (hb : s.bs.length + 8231 ≤ 1099511627776) :
    Calls Tryd.prog 88 #[.agg (List.toArray [.pointer (some ⟨g, 0, none⟩)]), .agg cs.toArray] w (Post w F (fun _ : Unit => .tuple #[]) (fun _ => [WrR TE ea g (wQC x s)])) := by
  obtain ⟨a1, n1, c1, rfl, hk1, hd1⟩ := hx
  refine g_enter (env := [(0, .agg (List.toArray [.pointer (some ⟨g, 0, none⟩)])), (1, .agg (List.toArray (.int .i64 x.epoch :: .int .i64 x.round :: (dc x.block ++ [.slice a1 n1 c1]))))]) Tryd.func88 rfl h Tryd.ntmps88 rfl rfl ?_
  refine gsr ?_
  refine zbN fun b2 => ?_
  refine zbN fun b3 => ?_
  refine gnt ?_
  refine gsr ?_
  refine gp zL ?_
  refine gp zfa ?_
  refine gp zl ?_
  refine gp zfa ?_
  refine gp zl ?_
  refine zc (fun _ => ?_) (c := fun w1 F1 F2 h1 h2 hd hst => at_ok h1 (hE.mv hst.still) (by omega))
  refine gnt ?_
  refine gsr ?_
  refine gp zL ?_
  refine gp zfa ?_
  refine gp zL ?_
  refine zc (fun _ => ?_) (c := fun w1 F1 F2 h1 h2 hd hst => digest_ok h1 (hE.mv hst.still) (by have e0 := wAt_len x.epoch x.round s; omega))
  refine gnt ?_
  refine gc_region ?_
  refine gp zfa ?_
  refine gp zl ?_
  refine gp zfa ?_
  refine gp zl ?_
  refine zc (fun _ => ?_) (c := fun w1 F1 F2 h1 h2 hd hst => putSigneds_ok (most := 7) h1 (hE.mv hst.still) (RdList.mv hd1 hst.still fun _ _ h => h.mv hst.still) (by decide) (by have e0 := wAt_len x.epoch x.round s; have e1 := wDig_len x.block (wAt x.epoch x.round s); omega))
  refine gl_nil ?_
  refine gx_ret0' rfl ?_
  exact ze ()

set_option maxHeartbeats 400000 in
theorem tc_ok {w : World} {F : Nat → Prop} {g TE : Nat} {ea : Nat → Addr} {s : WS} {cs : List Value} {x : TC} (h : stars [WrR TE ea g s] w F) {es : List Nat} [Has es 1] (hE : GErr es w (fun k => ¬ F k) TE ea) (hx : RdTC w (fun k => ¬ F k) cs x) (hb : s.bs.length + 8257 ≤ 1099511627776) :
    Calls Tryd.prog 103 #[.agg (List.toArray [.pointer (some ⟨g, 0, none⟩)]), .agg cs.toArray] w (Post w F (fun _ : Unit => .tuple #[]) (fun _ => [WrR TE ea g (wTC x s)])) := by
  obtain ⟨a1, n1, c1, rfl, hk1, hd1⟩ := hx
  refine g_enter (env := [(0, .agg (List.toArray [.pointer (some ⟨g, 0, none⟩)])), (1, .agg (List.toArray ([.int .i64 x.epoch, .int .i64 x.round, .slice a1 n1 c1])))]) Tryd.func103 rfl h Tryd.ntmps103 rfl rfl ?_
  refine gsr ?_
  refine zbN fun b2 => ?_
  refine zbN fun b3 => ?_
  refine gnt ?_
  refine gsr ?_
  refine gp zL ?_
  refine gp zfa ?_
  refine gp zl ?_
  refine gp zfa ?_
  refine gp zl ?_
  refine zc (fun _ => ?_) (c := fun w1 F1 F2 h1 h2 hd hst => at_ok h1 (hE.mv hst.still) (by omega))
  refine gnt ?_
  refine gc_region ?_
  refine gp zfa ?_
  refine gp zl ?_
  refine gp zfa ?_
  refine gp zl ?_
  refine zc (fun _ => ?_) (c := fun w1 F1 F2 h1 h2 hd hst => putLates_ok (most := 7) h1 (hE.mv hst.still) (RdList.mv hd1 hst.still fun _ _ h => h.mv hst.still) (by decide) (by have e0 := wAt_len x.epoch x.round s; omega))
  refine gl_nil ?_
  refine gx_ret0' rfl ?_
  exact ze ()

set_option maxHeartbeats 400000 in
theorem block_ok {w : World} {F : Nat → Prop} {g TE : Nat} {ea : Nat → Addr} {s : WS} {cs : List Value} {x : Block} (h : stars [WrR TE ea g s] w F) {es : List Nat} [Has es 1] (hE : GErr es w (fun k => ¬ F k) TE ea) (hx : RdBlock w (fun k => ¬ F k) cs x) (hb : s.bs.length + 8485 ≤ 1099511627776) :
    Calls Tryd.prog 45 #[.agg (List.toArray [.pointer (some ⟨g, 0, none⟩)]), .agg cs.toArray] w (Post w F (fun _ : Unit => .tuple #[]) (fun _ => [WrR TE ea g (wBlock x s)])) := by
  obtain ⟨q, a1, n1, c1, a2, n2, c2, rfl, hq, hk1, hd1, hk2, hd2⟩ := hx
  have hl := hq.len
  have z_hl := Len.of hl
  refine g_enter (env := [(0, .agg (List.toArray [.pointer (some ⟨g, 0, none⟩)])), (1, .agg (List.toArray (.int .i64 x.epoch :: .int .i64 x.round :: (dc x.parent ++ (q ++ [.slice a1 n1 c1, .slice a2 n2 c2])))))]) Tryd.func45 rfl h Tryd.ntmps45 rfl rfl ?_
  refine gsr ?_
  refine zbN fun b2 => ?_
  refine zbN fun b3 => ?_
  refine gnt ?_
  refine gsr ?_
  refine gp zL ?_
  refine gp zfa ?_
  refine gp zl ?_
  refine gp zfa ?_
  refine gp zl ?_
  refine zc (fun _ => ?_) (c := fun w1 F1 F2 h1 h2 hd hst => at_ok h1 (hE.mv hst.still) (by omega))
  refine gnt ?_
  refine gsr ?_
  refine gp zL ?_
  refine gp zfa ?_
  refine gp zL ?_
  refine zc (fun _ => ?_) (c := fun w1 F1 F2 h1 h2 hd hst => digest_ok h1 (hE.mv hst.still) (by have e0 := wAt_len x.epoch x.round s; omega))
  refine gnt ?_
  refine gsr ?_
  refine gp zL ?_
  refine gp zfa ?_
  refine gp zL ?_
  refine zc (fun _ => ?_) (c := fun w1 F1 F2 h1 h2 hd hst => qc_ok h1 (hE.mv hst.still) (hq.mv hst.still) (by have e0 := wAt_len x.epoch x.round s; have e1 := wDig_len x.parent (wAt x.epoch x.round s); omega))
  refine gnt ?_
  refine gsr ?_
  refine gp zfa ?_
  refine gp zl ?_
  refine gp zfa ?_
  refine gp zl ?_
  refine zc (fun _ => ?_) (c := fun w1 F1 F2 h1 h2 hd hst => putTxs_ok (most := 4) h1 (hE.mv hst.still) (RdList.mv hd1 hst.still fun _ _ h => h.mv hst.still) (by decide) (by have e0 := wAt_len x.epoch x.round s; have e1 := wDig_len x.parent (wAt x.epoch x.round s); have e2 := wQC_len x.justify (wDig x.parent (wAt x.epoch x.round s)); omega))
  refine gnt ?_
  refine gc_region ?_
  refine gp zfa ?_
  refine gp zl ?_
  refine gp zfa ?_
  refine gp zl ?_
  refine zc (fun _ => ?_) (c := fun w1 F1 F2 h1 h2 hd hst => putVdrs_ok (most := 7) h1 (hE.mv hst.still) (RdList.mv hd2 hst.still fun _ _ h => h) (by decide) (by have e0 := wAt_len x.epoch x.round s; have e1 := wDig_len x.parent (wAt x.epoch x.round s); have e2 := wQC_len x.justify (wDig x.parent (wAt x.epoch x.round s)); have e3 := wPut_len (wX := fun t => wBytes t 16) (c := 18) (fun x s => wBytes_len x 16 s) x.payload 4 (wQC x.justify (wDig x.parent (wAt x.epoch x.round s))); omega))
  refine gl_nil ?_
  refine gx_ret0' rfl ?_
  exact ze ()

end Go.Proofs.YtkgbbnhdioghmaaDoor
