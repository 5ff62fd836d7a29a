/- Part 3. What is proved: see the last part: for every input the law returns true, and the input reads as it did. -/
import Derived.Test.YtheonhgffglegaaDoorCr2
/- Walks, by program (wg.py) out of a spec. -/
namespace Go.Proofs.YtheonhgffglegaaDoor
open Go
set_option linter.unusedVariables false
set_option linter.unusedSimpArgs false


theorem vl_digs {lf : Int} {e1 e2 n1 n2 c1 c2 : Nat} {a1 a2 : Option Addr} {l1 l2 : List Dig} {w : World} {F : Nat → Prop} (k1 : n1 ≤ c1) (k2 : n2 ≤ c2) (h : stars [rowR e1 16 a1 n1 c1 (l1.map dc).flatten, rowR e2 16 a2 n2 c2 (l2.map dc).flatten] w F) :
    stars [VlR RdSig [.int .i64 lf, .slice a1 n1 c1, .slice a2 n2 c2] ⟨lf, l1, l2⟩] w F := by
  have h1 := ls_row (rd := fun _ _ => RdDig) (fun _ _ _ => rfl) dc_length h
  have h2 := ls_row (rd := fun _ _ => RdDig) (fun _ _ _ => rfl) dc_length (stars_swap h1)
  exact vl_sig k1 k2 (stars_swap h2)
theorem vl_blockE {b : Block} {q : List Value} {e1 e2 n1 n2 c1 c2 : Nat} {a1 a2 : Option Addr} {css : List (List Value)} {w : World} {F : Nat → Prop} (h1 : ∀ x ∈ css, List.length x = 1)
    (h : stars [VlR RdQC q b.justify, rowR e1 1 a1 n1 c1 css.flatten, ElR RdBytes css b.payload, rowR e2 17 a2 n2 c2 (b.next.map vdC).flatten] w F) :
    stars [VlR RdBlock (.int .i64 b.epoch :: .int .i64 b.round :: (dc b.parent ++ (q ++ [.slice a1 n1 c1, .slice a2 n2 c2]))) b] w F := by
  have k1 : n1 ≤ c1 := by obtain ⟨_, _, _, ⟨_, _, hr, _⟩, _⟩ := h; exact hr.2.1
  have k2 : n2 ≤ c2 := by obtain ⟨_, _, _, ⟨_, _, _, ⟨_, _, _, ⟨_, _, hr, _⟩, _⟩, _⟩, _⟩ := h; exact hr.2.1
  obtain ⟨F1, F2, g1, g2, hF, hd⟩ := h
  obtain ⟨G1, G2, p1, p2, hG, gd⟩ := stars_split (M := [rowR e1 1 a1 n1 c1 css.flatten, ElR RdBytes css b.payload]) (L := [rowR e2 17 a2 n2 c2 (b.next.map vdC).flatten]) g2
  have p1' := ls_of (size := 1) h1 p1
  have p2' := ls_row (rd := fun _ _ => RdVdr) (fun _ _ _ => rfl) vdC_len p2
  have g2' : stars ([LsR RdBytes 1 a1 n1 b.payload] ++ [LsR (fun _ _ => RdVdr) 17 a2 n2 b.next]) w F2 := by
    have := stars_append p1' p2' gd
    rwa [← fp_eq hG] at this
  exact vl_block k1 k2 ⟨F1, F2, g1, g2', hF, hd⟩

attribute [local irreducible] Gl Gc Gx Gs Runs Wt

attribute [local irreducible] dc qcC blkC

set_option maxHeartbeats 400000 in
theorem copiedQC_ok {w : World} {F : Nat → Prop} {qs : List Value} {q : QC} (h : stars [] w F) (hq : RdQC w (fun k => ¬ F k) qs q) (hs : smQC q) :
    Calls Tryd.prog 31 #[.agg qs.toArray] w (Post w F (fun x : List Value => .agg x.toArray) (fun x => [pureR (x.length = 19 ∧ ∀ v ∈ x, v.oneCell' = true), VlR RdQC x q])) := by
  obtain ⟨av, nv, kv, rfl, hq1, hq2⟩ := hq
  have hnv := hq2.len (by decide)
  obtain ⟨hs1, hs2⟩ := hs
  refine g_enter (env := [(0, _)]) Tryd.func31 rfl h Tryd.ntmps31 rfl rfl ?_
  refine gsr ?_
  refine zbN fun b1 => ?_
  refine zal fun b2 => ?_
  refine gl_eqc (cs' := qcC) (by repeat (first | exact Pick.here | apply Pick.there)) (by kernel_rfl) ?_
  refine gnt ?_
  refine gsr ?_
  refine gp zas ?_
  refine gnt ?_
  refine gc_seq ?_
  refine gsr ?_
  refine gp zfa ?_
  refine gp zl ?_
  refine gp zln ?_
  refine gp zmv ?_
  refine gnt ?_
  refine gc_block ?_
  refine gc_loop (α := Nat × Option Addr × Nat × List (List Value)) (fun y => [pureR (y.1 ≤ nv ∧ ∀ c ∈ y.2.2.2, List.length c = 4), rowR 105 4 y.2.1 y.1 y.2.2.1 y.2.2.2.flatten, ElR RdSigned y.2.2.2 (q.votes.take y.1), blk b1 29 (.int .i64 q.epoch :: .int .i64 q.round :: (dc q.block ++ [.slice av nv kv])), blk b2 29 qcC]) (fun y => [(3, .slice y.2.1 y.1 y.2.2.1), (9, .int .i64 (y.1 : Int))]) [5, 10, 11, 12, 13, 14, 15, 16, 17, 18, 19, 20, 21, 22, 23, 24, 25, 26, 27, 28, 29] (fun y => nv - y.1) (0, none, 0, []) ?_ ?_ ?_
  · refine env_start (by kernel_rfl)
  · intro w' hw
    have hw := St.mapL hw (fun F' hF' => el_nil (rd := RdSigned) hF')
    exact St.pureI ⟨Nat.zero_le _, by simp⟩ ((hw.rowNil (e := 105) (size := 4)).sel (by repeat (first | exact Sel.nil | (apply Sel.cons; · (repeat (first | exact Pick.here | apply Pick.there))))))
  · intro y u
    obtain ⟨k, a, c, css⟩ := y
    refine gc_pureR (fun hk => ?_)
    obtain ⟨hk, hcs⟩ := hk
    replace hk : k ≤ nv := hk
    replace hcs : ∀ x ∈ css, List.length x = 4 := hcs
    refine gsr ?_
    refine gp zlt ?_
    refine gnt ?_
    refine gc_seq ?_
    refine gif rfl (fun hc10 => ?_) (fun hc10 => ?_)
    · try simp only at hc10
      have hk' : k < nv := by omega
      obtain ⟨gx, ox, ce, sg, ha, hA, _, hra, hl4, hsg, hrd⟩ := hq2.elem (i := k) (by decide) hk'
      subst ha
      obtain ⟨ss, rfl, a1, n1, c1, a2, n2, c2, rfl, k1, k2, hd1, hd2⟩ := hrd
      have hss := hs2 sg (List.mem_of_getElem? hsg)
      obtain ⟨hss1, hss2⟩ := hss
      have hn1 := RdList.len hd1 (by decide)
      have hn2 := RdList.len hd2 (by decide)
      refine gc_skip ?_
      refine gx_then ?_
      refine gc_seq ?_
      refine gc_block ?_
      refine gsr ?_
      refine gp (r_val (v' := .pointer (some ⟨gx, ox + k * 4, none⟩)) zia (by simp)) ?_
      refine gp (r_ldNo rfl Ty.row_105 Ty.sz_105 hra hl4 (by decide) hA) ?_
      refine zal fun b5 => ?_
      refine zsN ?_
      refine gnt ?_
      refine gc_seq ?_
      refine gc_regionH [] ?_
      refine yp 0 rfl zfa ?_
      refine yp 1 rfl zfa ?_
      refine yp 4 rfl zfa ?_
      refine yp 5 rfl zfa ?_
      refine yo2 2 6 rfl rfl ?_ ?_
      · refine gp zl ?_
        refine yx ?_
        refine yo2 3 6 rfl rfl ?_ ?_
        · refine zc (fun r16 => ?_) (c := fun w1 F1 F2 h1 h2 hd hst => cloneD_ok (xs := (sg.sig.chains.map dc).flatten) h1 ((RdList.row (f := dc) hd1).mv hst.still) (flat_one dc_one _) (by omega))
          refine yx ?_
          refine yo 6 rfl ?_
          refine gp zl ?_
          refine yx ?_
          refine yp 8 rfl zfa ?_
          refine yp 9 rfl zfa ?_
          refine yo 7 rfl ?_
          refine zc (fun r20 => ?_) (c := fun w1 F1 F2 h1 h2 hd hst => cloneD_ok (xs := (sg.sig.path.map dc).flatten) h1 ((RdList.row (f := dc) hd2).mv hst.still) (flat_one dc_one _) (by omega))
          refine yx ?_
          refine yo 10 rfl ?_
          refine zs1 ?_
          refine yx ?_
          refine yp 11 rfl zfa ?_
          refine yp 12 rfl zfa ?_
          refine yo 13 rfl ?_
          refine zs1 ?_
          refine yx ?_
          refine yd ?_
          refine gx_then ?_
          refine gc_region ?_
          refine gp zmv ?_
          refine gp zL ?_
          refine zeN fun b27 => ?_
          refine zapo (fun a28 c28 => ?_)
          refine gp zas ?_
          refine gl_nil ?_
          refine gx_block_normal ?_
          refine gx_then ?_
          refine gc_region ?_
          refine gp zad ?_
          refine gp zmv ?_
          refine gl_nil ?_
          refine zrd ((k + 1, a28, c28, css ++ [[.int .i64 sg.who, .int .i64 sg.sig.leaf, .slice r16.1 n1 r16.2, .slice r20.1 n2 r20.2]])) ?_ ?_
          · show nv - (k + 1) < nv - k
            omega
          · intro w' hw
            have k1' := row_le hw (e := 26) (size := 16) (a := r16.1) (n := n1) (c := r16.2) (by repeat (first | exact Pick.here | apply Pick.there))
            have k2' := row_le hw (e := 26) (size := 16) (a := r20.1) (n := n2) (c := r20.2) (by repeat (first | exact Pick.here | apply Pick.there))
            have h1 := hw.conv (M := [rowR 26 16 r16.1 n1 r16.2 (sg.sig.chains.map dc).flatten, rowR 26 16 r20.1 n2 r20.2 (sg.sig.path.map dc).flatten]) (by repeat (first | exact Sel.nil | (apply Sel.cons; · (repeat (first | exact Pick.here | apply Pick.there))))) (fun _ _ => vl_digs (lf := sg.sig.leaf) k1' k2')
            have h2 := h1.conv (M := [VlR RdSig [.int .i64 sg.sig.leaf, .slice r16.1 n1 r16.2, .slice r20.1 n2 r20.2] sg.sig]) (by repeat (first | exact Sel.nil | (apply Sel.cons; · (repeat (first | exact Pick.here | apply Pick.there))))) (fun _ _ => vl_signed (who := sg.who))
            have h3 := h2.conv (M := [ElR RdSigned css (q.votes.take k), VlR RdSigned [.int .i64 sg.who, .int .i64 sg.sig.leaf, .slice r16.1 n1 r16.2, .slice r20.1 n2 r20.2] sg]) (by repeat (first | exact Sel.nil | (apply Sel.cons; · (repeat (first | exact Pick.here | apply Pick.there))))) (fun _ _ => el_snoc)
            rw [← takeB_snoc hsg] at h3
            refine St.pureI ⟨show k + 1 ≤ nv by omega, fun x hx => (by rcases List.mem_append.1 hx with h | h; exact hcs x h; (simp at h; subst h; rfl))⟩ ?_
            rw [show (css ++ [[Value.int .i64 sg.who, .int .i64 sg.sig.leaf, .slice r16.1 n1 r16.2, .slice r20.1 n2 r20.2]]).flatten = css.flatten ++ [Value.int .i64 sg.who, .int .i64 sg.sig.leaf, .slice r16.1 n1 r16.2, .slice r20.1 n2 r20.2] by simp]
            exact h3.sel (by repeat (first | exact Sel.nil | (apply Sel.cons; · (repeat (first | exact Pick.here | apply Pick.there)))))
        · refine gp zl ?_
          refine yx ?_
          refine yo 3 rfl ?_
          refine zc (fun r16 => ?_) (c := fun w1 F1 F2 h1 h2 hd hst => cloneD_ok (xs := (sg.sig.chains.map dc).flatten) h1 ((RdList.row (f := dc) hd1).mv hst.still) (flat_one dc_one _) (by omega))
          refine yx ?_
          refine yp 8 rfl zfa ?_
          refine yp 9 rfl zfa ?_
          refine yo 7 rfl ?_
          refine zc (fun r20 => ?_) (c := fun w1 F1 F2 h1 h2 hd hst => cloneD_ok (xs := (sg.sig.path.map dc).flatten) h1 ((RdList.row (f := dc) hd2).mv hst.still) (flat_one dc_one _) (by omega))
          refine yx ?_
          refine yo 10 rfl ?_
          refine zs1 ?_
          refine yx ?_
          refine yp 11 rfl zfa ?_
          refine yp 12 rfl zfa ?_
          refine yo 13 rfl ?_
          refine zs1 ?_
          refine yx ?_
          refine yd ?_
          refine gx_then ?_
          refine gc_region ?_
          refine gp zmv ?_
          refine gp zL ?_
          refine zeN fun b27 => ?_
          refine zapo (fun a28 c28 => ?_)
          refine gp zas ?_
          refine gl_nil ?_
          refine gx_block_normal ?_
          refine gx_then ?_
          refine gc_region ?_
          refine gp zad ?_
          refine gp zmv ?_
          refine gl_nil ?_
          refine zrd ((k + 1, a28, c28, css ++ [[.int .i64 sg.who, .int .i64 sg.sig.leaf, .slice r16.1 n1 r16.2, .slice r20.1 n2 r20.2]])) ?_ ?_
          · show nv - (k + 1) < nv - k
            omega
          · intro w' hw
            have k1' := row_le hw (e := 26) (size := 16) (a := r16.1) (n := n1) (c := r16.2) (by repeat (first | exact Pick.here | apply Pick.there))
            have k2' := row_le hw (e := 26) (size := 16) (a := r20.1) (n := n2) (c := r20.2) (by repeat (first | exact Pick.here | apply Pick.there))
            have h1 := hw.conv (M := [rowR 26 16 r16.1 n1 r16.2 (sg.sig.chains.map dc).flatten, rowR 26 16 r20.1 n2 r20.2 (sg.sig.path.map dc).flatten]) (by repeat (first | exact Sel.nil | (apply Sel.cons; · (repeat (first | exact Pick.here | apply Pick.there))))) (fun _ _ => vl_digs (lf := sg.sig.leaf) k1' k2')
            have h2 := h1.conv (M := [VlR RdSig [.int .i64 sg.sig.leaf, .slice r16.1 n1 r16.2, .slice r20.1 n2 r20.2] sg.sig]) (by repeat (first | exact Sel.nil | (apply Sel.cons; · (repeat (first | exact Pick.here | apply Pick.there))))) (fun _ _ => vl_signed (who := sg.who))
            have h3 := h2.conv (M := [ElR RdSigned css (q.votes.take k), VlR RdSigned [.int .i64 sg.who, .int .i64 sg.sig.leaf, .slice r16.1 n1 r16.2, .slice r20.1 n2 r20.2] sg]) (by repeat (first | exact Sel.nil | (apply Sel.cons; · (repeat (first | exact Pick.here | apply Pick.there))))) (fun _ _ => el_snoc)
            rw [← takeB_snoc hsg] at h3
            refine St.pureI ⟨show k + 1 ≤ nv by omega, fun x hx => (by rcases List.mem_append.1 hx with h | h; exact hcs x h; (simp at h; subst h; rfl))⟩ ?_
            rw [show (css ++ [[Value.int .i64 sg.who, .int .i64 sg.sig.leaf, .slice r16.1 n1 r16.2, .slice r20.1 n2 r20.2]]).flatten = css.flatten ++ [Value.int .i64 sg.who, .int .i64 sg.sig.leaf, .slice r16.1 n1 r16.2, .slice r20.1 n2 r20.2] by simp]
            exact h3.sel (by repeat (first | exact Sel.nil | (apply Sel.cons; · (repeat (first | exact Pick.here | apply Pick.there)))))
      · refine gp zl ?_
        refine yx ?_
        refine yo 2 rfl ?_
        refine gp zl ?_
        refine yx ?_
        refine yo 3 rfl ?_
        refine zc (fun r16 => ?_) (c := fun w1 F1 F2 h1 h2 hd hst => cloneD_ok (xs := (sg.sig.chains.map dc).flatten) h1 ((RdList.row (f := dc) hd1).mv hst.still) (flat_one dc_one _) (by omega))
        refine yx ?_
        refine yp 8 rfl zfa ?_
        refine yp 9 rfl zfa ?_
        refine yo 7 rfl ?_
        refine zc (fun r20 => ?_) (c := fun w1 F1 F2 h1 h2 hd hst => cloneD_ok (xs := (sg.sig.path.map dc).flatten) h1 ((RdList.row (f := dc) hd2).mv hst.still) (flat_one dc_one _) (by omega))
        refine yx ?_
        refine yo 10 rfl ?_
        refine zs1 ?_
        refine yx ?_
        refine yp 11 rfl zfa ?_
        refine yp 12 rfl zfa ?_
        refine yo 13 rfl ?_
        refine zs1 ?_
        refine yx ?_
        refine yd ?_
        refine gx_then ?_
        refine gc_region ?_
        refine gp zmv ?_
        refine gp zL ?_
        refine zeN fun b27 => ?_
        refine zapo (fun a28 c28 => ?_)
        refine gp zas ?_
        refine gl_nil ?_
        refine gx_block_normal ?_
        refine gx_then ?_
        refine gc_region ?_
        refine gp zad ?_
        refine gp zmv ?_
        refine gl_nil ?_
        refine zrd ((k + 1, a28, c28, css ++ [[.int .i64 sg.who, .int .i64 sg.sig.leaf, .slice r16.1 n1 r16.2, .slice r20.1 n2 r20.2]])) ?_ ?_
        · show nv - (k + 1) < nv - k
          omega
        · intro w' hw
          have k1' := row_le hw (e := 26) (size := 16) (a := r16.1) (n := n1) (c := r16.2) (by repeat (first | exact Pick.here | apply Pick.there))
          have k2' := row_le hw (e := 26) (size := 16) (a := r20.1) (n := n2) (c := r20.2) (by repeat (first | exact Pick.here | apply Pick.there))
          have h1 := hw.conv (M := [rowR 26 16 r16.1 n1 r16.2 (sg.sig.chains.map dc).flatten, rowR 26 16 r20.1 n2 r20.2 (sg.sig.path.map dc).flatten]) (by repeat (first | exact Sel.nil | (apply Sel.cons; · (repeat (first | exact Pick.here | apply Pick.there))))) (fun _ _ => vl_digs (lf := sg.sig.leaf) k1' k2')
          have h2 := h1.conv (M := [VlR RdSig [.int .i64 sg.sig.leaf, .slice r16.1 n1 r16.2, .slice r20.1 n2 r20.2] sg.sig]) (by repeat (first | exact Sel.nil | (apply Sel.cons; · (repeat (first | exact Pick.here | apply Pick.there))))) (fun _ _ => vl_signed (who := sg.who))
          have h3 := h2.conv (M := [ElR RdSigned css (q.votes.take k), VlR RdSigned [.int .i64 sg.who, .int .i64 sg.sig.leaf, .slice r16.1 n1 r16.2, .slice r20.1 n2 r20.2] sg]) (by repeat (first | exact Sel.nil | (apply Sel.cons; · (repeat (first | exact Pick.here | apply Pick.there))))) (fun _ _ => el_snoc)
          rw [← takeB_snoc hsg] at h3
          refine St.pureI ⟨show k + 1 ≤ nv by omega, fun x hx => (by rcases List.mem_append.1 hx with h | h; exact hcs x h; (simp at h; subst h; rfl))⟩ ?_
          rw [show (css ++ [[Value.int .i64 sg.who, .int .i64 sg.sig.leaf, .slice r16.1 n1 r16.2, .slice r20.1 n2 r20.2]]).flatten = css.flatten ++ [Value.int .i64 sg.who, .int .i64 sg.sig.leaf, .slice r16.1 n1 r16.2, .slice r20.1 n2 r20.2] by simp]
          exact h3.sel (by repeat (first | exact Sel.nil | (apply Sel.cons; · (repeat (first | exact Pick.here | apply Pick.there)))))
    · try simp only at hc10
      have hk' : k = nv := by omega
      subst hk'
      have htk : q.votes.take k = q.votes := List.take_of_length_le (by omega)
      rw [htk]
      refine gc_exit ?_
      refine gx_then_exit ?_
      refine gx_round_exit ?_
      refine gx_block_hit ?_
      refine gx_then ?_
      refine gsr ?_
      refine gp zmv ?_
      refine gp zfa ?_
      refine zs1 ?_
      refine gnt ?_
      refine gsr ?_
      refine gp zL ?_
      refine zsN ?_
      refine gnt ?_
      refine gc_ret ?_
      refine gx_retc rfl rfl (ld_aggS Ty.row_29 Ty.sz_29 (by repeat (first | exact Pick.here | apply Pick.there)) (by (simp only [List.drop_succ_cons, List.drop_zero, List.take_succ_cons, List.take_zero, List.cons_append, List.nil_append, List.append_assoc, drop_dc, drop_dc', take_dc, take_dc', drop_L, drop_L', take_L, take_L', len_L, Nat.reduceLeDiff, Nat.reduceSub, Nat.reduceAdd, Nat.le_refl, List.length_cons, List.length_append, List.length_nil, dc_length, List.drop_nil, List.take_nil, List.append_nil, List.length_map, List.length_replicate]; first | done | rfl)) (by first | rfl | (simp only [List.drop_succ_cons, List.drop_zero, List.take_succ_cons, List.take_zero, List.cons_append, List.nil_append, List.append_assoc, drop_dc, drop_dc', take_dc, take_dc', drop_L, drop_L', take_L, take_L', len_L, Nat.reduceLeDiff, Nat.reduceSub, Nat.reduceAdd, Nat.le_refl, List.length_cons, List.length_append, List.length_nil, dc_length, List.drop_nil, List.take_nil, List.append_nil, List.length_map, List.length_replicate]; first | done | omega))) ?_
      intro w' hw
      have h1 := hw.conv (M := [rowR 105 4 a k c css.flatten, ElR RdSigned css q.votes]) (by repeat (first | exact Sel.nil | (apply Sel.cons; · (repeat (first | exact Pick.here | apply Pick.there))))) (fun _ _ => vl_qcE hcs)
      exact ⟨_, rfl, St.pureI ⟨by simp [dc_length], all_cons' rfl (all_cons' rfl (all_app' (dc_one _) (all_cons' rfl all_nil')))⟩ (h1.sel (by repeat (first | exact Sel.nil | (apply Sel.cons; · (repeat (first | exact Pick.here | apply Pick.there))))))⟩

set_option maxHeartbeats 400000 in
theorem copied_ok {w : World} {F : Nat → Prop} {cs : List Value} {b : Block} (h : stars [] w F) (hx : RdBlock w (fun k => ¬ F k) cs b) (hs : smBlk b) :
    Calls Tryd.prog 19 #[.agg cs.toArray] w (Post w F (fun x : List Value => .agg x.toArray) (fun x => [pureR (x.length = 39 ∧ ∀ v ∈ x, v.oneCell' = true), VlR RdBlock x b])) := by
  obtain ⟨q, a1, n1, c1, a2, n2, c2, rfl, hx1, hx2, hx3, hx4, hx5⟩ := hx
  have hlq := hx1.len
  have ilq := Len.of hlq
  have jlq := One.of hx1.one
  have hn1 := hx3.len (by decide)
  have hn2 := hx5.len (by decide)
  obtain ⟨hs1, hs2, hs3, hs4⟩ := hs
  refine g_enter (env := [(0, _)]) Tryd.func19 rfl h Tryd.ntmps19 rfl rfl ?_
  refine gsr ?_
  refine zbN fun b1 => ?_
  refine zal fun b2 => ?_
  refine gl_eqc (cs' := blkC) (by repeat (first | exact Pick.here | apply Pick.there)) (by kernel_rfl) ?_
  refine gnt ?_
  refine gsr ?_
  refine gp zfa ?_
  refine gp (zL (sg := q)) ?_
  refine zc (fun x8 => ?_) (c := fun w1 F1 F2 h1 h2 hd hst => copiedQC_ok h1 (hx1.mv hst.still) hs1)
  refine gl_pureR (fun hx8 => ?_)
  obtain ⟨hl8, ho8⟩ := hx8
  replace hl8 : x8.length = 19 := hl8
  have i8 := Len.of hl8
  have j8 := One.of (show ∀ v ∈ x8, v.oneCell' = true from ho8)
  refine gp zfa ?_
  refine zsN ?_
  refine gnt ?_
  refine gsr ?_
  refine gp zfa ?_
  refine gp zl ?_
  refine zc (fun r12 => ?_) (c := fun w1 F1 F2 h1 h2 hd hst => cloneV_ok (xs := (b.next.map vdC).flatten) h1 ((RdList.row (f := vdC) hx5).mv hst.still) (flat_one vdC_one _) (by omega))
  refine gp zfa ?_
  refine zs1 ?_
  refine gnt ?_
  refine gsr ?_
  refine gp zas ?_
  refine gnt ?_
  refine gc_seq ?_
  refine gsr ?_
  refine gp zfa ?_
  refine gp zl ?_
  refine gp zln ?_
  refine gp zmv ?_
  refine gnt ?_
  refine gc_block ?_
  refine gc_loop (α := Nat × Option Addr × Nat × List (List Value)) (fun y => [pureR (y.1 ≤ n1 ∧ ∀ c ∈ y.2.2.2, List.length c = 1), rowR 53 1 y.2.1 y.1 y.2.2.1 y.2.2.2.flatten, ElR RdBytes y.2.2.2 (b.payload.take y.1), blk b1 33 (.int .i64 b.epoch :: .int .i64 b.round :: (dc b.parent ++ (x8 ++ [.slice a1 n1 c1, .slice r12.1 n2 r12.2]))), blk b2 33 blkC, VlR RdQC x8 b.justify, rowR 95 17 r12.1 n2 r12.2 (b.next.map vdC).flatten]) (fun y => [(3, .slice y.2.1 y.1 y.2.2.1), (17, .int .i64 (y.1 : Int))]) [5, 18, 19, 20, 21, 22, 23, 24, 25, 26] (fun y => n1 - y.1) (0, none, 0, []) ?_ ?_ ?_
  · refine env_start (by kernel_rfl)
  · intro w' hw
    have hw := St.mapL hw (fun F' hF' => el_nil (rd := RdBytes) hF')
    exact St.pureI ⟨Nat.zero_le _, by simp⟩ ((hw.rowNil (e := 53) (size := 1)).sel (by repeat (first | exact Sel.nil | (apply Sel.cons; · (repeat (first | exact Pick.here | apply Pick.there))))))
  · intro y u
    obtain ⟨k, a, c, css⟩ := y
    refine gc_pureR (fun hk => ?_)
    obtain ⟨hk, hcs⟩ := hk
    replace hk : k ≤ n1 := hk
    replace hcs : ∀ x ∈ css, List.length x = 1 := hcs
    refine gsr ?_
    refine gp zlt ?_
    refine gnt ?_
    refine gc_seq ?_
    refine gif rfl (fun hc18 => ?_) (fun hc18 => ?_)
    · try simp only at hc18
      have hk' : k < n1 := by omega
      obtain ⟨gx, ox, ce, px, ha, hA, _, hra, hl1, hpx, hrd⟩ := hx3.elem (i := k) (by decide) hk'
      subst ha
      obtain ⟨ax, nx, cx, rfl, kx, hrx⟩ := hrd
      have hpl := hs4 px (List.mem_of_getElem? hpx)
      have hnx : nx = px.length := by have := hrx.1; simp at this; omega
      refine gc_skip ?_
      refine gx_then ?_
      refine gc_seq ?_
      refine gc_block ?_
      refine gsr ?_
      refine gp (r_val (v' := .pointer (some ⟨gx, ox + k * 1, none⟩)) zia (by simp)) ?_
      refine gp (r_ld1o rfl Ty.row_53 (hra 0 _ rfl) hA) ?_
      refine gp zas ?_
      refine gnt ?_
      refine gc_region ?_
      refine gp zmv ?_
      refine gp zmv ?_
      refine zc (fun r23 => ?_) (c := fun w1 F1 F2 h1 h2 hd hst => cloneBytes_ok (xs := px.map B8) h1 (hrx.mv hst.still) (one_B8 _) (by omega))
      refine ze1 fun b24 => ?_
      refine zapo (fun a25 c25 => ?_)
      refine gp zas ?_
      refine gl_nil ?_
      refine gx_block_normal ?_
      refine gx_then ?_
      refine gc_region ?_
      refine gp zad ?_
      refine gp zmv ?_
      refine gl_nil ?_
      refine zrd ((k + 1, a25, c25, css ++ [[.slice r23.1 nx r23.2]])) ?_ ?_
      · show n1 - (k + 1) < n1 - k
        omega
      · intro w' hw
        have h1 := hw.conv (M := [rowR 5 1 r23.1 nx r23.2 (px.map B8)]) (by repeat (first | exact Sel.nil | (apply Sel.cons; · (repeat (first | exact Pick.here | apply Pick.there))))) (fun _ _ => vl_bytes)
        have h3 := h1.conv (M := [ElR RdBytes css (b.payload.take k), VlR RdBytes [.slice r23.1 nx r23.2] px]) (by repeat (first | exact Sel.nil | (apply Sel.cons; · (repeat (first | exact Pick.here | apply Pick.there))))) (fun _ _ => el_snoc)
        rw [← takeB_snoc hpx] at h3
        refine St.pureI ⟨show k + 1 ≤ n1 by omega, fun x hx => (by rcases List.mem_append.1 hx with h | h; exact hcs x h; (simp at h; subst h; rfl))⟩ ?_
        rw [show (css ++ [[Value.slice r23.1 nx r23.2]]).flatten = css.flatten ++ [Value.slice r23.1 nx r23.2] by simp]
        exact h3.sel (by repeat (first | exact Sel.nil | (apply Sel.cons; · (repeat (first | exact Pick.here | apply Pick.there)))))
    · try simp only at hc18
      have hk' : k = n1 := by omega
      subst hk'
      have htk : b.payload.take k = b.payload := List.take_of_length_le (by omega)
      rw [htk]
      refine gc_exit ?_
      refine gx_then_exit ?_
      refine gx_round_exit ?_
      refine gx_block_hit ?_
      refine gx_then ?_
      refine gsr ?_
      refine gp zmv ?_
      refine gp zfa ?_
      refine zs1 ?_
      refine gnt ?_
      refine gsr ?_
      refine gp zL ?_
      refine zsN ?_
      refine gnt ?_
      refine gc_ret ?_
      refine gx_retc rfl rfl (ld_aggS Ty.row_33 Ty.sz_33 (by repeat (first | exact Pick.here | apply Pick.there)) (by (simp only [List.drop_succ_cons, List.drop_zero, List.take_succ_cons, List.take_zero, List.cons_append, List.nil_append, List.append_assoc, drop_dc, drop_dc', take_dc, take_dc', drop_L, drop_L', take_L, take_L', len_L, Nat.reduceLeDiff, Nat.reduceSub, Nat.reduceAdd, Nat.le_refl, List.length_cons, List.length_append, List.length_nil, dc_length, List.drop_nil, List.take_nil, List.append_nil, List.length_map, List.length_replicate]; first | done | rfl)) (by first | rfl | (simp only [List.drop_succ_cons, List.drop_zero, List.take_succ_cons, List.take_zero, List.cons_append, List.nil_append, List.append_assoc, drop_dc, drop_dc', take_dc, take_dc', drop_L, drop_L', take_L, take_L', len_L, Nat.reduceLeDiff, Nat.reduceSub, Nat.reduceAdd, Nat.le_refl, List.length_cons, List.length_append, List.length_nil, dc_length, List.drop_nil, List.take_nil, List.append_nil, List.length_map, List.length_replicate]; first | done | omega))) ?_
      intro w' hw
      have h1 := hw.conv (M := [VlR RdQC x8 b.justify, rowR 53 1 a k c css.flatten, ElR RdBytes css b.payload, rowR 95 17 r12.1 n2 r12.2 (b.next.map vdC).flatten]) (by repeat (first | exact Sel.nil | (apply Sel.cons; · (repeat (first | exact Pick.here | apply Pick.there))))) (fun _ _ => vl_blockE hcs)
      exact ⟨_, rfl, St.pureI ⟨by simp [dc_length, hl8], all_cons' rfl (all_cons' rfl (all_app' (dc_one _) (all_app' ho8 (all_cons' rfl (all_cons' rfl all_nil')))))⟩ (h1.sel (by repeat (first | exact Sel.nil | (apply Sel.cons; · (repeat (first | exact Pick.here | apply Pick.there))))))⟩

set_option maxHeartbeats 400000 in
theorem bfits_ok {w : World} {F : Nat → Prop} {w' w2 : World} {A A2 : Nat → Prop} {qs cs : List Value} {q : QC} {b : Block} {d : Dig} (h : stars [] w F) (hq : RdQC w' A qs q) (hx : RdBlock w2 A2 cs b) :
    Calls Tryd.prog 21 #[.agg qs.toArray, .agg (dc d).toArray, .agg cs.toArray] w (Post w F (fun _ : Unit => .bool (fitsQ q d b)) (fun _ => [])) := by
  obtain ⟨av, nv, kv, rfl, hq1, hq2⟩ := hq
  obtain ⟨j, a1, n1, c1, a2, n2, c2, rfl, hx1, hx2, hx3, hx4, hx5⟩ := hx
  have ilq := Len.of hx1.len
  have jlq := One.of hx1.one
  refine g_enter (env := [(0, _), (1, _), (2, _)]) Tryd.func21 rfl h Tryd.ntmps21 rfl rfl ?_
  refine gsr ?_
  refine zbN fun b3 => ?_
  refine zbN fun b4 => ?_
  refine zbN fun b5 => ?_
  refine gp zas ?_
  refine gnt ?_
  refine gc_seq ?_
  by_cases hS1 : q.block = d
  · by_cases hS2 : q.epoch = b.epoch
    · by_cases hS3 : q.round = b.round
      · refine gc_region ?_
        refine gp zfa ?_
        refine gp zL ?_
        refine gp zL ?_
        refine gp (r_bool (c := true) zed (by simp [hS1])) ?_
        refine gp zmv ?_
        refine gq zfa ?_
        refine gq zl ?_
        refine gq zfa ?_
        refine gq zl ?_
        refine gq (r_bool (c := true) zei (by simp [hS2])) ?_
        refine gp zpk ?_
        refine gp zmv ?_
        refine gq zfa ?_
        refine gq zl ?_
        refine gq zfa ?_
        refine gq zl ?_
        refine gq (r_bool (c := true) zei (by simp [hS3])) ?_
        refine gp zpk ?_
        refine gp zas ?_
        refine gnt ?_
        refine gc_ret ?_
        refine gx_ret1 rfl (by conv => lhs; whnf) ?_
        exact fun w' hw => ⟨(), by simp [fitsQ, *], hw.sel (by repeat (first | exact Sel.nil | (apply Sel.cons; · (repeat (first | exact Pick.here | apply Pick.there)))))⟩
      · refine gc_region ?_
        refine gp zfa ?_
        refine gp zL ?_
        refine gp zL ?_
        refine gp (r_bool (c := true) zed (by simp [hS1])) ?_
        refine gp zmv ?_
        refine gq zfa ?_
        refine gq zl ?_
        refine gq zfa ?_
        refine gq zl ?_
        refine gq (r_bool (c := true) zei (by simp [hS2])) ?_
        refine gp zpk ?_
        refine gp zmv ?_
        refine gq zfa ?_
        refine gq zl ?_
        refine gq zfa ?_
        refine gq zl ?_
        refine gq (r_bool (c := false) zei (by simp [hS3])) ?_
        refine gp zpk ?_
        refine gp zas ?_
        refine gnt ?_
        refine gc_ret ?_
        refine gx_ret1 rfl (by conv => lhs; whnf) ?_
        exact fun w' hw => ⟨(), by simp [fitsQ, *], hw.sel (by repeat (first | exact Sel.nil | (apply Sel.cons; · (repeat (first | exact Pick.here | apply Pick.there)))))⟩
    · refine gc_region ?_
      refine gp zfa ?_
      refine gp zL ?_
      refine gp zL ?_
      refine gp (r_bool (c := true) zed (by simp [hS1])) ?_
      refine gp zmv ?_
      refine gq zfa ?_
      refine gq zl ?_
      refine gq zfa ?_
      refine gq zl ?_
      refine gq (r_bool (c := false) zei (by simp [hS2])) ?_
      refine gp zpk ?_
      refine gp zmv ?_
      refine gn ?_
      refine gn ?_
      refine gn ?_
      refine gn ?_
      refine gn ?_
      refine gp zpk ?_
      refine gp zas ?_
      refine gnt ?_
      refine gc_ret ?_
      refine gx_ret1 rfl (by conv => lhs; whnf) ?_
      exact fun w' hw => ⟨(), by simp [fitsQ, *], hw.sel (by repeat (first | exact Sel.nil | (apply Sel.cons; · (repeat (first | exact Pick.here | apply Pick.there)))))⟩
  · refine gc_region ?_
    refine gp zfa ?_
    refine gp zL ?_
    refine gp zL ?_
    refine gp (r_bool (c := false) zed (by simp [hS1])) ?_
    refine gp zmv ?_
    refine gn ?_
    refine gn ?_
    refine gn ?_
    refine gn ?_
    refine gn ?_
    refine gp zpk ?_
    refine gp zmv ?_
    refine gn ?_
    refine gn ?_
    refine gn ?_
    refine gn ?_
    refine gn ?_
    refine gp zpk ?_
    refine gp zas ?_
    refine gnt ?_
    refine gc_ret ?_
    refine gx_ret1 rfl (by conv => lhs; whnf) ?_
    exact fun w' hw => ⟨(), by simp [fitsQ, *], hw.sel (by repeat (first | exact Sel.nil | (apply Sel.cons; · (repeat (first | exact Pick.here | apply Pick.there)))))⟩

end Go.Proofs.YtheonhgffglegaaDoor

/- Walks, by program (wg.py) out of a spec. -/
namespace Go.Proofs.YtheonhgffglegaaDoor
open Go
set_option linter.unusedVariables false
set_option linter.unusedSimpArgs false


instance : KeyT Tryd.prog 26 (fun d : Dig => Value.agg (dc d).toArray) := keyT_dig ART.h UNT.h SZ.h
abbrev digV (d : Dig) : Value := .agg (dc d).toArray
def nodeV (l : List (Dig × Block)) (css : List (List Value)) : List (Dig × Value) := (l.map (fun p => p.1)).zip (css.map fun c => Value.agg c.toArray)
def treeC (t : Tr) (g : Nat) (ao : Option Addr) (co : Nat) (ac : Option Addr) (cc : Nat) : List Value := dc t.root ++ [.map (some g), .slice ao t.nodes.length co, .slice ac t.certs.length cc]
theorem treeC_len (t : Tr) (g : Nat) (ao : Option Addr) (co : Nat) (ac : Option Addr) (cc : Nat) : (treeC t g ao co ac cc).length = 19 := by simp [treeC, dc_length]
/-- A tree's memory, piece by piece. -/
structure TrM (w : World) (A : Nat → Prop) (q : Nat) (t : Tr) (g : Nat) (ao : Option Addr) (co : Nat) (ac : Option Addr) (cc : Nat) (css : List (List Value)) : Prop where
  row : RdRow w A 19 (some ⟨q, 0, none⟩) 1 (treeC t g ao co ac cc)
  mp : RdMap w A g (encK digV (nodeV t.nodes css))
  el : css.length = t.nodes.length ∧ ∀ (i : Nat) (c : List Value) (p : Dig × Block), css[i]? = some c → t.nodes[i]? = some p → RdBlock w A c p.2
  ord : RdList (fun cs d => cs = dc d) w A 16 ao t.nodes.length (keysT t)
  cer : RdList (RdQC w A) w A 19 ac t.certs.length t.certs
def RdTree (w : World) (A : Nat → Prop) (q : Nat) (t : Tr) : Prop := ∃ g ao co ac cc css, TrM w A q t g ao co ac cc css
theorem TrM.mv {w w' : World} {A A' : Nat → Prop} {q : Nat} {t : Tr} {g : Nat} {ao : Option Addr} {co : Nat} {ac : Option Addr} {cc : Nat} {css : List (List Value)} (h : TrM w A q t g ao co ac cc css) (hk : Still w A w' A') : TrM w' A' q t g ao co ac cc css :=
  ⟨h.row.mv hk, h.mp.mv hk, ⟨h.el.1, fun i c p hc hp => (h.el.2 i c p hc hp).mv hk⟩, h.ord.mv hk fun _ _ h => h, h.cer.mv hk fun _ _ h => h.mv hk⟩
theorem RdTree.mv {w w' : World} {A A' : Nat → Prop} {q : Nat} {t : Tr} (h : RdTree w A q t) (hk : Still w A w' A') : RdTree w' A' q t := by
  obtain ⟨g, ao, co, ac, cc, css, h⟩ := h; exact ⟨g, ao, co, ac, cc, css, h.mv hk⟩
section
variable {w : World} {A : Nat → Prop} {q : Nat} {t : Tr} {g : Nat} {ao : Option Addr} {co : Nat} {ac : Option Addr} {cc : Nat} {css : List (List Value)}
theorem TrM.cells (h : TrM w A q t g ao co ac cc css) : A q ∧ w.rangeAt q 0 (dc t.root) ∧ w.cell? ⟨q, 16, none⟩ = some (.map (some g)) ∧ w.cell? ⟨q, 17, none⟩ = some (.slice ao t.nodes.length co) ∧ w.cell? ⟨q, 18, none⟩ = some (.slice ac t.certs.length cc) := by
  obtain ⟨g', o, ha, hA, _, hr⟩ := h.row.2.2 (by decide)
  cases ha
  have hd := dc_length t.root
  refine ⟨hA, fun j v hj => hr j v ?_, hr 16 _ ?_, hr 17 _ ?_, hr 18 _ ?_⟩
  · rw [treeC, List.getElem?_append_left ((List.getElem?_eq_some_iff.1 hj).1)]; exact hj
  all_goals (rw [treeC, List.getElem?_append_right (by rw [hd]; decide), hd]; rfl)
theorem nodeV_none {d : Dig} : ∀ {l : List (Dig × Block)} {css : List (List Value)} {k : Nat}, lkN d l = none → atK d (nodeV l css) k = none
  | [], _, _, _ => by simp [nodeV, atK]
  | p :: l, [], _, _ => by simp [nodeV, atK]
  | p :: l, c :: css, k, h => by
    unfold lkN at h
    split at h
    · cases h
    · rename_i hne
      have ih := nodeV_none (css := css) (k := k + 1) h
      simp only [nodeV, List.map_cons, List.zip_cons_cons, atK] at ih ⊢
      rw [if_neg (fun e => hne (by first | exact e | exact e.symm))]; exact ih
theorem nodeV_some {d : Dig} {b : Block} : ∀ {l : List (Dig × Block)} {css : List (List Value)} {k : Nat}, css.length = l.length → lkN d l = some b → ∃ i c, l[i]? = some (d, b) ∧ css[i]? = some c ∧ atK d (nodeV l css) k = some (k + i, .agg c.toArray)
  | [], _, _, _, h => by cases h
  | p :: l, [], _, hl, _ => by simp at hl
  | p :: l, c :: css, k, hl, h => by
    unfold lkN at h
    split at h
    · rename_i e
      cases h
      refine ⟨0, c, by subst e; rfl, rfl, ?_⟩
      simp only [nodeV, List.map_cons, List.zip_cons_cons, atK]
      rw [if_pos (by first | exact e | exact e.symm)]; rfl
    · rename_i hne
      obtain ⟨i, c', h1, h2, h3⟩ := nodeV_some (css := css) (k := k + 1) (by simpa using hl) h
      refine ⟨i + 1, c', h1, h2, ?_⟩
      simp only [nodeV, List.map_cons, List.zip_cons_cons, atK] at h3 ⊢
      rw [if_neg (fun e => hne (by first | exact e | exact e.symm)), h3]; congr 2; omega
theorem TrM.look (h : TrM w A q t g ao co ac cc css) {d : Dig} {b : Block} (hl : lkN d t.nodes = some b) : ∃ c, getK d (nodeV t.nodes css) = some (.agg c.toArray) ∧ RdBlock w A c b := by
  obtain ⟨i, c, h1, h2, h3⟩ := nodeV_some (k := 0) h.el.1 hl
  exact ⟨c, by rw [getK, h3]; rfl, h.el.2 i c _ h2 h1⟩
theorem TrM.lookn {d : Dig} (hl : lkN d t.nodes = none) : getK d (nodeV t.nodes css) = none := by
  rw [getK, nodeV_none hl]; rfl
theorem nodeV_len (h : css.length = t.nodes.length) : (encK digV (nodeV t.nodes css)).length = t.nodes.length := by
  simp [encK, nodeV, h]
end
/-- Certificates. -/
def idxQ (d : Dig) : Nat → List QC → Int
  | _, [] => -1
  | k, q :: l => if q.block = d then (k : Int) else idxQ d (k + 1) l
theorem idxQ_at {d : Dig} : ∀ (l : List QC) (k j : Nat), (∀ i, i < j → ∀ q, l[i]? = some q → q.block ≠ d) → j ≤ l.length → idxQ d k l = idxQ d (k + j) (l.drop j) ∧ certF d l = certF d (l.drop j)
  | [], k, j, _, hj => by have : j = 0 := by simpa using hj
                          subst this; exact ⟨rfl, rfl⟩
  | r :: l, k, 0, _, _ => ⟨rfl, rfl⟩
  | r :: l, k, j + 1, h, hj => by
    have h0 := h 0 (by omega) r rfl
    have ih := idxQ_at l (k + 1) j (fun i hi r' hr => h (i + 1) (by omega) r' (by simpa using hr)) (by simpa using hj)
    rw [idxQ, if_neg h0, certF, if_neg h0, List.drop_succ_cons, ih.1, ih.2, show k + 1 + j = k + (j + 1) by omega]
    exact ⟨rfl, rfl⟩
theorem idxQ_hit {d : Dig} {l : List QC} {j : Nat} {r : QC} (h : ∀ i, i < j → ∀ r, l[i]? = some r → r.block ≠ d) (hr : l[j]? = some r) (he : r.block = d) : idxQ d 0 l = (j : Int) ∧ certF d l = some r := by
  have hlt := (List.getElem?_eq_some_iff.1 hr).1
  have hh := idxQ_at l 0 j h (by omega)
  have : l.drop j = r :: l.drop (j + 1) := by rw [List.drop_eq_getElem_cons hlt, (List.getElem?_eq_some_iff.1 hr).2]
  rw [hh.1, hh.2, Nat.zero_add, this, idxQ, if_pos he, certF, if_pos he]; exact ⟨rfl, rfl⟩
theorem idxQ_miss {d : Dig} {l : List QC} (h : ∀ i, i < l.length → ∀ r, l[i]? = some r → r.block ≠ d) : idxQ d 0 l = -1 ∧ certF d l = none := by
  have hh := idxQ_at l 0 l.length h (Nat.le_refl _)
  rw [hh.1, hh.2, List.drop_length]; exact ⟨rfl, rfl⟩
/-- What the search tells: a place and its certificate, or none. -/
theorem idxQ_cases (d : Dig) (l : List QC) : (idxQ d 0 l = -1 ∧ certF d l = none) ∨ ∃ j r, idxQ d 0 l = ((j : Nat) : Int) ∧ certF d l = some r ∧ l[j]? = some r := by
  by_cases h : ∃ j : Nat, ∃ r, l[j]? = some r ∧ r.block = d
  · right
    have hm : ∃ j : Nat, (∃ r, l[j]? = some r ∧ r.block = d) ∧ ∀ i, i < j → ¬ ∃ r, l[i]? = some r ∧ r.block = d := by
      obtain ⟨j, hj⟩ := h
      induction j using Nat.strongRecOn with
      | ind j ih =>
        by_cases hh : ∃ i, i < j ∧ ∃ r, l[i]? = some r ∧ r.block = d
        · obtain ⟨i, hi, hr⟩ := hh; exact ih i hi hr
        · exact ⟨j, hj, fun i hi hr => hh ⟨i, hi, hr⟩⟩
    obtain ⟨j, ⟨r, hr, he⟩, hn⟩ := hm
    have := idxQ_hit (fun i hi r' hr' e => hn i hi ⟨r', hr', e⟩) hr he
    exact ⟨j, r, this.1, this.2, hr⟩
  · left; exact idxQ_miss fun i _ r hr e => h ⟨i, r, hr, e⟩
def gtQ (h x : QC) : QC := if h.round < x.round then x else h
def highQ (l : List QC) : QC := match l with
  | [] => qc0
  | q :: r => (q :: r).foldl gtQ q

attribute [local irreducible] Gl Gc Gx Gs Runs Wt

attribute [local irreducible] dc qcC blkC RdBlock


set_option maxHeartbeats 400000 in
theorem tids_ok {w : World} {F : Nat → Prop} {q : Nat} {t : Tr} (hx : RdTree w (fun k => ¬ F k) q t) (hok : TOk t) (h : stars [] w F) :
    Calls Tryd.prog 13 #[.pointer (some ⟨q, 0, none⟩)] w (Post w F (fun r : Option Addr × Nat => .slice r.1 t.nodes.length r.2) (fun r => [rowR 26 16 r.1 t.nodes.length r.2 ((keysT t).map dc).flatten])) := by
  obtain ⟨g, ao, co, ac, cc, css, hT⟩ := hx
  obtain ⟨hqA, hrt, h16, h17, h18⟩ := hT.cells
  have hle := hok.le
  have hcl := hok.cl
  have hce := hok.ce
  refine g_enter (env := [(0, .pointer (some ⟨q, 0, none⟩))]) Tryd.func13 rfl h Tryd.ntmps13 rfl rfl ?_
  refine gsr ?_
  refine gp zas ?_
  refine gnt ?_
  refine gsr ?_
  refine gp zmv ?_
  refine gp znc ?_
  refine gp zfa ?_
  refine gp (r_ld1o rfl Ty.row_36 h17 hqA) ?_
  refine zc (fun r7 => ?_) (c := fun w1 F1 F2 h1 h2 hd hst => cloneD_ok (xs := ((keysT t).map dc).flatten) h1 ((RdList.row (f := dc) hT.ord).mv hst.still) (flat_one dc_one _) (by omega))
  refine gp zas ?_
  refine gnt ?_
  refine gc_ret ?_
  refine gx_ret1 rfl (by conv => lhs; whnf) ?_
  exact ze r7


set_option maxHeartbeats 400000 in
theorem cert1_ok {w : World} {F : Nat → Prop} {w' : World} {A : Nat → Prop} {qs : List Value} {x : QC} {bi : Nat} {d : Dig} (h : stars [blk bi 26 (dc d)] w F) (hq : RdQC w' A qs x) :
    Calls Tryd.prog 43 #[.agg qs.toArray, .pointer (some ⟨bi, 0, none⟩)] w (Post w F (fun _ : Unit => .bool (decide (x.block = d))) (fun _ => [blk bi 26 (dc d)])) := by
  obtain ⟨av, nv, kv, rfl, hq1, hq2⟩ := hq
  refine g_enter (env := [(0, _), (1, .pointer (some ⟨bi, 0, none⟩))]) Tryd.func43 rfl h Tryd.ntmps43 rfl rfl ?_
  refine gsr ?_
  refine zbN fun b2 => ?_
  refine gp zas ?_
  refine gnt ?_
  refine gsr ?_
  refine gp zfa ?_
  refine gp zL ?_
  refine gp zL ?_
  refine gp zed ?_
  refine gp zas ?_
  refine gnt ?_
  refine gc_ret ?_
  refine gx_ret1 rfl (by conv => lhs; whnf) ?_
  exact ze ()

set_option maxHeartbeats 400000 in
theorem indexQ_ok {w : World} {F : Nat → Prop} {a : Option Addr} {n c bi : Nat} {d : Dig} {l : List QC} (h : stars [blk bi 26 (dc d)] w F) (hx : RdList (RdQC w (fun k => ¬ F k)) w (fun k => ¬ F k) 19 a n l) :
    Calls Tryd.prog 42 #[.slice a n c, .func (.func 43) #[] #[.pointer (some ⟨bi, 0, none⟩)]] w (Post w F (fun _ : Unit => .int .i64 (idxQ d 0 l)) (fun _ => [blk bi 26 (dc d)])) := by
  have hn := hx.len (by decide)
  have hmx := hx.max
  simp only [maxLen] at hmx
  refine g_enter (env := [(0, .slice a n c), (1, .func (.func 43) #[] #[.pointer (some ⟨bi, 0, none⟩)])]) Tryd.func42 rfl h Tryd.ntmps42 rfl rfl ?_
  refine gsr ?_
  refine gp zas ?_
  refine gnt ?_
  refine gc_seq ?_
  refine gsr ?_
  refine gp zmv ?_
  refine gp zln ?_
  refine gp zmv ?_
  refine gnt ?_
  refine gc_block ?_
  refine gc_loop (α := Nat) (fun k => [pureR (k ≤ n ∧ ∀ i, i < k → ∀ r, l[i]? = some r → r.block ≠ d), blk bi 26 (dc d)]) (fun k => [(8, .int .i64 (k : Int))]) [4, 5, 9, 10, 11, 12, 13, 14, 15, 16, 17, 18] (fun k => n - k) 0 ?_ ?_ ?_
  · refine env_start (by kernel_rfl)
  · exact zlp ⟨Nat.zero_le _, fun i hi => absurd hi (Nat.not_lt_zero _)⟩
  · intro k u
    refine gc_pureR (fun hk => ?_)
    replace hk : k ≤ n ∧ ∀ i, i < k → ∀ r, l[i]? = some r → r.block ≠ d := hk
    refine gsr ?_
    refine gp zlt ?_
    refine gnt ?_
    refine gc_seq ?_
    refine gif rfl (fun hc9 => ?_) (fun hc9 => ?_)
    · try simp only at hc9
      have hk' : k < n := by omega
      obtain ⟨ga, oa, ce, r, ha, hA, _, hra, hl19, hr, hrd⟩ := hx.elem (i := k) (by decide) hk'
      subst ha
      have i19 := Len.of hl19
      have j19 := One.of hrd.one
      refine gc_skip ?_
      refine gx_then ?_
      refine gc_seq ?_
      refine gc_block ?_
      refine gsr ?_
      refine gp zmv ?_
      refine gp zas ?_
      refine gnt ?_
      refine gsr ?_
      refine gp zmv ?_
      refine gp zmv ?_
      refine gp zmv ?_
      refine gp (r_val (v' := .pointer (some ⟨ga, oa + k * 19, none⟩)) zia (by simp)) ?_
      refine gp (r_ldNo (seg := ce) rfl Ty.row_29 Ty.sz_29 hra hl19 (by decide) hA) ?_
      refine gl_call (wt0 rfl) (e_callv (us := [.pointer (some ⟨bi, 0, none⟩)]) rfl Ty.call_43 rfl) (by repeat (first | exact Sel.nil | (apply Sel.cons; · (repeat (first | exact Pick.here | apply Pick.there))))) (fun w1 F1 F2 h1 h2 hd hst => cert1_ok (d := d) h1 hrd) ?_
      intro _
      refine gnt ?_
      refine gif rfl (fun hc16 => ?_) (fun hc16 => ?_)
      · try simp only at hc16
        have hf := idxQ_hit hk.2 hr (by simpa using hc16)
        refine gsr ?_
        refine gp zmv ?_
        refine gp zas ?_
        refine gnt ?_
        refine gc_ret ?_
        refine gx_block_ret ?_
        refine gx_then_ret ?_
        refine gx_round_ret ?_
        refine gx_block_ret ?_
        refine gx_then_ret ?_
        refine gx_ret1 rfl (by conv => lhs; whnf) ?_
        exact fun w' hw => ⟨(), by rw [hf.1], hw.sel (by repeat (first | exact Sel.nil | (apply Sel.cons; · (repeat (first | exact Pick.here | apply Pick.there)))))⟩
      · refine gc_skip ?_
        refine gx_block_normal ?_
        refine gx_then ?_
        refine gc_region ?_
        refine gp zad ?_
        refine gp zmv ?_
        refine gl_nil ?_
        refine zrd (k + 1) ?_ ?_
        · show n - (k + 1) < n - k
          omega
        · exact zlp (show k + 1 ≤ n ∧ ∀ i, i < k + 1 → ∀ r, l[i]? = some r → r.block ≠ d from ⟨by omega, fun i hi r' hr' => (by by_cases h' : i < k; exact hk.2 i h' r' hr'; (obtain rfl : i = k := by omega); rw [hr] at hr'; cases hr'; simpa using hc16)⟩)
    · try simp only at hc9
      have hk' : k = n := by omega
      have hf := idxQ_miss (d := d) (l := l) (fun i hi => hk.2 i (by omega))
      refine gc_exit ?_
      refine gx_then_exit ?_
      refine gx_round_exit ?_
      refine gx_block_hit ?_
      refine gx_then ?_
      refine gsr ?_
      refine gp zas ?_
      refine gnt ?_
      refine gc_ret ?_
      refine gx_ret1 rfl (by conv => lhs; whnf) ?_
      exact fun w' hw => ⟨(), by rw [hf.1], hw.sel (by repeat (first | exact Sel.nil | (apply Sel.cons; · (repeat (first | exact Pick.here | apply Pick.there)))))⟩

set_option maxHeartbeats 400000 in
theorem tcert_ok {w : World} {F : Nat → Prop} {q : Nat} {t : Tr} (hx : RdTree w (fun k => ¬ F k) q t) (hok : TOk t) {d : Dig} (h : stars [] w F) :
    Calls Tryd.prog 24 #[.pointer (some ⟨q, 0, none⟩), .agg (dc d).toArray] w (Post w F (fun x : List Value => .tuple #[.agg x.toArray, .bool (certF d t.certs).isSome]) (fun x => [pureR (x.length = 19 ∧ ∀ v ∈ x, v.oneCell' = true), VlR RdQC x ((certF d t.certs).getD qc0)])) := by
  obtain ⟨g, ao, co, ac, cc, css, hT⟩ := hx
  obtain ⟨hqA, hrt, h16, h17, h18⟩ := hT.cells
  have hle := hok.le
  have hcl := hok.cl
  have hce := hok.ce
  refine g_enter (env := [(0, .pointer (some ⟨q, 0, none⟩)), (1, .agg (dc d).toArray)]) Tryd.func24 rfl h Tryd.ntmps24 rfl rfl ?_
  refine gsr ?_
  refine zbN fun b3 => ?_
  refine zal fun b4 => ?_
  refine gl_eqc (cs' := qcC) (by repeat (first | exact Pick.here | apply Pick.there)) (by kernel_rfl) ?_
  refine gp zas ?_
  refine gnt ?_
  refine gc_seq ?_
  by_cases hS : idxQ d 0 t.certs = -1 ∧ certF d t.certs = none
  · refine gc_region ?_
    refine gp zmv ?_
    refine gp znc ?_
    refine gp zfa ?_
    refine gp (r_ld1o rfl Ty.row_59 h18 hqA) ?_
    refine gp zmf ?_
    refine zc (fun _ => ?_) (c := fun w1 F1 F2 h1 h2 hd hst => indexQ_ok (l := t.certs) (d := d) h1 (hT.cer.mv hst.still fun _ _ h => h.mv hst.still))
    refine gp zas ?_
    refine gnt ?_
    refine gc_seq ?_
    refine gsr ?_
    refine gp zmv ?_
    refine gp (r_bool (c := true) zlt (by rw [hS.1]; rfl)) ?_
    refine gnt ?_
    refine gc_condT rfl rfl ?_
    refine gsr ?_
    refine gp (zbu (cs := qcC) (hf := by kernel_rfl)) ?_
    refine zsN ?_
    refine gp zas ?_
    refine gnt ?_
    refine gc_ret ?_
    refine gx_then_ret ?_
    refine gx_retct rfl rfl (by conv => lhs; whnf) (ld_aggS Ty.row_29 Ty.sz_29 (by repeat (first | exact Pick.here | apply Pick.there)) (by (simp only [List.drop_succ_cons, List.drop_zero, List.take_succ_cons, List.take_zero, List.cons_append, List.nil_append, List.append_assoc, drop_dc, drop_dc', take_dc, take_dc', drop_L, drop_L', take_L, take_L', len_L, Nat.reduceLeDiff, Nat.reduceSub, Nat.reduceAdd, Nat.le_refl, List.length_cons, List.length_append, List.length_nil, dc_length, List.drop_nil, List.take_nil, List.append_nil, List.length_map, List.length_replicate]; first | done | rfl)) (by first | rfl | (simp only [List.drop_succ_cons, List.drop_zero, List.take_succ_cons, List.take_zero, List.cons_append, List.nil_append, List.append_assoc, drop_dc, drop_dc', take_dc, take_dc', drop_L, drop_L', take_L, take_L', len_L, Nat.reduceLeDiff, Nat.reduceSub, Nat.reduceAdd, Nat.le_refl, List.length_cons, List.length_append, List.length_nil, dc_length, List.drop_nil, List.take_nil, List.append_nil, List.length_map, List.length_replicate]; first | done | omega))) ?_
    exact fun w' hw => ⟨qcC, by rw [hS.2]; rfl, St.pureI ⟨Len.h, One.h⟩ (by rw [hS.2]; exact St.vl (hw.sel (by repeat (first | exact Sel.nil | (apply Sel.cons; · (repeat (first | exact Pick.here | apply Pick.there)))))) rdQC0)⟩
  · obtain ⟨j, r, hj, hr, hg⟩ := (idxQ_cases d t.certs).resolve_left hS
    have hjl := (List.getElem?_eq_some_iff.1 hg).1
    obtain ⟨ga, oa, ce, r', ha, hA, _, hra, hl19, hr', hrd⟩ := hT.cer.elem (i := j) (by decide) hjl
    obtain rfl : r' = r := Option.some.inj (hr'.symm.trans hg)
    subst ha
    have i19 := Len.of hl19
    have j19 := One.of hrd.one
    refine gc_region ?_
    refine gp zmv ?_
    refine gp znc ?_
    refine gp zfa ?_
    refine gp (r_ld1o rfl Ty.row_59 h18 hqA) ?_
    refine gp zmf ?_
    refine zc (fun _ => ?_) (c := fun w1 F1 F2 h1 h2 hd hst => indexQ_ok (l := t.certs) (d := d) h1 (hT.cer.mv hst.still fun _ _ h => h.mv hst.still))
    refine gp zas ?_
    refine gnt ?_
    refine gc_seq ?_
    refine gsr ?_
    refine gp zmv ?_
    refine gp (r_bool (c := false) zlt (by rw [hj]; exact decide_eq_false (by omega))) ?_
    refine gnt ?_
    refine gc_condF rfl rfl ?_
    refine gc_skip ?_
    refine gx_then ?_
    refine gsr ?_
    refine gp zmv ?_
    refine gp znc ?_
    refine gp zfa ?_
    refine gp (r_ld1o rfl Ty.row_59 h18 hqA) ?_
    refine gp (r_val (v' := .int .i64 ((j : Nat) : Int)) zmv (by rw [hj])) ?_
    refine gp (r_val (v' := .pointer (some ⟨ga, oa + j * 19, none⟩)) zia (by simp)) ?_
    refine gp (r_ldNo (seg := ce) rfl Ty.row_29 Ty.sz_29 hra hl19 (by decide) hA) ?_
    refine zc (fun x23 => ?_) (c := fun w1 F1 F2 h1 h2 hd hst => copiedQC_ok h1 (hrd.mv hst.still) (hok.sq _ (List.mem_of_getElem? hg)))
    refine gl_pureR (fun hx23 => ?_)
    obtain ⟨hl23, ho23⟩ := hx23
    replace hl23 : x23.length = 19 := hl23
    have i23 := Len.of hl23
    have j23 := One.of (show ∀ v ∈ x23, v.oneCell' = true from ho23)
    refine zsN ?_
    refine gp zas ?_
    refine gnt ?_
    refine gc_ret ?_
    refine gx_retct rfl rfl (by conv => lhs; whnf) (ld_aggS Ty.row_29 Ty.sz_29 (by repeat (first | exact Pick.here | apply Pick.there)) (by (simp only [List.drop_succ_cons, List.drop_zero, List.take_succ_cons, List.take_zero, List.cons_append, List.nil_append, List.append_assoc, drop_dc, drop_dc', take_dc, take_dc', drop_L, drop_L', take_L, take_L', len_L, Nat.reduceLeDiff, Nat.reduceSub, Nat.reduceAdd, Nat.le_refl, List.length_cons, List.length_append, List.length_nil, dc_length, List.drop_nil, List.take_nil, List.append_nil, List.length_map, List.length_replicate]; first | done | rfl)) (by first | rfl | (simp only [List.drop_succ_cons, List.drop_zero, List.take_succ_cons, List.take_zero, List.cons_append, List.nil_append, List.append_assoc, drop_dc, drop_dc', take_dc, take_dc', drop_L, drop_L', take_L, take_L', len_L, Nat.reduceLeDiff, Nat.reduceSub, Nat.reduceAdd, Nat.le_refl, List.length_cons, List.length_append, List.length_nil, dc_length, List.drop_nil, List.take_nil, List.append_nil, List.length_map, List.length_replicate]; first | done | omega))) ?_
    exact fun w' hw => ⟨x23, by rw [hr]; rfl, St.pureI ⟨hl23, ho23⟩ (by rw [hr]; exact hw.sel (by repeat (first | exact Sel.nil | (apply Sel.cons; · (repeat (first | exact Pick.here | apply Pick.there))))))⟩

end Go.Proofs.YtheonhgffglegaaDoor

/- Walks, by program (wg.py) out of a spec. -/
namespace Go.Proofs.YtheonhgffglegaaDoor
open Go
set_option linter.unusedVariables false
set_option linter.unusedSimpArgs false


def bOf (t : Tr) (d : Dig) : Block := (lkN d t.nodes).getD blk0
theorem TrM.lookB {w : World} {A : Nat → Prop} {q : Nat} {t : Tr} {g : Nat} {ao : Option Addr} {co : Nat} {ac : Option Addr} {cc : Nat} {css : List (List Value)} (h : TrM w A q t g ao co ac cc css) (d : Dig) :
    ∃ cp, (if (true : Bool) then Value.tuple #[(getK d (nodeV t.nodes css)).getD (.agg blkC.toArray), .bool (getK d (nodeV t.nodes css)).isSome] else (getK d (nodeV t.nodes css)).getD (.agg blkC.toArray)) = .tuple #[.agg cp.toArray, .bool (lkN d t.nodes).isSome] ∧ RdBlock w A cp (bOf t d) := by
  cases hl : lkN d t.nodes with
  | none => exact ⟨blkC, by rw [TrM.lookn hl]; rfl, by rw [bOf, hl]; exact rdBlock0⟩
  | some b => obtain ⟨c, h1, h2⟩ := h.look hl; exact ⟨c, by rw [h1]; rfl, by rw [bOf, hl]; exact h2⟩
def hiK (l : List QC) (k : Nat) : QC := (l.take k).foldl gtQ ((l[0]?).getD qc0)
theorem hiK_zero (l : List QC) : hiK l 0 = (l[0]?).getD qc0 := rfl
theorem hiK_succ {l : List QC} {k : Nat} {x : QC} (h : l[k]? = some x) : hiK l (k + 1) = gtQ (hiK l k) x := by rw [hiK, takeB_snoc h, List.foldl_append]; rfl
theorem hiK_all (l : List QC) : hiK l l.length = highQ l := by cases l <;> simp [hiK, highQ]
theorem hiK_mem {l : List QC} (h : 0 < l.length) : ∀ k, k ≤ l.length → hiK l k ∈ l
  | 0, _ => by rw [hiK_zero, List.getElem?_eq_getElem h]; exact List.getElem_mem h
  | k + 1, hk => by
    have h1 : l[k]? = some (l[k]'(by omega)) := List.getElem?_eq_getElem (by omega)
    rw [hiK_succ h1]
    unfold gtQ
    split
    · exact List.getElem_mem _
    · exact hiK_mem h k (by omega)
def upE (_ : Nat) (x : Dig × List Value) : Array Value := #[.agg (dc x.1).toArray, .agg x.2.toArray]
def upP (t : Tr) (d : Dig) (i : Nat) (x : Dig × List Value) : Prop := (x.2.length = 39 ∧ ∀ v ∈ x.2, v.oneCell' = true) ∧ ∃ b, (upL t d)[i]? = some (x.1, b) ∧ x.2[1]? = some (.int .i64 b.round)
def upG (t : Tr) (d : Dig) (i : Nat) (x : Dig × List Value) : List Res := [pureR (upP t d i x)]
theorem rd_round {w : World} {A : Nat → Prop} {c : List Value} {b : Block} (h : RdBlock w A c b) : c[1]? = some (.int .i64 b.round) := by obtain ⟨q, a1, n1, c1, a2, n2, c2, rfl, _⟩ := h; rfl
/-- A list turned around from its ends on. -/
def rvF (l : List Dig) (k i : Nat) : Dig := if i < k ∨ l.length - k ≤ i then l.getD (l.length - 1 - i) dig0 else l.getD i dig0
def revK (l : List Dig) (k : Nat) : List Dig := (List.range l.length).map (rvF l k)
theorem revK_len (l : List Dig) (k : Nat) : (revK l k).length = l.length := by simp [revK]
theorem revK_zero (l : List Dig) : revK l 0 = l := by
  apply List.ext_getElem (revK_len l 0)
  intro i h1 h2
  simp only [revK, List.getElem_map, List.getElem_range, rvF]
  rw [if_neg (by omega)]; simp [List.getD, h2]
theorem revK_at {l : List Dig} {k i : Nat} (h : i < l.length) : ((revK l k).map dc)[i]? = some (dc (rvF l k i)) := by simp [revK, h]
theorem revK_step {l : List Dig} {k : Nat} (h : 2 * k + 1 < l.length) : (((revK l k).map dc).set k (dc (rvF l k (l.length - 1 - k)))).set (l.length - 1 - k) (dc (rvF l k k)) = (revK l (k + 1)).map dc := by
  apply List.ext_getElem (by simp [revK_len])
  intro i h1 h2
  simp only [List.length_map, revK_len] at h2
  simp only [List.getElem_set, revK, List.getElem_map, List.getElem_range]
  split
  · rename_i e; subst e
    congr 1
    unfold rvF
    rw [if_neg (by omega), if_pos (by omega)]; congr 1; omega
  · split
    · rename_i e; subst e
      congr 1
      unfold rvF
      rw [if_neg (by omega), if_pos (by omega)]
    · congr 1
      unfold rvF
      by_cases hc : i < k ∨ l.length - k ≤ i
      · rw [if_pos hc, if_pos (by omega)]
      · rw [if_neg hc, if_neg (by omega)]
theorem revK_end {l : List Dig} {k : Nat} (h : l.length ≤ 2 * k + 1) (h2 : 2 * k ≤ l.length) : revK l k = l.reverse := by
  apply List.ext_getElem (by simp [revK_len])
  intro i h1 h3
  simp only [List.length_reverse] at h3
  simp only [revK, List.getElem_map, List.getElem_range, List.getElem_reverse, rvF]
  by_cases hc : i < k ∨ l.length - k ≤ i
  · rw [if_pos hc]; simp [List.getD, show l.length - 1 - i < l.length by omega]
  · rw [if_neg hc]
    have : l.length - 1 - i = i := by omega
    simp [List.getD, h3, this]

attribute [local irreducible] Gl Gc Gx Gs Runs Wt

attribute [local irreducible] dc qcC blkC

set_option maxHeartbeats 400000 in
theorem thigh_ok {w : World} {F : Nat → Prop} {q : Nat} {t : Tr} (hx : RdTree w (fun k => ¬ F k) q t) (hok : TOk t) (h : stars [] w F) :
    Calls Tryd.prog 14 #[.pointer (some ⟨q, 0, none⟩)] w (Post w F (fun x : List Value => .agg x.toArray) (fun x => [pureR (x.length = 19 ∧ ∀ v ∈ x, v.oneCell' = true), VlR RdQC x (highQ t.certs)])) := by
  obtain ⟨g, ao, co, ac, cc, css, hT⟩ := hx
  obtain ⟨hqA, hrt, h16, h17, h18⟩ := hT.cells
  have hle := hok.le
  have hcl := hok.cl
  have hce := hok.ce
  obtain ⟨ga, oa, ce0, r0, ha, hA, _, hra0, hl0, hr0, hrd0⟩ := hT.cer.elem (i := 0) (by decide) hok.ce
  subst ha
  have il0 := Len.of hl0
  have jl0 := One.of hrd0.one
  have hrd0' : RdQC w (fun k => ¬ F k) ce0 (hiK t.certs 0) := by rw [hiK_zero, hr0]; exact hrd0
  refine g_enter (env := [(0, .pointer (some ⟨q, 0, none⟩))]) Tryd.func14 rfl h Tryd.ntmps14 rfl rfl ?_
  refine gsr ?_
  refine zal fun b2 => ?_
  refine gl_eqc (cs' := qcC) (by repeat (first | exact Pick.here | apply Pick.there)) (by kernel_rfl) ?_
  refine gnt ?_
  refine gsr ?_
  refine gp zmv ?_
  refine gp znc ?_
  refine gp zfa ?_
  refine gp (r_ld1o rfl Ty.row_59 h18 hqA) ?_
  refine gp (r_val (v' := .pointer (some ⟨ga, oa + 0 * 19, none⟩)) zia (by simp)) ?_
  refine gp (r_ldNo (seg := ce0) rfl Ty.row_29 Ty.sz_29 hra0 hl0 (by decide) hA) ?_
  refine zal fun b3 => ?_
  refine gl_eqc (cs' := qcC) (by repeat (first | exact Pick.here | apply Pick.there)) (by kernel_rfl) ?_
  refine zsN ?_
  refine gnt ?_
  refine gc_seq ?_
  refine gsr ?_
  refine gp zmv ?_
  refine gp znc ?_
  refine gp zfa ?_
  refine gp (r_ld1o rfl Ty.row_59 h18 hqA) ?_
  refine gp zln ?_
  refine gp zmv ?_
  refine gnt ?_
  refine gc_block ?_
  refine gc_loop (α := Nat × List Value) (fun y => [pureR (y.1 ≤ t.certs.length ∧ RdQC w (fun k => ¬ F k) y.2 (hiK t.certs y.1)), blk b2 29 qcC, blk b3 29 y.2]) (fun y => [(17, .int .i64 (y.1 : Int))]) [5, 18, 19, 20, 21, 22, 23, 24, 25, 26, 27] (fun y => t.certs.length - y.1) (0, ce0) ?_ ?_ ?_
  · refine env_start (by kernel_rfl)
  · exact zlp ⟨Nat.zero_le _, hrd0'⟩
  · intro y u
    obtain ⟨k, hc⟩ := y
    refine gc_pureR (fun hk => ?_)
    obtain ⟨hk, hrh⟩ := hk
    replace hk : k ≤ t.certs.length := hk
    replace hrh : RdQC w (fun k => ¬ F k) hc (hiK t.certs k) := hrh
    have hrh' := hrh
    obtain ⟨avh, nvh, kvh, rfl, _, _⟩ := hrh'
    refine gsr ?_
    refine gp zlt ?_
    refine gnt ?_
    refine gc_seq ?_
    refine gif rfl (fun hc18 => ?_) (fun hc18 => ?_)
    · try simp only at hc18
      have hk' : k < t.certs.length := by omega
      obtain ⟨ga', oa', ce, r, ha, hA', _, hra, hl19, hr, hrd⟩ := hT.cer.elem (i := k) (by decide) hk'
      obtain ⟨rfl, rfl⟩ : ga = ga' ∧ oa = oa' := by injection ha with ha; injection ha with h1 h2; exact ⟨h1, h2⟩
      have hrd' := hrd
      obtain ⟨av, nv, kv, rfl, _, _⟩ := hrd'
      refine gc_skip ?_
      refine gx_then ?_
      refine gc_seq ?_
      refine gc_block ?_
      refine gsr ?_
      refine gp (r_val (v' := .pointer (some ⟨ga, oa + k * 19, none⟩)) zia (by simp)) ?_
      refine gp (r_ldNo rfl Ty.row_29 Ty.sz_29 hra hl19 (by decide) hA) ?_
      refine zal fun b5 => ?_
      refine gl_eqc (cs' := qcC) (by repeat (first | exact Pick.here | apply Pick.there)) (by kernel_rfl) ?_
      refine zsN ?_
      refine gnt ?_
      refine gsr ?_
      refine gp zfa ?_
      refine gp zl ?_
      refine gp zfa ?_
      refine gp zl ?_
      refine gp zgt ?_
      refine gnt ?_
      refine gif rfl (fun hc25 => ?_) (fun hc25 => ?_)
      · try simp only at hc25
        have hgt : (hiK t.certs k).round < r.round := by simpa using hc25
        refine gc_region ?_
        refine gp zL ?_
        refine zsN ?_
        refine gl_nil ?_
        refine gx_block_normal ?_
        refine gx_then ?_
        refine gc_region ?_
        refine gp zad ?_
        refine gp zmv ?_
        refine gl_nil ?_
        refine zrd ((k + 1, .int .i64 r.epoch :: .int .i64 r.round :: (dc r.block ++ [.slice av nv kv]))) ?_ ?_
        · show t.certs.length - (k + 1) < t.certs.length - k
          omega
        · exact zlp (show k + 1 ≤ t.certs.length ∧ RdQC w (fun k => ¬ F k) _ (hiK t.certs (k + 1)) from ⟨by omega, by rw [hiK_succ hr, gtQ, if_pos hgt]; exact hrd⟩)
      · try simp only at hc25
        have hgt : ¬ (hiK t.certs k).round < r.round := by simpa using hc25
        refine gc_skip ?_
        refine gx_block_normal ?_
        refine gx_then ?_
        refine gc_region ?_
        refine gp zad ?_
        refine gp zmv ?_
        refine gl_nil ?_
        refine zrd ((k + 1, .int .i64 (hiK t.certs k).epoch :: .int .i64 (hiK t.certs k).round :: (dc (hiK t.certs k).block ++ [.slice avh nvh kvh]))) ?_ ?_
        · show t.certs.length - (k + 1) < t.certs.length - k
          omega
        · exact zlp (show k + 1 ≤ t.certs.length ∧ RdQC w (fun k => ¬ F k) _ (hiK t.certs (k + 1)) from ⟨by omega, by rw [hiK_succ hr, gtQ, if_neg hgt]; exact hrh⟩)
    · try simp only at hc18
      have hk' : k = t.certs.length := by omega
      subst hk'
      have hhq := hiK_all t.certs
      refine gc_exit ?_
      refine gx_then_exit ?_
      refine gx_round_exit ?_
      refine gx_block_hit ?_
      refine gx_then ?_
      refine gsr ?_
      refine gp zL ?_
      refine zc (fun x29 => ?_) (c := fun w1 F1 F2 h1 h2 hd hst => copiedQC_ok h1 (hrh.mv hst.still) (hok.sq _ (hiK_mem hok.ce _ (Nat.le_refl _))))
      refine gl_pureR (fun hx29 => ?_)
      obtain ⟨hl29, ho29⟩ := hx29
      replace hl29 : x29.length = 19 := hl29
      have i29 := Len.of hl29
      have j29 := One.of (show ∀ v ∈ x29, v.oneCell' = true from ho29)
      refine zsN ?_
      refine gnt ?_
      refine gc_ret ?_
      refine gx_retc rfl rfl (ld_aggS Ty.row_29 Ty.sz_29 (by repeat (first | exact Pick.here | apply Pick.there)) (by (simp only [List.drop_succ_cons, List.drop_zero, List.take_succ_cons, List.take_zero, List.cons_append, List.nil_append, List.append_assoc, drop_dc, drop_dc', take_dc, take_dc', drop_L, drop_L', take_L, take_L', len_L, Nat.reduceLeDiff, Nat.reduceSub, Nat.reduceAdd, Nat.le_refl, List.length_cons, List.length_append, List.length_nil, dc_length, List.drop_nil, List.take_nil, List.append_nil, List.length_map, List.length_replicate]; first | done | rfl)) (by first | rfl | (simp only [List.drop_succ_cons, List.drop_zero, List.take_succ_cons, List.take_zero, List.cons_append, List.nil_append, List.append_assoc, drop_dc, drop_dc', take_dc, take_dc', drop_L, drop_L', take_L, take_L', len_L, Nat.reduceLeDiff, Nat.reduceSub, Nat.reduceAdd, Nat.le_refl, List.length_cons, List.length_append, List.length_nil, dc_length, List.drop_nil, List.take_nil, List.append_nil, List.length_map, List.length_replicate]; first | done | omega))) ?_
      rw [hhq]
      exact fun w' hw => ⟨x29, rfl, St.pureI ⟨hl29, ho29⟩ (hw.sel (by repeat (first | exact Sel.nil | (apply Sel.cons; · (repeat (first | exact Pick.here | apply Pick.there))))))⟩

set_option maxHeartbeats 400000 in
theorem tup_ok {w : World} {F : Nat → Prop} {q : Nat} {d : Dig} (h : stars [] w F) :
    Calls Tryd.prog 22 #[.pointer (some ⟨q, 0, none⟩), .agg (dc d).toArray] w (Post w F (fun b : Nat × Nat => .func (.func 40) #[] #[.pointer (some ⟨b.1, 0, none⟩), .pointer (some ⟨b.2, 0, none⟩)]) (fun b => [blk b.1 24 [.pointer (some ⟨q, 0, none⟩)], blk b.2 26 (dc d)])) := by
  refine g_enter (env := [(0, .pointer (some ⟨q, 0, none⟩)), (1, .agg (dc d).toArray)]) Tryd.func22 rfl h Tryd.ntmps22 rfl rfl ?_
  refine gsr ?_
  refine zb1 fun b2 => ?_
  refine zbN fun b3 => ?_
  refine gp zas ?_
  refine gnt ?_
  refine gsr ?_
  refine gp zmf ?_
  refine gp zas ?_
  refine gnt ?_
  refine gc_ret ?_
  refine gx_ret1 rfl (by conv => lhs; whnf) ?_
  exact ze (b2, b3)

set_option maxHeartbeats 400000 in
theorem reverse_ok {w : World} {F : Nat → Prop} {a : Option Addr} {m c : Nat} {l : List Dig} (h : stars [rowR 26 16 a m c (l.map dc).flatten] w F) (hm : m = l.length) (hb : m ≤ 1099511627776) :
    Calls Tryd.prog 41 #[.slice a m c] w (Post w F (fun _ : Unit => .tuple #[]) (fun _ => [rowR 26 16 a m c (l.reverse.map dc).flatten])) := by
  subst hm
  refine g_enter (env := [(0, .slice a l.length c)]) Tryd.func41 rfl h Tryd.ntmps41 rfl rfl ?_
  refine gsr ?_
  refine gp zmv ?_
  refine gp zln ?_
  refine gp (r_int (j := (l.length : Int) - 1 - (0 : Nat)) zsb (by omega)) ?_
  refine gp zas ?_
  refine gp zas ?_
  refine gnt ?_
  refine gc_block ?_
  refine gc_conv (M := [rowR 26 16 a l.length c (l.map dc).flatten]) (N := [rowR 26 16 a l.length c ((revK l 0).map dc).flatten]) (by repeat (first | exact Sel.nil | (apply Sel.cons; · (repeat (first | exact Pick.here | apply Pick.there))))) (fun _ _ h => by rw [revK_zero]; exact h) ?_
  refine gc_loop (α := Nat) (fun k => [pureR (2 * k ≤ l.length), rowR 26 16 a l.length c ((revK l k).map dc).flatten]) (fun k => [(2, .int .i64 (k : Int)), (3, .int .i64 ((l.length : Int) - 1 - k))]) [7, 8, 9, 10, 11, 12, 13, 14, 15, 16, 17, 18, 19, 20, 21, 22, 23, 24, 25, 26, 27] (fun k => l.length - k) 0 ?_ ?_ ?_
  · refine env_start (by kernel_rfl)
  · exact zlp (by omega)
  · intro k u
    refine gc_pureR (fun hk => ?_)
    replace hk : 2 * k ≤ l.length := hk
    refine gc_seq ?_
    refine gsr ?_
    refine gp zmv ?_
    refine gp zmv ?_
    refine gp zlt ?_
    refine gnt ?_
    refine gif rfl (fun hc9 => ?_) (fun hc9 => ?_)
    · try simp only at hc9
      have hk' : 2 * k + 1 < l.length := by omega
      have hnn : ((l.length : Int) - 1 - k) = ((l.length - 1 - k : Nat) : Int) := by omega
      refine gc_fact (fun w' hw => St.rowAt hw .here (by omega)) (fun hra => ?_)
      obtain ⟨hmc, ga, oa, ha⟩ := hra
      subst ha
      have hd16 : ∀ c ∈ (revK l k).map dc, List.length c = 16 := fun c hc => by obtain ⟨x, _, rfl⟩ := List.mem_map.1 hc; exact dc_length x
      have hlr := revK_len l k
      refine gc_skip ?_
      refine gx_then ?_
      refine gc_seq ?_
      refine gc_block ?_
      refine gc_regionZ 15 [] ?_
      refine yps 0 rfl zmv ?_
      refine yps 1 rfl zmv ?_
      refine yps 2 rfl zmv ?_
      refine yps 3 rfl zmv ?_
      refine yps 4 rfl zmv ?_
      refine yps 5 rfl zmv ?_
      refine yps 6 rfl (r_val (v' := .pointer (some ⟨ga, oa + (l.length - 1 - k) * 16, none⟩)) (zia (h0 := by omega) (hm := by omega)) (by rw [hnn]; simp)) ?_
      refine yps 8 rfl zmv ?_
      refine yps 9 rfl zmv ?_
      refine yps 10 rfl (r_val (v' := .pointer (some ⟨ga, oa + k * 16, none⟩)) zia (by simp)) ?_
      refine yo2s 7 11 rfl rfl ?_ ?_
      · refine gp (r_ldRow (i := l.length - 1 - k) rfl Ty.row_26 Ty.sz_26 (by repeat (first | exact Pick.here | apply Pick.there)) hd16 (revK_at (by omega)) (by omega)) ?_
        refine yxs ?_
        refine yos 11 rfl ?_
        refine gp (r_ldRow (i := k) rfl Ty.row_26 Ty.sz_26 (by repeat (first | exact Pick.here | apply Pick.there)) hd16 (revK_at (by omega)) (by omega)) ?_
        refine yxs ?_
        refine yps 12 rfl (r_val (v' := .pointer (some ⟨ga, oa + k * 16, none⟩)) zia (by simp)) ?_
        refine yos 13 rfl ?_
        refine gl_stRow (i := k) (css := (revK l k).map dc) (new := dc (rvF l k (l.length - 1 - k))) (wt0 rfl) rfl rfl rfl Ty.sz_26 (dc_length _) (dc_one _) hd16 (by simp; omega) (by repeat (first | exact Pick.here | apply Pick.there)) ?_
        refine yxs ?_
        refine yps 14 rfl (r_val (v' := .pointer (some ⟨ga, oa + (l.length - 1 - k) * 16, none⟩)) (zia (h0 := by omega) (hm := by omega)) (by rw [hnn]; simp)) ?_
        refine yzs rfl ?_
        refine gl_stRow (i := l.length - 1 - k) (css := ((revK l k).map dc).set k (dc (rvF l k (l.length - 1 - k)))) (new := dc (rvF l k k)) (wt0 rfl) rfl rfl rfl Ty.sz_26 (dc_length _) (dc_one _) (fun c hc => (List.mem_or_eq_of_mem_set hc).elim (hd16 c) (fun h => by subst h; exact dc_length _)) (by simp; omega) (by repeat (first | exact Pick.here | apply Pick.there)) ?_
        refine gl_nil ?_
        refine gx_block_normal ?_
        refine gx_then ?_
        refine gc_region ?_
        refine gp zmv ?_
        refine gp (r_int (j := ((k + 1 : Nat) : Int)) zad (by omega)) ?_
        refine gp zmv ?_
        refine gp (r_int (j := (l.length : Int) - 1 - ((k + 1 : Nat) : Int)) zsb (by omega)) ?_
        refine gp zas ?_
        refine gp zas ?_
        refine gl_nil ?_
        refine zrd (k + 1) ?_ ?_
        · show l.length - (k + 1) < l.length - k
          omega
        · rw [revK_step hk']
          exact zlp (show 2 * (k + 1) ≤ l.length by omega)
      · refine gp (r_ldRow (i := k) rfl Ty.row_26 Ty.sz_26 (by repeat (first | exact Pick.here | apply Pick.there)) hd16 (revK_at (by omega)) (by omega)) ?_
        refine yxs ?_
        refine yos 7 rfl ?_
        refine gp (r_ldRow (i := l.length - 1 - k) rfl Ty.row_26 Ty.sz_26 (by repeat (first | exact Pick.here | apply Pick.there)) hd16 (revK_at (by omega)) (by omega)) ?_
        refine yxs ?_
        refine yps 12 rfl (r_val (v' := .pointer (some ⟨ga, oa + k * 16, none⟩)) zia (by simp)) ?_
        refine yos 13 rfl ?_
        refine gl_stRow (i := k) (css := (revK l k).map dc) (new := dc (rvF l k (l.length - 1 - k))) (wt0 rfl) rfl rfl rfl Ty.sz_26 (dc_length _) (dc_one _) hd16 (by simp; omega) (by repeat (first | exact Pick.here | apply Pick.there)) ?_
        refine yxs ?_
        refine yps 14 rfl (r_val (v' := .pointer (some ⟨ga, oa + (l.length - 1 - k) * 16, none⟩)) (zia (h0 := by omega) (hm := by omega)) (by rw [hnn]; simp)) ?_
        refine yzs rfl ?_
        refine gl_stRow (i := l.length - 1 - k) (css := ((revK l k).map dc).set k (dc (rvF l k (l.length - 1 - k)))) (new := dc (rvF l k k)) (wt0 rfl) rfl rfl rfl Ty.sz_26 (dc_length _) (dc_one _) (fun c hc => (List.mem_or_eq_of_mem_set hc).elim (hd16 c) (fun h => by subst h; exact dc_length _)) (by simp; omega) (by repeat (first | exact Pick.here | apply Pick.there)) ?_
        refine gl_nil ?_
        refine gx_block_normal ?_
        refine gx_then ?_
        refine gc_region ?_
        refine gp zmv ?_
        refine gp (r_int (j := ((k + 1 : Nat) : Int)) zad (by omega)) ?_
        refine gp zmv ?_
        refine gp (r_int (j := (l.length : Int) - 1 - ((k + 1 : Nat) : Int)) zsb (by omega)) ?_
        refine gp zas ?_
        refine gp zas ?_
        refine gl_nil ?_
        refine zrd (k + 1) ?_ ?_
        · show l.length - (k + 1) < l.length - k
          omega
        · rw [revK_step hk']
          exact zlp (show 2 * (k + 1) ≤ l.length by omega)
    · try simp only at hc9
      have hk2 : revK l k = l.reverse := revK_end (by omega) (by omega)
      rw [hk2]
      refine gc_exit ?_
      refine gx_then_exit ?_
      refine gx_round_exit ?_
      refine gx_block_hit ?_
      refine gx_ret0' rfl ?_
      exact ze ()

end Go.Proofs.YtheonhgffglegaaDoor

/- Walks, by program (wg.py) out of a spec. -/
namespace Go.Proofs.YtheonhgffglegaaDoor
open Go
set_option linter.unusedVariables false
set_option linter.unusedSimpArgs false

attribute [local irreducible] Gl Gc Gx Gs Runs Wt

attribute [local irreducible] dc qcC blkC

set_option maxHeartbeats 400000 in
theorem up1_ok {w : World} {F : Nat → Prop} {q : Nat} {t : Tr} (hx : RdTree w (fun k => ¬ F k) q t) (hok : TOk t) {d : Dig} {b1 b2 lp : Nat} {J : Nat → Res} {Jx : Res} (h : stars [blk b1 24 [.pointer (some ⟨q, 0, none⟩)], blk b2 26 (dc d), J 0] w F) (hy : RoundsAt Tryd.prog lp upE (upG t d) J Jx w F) :
    Calls Tryd.prog 40 #[.func (.yield lp) #[] #[], .pointer (some ⟨b1, 0, none⟩), .pointer (some ⟨b2, 0, none⟩)] w (Post w F (fun _ : Bool × Dig => .tuple #[]) (fun y => (match allOr (upL t d).length y.1 with | some m => J m | none => Jx) :: [blk b1 24 [.pointer (some ⟨q, 0, none⟩)], blk b2 26 (dc y.2)])) := by
  obtain ⟨g, ao, co, ac, cc, css, hT⟩ := hx
  obtain ⟨hqA, hrt, h16, h17, h18⟩ := hT.cells
  have hle := hok.le
  have hcl := hok.cl
  have hce := hok.ce
  obtain ⟨cp, hgk, hrp⟩ := hT.lookB d
  have icp := Len.of hrp.len
  have jcp := One.of hrp.one
  refine g_enter (env := [(0, .func (.yield lp) #[] #[]), (1, .pointer (some ⟨b1, 0, none⟩)), (2, .pointer (some ⟨b2, 0, none⟩))]) Tryd.func40 rfl h Tryd.ntmps40 rfl rfl ?_
  refine gc_seq ?_
  refine gc_regionZ 11 ([blk b1 24 [.pointer (some ⟨q, 0, none⟩)], blk b2 26 (dc d)]) ?_
  refine yps 0 rfl zl ?_
  refine yps 1 rfl znc ?_
  refine yps 2 rfl zfa ?_
  refine yps 3 rfl (r_ld1o rfl Ty.row_58 h16 hqA) ?_
  refine yps 4 rfl zL ?_
  refine yps 5 rfl (r_val (v' := .tuple #[.agg cp.toArray, .bool (lkN d t.nodes).isSome]) (r_looko (K := digV) (l := nodeV t.nodes css) (key := d) (z := .agg blkC.toArray) rfl rfl Ty.un_58 (by kernel_rfl) hT.mp) hgk) ?_
  refine yps 6 rfl zmv ?_
  refine yps 7 rfl zex ?_
  refine yps 8 rfl zex ?_
  refine yos 9 rfl ?_
  refine zal fun b4 => ?_
  refine gl_eqc (cs' := blkC) (by repeat (first | exact Pick.here | apply Pick.there)) (by kernel_rfl) ?_
  refine yxs ?_
  refine yos 10 rfl ?_
  refine zsA hrp.len hrp.one ?_
  refine yxs ?_
  refine yzs rfl ?_
  refine gp zas ?_
  refine gnt ?_
  refine gc_block ?_
  refine gc_loop (α := Nat × Dig × Nat × List Value) (fun y => [pureR (y.1 ≤ (upL t d).length ∧ (upL t d).drop y.1 = upL t y.2.1 ∧ RdBlock w (fun k => ¬ F k) y.2.2.2 (bOf t y.2.1)), blk b1 24 [.pointer (some ⟨q, 0, none⟩)], blk b2 26 (dc y.2.1), blk y.2.2.1 33 y.2.2.2, J y.1]) (fun y => [(4, .pointer (some ⟨y.2.2.1, 0, none⟩)), (5, .bool (lkN y.2.1 t.nodes).isSome)]) [15, 16, 17, 18, 19, 20, 21, 22, 23, 24, 25, 26, 27, 28, 29, 30, 31, 32, 33, 34, 35, 36, 37, 38, 39, 40] (fun y => (upL t d).length - y.1) (0, d, b4, cp) ?_ ?_ ?_
  · refine env_start (by kernel_rfl)
  · exact zlp ⟨Nat.zero_le _, rfl, hrp⟩
  · intro y u
    obtain ⟨k, e, b4, cq⟩ := y
    refine gc_pureR (fun hk => ?_)
    obtain ⟨hk, hdr, hrq⟩ := hk
    replace hk : k ≤ (upL t d).length := hk
    replace hdr : (upL t d).drop k = upL t e := hdr
    replace hrq : RdBlock w (fun k => ¬ F k) cq (bOf t e) := hrq
    refine gc_seq ?_
    refine gsr ?_
    refine gp zmv ?_
    refine gnt ?_
    refine gif rfl (fun hc15 => ?_) (fun hc15 => ?_)
    · try simp only at hc15
      obtain ⟨p, hp⟩ := Option.isSome_iff_exists.1 hc15
      have hup := upL_step hok hp
      have hbo : bOf t e = p := by rw [bOf, hp]; rfl
      rw [hbo] at hrq
      have hl39 := hrq.len
      have ho39 := hrq.one
      have hrr := rd_round hrq
      obtain ⟨qj, a1, n1, c1, a2, n2, c2, rfl, hj, _⟩ := hrq
      have ij := Len.of hj.len
      have jj := One.of hj.one
      have hkl : k < (upL t d).length := by rcases Nat.lt_or_ge k (upL t d).length with h | h; exact h; (rw [List.drop_eq_nil_of_le h, hup] at hdr; cases hdr)
      have hget : (upL t d)[k]? = some (e, p) := by rw [← List.head?_drop, hdr, hup]; rfl
      have hdr1 : (upL t d).drop (k + 1) = if e = t.root then [] else upL t p.parent := by rw [← List.tail_drop, hdr, hup]; rfl
      refine gc_skip ?_
      refine gx_then ?_
      refine gc_seq ?_
      refine gc_block ?_
      refine gc_seq ?_
      refine gc_seq ?_
      refine gc_regionH ([blk b1 24 [.pointer (some ⟨q, 0, none⟩)], blk b2 26 (dc e), blk b4 33 (.int .i64 p.epoch :: .int .i64 p.round :: (dc p.parent ++ (qj ++ [.slice a1 n1 c1, .slice a2 n2 c2])))]) ?_
      refine yp 0 rfl zmv ?_
      refine yp 1 rfl zL ?_
      refine yp 2 rfl zL ?_
      refine yo 3 rfl ?_
      refine gl_pI (p := upP t d k (e, .int .i64 p.epoch :: .int .i64 p.round :: (dc p.parent ++ (qj ++ [.slice a1 n1 c1, .slice a2 n2 c2])))) ⟨⟨hl39, ho39⟩, p, hget, hrr⟩ ?_
      refine gyd hy k (e, .int .i64 p.epoch :: .int .i64 p.round :: (dc p.parent ++ (qj ++ [.slice a1 n1 c1, .slice a2 n2 c2]))) rfl (by repeat (first | exact Sel.nil | (apply Sel.cons; · (repeat (first | exact Pick.here | apply Pick.there))))) (fun x28 => ?_)
      rcases x28 with _ | _
      · refine yx ?_
        refine yp 4 rfl znt ?_
        refine yp 5 rfl zmv ?_
        refine yn 6 rfl ?_
        refine yn 7 rfl ?_
        refine yn 8 rfl ?_
        refine yn 9 rfl ?_
        refine yn 10 rfl ?_
        refine yn 11 rfl ?_
        refine yp 12 rfl zpk ?_
        refine yd ?_
        refine gx_then ?_
        refine gc_condT rfl rfl ?_
        refine gc_ret ?_
        refine gx_then_ret ?_
        refine gx_block_ret ?_
        refine gx_then_ret ?_
        refine gx_round_ret ?_
        refine gx_block_ret ?_
        refine gx_ret0 rfl ?_
        exact ze (false, e)
      · refine yx ?_
        refine yp 4 rfl znt ?_
        refine yp 5 rfl zmv ?_
        refine yp 6 rfl zL ?_
        refine yp 7 rfl zl ?_
        refine yp 8 rfl znc ?_
        refine yp 9 rfl zfa ?_
        refine yp 10 rfl (r_ldNo rfl Ty.row_26 Ty.sz_26 hrt (dc_length _) (by decide) hqA) ?_
        refine yp 11 rfl zed ?_
        refine yp 12 rfl zpk ?_
        refine yd ?_
        refine gx_then ?_
        refine gif rfl (fun hc37 => ?_) (fun hc37 => ?_)
        · try simp only at hc37
          have hen : e = t.root := by simpa using hc37
          have hkm : k + 1 = (upL t d).length := by rw [if_pos hen] at hdr1; have := List.drop_eq_nil_iff.1 hdr1; omega
          refine gc_ret ?_
          refine gx_then_ret ?_
          refine gx_block_ret ?_
          refine gx_then_ret ?_
          refine gx_round_ret ?_
          refine gx_block_ret ?_
          refine gx_ret0 rfl ?_
          rw [hkm]
          exact ze (true, e)
        · try simp only at hc37
          have hne : ¬ e = t.root := by simpa using hc37
          refine gc_skip ?_
          refine gx_then ?_
          refine gc_region ?_
          refine gp zfa ?_
          refine gp (zL (sg := dc p.parent)) ?_
          refine zsN ?_
          refine gl_nil ?_
          refine gx_block_normal ?_
          refine gx_then ?_
          refine gc_seq ?_
          refine gsr ?_
          refine gp zL ?_
          refine gnt ?_
          refine gc_region ?_
          refine zal fun b6 => ?_
          refine gl_eqc (cs' := blkC) (by repeat (first | exact Pick.here | apply Pick.there)) (by kernel_rfl) ?_
          obtain ⟨cp, hgk, hrp⟩ := hT.lookB p.parent
          have icp := Len.of hrp.len
          have jcp := One.of hrp.one
          refine zsN ?_
          refine gnt ?_
          refine gc_regionZ 10 ([blk b1 24 [.pointer (some ⟨q, 0, none⟩)], blk b2 26 (dc p.parent)]) ?_
          refine yps 0 rfl zl ?_
          refine yps 1 rfl znc ?_
          refine yps 2 rfl zfa ?_
          refine yps 3 rfl (r_ld1o rfl Ty.row_58 h16 hqA) ?_
          refine yps 4 rfl zL ?_
          refine yps 5 rfl (r_val (v' := .tuple #[.agg cp.toArray, .bool (lkN p.parent t.nodes).isSome]) (r_looko (K := digV) (l := nodeV t.nodes css) (key := p.parent) (z := .agg blkC.toArray) rfl rfl Ty.un_58 (by kernel_rfl) hT.mp) hgk) ?_
          refine yps 6 rfl zmv ?_
          refine yps 7 rfl zex ?_
          refine yps 8 rfl zex ?_
          refine yos 9 rfl ?_
          refine zsA hrp.len hrp.one ?_
          refine yxs ?_
          refine yzs rfl ?_
          refine gp zas ?_
          refine gl_nil ?_
          refine zrd ((k + 1, p.parent, b6, cp)) ?_ ?_
          · show (upL t d).length - (k + 1) < (upL t d).length - k
            omega
          · exact zlp (show k + 1 ≤ (upL t d).length ∧ (upL t d).drop (k + 1) = upL t p.parent ∧ RdBlock w (fun k => ¬ F k) cp (bOf t p.parent) from ⟨by omega, by rw [hdr1, if_neg hne], hrp⟩)
    · try simp only at hc15
      have hnl : lkN e t.nodes = none := by simpa using hc15
      have hkl : k = (upL t d).length := by rw [upL_none hnl] at hdr; have := List.drop_eq_nil_iff.1 hdr; omega
      subst hkl
      refine gc_exit ?_
      refine gx_then_exit ?_
      refine gx_round_exit ?_
      refine gx_block_hit ?_
      refine gx_ret0' rfl ?_
      exact ze (true, e)


theorem up1_it {w : World} {F : Nat → Prop} {q : Nat} {t : Tr} (hx : RdTree w (fun k => ¬ F k) q t) (hok : TOk t) {d : Dig} {b1 b2 lp : Nat} {J : Nat → Res} {Jx : Res} (h : stars [blk b1 24 [.pointer (some ⟨q, 0, none⟩)], blk b2 26 (dc d), J 0] w F) :
    IterAt Tryd.prog 40 #[.pointer (some ⟨b1, 0, none⟩), .pointer (some ⟨b2, 0, none⟩)] upE (upG t d) (fun y : Bool × Dig => allOr (upL t d).length y.1) (fun y => [blk b1 24 [.pointer (some ⟨q, 0, none⟩)], blk b2 26 (dc y.2)]) (fun _ : Bool × Dig => .tuple #[]) lp J Jx w F := fun hy => by
  have h2 := up1_ok hx hok h hy
  exact h2

end Go.Proofs.YtheonhgffglegaaDoor

/- Walks, by program (wg.py) out of a spec. -/
namespace Go.Proofs.YtheonhgffglegaaDoor
open Go
set_option linter.unusedVariables false
set_option linter.unusedSimpArgs false


/-- A slice's variable, with what it holds. -/
def slV (b T e : Nat) (l : List Dig) : Res := exR fun x : Option Addr × Nat => allR [blk b T [.slice x.1 l.length x.2], rowR e 16 x.1 l.length x.2 (l.map dc).flatten]
section
variable {w0 w : World} {F F0 : Nat → Prop} {L L' : List Res} {Q : Exit → Act → World → Prop} {n : Fm} {env : Env} {ops : Array Oper} {rest : List Oper} {b T e : Nat} {l : List Dig}
theorem slV_open (h : stars (slV b T e l :: L) w F) : ∃ a c, stars (blk b T [.slice a l.length c] :: rowR e 16 a l.length c (l.map dc).flatten :: L) w F := by
  obtain ⟨⟨a, c⟩, h⟩ := stars_ex h; exact ⟨a, c, stars_all h⟩
theorem St.slV {a : Option Addr} {c m : Nat} {xs : List Value} (h : St w0 F0 (blk b T [.slice a m c] :: rowR e 16 a m c xs :: L) w) (hm : m = l.length) (hx : xs = (l.map dc).flatten) : St w0 F0 (slV b T e l :: L) w := by
  subst hm; subst hx
  exact h.mapL fun F hF => stars_ex_mk (a, c) (stars_all_mk hF)
theorem gc_slV {c : Code} (hp : Pick L (slV b T e l) L') (k : ∀ a m, Gc Tryd.prog w0 F0 (blk b T [.slice a l.length m] :: rowR e 16 a l.length m (l.map dc).flatten :: L') c Q n env) : Gc Tryd.prog w0 F0 L c Q n env := fun w hw => by
  obtain ⟨F, hF, hst⟩ := hw.pick hp
  obtain ⟨a, m, h⟩ := slV_open hF
  exact k a m w ⟨F, h, hst⟩
theorem gl_slV (hp : Pick L (slV b T e l) L') (k : ∀ a m, Gl Tryd.prog w0 F0 (blk b T [.slice a l.length m] :: rowR e 16 a l.length m (l.map dc).flatten :: L') ops Q rest n env) : Gl Tryd.prog w0 F0 L ops Q rest n env := fun w hw => by
  obtain ⟨F, hF, hst⟩ := hw.pick hp
  obtain ⟨a, m, h⟩ := slV_open hF
  exact k a m w ⟨F, h, hst⟩
end
def plK (t : Tr) (d : Dig) (i : Nat) : List Dig := (((upL t d).take i).map (fun p => p.1)).filter (fun i => decide (i ≠ t.root))
theorem plK_succ {t : Tr} {d e : Dig} {b : Block} {i : Nat} (h : (upL t d)[i]? = some (e, b)) : plK t d (i + 1) = if e = t.root then plK t d i else plK t d i ++ [e] := by
  unfold plK; rw [takeB_snoc h]; split <;> simp_all
theorem plK_all (t : Tr) (d : Dig) : (plK t d (upL t d).length).reverse = pathL t d := by unfold plK pathL; rw [List.take_length]
theorem plK_len (t : Tr) (d : Dig) (i : Nat) : (plK t d i).length ≤ t.nodes.length := by
  unfold plK
  have h1 := List.length_filter_le (fun i => decide (i ≠ t.root)) (((upL t d).take i).map (fun p => p.1))
  have h2 := upL_len t d
  simp only [List.length_map, List.length_take] at h1
  omega
theorem pathL_none {t : Tr} {d : Dig} (h : lkN d t.nodes = none) : pathL t d = [] := by unfold pathL; rw [upL_none h]; rfl
def lastK (t : Tr) (d : Dig) (i : Nat) : Dig := match i with
  | 0 => dig0
  | i + 1 => (((upL t d)[i]?).map (fun p => p.1)).getD dig0
theorem lastK_zero (t : Tr) (d : Dig) : lastK t d 0 = dig0 := rfl
theorem lastK_at {t : Tr} {d e : Dig} {b : Block} {i : Nat} (h : (upL t d)[i]? = some (e, b)) : lastK t d (i + 1) = e := by show (((upL t d)[i]?).map (fun p => p.1)).getD dig0 = e; rw [h]; rfl
def okR (t : Tr) (q : QC) (i : Nat) : Prop := ∀ j x, j < i → (upL t q.block)[j]? = some x → x.2.round = q.round - j
theorem okR_succ {t : Tr} {q : QC} {i : Nat} {x : Dig × Block} (h : okR t q i) (hx : (upL t q.block)[i]? = some x) (e : x.2.round = q.round - i) : okR t q (i + 1) := fun j y hj hy => by
  by_cases hji : j < i
  · exact h j y hji hy
  · obtain rfl : j = i := by omega
    rw [hx] at hy; cases hy; exact e
theorem ripe_short {t : Tr} {q : QC} {p : Block} (hp : lkN q.block t.nodes = some p) (h : (upL t q.block).length < 3) : ripeL t q = [] := by
  unfold ripeL; rw [hp]; simp only; split
  · generalize upL t q.block = u at h
    match u with
    | [] => rfl
    | [_] => rfl
    | [_, _] => rfl
    | _ :: _ :: _ :: _ => simp at h; omega
  · rfl
theorem ripe_bad {t : Tr} {q : QC} {p : Block} {i : Nat} {x : Dig × Block} (hp : lkN q.block t.nodes = some p) (hi : i < 3) (hx : (upL t q.block)[i]? = some x) (e : ¬ x.2.round = q.round - i) : ripeL t q = [] := by
  unfold ripeL; rw [hp]; simp only; split
  · generalize upL t q.block = u at hx
    match u with
    | [] => rfl
    | [_] => rfl
    | [_, _] => rfl
    | x0 :: x1 :: x2 :: _ =>
      simp only
      rw [if_neg]
      rintro ⟨e0, e1, e2, _⟩
      match i with
      | 0 => simp at hx; subst hx; exact e (by simpa using e0)
      | 1 => simp at hx; subst hx; exact e (by simpa using e1)
      | 2 => simp at hx; subst hx; exact e (by simpa using e2)
      | i + 3 => omega
  · rfl
theorem ripe_three {t : Tr} {q : QC} {p : Block} {z : Dig × Block} (hp : lkN q.block t.nodes = some p) (hf : fitsQ q q.block p = true) (h : okR t q 3) (hz : (upL t q.block)[2]? = some z) : ripeL t q = if z.1 = t.root then [] else pathL t z.1 := by
  unfold okR at h
  unfold ripeL; rw [hp]; simp only; rw [if_pos hf]
  generalize upL t q.block = u at h hz
  match u with
  | [] => simp at hz
  | [_] => simp at hz
  | [_, _] => simp at hz
  | x0 :: x1 :: x2 :: _ =>
    have e0 := h 0 x0 (by omega) rfl
    have e1 := h 1 x1 (by omega) rfl
    have e2 := h 2 x2 (by omega) rfl
    simp at hz; subst hz
    simp only
    split
    · rename_i hh; rw [if_neg hh.2.2.2]
    · rename_i hh
      rw [if_pos (Classical.byContradiction fun hn => hh ⟨by simpa using e0, by simpa using e1, by simpa using e2, hn⟩)]
theorem ripe_none {t : Tr} {q : QC} (h : (lkN q.block t.nodes).isSome = false) : ripeL t q = [] := by
  have : lkN q.block t.nodes = none := by simpa using h
  unfold ripeL; rw [this]
theorem ripe_unfit {t : Tr} {q : QC} {p : Block} (hp : lkN q.block t.nodes = some p) (hf : ¬ fitsQ q q.block p = true) : ripeL t q = [] := by
  unfold ripeL; rw [hp]; simp only; rw [if_neg hf]


theorem stars_slV0 {b T e : Nat} {L : List Res} {w : World} {F : Nat → Prop} (h : stars (blk b T [.slice none 0 0] :: L) w F) : stars (slV b T e [] :: L) w F := by
  have h2 := stars_swap (stars_row_nil (e := e) (size := 16) h)
  exact stars_ex_mk (none, 0) (stars_all_mk h2)

attribute [local irreducible] Gl Gc Gx Gs Runs Wt

attribute [local irreducible] dc qcC blkC

set_option maxHeartbeats 400000 in
theorem tpath_ok {w : World} {F : Nat → Prop} {q : Nat} {t : Tr} (hx : RdTree w (fun k => ¬ F k) q t) (hok : TOk t) {d : Dig} (h : stars [] w F) :
    Calls Tryd.prog 23 #[.pointer (some ⟨q, 0, none⟩), .agg (dc d).toArray] w (Post w F (fun r : Option Addr × Nat => .tuple #[.slice r.1 (pathL t d).length r.2, .bool (lkN d t.nodes).isSome]) (fun r => [rowR 26 16 r.1 (pathL t d).length r.2 ((pathL t d).map dc).flatten])) := by
  obtain ⟨g, ao, co, ac, cc, css, hT⟩ := hx
  obtain ⟨hqA, hrt, h16, h17, h18⟩ := hT.cells
  have hle := hok.le
  have hcl := hok.cl
  have hce := hok.ce
  obtain ⟨cp, hgk, hrp⟩ := hT.lookB d
  have icp := Len.of hrp.len
  have jcp := One.of hrp.one
  refine g_enterM (env := [(0, .pointer (some ⟨q, 0, none⟩)), (1, .agg (dc d).toArray)]) Tryd.func23 rfl h Tryd.ntmps23 rfl rfl ?_
  refine gsr ?_
  refine zb1 fun b2 => ?_
  refine zbN fun b3 => ?_
  refine gp zas ?_
  refine gp zas ?_
  refine gnt ?_
  refine gc_seq ?_
  refine gc_seq ?_
  refine gc_regionZ 11 ([blk b2 24 [.pointer (some ⟨q, 0, none⟩)], blk b3 26 (dc d)]) ?_
  refine yps 0 rfl zl ?_
  refine yps 1 rfl znc ?_
  refine yps 2 rfl zfa ?_
  refine yps 3 rfl (r_ld1o rfl Ty.row_58 h16 hqA) ?_
  refine yps 4 rfl zL ?_
  refine yps 5 rfl (r_val (v' := .tuple #[.agg cp.toArray, .bool (lkN d t.nodes).isSome]) (r_looko (K := digV) (l := nodeV t.nodes css) (key := d) (z := .agg blkC.toArray) rfl rfl Ty.un_58 (by kernel_rfl) hT.mp) hgk) ?_
  refine yps 6 rfl zmv ?_
  refine yps 7 rfl zex ?_
  refine yps 8 rfl zex ?_
  refine yos 9 rfl ?_
  refine zal fun b6 => ?_
  refine gl_eqc (cs' := blkC) (by repeat (first | exact Pick.here | apply Pick.there)) (by kernel_rfl) ?_
  refine yxs ?_
  refine yos 10 rfl ?_
  refine zsA hrp.len hrp.one ?_
  refine yxs ?_
  refine yzs rfl ?_
  refine gp zas ?_
  refine gnt ?_
  refine gsr ?_
  refine gp zmv ?_
  refine gp znt ?_
  refine gnt ?_
  refine gif rfl (fun hc20 => ?_) (fun hc20 => ?_)
  · try simp only at hc20
    have hnl : lkN d t.nodes = none := by simpa using hc20
    have hpl := pathL_none hnl
    refine gsr ?_
    refine gp zas ?_
    refine gp zas ?_
    refine gnt ?_
    refine gc_ret ?_
    refine gx_then_ret ?_
    refine gx_mark0 ?_
    refine gx_ret2 rfl (by conv => lhs; whnf) (by conv => lhs; whnf) ?_
    exact fun w' hw => ⟨(none, 0), by rw [hpl, hnl]; rfl, by rw [hpl]; exact hw.rowNil.sel (by repeat (first | exact Sel.nil | (apply Sel.cons; · (repeat (first | exact Pick.here | apply Pick.there)))))⟩
  · try simp only at hc20
    have hsm : (lkN d t.nodes).isSome = true := by simpa using hc20
    refine gc_skip ?_
    refine gx_then ?_
    refine gsr ?_
    refine zal fun b8 => ?_
    refine gnt ?_
    refine gc_seq ?_
    refine gsr ?_
    refine gp zl ?_
    refine gp zL ?_
    refine zc ?_ (c := fun w1 F1 F2 h1 h2 hd hst => tup_ok (d := d) h1)
    rintro ⟨bx, by_⟩
    refine gnt ?_
    refine gc_block ?_
    have hT' : ∀ {w1 : World} {A1 : Nat → Prop}, Still w (fun k => ¬ F k) w1 A1 → RdTree w1 A1 q t := fun hs => ⟨g, ao, co, ac, cc, css, hT.mv hs⟩
    refine gc_conv (M := [blk b8 36 [.slice none 0 0]]) (N := [slV b8 36 26 (plK t d 0)]) (by repeat (first | exact Sel.nil | (apply Sel.cons; · (repeat (first | exact Pick.here | apply Pick.there))))) (fun w' F' h' => stars_slV0 h') ?_
    refine gc_range (own := [blk bx 24 [.pointer (some ⟨q, 0, none⟩)], blk by_ 26 (dc d)]) (fun i => [slV b8 36 26 (plK t d i), blk b2 24 [.pointer (some ⟨q, 0, none⟩)]]) (fun _ _ => [pureR False]) (by exact rfl) Ty.call_40 (by repeat (first | exact Sel.nil | (apply Sel.cons; · (repeat (first | exact Pick.here | apply Pick.there))))) (by intros; rfl) (fun lp J Jx w1 F1 F2 h1 h2 hd hst => up1_it (hT' (hst.still)) hok h1) ?_ ?_ ?_
    · intro lp rc rc' i x w1 F1 F2 h1 h2 hd hst
      try dsimp only [List.cons_append, List.nil_append, zipE]
      have hT := hT.mv hst.still
      obtain ⟨hqA, hrt, h16, h17, h18⟩ := hT.cells
      obtain ⟨e, cq⟩ := x
      refine gc_pure1 (p := upP t d i (e, cq)) (by repeat (first | exact Pick.here | apply Pick.there)) (fun hi => ?_)
      obtain ⟨⟨hl39, ho39⟩, pb, hget, hrr⟩ := hi
      replace hl39 : cq.length = 39 := hl39
      have i39 := Len.of hl39
      have j39 := One.of (show ∀ v ∈ cq, v.oneCell' = true from ho39)
      refine gc_slV (by repeat (first | exact Pick.here | apply Pick.there)) (fun a m => ?_)
      have hpll := plK_len t d i
      refine gc_region ?_
      refine zal fun b9 => ?_
      refine zsN ?_
      refine gl_nil ?_
      refine gx_lp (by repeat (first | exact Pick.here | apply Pick.there)) ?_
      refine gx_begin ?_
      refine gc_block ?_
      refine gc_seq ?_
      refine gc_regionS (by kernel_rfl) (by kernel_rfl) ?_
      refine sp zL ?_
      refine sp zl ?_
      refine sp znc ?_
      refine sp zfa ?_
      refine sp (r_ldNo rfl Ty.row_26 Ty.sz_26 hrt (dc_length _) (by decide) hqA) ?_
      refine sp znd ?_
      refine gs_nil ?_
      refine gx_then ?_
      refine gif rfl (fun hc31 => ?_) (fun hc31 => ?_)
      · refine gc_region ?_
        refine gp zl ?_
        refine gp zL ?_
        refine zeN fun b34 => ?_
        refine zapo (fun a35 c35 => ?_)
        refine zs1 ?_
        refine gl_nil ?_
        refine gx_block_normal ?_
        refine gx_rdn ?_
        intro w' hw
        have he : plK t d (i + 1) = plK t d i ++ [e] := by rw [plK_succ hget, if_neg (by simpa using hc31)]
        have h1 := St.slV (b := b8) (l := plK t d (i + 1)) (hw.sel (M := [blk b8 36 [.slice a35 ((plK t d i).length + 1) c35], rowR 26 16 a35 ((plK t d i).length + 1) c35 (((plK t d i).map dc).flatten ++ dc e), lpR lp rc', blk b2 24 [.pointer (some ⟨q, 0, none⟩)]]) (by repeat (first | exact Sel.nil | (apply Sel.cons; · (repeat (first | exact Pick.here | apply Pick.there)))))) (by rw [he]; simp) (by rw [he]; simp)
        exact h1.sel (by repeat (first | exact Sel.nil | (apply Sel.cons; · (repeat (first | exact Pick.here | apply Pick.there)))))
      · refine gc_skip ?_
        refine gx_block_normal ?_
        refine gx_rdn ?_
        intro w' hw
        have he : plK t d (i + 1) = plK t d i := by rw [plK_succ hget, if_pos (by simpa using hc31)]
        have h1 := St.slV (b := b8) (l := plK t d (i + 1)) (hw.sel (M := [blk b8 36 [.slice a (plK t d i).length m], rowR 26 16 a (plK t d i).length m ((plK t d i).map dc).flatten, lpR lp rc', blk b2 24 [.pointer (some ⟨q, 0, none⟩)]]) (by repeat (first | exact Sel.nil | (apply Sel.cons; · (repeat (first | exact Pick.here | apply Pick.there)))))) (by rw [he]) (by rw [he])
        exact h1.sel (by repeat (first | exact Sel.nil | (apply Sel.cons; · (repeat (first | exact Pick.here | apply Pick.there)))))
    · intro bU6 y m hy
      try dsimp only [List.cons_append, List.nil_append]
      obtain ⟨yb, yd⟩ := y
      obtain rfl : m = (upL t d).length := by cases yb <;> simp_all [allOr]
      refine gx_block_normal ?_
      refine gx_thenM ?_
      refine gsr ?_
      refine gl_slV (by repeat (first | exact Pick.here | apply Pick.there)) (fun a m => ?_)
      have hpll := plK_len t d (upL t d).length
      refine gp zl ?_
      refine zc (fun _ => ?_) (c := fun w1 F1 F2 h1 h2 hd hst => reverse_ok (l := plK t d (upL t d).length) h1 rfl (by omega))
      rw [plK_all]
      refine gnt ?_
      refine gsr ?_
      refine gp zl ?_
      refine gp zas ?_
      refine gp zas ?_
      refine gnt ?_
      refine gc_ret ?_
      refine gx_mark (by repeat (first | exact Pick.here | apply Pick.there)) ?_
      refine gx_mark0 ?_
      refine gx_ret2 rfl (by conv => lhs; whnf) (by conv => lhs; whnf) ?_
      have hpe : (plK t d (upL t d).length).length = (pathL t d).length := by rw [← plK_all, List.length_reverse]
      rw [hpe]
      exact fun w' hw => ⟨(a, m), by rw [hsm], hw.sel (by repeat (first | exact Sel.nil | (apply Sel.cons; · (repeat (first | exact Pick.here | apply Pick.there)))))⟩
    · exact fun _ _ _ _ _ => gc_noway

end Go.Proofs.YtheonhgffglegaaDoor

/- Walks, by program (wg.py) out of a spec. -/
namespace Go.Proofs.YtheonhgffglegaaDoor
open Go
set_option linter.unusedVariables false
set_option linter.unusedSimpArgs false


/-- A tree that is owned. -/
def TreeR (q : Nat) (t : Tr) : Res := exR fun x : (Nat × (Option Addr × Nat) × (Option Addr × Nat)) × (List (List Value) × List (List Value)) =>
  allR [pureR (∀ c ∈ x.2.2, c.length = 19), blk q 61 (dc t.root ++ [.map (some x.1.1), .slice x.1.2.1.1 t.nodes.length x.1.2.1.2, .slice x.1.2.2.1 t.certs.length x.1.2.2.2]), mapR x.1.1 (encK digV (nodeV t.nodes x.2.1)), ElR RdBlock x.2.1 (t.nodes.map (fun p => p.2)),
    rowR 26 16 x.1.2.1.1 t.nodes.length x.1.2.1.2 ((keysT t).map dc).flatten, rowR 29 19 x.1.2.2.1 t.certs.length x.1.2.2.2 x.2.2.flatten, ElR RdQC x.2.2 t.certs]
abbrev treL (q : Nat) (t : Tr) (g : Nat) (ao : Option Addr) (co : Nat) (ac : Option Addr) (cc : Nat) (css qss : List (List Value)) (L : List Res) : List Res :=
  blk q 61 (dc t.root ++ [.map (some g), .slice ao t.nodes.length co, .slice ac t.certs.length cc]) :: mapR g (encK digV (nodeV t.nodes css)) :: ElR RdBlock css (t.nodes.map (fun p => p.2)) ::
    rowR 26 16 ao t.nodes.length co ((keysT t).map dc).flatten :: rowR 29 19 ac t.certs.length cc qss.flatten :: ElR RdQC qss t.certs :: L
section
variable {w0 w : World} {F F0 : Nat → Prop} {L L' : List Res} {Q : Exit → Act → World → Prop} {n : Fm} {env : Env} {ops : Array Oper} {rest : List Oper} {q : Nat} {t : Tr}
theorem tree_open (h : stars (TreeR q t :: L) w F) : ∃ g ao co ac cc css qss, (∀ c ∈ qss, List.length c = 19) ∧ stars (treL q t g ao co ac cc css qss L) w F := by
  obtain ⟨⟨⟨g, ⟨ao, co⟩, ⟨ac, cc⟩⟩, ⟨css, qss⟩⟩, h⟩ := stars_ex h
  obtain ⟨h1, h2⟩ := stars_pure (stars_all h)
  exact ⟨g, ao, co, ac, cc, css, qss, h1, h2⟩
theorem tree_shut {g : Nat} {ao : Option Addr} {co : Nat} {ac : Option Addr} {cc : Nat} {css qss : List (List Value)} (h19 : ∀ c ∈ qss, List.length c = 19) (h : stars (treL q t g ao co ac cc css qss L) w F) : stars (TreeR q t :: L) w F :=
  stars_ex_mk ((g, (ao, co), (ac, cc)), (css, qss)) (stars_all_mk (stars_pure_mk h19 h))
theorem gc_tree {c : Code} (hp : Pick L (TreeR q t) L') (k : ∀ g ao co ac cc css qss, (∀ c ∈ qss, List.length c = 19) → Gc Tryd.prog w0 F0 (treL q t g ao co ac cc css qss L') c Q n env) : Gc Tryd.prog w0 F0 L c Q n env := fun w hw => by
  obtain ⟨F, hF, hst⟩ := hw.pick hp
  obtain ⟨g, ao, co, ac, cc, css, qss, h19, h⟩ := tree_open hF
  exact k g ao co ac cc css qss h19 w ⟨F, h, hst⟩
theorem gl_tree (hp : Pick L (TreeR q t) L') (k : ∀ g ao co ac cc css qss, (∀ c ∈ qss, List.length c = 19) → Gl Tryd.prog w0 F0 (treL q t g ao co ac cc css qss L') ops Q rest n env) : Gl Tryd.prog w0 F0 L ops Q rest n env := fun w hw => by
  obtain ⟨F, hF, hst⟩ := hw.pick hp
  obtain ⟨g, ao, co, ac, cc, css, qss, h19, h⟩ := tree_open hF
  exact k g ao co ac cc css qss h19 w ⟨F, h, hst⟩
theorem treL_rd {g : Nat} {ao : Option Addr} {co : Nat} {ac : Option Addr} {cc : Nat} {css qss : List (List Value)} (h19 : ∀ c ∈ qss, List.length c = 19) (h : stars (treL q t g ao co ac cc css qss []) w F) : RdTree w F q t := by
  obtain ⟨F1, R1, h1, k1, e1, _⟩ := h
  obtain ⟨F2, R2, h2, k2, e2, _⟩ := k1
  obtain ⟨F3, R3, ⟨⟨h3l, h3⟩, _⟩, k3, e3, _⟩ := k2
  obtain ⟨F4, R4, h4, k4, e4, _⟩ := k3
  obtain ⟨F5, R5, h5, k5, e5, _⟩ := k4
  obtain ⟨F6, R6, ⟨⟨h6l, h6⟩, _⟩, _, e6, _⟩ := k5
  have s1 : ∀ k, F1 k → F k := fun k hk => (e1 k).2 (.inl hk)
  have s2 : ∀ k, F2 k → F k := fun k hk => (e1 k).2 (.inr ((e2 k).2 (.inl hk)))
  have s3 : ∀ k, F3 k → F k := fun k hk => (e1 k).2 (.inr ((e2 k).2 (.inr ((e3 k).2 (.inl hk)))))
  have s4 : ∀ k, F4 k → F k := fun k hk => (e1 k).2 (.inr ((e2 k).2 (.inr ((e3 k).2 (.inr ((e4 k).2 (.inl hk)))))))
  have s5 : ∀ k, F5 k → F k := fun k hk => (e1 k).2 (.inr ((e2 k).2 (.inr ((e3 k).2 (.inr ((e4 k).2 (.inr ((e5 k).2 (.inl hk)))))))))
  have s6 : ∀ k, F6 k → F k := fun k hk => (e1 k).2 (.inr ((e2 k).2 (.inr ((e3 k).2 (.inr ((e4 k).2 (.inr ((e5 k).2 (.inr ((e6 k).2 (.inl hk)))))))))))
  have hlt := treeC_len t g ao co ac cc
  refine ⟨g, ao, co, ac, cc, css, ?_, ?_, ⟨by simpa using h3l, fun i c p hc hp => ?_⟩, ?_, ?_⟩
  · exact (RdRow.of_blk h1 (n := 1) (size := 19) (o := 0) (by rw [List.drop_zero]; exact List.take_of_length_le (by rw [← treeC, hlt]; decide)) (by rw [hlt]) (by decide)).mv (still_sub s1)
  · exact (mapR.rd h2).mv (still_sub s2)
  · exact (h3 i c p.2 hc (by simp [hp])).mv (still_sub s3)
  · refine ⟨(keysT t).map dc, (rowR.rd h4).mv (still_sub s4), fun c hc => ?_, by simp, fun i c x hc hx => ?_⟩
    · obtain ⟨x, _, rfl⟩ := List.mem_map.1 hc; exact dc_length x
    · rw [List.getElem?_map, hx] at hc; cases hc; rfl
  · exact ⟨qss, (rowR.rd h5).mv (still_sub s5), h19, h6l, fun i c x hc hx => (h6 i c x hc hx).mv (still_sub s6)⟩
theorem tree_rd1 (h : stars [TreeR q t] w F) : RdTree w F q t := by
  obtain ⟨g, ao, co, ac, cc, css, qss, h19, h⟩ := tree_open h
  exact treL_rd h19 h
theorem tr_rd {F1 F2 : Nat → Prop} (h2 : stars L w F2) (hd : ∀ k, F1 k → ¬ F2 k) (hp : Pick L (TreeR q t) L') : RdTree w (fun k => ¬ F1 k) q t := by
  obtain ⟨G1, h1, hs⟩ := stars_pick hp h2
  exact (tree_rd1 (stars_one h1)).mv (still_sub fun k hk h' => hd k h' (hs k hk))
end
theorem lookP {t : Tr} {css : List (List Value)} (hl : css.length = (t.nodes.map (fun p => p.2)).length) (he : ∀ (i : Nat) (c : List Value) (x : Block), css[i]? = some c → (t.nodes.map (fun p => p.2))[i]? = some x → ∃ w A, RdBlock w A c x) (d : Dig) :
    ∃ cp, (if (true : Bool) then Value.tuple #[(getK d (nodeV t.nodes css)).getD (.agg blkC.toArray), .bool (getK d (nodeV t.nodes css)).isSome] else (getK d (nodeV t.nodes css)).getD (.agg blkC.toArray)) = .tuple #[.agg cp.toArray, .bool (lkN d t.nodes).isSome] ∧ ∃ w A, RdBlock w A cp (bOf t d) := by
  cases hk : lkN d t.nodes with
  | none => exact ⟨blkC, by rw [TrM.lookn hk]; rfl, default, fun _ => True, by rw [bOf, hk]; exact rdBlock0⟩
  | some b =>
    obtain ⟨i, c, h1, h2, h3⟩ := nodeV_some (k := 0) (by simpa using hl) hk
    obtain ⟨w, A, hr⟩ := he i c b h2 (by simp [h1])
    exact ⟨c, by rw [getK, h3]; rfl, w, A, by rw [bOf, hk]; exact hr⟩
theorem nodeV_put {l : List (Dig × Block)} {css : List (List Value)} {id : Dig} {b : Block} {c : List Value} (hl : css.length = l.length) (hn : lkN id l = none) : putK id (.agg c.toArray) (nodeV l css) = nodeV (l ++ [(id, b)]) (css ++ [c]) := by
  rw [(atK_none (v := .agg c.toArray) (nodeV_none (css := css) (k := 0) hn)).1]
  simp only [nodeV, List.map_append, List.map_cons, List.map_nil]
  rw [List.zip_append (by simp [hl])]; rfl
theorem stars_newT {q g b1 b2 : Nat} {c d : List Value} {b : Block} {qc : QC} {id : Dig} {w : World} {F : Nat → Prop} {L : List Res} (hq : d.length = 19)
    (h : stars (blk q 61 (dc id ++ [.map (some g), .slice (some ⟨b1, 0, none⟩) 1 1, .slice (some ⟨b2, 0, none⟩) 1 1]) :: mapR g (encK digV (putK id (.agg c.toArray) [])) :: VlR RdBlock c b :: rowR 26 16 (some ⟨b1, 0, none⟩) 1 1 (dc id) :: rowR 29 19 (some ⟨b2, 0, none⟩) 1 1 d :: VlR RdQC d qc :: L) w F) : stars (TreeR q (newT b qc id) :: L) w F := by
  refine tree_shut (g := g) (ao := some ⟨b1, 0, none⟩) (co := 1) (ac := some ⟨b2, 0, none⟩) (cc := 1) (css := [c]) (qss := [d]) (fun x hx => by simp at hx; subst hx; exact hq) ?_
  have hb : ∀ {F : Nat → Prop}, (VlR RdBlock c b).on w F → (ElR RdBlock [c] [b]).on w F := fun h => stars_one' (el_snoc (css := []) (l := []) (el_nil (stars_one h)))
  have hc : ∀ {F : Nat → Prop}, (VlR RdQC d qc).on w F → (ElR RdQC [d] [qc]).on w F := fun h => stars_one' (el_snoc (css := []) (l := []) (el_nil (stars_one h)))
  obtain ⟨F1, R1, h1, k1, e1, d1⟩ := h
  obtain ⟨F2, R2, h2, k2, e2, d2⟩ := k1
  obtain ⟨F3, R3, h3, k3, e3, d3⟩ := k2
  obtain ⟨F4, R4, h4, k4, e4, d4⟩ := k3
  obtain ⟨F5, R5, h5, k5, e5, d5⟩ := k4
  obtain ⟨F6, R6, h6, k6, e6, d6⟩ := k5
  exact ⟨F1, R1, h1, ⟨F2, R2, h2, ⟨F3, R3, hb h3, ⟨F4, R4, by simpa [keysT, newT] using h4, ⟨F5, R5, by simpa [newT] using h5, ⟨F6, R6, hc h6, k6, e6, d6⟩, e5, d5⟩, e4, d4⟩, e3, d3⟩, e2, d2⟩, e1, d1⟩

attribute [local irreducible] Gl Gc Gx Gs Runs Wt

attribute [local irreducible] dc qcC blkC idOf

set_option maxHeartbeats 400000 in
theorem task_ok {w : World} {F : Nat → Prop} {q : Nat} {t : Tr} (hx : RdTree w (fun k => ¬ F k) q t) (hok : TOk t) {ea : Nat → Addr} {es : List Nat} [Has es 1] [Has es 4] [Has es 8] [Has es 12] [Has es 14] [Has es 16] [Has es 17] (hE : GErr es w (fun k => ¬ F k) 139 ea) (hK : KR w (fun k => ¬ F k)) {cs : List Value} {b : Block} (h : stars [] w F) (hb : RdBlock w (fun k => ¬ F k) cs b) :
    Calls Tryd.prog 18 #[.pointer (some ⟨q, 0, none⟩), .agg cs.toArray] w (Post w F (fun _ : Unit => .tuple #[.agg (dc (idOf b)).toArray, eV 139 ea (askE t b (wBlock b ⟨0, []⟩).err (idOf b))]) (fun _ => [])) := by
  obtain ⟨g, ao, co, ac, cc, css, hT⟩ := hx
  obtain ⟨hqA, hrt, h16, h17, h18⟩ := hT.cells
  have hle := hok.le
  have hcl := hok.cl
  have hce := hok.ce
  have hb' := hb
  obtain ⟨qj, a1, n1, c1, a2, n2, c2, rfl, hj, hj2, hj3, hj4, hj5⟩ := hb'
  have ij := Len.of hj.len
  have jj := One.of hj.one
  obtain ⟨cp, hgk, hrp⟩ := hT.lookB (idOf b)
  have icp := Len.of hrp.len
  have jcp := One.of hrp.one
  refine g_enter (env := [(0, .pointer (some ⟨q, 0, none⟩)), (1, _)]) Tryd.func18 rfl h Tryd.ntmps18 rfl rfl ?_
  refine gsr ?_
  refine zbN fun b3 => ?_
  refine zal fun b4 => ?_
  refine gp zas ?_
  refine gnt ?_
  refine gsr ?_
  refine gp zL ?_
  refine zc (fun _ => ?_) (c := fun w1 F1 F2 h1 h2 hd hst => id_ok h1 (hE.mv hst.still) (hK.mv hst.still) (hb.mv hst.still))
  refine gp zmv ?_
  refine gp zex ?_
  refine gp zex ?_
  refine zal fun b6 => ?_
  refine zsN ?_
  refine gp zas ?_
  refine gnt ?_
  refine gc_seq ?_
  refine gsr ?_
  refine gp zmv ?_
  refine gp (r_bool (c := decide (¬ (wBlock b ⟨0, []⟩).err = 0)) (r_nenil rfl (by kernel_rfl)) (by simp)) ?_
  refine gnt ?_
  refine gif rfl (fun hc18 => ?_) (fun hc18 => ?_)
  · try simp only at hc18
    have he0 : ¬ (wBlock b ⟨0, []⟩).err = 0 := by simpa using hc18
    refine gc_seq ?_
    refine gc_regionZ 3 ([blk b6 26 (dc (idOf b))]) ?_
    refine yps 0 rfl zL ?_
    refine yps 1 rfl (r_ld1o rfl Ty.row_40 (hE.c 4 Has.h) (hE.n 4 Has.h)) ?_
    refine yos 2 rfl ?_
    refine zsN ?_
    refine yxs ?_
    refine yzs rfl ?_
    refine gp zas ?_
    refine gnt ?_
    refine gc_ret ?_
    refine gx_then_ret ?_
    refine gx_retct rfl rfl (by conv => lhs; whnf) (ld_aggS Ty.row_26 Ty.sz_26 (by repeat (first | exact Pick.here | apply Pick.there)) (by (simp only [List.drop_succ_cons, List.drop_zero, List.take_succ_cons, List.take_zero, List.cons_append, List.nil_append, List.append_assoc, drop_dc, drop_dc', take_dc, take_dc', drop_L, drop_L', take_L, take_L', len_L, Nat.reduceLeDiff, Nat.reduceSub, Nat.reduceAdd, Nat.le_refl, List.length_cons, List.length_append, List.length_nil, dc_length, List.drop_nil, List.take_nil, List.append_nil, List.length_map, List.length_replicate]; first | done | rfl)) (by first | rfl | (simp only [List.drop_succ_cons, List.drop_zero, List.take_succ_cons, List.take_zero, List.cons_append, List.nil_append, List.append_assoc, drop_dc, drop_dc', take_dc, take_dc', drop_L, drop_L', take_L, take_L', len_L, Nat.reduceLeDiff, Nat.reduceSub, Nat.reduceAdd, Nat.le_refl, List.length_cons, List.length_append, List.length_nil, dc_length, List.drop_nil, List.take_nil, List.append_nil, List.length_map, List.length_replicate]; first | done | omega))) ?_
    have ha : (askE t b (wBlock b ⟨0, []⟩).err (idOf b)) = 4 := by unfold askE; rw [if_neg he0]
    exact fun w' hw => ⟨(), by rw [ha], hw.sel (by repeat (first | exact Sel.nil | (apply Sel.cons; · (repeat (first | exact Pick.here | apply Pick.there)))))⟩
  · try simp only at hc18
    have he0 : (wBlock b ⟨0, []⟩).err = 0 := by simpa using hc18
    refine gc_skip ?_
    refine gx_then ?_
    refine gc_seq ?_
    refine gc_seq ?_
    refine gc_regionZ 11 ([blk b6 26 (dc (idOf b))]) ?_
    refine yps 0 rfl zmv ?_
    refine yps 1 rfl znc ?_
    refine yps 2 rfl zfa ?_
    refine yps 3 rfl (r_ld1o rfl Ty.row_58 h16 hqA) ?_
    refine yps 4 rfl zL ?_
    refine yps 5 rfl (r_val (v' := .tuple #[.agg cp.toArray, .bool (lkN (idOf b) t.nodes).isSome]) (r_looko (K := digV) (l := nodeV t.nodes css) (key := (idOf b)) (z := .agg blkC.toArray) rfl rfl Ty.un_58 (by kernel_rfl) hT.mp) hgk) ?_
    refine yps 6 rfl zmv ?_
    refine yps 7 rfl zex ?_
    refine yps 8 rfl zex ?_
    refine yos 9 rfl ?_
    refine zal fun b8 => ?_
    refine gl_eqc (cs' := blkC) (by repeat (first | exact Pick.here | apply Pick.there)) (by kernel_rfl) ?_
    refine yxs ?_
    refine yos 10 rfl ?_
    refine zsA hrp.len hrp.one ?_
    refine yxs ?_
    refine yzs rfl ?_
    refine gp zas ?_
    refine gnt ?_
    refine gsr ?_
    refine gp zmv ?_
    refine gnt ?_
    refine gif rfl (fun hc30 => ?_) (fun hc30 => ?_)
    · refine gc_seq ?_
      refine gc_regionZ 3 ([blk b6 26 (dc (idOf b))]) ?_
      refine yps 0 rfl zL ?_
      refine yps 1 rfl (r_ld1o rfl Ty.row_40 (hE.c 17 Has.h) (hE.n 17 Has.h)) ?_
      refine yos 2 rfl ?_
      refine zsN ?_
      refine yxs ?_
      refine yzs rfl ?_
      refine gp zas ?_
      refine gnt ?_
      refine gc_ret ?_
      refine gx_then_ret ?_
      refine gx_retct rfl rfl (by conv => lhs; whnf) (ld_aggS Ty.row_26 Ty.sz_26 (by repeat (first | exact Pick.here | apply Pick.there)) (by (simp only [List.drop_succ_cons, List.drop_zero, List.take_succ_cons, List.take_zero, List.cons_append, List.nil_append, List.append_assoc, drop_dc, drop_dc', take_dc, take_dc', drop_L, drop_L', take_L, take_L', len_L, Nat.reduceLeDiff, Nat.reduceSub, Nat.reduceAdd, Nat.le_refl, List.length_cons, List.length_append, List.length_nil, dc_length, List.drop_nil, List.take_nil, List.append_nil, List.length_map, List.length_replicate]; first | done | rfl)) (by first | rfl | (simp only [List.drop_succ_cons, List.drop_zero, List.take_succ_cons, List.take_zero, List.cons_append, List.nil_append, List.append_assoc, drop_dc, drop_dc', take_dc, take_dc', drop_L, drop_L', take_L, take_L', len_L, Nat.reduceLeDiff, Nat.reduceSub, Nat.reduceAdd, Nat.le_refl, List.length_cons, List.length_append, List.length_nil, dc_length, List.drop_nil, List.take_nil, List.append_nil, List.length_map, List.length_replicate]; first | done | omega))) ?_
      have ha : (askE t b (wBlock b ⟨0, []⟩).err (idOf b)) = 17 := by unfold askE; rw [if_pos he0, if_pos hc30]
      exact fun w' hw => ⟨(), by rw [ha], hw.sel (by repeat (first | exact Sel.nil | (apply Sel.cons; · (repeat (first | exact Pick.here | apply Pick.there)))))⟩
    · try simp only at hc30
      have hn : ¬ (lkN (idOf b) t.nodes).isSome = true := by simpa using hc30
      obtain ⟨cp2, hgk2, hrp2⟩ := hT.lookB b.parent
      have icp2 := Len.of hrp2.len
      have jcp2 := One.of hrp2.one
      refine gc_skip ?_
      refine gx_then ?_
      refine gc_seq ?_
      refine gc_regionZ 12 ([blk b3 33 (.int .i64 b.epoch :: .int .i64 b.round :: (dc b.parent ++ (qj ++ [.slice a1 n1 c1, .slice a2 n2 c2])))]) ?_
      refine yps 0 rfl zmv ?_
      refine yps 1 rfl znc ?_
      refine yps 2 rfl zfa ?_
      refine yps 3 rfl (r_ld1o rfl Ty.row_58 h16 hqA) ?_
      refine yps 4 rfl zfa ?_
      refine yps 5 rfl zL ?_
      refine yps 6 rfl (r_val (v' := .tuple #[.agg cp2.toArray, .bool (lkN b.parent t.nodes).isSome]) (r_looko (K := digV) (l := nodeV t.nodes css) (key := b.parent) (z := .agg blkC.toArray) rfl rfl Ty.un_58 (by kernel_rfl) hT.mp) hgk2) ?_
      refine yps 7 rfl zmv ?_
      refine yps 8 rfl zex ?_
      refine yps 9 rfl zex ?_
      refine yos 10 rfl ?_
      refine zal fun b10 => ?_
      refine gl_eqc (cs' := blkC) (by repeat (first | exact Pick.here | apply Pick.there)) (by kernel_rfl) ?_
      refine yxs ?_
      refine yos 11 rfl ?_
      refine zsA hrp2.len hrp2.one ?_
      refine yxs ?_
      refine yzs rfl ?_
      refine gp zas ?_
      refine gnt ?_
      refine gc_seq ?_
      refine gc_block ?_
      refine gsr ?_
      refine gp zmv ?_
      refine gp znt ?_
      refine gp zas ?_
      refine gnt ?_
      refine gif rfl (fun hc43 => ?_) (fun hc43 => ?_)
      · try simp only at hc43
        have hpn : lkN b.parent t.nodes = none := by simpa using hc43
        refine gc_seq ?_
        refine gc_regionZ 3 ([blk b6 26 (dc (idOf b))]) ?_
        refine yps 0 rfl zL ?_
        refine yps 1 rfl (r_ld1o rfl Ty.row_40 (hE.c 16 Has.h) (hE.n 16 Has.h)) ?_
        refine yos 2 rfl ?_
        refine zsN ?_
        refine yxs ?_
        refine yzs rfl ?_
        refine gp zas ?_
        refine gnt ?_
        refine gc_ret ?_
        refine gx_block_ret ?_
        refine gx_then_ret ?_
        refine gx_retct rfl rfl (by conv => lhs; whnf) (ld_aggS Ty.row_26 Ty.sz_26 (by repeat (first | exact Pick.here | apply Pick.there)) (by (simp only [List.drop_succ_cons, List.drop_zero, List.take_succ_cons, List.take_zero, List.cons_append, List.nil_append, List.append_assoc, drop_dc, drop_dc', take_dc, take_dc', drop_L, drop_L', take_L, take_L', len_L, Nat.reduceLeDiff, Nat.reduceSub, Nat.reduceAdd, Nat.le_refl, List.length_cons, List.length_append, List.length_nil, dc_length, List.drop_nil, List.take_nil, List.append_nil, List.length_map, List.length_replicate]; first | done | rfl)) (by first | rfl | (simp only [List.drop_succ_cons, List.drop_zero, List.take_succ_cons, List.take_zero, List.cons_append, List.nil_append, List.append_assoc, drop_dc, drop_dc', take_dc, take_dc', drop_L, drop_L', take_L, take_L', len_L, Nat.reduceLeDiff, Nat.reduceSub, Nat.reduceAdd, Nat.le_refl, List.length_cons, List.length_append, List.length_nil, dc_length, List.drop_nil, List.take_nil, List.append_nil, List.length_map, List.length_replicate]; first | done | omega))) ?_
        have ha : (askE t b (wBlock b ⟨0, []⟩).err (idOf b)) = 16 := by unfold askE; rw [if_pos he0, if_neg hn, hpn]
        exact fun w' hw => ⟨(), by rw [ha], hw.sel (by repeat (first | exact Sel.nil | (apply Sel.cons; · (repeat (first | exact Pick.here | apply Pick.there)))))⟩
      · try simp only at hc43
        obtain ⟨p, hp⟩ := Option.isSome_iff_exists.1 (by simpa using hc43 : (lkN b.parent t.nodes).isSome = true)
        have hbo : bOf t b.parent = p := by rw [bOf, hp]; rfl
        rw [hbo] at hrp2
        have hrp3 := hrp2
        obtain ⟨qj2, a3, n3, c3, a4, n4, c4, rfl, hk1, _⟩ := hrp3
        have ij2 := Len.of hk1.len
        have jj2 := One.of hk1.one
        refine gc_seq ?_
        by_cases hS : fitsQ b.justify b.parent p = true
        · refine gc_region ?_
          refine gp zfa ?_
          refine gp (zL (sg := qj)) ?_
          refine gp zfa ?_
          refine gp zL ?_
          refine gp zL ?_
          refine zc (fun _ => ?_) (c := fun w1 F1 F2 h1 h2 hd hst => bfits_ok h1 hj hrp2)
          refine gp (r_bool (c := false) znt (by rw [hS]; rfl)) ?_
          refine gp zmv ?_
          refine gq zfa ?_
          refine gq zl ?_
          refine gq zfa ?_
          refine gq zl ?_
          refine gq zni ?_
          refine gp zpk ?_
          refine gp zas ?_
          refine gnt ?_
          refine gif rfl (fun hc48 => ?_) (fun hc48 => ?_)
          · try simp only at hc48
            have hne : ¬ b.epoch = p.epoch := by simpa using hc48
            refine gc_seq ?_
            refine gc_regionZ 3 ([blk b6 26 (dc (idOf b))]) ?_
            refine yps 0 rfl zL ?_
            refine yps 1 rfl (r_ld1o rfl Ty.row_40 (hE.c 12 Has.h) (hE.n 12 Has.h)) ?_
            refine yos 2 rfl ?_
            refine zsN ?_
            refine yxs ?_
            refine yzs rfl ?_
            refine gp zas ?_
            refine gnt ?_
            refine gc_ret ?_
            refine gx_block_ret ?_
            refine gx_then_ret ?_
            refine gx_retct rfl rfl (by conv => lhs; whnf) (ld_aggS Ty.row_26 Ty.sz_26 (by repeat (first | exact Pick.here | apply Pick.there)) (by (simp only [List.drop_succ_cons, List.drop_zero, List.take_succ_cons, List.take_zero, List.cons_append, List.nil_append, List.append_assoc, drop_dc, drop_dc', take_dc, take_dc', drop_L, drop_L', take_L, take_L', len_L, Nat.reduceLeDiff, Nat.reduceSub, Nat.reduceAdd, Nat.le_refl, List.length_cons, List.length_append, List.length_nil, dc_length, List.drop_nil, List.take_nil, List.append_nil, List.length_map, List.length_replicate]; first | done | rfl)) (by first | rfl | (simp only [List.drop_succ_cons, List.drop_zero, List.take_succ_cons, List.take_zero, List.cons_append, List.nil_append, List.append_assoc, drop_dc, drop_dc', take_dc, take_dc', drop_L, drop_L', take_L, take_L', len_L, Nat.reduceLeDiff, Nat.reduceSub, Nat.reduceAdd, Nat.le_refl, List.length_cons, List.length_append, List.length_nil, dc_length, List.drop_nil, List.take_nil, List.append_nil, List.length_map, List.length_replicate]; first | done | omega))) ?_
            have ha : (askE t b (wBlock b ⟨0, []⟩).err (idOf b)) = 12 := by unfold askE; rw [if_pos he0, if_neg hn, hp]; simp only; rw [if_neg (fun hh => hne hh.2)]
            exact fun w' hw => ⟨(), by rw [ha], hw.sel (by repeat (first | exact Sel.nil | (apply Sel.cons; · (repeat (first | exact Pick.here | apply Pick.there)))))⟩
          · try simp only at hc48
            have hep : b.epoch = p.epoch := by simpa using hc48
            refine gsr ?_
            refine gp zfa ?_
            refine gp zl ?_
            refine gp zfa ?_
            refine gp zl ?_
            refine gp zle ?_
            refine gp zas ?_
            refine gnt ?_
            refine gif rfl (fun hc65 => ?_) (fun hc65 => ?_)
            · try simp only at hc65
              have hro : b.round ≤ p.round := by simpa using hc65
              refine gc_seq ?_
              refine gc_regionZ 3 ([blk b6 26 (dc (idOf b))]) ?_
              refine yps 0 rfl zL ?_
              refine yps 1 rfl (r_ld1o rfl Ty.row_40 (hE.c 14 Has.h) (hE.n 14 Has.h)) ?_
              refine yos 2 rfl ?_
              refine zsN ?_
              refine yxs ?_
              refine yzs rfl ?_
              refine gp zas ?_
              refine gnt ?_
              refine gc_ret ?_
              refine gx_block_ret ?_
              refine gx_then_ret ?_
              refine gx_retct rfl rfl (by conv => lhs; whnf) (ld_aggS Ty.row_26 Ty.sz_26 (by repeat (first | exact Pick.here | apply Pick.there)) (by (simp only [List.drop_succ_cons, List.drop_zero, List.take_succ_cons, List.take_zero, List.cons_append, List.nil_append, List.append_assoc, drop_dc, drop_dc', take_dc, take_dc', drop_L, drop_L', take_L, take_L', len_L, Nat.reduceLeDiff, Nat.reduceSub, Nat.reduceAdd, Nat.le_refl, List.length_cons, List.length_append, List.length_nil, dc_length, List.drop_nil, List.take_nil, List.append_nil, List.length_map, List.length_replicate]; first | done | rfl)) (by first | rfl | (simp only [List.drop_succ_cons, List.drop_zero, List.take_succ_cons, List.take_zero, List.cons_append, List.nil_append, List.append_assoc, drop_dc, drop_dc', take_dc, take_dc', drop_L, drop_L', take_L, take_L', len_L, Nat.reduceLeDiff, Nat.reduceSub, Nat.reduceAdd, Nat.le_refl, List.length_cons, List.length_append, List.length_nil, dc_length, List.drop_nil, List.take_nil, List.append_nil, List.length_map, List.length_replicate]; first | done | omega))) ?_
              have ha : (askE t b (wBlock b ⟨0, []⟩).err (idOf b)) = 14 := by unfold askE; rw [if_pos he0, if_neg hn, hp]; simp only; rw [if_pos ⟨hS, hep⟩, if_pos hro]
              exact fun w' hw => ⟨(), by rw [ha], hw.sel (by repeat (first | exact Sel.nil | (apply Sel.cons; · (repeat (first | exact Pick.here | apply Pick.there)))))⟩
            · try simp only at hc65
              have hro : ¬ b.round ≤ p.round := by simpa using hc65
              refine gsr ?_
              refine gp zmv ?_
              refine gp znc ?_
              refine gp zfa ?_
              refine gp (r_ld1o rfl Ty.row_58 h16 hqA) ?_
              refine gp (r_val (v' := .int .i64 (t.nodes.length : Int)) (r_lenmo rfl Ty.un_58 hT.mp) (by rw [nodeV_len hT.el.1])) ?_
              refine gp (r_bool (c := decide (16 ≤ t.nodes.length)) zge (by rw [Bool.eq_iff_iff]; simp only [decide_eq_true_eq]; omega)) ?_
              refine gp zas ?_
              refine gnt ?_
              refine gif rfl (fun hc73 => ?_) (fun hc73 => ?_)
              · try simp only at hc73
                have hfu : 16 ≤ t.nodes.length := by simpa using hc73
                refine gc_seq ?_
                refine gc_regionZ 3 ([blk b6 26 (dc (idOf b))]) ?_
                refine yps 0 rfl zL ?_
                refine yps 1 rfl (r_ld1o rfl Ty.row_40 (hE.c 8 Has.h) (hE.n 8 Has.h)) ?_
                refine yos 2 rfl ?_
                refine zsN ?_
                refine yxs ?_
                refine yzs rfl ?_
                refine gp zas ?_
                refine gnt ?_
                refine gc_ret ?_
                refine gx_block_ret ?_
                refine gx_then_ret ?_
                refine gx_retct rfl rfl (by conv => lhs; whnf) (ld_aggS Ty.row_26 Ty.sz_26 (by repeat (first | exact Pick.here | apply Pick.there)) (by (simp only [List.drop_succ_cons, List.drop_zero, List.take_succ_cons, List.take_zero, List.cons_append, List.nil_append, List.append_assoc, drop_dc, drop_dc', take_dc, take_dc', drop_L, drop_L', take_L, take_L', len_L, Nat.reduceLeDiff, Nat.reduceSub, Nat.reduceAdd, Nat.le_refl, List.length_cons, List.length_append, List.length_nil, dc_length, List.drop_nil, List.take_nil, List.append_nil, List.length_map, List.length_replicate]; first | done | rfl)) (by first | rfl | (simp only [List.drop_succ_cons, List.drop_zero, List.take_succ_cons, List.take_zero, List.cons_append, List.nil_append, List.append_assoc, drop_dc, drop_dc', take_dc, take_dc', drop_L, drop_L', take_L, take_L', len_L, Nat.reduceLeDiff, Nat.reduceSub, Nat.reduceAdd, Nat.le_refl, List.length_cons, List.length_append, List.length_nil, dc_length, List.drop_nil, List.take_nil, List.append_nil, List.length_map, List.length_replicate]; first | done | omega))) ?_
                have ha : (askE t b (wBlock b ⟨0, []⟩).err (idOf b)) = 8 := by unfold askE; rw [if_pos he0, if_neg hn, hp]; simp only; rw [if_pos ⟨hS, hep⟩, if_neg hro, if_pos hfu]
                exact fun w' hw => ⟨(), by rw [ha], hw.sel (by repeat (first | exact Sel.nil | (apply Sel.cons; · (repeat (first | exact Pick.here | apply Pick.there)))))⟩
              · try simp only at hc73
                have hfu : ¬ 16 ≤ t.nodes.length := by simpa using hc73
                refine gc_skip ?_
                refine gx_block_normal ?_
                refine gx_then ?_
                refine gsr ?_
                refine gp zL ?_
                refine zsN ?_
                refine gp zas ?_
                refine gnt ?_
                refine gc_ret ?_
                refine gx_retct rfl rfl (by conv => lhs; whnf) (ld_aggS Ty.row_26 Ty.sz_26 (by repeat (first | exact Pick.here | apply Pick.there)) (by (simp only [List.drop_succ_cons, List.drop_zero, List.take_succ_cons, List.take_zero, List.cons_append, List.nil_append, List.append_assoc, drop_dc, drop_dc', take_dc, take_dc', drop_L, drop_L', take_L, take_L', len_L, Nat.reduceLeDiff, Nat.reduceSub, Nat.reduceAdd, Nat.le_refl, List.length_cons, List.length_append, List.length_nil, dc_length, List.drop_nil, List.take_nil, List.append_nil, List.length_map, List.length_replicate]; first | done | rfl)) (by first | rfl | (simp only [List.drop_succ_cons, List.drop_zero, List.take_succ_cons, List.take_zero, List.cons_append, List.nil_append, List.append_assoc, drop_dc, drop_dc', take_dc, take_dc', drop_L, drop_L', take_L, take_L', len_L, Nat.reduceLeDiff, Nat.reduceSub, Nat.reduceAdd, Nat.le_refl, List.length_cons, List.length_append, List.length_nil, dc_length, List.drop_nil, List.take_nil, List.append_nil, List.length_map, List.length_replicate]; first | done | omega))) ?_
                have ha : (askE t b (wBlock b ⟨0, []⟩).err (idOf b)) = 0 := by unfold askE; rw [if_pos he0, if_neg hn, hp]; simp only; rw [if_pos ⟨hS, hep⟩, if_neg hro, if_neg hfu]
                exact fun w' hw => ⟨(), by rw [ha, eV_zero], hw.sel (by repeat (first | exact Sel.nil | (apply Sel.cons; · (repeat (first | exact Pick.here | apply Pick.there)))))⟩
        · refine gc_region ?_
          refine gp zfa ?_
          refine gp (zL (sg := qj)) ?_
          refine gp zfa ?_
          refine gp zL ?_
          refine gp zL ?_
          refine zc (fun _ => ?_) (c := fun w1 F1 F2 h1 h2 hd hst => bfits_ok h1 hj hrp2)
          refine gp (r_bool (c := true) znt (by simp [hS])) ?_
          refine gp zmv ?_
          refine gn ?_
          refine gn ?_
          refine gn ?_
          refine gn ?_
          refine gn ?_
          refine gp zpk ?_
          refine gp zas ?_
          refine gnt ?_
          refine gc_condT rfl rfl ?_
          refine gc_seq ?_
          refine gc_regionZ 3 ([blk b6 26 (dc (idOf b))]) ?_
          refine yps 0 rfl zL ?_
          refine yps 1 rfl (r_ld1o rfl Ty.row_40 (hE.c 12 Has.h) (hE.n 12 Has.h)) ?_
          refine yos 2 rfl ?_
          refine zsN ?_
          refine yxs ?_
          refine yzs rfl ?_
          refine gp zas ?_
          refine gnt ?_
          refine gc_ret ?_
          refine gx_block_ret ?_
          refine gx_then_ret ?_
          refine gx_retct rfl rfl (by conv => lhs; whnf) (ld_aggS Ty.row_26 Ty.sz_26 (by repeat (first | exact Pick.here | apply Pick.there)) (by (simp only [List.drop_succ_cons, List.drop_zero, List.take_succ_cons, List.take_zero, List.cons_append, List.nil_append, List.append_assoc, drop_dc, drop_dc', take_dc, take_dc', drop_L, drop_L', take_L, take_L', len_L, Nat.reduceLeDiff, Nat.reduceSub, Nat.reduceAdd, Nat.le_refl, List.length_cons, List.length_append, List.length_nil, dc_length, List.drop_nil, List.take_nil, List.append_nil, List.length_map, List.length_replicate]; first | done | rfl)) (by first | rfl | (simp only [List.drop_succ_cons, List.drop_zero, List.take_succ_cons, List.take_zero, List.cons_append, List.nil_append, List.append_assoc, drop_dc, drop_dc', take_dc, take_dc', drop_L, drop_L', take_L, take_L', len_L, Nat.reduceLeDiff, Nat.reduceSub, Nat.reduceAdd, Nat.le_refl, List.length_cons, List.length_append, List.length_nil, dc_length, List.drop_nil, List.take_nil, List.append_nil, List.length_map, List.length_replicate]; first | done | omega))) ?_
          have ha : (askE t b (wBlock b ⟨0, []⟩).err (idOf b)) = 12 := by unfold askE; rw [if_pos he0, if_neg hn, hp]; simp only; rw [if_neg (fun hh => hS hh.1)]
          exact fun w' hw => ⟨(), by rw [ha], hw.sel (by repeat (first | exact Sel.nil | (apply Sel.cons; · (repeat (first | exact Pick.here | apply Pick.there)))))⟩

end Go.Proofs.YtheonhgffglegaaDoor

/- Walks, by program (wg.py) out of a spec. -/
namespace Go.Proofs.YtheonhgffglegaaDoor
open Go
set_option linter.unusedVariables false
set_option linter.unusedSimpArgs false


theorem new_end {w0 : World} {F0 : Nat → Prop} {L L' : List Res} {b36 g25 b31 b34 : Nat} {b : Block} {q : QC} {x28 x33 : List Value} {ea : Nat → Addr} (he0 : (wBlock b ⟨0, []⟩).err = 0) (hf : fitsQ q (idOf b) b = true) (hl33 : x33.length = 19)
    (hs : Sel L [blk b36 61 (dc (idOf b) ++ [.map (some g25), .slice (some ⟨b31, 0, none⟩) 1 1, .slice (some ⟨b34, 0, none⟩) 1 1]), mapR g25 (encK digV (putK (idOf b) (.agg x28.toArray) [])), VlR RdBlock x28 b, rowR 26 16 (some ⟨b31, 0, none⟩) 1 1 (dc (idOf b)), rowR 29 19 (some ⟨b34, 0, none⟩) 1 1 x33, VlR RdQC x33 q] L' := by repeat (first | exact Sel.nil | (apply Sel.cons; · (repeat (first | exact Pick.here | apply Pick.there))))) :
    ∀ w', St w0 F0 L w' → Post w0 F0 (fun x : Nat => .tuple #[if (newE b q (wBlock b ⟨0, []⟩).err (idOf b)) = 0 then .pointer (some ⟨x, 0, none⟩) else .pointer none, eV 139 ea (newE b q (wBlock b ⟨0, []⟩).err (idOf b))]) (fun x => if (newE b q (wBlock b ⟨0, []⟩).err (idOf b)) = 0 then [TreeR x (newT b q (idOf b))] else []) (.returned (.tuple #[.pointer (some ⟨b36, 0, none⟩), .nilIface])) w' := fun w' hw => by
  have hn : (newE b q (wBlock b ⟨0, []⟩).err (idOf b)) = 0 := by unfold newE; rw [if_pos he0, if_pos hf]
  have h1 := hw.conv hs (fun _ _ => stars_newT hl33)
  exact ⟨b36, by rw [hn, eV_zero]; exact rfl, by rw [hn]; show St _ _ [TreeR b36 _] w'; exact h1.sel (.cons .here .nil)⟩

attribute [local irreducible] Gl Gc Gx Gs Runs Wt

attribute [local irreducible] dc qcC blkC idOf RdBlock RdQC TreeR

set_option maxHeartbeats 400000 in
theorem tnew_ok {w : World} {F : Nat → Prop} {ea : Nat → Addr} {es : List Nat} [Has es 1] [Has es 4] [Has es 12] (hE : GErr es w (fun k => ¬ F k) 139 ea) (hK : KR w (fun k => ¬ F k)) {cs qs : List Value} {b : Block} {q : QC} (h : stars [] w F) (hb : RdBlock w (fun k => ¬ F k) cs b) (hq : RdQC w (fun k => ¬ F k) qs q) (hsb : (wBlock b ⟨0, []⟩).err = 0 → smBlk b) (hsq : smQC q) :
    Calls Tryd.prog 15 #[.agg cs.toArray, .agg qs.toArray] w (Post w F (fun x : Nat => .tuple #[if (newE b q (wBlock b ⟨0, []⟩).err (idOf b)) = 0 then .pointer (some ⟨x, 0, none⟩) else .pointer none, eV 139 ea (newE b q (wBlock b ⟨0, []⟩).err (idOf b))]) (fun x => if (newE b q (wBlock b ⟨0, []⟩).err (idOf b)) = 0 then [TreeR x (newT b q (idOf b))] else [])) := by
  have il := Len.of hb.len
  have jl := One.of hb.one
  have il2 := Len.of hq.len
  have jl2 := One.of hq.one
  refine g_enter (env := [(0, .agg cs.toArray), (1, .agg qs.toArray)]) Tryd.func15 rfl h Tryd.ntmps15 rfl rfl ?_
  refine gsr ?_
  refine zbN fun b2 => ?_
  refine zbN fun b3 => ?_
  refine gp zas ?_
  refine gp zas ?_
  refine gnt ?_
  refine gsr ?_
  refine gp (zLa (cs := cs)) ?_
  refine zc (fun _ => ?_) (c := fun w1 F1 F2 h1 h2 hd hst => id_ok h1 (hE.mv hst.still) (hK.mv hst.still) (hb.mv hst.still))
  refine gp zmv ?_
  refine gp zex ?_
  refine gp zex ?_
  refine zal fun b6 => ?_
  refine zsN ?_
  refine gp zas ?_
  refine gnt ?_
  refine gc_seq ?_
  refine gc_block ?_
  refine gsr ?_
  refine gp zmv ?_
  refine gp (r_bool (c := decide (¬ (wBlock b ⟨0, []⟩).err = 0)) (r_nenil rfl (by kernel_rfl)) (by simp)) ?_
  refine gp zas ?_
  refine gnt ?_
  refine gif rfl (fun hc13 => ?_) (fun hc13 => ?_)
  · try simp only at hc13
    have he0 : ¬ (wBlock b ⟨0, []⟩).err = 0 := by simpa using hc13
    refine gc_seq ?_
    refine gc_regionS (by kernel_rfl) (by kernel_rfl) ?_
    refine sp (r_ld1o rfl Ty.row_40 (hE.c 4 Has.h) (hE.n 4 Has.h)) ?_
    refine sp zas ?_
    refine sp zas ?_
    refine gs_nil ?_
    refine gx_then ?_
    refine gc_ret ?_
    refine gx_block_ret ?_
    refine gx_then_ret ?_
    refine gx_ret2 rfl (by conv => lhs; whnf) (by conv => lhs; whnf) ?_
    have hn : (newE b q (wBlock b ⟨0, []⟩).err (idOf b)) = 4 := by unfold newE; rw [if_neg he0]
    exact fun w' hw => ⟨0, by rw [hn]; exact rfl, by rw [hn]; show St _ _ [] w'; exact hw.sel Sel.nil⟩
  · try simp only at hc13
    have he0 : (wBlock b ⟨0, []⟩).err = 0 := by simpa using hc13
    have hsb := hsb he0
    refine gsr ?_
    refine gp (zLa (cs := qs)) ?_
    refine gp zL ?_
    refine gp (zLa (cs := cs)) ?_
    refine zc (fun _ => ?_) (c := fun w1 F1 F2 h1 h2 hd hst => bfits_ok h1 hq hb)
    refine gp znt ?_
    refine gp zas ?_
    refine gnt ?_
    refine gif rfl (fun hc17 => ?_) (fun hc17 => ?_)
    · try simp only at hc17
      have hf : ¬ fitsQ q (idOf b) b = true := by simpa using hc17
      refine gc_seq ?_
      refine gc_regionS (by kernel_rfl) (by kernel_rfl) ?_
      refine sp (r_ld1o rfl Ty.row_40 (hE.c 12 Has.h) (hE.n 12 Has.h)) ?_
      refine sp zas ?_
      refine sp zas ?_
      refine gs_nil ?_
      refine gx_then ?_
      refine gc_ret ?_
      refine gx_block_ret ?_
      refine gx_then_ret ?_
      refine gx_ret2 rfl (by conv => lhs; whnf) (by conv => lhs; whnf) ?_
      have hn : (newE b q (wBlock b ⟨0, []⟩).err (idOf b)) = 12 := by unfold newE; rw [if_pos he0, if_neg hf]
      exact fun w' hw => ⟨0, by rw [hn]; exact rfl, by rw [hn]; show St _ _ [] w'; exact hw.sel Sel.nil⟩
    · try simp only at hc17
      have hf : fitsQ q (idOf b) b = true := by simpa using hc17
      refine gc_skip ?_
      refine gx_block_normal ?_
      refine gx_then ?_
      refine gc_seq ?_
      refine gc_regionZ 15 ([blk b6 26 (dc (idOf b)), blk b2 33 cs, blk b3 29 qs]) ?_
      refine yps 0 rfl zL ?_
      refine yps 2 rfl zL ?_
      refine yps 3 rfl (zLa (cs := cs)) ?_
      refine yps 7 rfl zL ?_
      refine yps 9 rfl (zLa (cs := qs)) ?_
      refine yo3s 1 4 8 rfl rfl rfl ?_ ?_ ?_
      · refine gl_mkMap (wt0 rfl) (fun g25 => ?_)
        refine yxs ?_
        refine yo2s 4 8 rfl rfl ?_ ?_
        · refine zc (fun x28 => ?_) (c := fun w1 F1 F2 h1 h2 hd hst => copied_ok h1 (hb.mv hst.still) hsb)
          refine gl_pureR (fun hx28 => ?_)
          obtain ⟨hl28, ho28⟩ := hx28
          replace hl28 : x28.length = 39 := hl28
          have i28 := Len.of hl28
          have j28 := One.of (show ∀ v ∈ x28, v.oneCell' = true from ho28)
          refine yxs ?_
          refine yo3s 5 8 10 rfl rfl rfl ?_ ?_ ?_
          · refine gl_ins (K := digV) (l := []) (key := idOf b) (v := .agg x28.toArray) (wt0 rfl) rfl rfl rfl Ty.un_58 (by repeat (first | exact Pick.here | apply Pick.there)) ?_
            refine yxs ?_
            refine yps 6 rfl zmv ?_
            refine yo2s 8 10 rfl rfl ?_ ?_
            · refine zeN fun b31 => ?_
              refine yxs ?_
              refine yos 10 rfl ?_
              refine zc (fun x33 => ?_) (c := fun w1 F1 F2 h1 h2 hd hst => copiedQC_ok h1 (hq.mv hst.still) hsq)
              refine gl_pureR (fun hx33 => ?_)
              obtain ⟨hl33, ho33⟩ := hx33
              replace hl33 : x33.length = 19 := hl33
              have i33 := Len.of hl33
              have j33 := One.of (show ∀ v ∈ x33, v.oneCell' = true from ho33)
              refine yxs ?_
              refine yos 11 rfl ?_
              refine zeN fun b34 => ?_
              refine yxs ?_
              refine yps 12 rfl zbu ?_
              refine yos 13 rfl ?_
              refine zbN fun b36 => ?_
              refine yxs ?_
              refine yps 14 rfl zas ?_
              refine yzs rfl ?_
              refine gp zas ?_
              refine gnt ?_
              refine gc_ret ?_
              refine gx_ret2 rfl (by conv => lhs; whnf) (by conv => lhs; whnf) ?_
              exact new_end he0 hf hl33
            · refine zc (fun x33 => ?_) (c := fun w1 F1 F2 h1 h2 hd hst => copiedQC_ok h1 (hq.mv hst.still) hsq)
              refine gl_pureR (fun hx33 => ?_)
              obtain ⟨hl33, ho33⟩ := hx33
              replace hl33 : x33.length = 19 := hl33
              have i33 := Len.of hl33
              have j33 := One.of (show ∀ v ∈ x33, v.oneCell' = true from ho33)
              refine yxs ?_
              refine yo2s 8 11 rfl rfl ?_ ?_
              · refine zeN fun b31 => ?_
                refine yxs ?_
                refine yos 11 rfl ?_
                refine zeN fun b34 => ?_
                refine yxs ?_
                refine yps 12 rfl zbu ?_
                refine yos 13 rfl ?_
                refine zbN fun b36 => ?_
                refine yxs ?_
                refine yps 14 rfl zas ?_
                refine yzs rfl ?_
                refine gp zas ?_
                refine gnt ?_
                refine gc_ret ?_
                refine gx_ret2 rfl (by conv => lhs; whnf) (by conv => lhs; whnf) ?_
                exact new_end he0 hf hl33
              · refine zeN fun b34 => ?_
                refine yxs ?_
                refine yos 8 rfl ?_
                refine zeN fun b31 => ?_
                refine yxs ?_
                refine yps 12 rfl zbu ?_
                refine yos 13 rfl ?_
                refine zbN fun b36 => ?_
                refine yxs ?_
                refine yps 14 rfl zas ?_
                refine yzs rfl ?_
                refine gp zas ?_
                refine gnt ?_
                refine gc_ret ?_
                refine gx_ret2 rfl (by conv => lhs; whnf) (by conv => lhs; whnf) ?_
                exact new_end he0 hf hl33
          · refine zeN fun b31 => ?_
            refine yxs ?_
            refine yo2s 5 10 rfl rfl ?_ ?_
            · refine gl_ins (K := digV) (l := []) (key := idOf b) (v := .agg x28.toArray) (wt0 rfl) rfl rfl rfl Ty.un_58 (by repeat (first | exact Pick.here | apply Pick.there)) ?_
              refine yxs ?_
              refine yps 6 rfl zmv ?_
              refine yos 10 rfl ?_
              refine zc (fun x33 => ?_) (c := fun w1 F1 F2 h1 h2 hd hst => copiedQC_ok h1 (hq.mv hst.still) hsq)
              refine gl_pureR (fun hx33 => ?_)
              obtain ⟨hl33, ho33⟩ := hx33
              replace hl33 : x33.length = 19 := hl33
              have i33 := Len.of hl33
              have j33 := One.of (show ∀ v ∈ x33, v.oneCell' = true from ho33)
              refine yxs ?_
              refine yos 11 rfl ?_
              refine zeN fun b34 => ?_
              refine yxs ?_
              refine yps 12 rfl zbu ?_
              refine yos 13 rfl ?_
              refine zbN fun b36 => ?_
              refine yxs ?_
              refine yps 14 rfl zas ?_
              refine yzs rfl ?_
              refine gp zas ?_
              refine gnt ?_
              refine gc_ret ?_
              refine gx_ret2 rfl (by conv => lhs; whnf) (by conv => lhs; whnf) ?_
              exact new_end he0 hf hl33
            · refine zc (fun x33 => ?_) (c := fun w1 F1 F2 h1 h2 hd hst => copiedQC_ok h1 (hq.mv hst.still) hsq)
              refine gl_pureR (fun hx33 => ?_)
              obtain ⟨hl33, ho33⟩ := hx33
              replace hl33 : x33.length = 19 := hl33
              have i33 := Len.of hl33
              have j33 := One.of (show ∀ v ∈ x33, v.oneCell' = true from ho33)
              refine yxs ?_
              refine yo2s 5 11 rfl rfl ?_ ?_
              · refine gl_ins (K := digV) (l := []) (key := idOf b) (v := .agg x28.toArray) (wt0 rfl) rfl rfl rfl Ty.un_58 (by repeat (first | exact Pick.here | apply Pick.there)) ?_
                refine yxs ?_
                refine yps 6 rfl zmv ?_
                refine yos 11 rfl ?_
                refine zeN fun b34 => ?_
                refine yxs ?_
                refine yps 12 rfl zbu ?_
                refine yos 13 rfl ?_
                refine zbN fun b36 => ?_
                refine yxs ?_
                refine yps 14 rfl zas ?_
                refine yzs rfl ?_
                refine gp zas ?_
                refine gnt ?_
                refine gc_ret ?_
                refine gx_ret2 rfl (by conv => lhs; whnf) (by conv => lhs; whnf) ?_
                exact new_end he0 hf hl33
              · refine zeN fun b34 => ?_
                refine yxs ?_
                refine yos 5 rfl ?_
                refine gl_ins (K := digV) (l := []) (key := idOf b) (v := .agg x28.toArray) (wt0 rfl) rfl rfl rfl Ty.un_58 (by repeat (first | exact Pick.here | apply Pick.there)) ?_
                refine yxs ?_
                refine yps 6 rfl zmv ?_
                refine yps 12 rfl zbu ?_
                refine yos 13 rfl ?_
                refine zbN fun b36 => ?_
                refine yxs ?_
                refine yps 14 rfl zas ?_
                refine yzs rfl ?_
                refine gp zas ?_
                refine gnt ?_
                refine gc_ret ?_
                refine gx_ret2 rfl (by conv => lhs; whnf) (by conv => lhs; whnf) ?_
                exact new_end he0 hf hl33
          · refine zc (fun x33 => ?_) (c := fun w1 F1 F2 h1 h2 hd hst => copiedQC_ok h1 (hq.mv hst.still) hsq)
            refine gl_pureR (fun hx33 => ?_)
            obtain ⟨hl33, ho33⟩ := hx33
            replace hl33 : x33.length = 19 := hl33
            have i33 := Len.of hl33
            have j33 := One.of (show ∀ v ∈ x33, v.oneCell' = true from ho33)
            refine yxs ?_
            refine yo3s 5 8 11 rfl rfl rfl ?_ ?_ ?_
            · refine gl_ins (K := digV) (l := []) (key := idOf b) (v := .agg x28.toArray) (wt0 rfl) rfl rfl rfl Ty.un_58 (by repeat (first | exact Pick.here | apply Pick.there)) ?_
              refine yxs ?_
              refine yps 6 rfl zmv ?_
              refine yo2s 8 11 rfl rfl ?_ ?_
              · refine zeN fun b31 => ?_
                refine yxs ?_
                refine yos 11 rfl ?_
                refine zeN fun b34 => ?_
                refine yxs ?_
                refine yps 12 rfl zbu ?_
                refine yos 13 rfl ?_
                refine zbN fun b36 => ?_
                refine yxs ?_
                refine yps 14 rfl zas ?_
                refine yzs rfl ?_
                refine gp zas ?_
                refine gnt ?_
                refine gc_ret ?_
                refine gx_ret2 rfl (by conv => lhs; whnf) (by conv => lhs; whnf) ?_
                exact new_end he0 hf hl33
              · refine zeN fun b34 => ?_
                refine yxs ?_
                refine yos 8 rfl ?_
                refine zeN fun b31 => ?_
                refine yxs ?_
                refine yps 12 rfl zbu ?_
                refine yos 13 rfl ?_
                refine zbN fun b36 => ?_
                refine yxs ?_
                refine yps 14 rfl zas ?_
                refine yzs rfl ?_
                refine gp zas ?_
                refine gnt ?_
                refine gc_ret ?_
                refine gx_ret2 rfl (by conv => lhs; whnf) (by conv => lhs; whnf) ?_
                exact new_end he0 hf hl33
            · refine zeN fun b31 => ?_
              refine yxs ?_
              refine yo2s 5 11 rfl rfl ?_ ?_
              · refine gl_ins (K := digV) (l := []) (key := idOf b) (v := .agg x28.toArray) (wt0 rfl) rfl rfl rfl Ty.un_58 (by repeat (first | exact Pick.here | apply Pick.there)) ?_
                refine yxs ?_
                refine yps 6 rfl zmv ?_
                refine yos 11 rfl ?_
                refine zeN fun b34 => ?_
                refine yxs ?_
                refine yps 12 rfl zbu ?_
                refine yos 13 rfl ?_
                refine zbN fun b36 => ?_
                refine yxs ?_
                refine yps 14 rfl zas ?_
                refine yzs rfl ?_
                refine gp zas ?_
                refine gnt ?_
                refine gc_ret ?_
                refine gx_ret2 rfl (by conv => lhs; whnf) (by conv => lhs; whnf) ?_
                exact new_end he0 hf hl33
              · refine zeN fun b34 => ?_
                refine yxs ?_
                refine yos 5 rfl ?_
                refine gl_ins (K := digV) (l := []) (key := idOf b) (v := .agg x28.toArray) (wt0 rfl) rfl rfl rfl Ty.un_58 (by repeat (first | exact Pick.here | apply Pick.there)) ?_
                refine yxs ?_
                refine yps 6 rfl zmv ?_
                refine yps 12 rfl zbu ?_
                refine yos 13 rfl ?_
                refine zbN fun b36 => ?_
                refine yxs ?_
                refine yps 14 rfl zas ?_
                refine yzs rfl ?_
                refine gp zas ?_
                refine gnt ?_
                refine gc_ret ?_
                refine gx_ret2 rfl (by conv => lhs; whnf) (by conv => lhs; whnf) ?_
                exact new_end he0 hf hl33
            · refine zeN fun b34 => ?_
              refine yxs ?_
              refine yo2s 5 8 rfl rfl ?_ ?_
              · refine gl_ins (K := digV) (l := []) (key := idOf b) (v := .agg x28.toArray) (wt0 rfl) rfl rfl rfl Ty.un_58 (by repeat (first | exact Pick.here | apply Pick.there)) ?_
                refine yxs ?_
                refine yps 6 rfl zmv ?_
                refine yos 8 rfl ?_
                refine zeN fun b31 => ?_
                refine yxs ?_
                refine yps 12 rfl zbu ?_
                refine yos 13 rfl ?_
                refine zbN fun b36 => ?_
                refine yxs ?_
                refine yps 14 rfl zas ?_
                refine yzs rfl ?_
                refine gp zas ?_
                refine gnt ?_
                refine gc_ret ?_
                refine gx_ret2 rfl (by conv => lhs; whnf) (by conv => lhs; whnf) ?_
                exact new_end he0 hf hl33
              · refine zeN fun b31 => ?_
                refine yxs ?_
                refine yos 5 rfl ?_
                refine gl_ins (K := digV) (l := []) (key := idOf b) (v := .agg x28.toArray) (wt0 rfl) rfl rfl rfl Ty.un_58 (by repeat (first | exact Pick.here | apply Pick.there)) ?_
                refine yxs ?_
                refine yps 6 rfl zmv ?_
                refine yps 12 rfl zbu ?_
                refine yos 13 rfl ?_
                refine zbN fun b36 => ?_
                refine yxs ?_
                refine yps 14 rfl zas ?_
                refine yzs rfl ?_
                refine gp zas ?_
                refine gnt ?_
                refine gc_ret ?_
                refine gx_ret2 rfl (by conv => lhs; whnf) (by conv => lhs; whnf) ?_
                exact new_end he0 hf hl33
        · refine zeN fun b31 => ?_
          refine yxs ?_
          refine yos 4 rfl ?_
          refine zc (fun x28 => ?_) (c := fun w1 F1 F2 h1 h2 hd hst => copied_ok h1 (hb.mv hst.still) hsb)
          refine gl_pureR (fun hx28 => ?_)
          obtain ⟨hl28, ho28⟩ := hx28
          replace hl28 : x28.length = 39 := hl28
          have i28 := Len.of hl28
          have j28 := One.of (show ∀ v ∈ x28, v.oneCell' = true from ho28)
          refine yxs ?_
          refine yo2s 5 10 rfl rfl ?_ ?_
          · refine gl_ins (K := digV) (l := []) (key := idOf b) (v := .agg x28.toArray) (wt0 rfl) rfl rfl rfl Ty.un_58 (by repeat (first | exact Pick.here | apply Pick.there)) ?_
            refine yxs ?_
            refine yps 6 rfl zmv ?_
            refine yos 10 rfl ?_
            refine zc (fun x33 => ?_) (c := fun w1 F1 F2 h1 h2 hd hst => copiedQC_ok h1 (hq.mv hst.still) hsq)
            refine gl_pureR (fun hx33 => ?_)
            obtain ⟨hl33, ho33⟩ := hx33
            replace hl33 : x33.length = 19 := hl33
            have i33 := Len.of hl33
            have j33 := One.of (show ∀ v ∈ x33, v.oneCell' = true from ho33)
            refine yxs ?_
            refine yos 11 rfl ?_
            refine zeN fun b34 => ?_
            refine yxs ?_
            refine yps 12 rfl zbu ?_
            refine yos 13 rfl ?_
            refine zbN fun b36 => ?_
            refine yxs ?_
            refine yps 14 rfl zas ?_
            refine yzs rfl ?_
            refine gp zas ?_
            refine gnt ?_
            refine gc_ret ?_
            refine gx_ret2 rfl (by conv => lhs; whnf) (by conv => lhs; whnf) ?_
            exact new_end he0 hf hl33
          · refine zc (fun x33 => ?_) (c := fun w1 F1 F2 h1 h2 hd hst => copiedQC_ok h1 (hq.mv hst.still) hsq)
            refine gl_pureR (fun hx33 => ?_)
            obtain ⟨hl33, ho33⟩ := hx33
            replace hl33 : x33.length = 19 := hl33
            have i33 := Len.of hl33
            have j33 := One.of (show ∀ v ∈ x33, v.oneCell' = true from ho33)
            refine yxs ?_
            refine yo2s 5 11 rfl rfl ?_ ?_
            · refine gl_ins (K := digV) (l := []) (key := idOf b) (v := .agg x28.toArray) (wt0 rfl) rfl rfl rfl Ty.un_58 (by repeat (first | exact Pick.here | apply Pick.there)) ?_
              refine yxs ?_
              refine yps 6 rfl zmv ?_
              refine yos 11 rfl ?_
              refine zeN fun b34 => ?_
              refine yxs ?_
              refine yps 12 rfl zbu ?_
              refine yos 13 rfl ?_
              refine zbN fun b36 => ?_
              refine yxs ?_
              refine yps 14 rfl zas ?_
              refine yzs rfl ?_
              refine gp zas ?_
              refine gnt ?_
              refine gc_ret ?_
              refine gx_ret2 rfl (by conv => lhs; whnf) (by conv => lhs; whnf) ?_
              exact new_end he0 hf hl33
            · refine zeN fun b34 => ?_
              refine yxs ?_
              refine yos 5 rfl ?_
              refine gl_ins (K := digV) (l := []) (key := idOf b) (v := .agg x28.toArray) (wt0 rfl) rfl rfl rfl Ty.un_58 (by repeat (first | exact Pick.here | apply Pick.there)) ?_
              refine yxs ?_
              refine yps 6 rfl zmv ?_
              refine yps 12 rfl zbu ?_
              refine yos 13 rfl ?_
              refine zbN fun b36 => ?_
              refine yxs ?_
              refine yps 14 rfl zas ?_
              refine yzs rfl ?_
              refine gp zas ?_
              refine gnt ?_
              refine gc_ret ?_
              refine gx_ret2 rfl (by conv => lhs; whnf) (by conv => lhs; whnf) ?_
              exact new_end he0 hf hl33
      · refine zc (fun x28 => ?_) (c := fun w1 F1 F2 h1 h2 hd hst => copied_ok h1 (hb.mv hst.still) hsb)
        refine gl_pureR (fun hx28 => ?_)
        obtain ⟨hl28, ho28⟩ := hx28
        replace hl28 : x28.length = 39 := hl28
        have i28 := Len.of hl28
        have j28 := One.of (show ∀ v ∈ x28, v.oneCell' = true from ho28)
        refine yxs ?_
        refine yo3s 1 8 10 rfl rfl rfl ?_ ?_ ?_
        · refine gl_mkMap (wt0 rfl) (fun g25 => ?_)
          refine yxs ?_
          refine yo3s 5 8 10 rfl rfl rfl ?_ ?_ ?_
          · refine gl_ins (K := digV) (l := []) (key := idOf b) (v := .agg x28.toArray) (wt0 rfl) rfl rfl rfl Ty.un_58 (by repeat (first | exact Pick.here | apply Pick.there)) ?_
            refine yxs ?_
            refine yps 6 rfl zmv ?_
            refine yo2s 8 10 rfl rfl ?_ ?_
            · refine zeN fun b31 => ?_
              refine yxs ?_
              refine yos 10 rfl ?_
              refine zc (fun x33 => ?_) (c := fun w1 F1 F2 h1 h2 hd hst => copiedQC_ok h1 (hq.mv hst.still) hsq)
              refine gl_pureR (fun hx33 => ?_)
              obtain ⟨hl33, ho33⟩ := hx33
              replace hl33 : x33.length = 19 := hl33
              have i33 := Len.of hl33
              have j33 := One.of (show ∀ v ∈ x33, v.oneCell' = true from ho33)
              refine yxs ?_
              refine yos 11 rfl ?_
              refine zeN fun b34 => ?_
              refine yxs ?_
              refine yps 12 rfl zbu ?_
              refine yos 13 rfl ?_
              refine zbN fun b36 => ?_
              refine yxs ?_
              refine yps 14 rfl zas ?_
              refine yzs rfl ?_
              refine gp zas ?_
              refine gnt ?_
              refine gc_ret ?_
              refine gx_ret2 rfl (by conv => lhs; whnf) (by conv => lhs; whnf) ?_
              exact new_end he0 hf hl33
            · refine zc (fun x33 => ?_) (c := fun w1 F1 F2 h1 h2 hd hst => copiedQC_ok h1 (hq.mv hst.still) hsq)
              refine gl_pureR (fun hx33 => ?_)
              obtain ⟨hl33, ho33⟩ := hx33
              replace hl33 : x33.length = 19 := hl33
              have i33 := Len.of hl33
              have j33 := One.of (show ∀ v ∈ x33, v.oneCell' = true from ho33)
              refine yxs ?_
              refine yo2s 8 11 rfl rfl ?_ ?_
              · refine zeN fun b31 => ?_
                refine yxs ?_
                refine yos 11 rfl ?_
                refine zeN fun b34 => ?_
                refine yxs ?_
                refine yps 12 rfl zbu ?_
                refine yos 13 rfl ?_
                refine zbN fun b36 => ?_
                refine yxs ?_
                refine yps 14 rfl zas ?_
                refine yzs rfl ?_
                refine gp zas ?_
                refine gnt ?_
                refine gc_ret ?_
                refine gx_ret2 rfl (by conv => lhs; whnf) (by conv => lhs; whnf) ?_
                exact new_end he0 hf hl33
              · refine zeN fun b34 => ?_
                refine yxs ?_
                refine yos 8 rfl ?_
                refine zeN fun b31 => ?_
                refine yxs ?_
                refine yps 12 rfl zbu ?_
                refine yos 13 rfl ?_
                refine zbN fun b36 => ?_
                refine yxs ?_
                refine yps 14 rfl zas ?_
                refine yzs rfl ?_
                refine gp zas ?_
                refine gnt ?_
                refine gc_ret ?_
                refine gx_ret2 rfl (by conv => lhs; whnf) (by conv => lhs; whnf) ?_
                exact new_end he0 hf hl33
          · refine zeN fun b31 => ?_
            refine yxs ?_
            refine yo2s 5 10 rfl rfl ?_ ?_
            · refine gl_ins (K := digV) (l := []) (key := idOf b) (v := .agg x28.toArray) (wt0 rfl) rfl rfl rfl Ty.un_58 (by repeat (first | exact Pick.here | apply Pick.there)) ?_
              refine yxs ?_
              refine yps 6 rfl zmv ?_
              refine yos 10 rfl ?_
              refine zc (fun x33 => ?_) (c := fun w1 F1 F2 h1 h2 hd hst => copiedQC_ok h1 (hq.mv hst.still) hsq)
              refine gl_pureR (fun hx33 => ?_)
              obtain ⟨hl33, ho33⟩ := hx33
              replace hl33 : x33.length = 19 := hl33
              have i33 := Len.of hl33
              have j33 := One.of (show ∀ v ∈ x33, v.oneCell' = true from ho33)
              refine yxs ?_
              refine yos 11 rfl ?_
              refine zeN fun b34 => ?_
              refine yxs ?_
              refine yps 12 rfl zbu ?_
              refine yos 13 rfl ?_
              refine zbN fun b36 => ?_
              refine yxs ?_
              refine yps 14 rfl zas ?_
              refine yzs rfl ?_
              refine gp zas ?_
              refine gnt ?_
              refine gc_ret ?_
              refine gx_ret2 rfl (by conv => lhs; whnf) (by conv => lhs; whnf) ?_
              exact new_end he0 hf hl33
            · refine zc (fun x33 => ?_) (c := fun w1 F1 F2 h1 h2 hd hst => copiedQC_ok h1 (hq.mv hst.still) hsq)
              refine gl_pureR (fun hx33 => ?_)
              obtain ⟨hl33, ho33⟩ := hx33
              replace hl33 : x33.length = 19 := hl33
              have i33 := Len.of hl33
              have j33 := One.of (show ∀ v ∈ x33, v.oneCell' = true from ho33)
              refine yxs ?_
              refine yo2s 5 11 rfl rfl ?_ ?_
              · refine gl_ins (K := digV) (l := []) (key := idOf b) (v := .agg x28.toArray) (wt0 rfl) rfl rfl rfl Ty.un_58 (by repeat (first | exact Pick.here | apply Pick.there)) ?_
                refine yxs ?_
                refine yps 6 rfl zmv ?_
                refine yos 11 rfl ?_
                refine zeN fun b34 => ?_
                refine yxs ?_
                refine yps 12 rfl zbu ?_
                refine yos 13 rfl ?_
                refine zbN fun b36 => ?_
                refine yxs ?_
                refine yps 14 rfl zas ?_
                refine yzs rfl ?_
                refine gp zas ?_
                refine gnt ?_
                refine gc_ret ?_
                refine gx_ret2 rfl (by conv => lhs; whnf) (by conv => lhs; whnf) ?_
                exact new_end he0 hf hl33
              · refine zeN fun b34 => ?_
                refine yxs ?_
                refine yos 5 rfl ?_
                refine gl_ins (K := digV) (l := []) (key := idOf b) (v := .agg x28.toArray) (wt0 rfl) rfl rfl rfl Ty.un_58 (by repeat (first | exact Pick.here | apply Pick.there)) ?_
                refine yxs ?_
                refine yps 6 rfl zmv ?_
                refine yps 12 rfl zbu ?_
                refine yos 13 rfl ?_
                refine zbN fun b36 => ?_
                refine yxs ?_
                refine yps 14 rfl zas ?_
                refine yzs rfl ?_
                refine gp zas ?_
                refine gnt ?_
                refine gc_ret ?_
                refine gx_ret2 rfl (by conv => lhs; whnf) (by conv => lhs; whnf) ?_
                exact new_end he0 hf hl33
          · refine zc (fun x33 => ?_) (c := fun w1 F1 F2 h1 h2 hd hst => copiedQC_ok h1 (hq.mv hst.still) hsq)
            refine gl_pureR (fun hx33 => ?_)
            obtain ⟨hl33, ho33⟩ := hx33
            replace hl33 : x33.length = 19 := hl33
            have i33 := Len.of hl33
            have j33 := One.of (show ∀ v ∈ x33, v.oneCell' = true from ho33)
            refine yxs ?_
            refine yo3s 5 8 11 rfl rfl rfl ?_ ?_ ?_
            · refine gl_ins (K := digV) (l := []) (key := idOf b) (v := .agg x28.toArray) (wt0 rfl) rfl rfl rfl Ty.un_58 (by repeat (first | exact Pick.here | apply Pick.there)) ?_
              refine yxs ?_
              refine yps 6 rfl zmv ?_
              refine yo2s 8 11 rfl rfl ?_ ?_
              · refine zeN fun b31 => ?_
                refine yxs ?_
                refine yos 11 rfl ?_
                refine zeN fun b34 => ?_
                refine yxs ?_
                refine yps 12 rfl zbu ?_
                refine yos 13 rfl ?_
                refine zbN fun b36 => ?_
                refine yxs ?_
                refine yps 14 rfl zas ?_
                refine yzs rfl ?_
                refine gp zas ?_
                refine gnt ?_
                refine gc_ret ?_
                refine gx_ret2 rfl (by conv => lhs; whnf) (by conv => lhs; whnf) ?_
                exact new_end he0 hf hl33
              · refine zeN fun b34 => ?_
                refine yxs ?_
                refine yos 8 rfl ?_
                refine zeN fun b31 => ?_
                refine yxs ?_
                refine yps 12 rfl zbu ?_
                refine yos 13 rfl ?_
                refine zbN fun b36 => ?_
                refine yxs ?_
                refine yps 14 rfl zas ?_
                refine yzs rfl ?_
                refine gp zas ?_
                refine gnt ?_
                refine gc_ret ?_
                refine gx_ret2 rfl (by conv => lhs; whnf) (by conv => lhs; whnf) ?_
                exact new_end he0 hf hl33
            · refine zeN fun b31 => ?_
              refine yxs ?_
              refine yo2s 5 11 rfl rfl ?_ ?_
              · refine gl_ins (K := digV) (l := []) (key := idOf b) (v := .agg x28.toArray) (wt0 rfl) rfl rfl rfl Ty.un_58 (by repeat (first | exact Pick.here | apply Pick.there)) ?_
                refine yxs ?_
                refine yps 6 rfl zmv ?_
                refine yos 11 rfl ?_
                refine zeN fun b34 => ?_
                refine yxs ?_
                refine yps 12 rfl zbu ?_
                refine yos 13 rfl ?_
                refine zbN fun b36 => ?_
                refine yxs ?_
                refine yps 14 rfl zas ?_
                refine yzs rfl ?_
                refine gp zas ?_
                refine gnt ?_
                refine gc_ret ?_
                refine gx_ret2 rfl (by conv => lhs; whnf) (by conv => lhs; whnf) ?_
                exact new_end he0 hf hl33
              · refine zeN fun b34 => ?_
                refine yxs ?_
                refine yos 5 rfl ?_
                refine gl_ins (K := digV) (l := []) (key := idOf b) (v := .agg x28.toArray) (wt0 rfl) rfl rfl rfl Ty.un_58 (by repeat (first | exact Pick.here | apply Pick.there)) ?_
                refine yxs ?_
                refine yps 6 rfl zmv ?_
                refine yps 12 rfl zbu ?_
                refine yos 13 rfl ?_
                refine zbN fun b36 => ?_
                refine yxs ?_
                refine yps 14 rfl zas ?_
                refine yzs rfl ?_
                refine gp zas ?_
                refine gnt ?_
                refine gc_ret ?_
                refine gx_ret2 rfl (by conv => lhs; whnf) (by conv => lhs; whnf) ?_
                exact new_end he0 hf hl33
            · refine zeN fun b34 => ?_
              refine yxs ?_
              refine yo2s 5 8 rfl rfl ?_ ?_
              · refine gl_ins (K := digV) (l := []) (key := idOf b) (v := .agg x28.toArray) (wt0 rfl) rfl rfl rfl Ty.un_58 (by repeat (first | exact Pick.here | apply Pick.there)) ?_
                refine yxs ?_
                refine yps 6 rfl zmv ?_
                refine yos 8 rfl ?_
                refine zeN fun b31 => ?_
                refine yxs ?_
                refine yps 12 rfl zbu ?_
                refine yos 13 rfl ?_
                refine zbN fun b36 => ?_
                refine yxs ?_
                refine yps 14 rfl zas ?_
                refine yzs rfl ?_
                refine gp zas ?_
                refine gnt ?_
                refine gc_ret ?_
                refine gx_ret2 rfl (by conv => lhs; whnf) (by conv => lhs; whnf) ?_
                exact new_end he0 hf hl33
              · refine zeN fun b31 => ?_
                refine yxs ?_
                refine yos 5 rfl ?_
                refine gl_ins (K := digV) (l := []) (key := idOf b) (v := .agg x28.toArray) (wt0 rfl) rfl rfl rfl Ty.un_58 (by repeat (first | exact Pick.here | apply Pick.there)) ?_
                refine yxs ?_
                refine yps 6 rfl zmv ?_
                refine yps 12 rfl zbu ?_
                refine yos 13 rfl ?_
                refine zbN fun b36 => ?_
                refine yxs ?_
                refine yps 14 rfl zas ?_
                refine yzs rfl ?_
                refine gp zas ?_
                refine gnt ?_
                refine gc_ret ?_
                refine gx_ret2 rfl (by conv => lhs; whnf) (by conv => lhs; whnf) ?_
                exact new_end he0 hf hl33
        · refine zeN fun b31 => ?_
          refine yxs ?_
          refine yo2s 1 10 rfl rfl ?_ ?_
          · refine gl_mkMap (wt0 rfl) (fun g25 => ?_)
            refine yxs ?_
            refine yo2s 5 10 rfl rfl ?_ ?_
            · refine gl_ins (K := digV) (l := []) (key := idOf b) (v := .agg x28.toArray) (wt0 rfl) rfl rfl rfl Ty.un_58 (by repeat (first | exact Pick.here | apply Pick.there)) ?_
              refine yxs ?_
              refine yps 6 rfl zmv ?_
              refine yos 10 rfl ?_
              refine zc (fun x33 => ?_) (c := fun w1 F1 F2 h1 h2 hd hst => copiedQC_ok h1 (hq.mv hst.still) hsq)
              refine gl_pureR (fun hx33 => ?_)
              obtain ⟨hl33, ho33⟩ := hx33
              replace hl33 : x33.length = 19 := hl33
              have i33 := Len.of hl33
              have j33 := One.of (show ∀ v ∈ x33, v.oneCell' = true from ho33)
              refine yxs ?_
              refine yos 11 rfl ?_
              refine zeN fun b34 => ?_
              refine yxs ?_
              refine yps 12 rfl zbu ?_
              refine yos 13 rfl ?_
              refine zbN fun b36 => ?_
              refine yxs ?_
              refine yps 14 rfl zas ?_
              refine yzs rfl ?_
              refine gp zas ?_
              refine gnt ?_
              refine gc_ret ?_
              refine gx_ret2 rfl (by conv => lhs; whnf) (by conv => lhs; whnf) ?_
              exact new_end he0 hf hl33
            · refine zc (fun x33 => ?_) (c := fun w1 F1 F2 h1 h2 hd hst => copiedQC_ok h1 (hq.mv hst.still) hsq)
              refine gl_pureR (fun hx33 => ?_)
              obtain ⟨hl33, ho33⟩ := hx33
              replace hl33 : x33.length = 19 := hl33
              have i33 := Len.of hl33
              have j33 := One.of (show ∀ v ∈ x33, v.oneCell' = true from ho33)
              refine yxs ?_
              refine yo2s 5 11 rfl rfl ?_ ?_
              · refine gl_ins (K := digV) (l := []) (key := idOf b) (v := .agg x28.toArray) (wt0 rfl) rfl rfl rfl Ty.un_58 (by repeat (first | exact Pick.here | apply Pick.there)) ?_
                refine yxs ?_
                refine yps 6 rfl zmv ?_
                refine yos 11 rfl ?_
                refine zeN fun b34 => ?_
                refine yxs ?_
                refine yps 12 rfl zbu ?_
                refine yos 13 rfl ?_
                refine zbN fun b36 => ?_
                refine yxs ?_
                refine yps 14 rfl zas ?_
                refine yzs rfl ?_
                refine gp zas ?_
                refine gnt ?_
                refine gc_ret ?_
                refine gx_ret2 rfl (by conv => lhs; whnf) (by conv => lhs; whnf) ?_
                exact new_end he0 hf hl33
              · refine zeN fun b34 => ?_
                refine yxs ?_
                refine yos 5 rfl ?_
                refine gl_ins (K := digV) (l := []) (key := idOf b) (v := .agg x28.toArray) (wt0 rfl) rfl rfl rfl Ty.un_58 (by repeat (first | exact Pick.here | apply Pick.there)) ?_
                refine yxs ?_
                refine yps 6 rfl zmv ?_
                refine yps 12 rfl zbu ?_
                refine yos 13 rfl ?_
                refine zbN fun b36 => ?_
                refine yxs ?_
                refine yps 14 rfl zas ?_
                refine yzs rfl ?_
                refine gp zas ?_
                refine gnt ?_
                refine gc_ret ?_
                refine gx_ret2 rfl (by conv => lhs; whnf) (by conv => lhs; whnf) ?_
                exact new_end he0 hf hl33
          · refine zc (fun x33 => ?_) (c := fun w1 F1 F2 h1 h2 hd hst => copiedQC_ok h1 (hq.mv hst.still) hsq)
            refine gl_pureR (fun hx33 => ?_)
            obtain ⟨hl33, ho33⟩ := hx33
            replace hl33 : x33.length = 19 := hl33
            have i33 := Len.of hl33
            have j33 := One.of (show ∀ v ∈ x33, v.oneCell' = true from ho33)
            refine yxs ?_
            refine yo2s 1 11 rfl rfl ?_ ?_
            · refine gl_mkMap (wt0 rfl) (fun g25 => ?_)
              refine yxs ?_
              refine yo2s 5 11 rfl rfl ?_ ?_
              · refine gl_ins (K := digV) (l := []) (key := idOf b) (v := .agg x28.toArray) (wt0 rfl) rfl rfl rfl Ty.un_58 (by repeat (first | exact Pick.here | apply Pick.there)) ?_
                refine yxs ?_
                refine yps 6 rfl zmv ?_
                refine yos 11 rfl ?_
                refine zeN fun b34 => ?_
                refine yxs ?_
                refine yps 12 rfl zbu ?_
                refine yos 13 rfl ?_
                refine zbN fun b36 => ?_
                refine yxs ?_
                refine yps 14 rfl zas ?_
                refine yzs rfl ?_
                refine gp zas ?_
                refine gnt ?_
                refine gc_ret ?_
                refine gx_ret2 rfl (by conv => lhs; whnf) (by conv => lhs; whnf) ?_
                exact new_end he0 hf hl33
              · refine zeN fun b34 => ?_
                refine yxs ?_
                refine yos 5 rfl ?_
                refine gl_ins (K := digV) (l := []) (key := idOf b) (v := .agg x28.toArray) (wt0 rfl) rfl rfl rfl Ty.un_58 (by repeat (first | exact Pick.here | apply Pick.there)) ?_
                refine yxs ?_
                refine yps 6 rfl zmv ?_
                refine yps 12 rfl zbu ?_
                refine yos 13 rfl ?_
                refine zbN fun b36 => ?_
                refine yxs ?_
                refine yps 14 rfl zas ?_
                refine yzs rfl ?_
                refine gp zas ?_
                refine gnt ?_
                refine gc_ret ?_
                refine gx_ret2 rfl (by conv => lhs; whnf) (by conv => lhs; whnf) ?_
                exact new_end he0 hf hl33
            · refine zeN fun b34 => ?_
              refine yxs ?_
              refine yos 1 rfl ?_
              refine gl_mkMap (wt0 rfl) (fun g25 => ?_)
              refine yxs ?_
              refine yos 5 rfl ?_
              refine gl_ins (K := digV) (l := []) (key := idOf b) (v := .agg x28.toArray) (wt0 rfl) rfl rfl rfl Ty.un_58 (by repeat (first | exact Pick.here | apply Pick.there)) ?_
              refine yxs ?_
              refine yps 6 rfl zmv ?_
              refine yps 12 rfl zbu ?_
              refine yos 13 rfl ?_
              refine zbN fun b36 => ?_
              refine yxs ?_
              refine yps 14 rfl zas ?_
              refine yzs rfl ?_
              refine gp zas ?_
              refine gnt ?_
              refine gc_ret ?_
              refine gx_ret2 rfl (by conv => lhs; whnf) (by conv => lhs; whnf) ?_
              exact new_end he0 hf hl33
        · refine zc (fun x33 => ?_) (c := fun w1 F1 F2 h1 h2 hd hst => copiedQC_ok h1 (hq.mv hst.still) hsq)
          refine gl_pureR (fun hx33 => ?_)
          obtain ⟨hl33, ho33⟩ := hx33
          replace hl33 : x33.length = 19 := hl33
          have i33 := Len.of hl33
          have j33 := One.of (show ∀ v ∈ x33, v.oneCell' = true from ho33)
          refine yxs ?_
          refine yo3s 1 8 11 rfl rfl rfl ?_ ?_ ?_
          · refine gl_mkMap (wt0 rfl) (fun g25 => ?_)
            refine yxs ?_
            refine yo3s 5 8 11 rfl rfl rfl ?_ ?_ ?_
            · refine gl_ins (K := digV) (l := []) (key := idOf b) (v := .agg x28.toArray) (wt0 rfl) rfl rfl rfl Ty.un_58 (by repeat (first | exact Pick.here | apply Pick.there)) ?_
              refine yxs ?_
              refine yps 6 rfl zmv ?_
              refine yo2s 8 11 rfl rfl ?_ ?_
              · refine zeN fun b31 => ?_
                refine yxs ?_
                refine yos 11 rfl ?_
                refine zeN fun b34 => ?_
                refine yxs ?_
                refine yps 12 rfl zbu ?_
                refine yos 13 rfl ?_
                refine zbN fun b36 => ?_
                refine yxs ?_
                refine yps 14 rfl zas ?_
                refine yzs rfl ?_
                refine gp zas ?_
                refine gnt ?_
                refine gc_ret ?_
                refine gx_ret2 rfl (by conv => lhs; whnf) (by conv => lhs; whnf) ?_
                exact new_end he0 hf hl33
              · refine zeN fun b34 => ?_
                refine yxs ?_
                refine yos 8 rfl ?_
                refine zeN fun b31 => ?_
                refine yxs ?_
                refine yps 12 rfl zbu ?_
                refine yos 13 rfl ?_
                refine zbN fun b36 => ?_
                refine yxs ?_
                refine yps 14 rfl zas ?_
                refine yzs rfl ?_
                refine gp zas ?_
                refine gnt ?_
                refine gc_ret ?_
                refine gx_ret2 rfl (by conv => lhs; whnf) (by conv => lhs; whnf) ?_
                exact new_end he0 hf hl33
            · refine zeN fun b31 => ?_
              refine yxs ?_
              refine yo2s 5 11 rfl rfl ?_ ?_
              · refine gl_ins (K := digV) (l := []) (key := idOf b) (v := .agg x28.toArray) (wt0 rfl) rfl rfl rfl Ty.un_58 (by repeat (first | exact Pick.here | apply Pick.there)) ?_
                refine yxs ?_
                refine yps 6 rfl zmv ?_
                refine yos 11 rfl ?_
                refine zeN fun b34 => ?_
                refine yxs ?_
                refine yps 12 rfl zbu ?_
                refine yos 13 rfl ?_
                refine zbN fun b36 => ?_
                refine yxs ?_
                refine yps 14 rfl zas ?_
                refine yzs rfl ?_
                refine gp zas ?_
                refine gnt ?_
                refine gc_ret ?_
                refine gx_ret2 rfl (by conv => lhs; whnf) (by conv => lhs; whnf) ?_
                exact new_end he0 hf hl33
              · refine zeN fun b34 => ?_
                refine yxs ?_
                refine yos 5 rfl ?_
                refine gl_ins (K := digV) (l := []) (key := idOf b) (v := .agg x28.toArray) (wt0 rfl) rfl rfl rfl Ty.un_58 (by repeat (first | exact Pick.here | apply Pick.there)) ?_
                refine yxs ?_
                refine yps 6 rfl zmv ?_
                refine yps 12 rfl zbu ?_
                refine yos 13 rfl ?_
                refine zbN fun b36 => ?_
                refine yxs ?_
                refine yps 14 rfl zas ?_
                refine yzs rfl ?_
                refine gp zas ?_
                refine gnt ?_
                refine gc_ret ?_
                refine gx_ret2 rfl (by conv => lhs; whnf) (by conv => lhs; whnf) ?_
                exact new_end he0 hf hl33
            · refine zeN fun b34 => ?_
              refine yxs ?_
              refine yo2s 5 8 rfl rfl ?_ ?_
              · refine gl_ins (K := digV) (l := []) (key := idOf b) (v := .agg x28.toArray) (wt0 rfl) rfl rfl rfl Ty.un_58 (by repeat (first | exact Pick.here | apply Pick.there)) ?_
                refine yxs ?_
                refine yps 6 rfl zmv ?_
                refine yos 8 rfl ?_
                refine zeN fun b31 => ?_
                refine yxs ?_
                refine yps 12 rfl zbu ?_
                refine yos 13 rfl ?_
                refine zbN fun b36 => ?_
                refine yxs ?_
                refine yps 14 rfl zas ?_
                refine yzs rfl ?_
                refine gp zas ?_
                refine gnt ?_
                refine gc_ret ?_
                refine gx_ret2 rfl (by conv => lhs; whnf) (by conv => lhs; whnf) ?_
                exact new_end he0 hf hl33
              · refine zeN fun b31 => ?_
                refine yxs ?_
                refine yos 5 rfl ?_
                refine gl_ins (K := digV) (l := []) (key := idOf b) (v := .agg x28.toArray) (wt0 rfl) rfl rfl rfl Ty.un_58 (by repeat (first | exact Pick.here | apply Pick.there)) ?_
                refine yxs ?_
                refine yps 6 rfl zmv ?_
                refine yps 12 rfl zbu ?_
                refine yos 13 rfl ?_
                refine zbN fun b36 => ?_
                refine yxs ?_
                refine yps 14 rfl zas ?_
                refine yzs rfl ?_
                refine gp zas ?_
                refine gnt ?_
                refine gc_ret ?_
                refine gx_ret2 rfl (by conv => lhs; whnf) (by conv => lhs; whnf) ?_
                exact new_end he0 hf hl33
          · refine zeN fun b31 => ?_
            refine yxs ?_
            refine yo2s 1 11 rfl rfl ?_ ?_
            · refine gl_mkMap (wt0 rfl) (fun g25 => ?_)
              refine yxs ?_
              refine yo2s 5 11 rfl rfl ?_ ?_
              · refine gl_ins (K := digV) (l := []) (key := idOf b) (v := .agg x28.toArray) (wt0 rfl) rfl rfl rfl Ty.un_58 (by repeat (first | exact Pick.here | apply Pick.there)) ?_
                refine yxs ?_
                refine yps 6 rfl zmv ?_
                refine yos 11 rfl ?_
                refine zeN fun b34 => ?_
                refine yxs ?_
                refine yps 12 rfl zbu ?_
                refine yos 13 rfl ?_
                refine zbN fun b36 => ?_
                refine yxs ?_
                refine yps 14 rfl zas ?_
                refine yzs rfl ?_
                refine gp zas ?_
                refine gnt ?_
                refine gc_ret ?_
                refine gx_ret2 rfl (by conv => lhs; whnf) (by conv => lhs; whnf) ?_
                exact new_end he0 hf hl33
              · refine zeN fun b34 => ?_
                refine yxs ?_
                refine yos 5 rfl ?_
                refine gl_ins (K := digV) (l := []) (key := idOf b) (v := .agg x28.toArray) (wt0 rfl) rfl rfl rfl Ty.un_58 (by repeat (first | exact Pick.here | apply Pick.there)) ?_
                refine yxs ?_
                refine yps 6 rfl zmv ?_
                refine yps 12 rfl zbu ?_
                refine yos 13 rfl ?_
                refine zbN fun b36 => ?_
                refine yxs ?_
                refine yps 14 rfl zas ?_
                refine yzs rfl ?_
                refine gp zas ?_
                refine gnt ?_
                refine gc_ret ?_
                refine gx_ret2 rfl (by conv => lhs; whnf) (by conv => lhs; whnf) ?_
                exact new_end he0 hf hl33
            · refine zeN fun b34 => ?_
              refine yxs ?_
              refine yos 1 rfl ?_
              refine gl_mkMap (wt0 rfl) (fun g25 => ?_)
              refine yxs ?_
              refine yos 5 rfl ?_
              refine gl_ins (K := digV) (l := []) (key := idOf b) (v := .agg x28.toArray) (wt0 rfl) rfl rfl rfl Ty.un_58 (by repeat (first | exact Pick.here | apply Pick.there)) ?_
              refine yxs ?_
              refine yps 6 rfl zmv ?_
              refine yps 12 rfl zbu ?_
              refine yos 13 rfl ?_
              refine zbN fun b36 => ?_
              refine yxs ?_
              refine yps 14 rfl zas ?_
              refine yzs rfl ?_
              refine gp zas ?_
              refine gnt ?_
              refine gc_ret ?_
              refine gx_ret2 rfl (by conv => lhs; whnf) (by conv => lhs; whnf) ?_
              exact new_end he0 hf hl33
          · refine zeN fun b34 => ?_
            refine yxs ?_
            refine yo2s 1 8 rfl rfl ?_ ?_
            · refine gl_mkMap (wt0 rfl) (fun g25 => ?_)
              refine yxs ?_
              refine yo2s 5 8 rfl rfl ?_ ?_
              · refine gl_ins (K := digV) (l := []) (key := idOf b) (v := .agg x28.toArray) (wt0 rfl) rfl rfl rfl Ty.un_58 (by repeat (first | exact Pick.here | apply Pick.there)) ?_
                refine yxs ?_
                refine yps 6 rfl zmv ?_
                refine yos 8 rfl ?_
                refine zeN fun b31 => ?_
                refine yxs ?_
                refine yps 12 rfl zbu ?_
                refine yos 13 rfl ?_
                refine zbN fun b36 => ?_
                refine yxs ?_
                refine yps 14 rfl zas ?_
                refine yzs rfl ?_
                refine gp zas ?_
                refine gnt ?_
                refine gc_ret ?_
                refine gx_ret2 rfl (by conv => lhs; whnf) (by conv => lhs; whnf) ?_
                exact new_end he0 hf hl33
              · refine zeN fun b31 => ?_
                refine yxs ?_
                refine yos 5 rfl ?_
                refine gl_ins (K := digV) (l := []) (key := idOf b) (v := .agg x28.toArray) (wt0 rfl) rfl rfl rfl Ty.un_58 (by repeat (first | exact Pick.here | apply Pick.there)) ?_
                refine yxs ?_
                refine yps 6 rfl zmv ?_
                refine yps 12 rfl zbu ?_
                refine yos 13 rfl ?_
                refine zbN fun b36 => ?_
                refine yxs ?_
                refine yps 14 rfl zas ?_
                refine yzs rfl ?_
                refine gp zas ?_
                refine gnt ?_
                refine gc_ret ?_
                refine gx_ret2 rfl (by conv => lhs; whnf) (by conv => lhs; whnf) ?_
                exact new_end he0 hf hl33
            · refine zeN fun b31 => ?_
              refine yxs ?_
              refine yos 1 rfl ?_
              refine gl_mkMap (wt0 rfl) (fun g25 => ?_)
              refine yxs ?_
              refine yos 5 rfl ?_
              refine gl_ins (K := digV) (l := []) (key := idOf b) (v := .agg x28.toArray) (wt0 rfl) rfl rfl rfl Ty.un_58 (by repeat (first | exact Pick.here | apply Pick.there)) ?_
              refine yxs ?_
              refine yps 6 rfl zmv ?_
              refine yps 12 rfl zbu ?_
              refine yos 13 rfl ?_
              refine zbN fun b36 => ?_
              refine yxs ?_
              refine yps 14 rfl zas ?_
              refine yzs rfl ?_
              refine gp zas ?_
              refine gnt ?_
              refine gc_ret ?_
              refine gx_ret2 rfl (by conv => lhs; whnf) (by conv => lhs; whnf) ?_
              exact new_end he0 hf hl33
      · refine zeN fun b31 => ?_
        refine yxs ?_
        refine yo2s 1 4 rfl rfl ?_ ?_
        · refine gl_mkMap (wt0 rfl) (fun g25 => ?_)
          refine yxs ?_
          refine yos 4 rfl ?_
          refine zc (fun x28 => ?_) (c := fun w1 F1 F2 h1 h2 hd hst => copied_ok h1 (hb.mv hst.still) hsb)
          refine gl_pureR (fun hx28 => ?_)
          obtain ⟨hl28, ho28⟩ := hx28
          replace hl28 : x28.length = 39 := hl28
          have i28 := Len.of hl28
          have j28 := One.of (show ∀ v ∈ x28, v.oneCell' = true from ho28)
          refine yxs ?_
          refine yo2s 5 10 rfl rfl ?_ ?_
          · refine gl_ins (K := digV) (l := []) (key := idOf b) (v := .agg x28.toArray) (wt0 rfl) rfl rfl rfl Ty.un_58 (by repeat (first | exact Pick.here | apply Pick.there)) ?_
            refine yxs ?_
            refine yps 6 rfl zmv ?_
            refine yos 10 rfl ?_
            refine zc (fun x33 => ?_) (c := fun w1 F1 F2 h1 h2 hd hst => copiedQC_ok h1 (hq.mv hst.still) hsq)
            refine gl_pureR (fun hx33 => ?_)
            obtain ⟨hl33, ho33⟩ := hx33
            replace hl33 : x33.length = 19 := hl33
            have i33 := Len.of hl33
            have j33 := One.of (show ∀ v ∈ x33, v.oneCell' = true from ho33)
            refine yxs ?_
            refine yos 11 rfl ?_
            refine zeN fun b34 => ?_
            refine yxs ?_
            refine yps 12 rfl zbu ?_
            refine yos 13 rfl ?_
            refine zbN fun b36 => ?_
            refine yxs ?_
            refine yps 14 rfl zas ?_
            refine yzs rfl ?_
            refine gp zas ?_
            refine gnt ?_
            refine gc_ret ?_
            refine gx_ret2 rfl (by conv => lhs; whnf) (by conv => lhs; whnf) ?_
            exact new_end he0 hf hl33
          · refine zc (fun x33 => ?_) (c := fun w1 F1 F2 h1 h2 hd hst => copiedQC_ok h1 (hq.mv hst.still) hsq)
            refine gl_pureR (fun hx33 => ?_)
            obtain ⟨hl33, ho33⟩ := hx33
            replace hl33 : x33.length = 19 := hl33
            have i33 := Len.of hl33
            have j33 := One.of (show ∀ v ∈ x33, v.oneCell' = true from ho33)
            refine yxs ?_
            refine yo2s 5 11 rfl rfl ?_ ?_
            · refine gl_ins (K := digV) (l := []) (key := idOf b) (v := .agg x28.toArray) (wt0 rfl) rfl rfl rfl Ty.un_58 (by repeat (first | exact Pick.here | apply Pick.there)) ?_
              refine yxs ?_
              refine yps 6 rfl zmv ?_
              refine yos 11 rfl ?_
              refine zeN fun b34 => ?_
              refine yxs ?_
              refine yps 12 rfl zbu ?_
              refine yos 13 rfl ?_
              refine zbN fun b36 => ?_
              refine yxs ?_
              refine yps 14 rfl zas ?_
              refine yzs rfl ?_
              refine gp zas ?_
              refine gnt ?_
              refine gc_ret ?_
              refine gx_ret2 rfl (by conv => lhs; whnf) (by conv => lhs; whnf) ?_
              exact new_end he0 hf hl33
            · refine zeN fun b34 => ?_
              refine yxs ?_
              refine yos 5 rfl ?_
              refine gl_ins (K := digV) (l := []) (key := idOf b) (v := .agg x28.toArray) (wt0 rfl) rfl rfl rfl Ty.un_58 (by repeat (first | exact Pick.here | apply Pick.there)) ?_
              refine yxs ?_
              refine yps 6 rfl zmv ?_
              refine yps 12 rfl zbu ?_
              refine yos 13 rfl ?_
              refine zbN fun b36 => ?_
              refine yxs ?_
              refine yps 14 rfl zas ?_
              refine yzs rfl ?_
              refine gp zas ?_
              refine gnt ?_
              refine gc_ret ?_
              refine gx_ret2 rfl (by conv => lhs; whnf) (by conv => lhs; whnf) ?_
              exact new_end he0 hf hl33
        · refine zc (fun x28 => ?_) (c := fun w1 F1 F2 h1 h2 hd hst => copied_ok h1 (hb.mv hst.still) hsb)
          refine gl_pureR (fun hx28 => ?_)
          obtain ⟨hl28, ho28⟩ := hx28
          replace hl28 : x28.length = 39 := hl28
          have i28 := Len.of hl28
          have j28 := One.of (show ∀ v ∈ x28, v.oneCell' = true from ho28)
          refine yxs ?_
          refine yo2s 1 10 rfl rfl ?_ ?_
          · refine gl_mkMap (wt0 rfl) (fun g25 => ?_)
            refine yxs ?_
            refine yo2s 5 10 rfl rfl ?_ ?_
            · refine gl_ins (K := digV) (l := []) (key := idOf b) (v := .agg x28.toArray) (wt0 rfl) rfl rfl rfl Ty.un_58 (by repeat (first | exact Pick.here | apply Pick.there)) ?_
              refine yxs ?_
              refine yps 6 rfl zmv ?_
              refine yos 10 rfl ?_
              refine zc (fun x33 => ?_) (c := fun w1 F1 F2 h1 h2 hd hst => copiedQC_ok h1 (hq.mv hst.still) hsq)
              refine gl_pureR (fun hx33 => ?_)
              obtain ⟨hl33, ho33⟩ := hx33
              replace hl33 : x33.length = 19 := hl33
              have i33 := Len.of hl33
              have j33 := One.of (show ∀ v ∈ x33, v.oneCell' = true from ho33)
              refine yxs ?_
              refine yos 11 rfl ?_
              refine zeN fun b34 => ?_
              refine yxs ?_
              refine yps 12 rfl zbu ?_
              refine yos 13 rfl ?_
              refine zbN fun b36 => ?_
              refine yxs ?_
              refine yps 14 rfl zas ?_
              refine yzs rfl ?_
              refine gp zas ?_
              refine gnt ?_
              refine gc_ret ?_
              refine gx_ret2 rfl (by conv => lhs; whnf) (by conv => lhs; whnf) ?_
              exact new_end he0 hf hl33
            · refine zc (fun x33 => ?_) (c := fun w1 F1 F2 h1 h2 hd hst => copiedQC_ok h1 (hq.mv hst.still) hsq)
              refine gl_pureR (fun hx33 => ?_)
              obtain ⟨hl33, ho33⟩ := hx33
              replace hl33 : x33.length = 19 := hl33
              have i33 := Len.of hl33
              have j33 := One.of (show ∀ v ∈ x33, v.oneCell' = true from ho33)
              refine yxs ?_
              refine yo2s 5 11 rfl rfl ?_ ?_
              · refine gl_ins (K := digV) (l := []) (key := idOf b) (v := .agg x28.toArray) (wt0 rfl) rfl rfl rfl Ty.un_58 (by repeat (first | exact Pick.here | apply Pick.there)) ?_
                refine yxs ?_
                refine yps 6 rfl zmv ?_
                refine yos 11 rfl ?_
                refine zeN fun b34 => ?_
                refine yxs ?_
                refine yps 12 rfl zbu ?_
                refine yos 13 rfl ?_
                refine zbN fun b36 => ?_
                refine yxs ?_
                refine yps 14 rfl zas ?_
                refine yzs rfl ?_
                refine gp zas ?_
                refine gnt ?_
                refine gc_ret ?_
                refine gx_ret2 rfl (by conv => lhs; whnf) (by conv => lhs; whnf) ?_
                exact new_end he0 hf hl33
              · refine zeN fun b34 => ?_
                refine yxs ?_
                refine yos 5 rfl ?_
                refine gl_ins (K := digV) (l := []) (key := idOf b) (v := .agg x28.toArray) (wt0 rfl) rfl rfl rfl Ty.un_58 (by repeat (first | exact Pick.here | apply Pick.there)) ?_
                refine yxs ?_
                refine yps 6 rfl zmv ?_
                refine yps 12 rfl zbu ?_
                refine yos 13 rfl ?_
                refine zbN fun b36 => ?_
                refine yxs ?_
                refine yps 14 rfl zas ?_
                refine yzs rfl ?_
                refine gp zas ?_
                refine gnt ?_
                refine gc_ret ?_
                refine gx_ret2 rfl (by conv => lhs; whnf) (by conv => lhs; whnf) ?_
                exact new_end he0 hf hl33
          · refine zc (fun x33 => ?_) (c := fun w1 F1 F2 h1 h2 hd hst => copiedQC_ok h1 (hq.mv hst.still) hsq)
            refine gl_pureR (fun hx33 => ?_)
            obtain ⟨hl33, ho33⟩ := hx33
            replace hl33 : x33.length = 19 := hl33
            have i33 := Len.of hl33
            have j33 := One.of (show ∀ v ∈ x33, v.oneCell' = true from ho33)
            refine yxs ?_
            refine yo2s 1 11 rfl rfl ?_ ?_
            · refine gl_mkMap (wt0 rfl) (fun g25 => ?_)
              refine yxs ?_
              refine yo2s 5 11 rfl rfl ?_ ?_
              · refine gl_ins (K := digV) (l := []) (key := idOf b) (v := .agg x28.toArray) (wt0 rfl) rfl rfl rfl Ty.un_58 (by repeat (first | exact Pick.here | apply Pick.there)) ?_
                refine yxs ?_
                refine yps 6 rfl zmv ?_
                refine yos 11 rfl ?_
                refine zeN fun b34 => ?_
                refine yxs ?_
                refine yps 12 rfl zbu ?_
                refine yos 13 rfl ?_
                refine zbN fun b36 => ?_
                refine yxs ?_
                refine yps 14 rfl zas ?_
                refine yzs rfl ?_
                refine gp zas ?_
                refine gnt ?_
                refine gc_ret ?_
                refine gx_ret2 rfl (by conv => lhs; whnf) (by conv => lhs; whnf) ?_
                exact new_end he0 hf hl33
              · refine zeN fun b34 => ?_
                refine yxs ?_
                refine yos 5 rfl ?_
                refine gl_ins (K := digV) (l := []) (key := idOf b) (v := .agg x28.toArray) (wt0 rfl) rfl rfl rfl Ty.un_58 (by repeat (first | exact Pick.here | apply Pick.there)) ?_
                refine yxs ?_
                refine yps 6 rfl zmv ?_
                refine yps 12 rfl zbu ?_
                refine yos 13 rfl ?_
                refine zbN fun b36 => ?_
                refine yxs ?_
                refine yps 14 rfl zas ?_
                refine yzs rfl ?_
                refine gp zas ?_
                refine gnt ?_
                refine gc_ret ?_
                refine gx_ret2 rfl (by conv => lhs; whnf) (by conv => lhs; whnf) ?_
                exact new_end he0 hf hl33
            · refine zeN fun b34 => ?_
              refine yxs ?_
              refine yos 1 rfl ?_
              refine gl_mkMap (wt0 rfl) (fun g25 => ?_)
              refine yxs ?_
              refine yos 5 rfl ?_
              refine gl_ins (K := digV) (l := []) (key := idOf b) (v := .agg x28.toArray) (wt0 rfl) rfl rfl rfl Ty.un_58 (by repeat (first | exact Pick.here | apply Pick.there)) ?_
              refine yxs ?_
              refine yps 6 rfl zmv ?_
              refine yps 12 rfl zbu ?_
              refine yos 13 rfl ?_
              refine zbN fun b36 => ?_
              refine yxs ?_
              refine yps 14 rfl zas ?_
              refine yzs rfl ?_
              refine gp zas ?_
              refine gnt ?_
              refine gc_ret ?_
              refine gx_ret2 rfl (by conv => lhs; whnf) (by conv => lhs; whnf) ?_
              exact new_end he0 hf hl33

end Go.Proofs.YtheonhgffglegaaDoor

/- Walks, by program (wg.py) out of a spec. -/
namespace Go.Proofs.YtheonhgffglegaaDoor
open Go
set_option linter.unusedVariables false
set_option linter.unusedSimpArgs false


section
variable {w0 w : World} {F F0 : Nat → Prop} {L L' : List Res} {Q : Exit → Act → World → Prop} {n : Fm} {env : Env} {ops : Array Oper} {rest : List Oper}
theorem gc_st {c : Code} {L2 : List Res} (h : ∀ w, St w0 F0 L w → St w0 F0 L2 w) (k : Gc Tryd.prog w0 F0 L2 c Q n env) : Gc Tryd.prog w0 F0 L c Q n env := fun w hw => k w (h w hw)
theorem St.elB {css : List (List Value)} {l : List Block} (h : St w0 F0 L w) (hp : Pick L (ElR RdBlock css l) L') : css.length = l.length ∧ ∀ (i : Nat) (c : List Value) (x : Block), css[i]? = some c → l[i]? = some x → ∃ w A, RdBlock w A c x := St.el (rd := RdBlock) h hp
end
theorem stars_tshut {q : Nat} {t : Tr} {g : Nat} {ao : Option Addr} {co : Nat} {ac : Option Addr} {cc : Nat} {css qss : List (List Value)} {w : World} {F : Nat → Prop} (h19 : ∀ c ∈ qss, List.length c = 19) (h : stars (treL q t g ao co ac cc css qss []) w F) : stars [TreeR q t] w F := tree_shut h19 h
theorem learn_none {t : Tr} {q : QC} (h : (lkN q.block t.nodes).isSome = false) : learnE t q = (9, t) := by
  have : lkN q.block t.nodes = none := by simpa using h
  unfold learnE; rw [this]
theorem learn_unfit {t : Tr} {q : QC} {p : Block} (hp : lkN q.block t.nodes = some p) (hf : ¬ fitsQ q q.block p = true) : learnE t q = (12, t) := by
  unfold learnE; rw [hp]; simp only; rw [if_neg hf]
theorem learn_has {t : Tr} {q : QC} {p : Block} (hp : lkN q.block t.nodes = some p) (hf : fitsQ q q.block p = true) (hc : (certF q.block t.certs).isSome = true) : learnE t q = (0, t) := by
  unfold learnE; rw [hp]; simp only; rw [if_pos hf, if_pos hc]
theorem learn_new {t : Tr} {q : QC} {p : Block} (hp : lkN q.block t.nodes = some p) (hf : fitsQ q q.block p = true) (hc : ¬ (certF q.block t.certs).isSome = true) : learnE t q = (0, { t with certs := t.certs ++ [q] }) := by
  unfold learnE; rw [hp]; simp only; rw [if_pos hf, if_neg hc]
/-- A certificate more. -/
theorem tree_cert {q : Nat} {t : Tr} {g : Nat} {ao : Option Addr} {co : Nat} {ac : Option Addr} {cc : Nat} {css qss : List (List Value)} {c : QC} {x : List Value} {w0 w : World} {F0 : Nat → Prop} {L L' : List Res} (h19 : ∀ c ∈ qss, List.length c = 19) (hx : x.length = 19)
    (h : St w0 F0 L w) (hs : Sel L [blk q 61 (dc t.root ++ [.map (some g), .slice ao t.nodes.length co, .slice ac (t.certs.length + 1) cc]), mapR g (encK digV (nodeV t.nodes css)), ElR RdBlock css (t.nodes.map (fun p => p.2)), rowR 26 16 ao t.nodes.length co ((keysT t).map dc).flatten, rowR 29 19 ac (t.certs.length + 1) cc (qss.flatten ++ x), ElR RdQC qss t.certs, VlR RdQC x c] L') : St w0 F0 (TreeR q { t with certs := t.certs ++ [c] } :: L') w := by
  have h1 := h.conv hs (N := [TreeR q { t with certs := t.certs ++ [c] }]) fun w F hh => ?_
  · exact h1
  · obtain ⟨F1, R1, h1, k1, e1, d1⟩ := hh
    obtain ⟨F2, R2, h2, k2, e2, d2⟩ := k1
    obtain ⟨F3, R3, h3, k3, e3, d3⟩ := k2
    obtain ⟨F4, R4, h4, k4, e4, d4⟩ := k3
    obtain ⟨F5, R5, h5, k5, e5, d5⟩ := k4
    have k6 := el_snoc k5
    refine tree_shut (g := g) (ao := ao) (co := co) (ac := ac) (cc := cc) (css := css) (qss := qss ++ [x]) (fun y hy => ?_) ?_
    · rcases List.mem_append.1 hy with hy | hy
      · exact h19 y hy
      · simp at hy; subst hy; exact hx
    · exact ⟨F1, R1, by simpa using h1, ⟨F2, R2, h2, ⟨F3, R3, h3, ⟨F4, R4, h4, ⟨F5, R5, by simpa using h5, k6, e5, d5⟩, e4, d4⟩, e3, d3⟩, e2, d2⟩, e1, d1⟩
theorem stars_snocE {α : Type} {rd : World → (Nat → Prop) → List Value → α → Prop} [RdK rd] {css : List (List Value)} {l : List α} {c : List Value} {x : α} {L : List Res} {w : World} {F : Nat → Prop} (h : stars (ElR rd css l :: VlR rd c x :: L) w F) : stars (ElR rd (css ++ [c]) (l ++ [x]) :: L) w F := by
  obtain ⟨G, R, hg, hr, eg, dg⟩ := stars_split (M := [ElR rd css l, VlR rd c x]) (L := L) h
  have := stars_append (el_snoc hg) hr dg
  rw [← fp_eq eg] at this
  exact this
/-- A block more. -/
theorem tree_put {q : Nat} {t : Tr} {g : Nat} {ao : Option Addr} {co : Nat} {ac : Option Addr} {cc : Nat} {css qss : List (List Value)} {b : Block} {id : Dig} {x : List Value} {w0 w : World} {F0 : Nat → Prop} {L L' : List Res} (h19 : ∀ c ∈ qss, List.length c = 19) (hl : css.length = t.nodes.length) (hn : lkN id t.nodes = none)
    (h : St w0 F0 L w) (hs : Sel L [blk q 61 (dc t.root ++ [.map (some g), .slice ao (t.nodes.length + 1) co, .slice ac t.certs.length cc]), mapR g (encK digV (putK id (.agg x.toArray) (nodeV t.nodes css))), ElR RdBlock css (t.nodes.map (fun p => p.2)), VlR RdBlock x b, rowR 26 16 ao (t.nodes.length + 1) co (((keysT t).map dc).flatten ++ dc id), rowR 29 19 ac t.certs.length cc qss.flatten, ElR RdQC qss t.certs] L') : St w0 F0 (TreeR q (putT t b id) :: L') w := by
  have h1 := h.conv hs (N := [TreeR q (putT t b id)]) fun w F hh => ?_
  · exact h1
  · obtain ⟨F1, R1, h1, k1, e1, d1⟩ := hh
    obtain ⟨F2, R2, h2, k2, e2, d2⟩ := k1
    obtain ⟨F3, R3, h3, k3, e3, d3⟩ := stars_snocE k2
    obtain ⟨F4, R4, h4, k4, e4, d4⟩ := k3
    refine tree_shut (g := g) (ao := ao) (co := co) (ac := ac) (cc := cc) (css := css ++ [x]) (qss := qss) h19 ?_
    rw [nodeV_put (b := b) hl hn] at h2
    exact ⟨F1, R1, by simpa [putT] using h1, ⟨F2, R2, by simpa [putT] using h2, ⟨F3, R3, by simpa [putT] using h3, ⟨F4, R4, by simpa [putT, keysT] using h4, k4, e4, d4⟩, e3, d3⟩, e2, d2⟩, e1, d1⟩

attribute [local irreducible] Gl Gc Gx Gs Runs Wt

attribute [local irreducible] dc qcC blkC idOf TreeR

set_option maxHeartbeats 400000 in
theorem tlearn_ok {w : World} {F : Nat → Prop} {q : Nat} {t : Tr} {ea : Nat → Addr} {es : List Nat} [Has es 9] [Has es 12] (hE : GErr es w (fun k => ¬ F k) 139 ea) (h : stars [TreeR q t] w F) (hok : TOk t) {qs : List Value} {x : QC} (hq : RdQC w (fun k => ¬ F k) qs x) (hs : smQC x) :
    Calls Tryd.prog 20 #[.pointer (some ⟨q, 0, none⟩), .agg qs.toArray] w (Post w F (fun _ : Unit => eV 139 ea (learnE t x).1) (fun _ => [TreeR q (learnE t x).2])) := by
  have hq' := hq
  obtain ⟨av, nv, kv, rfl, _, _⟩ := hq'
  have hle := hok.le
  have hcl := hok.cl
  refine g_enter (env := [(0, .pointer (some ⟨q, 0, none⟩)), (1, _)]) Tryd.func20 rfl h Tryd.ntmps20 rfl rfl ?_
  refine gsr ?_
  refine gl_tree (by repeat (first | exact Pick.here | apply Pick.there)) (fun g ao co ac cc css qss h19 => ?_)
  refine zbN fun b3 => ?_
  refine gl_fact (fun w' hw => St.elB hw (by repeat (first | exact Pick.here | apply Pick.there))) (fun hel => ?_)
  obtain ⟨cp, hgk, wp, Ap, hrp⟩ := lookP hel.1 hel.2 x.block
  have icp := Len.of hrp.len
  have jcp := One.of hrp.one
  refine gp zas ?_
  refine gnt ?_
  refine gc_seq ?_
  refine gc_regionZ 12 ([blk q 61 (dc t.root ++ [.map (some g), .slice ao t.nodes.length co, .slice ac t.certs.length cc]), mapR g (encK digV (nodeV t.nodes css)), blk b3 29 (.int .i64 x.epoch :: .int .i64 x.round :: (dc x.block ++ [.slice av nv kv]))]) ?_
  refine yps 0 rfl zmv ?_
  refine yps 1 rfl znc ?_
  refine yps 2 rfl zfa ?_
  refine yps 3 rfl zl ?_
  refine yps 4 rfl zfa ?_
  refine yps 5 rfl zL ?_
  refine yps 6 rfl (r_val (v' := .tuple #[.agg cp.toArray, .bool (lkN x.block t.nodes).isSome]) (r_look (K := digV) (l := nodeV t.nodes css) (key := x.block) (z := .agg blkC.toArray) rfl rfl Ty.un_58 (by kernel_rfl) (by repeat (first | exact Pick.here | apply Pick.there))) hgk) ?_
  refine yps 7 rfl zmv ?_
  refine yps 8 rfl zex ?_
  refine yps 9 rfl zex ?_
  refine yos 10 rfl ?_
  refine zal fun b5 => ?_
  refine gl_eqc (cs' := blkC) (by repeat (first | exact Pick.here | apply Pick.there)) (by kernel_rfl) ?_
  refine yxs ?_
  refine yos 11 rfl ?_
  refine zsA hrp.len hrp.one ?_
  refine yxs ?_
  refine yzs rfl ?_
  refine gp zas ?_
  refine gnt ?_
  refine gc_seq ?_
  refine gc_block ?_
  refine gsr ?_
  refine gp zmv ?_
  refine gp znt ?_
  refine gp zas ?_
  refine gnt ?_
  refine gif rfl (fun hc19 => ?_) (fun hc19 => ?_)
  · try simp only at hc19
    have hnl : (lkN x.block t.nodes).isSome = false := by simpa using hc19
    refine gsr ?_
    refine gp (r_ld1o rfl Ty.row_40 (hE.c 9 Has.h) (hE.n 9 Has.h)) ?_
    refine gp zas ?_
    refine gnt ?_
    refine gc_ret ?_
    refine gx_block_ret ?_
    refine gx_then_ret ?_
    refine gx_ret1 rfl (by conv => lhs; whnf) ?_
    have hl : learnE t x = (9, t) := learn_none hnl
    exact fun w' hw => ⟨(), by rw [hl], by rw [hl]; exact (hw.conv (M := [blk q 61 (dc t.root ++ [.map (some g), .slice ao t.nodes.length co, .slice ac t.certs.length cc]), mapR g (encK digV (nodeV t.nodes css)), ElR RdBlock css (t.nodes.map (fun p => p.2)), rowR 26 16 ao t.nodes.length co ((keysT t).map dc).flatten, rowR 29 19 ac t.certs.length cc qss.flatten, ElR RdQC qss t.certs]) (N := [TreeR q t]) (by repeat (first | exact Sel.nil | (apply Sel.cons; · (repeat (first | exact Pick.here | apply Pick.there))))) (fun _ _ h => stars_tshut h19 h)).sel (.cons .here .nil)⟩
  · try simp only at hc19
    obtain ⟨p, hp⟩ := Option.isSome_iff_exists.1 (by simpa using hc19 : (lkN x.block t.nodes).isSome = true)
    have hbo : bOf t x.block = p := by rw [bOf, hp]; rfl
    rw [hbo] at hrp
    refine gsr ?_
    refine gp zL ?_
    refine gp zfa ?_
    refine gp zL ?_
    refine gp (zLa (cs := cp)) ?_
    refine zc (fun _ => ?_) (c := fun w1 F1 F2 h1 h2 hd hst => bfits_ok h1 (hq) hrp)
    refine gp znt ?_
    refine gp zas ?_
    refine gnt ?_
    refine gif rfl (fun hc23 => ?_) (fun hc23 => ?_)
    · try simp only at hc23
      have hf : ¬ fitsQ x x.block p = true := by simpa using hc23
      refine gsr ?_
      refine gp (r_ld1o rfl Ty.row_40 (hE.c 12 Has.h) (hE.n 12 Has.h)) ?_
      refine gp zas ?_
      refine gnt ?_
      refine gc_ret ?_
      refine gx_block_ret ?_
      refine gx_then_ret ?_
      refine gx_ret1 rfl (by conv => lhs; whnf) ?_
      have hl : learnE t x = (12, t) := learn_unfit hp hf
      exact fun w' hw => ⟨(), by rw [hl], by rw [hl]; exact (hw.conv (M := [blk q 61 (dc t.root ++ [.map (some g), .slice ao t.nodes.length co, .slice ac t.certs.length cc]), mapR g (encK digV (nodeV t.nodes css)), ElR RdBlock css (t.nodes.map (fun p => p.2)), rowR 26 16 ao t.nodes.length co ((keysT t).map dc).flatten, rowR 29 19 ac t.certs.length cc qss.flatten, ElR RdQC qss t.certs]) (N := [TreeR q t]) (by repeat (first | exact Sel.nil | (apply Sel.cons; · (repeat (first | exact Pick.here | apply Pick.there))))) (fun _ _ h => stars_tshut h19 h)).sel (.cons .here .nil)⟩
    · try simp only at hc23
      have hf : fitsQ x x.block p = true := by simpa using hc23
      refine gc_conv (M := [blk q 61 (dc t.root ++ [.map (some g), .slice ao t.nodes.length co, .slice ac t.certs.length cc]), mapR g (encK digV (nodeV t.nodes css)), ElR RdBlock css (t.nodes.map (fun p => p.2)), rowR 26 16 ao t.nodes.length co ((keysT t).map dc).flatten, rowR 29 19 ac t.certs.length cc qss.flatten, ElR RdQC qss t.certs]) (N := [TreeR q t]) (by repeat (first | exact Sel.nil | (apply Sel.cons; · (repeat (first | exact Pick.here | apply Pick.there))))) (fun _ _ h => stars_tshut h19 h) ?_
      refine gc_skip ?_
      refine gx_block_normal ?_
      refine gx_then ?_
      refine gc_seq ?_
      refine gsr ?_
      refine gp zmv ?_
      refine gp zfa ?_
      refine gp zL ?_
      refine zc (fun x35 => ?_) (c := fun w1 F1 F2 h1 h2 hd hst => tcert_ok (d := x.block) (tr_rd h2 hd (by repeat (first | exact Pick.here | apply Pick.there))) hok h1)
      refine gl_pureR (fun hx35 => ?_)
      obtain ⟨hl35, ho35⟩ := hx35
      replace hl35 : x35.length = 19 := hl35
      have i35 := Len.of hl35
      have j35 := One.of (show ∀ v ∈ x35, v.oneCell' = true from ho35)
      refine gp zmv ?_
      refine gp zex ?_
      refine gp zex ?_
      refine zal fun b7 => ?_
      refine gl_eqc (cs' := qcC) (by repeat (first | exact Pick.here | apply Pick.there)) (by kernel_rfl) ?_
      refine zsN ?_
      refine gp zas ?_
      refine gnt ?_
      refine gsr ?_
      refine gp zmv ?_
      refine gp znt ?_
      refine gnt ?_
      refine gif rfl (fun hc39 => ?_) (fun hc39 => ?_)
      · try simp only at hc39
        have hc : ¬ (certF x.block t.certs).isSome = true := by simpa using hc39
        refine gc_tree (by repeat (first | exact Pick.here | apply Pick.there)) (fun g ao co ac cc css qss h19 => ?_)
        refine gc_regionU 9 ([blk q 61 (dc t.root ++ [.map (some g), .slice ao t.nodes.length co, .slice ac t.certs.length cc]), blk b3 29 (.int .i64 x.epoch :: .int .i64 x.round :: (dc x.block ++ [.slice av nv kv]))]) ?_
        refine ypu 0 rfl zmv ?_
        refine ypu 1 rfl zmv ?_
        refine ypu 2 rfl znc ?_
        refine ypu 3 rfl zfa ?_
        refine ypu 4 rfl zl ?_
        refine ypu 5 rfl zL ?_
        refine you 6 rfl ?_
        refine zc (fun x46 => ?_) (c := fun w1 F1 F2 h1 h2 hd hst => copiedQC_ok h1 (hq.mv hst.still) hs)
        refine gl_pureR (fun hx46 => ?_)
        obtain ⟨hl46, ho46⟩ := hx46
        replace hl46 : x46.length = 19 := hl46
        have i46 := Len.of hl46
        have j46 := One.of (show ∀ v ∈ x46, v.oneCell' = true from ho46)
        refine yxu ?_
        refine you 7 rfl ?_
        refine zeN fun b47 => ?_
        refine yxu ?_
        refine you 8 rfl ?_
        refine zapo (fun a48 c48 => ?_)
        refine yxu ?_
        refine yzu ?_
        refine gp znc ?_
        refine gp zfa ?_
        refine zs1 ?_
        refine gnt ?_
        refine gsr ?_
        refine gp zas ?_
        refine gnt ?_
        refine gc_ret ?_
        refine gx_ret1 rfl (by conv => lhs; whnf) ?_
        have hl : learnE t x = (0, { t with certs := t.certs ++ [x] }) := learn_new hp hf hc
        exact fun w' hw => ⟨(), by rw [hl]; show Ending.returned _ = Ending.returned (eV _ _ 0); rw [eV_zero], by rw [hl]; exact (tree_cert (css := css) h19 hl46 hw (by repeat (first | exact Sel.nil | (apply Sel.cons; · (repeat (first | exact Pick.here | apply Pick.there)))))).sel (.cons .here .nil)⟩
      · try simp only at hc39
        have hc : (certF x.block t.certs).isSome = true := by simpa using hc39
        refine gc_skip ?_
        refine gx_then ?_
        refine gsr ?_
        refine gp zas ?_
        refine gnt ?_
        refine gc_ret ?_
        refine gx_ret1 rfl (by conv => lhs; whnf) ?_
        have hl : learnE t x = (0, t) := learn_has hp hf hc
        exact fun w' hw => ⟨(), by rw [hl]; show Ending.returned _ = Ending.returned (eV _ _ 0); rw [eV_zero], by rw [hl]; exact hw.sel (by repeat (first | exact Sel.nil | (apply Sel.cons; · (repeat (first | exact Pick.here | apply Pick.there)))))⟩

set_option maxHeartbeats 400000 in
theorem tadd_ok {w : World} {F : Nat → Prop} {q : Nat} {t : Tr} {ea : Nat → Addr} {es : List Nat} [Has es 1] [Has es 4] [Has es 8] [Has es 9] [Has es 12] [Has es 14] [Has es 16] [Has es 17] (hE : GErr es w (fun k => ¬ F k) 139 ea) (hK : KR w (fun k => ¬ F k)) (h : stars [TreeR q t] w F) (hok : TOk t) {cs : List Value} {b : Block} (hb : RdBlock w (fun k => ¬ F k) cs b) (hs : (wBlock b ⟨0, []⟩).err = 0 → smBlk b) :
    Calls Tryd.prog 9 #[.pointer (some ⟨q, 0, none⟩), .agg cs.toArray] w (Post w F (fun _ : Unit => .tuple #[.agg (dc (addE t b (wBlock b ⟨0, []⟩).err (idOf b)).2.1).toArray, eV 139 ea (addE t b (wBlock b ⟨0, []⟩).err (idOf b)).1]) (fun _ => [TreeR q (addE t b (wBlock b ⟨0, []⟩).err (idOf b)).2.2])) := by
  have hb' := hb
  obtain ⟨qj, a1, n1, c1, a2, n2, c2, rfl, hj, hj2, hj3, hj4, hj5⟩ := hb'
  have ij := Len.of hj.len
  have jj := One.of hj.one
  have hle := hok.le
  have hcl := hok.cl
  refine g_enter (env := [(0, .pointer (some ⟨q, 0, none⟩)), (1, _)]) Tryd.func9 rfl h Tryd.ntmps9 rfl rfl ?_
  refine gsr ?_
  refine zbN fun b3 => ?_
  refine zal fun b4 => ?_
  refine gp zas ?_
  refine gnt ?_
  refine gsr ?_
  refine gp zmv ?_
  refine gp zL ?_
  refine zc (fun _ => ?_) (c := fun w1 F1 F2 h1 h2 hd hst => task_ok (tr_rd h2 hd (by repeat (first | exact Pick.here | apply Pick.there))) hok (hE.mv hst.still) (hK.mv hst.still) h1 (hb.mv hst.still))
  refine gp zmv ?_
  refine gp zex ?_
  refine gp zex ?_
  refine zal fun b6 => ?_
  refine zsN ?_
  refine gp zas ?_
  refine gnt ?_
  refine gc_seq ?_
  refine gsr ?_
  refine gp zmv ?_
  refine gp (r_bool (c := decide (¬ (askE t b (wBlock b ⟨0, []⟩).err (idOf b)) = 0)) (r_nenil rfl (by kernel_rfl)) (by simp)) ?_
  refine gnt ?_
  refine gif rfl (fun hc15 => ?_) (fun hc15 => ?_)
  · try simp only at hc15
    have ha : ¬ (askE t b (wBlock b ⟨0, []⟩).err (idOf b)) = 0 := by simpa using hc15
    refine gsr ?_
    refine gp (zba (cs := dc dig0) (hf := by kernel_rfl)) ?_
    refine gp zmv ?_
    refine zsN ?_
    refine gp zas ?_
    refine gnt ?_
    refine gc_ret ?_
    refine gx_then_ret ?_
    refine gx_retct rfl rfl (by conv => lhs; whnf) (ld_aggS Ty.row_26 Ty.sz_26 (by repeat (first | exact Pick.here | apply Pick.there)) (by (simp only [List.drop_succ_cons, List.drop_zero, List.take_succ_cons, List.take_zero, List.cons_append, List.nil_append, List.append_assoc, drop_dc, drop_dc', take_dc, take_dc', drop_L, drop_L', take_L, take_L', len_L, Nat.reduceLeDiff, Nat.reduceSub, Nat.reduceAdd, Nat.le_refl, List.length_cons, List.length_append, List.length_nil, dc_length, List.drop_nil, List.take_nil, List.append_nil, List.length_map, List.length_replicate]; first | done | rfl)) (by first | rfl | (simp only [List.drop_succ_cons, List.drop_zero, List.take_succ_cons, List.take_zero, List.cons_append, List.nil_append, List.append_assoc, drop_dc, drop_dc', take_dc, take_dc', drop_L, drop_L', take_L, take_L', len_L, Nat.reduceLeDiff, Nat.reduceSub, Nat.reduceAdd, Nat.le_refl, List.length_cons, List.length_append, List.length_nil, dc_length, List.drop_nil, List.take_nil, List.append_nil, List.length_map, List.length_replicate]; first | done | omega))) ?_
    have hl : (addE t b (wBlock b ⟨0, []⟩).err (idOf b)) = ((askE t b (wBlock b ⟨0, []⟩).err (idOf b)), dig0, t) := by unfold addE; rw [if_neg ha]
    exact fun w' hw => ⟨(), by rw [hl], by rw [hl]; exact hw.sel (by repeat (first | exact Sel.nil | (apply Sel.cons; · (repeat (first | exact Pick.here | apply Pick.there)))))⟩
  · try simp only at hc15
    have ha : (askE t b (wBlock b ⟨0, []⟩).err (idOf b)) = 0 := by simpa using hc15
    obtain ⟨he0, hn, p, hp, _, _, _, hlt⟩ := askE_zero ha
    have hs := hs he0
    refine gc_tree (by repeat (first | exact Pick.here | apply Pick.there)) (fun g ao co ac cc css qss h19 => ?_)
    refine gc_fact (fun w' hw => (St.elB hw (by repeat (first | exact Pick.here | apply Pick.there))).1) (fun hel => ?_)
    replace hel : css.length = t.nodes.length := by simpa using hel
    refine gc_skip ?_
    refine gx_then ?_
    refine gc_seq ?_
    refine gc_regionZ 7 ([blk q 61 (dc t.root ++ [.map (some g), .slice ao t.nodes.length co, .slice ac t.certs.length cc]), blk b6 26 (dc (idOf b)), blk b3 33 (.int .i64 b.epoch :: .int .i64 b.round :: (dc b.parent ++ (qj ++ [.slice a1 n1 c1, .slice a2 n2 c2])))]) ?_
    refine yps 0 rfl zmv ?_
    refine yps 1 rfl znc ?_
    refine yps 2 rfl zfa ?_
    refine yps 3 rfl zl ?_
    refine yps 4 rfl zL ?_
    refine yps 5 rfl zL ?_
    refine yos 6 rfl ?_
    refine zc (fun x24 => ?_) (c := fun w1 F1 F2 h1 h2 hd hst => copied_ok h1 (hb.mv hst.still) hs)
    refine gl_pureR (fun hx24 => ?_)
    obtain ⟨hl24, ho24⟩ := hx24
    replace hl24 : x24.length = 39 := hl24
    have i24 := Len.of hl24
    have j24 := One.of (show ∀ v ∈ x24, v.oneCell' = true from ho24)
    refine yxs ?_
    refine yzs rfl ?_
    refine gl_put (K := digV) (l := nodeV t.nodes css) (key := idOf b) (v := .agg x24.toArray) (wt0 rfl) rfl rfl rfl Ty.un_58 (by repeat (first | exact Pick.here | apply Pick.there)) ?_
    refine gnt ?_
    refine gc_seq ?_
    refine gc_regionU 8 ([blk q 61 (dc t.root ++ [.map (some g), .slice ao t.nodes.length co, .slice ac t.certs.length cc]), blk b6 26 (dc (idOf b))]) ?_
    refine ypu 0 rfl zmv ?_
    refine ypu 1 rfl zmv ?_
    refine ypu 2 rfl znc ?_
    refine ypu 3 rfl zfa ?_
    refine ypu 4 rfl zl ?_
    refine ypu 5 rfl zL ?_
    refine you 6 rfl ?_
    refine zeN fun b31 => ?_
    refine yxu ?_
    refine you 7 rfl ?_
    refine zapo (fun a32 c32 => ?_)
    refine yxu ?_
    refine yzu ?_
    refine gp znc ?_
    refine gp zfa ?_
    refine zs1 ?_
    refine gnt ?_
    refine gc_seq ?_
    refine gc_st (fun w' hw => tree_put (css := css) h19 hel hn hw (by repeat (first | exact Sel.nil | (apply Sel.cons; · (repeat (first | exact Pick.here | apply Pick.there)))))) ?_
    refine gc_regionZ 6 ([blk b6 26 (dc (idOf b)), blk b3 33 (.int .i64 b.epoch :: .int .i64 b.round :: (dc b.parent ++ (qj ++ [.slice a1 n1 c1, .slice a2 n2 c2])))]) ?_
    refine yps 0 rfl zL ?_
    refine yps 1 rfl zmv ?_
    refine yps 2 rfl zfa ?_
    refine yps 3 rfl (zL (sg := qj)) ?_
    refine yos 4 rfl ?_
    refine zc (fun _ => ?_) (c := fun w1 F1 F2 h1 h2 hd hst => tlearn_ok (hE.mv hst.still) h1 (putT_ok (p := idOf b) hok hn hp hlt hs) (hj.mv hst.still) hs.1)
    refine yxs ?_
    refine yos 5 rfl ?_
    refine zsN ?_
    refine yxs ?_
    refine yzs rfl ?_
    refine gp zas ?_
    refine gnt ?_
    refine gc_ret ?_
    refine gx_retct rfl rfl (by conv => lhs; whnf) (ld_aggS Ty.row_26 Ty.sz_26 (by repeat (first | exact Pick.here | apply Pick.there)) (by (simp only [List.drop_succ_cons, List.drop_zero, List.take_succ_cons, List.take_zero, List.cons_append, List.nil_append, List.append_assoc, drop_dc, drop_dc', take_dc, take_dc', drop_L, drop_L', take_L, take_L', len_L, Nat.reduceLeDiff, Nat.reduceSub, Nat.reduceAdd, Nat.le_refl, List.length_cons, List.length_append, List.length_nil, dc_length, List.drop_nil, List.take_nil, List.append_nil, List.length_map, List.length_replicate]; first | done | rfl)) (by first | rfl | (simp only [List.drop_succ_cons, List.drop_zero, List.take_succ_cons, List.take_zero, List.cons_append, List.nil_append, List.append_assoc, drop_dc, drop_dc', take_dc, take_dc', drop_L, drop_L', take_L, take_L', len_L, Nat.reduceLeDiff, Nat.reduceSub, Nat.reduceAdd, Nat.le_refl, List.length_cons, List.length_append, List.length_nil, dc_length, List.drop_nil, List.take_nil, List.append_nil, List.length_map, List.length_replicate]; first | done | omega))) ?_
    have hl : (addE t b (wBlock b ⟨0, []⟩).err (idOf b)) = ((learnE (putT t b (idOf b)) b.justify).1, idOf b, (learnE (putT t b (idOf b)) b.justify).2) := by unfold addE; rw [if_pos ha]
    exact fun w' hw => ⟨(), by rw [hl], by rw [hl]; exact hw.sel (by repeat (first | exact Sel.nil | (apply Sel.cons; · (repeat (first | exact Pick.here | apply Pick.there)))))⟩

end Go.Proofs.YtheonhgffglegaaDoor

/- Walks, by program (wg.py) out of a spec. -/
namespace Go.Proofs.YtheonhgffglegaaDoor
open Go
set_option linter.unusedVariables false
set_option linter.unusedSimpArgs false

attribute [local irreducible] Gl Gc Gx Gs Runs Wt

attribute [local irreducible] dc qcC blkC idOf TreeR ripeL upL lastK

set_option maxHeartbeats 400000 in
theorem tripe_ok {w : World} {F : Nat → Prop} {q : Nat} {t : Tr} (hx : RdTree w (fun k => ¬ F k) q t) (hok : TOk t) (h : stars [] w F) {qs : List Value} {x : QC} (hq : RdQC w (fun k => ¬ F k) qs x) (hqr : -9223372036854775800 ≤ x.round ∧ x.round ≤ 9223372036854775807) :
    Calls Tryd.prog 10 #[.pointer (some ⟨q, 0, none⟩), .agg qs.toArray] w (Post w F (fun r : Option Addr × Nat => .slice r.1 (ripeL t x).length r.2) (fun r => [rowR 26 16 r.1 (ripeL t x).length r.2 ((ripeL t x).map dc).flatten])) := by
  obtain ⟨g, ao, co, ac, cc, css, hT⟩ := hx
  obtain ⟨hqA, hrt, h16, h17, h18⟩ := hT.cells
  have hle := hok.le
  have hcl := hok.cl
  have hce := hok.ce
  obtain ⟨hqr1, hqr2⟩ := hqr
  have hq' := hq
  obtain ⟨av, nv, kv, rfl, _, _⟩ := hq'
  obtain ⟨cp, hgk, hrp⟩ := hT.lookB x.block
  have icp := Len.of hrp.len
  have jcp := One.of hrp.one
  refine g_enterM (env := [(0, .pointer (some ⟨q, 0, none⟩)), (1, _)]) Tryd.func10 rfl h Tryd.ntmps10 rfl rfl ?_
  refine gsr ?_
  refine zbN fun b3 => ?_
  refine zal fun b4 => ?_
  refine gnt ?_
  refine gc_seq ?_
  refine gc_seq ?_
  refine gc_regionZ 12 ([blk b3 29 (.int .i64 x.epoch :: .int .i64 x.round :: (dc x.block ++ [.slice av nv kv]))]) ?_
  refine yps 0 rfl zmv ?_
  refine yps 1 rfl znc ?_
  refine yps 2 rfl zfa ?_
  refine yps 3 rfl (r_ld1o rfl Ty.row_58 h16 hqA) ?_
  refine yps 4 rfl zfa ?_
  refine yps 5 rfl zL ?_
  refine yps 6 rfl (r_val (v' := .tuple #[.agg cp.toArray, .bool (lkN x.block t.nodes).isSome]) (r_looko (K := digV) (l := nodeV t.nodes css) (key := x.block) (z := .agg blkC.toArray) rfl rfl Ty.un_58 (by kernel_rfl) hT.mp) hgk) ?_
  refine yps 7 rfl zmv ?_
  refine yps 8 rfl zex ?_
  refine yps 9 rfl zex ?_
  refine yos 10 rfl ?_
  refine zal fun b5 => ?_
  refine gl_eqc (cs' := blkC) (by repeat (first | exact Pick.here | apply Pick.there)) (by kernel_rfl) ?_
  refine yxs ?_
  refine yos 11 rfl ?_
  refine zsA hrp.len hrp.one ?_
  refine yxs ?_
  refine yzs rfl ?_
  refine gp zas ?_
  refine gnt ?_
  refine gc_seq ?_
  by_cases hS : (lkN x.block t.nodes).isSome = true
  · obtain ⟨p, hp⟩ := Option.isSome_iff_exists.1 hS
    have hbo : bOf t x.block = p := by rw [bOf, hp]; rfl
    rw [hbo] at hrp
    refine gc_region ?_
    refine gp zmv ?_
    refine gp (r_bool (c := false) znt (by rw [hS]; rfl)) ?_
    refine gp zmv ?_
    refine gq zL ?_
    refine gq zfa ?_
    refine gq zL ?_
    refine gq (zLa (cs := cp)) ?_
    refine zc (fun _ => ?_) (c := fun w1 F1 F2 h1 h2 hd hst => bfits_ok h1 hq hrp)
    refine gq znt ?_
    refine gp zpk ?_
    refine gnt ?_
    refine gif rfl (fun hc32 => ?_) (fun hc32 => ?_)
    · try simp only at hc32
      have hf : ¬ fitsQ x x.block p = true := by simpa using hc32
      refine gsr ?_
      refine zs1 ?_
      refine gnt ?_
      refine gc_ret ?_
      refine gx_then_ret ?_
      refine gx_mark0 ?_
      refine gx_retc rfl rfl (ld_oneS Ty.row_36 (by repeat (first | exact Pick.here | apply Pick.there)) (by first | rfl | (simp only [List.getElem?_cons_succ, List.getElem?_cons_zero, List.cons_append, List.append_assoc, get_dc, get_L, Nat.reduceLeDiff, Nat.reduceSub, Nat.reduceAdd, Nat.le_refl]; rfl))) ?_
      have hr : ripeL t x = [] := ripe_unfit hp hf
      exact fun w' hw => ⟨(none, 0), by rw [hr]; exact rfl, by rw [hr]; exact hw.rowNil.sel (by repeat (first | exact Sel.nil | (apply Sel.cons; · (repeat (first | exact Pick.here | apply Pick.there)))))⟩
    · try simp only at hc32
      have hf : fitsQ x x.block p = true := by simpa using hc32
      refine gc_skip ?_
      refine gx_then ?_
      refine gsr ?_
      refine zal fun b7 => ?_
      refine gl_eqc (cs' := dc dig0) (by repeat (first | exact Pick.here | apply Pick.there)) (by kernel_rfl) ?_
      refine gnt ?_
      refine gsr ?_
      refine zal fun b8 => ?_
      refine zs1 ?_
      refine gnt ?_
      refine gc_seq ?_
      refine gsr ?_
      refine gp zmv ?_
      refine gp zfa ?_
      refine gp zL ?_
      refine zc ?_ (c := fun w1 F1 F2 h1 h2 hd hst => tup_ok (d := x.block) h1)
      rintro ⟨bx, by_⟩
      refine gnt ?_
      refine gc_block ?_
      have hT' : ∀ {w1 : World} {A1 : Nat → Prop}, Still w (fun k => ¬ F k) w1 A1 → RdTree w1 A1 q t := fun hs => ⟨g, ao, co, ac, cc, css, hT.mv hs⟩
      refine gc_conv (M := [blk b7 26 (dc dig0)]) (N := [blk b7 26 (dc (lastK t x.block 0))]) (by repeat (first | exact Sel.nil | (apply Sel.cons; · (repeat (first | exact Pick.here | apply Pick.there))))) (fun _ _ h => by rw [lastK_zero]; exact h) ?_
      refine gc_pI (p := 0 < 3 ∧ okR t x 0) ⟨by decide, fun j _ hj => absurd hj (Nat.not_lt_zero j)⟩ ?_
      refine gc_range (own := [blk bx 24 [.pointer (some ⟨q, 0, none⟩)], blk by_ 26 (dc x.block)]) (fun i => [pureR (i < 3 ∧ okR t x i), blk b7 26 (dc (lastK t x.block i)), blk b8 3 [.int .i64 (i : Int)], blk b3 29 (.int .i64 x.epoch :: .int .i64 x.round :: (dc x.block ++ [.slice av nv kv])), blk b4 36 [.slice none 0 0]]) (fun i cd => pureR ((cd = Code.ret ∧ ripeL t x = []) ∨ (cd = Code.exit 0 ∧ i = 2 ∧ okR t x 3 ∧ (upL t x.block).length ≥ 3)) :: blk b4 36 [.slice none 0 0] :: (match cd with | .exit _ => [blk b7 26 (dc (lastK t x.block 3)), blk b8 3 [.int .i64 3], blk b3 29 (.int .i64 x.epoch :: .int .i64 x.round :: (dc x.block ++ [.slice av nv kv]))] | _ => [])) (by exact rfl) Ty.call_40 (by repeat (first | exact Sel.nil | (apply Sel.cons; · (repeat (first | exact Pick.here | apply Pick.there))))) (by intros; rfl) (fun lp J Jx w1 F1 F2 h1 h2 hd hst => up1_it (hT' (hst.still)) hok h1) ?_ ?_ ?_
      · intro lp rc rc' i y w1 F1 F2 h1 h2 hd hst
        try dsimp only [List.cons_append, List.nil_append, zipE]
        obtain ⟨e, cq⟩ := y
        refine gc_pure1 (p := upP t x.block i (e, cq)) (by repeat (first | exact Pick.here | apply Pick.there)) (fun hi => ?_)
        obtain ⟨⟨hl39, ho39⟩, pb, hget, hrr⟩ := hi
        replace hl39 : cq.length = 39 := hl39
        have i39 := Len.of hl39
        have j39 := One.of (show ∀ v ∈ cq, v.oneCell' = true from ho39)
        refine gc_pure1 (p := i < 3 ∧ okR t x i) (by repeat (first | exact Pick.here | apply Pick.there)) (fun hI => ?_)
        obtain ⟨hi3, hok3⟩ := hI
        refine gsr ?_
        refine zal fun b9 => ?_
        refine gl_eqc (cs' := dc dig0) (by repeat (first | exact Pick.here | apply Pick.there)) (by kernel_rfl) ?_
        refine zsN ?_
        refine gnt ?_
        refine gc_region ?_
        refine zal fun b10 => ?_
        refine gl_eqc (cs' := blkC) (by repeat (first | exact Pick.here | apply Pick.there)) (by kernel_rfl) ?_
        refine zsN ?_
        refine gl_nil ?_
        refine gx_lp (by repeat (first | exact Pick.here | apply Pick.there)) ?_
        refine gx_begin ?_
        refine gc_block ?_
        refine gc_seq ?_
        refine gsr ?_
        refine gp zfa ?_
        refine gp (zl (v := .int .i64 pb.round) (hv := hrr)) ?_
        refine gp zfa ?_
        refine gp zl ?_
        refine gp zl ?_
        refine gp (r_int (j := x.round - i) zsb (wrap_i64 (by omega) (by omega))) ?_
        refine gp zni ?_
        refine gnt ?_
        refine gif rfl (fun hc45 => ?_) (fun hc45 => ?_)
        · refine gsr ?_
          refine zs1 ?_
          refine gnt ?_
          refine gc_ret ?_
          refine gx_then_ret ?_
          refine gx_block_ret ?_
          refine gx_rdr ?_
          have hr : ripeL t x = [] := ripe_bad hp hi3 hget (by simpa using hc45)
          exact fun w' hw => (St.pureI (p := (Code.ret = Code.ret ∧ ripeL t x = []) ∨ _) (.inl ⟨rfl, hr⟩) hw).sel (by repeat (first | exact Sel.nil | (apply Sel.cons; · (repeat (first | exact Pick.here | apply Pick.there)))))
        · try simp only at hc45
          have hok4 := okR_succ hok3 hget (by simpa using hc45)
          refine gc_skip ?_
          refine gx_then ?_
          refine gsr ?_
          refine gp zL ?_
          refine zsN ?_
          refine gnt ?_
          refine gsr ?_
          refine gp zl ?_
          refine gp (r_int (j := ((i + 1 : Nat) : Int)) zad (by omega)) ?_
          refine zs1 ?_
          refine gnt ?_
          refine gsr ?_
          refine gp zl ?_
          refine gp (r_bool (c := decide (i = 2)) zei (by rw [Bool.eq_iff_iff]; simp only [decide_eq_true_eq]; omega)) ?_
          refine gnt ?_
          refine gif rfl (fun hc50 => ?_) (fun hc50 => ?_)
          · try simp only at hc50
            have hi2 : i = 2 := by simpa using hc50
            refine gc_exit ?_
            refine gx_block_miss rfl ?_
            refine gx_rde ?_
            obtain rfl : i = 2 := by omega
            have hlk : lastK t x.block 3 = e := lastK_at hget
            exact fun w' hw => (St.pureI (p := _ ∨ (Code.exit 0 = Code.exit 0 ∧ 2 = 2 ∧ okR t x 3 ∧ (upL t x.block).length ≥ 3)) (.inr ⟨rfl, rfl, hok4, (List.getElem?_eq_some_iff.1 hget).1⟩) (hw.sel (M := [blk b4 36 [.slice none 0 0], blk b7 26 (dc (lastK t x.block 3)), blk b8 3 [.int .i64 3], blk b3 29 (.int .i64 x.epoch :: .int .i64 x.round :: (dc x.block ++ [.slice av nv kv])), lpR lp rc']) (by rw [hlk]; exact (by repeat (first | exact Sel.nil | (apply Sel.cons; · (repeat (first | exact Pick.here | apply Pick.there)))))))).sel (by repeat (first | exact Sel.nil | (apply Sel.cons; · (repeat (first | exact Pick.here | apply Pick.there)))))
          · try simp only at hc50
            have hi2 : ¬ i = 2 := by simpa using hc50
            refine gc_skip ?_
            refine gx_block_normal ?_
            refine gx_rdn ?_
            have hlk : lastK t x.block (i + 1) = e := lastK_at hget
            exact fun w' hw => (St.pureI (p := i + 1 < 3 ∧ okR t x (i + 1)) ⟨by omega, hok4⟩ (hw.sel (M := [lpR lp rc', blk b7 26 (dc (lastK t x.block (i + 1))), blk b8 3 [.int .i64 ((i + 1 : Nat) : Int)], blk b3 29 (.int .i64 x.epoch :: .int .i64 x.round :: (dc x.block ++ [.slice av nv kv])), blk b4 36 [.slice none 0 0]]) (by rw [hlk]; exact (by repeat (first | exact Sel.nil | (apply Sel.cons; · (repeat (first | exact Pick.here | apply Pick.there)))))))).sel (by repeat (first | exact Sel.nil | (apply Sel.cons; · (repeat (first | exact Pick.here | apply Pick.there)))))
      · intro bU7 y m hy
        try dsimp only [List.cons_append, List.nil_append]
        obtain ⟨yb, yd⟩ := y
        obtain rfl : m = (upL t x.block).length := by cases yb <;> simp_all [allOr]
        refine gx_pure1 (p := (upL t x.block).length < 3 ∧ okR t x (upL t x.block).length) (by repeat (first | exact Pick.here | apply Pick.there)) (fun hI => ?_)
        have hr := ripe_short hp hI.1
        have hI1 := hI.1
        refine gx_block_normal ?_
        refine gx_thenM ?_
        refine gc_seq ?_
        refine gc_seq ?_
        refine gc_regionS (by kernel_rfl) (by kernel_rfl) ?_
        refine sp zl ?_
        refine sp (r_bool (c := true) zlt (decide_eq_true (by omega))) ?_
        refine sp zmv ?_
        refine sn ?_
        refine sn ?_
        refine sn ?_
        refine sn ?_
        refine sn ?_
        refine sn ?_
        refine sp zpk ?_
        refine gs_nil ?_
        refine gx_then ?_
        refine gc_condT rfl rfl ?_
        refine gsr ?_
        refine zs1 ?_
        refine gnt ?_
        refine gc_ret ?_
        refine gx_then_ret ?_
        refine gx_mark (by repeat (first | exact Pick.here | apply Pick.there)) ?_
        refine gx_mark0 ?_
        refine gx_retc rfl rfl (ld_oneS Ty.row_36 (by repeat (first | exact Pick.here | apply Pick.there)) (by first | rfl | (simp only [List.getElem?_cons_succ, List.getElem?_cons_zero, List.cons_append, List.append_assoc, get_dc, get_L, Nat.reduceLeDiff, Nat.reduceSub, Nat.reduceAdd, Nat.le_refl]; rfl))) ?_
        exact fun w' hw => ⟨(none, 0), by rw [hr]; exact rfl, by rw [hr]; exact hw.rowNil.sel (by repeat (first | exact Sel.nil | (apply Sel.cons; · (repeat (first | exact Pick.here | apply Pick.there)))))⟩
      · intro bU7 y i cd hy
        try dsimp only [List.cons_append, List.nil_append]
        refine gc_pure1 (p := (cd = Code.ret ∧ ripeL t x = []) ∨ (cd = Code.exit 0 ∧ i = 2 ∧ okR t x 3 ∧ (upL t x.block).length ≥ 3)) (by repeat (first | exact Pick.here | apply Pick.there)) (fun hX => ?_)
        rcases hX with ⟨rfl, hX⟩ | ⟨rfl, rfl, hX3, hX4⟩
        · refine gc_ret ?_
          refine gx_block_ret ?_
          refine gx_then_ret ?_
          refine gx_mark (by repeat (first | exact Pick.here | apply Pick.there)) ?_
          refine gx_mark0 ?_
          refine gx_retc rfl rfl (ld_oneS Ty.row_36 (by repeat (first | exact Pick.here | apply Pick.there)) (by first | rfl | (simp only [List.getElem?_cons_succ, List.getElem?_cons_zero, List.cons_append, List.append_assoc, get_dc, get_L, Nat.reduceLeDiff, Nat.reduceSub, Nat.reduceAdd, Nat.le_refl]; rfl))) ?_
          exact fun w' hw => ⟨(none, 0), by rw [hX]; exact rfl, by rw [hX]; exact hw.rowNil.sel (by repeat (first | exact Sel.nil | (apply Sel.cons; · (repeat (first | exact Pick.here | apply Pick.there)))))⟩
        · refine gc_exit ?_
          refine gx_block_hit ?_
          refine gx_thenM ?_
          refine gc_seq ?_
          refine gc_seq ?_
          refine gc_regionS (by kernel_rfl) (by kernel_rfl) ?_
          refine sp zl ?_
          refine sp (r_bool (c := false) zlt rfl) ?_
          refine sp zmv ?_
          refine sq zL ?_
          refine sq zmv ?_
          refine sq znc ?_
          refine sq zfa ?_
          refine sq (r_ldNo rfl Ty.row_26 Ty.sz_26 hrt (dc_length _) (by decide) hqA) ?_
          refine sq zed ?_
          refine sp zpk ?_
          refine gs_nil ?_
          refine gx_then ?_
          refine gif rfl (fun hc60 => ?_) (fun hc60 => ?_)
          · try simp only at hc60
            have hz : lastK t x.block 3 = t.root := by simpa using hc60
            refine gsr ?_
            refine zs1 ?_
            refine gnt ?_
            refine gc_ret ?_
            refine gx_then_ret ?_
            refine gx_mark (by repeat (first | exact Pick.here | apply Pick.there)) ?_
            refine gx_mark0 ?_
            refine gx_retc rfl rfl (ld_oneS Ty.row_36 (by repeat (first | exact Pick.here | apply Pick.there)) (by first | rfl | (simp only [List.getElem?_cons_succ, List.getElem?_cons_zero, List.cons_append, List.append_assoc, get_dc, get_L, Nat.reduceLeDiff, Nat.reduceSub, Nat.reduceAdd, Nat.le_refl]; rfl))) ?_
            have hu2 : (upL t x.block)[2]? = some ((upL t x.block)[2]'(by omega)) := List.getElem?_eq_getElem (by omega)
            have hr : ripeL t x = [] := by rw [ripe_three hp hf hX3 hu2]; rw [if_pos]; rw [← hz]; exact (lastK_at hu2).symm
            exact fun w' hw => ⟨(none, 0), by rw [hr]; exact rfl, by rw [hr]; exact hw.rowNil.sel (by repeat (first | exact Sel.nil | (apply Sel.cons; · (repeat (first | exact Pick.here | apply Pick.there)))))⟩
          · try simp only at hc60
            have hz : ¬ lastK t x.block 3 = t.root := by simpa using hc60
            refine gc_skip ?_
            refine gx_then ?_
            refine gsr ?_
            refine gp zmv ?_
            refine gp zL ?_
            refine zc ?_ (c := fun w1 F1 F2 h1 h2 hd hst => tpath_ok (d := lastK t x.block 3) (hT' hst.still) hok h1)
            rintro ⟨a64, c64⟩
            refine gp zmv ?_
            refine gp zex ?_
            refine gp zex ?_
            refine gp zas ?_
            refine gp zas ?_
            refine gnt ?_
            refine gsr ?_
            refine gp zmv ?_
            refine zs1 ?_
            refine gnt ?_
            refine gc_ret ?_
            refine gx_mark (by repeat (first | exact Pick.here | apply Pick.there)) ?_
            refine gx_mark0 ?_
            refine gx_retc rfl rfl (ld_oneS Ty.row_36 (by repeat (first | exact Pick.here | apply Pick.there)) (by first | rfl | (simp only [List.getElem?_cons_succ, List.getElem?_cons_zero, List.cons_append, List.append_assoc, get_dc, get_L, Nat.reduceLeDiff, Nat.reduceSub, Nat.reduceAdd, Nat.le_refl]; rfl))) ?_
            have hu2 : (upL t x.block)[2]? = some ((upL t x.block)[2]'(by omega)) := List.getElem?_eq_getElem (by omega)
            have hlk : lastK t x.block 3 = ((upL t x.block)[2]'(by omega)).1 := lastK_at hu2
            have hr : ripeL t x = pathL t (lastK t x.block 3) := by rw [ripe_three hp hf hX3 hu2, ← hlk, if_neg hz]
            exact fun w' hw => ⟨(a64, c64), by rw [hr], by rw [hr]; exact hw.sel (by repeat (first | exact Sel.nil | (apply Sel.cons; · (repeat (first | exact Pick.here | apply Pick.there)))))⟩
  · refine gc_region ?_
    refine gp zmv ?_
    refine gp (r_bool (c := true) znt (by simp [hS])) ?_
    refine gp zmv ?_
    refine gn ?_
    refine gn ?_
    refine gn ?_
    refine gn ?_
    refine gn ?_
    refine gn ?_
    refine gp zpk ?_
    refine gnt ?_
    refine gc_condT rfl rfl ?_
    refine gsr ?_
    refine zs1 ?_
    refine gnt ?_
    refine gc_ret ?_
    refine gx_then_ret ?_
    refine gx_mark0 ?_
    refine gx_retc rfl rfl (ld_oneS Ty.row_36 (by repeat (first | exact Pick.here | apply Pick.there)) (by first | rfl | (simp only [List.getElem?_cons_succ, List.getElem?_cons_zero, List.cons_append, List.append_assoc, get_dc, get_L, Nat.reduceLeDiff, Nat.reduceSub, Nat.reduceAdd, Nat.le_refl]; rfl))) ?_
    have hr : ripeL t x = [] := ripe_none (by simpa using hS)
    exact fun w' hw => ⟨(none, 0), by rw [hr]; exact rfl, by rw [hr]; exact hw.rowNil.sel (by repeat (first | exact Sel.nil | (apply Sel.cons; · (repeat (first | exact Pick.here | apply Pick.there)))))⟩

end Go.Proofs.YtheonhgffglegaaDoor

/- Plain words: SHA-256 piece by piece is SHA-256 of the whole. No program in sight. -/
namespace Go.Proofs.YtheonhgffglegaaDoor
set_option linter.unusedVariables false

def refPad (b : List UInt8) : List UInt8 := b ++ 128 :: (List.replicate (padN b.length) 0 ++ lenBytes b.length)
def refSum (K : Nat → UInt32) (b : List UInt8) : List UInt8 := (List.range 32).map (outByte (takes K v0 (refPad b)).1)
def framed (dom : Int) (parts : List (List UInt8)) : List UInt8 := UInt8.ofNat (dom % 256).toNat :: parts.flatMap fun p => part4 p.length ++ p

theorem takes_append (K : Nat → UInt32) (v : V8) (a b : List UInt8) : takes K v (a ++ b) = takes K (takes K v a).1 ((takes K v a).2 ++ b) := by
  fun_induction takes K v a with
  | case1 v a h ih =>
    rw [takes.eq_1 K v (a ++ b), dif_pos (by simp; omega), List.take_append_of_le_length h, List.drop_append_of_le_length h]
    exact ih
  | case2 v a h => rfl
theorem takes_mod (K : Nat → UInt32) (v : V8) (a : List UInt8) : (takes K v a).2.length % 64 = a.length % 64 := by
  fun_induction takes K v a with
  | case1 v a h ih => rw [ih, List.length_drop]; omega
  | case2 v a h => rfl
/-- What a hash is that was handed all these bytes. -/
def HAll (K : Nat → UInt32) (s : HS) (b : List UInt8) : Prop := takes K v0 b = (s.v, s.rest) ∧ s.len = b.length
theorem HAll.nil (K : Nat → UInt32) : HAll K hs0 [] := ⟨by rw [takes.eq_1, dif_neg (by simp)]; rfl, rfl⟩
theorem HAll.write {K : Nat → UInt32} {s : HS} {a : List UInt8} (h : HAll K s a) (b : List UInt8) : HAll K (hWrite K s b) (a ++ b) := by
  refine ⟨?_, ?_⟩
  · rw [takes_append, h.1]; rfl
  · simp [hWrite, h.2]
theorem HAll.sum {K : Nat → UInt32} {s : HS} {a : List UInt8} (h : HAll K s a) : hSum K s = refSum K a := by
  have hm : padN s.rest.length = padN a.length := by
    have e : s.rest.length % 64 = a.length % 64 := by
      have := takes_mod K v0 a
      rw [h.1] at this
      exact this
    unfold padN; rw [e]
  have e : takes K s.v (padded s) = takes K v0 (refPad a) := by
    rw [refPad, takes_append, h.1, padded, hm, h.2]
  rw [hSum, refSum, e]
theorem hOf_ref (K : Nat → UInt32) (dom : Int) (parts : List (List UInt8)) : hOf K dom parts = (refSum K (framed dom parts)).take 16 := by
  have h : ∀ (l : List (List UInt8)) (s : HS) (a : List UInt8), HAll K s a → HAll K (l.foldl (fun s p => hWrite K (hWrite K s (part4 p.length)) p) s) (a ++ l.flatMap fun p => part4 p.length ++ p) := by
    intro l
    induction l with
    | nil => intro s a h; simpa using h
    | cons p l ih =>
      intro s a h
      have := ih _ _ ((h.write (part4 p.length)).write p)
      simpa using this
  have := (h parts _ _ ((HAll.nil K).write [UInt8.ofNat (dom % 256).toNat])).sum
  rw [hOf, this]
  simp [framed]
end Go.Proofs.YtheonhgffglegaaDoor

/- Plain words: SHA-256 of many messages side by side, in the lanes of great numbers (and of one message, quickly). No program in sight. -/
namespace Go.Proofs.YtheonhgffglegaaDoor
set_option linter.unusedVariables false
set_option linter.unusedSimpArgs false

/-- Lanes of 64 bits. -/
def pk (f : Nat → Nat) : Nat → Nat
  | 0 => 0
  | L + 1 => f 0 + 2 ^ 64 * pk (fun i => f (i + 1)) L
theorem pk_congr {f g : Nat → Nat} : ∀ {L : Nat}, (∀ i, i < L → f i = g i) → pk f L = pk g L
  | 0, _ => rfl
  | L + 1, h => by unfold pk; rw [h 0 (by omega), pk_congr (fun i hi => h (i + 1) (by omega))]
theorem pk_add (f g : Nat → Nat) : ∀ L, pk f L + pk g L = pk (fun i => f i + g i) L
  | 0 => rfl
  | L + 1 => by unfold pk; rw [← pk_add (fun i => f (i + 1)) (fun i => g (i + 1)) L, Nat.mul_add]; omega
theorem pk_mul (c : Nat) (f : Nat → Nat) : ∀ L, c * pk f L = pk (fun i => c * f i) L
  | 0 => rfl
  | L + 1 => by unfold pk; rw [← pk_mul c (fun i => f (i + 1)) L, Nat.mul_add, Nat.mul_left_comm]
theorem tb_split {a A : Nat} (h : a < 2 ^ 64) (j : Nat) : (a + 2 ^ 64 * A).testBit j = if j < 64 then a.testBit j else A.testBit (j - 64) := by
  rw [Nat.add_comm]; exact Nat.testBit_two_pow_mul_add A h j
theorem and_lt64 {a b : Nat} (h : a < 2 ^ 64) : a &&& b < 2 ^ 64 := Nat.lt_of_le_of_lt Nat.and_le_left h
theorem andq_split {a b A B : Nat} (ha : a < 2 ^ 64) (hb : b < 2 ^ 64) : (a + 2 ^ 64 * A) &&& (b + 2 ^ 64 * B) = (a &&& b) + 2 ^ 64 * (A &&& B) := by
  apply Nat.eq_of_testBit_eq; intro j
  rw [Nat.testBit_and, tb_split ha, tb_split hb, tb_split (and_lt64 ha)]
  split <;> simp [Nat.testBit_and]
theorem orq_split {a b A B : Nat} (ha : a < 2 ^ 64) (hb : b < 2 ^ 64) : (a + 2 ^ 64 * A) ||| (b + 2 ^ 64 * B) = (a ||| b) + 2 ^ 64 * (A ||| B) := by
  apply Nat.eq_of_testBit_eq; intro j
  rw [Nat.testBit_or, tb_split ha, tb_split hb, tb_split (Nat.or_lt_two_pow ha hb)]
  split <;> simp [Nat.testBit_or]
theorem xorq_split {a b A B : Nat} (ha : a < 2 ^ 64) (hb : b < 2 ^ 64) : (a + 2 ^ 64 * A) ^^^ (b + 2 ^ 64 * B) = (a ^^^ b) + 2 ^ 64 * (A ^^^ B) := by
  apply Nat.eq_of_testBit_eq; intro j
  rw [Nat.testBit_xor, tb_split ha, tb_split hb, tb_split (Nat.xor_lt_two_pow ha hb)]
  split <;> simp [Nat.testBit_xor]
theorem pk_and : ∀ {L : Nat} {f g : Nat → Nat}, (∀ i, f i < 2 ^ 64) → (∀ i, g i < 2 ^ 64) → pk f L &&& pk g L = pk (fun i => f i &&& g i) L
  | 0, _, _, _, _ => by simp [pk]
  | L + 1, f, g, hf, hg => by unfold pk; rw [andq_split (hf 0) (hg 0), pk_and (fun i => hf (i + 1)) (fun i => hg (i + 1))]
theorem pk_or : ∀ {L : Nat} {f g : Nat → Nat}, (∀ i, f i < 2 ^ 64) → (∀ i, g i < 2 ^ 64) → pk f L ||| pk g L = pk (fun i => f i ||| g i) L
  | 0, _, _, _, _ => by simp [pk]
  | L + 1, f, g, hf, hg => by unfold pk; rw [orq_split (hf 0) (hg 0), pk_or (fun i => hf (i + 1)) (fun i => hg (i + 1))]
theorem pk_xor : ∀ {L : Nat} {f g : Nat → Nat}, (∀ i, f i < 2 ^ 64) → (∀ i, g i < 2 ^ 64) → pk f L ^^^ pk g L = pk (fun i => f i ^^^ g i) L
  | 0, _, _, _, _ => by simp [pk]
  | L + 1, f, g, hf, hg => by unfold pk; rw [xorq_split (hf 0) (hg 0), pk_xor (fun i => hf (i + 1)) (fun i => hg (i + 1))]
def lmask (L : Nat) : Nat := pk (fun _ => 4294967295) L
theorem pk_mask {L : Nat} {f : Nat → Nat} (h : ∀ i, f i < 2 ^ 64) : pk f L &&& lmask L = pk (fun i => f i % 2 ^ 32) L := by
  unfold lmask
  rw [pk_and h (fun _ => by decide)]
  exact pk_congr fun i _ => Nat.and_two_pow_sub_one_eq_mod (f i) 32
theorem shr_mask {n : Nat} (hn : n < 32) : ∀ {L : Nat} {f : Nat → Nat}, (∀ i, f i < 2 ^ 32) → (pk f L >>> n) &&& lmask L = pk (fun i => f i >>> n) L
  | 0, _, _ => by simp [pk, lmask]
  | L + 1, f, h => by
    have ih := shr_mask hn (L := L) (f := fun i => f (i + 1)) (fun i => h (i + 1))
    unfold lmask at ih ⊢
    apply Nat.eq_of_testBit_eq; intro j
    have h0 := h 0
    have h64 : f 0 < 2 ^ 64 := Nat.lt_trans h0 (by decide)
    have hs : f 0 >>> n < 2 ^ 64 := Nat.lt_of_le_of_lt (Nat.shiftRight_le _ _) h64
    have ih' := congrArg (fun x => Nat.testBit x (j - 64)) ih
    simp only [Nat.testBit_and, Nat.testBit_shiftRight] at ih'
    unfold pk
    rw [Nat.testBit_and, Nat.testBit_shiftRight, tb_split h64, tb_split (by decide), tb_split hs]
    by_cases hj : j < 64
    · rw [if_pos hj, if_pos hj]
      by_cases hj2 : n + j < 64
      · rw [if_pos hj2, Nat.testBit_shiftRight]
        by_cases hj3 : j < 32
        · rw [show (4294967295 : Nat) = 2 ^ 32 - 1 from rfl, Nat.testBit_two_pow_sub_one]; simp [hj3]
        · rw [show (4294967295 : Nat) = 2 ^ 32 - 1 from rfl, Nat.testBit_two_pow_sub_one]
          have : (f 0).testBit (n + j) = false := Nat.testBit_lt_two_pow (Nat.lt_of_lt_of_le h0 (Nat.pow_le_pow_right (by decide) (by omega)))
          simp [hj3, this]
      · rw [if_neg hj2, show (4294967295 : Nat) = 2 ^ 32 - 1 from rfl, Nat.testBit_two_pow_sub_one, Nat.testBit_shiftRight]
        have : (f 0).testBit (n + j) = false := Nat.testBit_lt_two_pow (Nat.lt_of_lt_of_le h0 (Nat.pow_le_pow_right (by decide) (by omega)))
        simp [show ¬ j < 32 by omega, this]
    · rw [if_neg hj, if_neg hj, if_neg (by omega), show n + j - 64 = n + (j - 64) by omega]
      exact ih'

/-- A word in each lane. -/
def pw (u : Nat → UInt32) (L : Nat) : Nat := pk (fun i => (u i).toNat) L
theorem u32_lt (x : UInt32) : x.toNat < 2 ^ 32 := x.toNat_lt
theorem u32_lt64 (x : UInt32) : x.toNat < 2 ^ 64 := Nat.lt_trans x.toNat_lt (by decide)
theorem pw_and (u v : Nat → UInt32) (L : Nat) : pw u L &&& pw v L = pw (fun i => u i &&& v i) L := by
  unfold pw; rw [pk_and (fun i => u32_lt64 _) (fun i => u32_lt64 _)]; exact pk_congr fun i _ => (UInt32.toNat_and _ _).symm
theorem pw_xor (u v : Nat → UInt32) (L : Nat) : pw u L ^^^ pw v L = pw (fun i => u i ^^^ v i) L := by
  unfold pw; rw [pk_xor (fun i => u32_lt64 _) (fun i => u32_lt64 _)]; exact pk_congr fun i _ => (UInt32.toNat_xor _ _).symm
theorem pw_not (u : Nat → UInt32) (L : Nat) : lmask L ^^^ pw u L = pw (fun i => ~~~ u i) L := by
  have h : lmask L = pw (fun _ => (4294967295 : UInt32)) L := rfl
  rw [h, pw_xor]
  refine pk_congr fun i _ => ?_
  congr 1
def qsh (M x n : Nat) : Nat := (x >>> n) &&& M
def qrot (M x n : Nat) : Nat := ((x >>> n) ||| (x <<< (32 - n))) &&& M
theorem pw_shr {n : Nat} (hn : n < 32) (u : Nat → UInt32) (L : Nat) : qsh (lmask L) (pw u L) n = pw (fun i => u i >>> UInt32.ofNat n) L := by
  unfold qsh pw
  rw [shr_mask hn (fun i => u32_lt _)]
  refine pk_congr fun i _ => ?_
  rw [UInt32.toNat_shiftRight]
  have : (UInt32.ofNat n).toNat = n := by rw [UInt32.toNat_ofNat']; exact Nat.mod_eq_of_lt (by omega)
  rw [this, Nat.mod_eq_of_lt hn]
theorem pw_rot {n : Nat} (h1 : 0 < n) (hn : n < 32) (u : Nat → UInt32) (L : Nat) : qrot (lmask L) (pw u L) n = pw (fun i => rotr (u i) n) L := by
  unfold qrot
  rw [Nat.and_or_distrib_right]
  have e1 := pw_shr hn u L
  unfold qsh at e1
  rw [e1]
  have e2 : (pw u L <<< (32 - n)) &&& lmask L = pw (fun i => u i <<< UInt32.ofNat (32 - n)) L := by
    unfold pw
    rw [Nat.shiftLeft_eq, Nat.mul_comm, pk_mul, pk_mask]
    · refine pk_congr fun i _ => ?_
      rw [UInt32.toNat_shiftLeft]
      have : (UInt32.ofNat (32 - n)).toNat = 32 - n := by rw [UInt32.toNat_ofNat']; exact Nat.mod_eq_of_lt (by omega)
      rw [this, Nat.mod_eq_of_lt (show 32 - n < 32 by omega), Nat.shiftLeft_eq, Nat.mul_comm]
    · intro i
      have := u32_lt (u i)
      calc 2 ^ (32 - n) * (u i).toNat < 2 ^ (32 - n) * 2 ^ 32 := Nat.mul_lt_mul_of_pos_left this (Nat.pow_pos (by decide))
        _ = 2 ^ (32 - n + 32) := (Nat.pow_add ..).symm
        _ ≤ 2 ^ 64 := Nat.pow_le_pow_right (by decide) (by omega)
  rw [e2]
  unfold pw
  rw [pk_or (fun i => u32_lt64 _) (fun i => u32_lt64 _)]
  refine pk_congr fun i _ => ?_
  show _ = (u i <<< UInt32.ofNat (32 - n) ||| u i >>> UInt32.ofNat n).toNat
  rw [UInt32.toNat_or, Nat.or_comm]
/-- A sum of words in each lane. -/
theorem pw_of {L : Nat} {f : Nat → Nat} {u : Nat → UInt32} (hf : ∀ i, f i < 2 ^ 64) (h : ∀ i, f i % 2 ^ 32 = (u i).toNat) : pk f L &&& lmask L = pw u L := by
  rw [pk_mask hf]; exact pk_congr fun i _ => h i
theorem pw_const (c : UInt32) (L : Nat) : c.toNat * pk (fun _ => 1) L = pw (fun _ => c) L := by
  rw [pk_mul]; exact pk_congr fun i _ => Nat.mul_one _
theorem pk_pw (u : Nat → UInt32) (L : Nat) : pw u L = pk (fun i => (u i).toNat) L := rfl

def fc {α : Type} (x : Nat) (k : Nat → α) : α := match x with
  | 0 => k 0
  | n + 1 => k (n + 1)
theorem fc_eq {α : Type} (x : Nat) (k : Nat → α) : fc x k = k x := by cases x <;> rfl
def qs0 (M x : Nat) : Nat := qrot M x 7 ^^^ qrot M x 18 ^^^ qsh M x 3
def qs1 (M x : Nat) : Nat := qrot M x 17 ^^^ qrot M x 19 ^^^ qsh M x 10
theorem pw_sg0 (u : Nat → UInt32) (L : Nat) : qs0 (lmask L) (pw u L) = pw (fun i => sg0 (u i)) L := by
  unfold qs0; rw [pw_rot (by decide) (by decide), pw_rot (by decide) (by decide), pw_shr (by decide), pw_xor, pw_xor]; rfl
theorem pw_sg1 (u : Nat → UInt32) (L : Nat) : qs1 (lmask L) (pw u L) = pw (fun i => sg1 (u i)) L := by
  unfold qs1; rw [pw_rot (by decide) (by decide), pw_rot (by decide) (by decide), pw_shr (by decide), pw_xor, pw_xor]; rfl
theorem pw_wnext (x y z t : Nat → UInt32) (L : Nat) : (pw x L + qs0 (lmask L) (pw y L) + pw z L + qs1 (lmask L) (pw t L)) &&& lmask L = pw (fun i => x i + sg0 (y i) + z i + sg1 (t i)) L := by
  rw [pw_sg0, pw_sg1]
  simp only [pk_pw, pk_add]
  refine pw_of (fun i => ?_) (fun i => ?_)
  · have h1 := u32_lt (x i); have h2 := u32_lt (sg0 (y i)); have h3 := u32_lt (z i); have h4 := u32_lt (sg1 (t i)); omega
  · simp only [UInt32.toNat_add]; omega
theorem pw_one (e f g h w : Nat → UInt32) (k : UInt32) (L : Nat) :
    (pw h L + (qrot (lmask L) (pw e L) 6 ^^^ qrot (lmask L) (pw e L) 11 ^^^ qrot (lmask L) (pw e L) 25) + ((pw e L &&& pw f L) ^^^ ((lmask L ^^^ pw e L) &&& pw g L)) + k.toNat * pk (fun _ => 1) L + pw w L) &&& lmask L
      = pw (fun i => h i + (rotr (e i) 6 ^^^ rotr (e i) 11 ^^^ rotr (e i) 25) + ((e i &&& f i) ^^^ (~~~ e i &&& g i)) + k + w i) L := by
  rw [pw_rot (by decide) (by decide), pw_rot (by decide) (by decide), pw_rot (by decide) (by decide), pw_xor, pw_xor, pw_not, pw_and, pw_and, pw_xor, pw_const]
  simp only [pk_pw, pk_add]
  refine pw_of (fun i => ?_) (fun i => ?_)
  · have h1 := u32_lt (h i); have h2 := u32_lt (rotr (e i) 6 ^^^ rotr (e i) 11 ^^^ rotr (e i) 25); have h3 := u32_lt ((e i &&& f i) ^^^ (~~~ e i &&& g i)); have h4 := u32_lt k; have h5 := u32_lt (w i); omega
  · simp only [UInt32.toNat_add]; omega
theorem pw_two (a b c o : Nat → UInt32) (L : Nat) :
    (pw o L + ((qrot (lmask L) (pw a L) 2 ^^^ qrot (lmask L) (pw a L) 13 ^^^ qrot (lmask L) (pw a L) 22) + (((pw a L &&& pw b L) ^^^ (pw a L &&& pw c L)) ^^^ (pw b L &&& pw c L)))) &&& lmask L
      = pw (fun i => o i + ((rotr (a i) 2 ^^^ rotr (a i) 13 ^^^ rotr (a i) 22) + (((a i &&& b i) ^^^ (a i &&& c i)) ^^^ (b i &&& c i)))) L := by
  rw [pw_rot (by decide) (by decide), pw_rot (by decide) (by decide), pw_rot (by decide) (by decide), pw_xor, pw_xor, pw_and, pw_and, pw_and, pw_xor, pw_xor]
  simp only [pk_pw, pk_add]
  refine pw_of (fun i => ?_) (fun i => ?_)
  · have h1 := u32_lt (o i); have h2 := u32_lt (rotr (a i) 2 ^^^ rotr (a i) 13 ^^^ rotr (a i) 22); have h3 := u32_lt (((a i &&& b i) ^^^ (a i &&& c i)) ^^^ (b i &&& c i)); omega
  · simp only [UInt32.toNat_add]; omega
theorem pw_add (x y : Nat → UInt32) (L : Nat) : (pw x L + pw y L) &&& lmask L = pw (fun i => x i + y i) L := by
  simp only [pk_pw, pk_add]
  refine pw_of (fun i => ?_) (fun i => ?_)
  · have h1 := u32_lt (x i); have h2 := u32_lt (y i); omega
  · simp only [UInt32.toNat_add]

def qgo (M O : Nat) : List Nat → Nat → Nat → Nat → Nat → Nat → Nat → Nat → Nat → Nat → Nat → Nat → Nat → Nat → Nat → Nat → Nat → Nat → Nat → Nat → Nat → Nat → Nat → Nat → Nat → List Nat
  | [], _, _, _, _, _, _, _, _, _, _, _, _, _, _, _, _, a, b, c, d, e, f, g, h => [a, b, c, d, e, f, g, h]
  | k :: ks, w0, w1, w2, w3, w4, w5, w6, w7, w8, w9, w10, w11, w12, w13, w14, w15, a, b, c, d, e, f, g, h =>
    fc ((w0 + qs0 M w1 + w9 + qs1 M w14) &&& M) fun w =>
    fc ((h + (qrot M e 6 ^^^ qrot M e 11 ^^^ qrot M e 25) + ((e &&& f) ^^^ ((M ^^^ e) &&& g)) + k * O + w0) &&& M) fun one =>
    fc ((one + ((qrot M a 2 ^^^ qrot M a 13 ^^^ qrot M a 22) + (((a &&& b) ^^^ (a &&& c)) ^^^ (b &&& c)))) &&& M) fun a' =>
    fc ((d + one) &&& M) fun e' =>
    qgo M O ks w1 w2 w3 w4 w5 w6 w7 w8 w9 w10 w11 w12 w13 w14 w15 w a' a b c e' e f g
def ksF (K : Nat → UInt32) (j : Nat) : Nat → List Nat
  | 0 => []
  | n + 1 => (K j).toNat :: ksF K (j + 1) n
theorem schq_next (b : List UInt8) (j : Nat) : sch b (j + 16) = sch b j + sg0 (sch b (j + 1)) + sch b (j + 9) + sg1 (sch b (j + 14)) := by
  rw [sch.eq_1 b (j + 16), dif_neg (by omega)]
  rw [show j + 16 - 16 = j by omega, show j + 16 - 15 = j + 1 by omega, show j + 16 - 7 = j + 9 by omega, show j + 16 - 2 = j + 14 by omega]
section
variable (K : Nat → UInt32) (b : Nat → List UInt8) (v : Nat → V8) (L : Nat)
abbrev sw (j : Nat) : Nat := pw (fun l => sch (b l) j) L
abbrev sv (p : V8 → UInt32) (j : Nat) : Nat := pw (fun l => p (rnds K (sch (b l)) (v l) j)) L
set_option maxHeartbeats 1000000 in
theorem qgo_eq : ∀ (n j m : Nat), j + n = m → qgo (lmask L) (pk (fun _ => 1) L) (ksF K j n) (sw b L (j + 0)) (sw b L (j + 1)) (sw b L (j + 2)) (sw b L (j + 3)) (sw b L (j + 4)) (sw b L (j + 5)) (sw b L (j + 6)) (sw b L (j + 7)) (sw b L (j + 8)) (sw b L (j + 9)) (sw b L (j + 10)) (sw b L (j + 11)) (sw b L (j + 12)) (sw b L (j + 13)) (sw b L (j + 14)) (sw b L (j + 15)) (sv K b v L V8.a j) (sv K b v L V8.b j) (sv K b v L V8.c j) (sv K b v L V8.d j) (sv K b v L V8.e j) (sv K b v L V8.f j) (sv K b v L V8.g j) (sv K b v L V8.h j)
    = [sv K b v L V8.a m, sv K b v L V8.b m, sv K b v L V8.c m, sv K b v L V8.d m, sv K b v L V8.e m, sv K b v L V8.f m, sv K b v L V8.g m, sv K b v L V8.h m]
  | 0, j, m, h => by obtain rfl : j = m := by omega
                     rfl
  | n + 1, j, m, h => by
    unfold ksF qgo
    simp only [fc_eq]
    rw [show sw b L (j + 0) = sw b L j from rfl]
    rw [pw_wnext, pw_one, pw_two, pw_add]
    have e1 : pw (fun i => sch (b i) (j + 0) + sg0 (sch (b i) (j + 1)) + sch (b i) (j + 9) + sg1 (sch (b i) (j + 14))) L = sw b L (j + 16) := pk_congr fun i _ => congrArg UInt32.toNat (schq_next (b i) j).symm
    have := qgo_eq n (j + 1) m (by omega)
    simp only [show j + 1 + 0 = j + 1 from by omega, show j + 1 + 1 = j + 2 from by omega, show j + 1 + 2 = j + 3 from by omega, show j + 1 + 3 = j + 4 from by omega, show j + 1 + 4 = j + 5 from by omega, show j + 1 + 5 = j + 6 from by omega, show j + 1 + 6 = j + 7 from by omega, show j + 1 + 7 = j + 8 from by omega, show j + 1 + 8 = j + 9 from by omega, show j + 1 + 9 = j + 10 from by omega, show j + 1 + 10 = j + 11 from by omega, show j + 1 + 11 = j + 12 from by omega, show j + 1 + 12 = j + 13 from by omega, show j + 1 + 13 = j + 14 from by omega, show j + 1 + 14 = j + 15 from by omega, show j + 1 + 15 = j + 16 from by omega] at this
    rw [← e1] at this
    exact this
end
def qblk (M O : Nat) (ks : List Nat) (w : List Nat) (s : List Nat) : List Nat := match w, s with
  | [w0, w1, w2, w3, w4, w5, w6, w7, w8, w9, w10, w11, w12, w13, w14, w15], [a, b, c, d, e, f, g, h] => match qgo M O ks w0 w1 w2 w3 w4 w5 w6 w7 w8 w9 w10 w11 w12 w13 w14 w15 a b c d e f g h with
    | [a', b', c', d', e', f', g', h'] => [(a + a') &&& M, (b + b') &&& M, (c + c') &&& M, (d + d') &&& M, (e + e') &&& M, (f + f') &&& M, (g + g') &&& M, (h + h') &&& M]
    | _ => []
  | _, _ => []
def lanes8 (L : Nat) (v : Nat → V8) : List Nat := [pw (fun l => (v l).a) L, pw (fun l => (v l).b) L, pw (fun l => (v l).c) L, pw (fun l => (v l).d) L, pw (fun l => (v l).e) L, pw (fun l => (v l).f) L, pw (fun l => (v l).g) L, pw (fun l => (v l).h) L]
def words16 (L : Nat) (b : Nat → List UInt8) : List Nat := [pw (fun l => wordAt (b l) 0) L, pw (fun l => wordAt (b l) 1) L, pw (fun l => wordAt (b l) 2) L, pw (fun l => wordAt (b l) 3) L, pw (fun l => wordAt (b l) 4) L, pw (fun l => wordAt (b l) 5) L, pw (fun l => wordAt (b l) 6) L, pw (fun l => wordAt (b l) 7) L, pw (fun l => wordAt (b l) 8) L, pw (fun l => wordAt (b l) 9) L, pw (fun l => wordAt (b l) 10) L, pw (fun l => wordAt (b l) 11) L, pw (fun l => wordAt (b l) 12) L, pw (fun l => wordAt (b l) 13) L, pw (fun l => wordAt (b l) 14) L, pw (fun l => wordAt (b l) 15) L]
theorem schq_lo (b : List UInt8) {j : Nat} (h : j < 16) : sch b j = wordAt b j := by rw [sch.eq_1, dif_pos h]
theorem qblk_eq (K : Nat → UInt32) (b : Nat → List UInt8) (v : Nat → V8) (L : Nat) : qblk (lmask L) (pk (fun _ => 1) L) (ksF K 0 64) (words16 L b) (lanes8 L v) = lanes8 L (fun l => take64 K (v l) (b l)) := by
  have h := qgo_eq K b v L 64 0 64 rfl
  have hw : ∀ j, j < 16 → sw b L (0 + j) = pw (fun l => wordAt (b l) j) L := fun j hj => pk_congr fun i _ => (by show (sch (b i) (0 + j)).toNat = (wordAt (b i) j).toNat; rw [Nat.zero_add, schq_lo _ hj])
  rw [hw 0 (by decide), hw 1 (by decide), hw 2 (by decide), hw 3 (by decide), hw 4 (by decide), hw 5 (by decide), hw 6 (by decide), hw 7 (by decide), hw 8 (by decide), hw 9 (by decide), hw 10 (by decide), hw 11 (by decide), hw 12 (by decide), hw 13 (by decide), hw 14 (by decide), hw 15 (by decide)] at h
  unfold qblk words16 lanes8
  simp only []
  have h' : qgo (lmask L) (pk (fun _ => 1) L) (ksF K 0 64) (pw (fun l => wordAt (b l) 0) L) (pw (fun l => wordAt (b l) 1) L) (pw (fun l => wordAt (b l) 2) L) (pw (fun l => wordAt (b l) 3) L) (pw (fun l => wordAt (b l) 4) L) (pw (fun l => wordAt (b l) 5) L) (pw (fun l => wordAt (b l) 6) L) (pw (fun l => wordAt (b l) 7) L) (pw (fun l => wordAt (b l) 8) L) (pw (fun l => wordAt (b l) 9) L) (pw (fun l => wordAt (b l) 10) L) (pw (fun l => wordAt (b l) 11) L) (pw (fun l => wordAt (b l) 12) L) (pw (fun l => wordAt (b l) 13) L) (pw (fun l => wordAt (b l) 14) L) (pw (fun l => wordAt (b l) 15) L) (pw (fun l => (v l).a) L) (pw (fun l => (v l).b) L) (pw (fun l => (v l).c) L) (pw (fun l => (v l).d) L) (pw (fun l => (v l).e) L) (pw (fun l => (v l).f) L) (pw (fun l => (v l).g) L) (pw (fun l => (v l).h) L) = _ := h
  rw [h']
  simp only [pw_add]
  rfl
/-- All blocks of lanes' messages, n of them. -/
def qtks (K : Nat → UInt32) (v : V8) (b : List UInt8) : Nat → V8
  | 0 => v
  | n + 1 => qtks K (take64 K v (b.take 64)) (b.drop 64) n
theorem takes_qtks (K : Nat → UInt32) : ∀ (n : Nat) (v : V8) (b : List UInt8), b.length = 64 * n → (takes K v b).1 = qtks K v b n
  | 0, v, b, h => by rw [takes.eq_1, dif_neg (by omega)]; rfl
  | n + 1, v, b, h => by
    rw [takes.eq_1, dif_pos (by omega)]
    exact takes_qtks K n _ _ (by rw [List.length_drop]; omega)
theorem wordAt_take (b : List UInt8) {j : Nat} (h : j < 16) : wordAt (b.take 64) j = wordAt b j := by
  unfold wordAt
  have e : ∀ k, k < 64 → (b.take 64).getD k 0 = b.getD k 0 := fun k hk => by simp [List.getD, hk]
  rw [e _ (by omega), e _ (by omega), e _ (by omega), e _ (by omega)]
def qall (M O : Nat) (ks : List Nat) (s : List Nat) : List (List Nat) → List Nat
  | [] => s
  | w :: r => qall M O ks (qblk M O ks w s) r
def wordsAll (L : Nat) (b : Nat → List UInt8) : Nat → List (List Nat)
  | 0 => []
  | n + 1 => words16 L b :: wordsAll L (fun l => (b l).drop 64) n
theorem words_take (L : Nat) (b : Nat → List UInt8) : words16 L (fun l => (b l).take 64) = words16 L b := by
  unfold words16
  have e : ∀ j, j < 16 → pw (fun l => wordAt ((b l).take 64) j) L = pw (fun l => wordAt (b l) j) L := fun j hj => pk_congr fun i _ => (by show (wordAt ((b i).take 64) j).toNat = (wordAt (b i) j).toNat; rw [wordAt_take _ hj])
  rw [e 0 (by decide), e 1 (by decide), e 2 (by decide), e 3 (by decide), e 4 (by decide), e 5 (by decide), e 6 (by decide), e 7 (by decide), e 8 (by decide), e 9 (by decide), e 10 (by decide), e 11 (by decide), e 12 (by decide), e 13 (by decide), e 14 (by decide), e 15 (by decide)]
theorem qall_eq (K : Nat → UInt32) (L : Nat) : ∀ (n : Nat) (v : Nat → V8) (b : Nat → List UInt8), qall (lmask L) (pk (fun _ => 1) L) (ksF K 0 64) (lanes8 L v) (wordsAll L b n) = lanes8 L (fun l => qtks K (v l) (b l) n)
  | 0, v, b => rfl
  | n + 1, v, b => by
    unfold wordsAll qall
    rw [← words_take, qblk_eq, qall_eq K L n]
    rfl

/-! ### One message -/
theorem pk_1 (f : Nat → Nat) : pk f 1 = f 0 := by simp [pk]
theorem pw_1 (u : Nat → UInt32) : pw u 1 = (u 0).toNat := pk_1 _
def qnat8 (v : V8) : List Nat := [v.a.toNat, v.b.toNat, v.c.toNat, v.d.toNat, v.e.toNat, v.f.toNat, v.g.toNat, v.h.toNat]
theorem lanes8_1 (v : Nat → V8) : lanes8 1 v = qnat8 (v 0) := by simp only [lanes8, pw_1]; rfl
def qB (l : List UInt8) (i : Nat) : Nat := (l.getD i 0).toNat
def qW (l : List UInt8) (j : Nat) : Nat := qB l (4 * j) * 16777216 + qB l (4 * j + 1) * 65536 + qB l (4 * j + 2) * 256 + qB l (4 * j + 3)
theorem qW_eq (l : List UInt8) (j : Nat) : (wordAt l j).toNat = qW l j := by
  unfold wordAt qW qB
  generalize l.getD (4 * j) 0 = x; generalize l.getD (4 * j + 1) 0 = y; generalize l.getD (4 * j + 2) 0 = z; generalize l.getD (4 * j + 3) 0 = t
  have hx := x.toNat_lt; have hy := y.toNat_lt; have hz := z.toNat_lt; have ht := t.toNat_lt
  simp only [UInt32.toNat_or, UInt32.toNat_shiftLeft, UInt8.toNat_toUInt32]
  have e24 : (UInt32.ofNat 24).toNat % 32 = 24 := by decide
  have e16 : (UInt32.ofNat 16).toNat % 32 = 16 := by decide
  have e8 : (UInt32.ofNat 8).toNat % 32 = 8 := by decide
  rw [e24, e16, e8]
  simp only [Nat.shiftLeft_eq]
  have a1 : x.toNat * 2 ^ 24 % 2 ^ 32 = 2 ^ 24 * x.toNat := by rw [Nat.mod_eq_of_lt (Nat.lt_of_lt_of_le (Nat.mul_lt_mul_of_pos_right hx (Nat.pow_pos (by decide))) (by decide)), Nat.mul_comm]
  have a2 : y.toNat * 2 ^ 16 % 2 ^ 32 = 2 ^ 16 * y.toNat := by rw [Nat.mod_eq_of_lt (Nat.lt_of_lt_of_le (Nat.mul_lt_mul_of_pos_right hy (Nat.pow_pos (by decide))) (by decide)), Nat.mul_comm]
  have a3 : z.toNat * 2 ^ 8 % 2 ^ 32 = 2 ^ 8 * z.toNat := by rw [Nat.mod_eq_of_lt (Nat.lt_of_lt_of_le (Nat.mul_lt_mul_of_pos_right hz (Nat.pow_pos (by decide))) (by decide)), Nat.mul_comm]
  rw [a1, a2, a3]
  rw [← Nat.two_pow_add_eq_or_of_lt (i := 24) (show 2 ^ 16 * y.toNat < 2 ^ 24 by omega)]
  rw [Nat.or_assoc, ← Nat.two_pow_add_eq_or_of_lt (i := 8) (show t.toNat < 2 ^ 8 by omega)]
  have : 2 ^ 24 * x.toNat + 2 ^ 16 * y.toNat = 2 ^ 16 * (256 * x.toNat + y.toNat) := by omega
  rw [this, ← Nat.two_pow_add_eq_or_of_lt (i := 16) (show 2 ^ 8 * z.toNat + t.toNat < 2 ^ 16 by omega)]
  omega
def qWords (l : List UInt8) : List Nat := [qW l 0, qW l 1, qW l 2, qW l 3, qW l 4, qW l 5, qW l 6, qW l 7, qW l 8, qW l 9, qW l 10, qW l 11, qW l 12, qW l 13, qW l 14, qW l 15]
def qWordsS (l : List UInt8) : Nat → List (List Nat)
  | 0 => []
  | n + 1 => qWords l :: qWordsS (l.drop 64) n
theorem qWordsS_eq : ∀ (n : Nat) (b : Nat → List UInt8), wordsAll 1 b n = qWordsS (b 0) n
  | 0, b => rfl
  | n + 1, b => by
    unfold wordsAll qWordsS
    rw [qWordsS_eq n, words16, qWords]
    simp only [pw_1, qW_eq]
def qini : List Nat := qnat8 v0
theorem lmask_1 : lmask 1 = 4294967295 := by kernel_rfl
theorem ones_1 : pk (fun _ => 1) 1 = 1 := by kernel_rfl
theorem one_msg (K : Nat → UInt32) (b : List UInt8) (n : Nat) (h : b.length = 64 * n) : qnat8 (takes K v0 b).1 = qall 4294967295 1 (ksF K 0 64) qini (qWordsS b n) := by
  have := qall_eq K 1 n (fun _ => v0) (fun _ => b)
  rw [lmask_1, ones_1, lanes8_1, lanes8_1, qWordsS_eq] at this
  rw [takes_qtks K n v0 b h, ← this]; rfl
end Go.Proofs.YtheonhgffglegaaDoor

/- Plain words: the id of one block, reckoned quickly. -/
namespace Go.Proofs.YtheonhgffglegaaDoor
set_option linter.unusedVariables false

def digN (l : List Nat) : List UInt8 := (List.range 16).map fun i => UInt8.ofNat (l.getD (i / 4) 0 / 2 ^ (24 - 8 * (i % 4)))
theorem outByte_nat (v : V8) {i : Nat} (hi : i < 16) : outByte v i = UInt8.ofNat ((qnat8 v).getD (i / 4) 0 / 2 ^ (24 - 8 * (i % 4))) := by
  have hg : ∀ j, j < 4 → (v.get j).toNat = (qnat8 v).getD j 0 := fun j hj => by
    match j with
    | 0 => rfl
    | 1 => rfl
    | 2 => rfl
    | 3 => rfl
    | j + 4 => omega
  rw [← hg (i / 4) (by omega)]
  unfold outByte
  apply UInt8.toNat_inj.1
  rw [UInt32.toNat_toUInt8, UInt32.toNat_shiftRight, UInt8.toNat_ofNat']
  have e : (UInt32.ofNat (24 - 8 * (i % 4))).toNat % 32 = 24 - 8 * (i % 4) := by rw [UInt32.toNat_ofNat', Nat.mod_eq_of_lt (by omega), Nat.mod_eq_of_lt (by omega)]
  rw [e, Nat.shiftRight_eq_div_pow]
theorem refSum_16 (K : Nat → UInt32) (b : List UInt8) : (refSum K b).take 16 = digN (qnat8 (takes K v0 (refPad b)).1) := by
  unfold refSum digN
  rw [← List.map_take]
  have : (List.range 32).take 16 = List.range 16 := by decide
  rw [this]
  exact List.map_congr_left fun i hi => outByte_nat _ (List.mem_range.1 hi)
theorem refPad_len (b : List UInt8) : (refPad b).length = 64 * ((b.length + 9 + 63) / 64) := by
  simp only [refPad, List.length_append, List.length_cons, List.length_replicate, padN, lenBytes, List.length_map, List.length_range]
  omega
/-- A block's id, out of its bytes. -/
def idQ (bs : List UInt8) : List UInt8 := digN (qall 4294967295 1 (ksF Kc 0 64) qini (qWordsS (refPad (framed 6 [bs])) (((framed 6 [bs]).length + 9 + 63) / 64)))
theorem idOf_q {b : Block} (h : (wBlock b ⟨0, []⟩).err = 0) : (idOf b).l = idQ (wBlock b ⟨0, []⟩).bs := by
  unfold idOf idQ
  rw [if_pos h, ← one_msg Kc _ _ (refPad_len _), ← refSum_16]
  exact hOf_ref Kc 6 _
theorem idOf_is {b : Block} {d : Dig} (h : (wBlock b ⟨0, []⟩).err = 0) (e : idQ (wBlock b ⟨0, []⟩).bs = d.l) : idOf b = d := Dig.ext' ((idOf_q h).trans e)
end Go.Proofs.YtheonhgffglegaaDoor

/- Plain words: layer 15's first block, the blocks of two branches below it, their ids. Printed by ids.py. -/
namespace Go.Proofs.YtheonhgffglegaaDoor
set_option linter.unusedVariables false
set_option linter.unusedSimpArgs false

def g0 : Block := ⟨1, 0, dig0, qc0, [], []⟩
def chB (b : Block) (id : Dig) (on : Int) (tx : UInt8) : Block := ⟨b.epoch, b.round + on, id, ⟨b.epoch, b.round, id, []⟩, [[tx]], []⟩
def gid : Dig := ⟨[199, 135, 36, 83, 74, 106, 79, 158, 139, 73, 213, 190, 14, 154, 125, 43], rfl⟩
def idA : Nat → Dig
  | 0 => gid
  | 1 => ⟨[123, 55, 230, 167, 65, 132, 198, 89, 230, 99, 114, 57, 194, 219, 71, 140], rfl⟩
  | 2 => ⟨[236, 41, 225, 101, 149, 18, 149, 31, 86, 229, 19, 217, 9, 181, 119, 154], rfl⟩
  | 3 => ⟨[179, 91, 19, 183, 192, 179, 88, 46, 70, 226, 115, 158, 229, 40, 152, 161], rfl⟩
  | 4 => ⟨[242, 224, 134, 121, 113, 19, 98, 14, 228, 223, 125, 150, 171, 70, 85, 192], rfl⟩
  | 5 => ⟨[59, 202, 181, 5, 190, 23, 231, 122, 204, 252, 15, 79, 114, 94, 15, 78], rfl⟩
  | _ => dig0
def blA : Nat → Block
  | 0 => g0
  | n + 1 => chB (blA n) (idA n) 1 1
def idB : Nat → Dig
  | 0 => gid
  | 1 => ⟨[206, 196, 235, 13, 221, 100, 65, 205, 181, 101, 155, 224, 55, 239, 101, 36], rfl⟩
  | 2 => ⟨[77, 235, 145, 90, 45, 31, 40, 71, 207, 133, 126, 73, 129, 207, 253, 223], rfl⟩
  | 3 => ⟨[141, 0, 199, 99, 55, 136, 211, 86, 47, 30, 203, 86, 81, 84, 61, 143], rfl⟩
  | 4 => ⟨[141, 125, 12, 194, 66, 91, 127, 19, 121, 13, 93, 105, 80, 88, 133, 248], rfl⟩
  | 5 => ⟨[15, 125, 95, 103, 37, 132, 68, 244, 140, 170, 92, 13, 117, 250, 227, 127], rfl⟩
  | _ => dig0
def blB : Nat → Block
  | 0 => g0
  | n + 1 => chB (blB n) (idB n) 1 2
theorem g0_err : (wBlock g0 ⟨0, []⟩).err = 0 := by kernel_rfl
theorem g0_id : idOf g0 = gid := idOf_is g0_err (by kernel_rfl)
theorem blA_err1 : (wBlock (blA 1) ⟨0, []⟩).err = 0 := by kernel_rfl
theorem blA_id1 : idOf (blA 1) = idA 1 := idOf_is blA_err1 (by kernel_rfl)
theorem blA_err2 : (wBlock (blA 2) ⟨0, []⟩).err = 0 := by kernel_rfl
theorem blA_id2 : idOf (blA 2) = idA 2 := idOf_is blA_err2 (by kernel_rfl)
theorem blA_err3 : (wBlock (blA 3) ⟨0, []⟩).err = 0 := by kernel_rfl
theorem blA_id3 : idOf (blA 3) = idA 3 := idOf_is blA_err3 (by kernel_rfl)
theorem blA_err4 : (wBlock (blA 4) ⟨0, []⟩).err = 0 := by kernel_rfl
theorem blA_id4 : idOf (blA 4) = idA 4 := idOf_is blA_err4 (by kernel_rfl)
theorem blA_err5 : (wBlock (blA 5) ⟨0, []⟩).err = 0 := by kernel_rfl
theorem blA_id5 : idOf (blA 5) = idA 5 := idOf_is blA_err5 (by kernel_rfl)
theorem blA_err : ∀ {k : Nat}, k ≤ 5 → (wBlock (blA k) ⟨0, []⟩).err = 0
  | 0, _ => g0_err
  | 1, _ => blA_err1
  | 2, _ => blA_err2
  | 3, _ => blA_err3
  | 4, _ => blA_err4
  | 5, _ => blA_err5
  | n + 6, h => by omega
theorem blA_id : ∀ {k : Nat}, k ≤ 5 → idOf (blA k) = idA k
  | 0, _ => g0_id
  | 1, _ => blA_id1
  | 2, _ => blA_id2
  | 3, _ => blA_id3
  | 4, _ => blA_id4
  | 5, _ => blA_id5
  | n + 6, h => by omega
theorem blA_round : ∀ k, (blA k).round = k
  | 0 => rfl
  | n + 1 => by show (blA n).round + 1 = ((n + 1 : Nat) : Int); rw [blA_round n]; rfl
theorem smB_ch {b : Block} {id : Dig} {on : Int} {tx : UInt8} : smBlk (chB b id on tx) := ⟨⟨by simp [chB], fun _ h => by cases h⟩, by simp [chB], by simp [chB], fun x h => by simp [chB] at h; subst h; simp⟩
theorem smB_g0 : smBlk g0 := ⟨⟨by decide, fun _ h => by cases h⟩, by decide, by decide, fun _ h => by cases h⟩
/-- The tree of m blocks of the one branch and n of the other. -/
def qcA (i : Nat) : QC := ⟨1, i, idA i, []⟩
def qcB (i : Nat) : QC := ⟨1, i, idB i, []⟩
def fkT (m n : Nat) : Tr := ⟨gid, (gid, g0) :: ((List.range m).map (fun i => (idA (i + 1), blA (i + 1))) ++ (List.range n).map (fun i => (idB (i + 1), blB (i + 1)))), qcA 0 :: ((List.range (m - 1)).map (fun i => qcA (i + 1)) ++ (List.range (n - 1)).map (fun i => qcB (i + 1)))⟩
theorem fkT_new : newT g0 ⟨1, 0, gid, []⟩ gid = fkT 0 0 := rfl
theorem fk_new : newE g0 ⟨1, 0, gid, []⟩ 0 gid = 0 := by kernel_rfl
theorem fkA0 : addE (fkT 0 0) (blA 1) 0 (idA 1) = (0, idA 1, fkT 1 0) := by kernel_rfl
theorem fkA1 : addE (fkT 1 0) (blA 2) 0 (idA 2) = (0, idA 2, fkT 2 0) := by kernel_rfl
theorem fkA2 : addE (fkT 2 0) (blA 3) 0 (idA 3) = (0, idA 3, fkT 3 0) := by kernel_rfl
theorem fkA3 : addE (fkT 3 0) (blA 4) 0 (idA 4) = (0, idA 4, fkT 4 0) := by kernel_rfl
theorem fkA4 : addE (fkT 4 0) (blA 5) 0 (idA 5) = (0, idA 5, fkT 5 0) := by kernel_rfl
theorem fkA : ∀ {m : Nat}, m < 5 → addE (fkT m 0) (blA (m + 1)) 0 (idA (m + 1)) = (0, idA (m + 1), fkT (m + 1) 0)
  | 0, _ => fkA0
  | 1, _ => fkA1
  | 2, _ => fkA2
  | 3, _ => fkA3
  | 4, _ => fkA4
  | n + 5, h => by omega
theorem ripeA : ripeL (fkT 3 0) ⟨1, 3, idA 3, []⟩ = [idA 1] := by kernel_rfl
end Go.Proofs.YtheonhgffglegaaDoor

/- Walks, by program (wg.py) out of a spec. -/
namespace Go.Proofs.YtheonhgffglegaaDoor
open Go
set_option linter.unusedVariables false
set_option linter.unusedSimpArgs false


def genC : List Value := .int .i64 1 :: .int .i64 0 :: (dc dig0 ++ (qcC ++ [.slice none 0 0, .slice none 0 0]))
theorem genC_len : genC.length = 39 := by simp [genC, dc_length, qcC]
theorem rdGen {w : World} {A : Nat → Prop} : RdBlock w A genC g0 := ⟨qcC, none, 0, 0, none, 0, 0, rfl, rdQC0, Nat.le_refl _, RdList.nil, Nat.le_refl _, RdList.nil⟩
theorem rdQ1 {w : World} {A : Nat → Prop} (e r : Int) (d : Dig) : RdQC w A (.int .i64 e :: .int .i64 r :: (dc d ++ [.slice none 0 0])) ⟨e, r, d, []⟩ := ⟨none, 0, 0, rfl, Nat.le_refl _, RdList.nil⟩
theorem smQ1 (e r : Int) (d : Dig) : smQC ⟨e, r, d, []⟩ := ⟨by simp, fun _ h => by cases h⟩
def chC (b : Block) (id : Dig) (on : Int) (b24 : Nat) : List Value := .int .i64 b.epoch :: .int .i64 (b.round + on) :: (dc id ++ (.int .i64 b.epoch :: .int .i64 b.round :: (dc id ++ [.slice none 0 0, .slice (some ⟨b24, 0, none⟩) 1 1, .slice none 0 0])))
theorem chC_len (b : Block) (id : Dig) (on : Int) (b24 : Nat) : (chC b id on b24).length = 39 := by simp [chC, dc_length]
theorem chC_one (b : Block) (id : Dig) (on : Int) (b24 : Nat) : ∀ v ∈ chC b id on b24, v.oneCell' = true :=
  all_cons' rfl (all_cons' rfl (all_app' (dc_one _) (all_cons' rfl (all_cons' rfl (all_app' (dc_one _) (all_cons' rfl (all_cons' rfl (all_cons' rfl all_nil'))))))))
theorem rd_chC {w : World} {A : Nat → Prop} {b : Block} {id : Dig} {on : Int} {tx : UInt8} {b23 b24 : Nat} (h1 : RdRow w A 1 (some ⟨b24, 0, none⟩) 1 [.slice (some ⟨b23, 0, none⟩) 1 1]) (h2 : RdRow w A 1 (some ⟨b23, 0, none⟩) 1 [B8 tx]) : RdBlock w A (chC b id on b24) (chB b id on tx) :=
  ⟨_, some ⟨b24, 0, none⟩, 1, 1, none, 0, 0, by simp [chC, chB], rdQ1 b.epoch b.round id, Nat.le_refl _, ⟨[[.slice (some ⟨b23, 0, none⟩) 1 1]], h1, by simp, rfl, fun i x y hx hy => by
    match i with
    | 0 => simp at hx; subst hx; simp [chB] at hy; subst hy; exact ⟨_, _, _, rfl, Nat.le_refl _, h2⟩
    | i + 1 => simp at hx⟩, Nat.le_refl _, RdList.nil⟩
theorem vl_chC {w : World} {F : Nat → Prop} {b : Block} {id : Dig} {on : Int} {tx : UInt8} {b23 b24 e1 e2 : Nat} (h : stars [rowR e1 1 (some ⟨b24, 0, none⟩) 1 1 [.slice (some ⟨b23, 0, none⟩) 1 1], rowR e2 1 (some ⟨b23, 0, none⟩) 1 1 [B8 tx]] w F) : stars [VlR RdBlock (chC b id on b24) (chB b id on tx)] w F := by
  obtain ⟨F1, F2, h1, h2, hF⟩ := stars_two h
  exact rdR_mk (rd_chC ((rowR.rd h1).mv (still_sub fun k hk => (hF k).2 (.inl hk))) ((rowR.rd h2).mv (still_sub fun k hk => (hF k).2 (.inr hk)))) h
theorem digs_of_row {w : World} {A : Nat → Prop} {a : Option Addr} {n : Nat} {l : List Dig} (h : RdRow w A 16 a n (l.map dc).flatten) : RdList (fun cs d => cs = dc d) w A 16 a n l :=
  ⟨l.map dc, h, fun c hc => by obtain ⟨x, _, rfl⟩ := List.mem_map.1 hc; exact dc_length x, by simp, fun i c x hc hx => by rw [List.getElem?_map, hx] at hc; cases hc; rfl⟩
theorem digs_of_one {w : World} {A : Nat → Prop} {a : Option Addr} {d : Dig} (h : RdRow w A 16 a 1 (dc d)) : RdList (fun cs d => cs = dc d) w A 16 a 1 [d] := digs_of_row (by simpa using h)
theorem fkT_ok : ∀ {m : Nat}, m ≤ 5 → TOk (fkT m 0)
  | 0, _ => by rw [← fkT_new]; exact newT_ok rfl smB_g0 (smQ1 1 0 gid)
  | m + 1, h => by
    have h1 := addE_ok (fkT_ok (m := m) (by omega)) (b := blA (m + 1)) (err := 0) (id := idA (m + 1)) smB_ch
    rw [fkA (by omega)] at h1; exact h1
section
variable {w : World} {F : Nat → Prop} {ea : Nat → Addr} {es : List Nat}
theorem gnew_ok [Has es 1] [Has es 4] [Has es 12] (hE : GErr es w (fun k => ¬ F k) 139 ea) (hK : KR w (fun k => ¬ F k)) (h : stars [] w F) :
    Calls Tryd.prog 15 #[.agg genC.toArray, .agg (List.toArray (.int .i64 1 :: .int .i64 0 :: (dc gid ++ [.slice none 0 0])))] w (Post w F (fun x : Nat => .tuple #[.pointer (some ⟨x, 0, none⟩), eV 139 ea 0]) (fun x => [TreeR x (fkT 0 0)])) := by
  have h1 := tnew_ok (b := g0) (q := ⟨1, 0, gid, []⟩) hE hK h rdGen (rdQ1 1 0 gid) (fun _ => smB_g0) (smQ1 1 0 gid)
  rw [g0_id, g0_err, fk_new, fkT_new] at h1
  exact h1
theorem tadd_eq {q : Nat} {t t' : Tr} {cs : List Value} {b : Block} {id d : Dig} {e : Nat} [Has es 1] [Has es 4] [Has es 8] [Has es 9] [Has es 12] [Has es 14] [Has es 16] [Has es 17] (hE : GErr es w (fun k => ¬ F k) 139 ea) (hK : KR w (fun k => ¬ F k)) (h : stars [TreeR q t] w F) (hok : TOk t) (hb : RdBlock w (fun k => ¬ F k) cs b) (hs : smBlk b)
    (h0 : (wBlock b ⟨0, []⟩).err = 0) (hid : idOf b = id) (he : addE t b 0 id = (e, d, t')) :
    Calls Tryd.prog 9 #[.pointer (some ⟨q, 0, none⟩), .agg cs.toArray] w (Post w F (fun _ : Unit => .tuple #[.agg (dc d).toArray, eV 139 ea e]) (fun _ => [TreeR q t'])) := by
  have h1 := tadd_ok hE hK h hok hb (fun _ => hs)
  rw [h0, hid, he] at h1
  exact h1
end

attribute [local irreducible] Gl Gc Gx Gs Runs Wt

attribute [local irreducible] dc qcC blkC idOf TreeR gid fkT

set_option maxHeartbeats 400000 in
theorem genesis15_ok {w : World} {F : Nat → Prop} (h : stars [] w F) {ea : Nat → Addr} {es : List Nat} [Has es 1] [Has es 4] [Has es 12] (hE : GErr es w (fun k => ¬ F k) 139 ea) (hK : KR w (fun k => ¬ F k))  :
    Calls Tryd.prog 5 #[] w (Post w F (fun x : Nat => .tuple #[.pointer (some ⟨x, 0, none⟩), .agg genC.toArray, .agg (dc gid).toArray, .bool true]) (fun x => [TreeR x (fkT 0 0)])) := by
  have igen := Len.of genC_len
  have jgen := One.of (rdGen (w := w) (A := fun _ => True)).one
  refine g_enter (env := []) Tryd.func5 rfl h Tryd.ntmps5 rfl rfl ?_
  refine gsr ?_
  refine gp zas ?_
  refine zal fun b1 => ?_
  refine gl_eqc (cs' := blkC) (by repeat (first | exact Pick.here | apply Pick.there)) (by kernel_rfl) ?_
  refine zal fun b2 => ?_
  refine gp zas ?_
  refine gnt ?_
  refine gsr ?_
  refine gp (zbu (cs := genC) (hf := by kernel_rfl)) ?_
  refine zal fun b4 => ?_
  refine gl_eqc (cs' := blkC) (by repeat (first | exact Pick.here | apply Pick.there)) (by kernel_rfl) ?_
  refine zsA genC_len One.h ?_
  refine gnt ?_
  refine gsr ?_
  refine gp (zLa (cs := genC)) ?_
  refine zc (fun _ => ?_) (c := fun w1 F1 F2 h1 h2 hd hst => id_ok (x := g0) h1 (hE.mv hst.still) (hK.mv hst.still) rdGen)
  rw [g0_id, g0_err]
  refine gp zmv ?_
  refine gp zex ?_
  refine gp zex ?_
  refine zal fun b5 => ?_
  refine zsN ?_
  refine gp zas ?_
  refine gnt ?_
  refine gc_seq ?_
  refine gsr ?_
  refine gp zmv ?_
  refine gp (r_bool (c := false) (r_nenil rfl (by kernel_rfl)) rfl) ?_
  refine gnt ?_
  refine gc_condF rfl rfl ?_
  refine gc_skip ?_
  refine gx_then ?_
  refine gsr ?_
  refine gp (zLa (cs := genC)) ?_
  refine gp zL ?_
  refine gp (zbu (cs := .int .i64 1 :: .int .i64 0 :: (dc gid ++ [.slice none 0 0]))) ?_
  refine zc (fun q => ?_) (c := fun w1 F1 F2 h1 h2 hd hst => gnew_ok (hE.mv hst.still) (hK.mv hst.still) h1)
  refine gp zmv ?_
  refine gp zex ?_
  refine gp zex ?_
  refine gp zas ?_
  refine gp zas ?_
  refine gnt ?_
  refine gc_seq ?_
  refine gc_regionZ 12 ([blk b4 33 genC, blk b5 26 (dc gid)]) ?_
  refine yps 0 rfl zmv ?_
  refine yps 1 rfl (zLa (cs := genC)) ?_
  refine yps 2 rfl zL ?_
  refine yps 3 rfl zmv ?_
  refine yps 4 rfl (r_bool (c := true) (r_eqnil (k := 0) rfl (by kernel_rfl)) rfl) ?_
  refine yps 5 rfl zmv ?_
  refine yps 6 rfl zmv ?_
  refine yps 7 rfl (r_bool (c := true) (r_nepn rfl Ty.un_24) rfl) ?_
  refine yps 8 rfl zpk ?_
  refine yps 9 rfl zas ?_
  refine yos 10 rfl ?_
  refine zsA genC_len One.h ?_
  refine yxs ?_
  refine yos 11 rfl ?_
  refine zsN ?_
  refine yxs ?_
  refine yzs rfl ?_
  refine gp zas ?_
  refine gnt ?_
  refine gc_ret ?_
  refine gx_rettcct rfl rfl rfl (by conv => lhs; whnf) (by conv => lhs; whnf) (ld_aggS Ty.row_33 Ty.sz_33 (by repeat (first | exact Pick.here | apply Pick.there)) (by (simp only [List.drop_succ_cons, List.drop_zero, List.take_succ_cons, List.take_zero, List.cons_append, List.nil_append, List.append_assoc, drop_dc, drop_dc', take_dc, take_dc', drop_L, drop_L', take_L, take_L', len_L, Nat.reduceLeDiff, Nat.reduceSub, Nat.reduceAdd, Nat.le_refl, List.length_cons, List.length_append, List.length_nil, dc_length, List.drop_nil, List.take_nil, List.append_nil, List.length_map, List.length_replicate]; first | done | rfl)) (by first | rfl | (simp only [List.drop_succ_cons, List.drop_zero, List.take_succ_cons, List.take_zero, List.cons_append, List.nil_append, List.append_assoc, drop_dc, drop_dc', take_dc, take_dc', drop_L, drop_L', take_L, take_L', len_L, Nat.reduceLeDiff, Nat.reduceSub, Nat.reduceAdd, Nat.le_refl, List.length_cons, List.length_append, List.length_nil, dc_length, List.drop_nil, List.take_nil, List.append_nil, List.length_map, List.length_replicate]; first | done | omega))) (ld_aggS Ty.row_26 Ty.sz_26 (by repeat (first | exact Pick.here | apply Pick.there)) (by (simp only [List.drop_succ_cons, List.drop_zero, List.take_succ_cons, List.take_zero, List.cons_append, List.nil_append, List.append_assoc, drop_dc, drop_dc', take_dc, take_dc', drop_L, drop_L', take_L, take_L', len_L, Nat.reduceLeDiff, Nat.reduceSub, Nat.reduceAdd, Nat.le_refl, List.length_cons, List.length_append, List.length_nil, dc_length, List.drop_nil, List.take_nil, List.append_nil, List.length_map, List.length_replicate]; first | done | rfl)) (by first | rfl | (simp only [List.drop_succ_cons, List.drop_zero, List.take_succ_cons, List.take_zero, List.cons_append, List.nil_append, List.append_assoc, drop_dc, drop_dc', take_dc, take_dc', drop_L, drop_L', take_L, take_L', len_L, Nat.reduceLeDiff, Nat.reduceSub, Nat.reduceAdd, Nat.le_refl, List.length_cons, List.length_append, List.length_nil, dc_length, List.drop_nil, List.take_nil, List.append_nil, List.length_map, List.length_replicate]; first | done | omega))) ?_
  exact ze q

set_option maxHeartbeats 400000 in
theorem child15_ok {w : World} {F : Nat → Prop} {w' : World} {A : Nat → Prop} {cs : List Value} {b : Block} {id : Dig} {on : Int} {tx : UInt8} (h : stars [] w F) (hb : RdBlock w' A cs b) (h1 : -1000000000 ≤ b.round ∧ b.round ≤ 1000000000) (h2 : -1000000000 ≤ on ∧ on ≤ 1000000000) :
    Calls Tryd.prog 6 #[.agg cs.toArray, .agg (dc id).toArray, .int .i64 on, B8 tx] w (Post w F (fun x : Nat × Nat => .agg (chC b id on x.2).toArray) (fun x => [rowR 53 1 (some ⟨x.2, 0, none⟩) 1 1 [.slice (some ⟨x.1, 0, none⟩) 1 1], rowR 5 1 (some ⟨x.1, 0, none⟩) 1 1 [B8 tx]])) := by
  obtain ⟨qj, a1, n1, c1, a2, n2, c2, rfl, hj, _⟩ := hb
  have ij := Len.of hj.len
  have jj := One.of hj.one
  refine g_enter (env := [(0, _), (1, .agg (dc id).toArray), (2, .int .i64 on), (3, B8 tx)]) Tryd.func6 rfl h Tryd.ntmps6 rfl rfl ?_
  refine gsr ?_
  refine zbN fun b4 => ?_
  refine zbN fun b5 => ?_
  refine zal fun b8 => ?_
  refine gl_eqc (cs' := blkC) (by repeat (first | exact Pick.here | apply Pick.there)) (by kernel_rfl) ?_
  refine gnt ?_
  refine gsr ?_
  refine gp zfa ?_
  refine gp zl ?_
  refine gp zfa ?_
  refine gp zl ?_
  refine gp zmv ?_
  refine gp (r_int (j := b.round + on) zad (wrap_i64 (by omega) (by omega))) ?_
  refine gp zL ?_
  refine gp zfa ?_
  refine gp zl ?_
  refine gp zfa ?_
  refine gp zl ?_
  refine gp zL ?_
  refine gp (zbu (cs := .int .i64 b.epoch :: .int .i64 b.round :: (dc id ++ [.slice none 0 0]))) ?_
  refine gp zmv ?_
  refine ze1 fun b23 => ?_
  refine ze1 fun b24 => ?_
  refine gp (zbu (cs := .int .i64 b.epoch :: .int .i64 (b.round + on) :: (dc id ++ (.int .i64 b.epoch :: .int .i64 b.round :: (dc id ++ [.slice none 0 0, .slice (some ⟨b24, 0, none⟩) 1 1, .slice none 0 0]))))) ?_
  refine zsN ?_
  refine gnt ?_
  refine gc_ret ?_
  refine gx_retc rfl rfl (ld_aggS Ty.row_33 Ty.sz_33 (by repeat (first | exact Pick.here | apply Pick.there)) (by (simp only [List.drop_succ_cons, List.drop_zero, List.take_succ_cons, List.take_zero, List.cons_append, List.nil_append, List.append_assoc, drop_dc, drop_dc', take_dc, take_dc', drop_L, drop_L', take_L, take_L', len_L, Nat.reduceLeDiff, Nat.reduceSub, Nat.reduceAdd, Nat.le_refl, List.length_cons, List.length_append, List.length_nil, dc_length, List.drop_nil, List.take_nil, List.append_nil, List.length_map, List.length_replicate]; first | done | rfl)) (by first | rfl | (simp only [List.drop_succ_cons, List.drop_zero, List.take_succ_cons, List.take_zero, List.cons_append, List.nil_append, List.append_assoc, drop_dc, drop_dc', take_dc, take_dc', drop_L, drop_L', take_L, take_L', len_L, Nat.reduceLeDiff, Nat.reduceSub, Nat.reduceAdd, Nat.le_refl, List.length_cons, List.length_append, List.length_nil, dc_length, List.drop_nil, List.take_nil, List.append_nil, List.length_map, List.length_replicate]; first | done | omega))) ?_
  exact ze (b23, b24)

set_option maxHeartbeats 400000 in
theorem same03_ok {w : World} {F : Nat → Prop} {a1 a2 : Option Addr} {n1 n2 c1 c2 : Nat} {l1 l2 : List Dig} (h : stars [] w F) (hx : RdList (fun cs d => cs = dc d) w (fun k => ¬ F k) 16 a1 n1 l1) (hy : RdList (fun cs d => cs = dc d) w (fun k => ¬ F k) 16 a2 n2 l2) :
    Calls Tryd.prog 11 #[.slice a1 n1 c1, .slice a2 n2 c2] w (Post w F (fun _ : Unit => .bool (decide (l1 = l2))) (fun _ => [])) := by
  have hn1 := hx.len (by decide)
  have hn2 := hy.len (by decide)
  have hm1 := hx.max
  have hm2 := hy.max
  simp only [maxLen] at hm1 hm2
  refine g_enter (env := [(0, .slice a1 n1 c1), (1, .slice a2 n2 c2)]) Tryd.func11 rfl h Tryd.ntmps11 rfl rfl ?_
  refine gsr ?_
  refine gp zas ?_
  refine gnt ?_
  refine gc_seq ?_
  refine gsr ?_
  refine gp zmv ?_
  refine gp zln ?_
  refine gp zmv ?_
  refine gp zln ?_
  refine gp zni ?_
  refine gnt ?_
  refine gif rfl (fun hc10 => ?_) (fun hc10 => ?_)
  · try simp only at hc10
    have hne : ¬ l1 = l2 := fun e => by subst e; omega
    refine gsr ?_
    refine gp zas ?_
    refine gnt ?_
    refine gc_ret ?_
    refine gx_then_ret ?_
    refine gx_ret1 rfl (by conv => lhs; whnf) ?_
    exact fun w' hw => ⟨(), by rw [decide_eq_false hne], hw.sel (by repeat (first | exact Sel.nil | (apply Sel.cons; · (repeat (first | exact Pick.here | apply Pick.there)))))⟩
  · try simp only at hc10
    have hnn : n1 = n2 := by omega
    refine gc_skip ?_
    refine gx_then ?_
    refine gc_seq ?_
    refine gsr ?_
    refine gp zmv ?_
    refine gp zln ?_
    refine gp zmv ?_
    refine gnt ?_
    refine gc_block ?_
    refine gc_loop (α := Nat) (fun k => [pureR (k ≤ n1 ∧ ∀ i, i < k → l1[i]? = l2[i]?)]) (fun k => [(13, .int .i64 (k : Int))]) [4, 5, 14, 15, 16, 17, 18, 19, 20, 21, 22, 23, 24, 25] (fun k => n1 - k) 0 ?_ ?_ ?_
    · refine env_start (by kernel_rfl)
    · exact zlp ⟨Nat.zero_le _, fun i hi => absurd hi (Nat.not_lt_zero _)⟩
    · intro k u
      refine gc_pureR (fun hk => ?_)
      replace hk : k ≤ n1 ∧ ∀ i, i < k → l1[i]? = l2[i]? := hk
      refine gsr ?_
      refine gp zlt ?_
      refine gnt ?_
      refine gc_seq ?_
      refine gif rfl (fun hc14 => ?_) (fun hc14 => ?_)
      · try simp only at hc14
        have hk' : k < n1 := by omega
        obtain ⟨g1, o1, ce1, d1, ha1, hA1, _, hra1, hl1, hdx, rfl⟩ := hx.elem (i := k) (by decide) hk'
        obtain ⟨g2, o2, ce2, d2, ha2, hA2, _, hra2, hl2, hdy, rfl⟩ := hy.elem (i := k) (by decide) (by omega)
        subst ha1
        subst ha2
        refine gc_skip ?_
        refine gx_then ?_
        refine gc_seq ?_
        refine gc_block ?_
        refine gsr ?_
        refine gp zmv ?_
        refine gp zas ?_
        refine gnt ?_
        refine gc_seq ?_
        refine gc_regionS (by kernel_rfl) (by kernel_rfl) ?_
        refine sp zmv ?_
        refine sp zmv ?_
        refine sp (r_val (v' := .pointer (some ⟨g1, o1 + k * 16, none⟩)) zia (by simp)) ?_
        refine sp (r_ldNo (seg := dc d1) rfl Ty.row_26 Ty.sz_26 hra1 (dc_length _) (by decide) hA1) ?_
        refine sp zmv ?_
        refine sp zmv ?_
        refine sp (r_val (v' := .pointer (some ⟨g2, o2 + k * 16, none⟩)) zia (by simp)) ?_
        refine sp (r_ldNo (seg := dc d2) rfl Ty.row_26 Ty.sz_26 hra2 (dc_length _) (by decide) hA2) ?_
        refine sp znd ?_
        refine gs_nil ?_
        refine gx_then ?_
        refine gif rfl (fun hc24 => ?_) (fun hc24 => ?_)
        · try simp only at hc24
          have hne : ¬ l1 = l2 := fun e => by subst e; rw [hdx] at hdy; cases hdy; simp at hc24
          refine gsr ?_
          refine gp zas ?_
          refine gnt ?_
          refine gc_ret ?_
          refine gx_block_ret ?_
          refine gx_then_ret ?_
          refine gx_round_ret ?_
          refine gx_block_ret ?_
          refine gx_then_ret ?_
          refine gx_ret1 rfl (by conv => lhs; whnf) ?_
          exact fun w' hw => ⟨(), by rw [decide_eq_false hne], hw.sel (by repeat (first | exact Sel.nil | (apply Sel.cons; · (repeat (first | exact Pick.here | apply Pick.there)))))⟩
        · try simp only at hc24
          have heq : d1 = d2 := by simpa using hc24
          refine gc_skip ?_
          refine gx_block_normal ?_
          refine gx_then ?_
          refine gc_region ?_
          refine gp zad ?_
          refine gp zmv ?_
          refine gl_nil ?_
          refine zrd (k + 1) ?_ ?_
          · show n1 - (k + 1) < n1 - k
            omega
          · exact zlp (show k + 1 ≤ n1 ∧ ∀ i, i < k + 1 → l1[i]? = l2[i]? from ⟨by omega, fun i hi => (by by_cases h' : i < k; exact hk.2 i h'; (obtain rfl : i = k := by omega); rw [hdx, hdy, heq])⟩)
      · try simp only at hc14
        have hk' : k = n1 := by omega
        have heq : l1 = l2 := List.ext_getElem? fun i => by (by_cases h' : i < n1; exact hk.2 i (by omega); rw [List.getElem?_eq_none (by omega), List.getElem?_eq_none (by omega)])
        refine gc_exit ?_
        refine gx_then_exit ?_
        refine gx_round_exit ?_
        refine gx_block_hit ?_
        refine gx_then ?_
        refine gsr ?_
        refine gp zas ?_
        refine gnt ?_
        refine gc_ret ?_
        refine gx_ret1 rfl (by conv => lhs; whnf) ?_
        exact fun w' hw => ⟨(), by rw [decide_eq_true heq], hw.sel (by repeat (first | exact Sel.nil | (apply Sel.cons; · (repeat (first | exact Pick.here | apply Pick.there)))))⟩

end Go.Proofs.YtheonhgffglegaaDoor

