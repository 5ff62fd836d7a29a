/- Walks, by program (wg.py) out of a spec. -/
import Derived.Test.YtkgbbnhdioghmaaDoorRd2
import Derived.Test.YtkgbbnhdioghmaaDoorRz
namespace Go.Proofs.YtkgbbnhdioghmaaDoor
open Go
set_option linter.unusedVariables false
set_option linter.unusedSimpArgs false


instance : Len voteC 22 := ⟨rfl⟩
instance : Len tmoC 28 := ⟨rfl⟩
instance : Len propC 46 := ⟨rfl⟩
instance : Len blkC 39 := ⟨rfl⟩
instance : Len chgC 136 := ⟨rfl⟩
instance : Len qcC 19 := ⟨rfl⟩
instance : Len sgnC 4 := ⟨rfl⟩
instance : Len tcC 3 := ⟨rfl⟩
theorem one_qcC : ∀ v ∈ qcC, v.oneCell' = true := (rdQC0 (w := default) (A := fun _ => True)).one
def chgAt (css : List (List Value)) (k : Nat) : List Value := css.flatten ++ ((List.replicate (3 - k) blkC).flatten ++ qcC)
theorem chg_len {css : List (List Value)} (h : ∀ c ∈ css, c.length = 39) {k : Nat} (hk : css.length = k) (h3 : k ≤ 3) : (chgAt css k).length = 136 := by
  have e : (List.replicate (3 - k) blkC).flatten.length = (3 - k) * 39 := by
    have := flatten_len (css := List.replicate (3 - k) blkC) (size := 39) (fun c hc => by rw [List.eq_of_mem_replicate hc]; rfl)
    rw [this, List.length_replicate]
  simp only [chgAt, List.length_append, flatten_len h, hk, e, show qcC.length = 19 from rfl]; omega
theorem chg_store {css : List (List Value)} {q : List Value} (h : ∀ c ∈ css, c.length = 39) {k o : Nat} (hk : css.length = k) (h3 : k < 3) (hq : q.length = 39) (ho : o = k * 39) : updL (chgAt css k) o q = chgAt (css ++ [q]) (k + 1) := by
  have e1 : css.flatten.length = o := by rw [flatten_len h, hk, ho]
  have e2 : 3 - k = (3 - (k + 1)) + 1 := by omega
  simp only [updL, chgAt]
  rw [List.take_append_of_le_length (by omega), List.take_of_length_le (by omega), List.drop_append, List.drop_eq_nil_of_le (by omega), e1, hq, show o + 39 - o = 39 by omega, e2, List.replicate_succ, List.flatten_cons, List.append_assoc, List.nil_append,
    drop_q (show blkC.length = 39 from rfl) (Nat.le_refl _), List.flatten_append]
  simp
theorem vl_chg {css : List (List Value)} {l : List Block} {q : List Value} {x : QC} {w : World} {F : Nat → Prop} (h39 : ∀ c ∈ css, c.length = 39) (hl : l.length = 3) (h : stars [ElR RdBlock css l, VlR RdQC q x] w F) : stars [VlR RdChg (css.flatten ++ q) ⟨l, x⟩] w F := by
  obtain ⟨F1, F2, ⟨⟨he, h1⟩, _⟩, h2, hF⟩ := stars_two h
  exact rdR_mk ⟨css, q, rfl, h39, by rw [he, hl], hl, fun i c b hc hb => (h1 i c b hc hb).mv (still_sub fun k hk => (hF k).2 (.inl hk)), h2.1.mv (still_sub fun k hk => (hF k).2 (.inr hk))⟩ h
section
variable {w : World} {F : Nat → Prop}
theorem vl_vote {e r : Int} {d : Dig} {q cs : List Value} {x : Signed} (hc : cs = .int .i64 1 :: ((.int .i64 e :: .int .i64 r :: (dc d ++ q)) ++ (tmoC ++ (propC ++ (dc dig0 ++ (dc dig0 ++ (blkC ++ chgC)))))))
    (h : stars [VlR RdSigned q x] w F) : stars [VlR RdMsg cs { msg0 1 with vote := ⟨e, r, d, x⟩ }] w F := rdR_mk ⟨_, _, _, _, _, hc, ⟨q, rfl, (stars_one' h).1⟩, rdTmo0, rdProp0, rdBlock0, rdChg0⟩ h
theorem vl_tmo {e r : Int} {q t s cs : List Value} {x : QC} {y : TC} {z : Signed} (hc : cs = .int .i64 2 :: (voteC ++ ((.int .i64 e :: .int .i64 r :: (q ++ (t ++ s))) ++ (propC ++ (dc dig0 ++ (dc dig0 ++ (blkC ++ chgC)))))))
    (h : stars [VlR RdQC q x, VlR RdTC t y, VlR RdSigned s z] w F) : stars [VlR RdMsg cs { msg0 2 with tmo := ⟨e, r, x, y, z⟩ }] w F := by
  obtain ⟨F1, F2, h1, h2, hF⟩ := stars_cons h
  obtain ⟨F3, F4, h3, h4, hF2⟩ := stars_two h2
  exact rdR_mk ⟨_, _, _, _, _, hc, rdVote0, ⟨q, t, s, rfl, h1.1.mv (still_sub fun k hk => (hF k).2 (.inl hk)), h3.1.mv (still_sub fun k hk => (hF k).2 (.inr ((hF2 k).2 (.inl hk)))), h4.1.mv (still_sub fun k hk => (hF k).2 (.inr ((hF2 k).2 (.inr hk))))⟩, rdProp0, rdBlock0, rdChg0⟩ h
theorem vl_prop {b t s cs : List Value} {x : Block} {y : TC} {z : Signed} (hc : cs = .int .i64 3 :: (voteC ++ (tmoC ++ ((b ++ (t ++ s)) ++ (dc dig0 ++ (dc dig0 ++ (blkC ++ chgC)))))))
    (h : stars [VlR RdBlock b x, VlR RdTC t y, VlR RdSigned s z] w F) : stars [VlR RdMsg cs { msg0 3 with prop := ⟨x, y, z⟩ }] w F := by
  obtain ⟨F1, F2, h1, h2, hF⟩ := stars_cons h
  obtain ⟨F3, F4, h3, h4, hF2⟩ := stars_two h2
  exact rdR_mk ⟨_, _, _, _, _, hc, rdVote0, rdTmo0, ⟨b, t, s, rfl, h1.1.mv (still_sub fun k hk => (hF k).2 (.inl hk)), h3.1.mv (still_sub fun k hk => (hF k).2 (.inr ((hF2 k).2 (.inl hk)))), h4.1.mv (still_sub fun k hk => (hF k).2 (.inr ((hF2 k).2 (.inr hk))))⟩, rdBlock0, rdChg0⟩ h
theorem vl_want {d e : Dig} {cs : List Value} {L : List Res} (hc : cs = .int .i64 4 :: (voteC ++ (tmoC ++ (propC ++ (dc d ++ (dc e ++ (blkC ++ chgC))))))) (h : stars L w F) : stars (VlR RdMsg cs { msg0 4 with wantFrom := d, wantBlock := e } :: L) w F :=
  vl_pure (show RdMsg w _ cs _ from ⟨_, _, _, _, _, hc, rdVote0, rdTmo0, rdProp0, rdBlock0, rdChg0⟩) h
theorem vl_reply {b cs : List Value} {x : Block} (hc : cs = .int .i64 5 :: (voteC ++ (tmoC ++ (propC ++ (dc dig0 ++ (dc dig0 ++ (b ++ chgC))))))) (h : stars [VlR RdBlock b x] w F) : stars [VlR RdMsg cs { msg0 5 with reply := x }] w F :=
  rdR_mk ⟨_, _, _, _, _, hc, rdVote0, rdTmo0, rdProp0, (stars_one' h).1, rdChg0⟩ h
theorem vl_change {c cs : List Value} {x : Chg} (hc : cs = .int .i64 6 :: (voteC ++ (tmoC ++ (propC ++ (dc dig0 ++ (dc dig0 ++ (blkC ++ c))))))) (h : stars [VlR RdChg c x] w F) : stars [VlR RdMsg cs { msg0 6 with chg := x }] w F :=
  rdR_mk ⟨_, _, _, _, _, hc, rdVote0, rdTmo0, rdProp0, rdBlock0, (stars_one' h).1⟩ h
theorem vl_none {k : Int} {cs : List Value} {L : List Res} (hc : cs = msgC k dig0 dig0) (h : stars L w F) : stars (VlR RdMsg cs (msg0 k) :: L) w F := vl_pure (show RdMsg w _ cs _ by rw [hc]; exact rdMsgOf k dig0 dig0) h
end
def doneE : RSt → Nat
  | .error e => e
  | .ok [] => 0
  | .ok _ => 3

attribute [local irreducible] Gl Gc Gx Gs Runs Wt

set_option maxHeartbeats 400000 in
theorem rdone_ok {w : World} {F : Nat → Prop} {TE : Nat} {ea : Nat → Addr} {g : Nat} {σ : RSt} (h : stars [RdrR TE ea g σ] w F) {es : List Nat} [Has es 3] (hE : GErr es w (fun k => ¬ F k) TE ea) :
    Calls Tryd.prog 106 #[.pointer (some ⟨g, 0, none⟩)] w (Post w F (fun _ : Unit => eV TE ea (doneE σ)) (fun _ => [RdrR TE ea g σ])) := by
  obtain ⟨s, a, c, hs, hc, h'⟩ := rr_open h
  refine g_enter (env := [(0, .pointer (some ⟨g, 0, none⟩))]) Tryd.func106 rfl h' Tryd.ntmps106 rfl rfl ?_
  refine gsr ?_
  refine gp zas ?_
  refine gnt ?_
  refine gc_seq ?_
  refine gc_seq ?_
  by_cases he : s.err = 0
  · refine gc_region ?_
    refine gp zmv ?_
    refine gp znc ?_
    refine gp zfa ?_
    refine gp zfa ?_
    refine gp zl ?_
    refine gp (r_bool (c := true) (r_eqnil rfl (by kernel_rfl)) (decide_eq_true he)) ?_
    refine gp zmv ?_
    refine gq zmv ?_
    refine gq znc ?_
    refine gq zfa ?_
    refine gq zl ?_
    refine gq zln ?_
    refine gq zgt ?_
    refine gp zpk ?_
    refine gnt ?_
    refine gif rfl (fun hc16 => ?_) (fun hc16 => ?_)
    · try simp only at hc16
      have e : doneE σ = 3 := by rw [← hs, WS.st, if_pos he]; cases hb : s.bs with | nil => (rw [hb] at hc16; simp at hc16) | cons x r => rfl
      refine gsr ?_
      refine gp (r_ld1o rfl Ty.row_35 (hE.c 3 Has.h) (hE.n 3 Has.h)) ?_
      refine gp zas ?_
      refine gnt ?_
      refine gc_ret ?_
      refine gx_then_ret ?_
      refine gx_ret1 rfl (by conv => lhs; whnf) ?_
      rw [e]
      exact fun w' hw => ⟨(), rfl, St.rdr (hw.sel (M := [blk g 195 [_, .slice a _ c], BtR a s.bs none []]) (by repeat (first | exact Sel.nil | (apply Sel.cons; · (repeat (first | exact Pick.here | apply Pick.there)))))) rfl rfl hs hc⟩
    · try simp only at hc16
      have e : doneE σ = s.err := by rw [← hs, WS.st, if_pos he, he]; cases hb : s.bs with | nil => rfl | cons x r => (rw [hb] at hc16; simp at hc16; omega)
      refine gc_skip ?_
      refine gx_then ?_
      refine gsr ?_
      refine gp zmv ?_
      refine gp znc ?_
      refine gp zfa ?_
      refine gp zfa ?_
      refine gp zl ?_
      refine gp zas ?_
      refine gnt ?_
      refine gc_ret ?_
      refine gx_ret1 rfl (by conv => lhs; whnf) ?_
      rw [e]
      exact fun w' hw => ⟨(), rfl, St.rdr (hw.sel (M := [blk g 195 [_, .slice a _ c], BtR a s.bs none []]) (by repeat (first | exact Sel.nil | (apply Sel.cons; · (repeat (first | exact Pick.here | apply Pick.there)))))) rfl rfl hs hc⟩
  · refine gc_region ?_
    refine gp zmv ?_
    refine gp znc ?_
    refine gp zfa ?_
    refine gp zfa ?_
    refine gp zl ?_
    refine gp (r_bool (c := false) (r_eqnil rfl (by kernel_rfl)) (decide_eq_false he)) ?_
    refine gp zmv ?_
    refine gn ?_
    refine gn ?_
    refine gn ?_
    refine gn ?_
    refine gn ?_
    refine gn ?_
    refine gp zpk ?_
    refine gnt ?_
    refine gc_condF rfl rfl ?_
    refine gc_skip ?_
    refine gx_then ?_
    refine gsr ?_
    refine gp zmv ?_
    refine gp znc ?_
    refine gp zfa ?_
    refine gp zfa ?_
    refine gp zl ?_
    refine gp zas ?_
    refine gnt ?_
    refine gc_ret ?_
    refine gx_ret1 rfl (by conv => lhs; whnf) ?_
    have e : doneE σ = s.err := by rw [← hs, WS.st, if_neg he]; rfl
    rw [e]
    exact fun w' hw => ⟨(), rfl, St.rdr (hw.sel (M := [blk g 195 [_, .slice a _ c], BtR a s.bs none []]) (by repeat (first | exact Sel.nil | (apply Sel.cons; · (repeat (first | exact Pick.here | apply Pick.there)))))) rfl rfl hs hc⟩

set_option maxHeartbeats 400000 in
theorem rchange_ok {w : World} {F : Nat → Prop} {TE : Nat} {ea : Nat → Addr} {g : Nat} {σ : RSt} (h : stars [RdrR TE ea g σ] w F) {es : List Nat} [Has es 1] [Has es 2] (hE : GErr es w (fun k => ¬ F k) TE ea) :
    Calls Tryd.prog 113 #[.agg (List.toArray [.pointer (some ⟨g, 0, none⟩)])] w (Post w F (fun r : List Value × Chg => .agg r.1.toArray) (fun r => [pureR (r.2.blocks.length = 3 ∧ Ag pChg σ r.2 ∧ r.1.length = 136 ∧ ∀ v ∈ r.1, v.oneCell' = true), VlR RdChg r.1 r.2, RdrR TE ea g (rstep pChg σ)])) := by
  refine g_enter (env := [(0, .agg (List.toArray [.pointer (some ⟨g, 0, none⟩)]))]) Tryd.func113 rfl h Tryd.ntmps113 rfl rfl ?_
  refine gsr ?_
  refine zbN fun b1 => ?_
  refine zal fun b2 => ?_
  refine gl_eqc (cs' := chgAt [] 0) (by repeat (first | exact Pick.here | apply Pick.there)) (by kernel_rfl) ?_
  refine gnt ?_
  refine gc_seq ?_
  refine gsr ?_
  refine gp zmv ?_
  refine gnt ?_
  refine gc_block ?_
  refine gc_loop (α := Nat × RSt × List (List Value) × List Block) (fun y => [pureR (y.1 ≤ 3 ∧ Many pBlock 3 σ (3 - y.1) y.2.1 y.2.2.2 ∧ (∀ c ∈ y.2.2.1, c.length = 39 ∧ ∀ v ∈ c, v.oneCell' = true) ∧ y.2.2.1.length = y.1 ∧ y.2.2.2.length = y.1), blk b2 65 (chgAt y.2.2.1 y.1), ElR RdBlock y.2.2.1 y.2.2.2, RdrR TE ea g y.2.1, blk b1 126 [.pointer (some ⟨g, 0, none⟩)]]) (fun y => [(4, .int .i64 (y.1 : Int))]) [3, 5, 6, 7, 8, 9, 10, 11, 12] (fun y => 3 - y.1) (0, σ, [], []) ?_ ?_ ?_
  · refine env_start (by kernel_rfl)
  · exact fun w' hw => zlp ⟨Nat.zero_le _, Many.start, (by intro c hc; cases hc), rfl, rfl⟩ (by repeat (first | exact Sel.nil | (apply Sel.cons; · (repeat (first | exact Pick.here | apply Pick.there))))) w' (hw.mapL fun F' hF' => el_nil (rd := RdBlock) hF')
  · intro y u
    obtain ⟨k, τ, css, l⟩ := y
    refine gc_pureR (fun hk => ?_)
    obtain ⟨hk, hmany, hcss, hcl, hll⟩ := hk
    replace hk : k ≤ 3 := hk
    replace hcss : ∀ c ∈ css, c.length = 39 ∧ ∀ v ∈ c, v.oneCell' = true := hcss
    have hcs1 := fun c hc v hv => (hcss c hc).2 v hv
    replace hcss := fun c hc => (hcss c hc).1
    replace hcl : css.length = k := hcl
    replace hll : l.length = k := hll
    replace hmany : Many pBlock 3 σ (3 - k) τ l := hmany
    refine gsr ?_
    refine gp zlt ?_
    refine gnt ?_
    refine gc_seq ?_
    refine gif rfl (fun hc5 => ?_) (fun hc5 => ?_)
    · try simp only at hc5
      have hk' : k < 3 := by omega
      refine gc_skip ?_
      refine gx_then ?_
      refine gc_seq ?_
      refine gc_block ?_
      refine gsr ?_
      refine gp zmv ?_
      refine gp zas ?_
      refine gnt ?_
      refine gc_region ?_
      refine gp zmv ?_
      refine gp zL ?_
      refine zc ?_ (c := fun w1 F1 F2 h1 h2 hd hst => rblock_ok h1 (hE.mv hst.still))
      rintro ⟨q9, v9⟩
      refine gl_pureR (fun hp9 => ?_)
      obtain ⟨g9, z9, o9⟩ := hp9
      replace z9 : q9.length = _ := z9
      have i9 := Len.of z9
      have j9 := One.of (show ∀ v ∈ q9, v.oneCell' = true from o9)
      refine gp zfa ?_
      refine gp (zib) ?_
      refine gl_storeN (wt0 rfl) rfl rfl Ty.sz_30 z9 (by repeat (first | exact Pick.here | apply Pick.there)) (by rw [chg_len hcss hcl hk]; omega) o9 (chg_store hcss hcl hk' z9 (by omega)) ?_
      refine gl_nil ?_
      refine gx_block_normal ?_
      refine gx_then ?_
      refine gc_region ?_
      refine gp zad ?_
      refine gp zmv ?_
      refine gl_nil ?_
      refine zrd ((k + 1, rstep pBlock τ, css ++ [q9], l ++ [v9])) ?_ ?_
      · show 3 - (k + 1) < 3 - k
        omega
      · rintro w' hw
        have h1 := hw.conv (M := [ElR RdBlock css l, VlR RdBlock q9 v9]) (by repeat (first | exact Sel.nil | (apply Sel.cons; · (repeat (first | exact Pick.here | apply Pick.there))))) (fun _ _ => el_snoc)
        refine zlp ⟨?_, ?_, ?_, ?_, ?_⟩ (by repeat (first | exact Sel.nil | (apply Sel.cons; · (repeat (first | exact Pick.here | apply Pick.there))))) w' h1
        · show k + 1 ≤ 3; omega
        · rw [show 3 - k = 3 - (k + 1) + 1 by omega] at hmany; exact hmany.next g9
        · intro c' hc'; rcases List.mem_append.1 hc' with h | h; exact ⟨hcss c' h, hcs1 c' h⟩; rw [List.mem_singleton.1 h]; exact ⟨z9, o9⟩
        · simp [hcl]
        · simp [hll]
    · try simp only at hc5
      have hk' : k = 3 := by omega
      subst hk'
      have hm := hmany.done
      have hfl : css.flatten.length = 117 := by rw [flatten_len hcss, hcl]
      have hi := Len.of hfl
      have hone : One css.flatten := One.of (fun v hv => by obtain ⟨c, hc, hvc⟩ := List.mem_flatten.1 hv; exact hcs1 c hc v hvc)
      refine gc_eqc (cs' := css.flatten ++ qcC) (by repeat (first | exact Pick.here | apply Pick.there)) (by rw [← hcl]; simp [chgAt, hcl]) ?_
      refine gc_exit ?_
      refine gx_then_exit ?_
      refine gx_round_exit ?_
      refine gx_block_hit ?_
      refine gx_then ?_
      refine gsr ?_
      refine gp zL ?_
      refine zc ?_ (c := fun w1 F1 F2 h1 h2 hd hst => rqc_ok h1 (hE.mv hst.still))
      rintro ⟨q14, v14⟩
      refine gl_pureR (fun hp14 => ?_)
      obtain ⟨g14, z14, o14⟩ := hp14
      replace z14 : q14.length = _ := z14
      have i14 := Len.of z14
      have j14 := One.of (show ∀ v ∈ q14, v.oneCell' = true from o14)
      refine gp zfa ?_
      refine zsN ?_
      refine gnt ?_
      refine gsr ?_
      refine gp zL ?_
      refine zsN ?_
      refine gnt ?_
      refine gc_ret ?_
      refine gx_retc rfl rfl (ld_aggS Ty.row_65 Ty.sz_65 (by repeat (first | exact Pick.here | apply Pick.there)) (by (simp only [List.drop_succ_cons, List.drop_zero, List.take_succ_cons, List.take_zero, List.cons_append, List.nil_append, List.append_assoc, drop_dc, drop_dc', take_dc, take_dc', drop_L, drop_L', take_L, take_L', len_L, Nat.reduceLeDiff, Nat.reduceSub, Nat.reduceAdd, Nat.le_refl, List.length_cons, List.length_append, List.length_nil, dc_length, List.drop_nil, List.take_nil, List.append_nil, List.length_map, List.length_replicate]; first | done | rfl)) (by first | rfl | (simp only [List.drop_succ_cons, List.drop_zero, List.take_succ_cons, List.take_zero, List.cons_append, List.nil_append, List.append_assoc, drop_dc, drop_dc', take_dc, take_dc', drop_L, drop_L', take_L, take_L', len_L, Nat.reduceLeDiff, Nat.reduceSub, Nat.reduceAdd, Nat.le_refl, List.length_cons, List.length_append, List.length_nil, dc_length, List.drop_nil, List.take_nil, List.append_nil, List.length_map, List.length_replicate]; first | done | omega))) ?_
      have ha : Ag pChg σ ⟨l, v14⟩ := hm.2.bind ((show Ag pQC (rstep (pMany pBlock 3) σ) v14 by rw [hm.1]; exact g14).bind (Ag.pure _))
      have hr : rstep pChg σ = rstep pQC τ := by rw [pChg, rstep_bind hm.2, hm.1, rstep_bind g14, rstep_pure]
      rw [hr]
      intro w' hw
      refine ⟨(css.flatten ++ q14, ⟨l, v14⟩), rfl, St.pureI ⟨hll, ha, by simp only [List.length_append, len_L], ?_⟩ ?_⟩
      · exact all_app' One.h o14
      · exact (hw.conv (M := [ElR RdBlock css l, VlR RdQC q14 v14]) (by repeat (first | exact Sel.nil | (apply Sel.cons; · (repeat (first | exact Pick.here | apply Pick.there))))) (fun _ _ => vl_chg hcss hll)).sel (by repeat (first | exact Sel.nil | (apply Sel.cons; · (repeat (first | exact Pick.here | apply Pick.there)))))

end Go.Proofs.YtkgbbnhdioghmaaDoor
