/- Part 4. What is proved: see the last part: for every input the law returns true, and the input reads as it did. -/
import Derived.Test.YtobjojeliibinaaDoorCo3
/- Walks, by program (wg.py) out of a spec. -/
namespace Go.Proofs.YtobjojeliibinaaDoor
open Go
set_option linter.unusedVariables false
set_option linter.unusedSimpArgs false


/-- A tree that is owned. -/
def TreeR (q : Nat) (t : Tr) : Res := exR fun x : (Nat × (Option Addr × Nat) × (Option Addr × Nat)) × (List (List Value) × List (List Value)) =>
  allR [pureR (∀ c ∈ x.2.2, c.length = 19), blk q 78 (dc t.root ++ [.map (some x.1.1), .slice x.1.2.1.1 t.nodes.length x.1.2.1.2, .slice x.1.2.2.1 t.certs.length x.1.2.2.2]), mapR x.1.1 (encK digV (nodeV t.nodes x.2.1)), ElR RdBlock x.2.1 (t.nodes.map (fun p => p.2)),
    rowR 26 16 x.1.2.1.1 t.nodes.length x.1.2.1.2 ((keysT t).map dc).flatten, rowR 29 19 x.1.2.2.1 t.certs.length x.1.2.2.2 x.2.2.flatten, ElR RdQC x.2.2 t.certs]
abbrev treL (q : Nat) (t : Tr) (g : Nat) (ao : Option Addr) (co : Nat) (ac : Option Addr) (cc : Nat) (css qss : List (List Value)) (L : List Res) : List Res :=
  blk q 78 (dc t.root ++ [.map (some g), .slice ao t.nodes.length co, .slice ac t.certs.length cc]) :: mapR g (encK digV (nodeV t.nodes css)) :: ElR RdBlock css (t.nodes.map (fun p => p.2)) ::
    rowR 26 16 ao t.nodes.length co ((keysT t).map dc).flatten :: rowR 29 19 ac t.certs.length cc qss.flatten :: ElR RdQC qss t.certs :: L
section
variable {w0 w : World} {F F0 : Nat → Prop} {L L' : List Res} {Q : Exit → Act → World → Prop} {n : Fm} {env : Env} {ops : Array Oper} {rest : List Oper} {q : Nat} {t : Tr}
theorem tree_open (h : stars (TreeR q t :: L) w F) : ∃ g ao co ac cc css qss, (∀ c ∈ qss, List.length c = 19) ∧ stars (treL q t g ao co ac cc css qss L) w F := by
  obtain ⟨⟨⟨g, ⟨ao, co⟩, ⟨ac, cc⟩⟩, ⟨css, qss⟩⟩, h⟩ := stars_ex h
  obtain ⟨h1, h2⟩ := stars_pure (stars_all h)
  exact ⟨g, ao, co, ac, cc, css, qss, h1, h2⟩
theorem tree_shut {g : Nat} {ao : Option Addr} {co : Nat} {ac : Option Addr} {cc : Nat} {css qss : List (List Value)} (h19 : ∀ c ∈ qss, List.length c = 19) (h : stars (treL q t g ao co ac cc css qss L) w F) : stars (TreeR q t :: L) w F :=
  stars_ex_mk ((g, (ao, co), (ac, cc)), (css, qss)) (stars_all_mk (stars_pure_mk h19 h))
theorem gc_tree {c : Code} (hp : Pick L (TreeR q t) L') (k : ∀ g ao co ac cc css qss, (∀ c ∈ qss, List.length c = 19) → Gc Tryd.prog w0 F0 (treL q t g ao co ac cc css qss L') c Q n env) : Gc Tryd.prog w0 F0 L c Q n env := fun w hw => by
  obtain ⟨F, hF, hst⟩ := hw.pick hp
  obtain ⟨g, ao, co, ac, cc, css, qss, h19, h⟩ := tree_open hF
  exact k g ao co ac cc css qss h19 w ⟨F, h, hst⟩
theorem gl_tree (hp : Pick L (TreeR q t) L') (k : ∀ g ao co ac cc css qss, (∀ c ∈ qss, List.length c = 19) → Gl Tryd.prog w0 F0 (treL q t g ao co ac cc css qss L') ops Q rest n env) : Gl Tryd.prog w0 F0 L ops Q rest n env := fun w hw => by
  obtain ⟨F, hF, hst⟩ := hw.pick hp
  obtain ⟨g, ao, co, ac, cc, css, qss, h19, h⟩ := tree_open hF
  exact k g ao co ac cc css qss h19 w ⟨F, h, hst⟩
theorem treL_rd {g : Nat} {ao : Option Addr} {co : Nat} {ac : Option Addr} {cc : Nat} {css qss : List (List Value)} (h19 : ∀ c ∈ qss, List.length c = 19) (h : stars (treL q t g ao co ac cc css qss []) w F) : RdTree w F q t := by
  obtain ⟨F1, R1, h1, k1, e1, _⟩ := h
  obtain ⟨F2, R2, h2, k2, e2, _⟩ := k1
  obtain ⟨F3, R3, ⟨⟨h3l, h3⟩, _⟩, k3, e3, _⟩ := k2
  obtain ⟨F4, R4, h4, k4, e4, _⟩ := k3
  obtain ⟨F5, R5, h5, k5, e5, _⟩ := k4
  obtain ⟨F6, R6, ⟨⟨h6l, h6⟩, _⟩, _, e6, _⟩ := k5
  have s1 : ∀ k, F1 k → F k := fun k hk => (e1 k).2 (.inl hk)
  have s2 : ∀ k, F2 k → F k := fun k hk => (e1 k).2 (.inr ((e2 k).2 (.inl hk)))
  have s3 : ∀ k, F3 k → F k := fun k hk => (e1 k).2 (.inr ((e2 k).2 (.inr ((e3 k).2 (.inl hk)))))
  have s4 : ∀ k, F4 k → F k := fun k hk => (e1 k).2 (.inr ((e2 k).2 (.inr ((e3 k).2 (.inr ((e4 k).2 (.inl hk)))))))
  have s5 : ∀ k, F5 k → F k := fun k hk => (e1 k).2 (.inr ((e2 k).2 (.inr ((e3 k).2 (.inr ((e4 k).2 (.inr ((e5 k).2 (.inl hk)))))))))
  have s6 : ∀ k, F6 k → F k := fun k hk => (e1 k).2 (.inr ((e2 k).2 (.inr ((e3 k).2 (.inr ((e4 k).2 (.inr ((e5 k).2 (.inr ((e6 k).2 (.inl hk)))))))))))
  have hlt := treeC_len t g ao co ac cc
  refine ⟨g, ao, co, ac, cc, css, ?_, ?_, ⟨by simpa using h3l, fun i c p hc hp => ?_⟩, ?_, ?_⟩
  · exact (RdRow.of_blk h1 (n := 1) (size := 19) (o := 0) (by rw [List.drop_zero]; exact List.take_of_length_le (by rw [← treeC, hlt]; decide)) (by rw [hlt]) (by decide)).mv (still_sub s1)
  · exact (mapR.rd h2).mv (still_sub s2)
  · exact (h3 i c p.2 hc (by simp [hp])).mv (still_sub s3)
  · refine ⟨(keysT t).map dc, (rowR.rd h4).mv (still_sub s4), fun c hc => ?_, by simp, fun i c x hc hx => ?_⟩
    · obtain ⟨x, _, rfl⟩ := List.mem_map.1 hc; exact dc_length x
    · rw [List.getElem?_map, hx] at hc; cases hc; rfl
  · exact ⟨qss, (rowR.rd h5).mv (still_sub s5), h19, h6l, fun i c x hc hx => (h6 i c x hc hx).mv (still_sub s6)⟩
theorem tree_rd1 (h : stars [TreeR q t] w F) : RdTree w F q t := by
  obtain ⟨g, ao, co, ac, cc, css, qss, h19, h⟩ := tree_open h
  exact treL_rd h19 h
theorem tr_rd {F1 F2 : Nat → Prop} (h2 : stars L w F2) (hd : ∀ k, F1 k → ¬ F2 k) (hp : Pick L (TreeR q t) L') : RdTree w (fun k => ¬ F1 k) q t := by
  obtain ⟨G1, h1, hs⟩ := stars_pick hp h2
  exact (tree_rd1 (stars_one h1)).mv (still_sub fun k hk h' => hd k h' (hs k hk))
end
theorem lookP {t : Tr} {css : List (List Value)} (hl : css.length = (t.nodes.map (fun p => p.2)).length) (he : ∀ (i : Nat) (c : List Value) (x : Block), css[i]? = some c → (t.nodes.map (fun p => p.2))[i]? = some x → ∃ w A, RdBlock w A c x) (d : Dig) :
    ∃ cp, (if (true : Bool) then Value.tuple #[(getK d (nodeV t.nodes css)).getD (.agg blkC.toArray), .bool (getK d (nodeV t.nodes css)).isSome] else (getK d (nodeV t.nodes css)).getD (.agg blkC.toArray)) = .tuple #[.agg cp.toArray, .bool (lkN d t.nodes).isSome] ∧ ∃ w A, RdBlock w A cp (bOf t d) := by
  cases hk : lkN d t.nodes with
  | none => exact ⟨blkC, by rw [TrM.lookn hk]; rfl, default, fun _ => True, by rw [bOf, hk]; exact rdBlock0⟩
  | some b =>
    obtain ⟨i, c, h1, h2, h3⟩ := nodeV_some (k := 0) (by simpa using hl) hk
    obtain ⟨w, A, hr⟩ := he i c b h2 (by simp [h1])
    exact ⟨c, by rw [getK, h3]; rfl, w, A, by rw [bOf, hk]; exact hr⟩
theorem nodeV_put {l : List (Dig × Block)} {css : List (List Value)} {id : Dig} {b : Block} {c : List Value} (hl : css.length = l.length) (hn : lkN id l = none) : putK id (.agg c.toArray) (nodeV l css) = nodeV (l ++ [(id, b)]) (css ++ [c]) := by
  rw [(atK_none (v := .agg c.toArray) (nodeV_none (css := css) (k := 0) hn)).1]
  simp only [nodeV, List.map_append, List.map_cons, List.map_nil]
  rw [List.zip_append (by simp [hl])]; rfl
theorem stars_newT {q g b1 b2 : Nat} {c d : List Value} {b : Block} {qc : QC} {id : Dig} {w : World} {F : Nat → Prop} {L : List Res} (hq : d.length = 19)
    (h : stars (blk q 78 (dc id ++ [.map (some g), .slice (some ⟨b1, 0, none⟩) 1 1, .slice (some ⟨b2, 0, none⟩) 1 1]) :: mapR g (encK digV (putK id (.agg c.toArray) [])) :: VlR RdBlock c b :: rowR 26 16 (some ⟨b1, 0, none⟩) 1 1 (dc id) :: rowR 29 19 (some ⟨b2, 0, none⟩) 1 1 d :: VlR RdQC d qc :: L) w F) : stars (TreeR q (newT b qc id) :: L) w F := by
  refine tree_shut (g := g) (ao := some ⟨b1, 0, none⟩) (co := 1) (ac := some ⟨b2, 0, none⟩) (cc := 1) (css := [c]) (qss := [d]) (fun x hx => by simp at hx; subst hx; exact hq) ?_
  have hb : ∀ {F : Nat → Prop}, (VlR RdBlock c b).on w F → (ElR RdBlock [c] [b]).on w F := fun h => stars_one' (el_snoc (css := []) (l := []) (el_nil (stars_one h)))
  have hc : ∀ {F : Nat → Prop}, (VlR RdQC d qc).on w F → (ElR RdQC [d] [qc]).on w F := fun h => stars_one' (el_snoc (css := []) (l := []) (el_nil (stars_one h)))
  obtain ⟨F1, R1, h1, k1, e1, d1⟩ := h
  obtain ⟨F2, R2, h2, k2, e2, d2⟩ := k1
  obtain ⟨F3, R3, h3, k3, e3, d3⟩ := k2
  obtain ⟨F4, R4, h4, k4, e4, d4⟩ := k3
  obtain ⟨F5, R5, h5, k5, e5, d5⟩ := k4
  obtain ⟨F6, R6, h6, k6, e6, d6⟩ := k5
  exact ⟨F1, R1, h1, ⟨F2, R2, h2, ⟨F3, R3, hb h3, ⟨F4, R4, by simpa [keysT, newT] using h4, ⟨F5, R5, by simpa [newT] using h5, ⟨F6, R6, hc h6, k6, e6, d6⟩, e5, d5⟩, e4, d4⟩, e3, d3⟩, e2, d2⟩, e1, d1⟩

attribute [local irreducible] Gl Gc Gx Gs Runs Wt

attribute [local irreducible] dc qcC blkC idOf

set_option maxHeartbeats 400000 in
theorem task_ok {w : World} {F : Nat → Prop} {q : Nat} {t : Tr} (hx : RdTree w (fun k => ¬ F k) q t) (hok : TOk t) {ea : Nat → Addr} {es : List Nat} [Has es 1] [Has es 4] [Has es 8] [Has es 12] [Has es 14] [Has es 16] [Has es 17] (hE : GErr es w (fun k => ¬ F k) 146 ea) (hK : KR w (fun k => ¬ F k)) {cs : List Value} {b : Block} (h : stars [] w F) (hb : RdBlock w (fun k => ¬ F k) cs b) :
    Calls Tryd.prog 25 #[.pointer (some ⟨q, 0, none⟩), .agg cs.toArray] w (Post w F (fun _ : Unit => .tuple #[.agg (dc (idOf b)).toArray, eV 146 ea (askE t b (wBlock b ⟨0, []⟩).err (idOf b))]) (fun _ => [])) := by
  obtain ⟨g, ao, co, ac, cc, css, hT⟩ := hx
  obtain ⟨hqA, hrt, h16, h17, h18⟩ := hT.cells
  have hle := hok.le
  have hcl := hok.cl
  have hce := hok.ce
  have hb' := hb
  obtain ⟨qj, a1, n1, c1, a2, n2, c2, rfl, hj, hj2, hj3, hj4, hj5⟩ := hb'
  have ij := Len.of hj.len
  have jj := One.of hj.one
  obtain ⟨cp, hgk, hrp⟩ := hT.lookB (idOf b)
  have icp := Len.of hrp.len
  have jcp := One.of hrp.one
  refine g_enter (env := [(0, .pointer (some ⟨q, 0, none⟩)), (1, _)]) Tryd.func25 rfl h Tryd.ntmps25 rfl rfl ?_
  refine gsr ?_
  refine zbN fun b3 => ?_
  refine zal fun b4 => ?_
  refine gp zas ?_
  refine gnt ?_
  refine gsr ?_
  refine gp zL ?_
  refine zc (fun _ => ?_) (c := fun w1 F1 F2 h1 h2 hd hst => id_ok h1 (hE.mv hst.still) (hK.mv hst.still) (hb.mv hst.still))
  refine gp zmv ?_
  refine gp zex ?_
  refine gp zex ?_
  refine zal fun b6 => ?_
  refine zsN ?_
  refine gp zas ?_
  refine gnt ?_
  refine gc_seq ?_
  refine gsr ?_
  refine gp zmv ?_
  refine gp (r_bool (c := decide (¬ (wBlock b ⟨0, []⟩).err = 0)) (r_nenil rfl (by kernel_rfl)) (by simp)) ?_
  refine gnt ?_
  refine gif rfl (fun hc18 => ?_) (fun hc18 => ?_)
  · try simp only at hc18
    have he0 : ¬ (wBlock b ⟨0, []⟩).err = 0 := by simpa using hc18
    refine gc_seq ?_
    refine gc_regionZ 3 ([blk b6 26 (dc (idOf b))]) ?_
    refine yps 0 rfl zL ?_
    refine yps 1 rfl (r_ld1o rfl Ty.row_41 (hE.c 4 Has.h) (hE.n 4 Has.h)) ?_
    refine yos 2 rfl ?_
    refine zsN ?_
    refine yxs ?_
    refine yzs rfl ?_
    refine gp zas ?_
    refine gnt ?_
    refine gc_ret ?_
    refine gx_then_ret ?_
    refine gx_retct rfl rfl (by conv => lhs; whnf) (ld_aggS Ty.row_26 Ty.sz_26 (by repeat (first | exact Pick.here | apply Pick.there)) (by (simp only [List.drop_succ_cons, List.drop_zero, List.take_succ_cons, List.take_zero, List.cons_append, List.nil_append, List.append_assoc, drop_dc, drop_dc', take_dc, take_dc', drop_L, drop_L', take_L, take_L', len_L, Nat.reduceLeDiff, Nat.reduceSub, Nat.reduceAdd, Nat.le_refl, List.length_cons, List.length_append, List.length_nil, dc_length, List.drop_nil, List.take_nil, List.append_nil, List.length_map, List.length_replicate]; first | done | rfl)) (by first | rfl | (simp only [List.drop_succ_cons, List.drop_zero, List.take_succ_cons, List.take_zero, List.cons_append, List.nil_append, List.append_assoc, drop_dc, drop_dc', take_dc, take_dc', drop_L, drop_L', take_L, take_L', len_L, Nat.reduceLeDiff, Nat.reduceSub, Nat.reduceAdd, Nat.le_refl, List.length_cons, List.length_append, List.length_nil, dc_length, List.drop_nil, List.take_nil, List.append_nil, List.length_map, List.length_replicate]; first | done | omega))) ?_
    have ha : (askE t b (wBlock b ⟨0, []⟩).err (idOf b)) = 4 := by unfold askE; rw [if_neg he0]
    exact fun w' hw => ⟨(), by rw [ha], hw.sel (by repeat (first | exact Sel.nil | (apply Sel.cons; · (repeat (first | exact Pick.here | apply Pick.there)))))⟩
  · try simp only at hc18
    have he0 : (wBlock b ⟨0, []⟩).err = 0 := by simpa using hc18
    refine gc_skip ?_
    refine gx_then ?_
    refine gc_seq ?_
    refine gc_seq ?_
    refine gc_regionZ 11 ([blk b6 26 (dc (idOf b))]) ?_
    refine yps 0 rfl zmv ?_
    refine yps 1 rfl znc ?_
    refine yps 2 rfl zfa ?_
    refine yps 3 rfl (r_ld1o rfl Ty.row_75 h16 hqA) ?_
    refine yps 4 rfl zL ?_
    refine yps 5 rfl (r_val (v' := .tuple #[.agg cp.toArray, .bool (lkN (idOf b) t.nodes).isSome]) (r_looko (K := digV) (l := nodeV t.nodes css) (key := (idOf b)) (z := .agg blkC.toArray) rfl rfl Ty.un_75 (by kernel_rfl) hT.mp) hgk) ?_
    refine yps 6 rfl zmv ?_
    refine yps 7 rfl zex ?_
    refine yps 8 rfl zex ?_
    refine yos 9 rfl ?_
    refine zal fun b8 => ?_
    refine gl_eqc (cs' := blkC) (by repeat (first | exact Pick.here | apply Pick.there)) (by kernel_rfl) ?_
    refine yxs ?_
    refine yos 10 rfl ?_
    refine zsA hrp.len hrp.one ?_
    refine yxs ?_
    refine yzs rfl ?_
    refine gp zas ?_
    refine gnt ?_
    refine gsr ?_
    refine gp zmv ?_
    refine gnt ?_
    refine gif rfl (fun hc30 => ?_) (fun hc30 => ?_)
    · refine gc_seq ?_
      refine gc_regionZ 3 ([blk b6 26 (dc (idOf b))]) ?_
      refine yps 0 rfl zL ?_
      refine yps 1 rfl (r_ld1o rfl Ty.row_41 (hE.c 17 Has.h) (hE.n 17 Has.h)) ?_
      refine yos 2 rfl ?_
      refine zsN ?_
      refine yxs ?_
      refine yzs rfl ?_
      refine gp zas ?_
      refine gnt ?_
      refine gc_ret ?_
      refine gx_then_ret ?_
      refine gx_retct rfl rfl (by conv => lhs; whnf) (ld_aggS Ty.row_26 Ty.sz_26 (by repeat (first | exact Pick.here | apply Pick.there)) (by (simp only [List.drop_succ_cons, List.drop_zero, List.take_succ_cons, List.take_zero, List.cons_append, List.nil_append, List.append_assoc, drop_dc, drop_dc', take_dc, take_dc', drop_L, drop_L', take_L, take_L', len_L, Nat.reduceLeDiff, Nat.reduceSub, Nat.reduceAdd, Nat.le_refl, List.length_cons, List.length_append, List.length_nil, dc_length, List.drop_nil, List.take_nil, List.append_nil, List.length_map, List.length_replicate]; first | done | rfl)) (by first | rfl | (simp only [List.drop_succ_cons, List.drop_zero, List.take_succ_cons, List.take_zero, List.cons_append, List.nil_append, List.append_assoc, drop_dc, drop_dc', take_dc, take_dc', drop_L, drop_L', take_L, take_L', len_L, Nat.reduceLeDiff, Nat.reduceSub, Nat.reduceAdd, Nat.le_refl, List.length_cons, List.length_append, List.length_nil, dc_length, List.drop_nil, List.take_nil, List.append_nil, List.length_map, List.length_replicate]; first | done | omega))) ?_
      have ha : (askE t b (wBlock b ⟨0, []⟩).err (idOf b)) = 17 := by unfold askE; rw [if_pos he0, if_pos hc30]
      exact fun w' hw => ⟨(), by rw [ha], hw.sel (by repeat (first | exact Sel.nil | (apply Sel.cons; · (repeat (first | exact Pick.here | apply Pick.there)))))⟩
    · try simp only at hc30
      have hn : ¬ (lkN (idOf b) t.nodes).isSome = true := by simpa using hc30
      obtain ⟨cp2, hgk2, hrp2⟩ := hT.lookB b.parent
      have icp2 := Len.of hrp2.len
      have jcp2 := One.of hrp2.one
      refine gc_skip ?_
      refine gx_then ?_
      refine gc_seq ?_
      refine gc_regionZ 12 ([blk b3 33 (.int .i64 b.epoch :: .int .i64 b.round :: (dc b.parent ++ (qj ++ [.slice a1 n1 c1, .slice a2 n2 c2])))]) ?_
      refine yps 0 rfl zmv ?_
      refine yps 1 rfl znc ?_
      refine yps 2 rfl zfa ?_
      refine yps 3 rfl (r_ld1o rfl Ty.row_75 h16 hqA) ?_
      refine yps 4 rfl zfa ?_
      refine yps 5 rfl zL ?_
      refine yps 6 rfl (r_val (v' := .tuple #[.agg cp2.toArray, .bool (lkN b.parent t.nodes).isSome]) (r_looko (K := digV) (l := nodeV t.nodes css) (key := b.parent) (z := .agg blkC.toArray) rfl rfl Ty.un_75 (by kernel_rfl) hT.mp) hgk2) ?_
      refine yps 7 rfl zmv ?_
      refine yps 8 rfl zex ?_
      refine yps 9 rfl zex ?_
      refine yos 10 rfl ?_
      refine zal fun b10 => ?_
      refine gl_eqc (cs' := blkC) (by repeat (first | exact Pick.here | apply Pick.there)) (by kernel_rfl) ?_
      refine yxs ?_
      refine yos 11 rfl ?_
      refine zsA hrp2.len hrp2.one ?_
      refine yxs ?_
      refine yzs rfl ?_
      refine gp zas ?_
      refine gnt ?_
      refine gc_seq ?_
      refine gc_block ?_
      refine gsr ?_
      refine gp zmv ?_
      refine gp znt ?_
      refine gp zas ?_
      refine gnt ?_
      refine gif rfl (fun hc43 => ?_) (fun hc43 => ?_)
      · try simp only at hc43
        have hpn : lkN b.parent t.nodes = none := by simpa using hc43
        refine gc_seq ?_
        refine gc_regionZ 3 ([blk b6 26 (dc (idOf b))]) ?_
        refine yps 0 rfl zL ?_
        refine yps 1 rfl (r_ld1o rfl Ty.row_41 (hE.c 16 Has.h) (hE.n 16 Has.h)) ?_
        refine yos 2 rfl ?_
        refine zsN ?_
        refine yxs ?_
        refine yzs rfl ?_
        refine gp zas ?_
        refine gnt ?_
        refine gc_ret ?_
        refine gx_block_ret ?_
        refine gx_then_ret ?_
        refine gx_retct rfl rfl (by conv => lhs; whnf) (ld_aggS Ty.row_26 Ty.sz_26 (by repeat (first | exact Pick.here | apply Pick.there)) (by (simp only [List.drop_succ_cons, List.drop_zero, List.take_succ_cons, List.take_zero, List.cons_append, List.nil_append, List.append_assoc, drop_dc, drop_dc', take_dc, take_dc', drop_L, drop_L', take_L, take_L', len_L, Nat.reduceLeDiff, Nat.reduceSub, Nat.reduceAdd, Nat.le_refl, List.length_cons, List.length_append, List.length_nil, dc_length, List.drop_nil, List.take_nil, List.append_nil, List.length_map, List.length_replicate]; first | done | rfl)) (by first | rfl | (simp only [List.drop_succ_cons, List.drop_zero, List.take_succ_cons, List.take_zero, List.cons_append, List.nil_append, List.append_assoc, drop_dc, drop_dc', take_dc, take_dc', drop_L, drop_L', take_L, take_L', len_L, Nat.reduceLeDiff, Nat.reduceSub, Nat.reduceAdd, Nat.le_refl, List.length_cons, List.length_append, List.length_nil, dc_length, List.drop_nil, List.take_nil, List.append_nil, List.length_map, List.length_replicate]; first | done | omega))) ?_
        have ha : (askE t b (wBlock b ⟨0, []⟩).err (idOf b)) = 16 := by unfold askE; rw [if_pos he0, if_neg hn, hpn]
        exact fun w' hw => ⟨(), by rw [ha], hw.sel (by repeat (first | exact Sel.nil | (apply Sel.cons; · (repeat (first | exact Pick.here | apply Pick.there)))))⟩
      · try simp only at hc43
        obtain ⟨p, hp⟩ := Option.isSome_iff_exists.1 (by simpa using hc43 : (lkN b.parent t.nodes).isSome = true)
        have hbo : bOf t b.parent = p := by rw [bOf, hp]; rfl
        rw [hbo] at hrp2
        have hrp3 := hrp2
        obtain ⟨qj2, a3, n3, c3, a4, n4, c4, rfl, hk1, _⟩ := hrp3
        have ij2 := Len.of hk1.len
        have jj2 := One.of hk1.one
        refine gc_seq ?_
        by_cases hS : fitsQ b.justify b.parent p = true
        · refine gc_region ?_
          refine gp zfa ?_
          refine gp (zL (sg := qj)) ?_
          refine gp zfa ?_
          refine gp zL ?_
          refine gp zL ?_
          refine zc (fun _ => ?_) (c := fun w1 F1 F2 h1 h2 hd hst => bfits_ok h1 hj hrp2)
          refine gp (r_bool (c := false) znt (by rw [hS]; rfl)) ?_
          refine gp zmv ?_
          refine gq zfa ?_
          refine gq zl ?_
          refine gq zfa ?_
          refine gq zl ?_
          refine gq zni ?_
          refine gp zpk ?_
          refine gp zas ?_
          refine gnt ?_
          refine gif rfl (fun hc48 => ?_) (fun hc48 => ?_)
          · try simp only at hc48
            have hne : ¬ b.epoch = p.epoch := by simpa using hc48
            refine gc_seq ?_
            refine gc_regionZ 3 ([blk b6 26 (dc (idOf b))]) ?_
            refine yps 0 rfl zL ?_
            refine yps 1 rfl (r_ld1o rfl Ty.row_41 (hE.c 12 Has.h) (hE.n 12 Has.h)) ?_
            refine yos 2 rfl ?_
            refine zsN ?_
            refine yxs ?_
            refine yzs rfl ?_
            refine gp zas ?_
            refine gnt ?_
            refine gc_ret ?_
            refine gx_block_ret ?_
            refine gx_then_ret ?_
            refine gx_retct rfl rfl (by conv => lhs; whnf) (ld_aggS Ty.row_26 Ty.sz_26 (by repeat (first | exact Pick.here | apply Pick.there)) (by (simp only [List.drop_succ_cons, List.drop_zero, List.take_succ_cons, List.take_zero, List.cons_append, List.nil_append, List.append_assoc, drop_dc, drop_dc', take_dc, take_dc', drop_L, drop_L', take_L, take_L', len_L, Nat.reduceLeDiff, Nat.reduceSub, Nat.reduceAdd, Nat.le_refl, List.length_cons, List.length_append, List.length_nil, dc_length, List.drop_nil, List.take_nil, List.append_nil, List.length_map, List.length_replicate]; first | done | rfl)) (by first | rfl | (simp only [List.drop_succ_cons, List.drop_zero, List.take_succ_cons, List.take_zero, List.cons_append, List.nil_append, List.append_assoc, drop_dc, drop_dc', take_dc, take_dc', drop_L, drop_L', take_L, take_L', len_L, Nat.reduceLeDiff, Nat.reduceSub, Nat.reduceAdd, Nat.le_refl, List.length_cons, List.length_append, List.length_nil, dc_length, List.drop_nil, List.take_nil, List.append_nil, List.length_map, List.length_replicate]; first | done | omega))) ?_
            have ha : (askE t b (wBlock b ⟨0, []⟩).err (idOf b)) = 12 := by unfold askE; rw [if_pos he0, if_neg hn, hp]; simp only; rw [if_neg (fun hh => hne hh.2)]
            exact fun w' hw => ⟨(), by rw [ha], hw.sel (by repeat (first | exact Sel.nil | (apply Sel.cons; · (repeat (first | exact Pick.here | apply Pick.there)))))⟩
          · try simp only at hc48
            have hep : b.epoch = p.epoch := by simpa using hc48
            refine gsr ?_
            refine gp zfa ?_
            refine gp zl ?_
            refine gp zfa ?_
            refine gp zl ?_
            refine gp zle ?_
            refine gp zas ?_
            refine gnt ?_
            refine gif rfl (fun hc65 => ?_) (fun hc65 => ?_)
            · try simp only at hc65
              have hro : b.round ≤ p.round := by simpa using hc65
              refine gc_seq ?_
              refine gc_regionZ 3 ([blk b6 26 (dc (idOf b))]) ?_
              refine yps 0 rfl zL ?_
              refine yps 1 rfl (r_ld1o rfl Ty.row_41 (hE.c 14 Has.h) (hE.n 14 Has.h)) ?_
              refine yos 2 rfl ?_
              refine zsN ?_
              refine yxs ?_
              refine yzs rfl ?_
              refine gp zas ?_
              refine gnt ?_
              refine gc_ret ?_
              refine gx_block_ret ?_
              refine gx_then_ret ?_
              refine gx_retct rfl rfl (by conv => lhs; whnf) (ld_aggS Ty.row_26 Ty.sz_26 (by repeat (first | exact Pick.here | apply Pick.there)) (by (simp only [List.drop_succ_cons, List.drop_zero, List.take_succ_cons, List.take_zero, List.cons_append, List.nil_append, List.append_assoc, drop_dc, drop_dc', take_dc, take_dc', drop_L, drop_L', take_L, take_L', len_L, Nat.reduceLeDiff, Nat.reduceSub, Nat.reduceAdd, Nat.le_refl, List.length_cons, List.length_append, List.length_nil, dc_length, List.drop_nil, List.take_nil, List.append_nil, List.length_map, List.length_replicate]; first | done | rfl)) (by first | rfl | (simp only [List.drop_succ_cons, List.drop_zero, List.take_succ_cons, List.take_zero, List.cons_append, List.nil_append, List.append_assoc, drop_dc, drop_dc', take_dc, take_dc', drop_L, drop_L', take_L, take_L', len_L, Nat.reduceLeDiff, Nat.reduceSub, Nat.reduceAdd, Nat.le_refl, List.length_cons, List.length_append, List.length_nil, dc_length, List.drop_nil, List.take_nil, List.append_nil, List.length_map, List.length_replicate]; first | done | omega))) ?_
              have ha : (askE t b (wBlock b ⟨0, []⟩).err (idOf b)) = 14 := by unfold askE; rw [if_pos he0, if_neg hn, hp]; simp only; rw [if_pos ⟨hS, hep⟩, if_pos hro]
              exact fun w' hw => ⟨(), by rw [ha], hw.sel (by repeat (first | exact Sel.nil | (apply Sel.cons; · (repeat (first | exact Pick.here | apply Pick.there)))))⟩
            · try simp only at hc65
              have hro : ¬ b.round ≤ p.round := by simpa using hc65
              refine gsr ?_
              refine gp zmv ?_
              refine gp znc ?_
              refine gp zfa ?_
              refine gp (r_ld1o rfl Ty.row_75 h16 hqA) ?_
              refine gp (r_val (v' := .int .i64 (t.nodes.length : Int)) (r_lenmo rfl Ty.un_75 hT.mp) (by rw [nodeV_len hT.el.1])) ?_
              refine gp (r_bool (c := decide (16 ≤ t.nodes.length)) zge (by rw [Bool.eq_iff_iff]; simp only [decide_eq_true_eq]; omega)) ?_
              refine gp zas ?_
              refine gnt ?_
              refine gif rfl (fun hc73 => ?_) (fun hc73 => ?_)
              · try simp only at hc73
                have hfu : 16 ≤ t.nodes.length := by simpa using hc73
                refine gc_seq ?_
                refine gc_regionZ 3 ([blk b6 26 (dc (idOf b))]) ?_
                refine yps 0 rfl zL ?_
                refine yps 1 rfl (r_ld1o rfl Ty.row_41 (hE.c 8 Has.h) (hE.n 8 Has.h)) ?_
                refine yos 2 rfl ?_
                refine zsN ?_
                refine yxs ?_
                refine yzs rfl ?_
                refine gp zas ?_
                refine gnt ?_
                refine gc_ret ?_
                refine gx_block_ret ?_
                refine gx_then_ret ?_
                refine gx_retct rfl rfl (by conv => lhs; whnf) (ld_aggS Ty.row_26 Ty.sz_26 (by repeat (first | exact Pick.here | apply Pick.there)) (by (simp only [List.drop_succ_cons, List.drop_zero, List.take_succ_cons, List.take_zero, List.cons_append, List.nil_append, List.append_assoc, drop_dc, drop_dc', take_dc, take_dc', drop_L, drop_L', take_L, take_L', len_L, Nat.reduceLeDiff, Nat.reduceSub, Nat.reduceAdd, Nat.le_refl, List.length_cons, List.length_append, List.length_nil, dc_length, List.drop_nil, List.take_nil, List.append_nil, List.length_map, List.length_replicate]; first | done | rfl)) (by first | rfl | (simp only [List.drop_succ_cons, List.drop_zero, List.take_succ_cons, List.take_zero, List.cons_append, List.nil_append, List.append_assoc, drop_dc, drop_dc', take_dc, take_dc', drop_L, drop_L', take_L, take_L', len_L, Nat.reduceLeDiff, Nat.reduceSub, Nat.reduceAdd, Nat.le_refl, List.length_cons, List.length_append, List.length_nil, dc_length, List.drop_nil, List.take_nil, List.append_nil, List.length_map, List.length_replicate]; first | done | omega))) ?_
                have ha : (askE t b (wBlock b ⟨0, []⟩).err (idOf b)) = 8 := by unfold askE; rw [if_pos he0, if_neg hn, hp]; simp only; rw [if_pos ⟨hS, hep⟩, if_neg hro, if_pos hfu]
                exact fun w' hw => ⟨(), by rw [ha], hw.sel (by repeat (first | exact Sel.nil | (apply Sel.cons; · (repeat (first | exact Pick.here | apply Pick.there)))))⟩
              · try simp only at hc73
                have hfu : ¬ 16 ≤ t.nodes.length := by simpa using hc73
                refine gc_skip ?_
                refine gx_block_normal ?_
                refine gx_then ?_
                refine gsr ?_
                refine gp zL ?_
                refine zsN ?_
                refine gp zas ?_
                refine gnt ?_
                refine gc_ret ?_
                refine gx_retct rfl rfl (by conv => lhs; whnf) (ld_aggS Ty.row_26 Ty.sz_26 (by repeat (first | exact Pick.here | apply Pick.there)) (by (simp only [List.drop_succ_cons, List.drop_zero, List.take_succ_cons, List.take_zero, List.cons_append, List.nil_append, List.append_assoc, drop_dc, drop_dc', take_dc, take_dc', drop_L, drop_L', take_L, take_L', len_L, Nat.reduceLeDiff, Nat.reduceSub, Nat.reduceAdd, Nat.le_refl, List.length_cons, List.length_append, List.length_nil, dc_length, List.drop_nil, List.take_nil, List.append_nil, List.length_map, List.length_replicate]; first | done | rfl)) (by first | rfl | (simp only [List.drop_succ_cons, List.drop_zero, List.take_succ_cons, List.take_zero, List.cons_append, List.nil_append, List.append_assoc, drop_dc, drop_dc', take_dc, take_dc', drop_L, drop_L', take_L, take_L', len_L, Nat.reduceLeDiff, Nat.reduceSub, Nat.reduceAdd, Nat.le_refl, List.length_cons, List.length_append, List.length_nil, dc_length, List.drop_nil, List.take_nil, List.append_nil, List.length_map, List.length_replicate]; first | done | omega))) ?_
                have ha : (askE t b (wBlock b ⟨0, []⟩).err (idOf b)) = 0 := by unfold askE; rw [if_pos he0, if_neg hn, hp]; simp only; rw [if_pos ⟨hS, hep⟩, if_neg hro, if_neg hfu]
                exact fun w' hw => ⟨(), by rw [ha, eV_zero], hw.sel (by repeat (first | exact Sel.nil | (apply Sel.cons; · (repeat (first | exact Pick.here | apply Pick.there)))))⟩
        · refine gc_region ?_
          refine gp zfa ?_
          refine gp (zL (sg := qj)) ?_
          refine gp zfa ?_
          refine gp zL ?_
          refine gp zL ?_
          refine zc (fun _ => ?_) (c := fun w1 F1 F2 h1 h2 hd hst => bfits_ok h1 hj hrp2)
          refine gp (r_bool (c := true) znt (by simp [hS])) ?_
          refine gp zmv ?_
          refine gn ?_
          refine gn ?_
          refine gn ?_
          refine gn ?_
          refine gn ?_
          refine gp zpk ?_
          refine gp zas ?_
          refine gnt ?_
          refine gc_condT rfl rfl ?_
          refine gc_seq ?_
          refine gc_regionZ 3 ([blk b6 26 (dc (idOf b))]) ?_
          refine yps 0 rfl zL ?_
          refine yps 1 rfl (r_ld1o rfl Ty.row_41 (hE.c 12 Has.h) (hE.n 12 Has.h)) ?_
          refine yos 2 rfl ?_
          refine zsN ?_
          refine yxs ?_
          refine yzs rfl ?_
          refine gp zas ?_
          refine gnt ?_
          refine gc_ret ?_
          refine gx_block_ret ?_
          refine gx_then_ret ?_
          refine gx_retct rfl rfl (by conv => lhs; whnf) (ld_aggS Ty.row_26 Ty.sz_26 (by repeat (first | exact Pick.here | apply Pick.there)) (by (simp only [List.drop_succ_cons, List.drop_zero, List.take_succ_cons, List.take_zero, List.cons_append, List.nil_append, List.append_assoc, drop_dc, drop_dc', take_dc, take_dc', drop_L, drop_L', take_L, take_L', len_L, Nat.reduceLeDiff, Nat.reduceSub, Nat.reduceAdd, Nat.le_refl, List.length_cons, List.length_append, List.length_nil, dc_length, List.drop_nil, List.take_nil, List.append_nil, List.length_map, List.length_replicate]; first | done | rfl)) (by first | rfl | (simp only [List.drop_succ_cons, List.drop_zero, List.take_succ_cons, List.take_zero, List.cons_append, List.nil_append, List.append_assoc, drop_dc, drop_dc', take_dc, take_dc', drop_L, drop_L', take_L, take_L', len_L, Nat.reduceLeDiff, Nat.reduceSub, Nat.reduceAdd, Nat.le_refl, List.length_cons, List.length_append, List.length_nil, dc_length, List.drop_nil, List.take_nil, List.append_nil, List.length_map, List.length_replicate]; first | done | omega))) ?_
          have ha : (askE t b (wBlock b ⟨0, []⟩).err (idOf b)) = 12 := by unfold askE; rw [if_pos he0, if_neg hn, hp]; simp only; rw [if_neg (fun hh => hS hh.1)]
          exact fun w' hw => ⟨(), by rw [ha], hw.sel (by repeat (first | exact Sel.nil | (apply Sel.cons; · (repeat (first | exact Pick.here | apply Pick.there)))))⟩

end Go.Proofs.YtobjojeliibinaaDoor

/- Walks, by program (wg.py) out of a spec. -/
namespace Go.Proofs.YtobjojeliibinaaDoor
open Go
set_option linter.unusedVariables false
set_option linter.unusedSimpArgs false


theorem new_end {w0 : World} {F0 : Nat → Prop} {L L' : List Res} {b36 g25 b31 b34 : Nat} {b : Block} {q : QC} {x28 x33 : List Value} {ea : Nat → Addr} (he0 : (wBlock b ⟨0, []⟩).err = 0) (hf : fitsQ q (idOf b) b = true) (hl33 : x33.length = 19)
    (hs : Sel L [blk b36 78 (dc (idOf b) ++ [.map (some g25), .slice (some ⟨b31, 0, none⟩) 1 1, .slice (some ⟨b34, 0, none⟩) 1 1]), mapR g25 (encK digV (putK (idOf b) (.agg x28.toArray) [])), VlR RdBlock x28 b, rowR 26 16 (some ⟨b31, 0, none⟩) 1 1 (dc (idOf b)), rowR 29 19 (some ⟨b34, 0, none⟩) 1 1 x33, VlR RdQC x33 q] L' := by repeat (first | exact Sel.nil | (apply Sel.cons; · (repeat (first | exact Pick.here | apply Pick.there))))) :
    ∀ w', St w0 F0 L w' → Post w0 F0 (fun x : Nat => .tuple #[if (newE b q (wBlock b ⟨0, []⟩).err (idOf b)) = 0 then .pointer (some ⟨x, 0, none⟩) else .pointer none, eV 146 ea (newE b q (wBlock b ⟨0, []⟩).err (idOf b))]) (fun x => if (newE b q (wBlock b ⟨0, []⟩).err (idOf b)) = 0 then [TreeR x (newT b q (idOf b))] else []) (.returned (.tuple #[.pointer (some ⟨b36, 0, none⟩), .nilIface])) w' := fun w' hw => by
  have hn : (newE b q (wBlock b ⟨0, []⟩).err (idOf b)) = 0 := by unfold newE; rw [if_pos he0, if_pos hf]
  have h1 := hw.conv hs (fun _ _ => stars_newT hl33)
  exact ⟨b36, by rw [hn, eV_zero]; exact rfl, by rw [hn]; show St _ _ [TreeR b36 _] w'; exact h1.sel (.cons .here .nil)⟩

attribute [local irreducible] Gl Gc Gx Gs Runs Wt

attribute [local irreducible] dc qcC blkC idOf RdBlock RdQC TreeR

set_option maxHeartbeats 400000 in
theorem tnew_ok {w : World} {F : Nat → Prop} {ea : Nat → Addr} {es : List Nat} [Has es 1] [Has es 4] [Has es 12] (hE : GErr es w (fun k => ¬ F k) 146 ea) (hK : KR w (fun k => ¬ F k)) {cs qs : List Value} {b : Block} {q : QC} (h : stars [] w F) (hb : RdBlock w (fun k => ¬ F k) cs b) (hq : RdQC w (fun k => ¬ F k) qs q) (hsb : (wBlock b ⟨0, []⟩).err = 0 → smBlk b) (hsq : smQC q) :
    Calls Tryd.prog 22 #[.agg cs.toArray, .agg qs.toArray] w (Post w F (fun x : Nat => .tuple #[if (newE b q (wBlock b ⟨0, []⟩).err (idOf b)) = 0 then .pointer (some ⟨x, 0, none⟩) else .pointer none, eV 146 ea (newE b q (wBlock b ⟨0, []⟩).err (idOf b))]) (fun x => if (newE b q (wBlock b ⟨0, []⟩).err (idOf b)) = 0 then [TreeR x (newT b q (idOf b))] else [])) := by
  have il := Len.of hb.len
  have jl := One.of hb.one
  have il2 := Len.of hq.len
  have jl2 := One.of hq.one
  refine g_enter (env := [(0, .agg cs.toArray), (1, .agg qs.toArray)]) Tryd.func22 rfl h Tryd.ntmps22 rfl rfl ?_
  refine gsr ?_
  refine zbN fun b2 => ?_
  refine zbN fun b3 => ?_
  refine gp zas ?_
  refine gp zas ?_
  refine gnt ?_
  refine gsr ?_
  refine gp (zLa (cs := cs)) ?_
  refine zc (fun _ => ?_) (c := fun w1 F1 F2 h1 h2 hd hst => id_ok h1 (hE.mv hst.still) (hK.mv hst.still) (hb.mv hst.still))
  refine gp zmv ?_
  refine gp zex ?_
  refine gp zex ?_
  refine zal fun b6 => ?_
  refine zsN ?_
  refine gp zas ?_
  refine gnt ?_
  refine gc_seq ?_
  refine gc_block ?_
  refine gsr ?_
  refine gp zmv ?_
  refine gp (r_bool (c := decide (¬ (wBlock b ⟨0, []⟩).err = 0)) (r_nenil rfl (by kernel_rfl)) (by simp)) ?_
  refine gp zas ?_
  refine gnt ?_
  refine gif rfl (fun hc13 => ?_) (fun hc13 => ?_)
  · try simp only at hc13
    have he0 : ¬ (wBlock b ⟨0, []⟩).err = 0 := by simpa using hc13
    refine gc_seq ?_
    refine gc_regionS (by kernel_rfl) (by kernel_rfl) ?_
    refine sp (r_ld1o rfl Ty.row_41 (hE.c 4 Has.h) (hE.n 4 Has.h)) ?_
    refine sp zas ?_
    refine sp zas ?_
    refine gs_nil ?_
    refine gx_then ?_
    refine gc_ret ?_
    refine gx_block_ret ?_
    refine gx_then_ret ?_
    refine gx_ret2 rfl (by conv => lhs; whnf) (by conv => lhs; whnf) ?_
    have hn : (newE b q (wBlock b ⟨0, []⟩).err (idOf b)) = 4 := by unfold newE; rw [if_neg he0]
    exact fun w' hw => ⟨0, by rw [hn]; exact rfl, by rw [hn]; show St _ _ [] w'; exact hw.sel Sel.nil⟩
  · try simp only at hc13
    have he0 : (wBlock b ⟨0, []⟩).err = 0 := by simpa using hc13
    have hsb := hsb he0
    refine gsr ?_
    refine gp (zLa (cs := qs)) ?_
    refine gp zL ?_
    refine gp (zLa (cs := cs)) ?_
    refine zc (fun _ => ?_) (c := fun w1 F1 F2 h1 h2 hd hst => bfits_ok h1 hq hb)
    refine gp znt ?_
    refine gp zas ?_
    refine gnt ?_
    refine gif rfl (fun hc17 => ?_) (fun hc17 => ?_)
    · try simp only at hc17
      have hf : ¬ fitsQ q (idOf b) b = true := by simpa using hc17
      refine gc_seq ?_
      refine gc_regionS (by kernel_rfl) (by kernel_rfl) ?_
      refine sp (r_ld1o rfl Ty.row_41 (hE.c 12 Has.h) (hE.n 12 Has.h)) ?_
      refine sp zas ?_
      refine sp zas ?_
      refine gs_nil ?_
      refine gx_then ?_
      refine gc_ret ?_
      refine gx_block_ret ?_
      refine gx_then_ret ?_
      refine gx_ret2 rfl (by conv => lhs; whnf) (by conv => lhs; whnf) ?_
      have hn : (newE b q (wBlock b ⟨0, []⟩).err (idOf b)) = 12 := by unfold newE; rw [if_pos he0, if_neg hf]
      exact fun w' hw => ⟨0, by rw [hn]; exact rfl, by rw [hn]; show St _ _ [] w'; exact hw.sel Sel.nil⟩
    · try simp only at hc17
      have hf : fitsQ q (idOf b) b = true := by simpa using hc17
      refine gc_skip ?_
      refine gx_block_normal ?_
      refine gx_then ?_
      refine gc_seq ?_
      refine gc_regionZ 15 ([blk b6 26 (dc (idOf b)), blk b2 33 cs, blk b3 29 qs]) ?_
      refine yps 0 rfl zL ?_
      refine yps 2 rfl zL ?_
      refine yps 3 rfl (zLa (cs := cs)) ?_
      refine yps 7 rfl zL ?_
      refine yps 9 rfl (zLa (cs := qs)) ?_
      refine yo3s 1 4 8 rfl rfl rfl ?_ ?_ ?_
      · refine gl_mkMap (wt0 rfl) (fun g25 => ?_)
        refine yxs ?_
        refine yo2s 4 8 rfl rfl ?_ ?_
        · refine zc (fun x28 => ?_) (c := fun w1 F1 F2 h1 h2 hd hst => copied_ok h1 (hb.mv hst.still) hsb)
          refine gl_pureR (fun hx28 => ?_)
          obtain ⟨hl28, ho28⟩ := hx28
          replace hl28 : x28.length = 39 := hl28
          have i28 := Len.of hl28
          have j28 := One.of (show ∀ v ∈ x28, v.oneCell' = true from ho28)
          refine yxs ?_
          refine yo3s 5 8 10 rfl rfl rfl ?_ ?_ ?_
          · refine gl_ins (K := digV) (l := []) (key := idOf b) (v := .agg x28.toArray) (wt0 rfl) rfl rfl rfl Ty.un_75 (by repeat (first | exact Pick.here | apply Pick.there)) ?_
            refine yxs ?_
            refine yps 6 rfl zmv ?_
            refine yo2s 8 10 rfl rfl ?_ ?_
            · refine zeN fun b31 => ?_
              refine yxs ?_
              refine yos 10 rfl ?_
              refine zc (fun x33 => ?_) (c := fun w1 F1 F2 h1 h2 hd hst => copiedQC_ok h1 (hq.mv hst.still) hsq)
              refine gl_pureR (fun hx33 => ?_)
              obtain ⟨hl33, ho33⟩ := hx33
              replace hl33 : x33.length = 19 := hl33
              have i33 := Len.of hl33
              have j33 := One.of (show ∀ v ∈ x33, v.oneCell' = true from ho33)
              refine yxs ?_
              refine yos 11 rfl ?_
              refine zeN fun b34 => ?_
              refine yxs ?_
              refine yps 12 rfl zbu ?_
              refine yos 13 rfl ?_
              refine zbN fun b36 => ?_
              refine yxs ?_
              refine yps 14 rfl zas ?_
              refine yzs rfl ?_
              refine gp zas ?_
              refine gnt ?_
              refine gc_ret ?_
              refine gx_ret2 rfl (by conv => lhs; whnf) (by conv => lhs; whnf) ?_
              exact new_end he0 hf hl33
            · refine zc (fun x33 => ?_) (c := fun w1 F1 F2 h1 h2 hd hst => copiedQC_ok h1 (hq.mv hst.still) hsq)
              refine gl_pureR (fun hx33 => ?_)
              obtain ⟨hl33, ho33⟩ := hx33
              replace hl33 : x33.length = 19 := hl33
              have i33 := Len.of hl33
              have j33 := One.of (show ∀ v ∈ x33, v.oneCell' = true from ho33)
              refine yxs ?_
              refine yo2s 8 11 rfl rfl ?_ ?_
              · refine zeN fun b31 => ?_
                refine yxs ?_
                refine yos 11 rfl ?_
                refine zeN fun b34 => ?_
                refine yxs ?_
                refine yps 12 rfl zbu ?_
                refine yos 13 rfl ?_
                refine zbN fun b36 => ?_
                refine yxs ?_
                refine yps 14 rfl zas ?_
                refine yzs rfl ?_
                refine gp zas ?_
                refine gnt ?_
                refine gc_ret ?_
                refine gx_ret2 rfl (by conv => lhs; whnf) (by conv => lhs; whnf) ?_
                exact new_end he0 hf hl33
              · refine zeN fun b34 => ?_
                refine yxs ?_
                refine yos 8 rfl ?_
                refine zeN fun b31 => ?_
                refine yxs ?_
                refine yps 12 rfl zbu ?_
                refine yos 13 rfl ?_
                refine zbN fun b36 => ?_
                refine yxs ?_
                refine yps 14 rfl zas ?_
                refine yzs rfl ?_
                refine gp zas ?_
                refine gnt ?_
                refine gc_ret ?_
                refine gx_ret2 rfl (by conv => lhs; whnf) (by conv => lhs; whnf) ?_
                exact new_end he0 hf hl33
          · refine zeN fun b31 => ?_
            refine yxs ?_
            refine yo2s 5 10 rfl rfl ?_ ?_
            · refine gl_ins (K := digV) (l := []) (key := idOf b) (v := .agg x28.toArray) (wt0 rfl) rfl rfl rfl Ty.un_75 (by repeat (first | exact Pick.here | apply Pick.there)) ?_
              refine yxs ?_
              refine yps 6 rfl zmv ?_
              refine yos 10 rfl ?_
              refine zc (fun x33 => ?_) (c := fun w1 F1 F2 h1 h2 hd hst => copiedQC_ok h1 (hq.mv hst.still) hsq)
              refine gl_pureR (fun hx33 => ?_)
              obtain ⟨hl33, ho33⟩ := hx33
              replace hl33 : x33.length = 19 := hl33
              have i33 := Len.of hl33
              have j33 := One.of (show ∀ v ∈ x33, v.oneCell' = true from ho33)
              refine yxs ?_
              refine yos 11 rfl ?_
              refine zeN fun b34 => ?_
              refine yxs ?_
              refine yps 12 rfl zbu ?_
              refine yos 13 rfl ?_
              refine zbN fun b36 => ?_
              refine yxs ?_
              refine yps 14 rfl zas ?_
              refine yzs rfl ?_
              refine gp zas ?_
              refine gnt ?_
              refine gc_ret ?_
              refine gx_ret2 rfl (by conv => lhs; whnf) (by conv => lhs; whnf) ?_
              exact new_end he0 hf hl33
            · refine zc (fun x33 => ?_) (c := fun w1 F1 F2 h1 h2 hd hst => copiedQC_ok h1 (hq.mv hst.still) hsq)
              refine gl_pureR (fun hx33 => ?_)
              obtain ⟨hl33, ho33⟩ := hx33
              replace hl33 : x33.length = 19 := hl33
              have i33 := Len.of hl33
              have j33 := One.of (show ∀ v ∈ x33, v.oneCell' = true from ho33)
              refine yxs ?_
              refine yo2s 5 11 rfl rfl ?_ ?_
              · refine gl_ins (K := digV) (l := []) (key := idOf b) (v := .agg x28.toArray) (wt0 rfl) rfl rfl rfl Ty.un_75 (by repeat (first | exact Pick.here | apply Pick.there)) ?_
                refine yxs ?_
                refine yps 6 rfl zmv ?_
                refine yos 11 rfl ?_
                refine zeN fun b34 => ?_
                refine yxs ?_
                refine yps 12 rfl zbu ?_
                refine yos 13 rfl ?_
                refine zbN fun b36 => ?_
                refine yxs ?_
                refine yps 14 rfl zas ?_
                refine yzs rfl ?_
                refine gp zas ?_
                refine gnt ?_
                refine gc_ret ?_
                refine gx_ret2 rfl (by conv => lhs; whnf) (by conv => lhs; whnf) ?_
                exact new_end he0 hf hl33
              · refine zeN fun b34 => ?_
                refine yxs ?_
                refine yos 5 rfl ?_
                refine gl_ins (K := digV) (l := []) (key := idOf b) (v := .agg x28.toArray) (wt0 rfl) rfl rfl rfl Ty.un_75 (by repeat (first | exact Pick.here | apply Pick.there)) ?_
                refine yxs ?_
                refine yps 6 rfl zmv ?_
                refine yps 12 rfl zbu ?_
                refine yos 13 rfl ?_
                refine zbN fun b36 => ?_
                refine yxs ?_
                refine yps 14 rfl zas ?_
                refine yzs rfl ?_
                refine gp zas ?_
                refine gnt ?_
                refine gc_ret ?_
                refine gx_ret2 rfl (by conv => lhs; whnf) (by conv => lhs; whnf) ?_
                exact new_end he0 hf hl33
          · refine zc (fun x33 => ?_) (c := fun w1 F1 F2 h1 h2 hd hst => copiedQC_ok h1 (hq.mv hst.still) hsq)
            refine gl_pureR (fun hx33 => ?_)
            obtain ⟨hl33, ho33⟩ := hx33
            replace hl33 : x33.length = 19 := hl33
            have i33 := Len.of hl33
            have j33 := One.of (show ∀ v ∈ x33, v.oneCell' = true from ho33)
            refine yxs ?_
            refine yo3s 5 8 11 rfl rfl rfl ?_ ?_ ?_
            · refine gl_ins (K := digV) (l := []) (key := idOf b) (v := .agg x28.toArray) (wt0 rfl) rfl rfl rfl Ty.un_75 (by repeat (first | exact Pick.here | apply Pick.there)) ?_
              refine yxs ?_
              refine yps 6 rfl zmv ?_
              refine yo2s 8 11 rfl rfl ?_ ?_
              · refine zeN fun b31 => ?_
                refine yxs ?_
                refine yos 11 rfl ?_
                refine zeN fun b34 => ?_
                refine yxs ?_
                refine yps 12 rfl zbu ?_
                refine yos 13 rfl ?_
                refine zbN fun b36 => ?_
                refine yxs ?_
                refine yps 14 rfl zas ?_
                refine yzs rfl ?_
                refine gp zas ?_
                refine gnt ?_
                refine gc_ret ?_
                refine gx_ret2 rfl (by conv => lhs; whnf) (by conv => lhs; whnf) ?_
                exact new_end he0 hf hl33
              · refine zeN fun b34 => ?_
                refine yxs ?_
                refine yos 8 rfl ?_
                refine zeN fun b31 => ?_
                refine yxs ?_
                refine yps 12 rfl zbu ?_
                refine yos 13 rfl ?_
                refine zbN fun b36 => ?_
                refine yxs ?_
                refine yps 14 rfl zas ?_
                refine yzs rfl ?_
                refine gp zas ?_
                refine gnt ?_
                refine gc_ret ?_
                refine gx_ret2 rfl (by conv => lhs; whnf) (by conv => lhs; whnf) ?_
                exact new_end he0 hf hl33
            · refine zeN fun b31 => ?_
              refine yxs ?_
              refine yo2s 5 11 rfl rfl ?_ ?_
              · refine gl_ins (K := digV) (l := []) (key := idOf b) (v := .agg x28.toArray) (wt0 rfl) rfl rfl rfl Ty.un_75 (by repeat (first | exact Pick.here | apply Pick.there)) ?_
                refine yxs ?_
                refine yps 6 rfl zmv ?_
                refine yos 11 rfl ?_
                refine zeN fun b34 => ?_
                refine yxs ?_
                refine yps 12 rfl zbu ?_
                refine yos 13 rfl ?_
                refine zbN fun b36 => ?_
                refine yxs ?_
                refine yps 14 rfl zas ?_
                refine yzs rfl ?_
                refine gp zas ?_
                refine gnt ?_
                refine gc_ret ?_
                refine gx_ret2 rfl (by conv => lhs; whnf) (by conv => lhs; whnf) ?_
                exact new_end he0 hf hl33
              · refine zeN fun b34 => ?_
                refine yxs ?_
                refine yos 5 rfl ?_
                refine gl_ins (K := digV) (l := []) (key := idOf b) (v := .agg x28.toArray) (wt0 rfl) rfl rfl rfl Ty.un_75 (by repeat (first | exact Pick.here | apply Pick.there)) ?_
                refine yxs ?_
                refine yps 6 rfl zmv ?_
                refine yps 12 rfl zbu ?_
                refine yos 13 rfl ?_
                refine zbN fun b36 => ?_
                refine yxs ?_
                refine yps 14 rfl zas ?_
                refine yzs rfl ?_
                refine gp zas ?_
                refine gnt ?_
                refine gc_ret ?_
                refine gx_ret2 rfl (by conv => lhs; whnf) (by conv => lhs; whnf) ?_
                exact new_end he0 hf hl33
            · refine zeN fun b34 => ?_
              refine yxs ?_
              refine yo2s 5 8 rfl rfl ?_ ?_
              · refine gl_ins (K := digV) (l := []) (key := idOf b) (v := .agg x28.toArray) (wt0 rfl) rfl rfl rfl Ty.un_75 (by repeat (first | exact Pick.here | apply Pick.there)) ?_
                refine yxs ?_
                refine yps 6 rfl zmv ?_
                refine yos 8 rfl ?_
                refine zeN fun b31 => ?_
                refine yxs ?_
                refine yps 12 rfl zbu ?_
                refine yos 13 rfl ?_
                refine zbN fun b36 => ?_
                refine yxs ?_
                refine yps 14 rfl zas ?_
                refine yzs rfl ?_
                refine gp zas ?_
                refine gnt ?_
                refine gc_ret ?_
                refine gx_ret2 rfl (by conv => lhs; whnf) (by conv => lhs; whnf) ?_
                exact new_end he0 hf hl33
              · refine zeN fun b31 => ?_
                refine yxs ?_
                refine yos 5 rfl ?_
                refine gl_ins (K := digV) (l := []) (key := idOf b) (v := .agg x28.toArray) (wt0 rfl) rfl rfl rfl Ty.un_75 (by repeat (first | exact Pick.here | apply Pick.there)) ?_
                refine yxs ?_
                refine yps 6 rfl zmv ?_
                refine yps 12 rfl zbu ?_
                refine yos 13 rfl ?_
                refine zbN fun b36 => ?_
                refine yxs ?_
                refine yps 14 rfl zas ?_
                refine yzs rfl ?_
                refine gp zas ?_
                refine gnt ?_
                refine gc_ret ?_
                refine gx_ret2 rfl (by conv => lhs; whnf) (by conv => lhs; whnf) ?_
                exact new_end he0 hf hl33
        · refine zeN fun b31 => ?_
          refine yxs ?_
          refine yos 4 rfl ?_
          refine zc (fun x28 => ?_) (c := fun w1 F1 F2 h1 h2 hd hst => copied_ok h1 (hb.mv hst.still) hsb)
          refine gl_pureR (fun hx28 => ?_)
          obtain ⟨hl28, ho28⟩ := hx28
          replace hl28 : x28.length = 39 := hl28
          have i28 := Len.of hl28
          have j28 := One.of (show ∀ v ∈ x28, v.oneCell' = true from ho28)
          refine yxs ?_
          refine yo2s 5 10 rfl rfl ?_ ?_
          · refine gl_ins (K := digV) (l := []) (key := idOf b) (v := .agg x28.toArray) (wt0 rfl) rfl rfl rfl Ty.un_75 (by repeat (first | exact Pick.here | apply Pick.there)) ?_
            refine yxs ?_
            refine yps 6 rfl zmv ?_
            refine yos 10 rfl ?_
            refine zc (fun x33 => ?_) (c := fun w1 F1 F2 h1 h2 hd hst => copiedQC_ok h1 (hq.mv hst.still) hsq)
            refine gl_pureR (fun hx33 => ?_)
            obtain ⟨hl33, ho33⟩ := hx33
            replace hl33 : x33.length = 19 := hl33
            have i33 := Len.of hl33
            have j33 := One.of (show ∀ v ∈ x33, v.oneCell' = true from ho33)
            refine yxs ?_
            refine yos 11 rfl ?_
            refine zeN fun b34 => ?_
            refine yxs ?_
            refine yps 12 rfl zbu ?_
            refine yos 13 rfl ?_
            refine zbN fun b36 => ?_
            refine yxs ?_
            refine yps 14 rfl zas ?_
            refine yzs rfl ?_
            refine gp zas ?_
            refine gnt ?_
            refine gc_ret ?_
            refine gx_ret2 rfl (by conv => lhs; whnf) (by conv => lhs; whnf) ?_
            exact new_end he0 hf hl33
          · refine zc (fun x33 => ?_) (c := fun w1 F1 F2 h1 h2 hd hst => copiedQC_ok h1 (hq.mv hst.still) hsq)
            refine gl_pureR (fun hx33 => ?_)
            obtain ⟨hl33, ho33⟩ := hx33
            replace hl33 : x33.length = 19 := hl33
            have i33 := Len.of hl33
            have j33 := One.of (show ∀ v ∈ x33, v.oneCell' = true from ho33)
            refine yxs ?_
            refine yo2s 5 11 rfl rfl ?_ ?_
            · refine gl_ins (K := digV) (l := []) (key := idOf b) (v := .agg x28.toArray) (wt0 rfl) rfl rfl rfl Ty.un_75 (by repeat (first | exact Pick.here | apply Pick.there)) ?_
              refine yxs ?_
              refine yps 6 rfl zmv ?_
              refine yos 11 rfl ?_
              refine zeN fun b34 => ?_
              refine yxs ?_
              refine yps 12 rfl zbu ?_
              refine yos 13 rfl ?_
              refine zbN fun b36 => ?_
              refine yxs ?_
              refine yps 14 rfl zas ?_
              refine yzs rfl ?_
              refine gp zas ?_
              refine gnt ?_
              refine gc_ret ?_
              refine gx_ret2 rfl (by conv => lhs; whnf) (by conv => lhs; whnf) ?_
              exact new_end he0 hf hl33
            · refine zeN fun b34 => ?_
              refine yxs ?_
              refine yos 5 rfl ?_
              refine gl_ins (K := digV) (l := []) (key := idOf b) (v := .agg x28.toArray) (wt0 rfl) rfl rfl rfl Ty.un_75 (by repeat (first | exact Pick.here | apply Pick.there)) ?_
              refine yxs ?_
              refine yps 6 rfl zmv ?_
              refine yps 12 rfl zbu ?_
              refine yos 13 rfl ?_
              refine zbN fun b36 => ?_
              refine yxs ?_
              refine yps 14 rfl zas ?_
              refine yzs rfl ?_
              refine gp zas ?_
              refine gnt ?_
              refine gc_ret ?_
              refine gx_ret2 rfl (by conv => lhs; whnf) (by conv => lhs; whnf) ?_
              exact new_end he0 hf hl33
      · refine zc (fun x28 => ?_) (c := fun w1 F1 F2 h1 h2 hd hst => copied_ok h1 (hb.mv hst.still) hsb)
        refine gl_pureR (fun hx28 => ?_)
        obtain ⟨hl28, ho28⟩ := hx28
        replace hl28 : x28.length = 39 := hl28
        have i28 := Len.of hl28
        have j28 := One.of (show ∀ v ∈ x28, v.oneCell' = true from ho28)
        refine yxs ?_
        refine yo3s 1 8 10 rfl rfl rfl ?_ ?_ ?_
        · refine gl_mkMap (wt0 rfl) (fun g25 => ?_)
          refine yxs ?_
          refine yo3s 5 8 10 rfl rfl rfl ?_ ?_ ?_
          · refine gl_ins (K := digV) (l := []) (key := idOf b) (v := .agg x28.toArray) (wt0 rfl) rfl rfl rfl Ty.un_75 (by repeat (first | exact Pick.here | apply Pick.there)) ?_
            refine yxs ?_
            refine yps 6 rfl zmv ?_
            refine yo2s 8 10 rfl rfl ?_ ?_
            · refine zeN fun b31 => ?_
              refine yxs ?_
              refine yos 10 rfl ?_
              refine zc (fun x33 => ?_) (c := fun w1 F1 F2 h1 h2 hd hst => copiedQC_ok h1 (hq.mv hst.still) hsq)
              refine gl_pureR (fun hx33 => ?_)
              obtain ⟨hl33, ho33⟩ := hx33
              replace hl33 : x33.length = 19 := hl33
              have i33 := Len.of hl33
              have j33 := One.of (show ∀ v ∈ x33, v.oneCell' = true from ho33)
              refine yxs ?_
              refine yos 11 rfl ?_
              refine zeN fun b34 => ?_
              refine yxs ?_
              refine yps 12 rfl zbu ?_
              refine yos 13 rfl ?_
              refine zbN fun b36 => ?_
              refine yxs ?_
              refine yps 14 rfl zas ?_
              refine yzs rfl ?_
              refine gp zas ?_
              refine gnt ?_
              refine gc_ret ?_
              refine gx_ret2 rfl (by conv => lhs; whnf) (by conv => lhs; whnf) ?_
              exact new_end he0 hf hl33
            · refine zc (fun x33 => ?_) (c := fun w1 F1 F2 h1 h2 hd hst => copiedQC_ok h1 (hq.mv hst.still) hsq)
              refine gl_pureR (fun hx33 => ?_)
              obtain ⟨hl33, ho33⟩ := hx33
              replace hl33 : x33.length = 19 := hl33
              have i33 := Len.of hl33
              have j33 := One.of (show ∀ v ∈ x33, v.oneCell' = true from ho33)
              refine yxs ?_
              refine yo2s 8 11 rfl rfl ?_ ?_
              · refine zeN fun b31 => ?_
                refine yxs ?_
                refine yos 11 rfl ?_
                refine zeN fun b34 => ?_
                refine yxs ?_
                refine yps 12 rfl zbu ?_
                refine yos 13 rfl ?_
                refine zbN fun b36 => ?_
                refine yxs ?_
                refine yps 14 rfl zas ?_
                refine yzs rfl ?_
                refine gp zas ?_
                refine gnt ?_
                refine gc_ret ?_
                refine gx_ret2 rfl (by conv => lhs; whnf) (by conv => lhs; whnf) ?_
                exact new_end he0 hf hl33
              · refine zeN fun b34 => ?_
                refine yxs ?_
                refine yos 8 rfl ?_
                refine zeN fun b31 => ?_
                refine yxs ?_
                refine yps 12 rfl zbu ?_
                refine yos 13 rfl ?_
                refine zbN fun b36 => ?_
                refine yxs ?_
                refine yps 14 rfl zas ?_
                refine yzs rfl ?_
                refine gp zas ?_
                refine gnt ?_
                refine gc_ret ?_
                refine gx_ret2 rfl (by conv => lhs; whnf) (by conv => lhs; whnf) ?_
                exact new_end he0 hf hl33
          · refine zeN fun b31 => ?_
            refine yxs ?_
            refine yo2s 5 10 rfl rfl ?_ ?_
            · refine gl_ins (K := digV) (l := []) (key := idOf b) (v := .agg x28.toArray) (wt0 rfl) rfl rfl rfl Ty.un_75 (by repeat (first | exact Pick.here | apply Pick.there)) ?_
              refine yxs ?_
              refine yps 6 rfl zmv ?_
              refine yos 10 rfl ?_
              refine zc (fun x33 => ?_) (c := fun w1 F1 F2 h1 h2 hd hst => copiedQC_ok h1 (hq.mv hst.still) hsq)
              refine gl_pureR (fun hx33 => ?_)
              obtain ⟨hl33, ho33⟩ := hx33
              replace hl33 : x33.length = 19 := hl33
              have i33 := Len.of hl33
              have j33 := One.of (show ∀ v ∈ x33, v.oneCell' = true from ho33)
              refine yxs ?_
              refine yos 11 rfl ?_
              refine zeN fun b34 => ?_
              refine yxs ?_
              refine yps 12 rfl zbu ?_
              refine yos 13 rfl ?_
              refine zbN fun b36 => ?_
              refine yxs ?_
              refine yps 14 rfl zas ?_
              refine yzs rfl ?_
              refine gp zas ?_
              refine gnt ?_
              refine gc_ret ?_
              refine gx_ret2 rfl (by conv => lhs; whnf) (by conv => lhs; whnf) ?_
              exact new_end he0 hf hl33
            · refine zc (fun x33 => ?_) (c := fun w1 F1 F2 h1 h2 hd hst => copiedQC_ok h1 (hq.mv hst.still) hsq)
              refine gl_pureR (fun hx33 => ?_)
              obtain ⟨hl33, ho33⟩ := hx33
              replace hl33 : x33.length = 19 := hl33
              have i33 := Len.of hl33
              have j33 := One.of (show ∀ v ∈ x33, v.oneCell' = true from ho33)
              refine yxs ?_
              refine yo2s 5 11 rfl rfl ?_ ?_
              · refine gl_ins (K := digV) (l := []) (key := idOf b) (v := .agg x28.toArray) (wt0 rfl) rfl rfl rfl Ty.un_75 (by repeat (first | exact Pick.here | apply Pick.there)) ?_
                refine yxs ?_
                refine yps 6 rfl zmv ?_
                refine yos 11 rfl ?_
                refine zeN fun b34 => ?_
                refine yxs ?_
                refine yps 12 rfl zbu ?_
                refine yos 13 rfl ?_
                refine zbN fun b36 => ?_
                refine yxs ?_
                refine yps 14 rfl zas ?_
                refine yzs rfl ?_
                refine gp zas ?_
                refine gnt ?_
                refine gc_ret ?_
                refine gx_ret2 rfl (by conv => lhs; whnf) (by conv => lhs; whnf) ?_
                exact new_end he0 hf hl33
              · refine zeN fun b34 => ?_
                refine yxs ?_
                refine yos 5 rfl ?_
                refine gl_ins (K := digV) (l := []) (key := idOf b) (v := .agg x28.toArray) (wt0 rfl) rfl rfl rfl Ty.un_75 (by repeat (first | exact Pick.here | apply Pick.there)) ?_
                refine yxs ?_
                refine yps 6 rfl zmv ?_
                refine yps 12 rfl zbu ?_
                refine yos 13 rfl ?_
                refine zbN fun b36 => ?_
                refine yxs ?_
                refine yps 14 rfl zas ?_
                refine yzs rfl ?_
                refine gp zas ?_
                refine gnt ?_
                refine gc_ret ?_
                refine gx_ret2 rfl (by conv => lhs; whnf) (by conv => lhs; whnf) ?_
                exact new_end he0 hf hl33
          · refine zc (fun x33 => ?_) (c := fun w1 F1 F2 h1 h2 hd hst => copiedQC_ok h1 (hq.mv hst.still) hsq)
            refine gl_pureR (fun hx33 => ?_)
            obtain ⟨hl33, ho33⟩ := hx33
            replace hl33 : x33.length = 19 := hl33
            have i33 := Len.of hl33
            have j33 := One.of (show ∀ v ∈ x33, v.oneCell' = true from ho33)
            refine yxs ?_
            refine yo3s 5 8 11 rfl rfl rfl ?_ ?_ ?_
            · refine gl_ins (K := digV) (l := []) (key := idOf b) (v := .agg x28.toArray) (wt0 rfl) rfl rfl rfl Ty.un_75 (by repeat (first | exact Pick.here | apply Pick.there)) ?_
              refine yxs ?_
              refine yps 6 rfl zmv ?_
              refine yo2s 8 11 rfl rfl ?_ ?_
              · refine zeN fun b31 => ?_
                refine yxs ?_
                refine yos 11 rfl ?_
                refine zeN fun b34 => ?_
                refine yxs ?_
                refine yps 12 rfl zbu ?_
                refine yos 13 rfl ?_
                refine zbN fun b36 => ?_
                refine yxs ?_
                refine yps 14 rfl zas ?_
                refine yzs rfl ?_
                refine gp zas ?_
                refine gnt ?_
                refine gc_ret ?_
                refine gx_ret2 rfl (by conv => lhs; whnf) (by conv => lhs; whnf) ?_
                exact new_end he0 hf hl33
              · refine zeN fun b34 => ?_
                refine yxs ?_
                refine yos 8 rfl ?_
                refine zeN fun b31 => ?_
                refine yxs ?_
                refine yps 12 rfl zbu ?_
                refine yos 13 rfl ?_
                refine zbN fun b36 => ?_
                refine yxs ?_
                refine yps 14 rfl zas ?_
                refine yzs rfl ?_
                refine gp zas ?_
                refine gnt ?_
                refine gc_ret ?_
                refine gx_ret2 rfl (by conv => lhs; whnf) (by conv => lhs; whnf) ?_
                exact new_end he0 hf hl33
            · refine zeN fun b31 => ?_
              refine yxs ?_
              refine yo2s 5 11 rfl rfl ?_ ?_
              · refine gl_ins (K := digV) (l := []) (key := idOf b) (v := .agg x28.toArray) (wt0 rfl) rfl rfl rfl Ty.un_75 (by repeat (first | exact Pick.here | apply Pick.there)) ?_
                refine yxs ?_
                refine yps 6 rfl zmv ?_
                refine yos 11 rfl ?_
                refine zeN fun b34 => ?_
                refine yxs ?_
                refine yps 12 rfl zbu ?_
                refine yos 13 rfl ?_
                refine zbN fun b36 => ?_
                refine yxs ?_
                refine yps 14 rfl zas ?_
                refine yzs rfl ?_
                refine gp zas ?_
                refine gnt ?_
                refine gc_ret ?_
                refine gx_ret2 rfl (by conv => lhs; whnf) (by conv => lhs; whnf) ?_
                exact new_end he0 hf hl33
              · refine zeN fun b34 => ?_
                refine yxs ?_
                refine yos 5 rfl ?_
                refine gl_ins (K := digV) (l := []) (key := idOf b) (v := .agg x28.toArray) (wt0 rfl) rfl rfl rfl Ty.un_75 (by repeat (first | exact Pick.here | apply Pick.there)) ?_
                refine yxs ?_
                refine yps 6 rfl zmv ?_
                refine yps 12 rfl zbu ?_
                refine yos 13 rfl ?_
                refine zbN fun b36 => ?_
                refine yxs ?_
                refine yps 14 rfl zas ?_
                refine yzs rfl ?_
                refine gp zas ?_
                refine gnt ?_
                refine gc_ret ?_
                refine gx_ret2 rfl (by conv => lhs; whnf) (by conv => lhs; whnf) ?_
                exact new_end he0 hf hl33
            · refine zeN fun b34 => ?_
              refine yxs ?_
              refine yo2s 5 8 rfl rfl ?_ ?_
              · refine gl_ins (K := digV) (l := []) (key := idOf b) (v := .agg x28.toArray) (wt0 rfl) rfl rfl rfl Ty.un_75 (by repeat (first | exact Pick.here | apply Pick.there)) ?_
                refine yxs ?_
                refine yps 6 rfl zmv ?_
                refine yos 8 rfl ?_
                refine zeN fun b31 => ?_
                refine yxs ?_
                refine yps 12 rfl zbu ?_
                refine yos 13 rfl ?_
                refine zbN fun b36 => ?_
                refine yxs ?_
                refine yps 14 rfl zas ?_
                refine yzs rfl ?_
                refine gp zas ?_
                refine gnt ?_
                refine gc_ret ?_
                refine gx_ret2 rfl (by conv => lhs; whnf) (by conv => lhs; whnf) ?_
                exact new_end he0 hf hl33
              · refine zeN fun b31 => ?_
                refine yxs ?_
                refine yos 5 rfl ?_
                refine gl_ins (K := digV) (l := []) (key := idOf b) (v := .agg x28.toArray) (wt0 rfl) rfl rfl rfl Ty.un_75 (by repeat (first | exact Pick.here | apply Pick.there)) ?_
                refine yxs ?_
                refine yps 6 rfl zmv ?_
                refine yps 12 rfl zbu ?_
                refine yos 13 rfl ?_
                refine zbN fun b36 => ?_
                refine yxs ?_
                refine yps 14 rfl zas ?_
                refine yzs rfl ?_
                refine gp zas ?_
                refine gnt ?_
                refine gc_ret ?_
                refine gx_ret2 rfl (by conv => lhs; whnf) (by conv => lhs; whnf) ?_
                exact new_end he0 hf hl33
        · refine zeN fun b31 => ?_
          refine yxs ?_
          refine yo2s 1 10 rfl rfl ?_ ?_
          · refine gl_mkMap (wt0 rfl) (fun g25 => ?_)
            refine yxs ?_
            refine yo2s 5 10 rfl rfl ?_ ?_
            · refine gl_ins (K := digV) (l := []) (key := idOf b) (v := .agg x28.toArray) (wt0 rfl) rfl rfl rfl Ty.un_75 (by repeat (first | exact Pick.here | apply Pick.there)) ?_
              refine yxs ?_
              refine yps 6 rfl zmv ?_
              refine yos 10 rfl ?_
              refine zc (fun x33 => ?_) (c := fun w1 F1 F2 h1 h2 hd hst => copiedQC_ok h1 (hq.mv hst.still) hsq)
              refine gl_pureR (fun hx33 => ?_)
              obtain ⟨hl33, ho33⟩ := hx33
              replace hl33 : x33.length = 19 := hl33
              have i33 := Len.of hl33
              have j33 := One.of (show ∀ v ∈ x33, v.oneCell' = true from ho33)
              refine yxs ?_
              refine yos 11 rfl ?_
              refine zeN fun b34 => ?_
              refine yxs ?_
              refine yps 12 rfl zbu ?_
              refine yos 13 rfl ?_
              refine zbN fun b36 => ?_
              refine yxs ?_
              refine yps 14 rfl zas ?_
              refine yzs rfl ?_
              refine gp zas ?_
              refine gnt ?_
              refine gc_ret ?_
              refine gx_ret2 rfl (by conv => lhs; whnf) (by conv => lhs; whnf) ?_
              exact new_end he0 hf hl33
            · refine zc (fun x33 => ?_) (c := fun w1 F1 F2 h1 h2 hd hst => copiedQC_ok h1 (hq.mv hst.still) hsq)
              refine gl_pureR (fun hx33 => ?_)
              obtain ⟨hl33, ho33⟩ := hx33
              replace hl33 : x33.length = 19 := hl33
              have i33 := Len.of hl33
              have j33 := One.of (show ∀ v ∈ x33, v.oneCell' = true from ho33)
              refine yxs ?_
              refine yo2s 5 11 rfl rfl ?_ ?_
              · refine gl_ins (K := digV) (l := []) (key := idOf b) (v := .agg x28.toArray) (wt0 rfl) rfl rfl rfl Ty.un_75 (by repeat (first | exact Pick.here | apply Pick.there)) ?_
                refine yxs ?_
                refine yps 6 rfl zmv ?_
                refine yos 11 rfl ?_
                refine zeN fun b34 => ?_
                refine yxs ?_
                refine yps 12 rfl zbu ?_
                refine yos 13 rfl ?_
                refine zbN fun b36 => ?_
                refine yxs ?_
                refine yps 14 rfl zas ?_
                refine yzs rfl ?_
                refine gp zas ?_
                refine gnt ?_
                refine gc_ret ?_
                refine gx_ret2 rfl (by conv => lhs; whnf) (by conv => lhs; whnf) ?_
                exact new_end he0 hf hl33
              · refine zeN fun b34 => ?_
                refine yxs ?_
                refine yos 5 rfl ?_
                refine gl_ins (K := digV) (l := []) (key := idOf b) (v := .agg x28.toArray) (wt0 rfl) rfl rfl rfl Ty.un_75 (by repeat (first | exact Pick.here | apply Pick.there)) ?_
                refine yxs ?_
                refine yps 6 rfl zmv ?_
                refine yps 12 rfl zbu ?_
                refine yos 13 rfl ?_
                refine zbN fun b36 => ?_
                refine yxs ?_
                refine yps 14 rfl zas ?_
                refine yzs rfl ?_
                refine gp zas ?_
                refine gnt ?_
                refine gc_ret ?_
                refine gx_ret2 rfl (by conv => lhs; whnf) (by conv => lhs; whnf) ?_
                exact new_end he0 hf hl33
          · refine zc (fun x33 => ?_) (c := fun w1 F1 F2 h1 h2 hd hst => copiedQC_ok h1 (hq.mv hst.still) hsq)
            refine gl_pureR (fun hx33 => ?_)
            obtain ⟨hl33, ho33⟩ := hx33
            replace hl33 : x33.length = 19 := hl33
            have i33 := Len.of hl33
            have j33 := One.of (show ∀ v ∈ x33, v.oneCell' = true from ho33)
            refine yxs ?_
            refine yo2s 1 11 rfl rfl ?_ ?_
            · refine gl_mkMap (wt0 rfl) (fun g25 => ?_)
              refine yxs ?_
              refine yo2s 5 11 rfl rfl ?_ ?_
              · refine gl_ins (K := digV) (l := []) (key := idOf b) (v := .agg x28.toArray) (wt0 rfl) rfl rfl rfl Ty.un_75 (by repeat (first | exact Pick.here | apply Pick.there)) ?_
                refine yxs ?_
                refine yps 6 rfl zmv ?_
                refine yos 11 rfl ?_
                refine zeN fun b34 => ?_
                refine yxs ?_
                refine yps 12 rfl zbu ?_
                refine yos 13 rfl ?_
                refine zbN fun b36 => ?_
                refine yxs ?_
                refine yps 14 rfl zas ?_
                refine yzs rfl ?_
                refine gp zas ?_
                refine gnt ?_
                refine gc_ret ?_
                refine gx_ret2 rfl (by conv => lhs; whnf) (by conv => lhs; whnf) ?_
                exact new_end he0 hf hl33
              · refine zeN fun b34 => ?_
                refine yxs ?_
                refine yos 5 rfl ?_
                refine gl_ins (K := digV) (l := []) (key := idOf b) (v := .agg x28.toArray) (wt0 rfl) rfl rfl rfl Ty.un_75 (by repeat (first | exact Pick.here | apply Pick.there)) ?_
                refine yxs ?_
                refine yps 6 rfl zmv ?_
                refine yps 12 rfl zbu ?_
                refine yos 13 rfl ?_
                refine zbN fun b36 => ?_
                refine yxs ?_
                refine yps 14 rfl zas ?_
                refine yzs rfl ?_
                refine gp zas ?_
                refine gnt ?_
                refine gc_ret ?_
                refine gx_ret2 rfl (by conv => lhs; whnf) (by conv => lhs; whnf) ?_
                exact new_end he0 hf hl33
            · refine zeN fun b34 => ?_
              refine yxs ?_
              refine yos 1 rfl ?_
              refine gl_mkMap (wt0 rfl) (fun g25 => ?_)
              refine yxs ?_
              refine yos 5 rfl ?_
              refine gl_ins (K := digV) (l := []) (key := idOf b) (v := .agg x28.toArray) (wt0 rfl) rfl rfl rfl Ty.un_75 (by repeat (first | exact Pick.here | apply Pick.there)) ?_
              refine yxs ?_
              refine yps 6 rfl zmv ?_
              refine yps 12 rfl zbu ?_
              refine yos 13 rfl ?_
              refine zbN fun b36 => ?_
              refine yxs ?_
              refine yps 14 rfl zas ?_
              refine yzs rfl ?_
              refine gp zas ?_
              refine gnt ?_
              refine gc_ret ?_
              refine gx_ret2 rfl (by conv => lhs; whnf) (by conv => lhs; whnf) ?_
              exact new_end he0 hf hl33
        · refine zc (fun x33 => ?_) (c := fun w1 F1 F2 h1 h2 hd hst => copiedQC_ok h1 (hq.mv hst.still) hsq)
          refine gl_pureR (fun hx33 => ?_)
          obtain ⟨hl33, ho33⟩ := hx33
          replace hl33 : x33.length = 19 := hl33
          have i33 := Len.of hl33
          have j33 := One.of (show ∀ v ∈ x33, v.oneCell' = true from ho33)
          refine yxs ?_
          refine yo3s 1 8 11 rfl rfl rfl ?_ ?_ ?_
          · refine gl_mkMap (wt0 rfl) (fun g25 => ?_)
            refine yxs ?_
            refine yo3s 5 8 11 rfl rfl rfl ?_ ?_ ?_
            · refine gl_ins (K := digV) (l := []) (key := idOf b) (v := .agg x28.toArray) (wt0 rfl) rfl rfl rfl Ty.un_75 (by repeat (first | exact Pick.here | apply Pick.there)) ?_
              refine yxs ?_
              refine yps 6 rfl zmv ?_
              refine yo2s 8 11 rfl rfl ?_ ?_
              · refine zeN fun b31 => ?_
                refine yxs ?_
                refine yos 11 rfl ?_
                refine zeN fun b34 => ?_
                refine yxs ?_
                refine yps 12 rfl zbu ?_
                refine yos 13 rfl ?_
                refine zbN fun b36 => ?_
                refine yxs ?_
                refine yps 14 rfl zas ?_
                refine yzs rfl ?_
                refine gp zas ?_
                refine gnt ?_
                refine gc_ret ?_
                refine gx_ret2 rfl (by conv => lhs; whnf) (by conv => lhs; whnf) ?_
                exact new_end he0 hf hl33
              · refine zeN fun b34 => ?_
                refine yxs ?_
                refine yos 8 rfl ?_
                refine zeN fun b31 => ?_
                refine yxs ?_
                refine yps 12 rfl zbu ?_
                refine yos 13 rfl ?_
                refine zbN fun b36 => ?_
                refine yxs ?_
                refine yps 14 rfl zas ?_
                refine yzs rfl ?_
                refine gp zas ?_
                refine gnt ?_
                refine gc_ret ?_
                refine gx_ret2 rfl (by conv => lhs; whnf) (by conv => lhs; whnf) ?_
                exact new_end he0 hf hl33
            · refine zeN fun b31 => ?_
              refine yxs ?_
              refine yo2s 5 11 rfl rfl ?_ ?_
              · refine gl_ins (K := digV) (l := []) (key := idOf b) (v := .agg x28.toArray) (wt0 rfl) rfl rfl rfl Ty.un_75 (by repeat (first | exact Pick.here | apply Pick.there)) ?_
                refine yxs ?_
                refine yps 6 rfl zmv ?_
                refine yos 11 rfl ?_
                refine zeN fun b34 => ?_
                refine yxs ?_
                refine yps 12 rfl zbu ?_
                refine yos 13 rfl ?_
                refine zbN fun b36 => ?_
                refine yxs ?_
                refine yps 14 rfl zas ?_
                refine yzs rfl ?_
                refine gp zas ?_
                refine gnt ?_
                refine gc_ret ?_
                refine gx_ret2 rfl (by conv => lhs; whnf) (by conv => lhs; whnf) ?_
                exact new_end he0 hf hl33
              · refine zeN fun b34 => ?_
                refine yxs ?_
                refine yos 5 rfl ?_
                refine gl_ins (K := digV) (l := []) (key := idOf b) (v := .agg x28.toArray) (wt0 rfl) rfl rfl rfl Ty.un_75 (by repeat (first | exact Pick.here | apply Pick.there)) ?_
                refine yxs ?_
                refine yps 6 rfl zmv ?_
                refine yps 12 rfl zbu ?_
                refine yos 13 rfl ?_
                refine zbN fun b36 => ?_
                refine yxs ?_
                refine yps 14 rfl zas ?_
                refine yzs rfl ?_
                refine gp zas ?_
                refine gnt ?_
                refine gc_ret ?_
                refine gx_ret2 rfl (by conv => lhs; whnf) (by conv => lhs; whnf) ?_
                exact new_end he0 hf hl33
            · refine zeN fun b34 => ?_
              refine yxs ?_
              refine yo2s 5 8 rfl rfl ?_ ?_
              · refine gl_ins (K := digV) (l := []) (key := idOf b) (v := .agg x28.toArray) (wt0 rfl) rfl rfl rfl Ty.un_75 (by repeat (first | exact Pick.here | apply Pick.there)) ?_
                refine yxs ?_
                refine yps 6 rfl zmv ?_
                refine yos 8 rfl ?_
                refine zeN fun b31 => ?_
                refine yxs ?_
                refine yps 12 rfl zbu ?_
                refine yos 13 rfl ?_
                refine zbN fun b36 => ?_
                refine yxs ?_
                refine yps 14 rfl zas ?_
                refine yzs rfl ?_
                refine gp zas ?_
                refine gnt ?_
                refine gc_ret ?_
                refine gx_ret2 rfl (by conv => lhs; whnf) (by conv => lhs; whnf) ?_
                exact new_end he0 hf hl33
              · refine zeN fun b31 => ?_
                refine yxs ?_
                refine yos 5 rfl ?_
                refine gl_ins (K := digV) (l := []) (key := idOf b) (v := .agg x28.toArray) (wt0 rfl) rfl rfl rfl Ty.un_75 (by repeat (first | exact Pick.here | apply Pick.there)) ?_
                refine yxs ?_
                refine yps 6 rfl zmv ?_
                refine yps 12 rfl zbu ?_
                refine yos 13 rfl ?_
                refine zbN fun b36 => ?_
                refine yxs ?_
                refine yps 14 rfl zas ?_
                refine yzs rfl ?_
                refine gp zas ?_
                refine gnt ?_
                refine gc_ret ?_
                refine gx_ret2 rfl (by conv => lhs; whnf) (by conv => lhs; whnf) ?_
                exact new_end he0 hf hl33
          · refine zeN fun b31 => ?_
            refine yxs ?_
            refine yo2s 1 11 rfl rfl ?_ ?_
            · refine gl_mkMap (wt0 rfl) (fun g25 => ?_)
              refine yxs ?_
              refine yo2s 5 11 rfl rfl ?_ ?_
              · refine gl_ins (K := digV) (l := []) (key := idOf b) (v := .agg x28.toArray) (wt0 rfl) rfl rfl rfl Ty.un_75 (by repeat (first | exact Pick.here | apply Pick.there)) ?_
                refine yxs ?_
                refine yps 6 rfl zmv ?_
                refine yos 11 rfl ?_
                refine zeN fun b34 => ?_
                refine yxs ?_
                refine yps 12 rfl zbu ?_
                refine yos 13 rfl ?_
                refine zbN fun b36 => ?_
                refine yxs ?_
                refine yps 14 rfl zas ?_
                refine yzs rfl ?_
                refine gp zas ?_
                refine gnt ?_
                refine gc_ret ?_
                refine gx_ret2 rfl (by conv => lhs; whnf) (by conv => lhs; whnf) ?_
                exact new_end he0 hf hl33
              · refine zeN fun b34 => ?_
                refine yxs ?_
                refine yos 5 rfl ?_
                refine gl_ins (K := digV) (l := []) (key := idOf b) (v := .agg x28.toArray) (wt0 rfl) rfl rfl rfl Ty.un_75 (by repeat (first | exact Pick.here | apply Pick.there)) ?_
                refine yxs ?_
                refine yps 6 rfl zmv ?_
                refine yps 12 rfl zbu ?_
                refine yos 13 rfl ?_
                refine zbN fun b36 => ?_
                refine yxs ?_
                refine yps 14 rfl zas ?_
                refine yzs rfl ?_
                refine gp zas ?_
                refine gnt ?_
                refine gc_ret ?_
                refine gx_ret2 rfl (by conv => lhs; whnf) (by conv => lhs; whnf) ?_
                exact new_end he0 hf hl33
            · refine zeN fun b34 => ?_
              refine yxs ?_
              refine yos 1 rfl ?_
              refine gl_mkMap (wt0 rfl) (fun g25 => ?_)
              refine yxs ?_
              refine yos 5 rfl ?_
              refine gl_ins (K := digV) (l := []) (key := idOf b) (v := .agg x28.toArray) (wt0 rfl) rfl rfl rfl Ty.un_75 (by repeat (first | exact Pick.here | apply Pick.there)) ?_
              refine yxs ?_
              refine yps 6 rfl zmv ?_
              refine yps 12 rfl zbu ?_
              refine yos 13 rfl ?_
              refine zbN fun b36 => ?_
              refine yxs ?_
              refine yps 14 rfl zas ?_
              refine yzs rfl ?_
              refine gp zas ?_
              refine gnt ?_
              refine gc_ret ?_
              refine gx_ret2 rfl (by conv => lhs; whnf) (by conv => lhs; whnf) ?_
              exact new_end he0 hf hl33
          · refine zeN fun b34 => ?_
            refine yxs ?_
            refine yo2s 1 8 rfl rfl ?_ ?_
            · refine gl_mkMap (wt0 rfl) (fun g25 => ?_)
              refine yxs ?_
              refine yo2s 5 8 rfl rfl ?_ ?_
              · refine gl_ins (K := digV) (l := []) (key := idOf b) (v := .agg x28.toArray) (wt0 rfl) rfl rfl rfl Ty.un_75 (by repeat (first | exact Pick.here | apply Pick.there)) ?_
                refine yxs ?_
                refine yps 6 rfl zmv ?_
                refine yos 8 rfl ?_
                refine zeN fun b31 => ?_
                refine yxs ?_
                refine yps 12 rfl zbu ?_
                refine yos 13 rfl ?_
                refine zbN fun b36 => ?_
                refine yxs ?_
                refine yps 14 rfl zas ?_
                refine yzs rfl ?_
                refine gp zas ?_
                refine gnt ?_
                refine gc_ret ?_
                refine gx_ret2 rfl (by conv => lhs; whnf) (by conv => lhs; whnf) ?_
                exact new_end he0 hf hl33
              · refine zeN fun b31 => ?_
                refine yxs ?_
                refine yos 5 rfl ?_
                refine gl_ins (K := digV) (l := []) (key := idOf b) (v := .agg x28.toArray) (wt0 rfl) rfl rfl rfl Ty.un_75 (by repeat (first | exact Pick.here | apply Pick.there)) ?_
                refine yxs ?_
                refine yps 6 rfl zmv ?_
                refine yps 12 rfl zbu ?_
                refine yos 13 rfl ?_
                refine zbN fun b36 => ?_
                refine yxs ?_
                refine yps 14 rfl zas ?_
                refine yzs rfl ?_
                refine gp zas ?_
                refine gnt ?_
                refine gc_ret ?_
                refine gx_ret2 rfl (by conv => lhs; whnf) (by conv => lhs; whnf) ?_
                exact new_end he0 hf hl33
            · refine zeN fun b31 => ?_
              refine yxs ?_
              refine yos 1 rfl ?_
              refine gl_mkMap (wt0 rfl) (fun g25 => ?_)
              refine yxs ?_
              refine yos 5 rfl ?_
              refine gl_ins (K := digV) (l := []) (key := idOf b) (v := .agg x28.toArray) (wt0 rfl) rfl rfl rfl Ty.un_75 (by repeat (first | exact Pick.here | apply Pick.there)) ?_
              refine yxs ?_
              refine yps 6 rfl zmv ?_
              refine yps 12 rfl zbu ?_
              refine yos 13 rfl ?_
              refine zbN fun b36 => ?_
              refine yxs ?_
              refine yps 14 rfl zas ?_
              refine yzs rfl ?_
              refine gp zas ?_
              refine gnt ?_
              refine gc_ret ?_
              refine gx_ret2 rfl (by conv => lhs; whnf) (by conv => lhs; whnf) ?_
              exact new_end he0 hf hl33
      · refine zeN fun b31 => ?_
        refine yxs ?_
        refine yo2s 1 4 rfl rfl ?_ ?_
        · refine gl_mkMap (wt0 rfl) (fun g25 => ?_)
          refine yxs ?_
          refine yos 4 rfl ?_
          refine zc (fun x28 => ?_) (c := fun w1 F1 F2 h1 h2 hd hst => copied_ok h1 (hb.mv hst.still) hsb)
          refine gl_pureR (fun hx28 => ?_)
          obtain ⟨hl28, ho28⟩ := hx28
          replace hl28 : x28.length = 39 := hl28
          have i28 := Len.of hl28
          have j28 := One.of (show ∀ v ∈ x28, v.oneCell' = true from ho28)
          refine yxs ?_
          refine yo2s 5 10 rfl rfl ?_ ?_
          · refine gl_ins (K := digV) (l := []) (key := idOf b) (v := .agg x28.toArray) (wt0 rfl) rfl rfl rfl Ty.un_75 (by repeat (first | exact Pick.here | apply Pick.there)) ?_
            refine yxs ?_
            refine yps 6 rfl zmv ?_
            refine yos 10 rfl ?_
            refine zc (fun x33 => ?_) (c := fun w1 F1 F2 h1 h2 hd hst => copiedQC_ok h1 (hq.mv hst.still) hsq)
            refine gl_pureR (fun hx33 => ?_)
            obtain ⟨hl33, ho33⟩ := hx33
            replace hl33 : x33.length = 19 := hl33
            have i33 := Len.of hl33
            have j33 := One.of (show ∀ v ∈ x33, v.oneCell' = true from ho33)
            refine yxs ?_
            refine yos 11 rfl ?_
            refine zeN fun b34 => ?_
            refine yxs ?_
            refine yps 12 rfl zbu ?_
            refine yos 13 rfl ?_
            refine zbN fun b36 => ?_
            refine yxs ?_
            refine yps 14 rfl zas ?_
            refine yzs rfl ?_
            refine gp zas ?_
            refine gnt ?_
            refine gc_ret ?_
            refine gx_ret2 rfl (by conv => lhs; whnf) (by conv => lhs; whnf) ?_
            exact new_end he0 hf hl33
          · refine zc (fun x33 => ?_) (c := fun w1 F1 F2 h1 h2 hd hst => copiedQC_ok h1 (hq.mv hst.still) hsq)
            refine gl_pureR (fun hx33 => ?_)
            obtain ⟨hl33, ho33⟩ := hx33
            replace hl33 : x33.length = 19 := hl33
            have i33 := Len.of hl33
            have j33 := One.of (show ∀ v ∈ x33, v.oneCell' = true from ho33)
            refine yxs ?_
            refine yo2s 5 11 rfl rfl ?_ ?_
            · refine gl_ins (K := digV) (l := []) (key := idOf b) (v := .agg x28.toArray) (wt0 rfl) rfl rfl rfl Ty.un_75 (by repeat (first | exact Pick.here | apply Pick.there)) ?_
              refine yxs ?_
              refine yps 6 rfl zmv ?_
              refine yos 11 rfl ?_
              refine zeN fun b34 => ?_
              refine yxs ?_
              refine yps 12 rfl zbu ?_
              refine yos 13 rfl ?_
              refine zbN fun b36 => ?_
              refine yxs ?_
              refine yps 14 rfl zas ?_
              refine yzs rfl ?_
              refine gp zas ?_
              refine gnt ?_
              refine gc_ret ?_
              refine gx_ret2 rfl (by conv => lhs; whnf) (by conv => lhs; whnf) ?_
              exact new_end he0 hf hl33
            · refine zeN fun b34 => ?_
              refine yxs ?_
              refine yos 5 rfl ?_
              refine gl_ins (K := digV) (l := []) (key := idOf b) (v := .agg x28.toArray) (wt0 rfl) rfl rfl rfl Ty.un_75 (by repeat (first | exact Pick.here | apply Pick.there)) ?_
              refine yxs ?_
              refine yps 6 rfl zmv ?_
              refine yps 12 rfl zbu ?_
              refine yos 13 rfl ?_
              refine zbN fun b36 => ?_
              refine yxs ?_
              refine yps 14 rfl zas ?_
              refine yzs rfl ?_
              refine gp zas ?_
              refine gnt ?_
              refine gc_ret ?_
              refine gx_ret2 rfl (by conv => lhs; whnf) (by conv => lhs; whnf) ?_
              exact new_end he0 hf hl33
        · refine zc (fun x28 => ?_) (c := fun w1 F1 F2 h1 h2 hd hst => copied_ok h1 (hb.mv hst.still) hsb)
          refine gl_pureR (fun hx28 => ?_)
          obtain ⟨hl28, ho28⟩ := hx28
          replace hl28 : x28.length = 39 := hl28
          have i28 := Len.of hl28
          have j28 := One.of (show ∀ v ∈ x28, v.oneCell' = true from ho28)
          refine yxs ?_
          refine yo2s 1 10 rfl rfl ?_ ?_
          · refine gl_mkMap (wt0 rfl) (fun g25 => ?_)
            refine yxs ?_
            refine yo2s 5 10 rfl rfl ?_ ?_
            · refine gl_ins (K := digV) (l := []) (key := idOf b) (v := .agg x28.toArray) (wt0 rfl) rfl rfl rfl Ty.un_75 (by repeat (first | exact Pick.here | apply Pick.there)) ?_
              refine yxs ?_
              refine yps 6 rfl zmv ?_
              refine yos 10 rfl ?_
              refine zc (fun x33 => ?_) (c := fun w1 F1 F2 h1 h2 hd hst => copiedQC_ok h1 (hq.mv hst.still) hsq)
              refine gl_pureR (fun hx33 => ?_)
              obtain ⟨hl33, ho33⟩ := hx33
              replace hl33 : x33.length = 19 := hl33
              have i33 := Len.of hl33
              have j33 := One.of (show ∀ v ∈ x33, v.oneCell' = true from ho33)
              refine yxs ?_
              refine yos 11 rfl ?_
              refine zeN fun b34 => ?_
              refine yxs ?_
              refine yps 12 rfl zbu ?_
              refine yos 13 rfl ?_
              refine zbN fun b36 => ?_
              refine yxs ?_
              refine yps 14 rfl zas ?_
              refine yzs rfl ?_
              refine gp zas ?_
              refine gnt ?_
              refine gc_ret ?_
              refine gx_ret2 rfl (by conv => lhs; whnf) (by conv => lhs; whnf) ?_
              exact new_end he0 hf hl33
            · refine zc (fun x33 => ?_) (c := fun w1 F1 F2 h1 h2 hd hst => copiedQC_ok h1 (hq.mv hst.still) hsq)
              refine gl_pureR (fun hx33 => ?_)
              obtain ⟨hl33, ho33⟩ := hx33
              replace hl33 : x33.length = 19 := hl33
              have i33 := Len.of hl33
              have j33 := One.of (show ∀ v ∈ x33, v.oneCell' = true from ho33)
              refine yxs ?_
              refine yo2s 5 11 rfl rfl ?_ ?_
              · refine gl_ins (K := digV) (l := []) (key := idOf b) (v := .agg x28.toArray) (wt0 rfl) rfl rfl rfl Ty.un_75 (by repeat (first | exact Pick.here | apply Pick.there)) ?_
                refine yxs ?_
                refine yps 6 rfl zmv ?_
                refine yos 11 rfl ?_
                refine zeN fun b34 => ?_
                refine yxs ?_
                refine yps 12 rfl zbu ?_
                refine yos 13 rfl ?_
                refine zbN fun b36 => ?_
                refine yxs ?_
                refine yps 14 rfl zas ?_
                refine yzs rfl ?_
                refine gp zas ?_
                refine gnt ?_
                refine gc_ret ?_
                refine gx_ret2 rfl (by conv => lhs; whnf) (by conv => lhs; whnf) ?_
                exact new_end he0 hf hl33
              · refine zeN fun b34 => ?_
                refine yxs ?_
                refine yos 5 rfl ?_
                refine gl_ins (K := digV) (l := []) (key := idOf b) (v := .agg x28.toArray) (wt0 rfl) rfl rfl rfl Ty.un_75 (by repeat (first | exact Pick.here | apply Pick.there)) ?_
                refine yxs ?_
                refine yps 6 rfl zmv ?_
                refine yps 12 rfl zbu ?_
                refine yos 13 rfl ?_
                refine zbN fun b36 => ?_
                refine yxs ?_
                refine yps 14 rfl zas ?_
                refine yzs rfl ?_
                refine gp zas ?_
                refine gnt ?_
                refine gc_ret ?_
                refine gx_ret2 rfl (by conv => lhs; whnf) (by conv => lhs; whnf) ?_
                exact new_end he0 hf hl33
          · refine zc (fun x33 => ?_) (c := fun w1 F1 F2 h1 h2 hd hst => copiedQC_ok h1 (hq.mv hst.still) hsq)
            refine gl_pureR (fun hx33 => ?_)
            obtain ⟨hl33, ho33⟩ := hx33
            replace hl33 : x33.length = 19 := hl33
            have i33 := Len.of hl33
            have j33 := One.of (show ∀ v ∈ x33, v.oneCell' = true from ho33)
            refine yxs ?_
            refine yo2s 1 11 rfl rfl ?_ ?_
            · refine gl_mkMap (wt0 rfl) (fun g25 => ?_)
              refine yxs ?_
              refine yo2s 5 11 rfl rfl ?_ ?_
              · refine gl_ins (K := digV) (l := []) (key := idOf b) (v := .agg x28.toArray) (wt0 rfl) rfl rfl rfl Ty.un_75 (by repeat (first | exact Pick.here | apply Pick.there)) ?_
                refine yxs ?_
                refine yps 6 rfl zmv ?_
                refine yos 11 rfl ?_
                refine zeN fun b34 => ?_
                refine yxs ?_
                refine yps 12 rfl zbu ?_
                refine yos 13 rfl ?_
                refine zbN fun b36 => ?_
                refine yxs ?_
                refine yps 14 rfl zas ?_
                refine yzs rfl ?_
                refine gp zas ?_
                refine gnt ?_
                refine gc_ret ?_
                refine gx_ret2 rfl (by conv => lhs; whnf) (by conv => lhs; whnf) ?_
                exact new_end he0 hf hl33
              · refine zeN fun b34 => ?_
                refine yxs ?_
                refine yos 5 rfl ?_
                refine gl_ins (K := digV) (l := []) (key := idOf b) (v := .agg x28.toArray) (wt0 rfl) rfl rfl rfl Ty.un_75 (by repeat (first | exact Pick.here | apply Pick.there)) ?_
                refine yxs ?_
                refine yps 6 rfl zmv ?_
                refine yps 12 rfl zbu ?_
                refine yos 13 rfl ?_
                refine zbN fun b36 => ?_
                refine yxs ?_
                refine yps 14 rfl zas ?_
                refine yzs rfl ?_
                refine gp zas ?_
                refine gnt ?_
                refine gc_ret ?_
                refine gx_ret2 rfl (by conv => lhs; whnf) (by conv => lhs; whnf) ?_
                exact new_end he0 hf hl33
            · refine zeN fun b34 => ?_
              refine yxs ?_
              refine yos 1 rfl ?_
              refine gl_mkMap (wt0 rfl) (fun g25 => ?_)
              refine yxs ?_
              refine yos 5 rfl ?_
              refine gl_ins (K := digV) (l := []) (key := idOf b) (v := .agg x28.toArray) (wt0 rfl) rfl rfl rfl Ty.un_75 (by repeat (first | exact Pick.here | apply Pick.there)) ?_
              refine yxs ?_
              refine yps 6 rfl zmv ?_
              refine yps 12 rfl zbu ?_
              refine yos 13 rfl ?_
              refine zbN fun b36 => ?_
              refine yxs ?_
              refine yps 14 rfl zas ?_
              refine yzs rfl ?_
              refine gp zas ?_
              refine gnt ?_
              refine gc_ret ?_
              refine gx_ret2 rfl (by conv => lhs; whnf) (by conv => lhs; whnf) ?_
              exact new_end he0 hf hl33

end Go.Proofs.YtobjojeliibinaaDoor

/- Walks, by program (wg.py) out of a spec. -/
namespace Go.Proofs.YtobjojeliibinaaDoor
open Go
set_option linter.unusedVariables false
set_option linter.unusedSimpArgs false


section
variable {w0 w : World} {F F0 : Nat → Prop} {L L' : List Res} {Q : Exit → Act → World → Prop} {n : Fm} {env : Env} {ops : Array Oper} {rest : List Oper}
theorem gc_st {c : Code} {L2 : List Res} (h : ∀ w, St w0 F0 L w → St w0 F0 L2 w) (k : Gc Tryd.prog w0 F0 L2 c Q n env) : Gc Tryd.prog w0 F0 L c Q n env := fun w hw => k w (h w hw)
theorem St.elB {css : List (List Value)} {l : List Block} (h : St w0 F0 L w) (hp : Pick L (ElR RdBlock css l) L') : css.length = l.length ∧ ∀ (i : Nat) (c : List Value) (x : Block), css[i]? = some c → l[i]? = some x → ∃ w A, RdBlock w A c x := St.el (rd := RdBlock) h hp
end
theorem stars_tshut {q : Nat} {t : Tr} {g : Nat} {ao : Option Addr} {co : Nat} {ac : Option Addr} {cc : Nat} {css qss : List (List Value)} {w : World} {F : Nat → Prop} (h19 : ∀ c ∈ qss, List.length c = 19) (h : stars (treL q t g ao co ac cc css qss []) w F) : stars [TreeR q t] w F := tree_shut h19 h
theorem learn_none {t : Tr} {q : QC} (h : (lkN q.block t.nodes).isSome = false) : learnE t q = (9, t) := by
  have : lkN q.block t.nodes = none := by simpa using h
  unfold learnE; rw [this]
theorem learn_unfit {t : Tr} {q : QC} {p : Block} (hp : lkN q.block t.nodes = some p) (hf : ¬ fitsQ q q.block p = true) : learnE t q = (12, t) := by
  unfold learnE; rw [hp]; simp only; rw [if_neg hf]
theorem learn_has {t : Tr} {q : QC} {p : Block} (hp : lkN q.block t.nodes = some p) (hf : fitsQ q q.block p = true) (hc : (certF q.block t.certs).isSome = true) : learnE t q = (0, t) := by
  unfold learnE; rw [hp]; simp only; rw [if_pos hf, if_pos hc]
theorem learn_new {t : Tr} {q : QC} {p : Block} (hp : lkN q.block t.nodes = some p) (hf : fitsQ q q.block p = true) (hc : ¬ (certF q.block t.certs).isSome = true) : learnE t q = (0, { t with certs := t.certs ++ [q] }) := by
  unfold learnE; rw [hp]; simp only; rw [if_pos hf, if_neg hc]
/-- A certificate more. -/
theorem tree_cert {q : Nat} {t : Tr} {g : Nat} {ao : Option Addr} {co : Nat} {ac : Option Addr} {cc : Nat} {css qss : List (List Value)} {c : QC} {x : List Value} {w0 w : World} {F0 : Nat → Prop} {L L' : List Res} (h19 : ∀ c ∈ qss, List.length c = 19) (hx : x.length = 19)
    (h : St w0 F0 L w) (hs : Sel L [blk q 78 (dc t.root ++ [.map (some g), .slice ao t.nodes.length co, .slice ac (t.certs.length + 1) cc]), mapR g (encK digV (nodeV t.nodes css)), ElR RdBlock css (t.nodes.map (fun p => p.2)), rowR 26 16 ao t.nodes.length co ((keysT t).map dc).flatten, rowR 29 19 ac (t.certs.length + 1) cc (qss.flatten ++ x), ElR RdQC qss t.certs, VlR RdQC x c] L') : St w0 F0 (TreeR q { t with certs := t.certs ++ [c] } :: L') w := by
  have h1 := h.conv hs (N := [TreeR q { t with certs := t.certs ++ [c] }]) fun w F hh => ?_
  · exact h1
  · obtain ⟨F1, R1, h1, k1, e1, d1⟩ := hh
    obtain ⟨F2, R2, h2, k2, e2, d2⟩ := k1
    obtain ⟨F3, R3, h3, k3, e3, d3⟩ := k2
    obtain ⟨F4, R4, h4, k4, e4, d4⟩ := k3
    obtain ⟨F5, R5, h5, k5, e5, d5⟩ := k4
    have k6 := el_snoc k5
    refine tree_shut (g := g) (ao := ao) (co := co) (ac := ac) (cc := cc) (css := css) (qss := qss ++ [x]) (fun y hy => ?_) ?_
    · rcases List.mem_append.1 hy with hy | hy
      · exact h19 y hy
      · simp at hy; subst hy; exact hx
    · exact ⟨F1, R1, by simpa using h1, ⟨F2, R2, h2, ⟨F3, R3, h3, ⟨F4, R4, h4, ⟨F5, R5, by simpa using h5, k6, e5, d5⟩, e4, d4⟩, e3, d3⟩, e2, d2⟩, e1, d1⟩
theorem stars_snocE {α : Type} {rd : World → (Nat → Prop) → List Value → α → Prop} [RdK rd] {css : List (List Value)} {l : List α} {c : List Value} {x : α} {L : List Res} {w : World} {F : Nat → Prop} (h : stars (ElR rd css l :: VlR rd c x :: L) w F) : stars (ElR rd (css ++ [c]) (l ++ [x]) :: L) w F := by
  obtain ⟨G, R, hg, hr, eg, dg⟩ := stars_split (M := [ElR rd css l, VlR rd c x]) (L := L) h
  have := stars_append (el_snoc hg) hr dg
  rw [← fp_eq eg] at this
  exact this
/-- A block more. -/
theorem tree_put {q : Nat} {t : Tr} {g : Nat} {ao : Option Addr} {co : Nat} {ac : Option Addr} {cc : Nat} {css qss : List (List Value)} {b : Block} {id : Dig} {x : List Value} {w0 w : World} {F0 : Nat → Prop} {L L' : List Res} (h19 : ∀ c ∈ qss, List.length c = 19) (hl : css.length = t.nodes.length) (hn : lkN id t.nodes = none)
    (h : St w0 F0 L w) (hs : Sel L [blk q 78 (dc t.root ++ [.map (some g), .slice ao (t.nodes.length + 1) co, .slice ac t.certs.length cc]), mapR g (encK digV (putK id (.agg x.toArray) (nodeV t.nodes css))), ElR RdBlock css (t.nodes.map (fun p => p.2)), VlR RdBlock x b, rowR 26 16 ao (t.nodes.length + 1) co (((keysT t).map dc).flatten ++ dc id), rowR 29 19 ac t.certs.length cc qss.flatten, ElR RdQC qss t.certs] L') : St w0 F0 (TreeR q (putT t b id) :: L') w := by
  have h1 := h.conv hs (N := [TreeR q (putT t b id)]) fun w F hh => ?_
  · exact h1
  · obtain ⟨F1, R1, h1, k1, e1, d1⟩ := hh
    obtain ⟨F2, R2, h2, k2, e2, d2⟩ := k1
    obtain ⟨F3, R3, h3, k3, e3, d3⟩ := stars_snocE k2
    obtain ⟨F4, R4, h4, k4, e4, d4⟩ := k3
    refine tree_shut (g := g) (ao := ao) (co := co) (ac := ac) (cc := cc) (css := css ++ [x]) (qss := qss) h19 ?_
    rw [nodeV_put (b := b) hl hn] at h2
    exact ⟨F1, R1, by simpa [putT] using h1, ⟨F2, R2, by simpa [putT] using h2, ⟨F3, R3, by simpa [putT] using h3, ⟨F4, R4, by simpa [putT, keysT] using h4, k4, e4, d4⟩, e3, d3⟩, e2, d2⟩, e1, d1⟩

attribute [local irreducible] Gl Gc Gx Gs Runs Wt

attribute [local irreducible] dc qcC blkC idOf TreeR

set_option maxHeartbeats 400000 in
theorem tlearn_ok {w : World} {F : Nat → Prop} {q : Nat} {t : Tr} {ea : Nat → Addr} {es : List Nat} [Has es 9] [Has es 12] (hE : GErr es w (fun k => ¬ F k) 146 ea) (h : stars [TreeR q t] w F) (hok : TOk t) {qs : List Value} {x : QC} (hq : RdQC w (fun k => ¬ F k) qs x) (hs : smQC x) :
    Calls Tryd.prog 27 #[.pointer (some ⟨q, 0, none⟩), .agg qs.toArray] w (Post w F (fun _ : Unit => eV 146 ea (learnE t x).1) (fun _ => [TreeR q (learnE t x).2])) := by
  have hq' := hq
  obtain ⟨av, nv, kv, rfl, _, _⟩ := hq'
  have hle := hok.le
  have hcl := hok.cl
  refine g_enter (env := [(0, .pointer (some ⟨q, 0, none⟩)), (1, _)]) Tryd.func27 rfl h Tryd.ntmps27 rfl rfl ?_
  refine gsr ?_
  refine gl_tree (by repeat (first | exact Pick.here | apply Pick.there)) (fun g ao co ac cc css qss h19 => ?_)
  refine zbN fun b3 => ?_
  refine gl_fact (fun w' hw => St.elB hw (by repeat (first | exact Pick.here | apply Pick.there))) (fun hel => ?_)
  obtain ⟨cp, hgk, wp, Ap, hrp⟩ := lookP hel.1 hel.2 x.block
  have icp := Len.of hrp.len
  have jcp := One.of hrp.one
  refine gp zas ?_
  refine gnt ?_
  refine gc_seq ?_
  refine gc_regionZ 12 ([blk q 78 (dc t.root ++ [.map (some g), .slice ao t.nodes.length co, .slice ac t.certs.length cc]), mapR g (encK digV (nodeV t.nodes css)), blk b3 29 (.int .i64 x.epoch :: .int .i64 x.round :: (dc x.block ++ [.slice av nv kv]))]) ?_
  refine yps 0 rfl zmv ?_
  refine yps 1 rfl znc ?_
  refine yps 2 rfl zfa ?_
  refine yps 3 rfl zl ?_
  refine yps 4 rfl zfa ?_
  refine yps 5 rfl zL ?_
  refine yps 6 rfl (r_val (v' := .tuple #[.agg cp.toArray, .bool (lkN x.block t.nodes).isSome]) (r_look (K := digV) (l := nodeV t.nodes css) (key := x.block) (z := .agg blkC.toArray) rfl rfl Ty.un_75 (by kernel_rfl) (by repeat (first | exact Pick.here | apply Pick.there))) hgk) ?_
  refine yps 7 rfl zmv ?_
  refine yps 8 rfl zex ?_
  refine yps 9 rfl zex ?_
  refine yos 10 rfl ?_
  refine zal fun b5 => ?_
  refine gl_eqc (cs' := blkC) (by repeat (first | exact Pick.here | apply Pick.there)) (by kernel_rfl) ?_
  refine yxs ?_
  refine yos 11 rfl ?_
  refine zsA hrp.len hrp.one ?_
  refine yxs ?_
  refine yzs rfl ?_
  refine gp zas ?_
  refine gnt ?_
  refine gc_seq ?_
  refine gc_block ?_
  refine gsr ?_
  refine gp zmv ?_
  refine gp znt ?_
  refine gp zas ?_
  refine gnt ?_
  refine gif rfl (fun hc19 => ?_) (fun hc19 => ?_)
  · try simp only at hc19
    have hnl : (lkN x.block t.nodes).isSome = false := by simpa using hc19
    refine gsr ?_
    refine gp (r_ld1o rfl Ty.row_41 (hE.c 9 Has.h) (hE.n 9 Has.h)) ?_
    refine gp zas ?_
    refine gnt ?_
    refine gc_ret ?_
    refine gx_block_ret ?_
    refine gx_then_ret ?_
    refine gx_ret1 rfl (by conv => lhs; whnf) ?_
    have hl : learnE t x = (9, t) := learn_none hnl
    exact fun w' hw => ⟨(), by rw [hl], by rw [hl]; exact (hw.conv (M := [blk q 78 (dc t.root ++ [.map (some g), .slice ao t.nodes.length co, .slice ac t.certs.length cc]), mapR g (encK digV (nodeV t.nodes css)), ElR RdBlock css (t.nodes.map (fun p => p.2)), rowR 26 16 ao t.nodes.length co ((keysT t).map dc).flatten, rowR 29 19 ac t.certs.length cc qss.flatten, ElR RdQC qss t.certs]) (N := [TreeR q t]) (by repeat (first | exact Sel.nil | (apply Sel.cons; · (repeat (first | exact Pick.here | apply Pick.there))))) (fun _ _ h => stars_tshut h19 h)).sel (.cons .here .nil)⟩
  · try simp only at hc19
    obtain ⟨p, hp⟩ := Option.isSome_iff_exists.1 (by simpa using hc19 : (lkN x.block t.nodes).isSome = true)
    have hbo : bOf t x.block = p := by rw [bOf, hp]; rfl
    rw [hbo] at hrp
    refine gsr ?_
    refine gp zL ?_
    refine gp zfa ?_
    refine gp zL ?_
    refine gp (zLa (cs := cp)) ?_
    refine zc (fun _ => ?_) (c := fun w1 F1 F2 h1 h2 hd hst => bfits_ok h1 (hq) hrp)
    refine gp znt ?_
    refine gp zas ?_
    refine gnt ?_
    refine gif rfl (fun hc23 => ?_) (fun hc23 => ?_)
    · try simp only at hc23
      have hf : ¬ fitsQ x x.block p = true := by simpa using hc23
      refine gsr ?_
      refine gp (r_ld1o rfl Ty.row_41 (hE.c 12 Has.h) (hE.n 12 Has.h)) ?_
      refine gp zas ?_
      refine gnt ?_
      refine gc_ret ?_
      refine gx_block_ret ?_
      refine gx_then_ret ?_
      refine gx_ret1 rfl (by conv => lhs; whnf) ?_
      have hl : learnE t x = (12, t) := learn_unfit hp hf
      exact fun w' hw => ⟨(), by rw [hl], by rw [hl]; exact (hw.conv (M := [blk q 78 (dc t.root ++ [.map (some g), .slice ao t.nodes.length co, .slice ac t.certs.length cc]), mapR g (encK digV (nodeV t.nodes css)), ElR RdBlock css (t.nodes.map (fun p => p.2)), rowR 26 16 ao t.nodes.length co ((keysT t).map dc).flatten, rowR 29 19 ac t.certs.length cc qss.flatten, ElR RdQC qss t.certs]) (N := [TreeR q t]) (by repeat (first | exact Sel.nil | (apply Sel.cons; · (repeat (first | exact Pick.here | apply Pick.there))))) (fun _ _ h => stars_tshut h19 h)).sel (.cons .here .nil)⟩
    · try simp only at hc23
      have hf : fitsQ x x.block p = true := by simpa using hc23
      refine gc_conv (M := [blk q 78 (dc t.root ++ [.map (some g), .slice ao t.nodes.length co, .slice ac t.certs.length cc]), mapR g (encK digV (nodeV t.nodes css)), ElR RdBlock css (t.nodes.map (fun p => p.2)), rowR 26 16 ao t.nodes.length co ((keysT t).map dc).flatten, rowR 29 19 ac t.certs.length cc qss.flatten, ElR RdQC qss t.certs]) (N := [TreeR q t]) (by repeat (first | exact Sel.nil | (apply Sel.cons; · (repeat (first | exact Pick.here | apply Pick.there))))) (fun _ _ h => stars_tshut h19 h) ?_
      refine gc_skip ?_
      refine gx_block_normal ?_
      refine gx_then ?_
      refine gc_seq ?_
      refine gsr ?_
      refine gp zmv ?_
      refine gp zfa ?_
      refine gp zL ?_
      refine zc (fun x35 => ?_) (c := fun w1 F1 F2 h1 h2 hd hst => tcert_ok (d := x.block) (tr_rd h2 hd (by repeat (first | exact Pick.here | apply Pick.there))) hok h1)
      refine gl_pureR (fun hx35 => ?_)
      obtain ⟨hl35, ho35⟩ := hx35
      replace hl35 : x35.length = 19 := hl35
      have i35 := Len.of hl35
      have j35 := One.of (show ∀ v ∈ x35, v.oneCell' = true from ho35)
      refine gp zmv ?_
      refine gp zex ?_
      refine gp zex ?_
      refine zal fun b7 => ?_
      refine gl_eqc (cs' := qcC) (by repeat (first | exact Pick.here | apply Pick.there)) (by kernel_rfl) ?_
      refine zsN ?_
      refine gp zas ?_
      refine gnt ?_
      refine gsr ?_
      refine gp zmv ?_
      refine gp znt ?_
      refine gnt ?_
      refine gif rfl (fun hc39 => ?_) (fun hc39 => ?_)
      · try simp only at hc39
        have hc : ¬ (certF x.block t.certs).isSome = true := by simpa using hc39
        refine gc_tree (by repeat (first | exact Pick.here | apply Pick.there)) (fun g ao co ac cc css qss h19 => ?_)
        refine gc_regionU 9 ([blk q 78 (dc t.root ++ [.map (some g), .slice ao t.nodes.length co, .slice ac t.certs.length cc]), blk b3 29 (.int .i64 x.epoch :: .int .i64 x.round :: (dc x.block ++ [.slice av nv kv]))]) ?_
        refine ypu 0 rfl zmv ?_
        refine ypu 1 rfl zmv ?_
        refine ypu 2 rfl znc ?_
        refine ypu 3 rfl zfa ?_
        refine ypu 4 rfl zl ?_
        refine ypu 5 rfl zL ?_
        refine you 6 rfl ?_
        refine zc (fun x46 => ?_) (c := fun w1 F1 F2 h1 h2 hd hst => copiedQC_ok h1 (hq.mv hst.still) hs)
        refine gl_pureR (fun hx46 => ?_)
        obtain ⟨hl46, ho46⟩ := hx46
        replace hl46 : x46.length = 19 := hl46
        have i46 := Len.of hl46
        have j46 := One.of (show ∀ v ∈ x46, v.oneCell' = true from ho46)
        refine yxu ?_
        refine you 7 rfl ?_
        refine zeN fun b47 => ?_
        refine yxu ?_
        refine you 8 rfl ?_
        refine zapo (fun a48 c48 => ?_)
        refine yxu ?_
        refine yzu ?_
        refine gp znc ?_
        refine gp zfa ?_
        refine zs1 ?_
        refine gnt ?_
        refine gsr ?_
        refine gp zas ?_
        refine gnt ?_
        refine gc_ret ?_
        refine gx_ret1 rfl (by conv => lhs; whnf) ?_
        have hl : learnE t x = (0, { t with certs := t.certs ++ [x] }) := learn_new hp hf hc
        exact fun w' hw => ⟨(), by rw [hl]; show Ending.returned _ = Ending.returned (eV _ _ 0); rw [eV_zero], by rw [hl]; exact (tree_cert (css := css) h19 hl46 hw (by repeat (first | exact Sel.nil | (apply Sel.cons; · (repeat (first | exact Pick.here | apply Pick.there)))))).sel (.cons .here .nil)⟩
      · try simp only at hc39
        have hc : (certF x.block t.certs).isSome = true := by simpa using hc39
        refine gc_skip ?_
        refine gx_then ?_
        refine gsr ?_
        refine gp zas ?_
        refine gnt ?_
        refine gc_ret ?_
        refine gx_ret1 rfl (by conv => lhs; whnf) ?_
        have hl : learnE t x = (0, t) := learn_has hp hf hc
        exact fun w' hw => ⟨(), by rw [hl]; show Ending.returned _ = Ending.returned (eV _ _ 0); rw [eV_zero], by rw [hl]; exact hw.sel (by repeat (first | exact Sel.nil | (apply Sel.cons; · (repeat (first | exact Pick.here | apply Pick.there)))))⟩

set_option maxHeartbeats 400000 in
theorem tadd_ok {w : World} {F : Nat → Prop} {q : Nat} {t : Tr} {ea : Nat → Addr} {es : List Nat} [Has es 1] [Has es 4] [Has es 8] [Has es 9] [Has es 12] [Has es 14] [Has es 16] [Has es 17] (hE : GErr es w (fun k => ¬ F k) 146 ea) (hK : KR w (fun k => ¬ F k)) (h : stars [TreeR q t] w F) (hok : TOk t) {cs : List Value} {b : Block} (hb : RdBlock w (fun k => ¬ F k) cs b) (hs : (wBlock b ⟨0, []⟩).err = 0 → smBlk b) :
    Calls Tryd.prog 12 #[.pointer (some ⟨q, 0, none⟩), .agg cs.toArray] w (Post w F (fun _ : Unit => .tuple #[.agg (dc (addE t b (wBlock b ⟨0, []⟩).err (idOf b)).2.1).toArray, eV 146 ea (addE t b (wBlock b ⟨0, []⟩).err (idOf b)).1]) (fun _ => [TreeR q (addE t b (wBlock b ⟨0, []⟩).err (idOf b)).2.2])) := by
  have hb' := hb
  obtain ⟨qj, a1, n1, c1, a2, n2, c2, rfl, hj, hj2, hj3, hj4, hj5⟩ := hb'
  have ij := Len.of hj.len
  have jj := One.of hj.one
  have hle := hok.le
  have hcl := hok.cl
  refine g_enter (env := [(0, .pointer (some ⟨q, 0, none⟩)), (1, _)]) Tryd.func12 rfl h Tryd.ntmps12 rfl rfl ?_
  refine gsr ?_
  refine zbN fun b3 => ?_
  refine zal fun b4 => ?_
  refine gp zas ?_
  refine gnt ?_
  refine gsr ?_
  refine gp zmv ?_
  refine gp zL ?_
  refine zc (fun _ => ?_) (c := fun w1 F1 F2 h1 h2 hd hst => task_ok (tr_rd h2 hd (by repeat (first | exact Pick.here | apply Pick.there))) hok (hE.mv hst.still) (hK.mv hst.still) h1 (hb.mv hst.still))
  refine gp zmv ?_
  refine gp zex ?_
  refine gp zex ?_
  refine zal fun b6 => ?_
  refine zsN ?_
  refine gp zas ?_
  refine gnt ?_
  refine gc_seq ?_
  refine gsr ?_
  refine gp zmv ?_
  refine gp (r_bool (c := decide (¬ (askE t b (wBlock b ⟨0, []⟩).err (idOf b)) = 0)) (r_nenil rfl (by kernel_rfl)) (by simp)) ?_
  refine gnt ?_
  refine gif rfl (fun hc15 => ?_) (fun hc15 => ?_)
  · try simp only at hc15
    have ha : ¬ (askE t b (wBlock b ⟨0, []⟩).err (idOf b)) = 0 := by simpa using hc15
    refine gsr ?_
    refine gp (zba (cs := dc dig0) (hf := by kernel_rfl)) ?_
    refine gp zmv ?_
    refine zsN ?_
    refine gp zas ?_
    refine gnt ?_
    refine gc_ret ?_
    refine gx_then_ret ?_
    refine gx_retct rfl rfl (by conv => lhs; whnf) (ld_aggS Ty.row_26 Ty.sz_26 (by repeat (first | exact Pick.here | apply Pick.there)) (by (simp only [List.drop_succ_cons, List.drop_zero, List.take_succ_cons, List.take_zero, List.cons_append, List.nil_append, List.append_assoc, drop_dc, drop_dc', take_dc, take_dc', drop_L, drop_L', take_L, take_L', len_L, Nat.reduceLeDiff, Nat.reduceSub, Nat.reduceAdd, Nat.le_refl, List.length_cons, List.length_append, List.length_nil, dc_length, List.drop_nil, List.take_nil, List.append_nil, List.length_map, List.length_replicate]; first | done | rfl)) (by first | rfl | (simp only [List.drop_succ_cons, List.drop_zero, List.take_succ_cons, List.take_zero, List.cons_append, List.nil_append, List.append_assoc, drop_dc, drop_dc', take_dc, take_dc', drop_L, drop_L', take_L, take_L', len_L, Nat.reduceLeDiff, Nat.reduceSub, Nat.reduceAdd, Nat.le_refl, List.length_cons, List.length_append, List.length_nil, dc_length, List.drop_nil, List.take_nil, List.append_nil, List.length_map, List.length_replicate]; first | done | omega))) ?_
    have hl : (addE t b (wBlock b ⟨0, []⟩).err (idOf b)) = ((askE t b (wBlock b ⟨0, []⟩).err (idOf b)), dig0, t) := by unfold addE; rw [if_neg ha]
    exact fun w' hw => ⟨(), by rw [hl], by rw [hl]; exact hw.sel (by repeat (first | exact Sel.nil | (apply Sel.cons; · (repeat (first | exact Pick.here | apply Pick.there)))))⟩
  · try simp only at hc15
    have ha : (askE t b (wBlock b ⟨0, []⟩).err (idOf b)) = 0 := by simpa using hc15
    obtain ⟨he0, hn, p, hp, _, _, _, hlt⟩ := askE_zero ha
    have hs := hs he0
    refine gc_tree (by repeat (first | exact Pick.here | apply Pick.there)) (fun g ao co ac cc css qss h19 => ?_)
    refine gc_fact (fun w' hw => (St.elB hw (by repeat (first | exact Pick.here | apply Pick.there))).1) (fun hel => ?_)
    replace hel : css.length = t.nodes.length := by simpa using hel
    refine gc_skip ?_
    refine gx_then ?_
    refine gc_seq ?_
    refine gc_regionZ 7 ([blk q 78 (dc t.root ++ [.map (some g), .slice ao t.nodes.length co, .slice ac t.certs.length cc]), blk b6 26 (dc (idOf b)), blk b3 33 (.int .i64 b.epoch :: .int .i64 b.round :: (dc b.parent ++ (qj ++ [.slice a1 n1 c1, .slice a2 n2 c2])))]) ?_
    refine yps 0 rfl zmv ?_
    refine yps 1 rfl znc ?_
    refine yps 2 rfl zfa ?_
    refine yps 3 rfl zl ?_
    refine yps 4 rfl zL ?_
    refine yps 5 rfl zL ?_
    refine yos 6 rfl ?_
    refine zc (fun x24 => ?_) (c := fun w1 F1 F2 h1 h2 hd hst => copied_ok h1 (hb.mv hst.still) hs)
    refine gl_pureR (fun hx24 => ?_)
    obtain ⟨hl24, ho24⟩ := hx24
    replace hl24 : x24.length = 39 := hl24
    have i24 := Len.of hl24
    have j24 := One.of (show ∀ v ∈ x24, v.oneCell' = true from ho24)
    refine yxs ?_
    refine yzs rfl ?_
    refine gl_put (K := digV) (l := nodeV t.nodes css) (key := idOf b) (v := .agg x24.toArray) (wt0 rfl) rfl rfl rfl Ty.un_75 (by repeat (first | exact Pick.here | apply Pick.there)) ?_
    refine gnt ?_
    refine gc_seq ?_
    refine gc_regionU 8 ([blk q 78 (dc t.root ++ [.map (some g), .slice ao t.nodes.length co, .slice ac t.certs.length cc]), blk b6 26 (dc (idOf b))]) ?_
    refine ypu 0 rfl zmv ?_
    refine ypu 1 rfl zmv ?_
    refine ypu 2 rfl znc ?_
    refine ypu 3 rfl zfa ?_
    refine ypu 4 rfl zl ?_
    refine ypu 5 rfl zL ?_
    refine you 6 rfl ?_
    refine zeN fun b31 => ?_
    refine yxu ?_
    refine you 7 rfl ?_
    refine zapo (fun a32 c32 => ?_)
    refine yxu ?_
    refine yzu ?_
    refine gp znc ?_
    refine gp zfa ?_
    refine zs1 ?_
    refine gnt ?_
    refine gc_seq ?_
    refine gc_st (fun w' hw => tree_put (css := css) h19 hel hn hw (by repeat (first | exact Sel.nil | (apply Sel.cons; · (repeat (first | exact Pick.here | apply Pick.there)))))) ?_
    refine gc_regionZ 6 ([blk b6 26 (dc (idOf b)), blk b3 33 (.int .i64 b.epoch :: .int .i64 b.round :: (dc b.parent ++ (qj ++ [.slice a1 n1 c1, .slice a2 n2 c2])))]) ?_
    refine yps 0 rfl zL ?_
    refine yps 1 rfl zmv ?_
    refine yps 2 rfl zfa ?_
    refine yps 3 rfl (zL (sg := qj)) ?_
    refine yos 4 rfl ?_
    refine zc (fun _ => ?_) (c := fun w1 F1 F2 h1 h2 hd hst => tlearn_ok (hE.mv hst.still) h1 (putT_ok (p := idOf b) hok hn hp hlt hs) (hj.mv hst.still) hs.1)
    refine yxs ?_
    refine yos 5 rfl ?_
    refine zsN ?_
    refine yxs ?_
    refine yzs rfl ?_
    refine gp zas ?_
    refine gnt ?_
    refine gc_ret ?_
    refine gx_retct rfl rfl (by conv => lhs; whnf) (ld_aggS Ty.row_26 Ty.sz_26 (by repeat (first | exact Pick.here | apply Pick.there)) (by (simp only [List.drop_succ_cons, List.drop_zero, List.take_succ_cons, List.take_zero, List.cons_append, List.nil_append, List.append_assoc, drop_dc, drop_dc', take_dc, take_dc', drop_L, drop_L', take_L, take_L', len_L, Nat.reduceLeDiff, Nat.reduceSub, Nat.reduceAdd, Nat.le_refl, List.length_cons, List.length_append, List.length_nil, dc_length, List.drop_nil, List.take_nil, List.append_nil, List.length_map, List.length_replicate]; first | done | rfl)) (by first | rfl | (simp only [List.drop_succ_cons, List.drop_zero, List.take_succ_cons, List.take_zero, List.cons_append, List.nil_append, List.append_assoc, drop_dc, drop_dc', take_dc, take_dc', drop_L, drop_L', take_L, take_L', len_L, Nat.reduceLeDiff, Nat.reduceSub, Nat.reduceAdd, Nat.le_refl, List.length_cons, List.length_append, List.length_nil, dc_length, List.drop_nil, List.take_nil, List.append_nil, List.length_map, List.length_replicate]; first | done | omega))) ?_
    have hl : (addE t b (wBlock b ⟨0, []⟩).err (idOf b)) = ((learnE (putT t b (idOf b)) b.justify).1, idOf b, (learnE (putT t b (idOf b)) b.justify).2) := by unfold addE; rw [if_pos ha]
    exact fun w' hw => ⟨(), by rw [hl], by rw [hl]; exact hw.sel (by repeat (first | exact Sel.nil | (apply Sel.cons; · (repeat (first | exact Pick.here | apply Pick.there)))))⟩

end Go.Proofs.YtobjojeliibinaaDoor

/- Walks, by program (wg.py) out of a spec. -/
namespace Go.Proofs.YtobjojeliibinaaDoor
open Go
set_option linter.unusedVariables false
set_option linter.unusedSimpArgs false

attribute [local irreducible] Gl Gc Gx Gs Runs Wt

attribute [local irreducible] dc qcC blkC idOf TreeR ripeL upL lastK

set_option maxHeartbeats 400000 in
theorem tripe_ok {w : World} {F : Nat → Prop} {q : Nat} {t : Tr} (hx : RdTree w (fun k => ¬ F k) q t) (hok : TOk t) (h : stars [] w F) {qs : List Value} {x : QC} (hq : RdQC w (fun k => ¬ F k) qs x) (hqr : -9223372036854775800 ≤ x.round ∧ x.round ≤ 9223372036854775807) :
    Calls Tryd.prog 20 #[.pointer (some ⟨q, 0, none⟩), .agg qs.toArray] w (Post w F (fun r : Option Addr × Nat => .slice r.1 (ripeL t x).length r.2) (fun r => [rowR 26 16 r.1 (ripeL t x).length r.2 ((ripeL t x).map dc).flatten])) := by
  obtain ⟨g, ao, co, ac, cc, css, hT⟩ := hx
  obtain ⟨hqA, hrt, h16, h17, h18⟩ := hT.cells
  have hle := hok.le
  have hcl := hok.cl
  have hce := hok.ce
  obtain ⟨hqr1, hqr2⟩ := hqr
  have hq' := hq
  obtain ⟨av, nv, kv, rfl, _, _⟩ := hq'
  obtain ⟨cp, hgk, hrp⟩ := hT.lookB x.block
  have icp := Len.of hrp.len
  have jcp := One.of hrp.one
  refine g_enterM (env := [(0, .pointer (some ⟨q, 0, none⟩)), (1, _)]) Tryd.func20 rfl h Tryd.ntmps20 rfl rfl ?_
  refine gsr ?_
  refine zbN fun b3 => ?_
  refine zal fun b4 => ?_
  refine gnt ?_
  refine gc_seq ?_
  refine gc_seq ?_
  refine gc_regionZ 12 ([blk b3 29 (.int .i64 x.epoch :: .int .i64 x.round :: (dc x.block ++ [.slice av nv kv]))]) ?_
  refine yps 0 rfl zmv ?_
  refine yps 1 rfl znc ?_
  refine yps 2 rfl zfa ?_
  refine yps 3 rfl (r_ld1o rfl Ty.row_75 h16 hqA) ?_
  refine yps 4 rfl zfa ?_
  refine yps 5 rfl zL ?_
  refine yps 6 rfl (r_val (v' := .tuple #[.agg cp.toArray, .bool (lkN x.block t.nodes).isSome]) (r_looko (K := digV) (l := nodeV t.nodes css) (key := x.block) (z := .agg blkC.toArray) rfl rfl Ty.un_75 (by kernel_rfl) hT.mp) hgk) ?_
  refine yps 7 rfl zmv ?_
  refine yps 8 rfl zex ?_
  refine yps 9 rfl zex ?_
  refine yos 10 rfl ?_
  refine zal fun b5 => ?_
  refine gl_eqc (cs' := blkC) (by repeat (first | exact Pick.here | apply Pick.there)) (by kernel_rfl) ?_
  refine yxs ?_
  refine yos 11 rfl ?_
  refine zsA hrp.len hrp.one ?_
  refine yxs ?_
  refine yzs rfl ?_
  refine gp zas ?_
  refine gnt ?_
  refine gc_seq ?_
  by_cases hS : (lkN x.block t.nodes).isSome = true
  · obtain ⟨p, hp⟩ := Option.isSome_iff_exists.1 hS
    have hbo : bOf t x.block = p := by rw [bOf, hp]; rfl
    rw [hbo] at hrp
    refine gc_region ?_
    refine gp zmv ?_
    refine gp (r_bool (c := false) znt (by rw [hS]; rfl)) ?_
    refine gp zmv ?_
    refine gq zL ?_
    refine gq zfa ?_
    refine gq zL ?_
    refine gq (zLa (cs := cp)) ?_
    refine zc (fun _ => ?_) (c := fun w1 F1 F2 h1 h2 hd hst => bfits_ok h1 hq hrp)
    refine gq znt ?_
    refine gp zpk ?_
    refine gnt ?_
    refine gif rfl (fun hc32 => ?_) (fun hc32 => ?_)
    · try simp only at hc32
      have hf : ¬ fitsQ x x.block p = true := by simpa using hc32
      refine gsr ?_
      refine zs1 ?_
      refine gnt ?_
      refine gc_ret ?_
      refine gx_then_ret ?_
      refine gx_mark0 ?_
      refine gx_retc rfl rfl (ld_oneS Ty.row_37 (by repeat (first | exact Pick.here | apply Pick.there)) (by first | rfl | (simp only [List.getElem?_cons_succ, List.getElem?_cons_zero, List.cons_append, List.append_assoc, get_dc, get_L, Nat.reduceLeDiff, Nat.reduceSub, Nat.reduceAdd, Nat.le_refl]; rfl))) ?_
      have hr : ripeL t x = [] := ripe_unfit hp hf
      exact fun w' hw => ⟨(none, 0), by rw [hr]; exact rfl, by rw [hr]; exact hw.rowNil.sel (by repeat (first | exact Sel.nil | (apply Sel.cons; · (repeat (first | exact Pick.here | apply Pick.there)))))⟩
    · try simp only at hc32
      have hf : fitsQ x x.block p = true := by simpa using hc32
      refine gc_skip ?_
      refine gx_then ?_
      refine gsr ?_
      refine zal fun b7 => ?_
      refine gl_eqc (cs' := dc dig0) (by repeat (first | exact Pick.here | apply Pick.there)) (by kernel_rfl) ?_
      refine gnt ?_
      refine gsr ?_
      refine zal fun b8 => ?_
      refine zs1 ?_
      refine gnt ?_
      refine gc_seq ?_
      refine gsr ?_
      refine gp zmv ?_
      refine gp zfa ?_
      refine gp zL ?_
      refine zc ?_ (c := fun w1 F1 F2 h1 h2 hd hst => tup_ok (d := x.block) h1)
      rintro ⟨bx, by_⟩
      refine gnt ?_
      refine gc_block ?_
      have hT' : ∀ {w1 : World} {A1 : Nat → Prop}, Still w (fun k => ¬ F k) w1 A1 → RdTree w1 A1 q t := fun hs => ⟨g, ao, co, ac, cc, css, hT.mv hs⟩
      refine gc_conv (M := [blk b7 26 (dc dig0)]) (N := [blk b7 26 (dc (lastK t x.block 0))]) (by repeat (first | exact Sel.nil | (apply Sel.cons; · (repeat (first | exact Pick.here | apply Pick.there))))) (fun _ _ h => by rw [lastK_zero]; exact h) ?_
      refine gc_pI (p := 0 < 3 ∧ okR t x 0) ⟨by decide, fun j _ hj => absurd hj (Nat.not_lt_zero j)⟩ ?_
      refine gc_range (own := [blk bx 24 [.pointer (some ⟨q, 0, none⟩)], blk by_ 26 (dc x.block)]) (fun i => [pureR (i < 3 ∧ okR t x i), blk b7 26 (dc (lastK t x.block i)), blk b8 3 [.int .i64 (i : Int)], blk b3 29 (.int .i64 x.epoch :: .int .i64 x.round :: (dc x.block ++ [.slice av nv kv])), blk b4 37 [.slice none 0 0]]) (fun i cd => pureR ((cd = Code.ret ∧ ripeL t x = []) ∨ (cd = Code.exit 0 ∧ i = 2 ∧ okR t x 3 ∧ (upL t x.block).length ≥ 3)) :: blk b4 37 [.slice none 0 0] :: (match cd with | .exit _ => [blk b7 26 (dc (lastK t x.block 3)), blk b8 3 [.int .i64 3], blk b3 29 (.int .i64 x.epoch :: .int .i64 x.round :: (dc x.block ++ [.slice av nv kv]))] | _ => [])) (by exact rfl) Ty.call_51 (by repeat (first | exact Sel.nil | (apply Sel.cons; · (repeat (first | exact Pick.here | apply Pick.there))))) (by intros; rfl) (fun lp J Jx w1 F1 F2 h1 h2 hd hst => up1_it (hT' (hst.still)) hok h1) ?_ ?_ ?_
      · intro lp rc rc' i y w1 F1 F2 h1 h2 hd hst
        try dsimp only [List.cons_append, List.nil_append, zipE]
        obtain ⟨e, cq⟩ := y
        refine gc_pure1 (p := upP t x.block i (e, cq)) (by repeat (first | exact Pick.here | apply Pick.there)) (fun hi => ?_)
        obtain ⟨⟨hl39, ho39⟩, pb, hget, hrr⟩ := hi
        replace hl39 : cq.length = 39 := hl39
        have i39 := Len.of hl39
        have j39 := One.of (show ∀ v ∈ cq, v.oneCell' = true from ho39)
        refine gc_pure1 (p := i < 3 ∧ okR t x i) (by repeat (first | exact Pick.here | apply Pick.there)) (fun hI => ?_)
        obtain ⟨hi3, hok3⟩ := hI
        refine gsr ?_
        refine zal fun b9 => ?_
        refine gl_eqc (cs' := dc dig0) (by repeat (first | exact Pick.here | apply Pick.there)) (by kernel_rfl) ?_
        refine zsN ?_
        refine gnt ?_
        refine gc_region ?_
        refine zal fun b10 => ?_
        refine gl_eqc (cs' := blkC) (by repeat (first | exact Pick.here | apply Pick.there)) (by kernel_rfl) ?_
        refine zsN ?_
        refine gl_nil ?_
        refine gx_lp (by repeat (first | exact Pick.here | apply Pick.there)) ?_
        refine gx_begin ?_
        refine gc_block ?_
        refine gc_seq ?_
        refine gsr ?_
        refine gp zfa ?_
        refine gp (zl (v := .int .i64 pb.round) (hv := hrr)) ?_
        refine gp zfa ?_
        refine gp zl ?_
        refine gp zl ?_
        refine gp (r_int (j := x.round - i) zsb (wrap_i64 (by omega) (by omega))) ?_
        refine gp zni ?_
        refine gnt ?_
        refine gif rfl (fun hc45 => ?_) (fun hc45 => ?_)
        · refine gsr ?_
          refine zs1 ?_
          refine gnt ?_
          refine gc_ret ?_
          refine gx_then_ret ?_
          refine gx_block_ret ?_
          refine gx_rdr ?_
          have hr : ripeL t x = [] := ripe_bad hp hi3 hget (by simpa using hc45)
          exact fun w' hw => (St.pureI (p := (Code.ret = Code.ret ∧ ripeL t x = []) ∨ _) (.inl ⟨rfl, hr⟩) hw).sel (by repeat (first | exact Sel.nil | (apply Sel.cons; · (repeat (first | exact Pick.here | apply Pick.there)))))
        · try simp only at hc45
          have hok4 := okR_succ hok3 hget (by simpa using hc45)
          refine gc_skip ?_
          refine gx_then ?_
          refine gsr ?_
          refine gp zL ?_
          refine zsN ?_
          refine gnt ?_
          refine gsr ?_
          refine gp zl ?_
          refine gp (r_int (j := ((i + 1 : Nat) : Int)) zad (by omega)) ?_
          refine zs1 ?_
          refine gnt ?_
          refine gsr ?_
          refine gp zl ?_
          refine gp (r_bool (c := decide (i = 2)) zei (by rw [Bool.eq_iff_iff]; simp only [decide_eq_true_eq]; omega)) ?_
          refine gnt ?_
          refine gif rfl (fun hc50 => ?_) (fun hc50 => ?_)
          · try simp only at hc50
            have hi2 : i = 2 := by simpa using hc50
            refine gc_exit ?_
            refine gx_block_miss rfl ?_
            refine gx_rde ?_
            obtain rfl : i = 2 := by omega
            have hlk : lastK t x.block 3 = e := lastK_at hget
            exact fun w' hw => (St.pureI (p := _ ∨ (Code.exit 0 = Code.exit 0 ∧ 2 = 2 ∧ okR t x 3 ∧ (upL t x.block).length ≥ 3)) (.inr ⟨rfl, rfl, hok4, (List.getElem?_eq_some_iff.1 hget).1⟩) (hw.sel (M := [blk b4 37 [.slice none 0 0], blk b7 26 (dc (lastK t x.block 3)), blk b8 3 [.int .i64 3], blk b3 29 (.int .i64 x.epoch :: .int .i64 x.round :: (dc x.block ++ [.slice av nv kv])), lpR lp rc']) (by rw [hlk]; exact (by repeat (first | exact Sel.nil | (apply Sel.cons; · (repeat (first | exact Pick.here | apply Pick.there)))))))).sel (by repeat (first | exact Sel.nil | (apply Sel.cons; · (repeat (first | exact Pick.here | apply Pick.there)))))
          · try simp only at hc50
            have hi2 : ¬ i = 2 := by simpa using hc50
            refine gc_skip ?_
            refine gx_block_normal ?_
            refine gx_rdn ?_
            have hlk : lastK t x.block (i + 1) = e := lastK_at hget
            exact fun w' hw => (St.pureI (p := i + 1 < 3 ∧ okR t x (i + 1)) ⟨by omega, hok4⟩ (hw.sel (M := [lpR lp rc', blk b7 26 (dc (lastK t x.block (i + 1))), blk b8 3 [.int .i64 ((i + 1 : Nat) : Int)], blk b3 29 (.int .i64 x.epoch :: .int .i64 x.round :: (dc x.block ++ [.slice av nv kv])), blk b4 37 [.slice none 0 0]]) (by rw [hlk]; exact (by repeat (first | exact Sel.nil | (apply Sel.cons; · (repeat (first | exact Pick.here | apply Pick.there)))))))).sel (by repeat (first | exact Sel.nil | (apply Sel.cons; · (repeat (first | exact Pick.here | apply Pick.there)))))
      · intro bU7 y m hy
        try dsimp only [List.cons_append, List.nil_append]
        obtain ⟨yb, yd⟩ := y
        obtain rfl : m = (upL t x.block).length := by cases yb <;> simp_all [allOr]
        refine gx_pure1 (p := (upL t x.block).length < 3 ∧ okR t x (upL t x.block).length) (by repeat (first | exact Pick.here | apply Pick.there)) (fun hI => ?_)
        have hr := ripe_short hp hI.1
        have hI1 := hI.1
        refine gx_block_normal ?_
        refine gx_thenM ?_
        refine gc_seq ?_
        refine gc_seq ?_
        refine gc_regionS (by kernel_rfl) (by kernel_rfl) ?_
        refine sp zl ?_
        refine sp (r_bool (c := true) zlt (decide_eq_true (by omega))) ?_
        refine sp zmv ?_
        refine sn ?_
        refine sn ?_
        refine sn ?_
        refine sn ?_
        refine sn ?_
        refine sn ?_
        refine sp zpk ?_
        refine gs_nil ?_
        refine gx_then ?_
        refine gc_condT rfl rfl ?_
        refine gsr ?_
        refine zs1 ?_
        refine gnt ?_
        refine gc_ret ?_
        refine gx_then_ret ?_
        refine gx_mark (by repeat (first | exact Pick.here | apply Pick.there)) ?_
        refine gx_mark0 ?_
        refine gx_retc rfl rfl (ld_oneS Ty.row_37 (by repeat (first | exact Pick.here | apply Pick.there)) (by first | rfl | (simp only [List.getElem?_cons_succ, List.getElem?_cons_zero, List.cons_append, List.append_assoc, get_dc, get_L, Nat.reduceLeDiff, Nat.reduceSub, Nat.reduceAdd, Nat.le_refl]; rfl))) ?_
        exact fun w' hw => ⟨(none, 0), by rw [hr]; exact rfl, by rw [hr]; exact hw.rowNil.sel (by repeat (first | exact Sel.nil | (apply Sel.cons; · (repeat (first | exact Pick.here | apply Pick.there)))))⟩
      · intro bU7 y i cd hy
        try dsimp only [List.cons_append, List.nil_append]
        refine gc_pure1 (p := (cd = Code.ret ∧ ripeL t x = []) ∨ (cd = Code.exit 0 ∧ i = 2 ∧ okR t x 3 ∧ (upL t x.block).length ≥ 3)) (by repeat (first | exact Pick.here | apply Pick.there)) (fun hX => ?_)
        rcases hX with ⟨rfl, hX⟩ | ⟨rfl, rfl, hX3, hX4⟩
        · refine gc_ret ?_
          refine gx_block_ret ?_
          refine gx_then_ret ?_
          refine gx_mark (by repeat (first | exact Pick.here | apply Pick.there)) ?_
          refine gx_mark0 ?_
          refine gx_retc rfl rfl (ld_oneS Ty.row_37 (by repeat (first | exact Pick.here | apply Pick.there)) (by first | rfl | (simp only [List.getElem?_cons_succ, List.getElem?_cons_zero, List.cons_append, List.append_assoc, get_dc, get_L, Nat.reduceLeDiff, Nat.reduceSub, Nat.reduceAdd, Nat.le_refl]; rfl))) ?_
          exact fun w' hw => ⟨(none, 0), by rw [hX]; exact rfl, by rw [hX]; exact hw.rowNil.sel (by repeat (first | exact Sel.nil | (apply Sel.cons; · (repeat (first | exact Pick.here | apply Pick.there)))))⟩
        · refine gc_exit ?_
          refine gx_block_hit ?_
          refine gx_thenM ?_
          refine gc_seq ?_
          refine gc_seq ?_
          refine gc_regionS (by kernel_rfl) (by kernel_rfl) ?_
          refine sp zl ?_
          refine sp (r_bool (c := false) zlt rfl) ?_
          refine sp zmv ?_
          refine sq zL ?_
          refine sq zmv ?_
          refine sq znc ?_
          refine sq zfa ?_
          refine sq (r_ldNo rfl Ty.row_26 Ty.sz_26 hrt (dc_length _) (by decide) hqA) ?_
          refine sq zed ?_
          refine sp zpk ?_
          refine gs_nil ?_
          refine gx_then ?_
          refine gif rfl (fun hc60 => ?_) (fun hc60 => ?_)
          · try simp only at hc60
            have hz : lastK t x.block 3 = t.root := by simpa using hc60
            refine gsr ?_
            refine zs1 ?_
            refine gnt ?_
            refine gc_ret ?_
            refine gx_then_ret ?_
            refine gx_mark (by repeat (first | exact Pick.here | apply Pick.there)) ?_
            refine gx_mark0 ?_
            refine gx_retc rfl rfl (ld_oneS Ty.row_37 (by repeat (first | exact Pick.here | apply Pick.there)) (by first | rfl | (simp only [List.getElem?_cons_succ, List.getElem?_cons_zero, List.cons_append, List.append_assoc, get_dc, get_L, Nat.reduceLeDiff, Nat.reduceSub, Nat.reduceAdd, Nat.le_refl]; rfl))) ?_
            have hu2 : (upL t x.block)[2]? = some ((upL t x.block)[2]'(by omega)) := List.getElem?_eq_getElem (by omega)
            have hr : ripeL t x = [] := by rw [ripe_three hp hf hX3 hu2]; rw [if_pos]; rw [← hz]; exact (lastK_at hu2).symm
            exact fun w' hw => ⟨(none, 0), by rw [hr]; exact rfl, by rw [hr]; exact hw.rowNil.sel (by repeat (first | exact Sel.nil | (apply Sel.cons; · (repeat (first | exact Pick.here | apply Pick.there)))))⟩
          · try simp only at hc60
            have hz : ¬ lastK t x.block 3 = t.root := by simpa using hc60
            refine gc_skip ?_
            refine gx_then ?_
            refine gsr ?_
            refine gp zmv ?_
            refine gp zL ?_
            refine zc ?_ (c := fun w1 F1 F2 h1 h2 hd hst => tpath_ok (d := lastK t x.block 3) (hT' hst.still) hok h1)
            rintro ⟨a64, c64⟩
            refine gp zmv ?_
            refine gp zex ?_
            refine gp zex ?_
            refine gp zas ?_
            refine gp zas ?_
            refine gnt ?_
            refine gsr ?_
            refine gp zmv ?_
            refine zs1 ?_
            refine gnt ?_
            refine gc_ret ?_
            refine gx_mark (by repeat (first | exact Pick.here | apply Pick.there)) ?_
            refine gx_mark0 ?_
            refine gx_retc rfl rfl (ld_oneS Ty.row_37 (by repeat (first | exact Pick.here | apply Pick.there)) (by first | rfl | (simp only [List.getElem?_cons_succ, List.getElem?_cons_zero, List.cons_append, List.append_assoc, get_dc, get_L, Nat.reduceLeDiff, Nat.reduceSub, Nat.reduceAdd, Nat.le_refl]; rfl))) ?_
            have hu2 : (upL t x.block)[2]? = some ((upL t x.block)[2]'(by omega)) := List.getElem?_eq_getElem (by omega)
            have hlk : lastK t x.block 3 = ((upL t x.block)[2]'(by omega)).1 := lastK_at hu2
            have hr : ripeL t x = pathL t (lastK t x.block 3) := by rw [ripe_three hp hf hX3 hu2, ← hlk, if_neg hz]
            exact fun w' hw => ⟨(a64, c64), by rw [hr], by rw [hr]; exact hw.sel (by repeat (first | exact Sel.nil | (apply Sel.cons; · (repeat (first | exact Pick.here | apply Pick.there)))))⟩
  · refine gc_region ?_
    refine gp zmv ?_
    refine gp (r_bool (c := true) znt (by simp [hS])) ?_
    refine gp zmv ?_
    refine gn ?_
    refine gn ?_
    refine gn ?_
    refine gn ?_
    refine gn ?_
    refine gn ?_
    refine gp zpk ?_
    refine gnt ?_
    refine gc_condT rfl rfl ?_
    refine gsr ?_
    refine zs1 ?_
    refine gnt ?_
    refine gc_ret ?_
    refine gx_then_ret ?_
    refine gx_mark0 ?_
    refine gx_retc rfl rfl (ld_oneS Ty.row_37 (by repeat (first | exact Pick.here | apply Pick.there)) (by first | rfl | (simp only [List.getElem?_cons_succ, List.getElem?_cons_zero, List.cons_append, List.append_assoc, get_dc, get_L, Nat.reduceLeDiff, Nat.reduceSub, Nat.reduceAdd, Nat.le_refl]; rfl))) ?_
    have hr : ripeL t x = [] := ripe_none (by simpa using hS)
    exact fun w' hw => ⟨(none, 0), by rw [hr]; exact rfl, by rw [hr]; exact hw.rowNil.sel (by repeat (first | exact Sel.nil | (apply Sel.cons; · (repeat (first | exact Pick.here | apply Pick.there)))))⟩

end Go.Proofs.YtobjojeliibinaaDoor

/- Plain words: SHA-256 piece by piece is SHA-256 of the whole. No program in sight. -/
namespace Go.Proofs.YtobjojeliibinaaDoor
set_option linter.unusedVariables false

def refPad (b : List UInt8) : List UInt8 := b ++ 128 :: (List.replicate (padN b.length) 0 ++ lenBytes b.length)
def refSum (K : Nat → UInt32) (b : List UInt8) : List UInt8 := (List.range 32).map (outByte (takes K v0 (refPad b)).1)
def framed (dom : Int) (parts : List (List UInt8)) : List UInt8 := UInt8.ofNat (dom % 256).toNat :: parts.flatMap fun p => part4 p.length ++ p

theorem takes_append (K : Nat → UInt32) (v : V8) (a b : List UInt8) : takes K v (a ++ b) = takes K (takes K v a).1 ((takes K v a).2 ++ b) := by
  fun_induction takes K v a with
  | case1 v a h ih =>
    rw [takes.eq_1 K v (a ++ b), dif_pos (by simp; omega), List.take_append_of_le_length h, List.drop_append_of_le_length h]
    exact ih
  | case2 v a h => rfl
theorem takes_mod (K : Nat → UInt32) (v : V8) (a : List UInt8) : (takes K v a).2.length % 64 = a.length % 64 := by
  fun_induction takes K v a with
  | case1 v a h ih => rw [ih, List.length_drop]; omega
  | case2 v a h => rfl
/-- What a hash is that was handed all these bytes. -/
def HAll (K : Nat → UInt32) (s : HS) (b : List UInt8) : Prop := takes K v0 b = (s.v, s.rest) ∧ s.len = b.length
theorem HAll.nil (K : Nat → UInt32) : HAll K hs0 [] := ⟨by rw [takes.eq_1, dif_neg (by simp)]; rfl, rfl⟩
theorem HAll.write {K : Nat → UInt32} {s : HS} {a : List UInt8} (h : HAll K s a) (b : List UInt8) : HAll K (hWrite K s b) (a ++ b) := by
  refine ⟨?_, ?_⟩
  · rw [takes_append, h.1]; rfl
  · simp [hWrite, h.2]
theorem HAll.sum {K : Nat → UInt32} {s : HS} {a : List UInt8} (h : HAll K s a) : hSum K s = refSum K a := by
  have hm : padN s.rest.length = padN a.length := by
    have e : s.rest.length % 64 = a.length % 64 := by
      have := takes_mod K v0 a
      rw [h.1] at this
      exact this
    unfold padN; rw [e]
  have e : takes K s.v (padded s) = takes K v0 (refPad a) := by
    rw [refPad, takes_append, h.1, padded, hm, h.2]
  rw [hSum, refSum, e]
theorem hOf_ref (K : Nat → UInt32) (dom : Int) (parts : List (List UInt8)) : hOf K dom parts = (refSum K (framed dom parts)).take 16 := by
  have h : ∀ (l : List (List UInt8)) (s : HS) (a : List UInt8), HAll K s a → HAll K (l.foldl (fun s p => hWrite K (hWrite K s (part4 p.length)) p) s) (a ++ l.flatMap fun p => part4 p.length ++ p) := by
    intro l
    induction l with
    | nil => intro s a h; simpa using h
    | cons p l ih =>
      intro s a h
      have := ih _ _ ((h.write (part4 p.length)).write p)
      simpa using this
  have := (h parts _ _ ((HAll.nil K).write [UInt8.ofNat (dom % 256).toNat])).sum
  rw [hOf, this]
  simp [framed]
end Go.Proofs.YtobjojeliibinaaDoor

/- Plain words: SHA-256 of many messages side by side, in the lanes of great numbers (and of one message, quickly). No program in sight. -/
namespace Go.Proofs.YtobjojeliibinaaDoor
set_option linter.unusedVariables false
set_option linter.unusedSimpArgs false

/-- Lanes of 64 bits. -/
def pk (f : Nat → Nat) : Nat → Nat
  | 0 => 0
  | L + 1 => f 0 + 2 ^ 64 * pk (fun i => f (i + 1)) L
theorem pk_succ (f : Nat → Nat) (L : Nat) : pk f (L + 1) = f 0 + 2 ^ 64 * pk (fun i => f (i + 1)) L := rfl
theorem pk_congr {f g : Nat → Nat} : ∀ {L : Nat}, (∀ i, i < L → f i = g i) → pk f L = pk g L
  | 0, _ => rfl
  | L + 1, h => by unfold pk; rw [h 0 (by omega), pk_congr (fun i hi => h (i + 1) (by omega))]
theorem pk_add (f g : Nat → Nat) : ∀ L, pk f L + pk g L = pk (fun i => f i + g i) L
  | 0 => rfl
  | L + 1 => by unfold pk; rw [← pk_add (fun i => f (i + 1)) (fun i => g (i + 1)) L, Nat.mul_add]; omega
theorem pk_mul (c : Nat) (f : Nat → Nat) : ∀ L, c * pk f L = pk (fun i => c * f i) L
  | 0 => rfl
  | L + 1 => by unfold pk; rw [← pk_mul c (fun i => f (i + 1)) L, Nat.mul_add, Nat.mul_left_comm]
theorem pk_append (f : Nat → Nat) : ∀ (L K : Nat), pk f (L + K) = pk f L + 2 ^ (64 * L) * pk (fun i => f (L + i)) K
  | 0, K => by simp [pk]
  | L + 1, K => by
    rw [show L + 1 + K = (L + K) + 1 by omega, pk_succ, pk_succ, pk_append (fun i => f (i + 1)) L K, Nat.mul_add, ← Nat.mul_assoc, ← Nat.pow_add, show 64 + 64 * L = 64 * (L + 1) by omega]
    simp only [show ∀ i, L + i + 1 = L + 1 + i from fun i => by omega]
    omega
theorem tb_split {a A : Nat} (h : a < 2 ^ 64) (j : Nat) : (a + 2 ^ 64 * A).testBit j = if j < 64 then a.testBit j else A.testBit (j - 64) := by
  rw [Nat.add_comm]; exact Nat.testBit_two_pow_mul_add A h j
theorem and_lt64 {a b : Nat} (h : a < 2 ^ 64) : a &&& b < 2 ^ 64 := Nat.lt_of_le_of_lt Nat.and_le_left h
theorem andq_split {a b A B : Nat} (ha : a < 2 ^ 64) (hb : b < 2 ^ 64) : (a + 2 ^ 64 * A) &&& (b + 2 ^ 64 * B) = (a &&& b) + 2 ^ 64 * (A &&& B) := by
  apply Nat.eq_of_testBit_eq; intro j
  rw [Nat.testBit_and, tb_split ha, tb_split hb, tb_split (and_lt64 ha)]
  split <;> simp [Nat.testBit_and]
theorem orq_split {a b A B : Nat} (ha : a < 2 ^ 64) (hb : b < 2 ^ 64) : (a + 2 ^ 64 * A) ||| (b + 2 ^ 64 * B) = (a ||| b) + 2 ^ 64 * (A ||| B) := by
  apply Nat.eq_of_testBit_eq; intro j
  rw [Nat.testBit_or, tb_split ha, tb_split hb, tb_split (Nat.or_lt_two_pow ha hb)]
  split <;> simp [Nat.testBit_or]
theorem xorq_split {a b A B : Nat} (ha : a < 2 ^ 64) (hb : b < 2 ^ 64) : (a + 2 ^ 64 * A) ^^^ (b + 2 ^ 64 * B) = (a ^^^ b) + 2 ^ 64 * (A ^^^ B) := by
  apply Nat.eq_of_testBit_eq; intro j
  rw [Nat.testBit_xor, tb_split ha, tb_split hb, tb_split (Nat.xor_lt_two_pow ha hb)]
  split <;> simp [Nat.testBit_xor]
theorem pk_and : ∀ {L : Nat} {f g : Nat → Nat}, (∀ i, f i < 2 ^ 64) → (∀ i, g i < 2 ^ 64) → pk f L &&& pk g L = pk (fun i => f i &&& g i) L
  | 0, _, _, _, _ => by simp [pk]
  | L + 1, f, g, hf, hg => by unfold pk; rw [andq_split (hf 0) (hg 0), pk_and (fun i => hf (i + 1)) (fun i => hg (i + 1))]
theorem pk_or : ∀ {L : Nat} {f g : Nat → Nat}, (∀ i, f i < 2 ^ 64) → (∀ i, g i < 2 ^ 64) → pk f L ||| pk g L = pk (fun i => f i ||| g i) L
  | 0, _, _, _, _ => by simp [pk]
  | L + 1, f, g, hf, hg => by unfold pk; rw [orq_split (hf 0) (hg 0), pk_or (fun i => hf (i + 1)) (fun i => hg (i + 1))]
theorem pk_xor : ∀ {L : Nat} {f g : Nat → Nat}, (∀ i, f i < 2 ^ 64) → (∀ i, g i < 2 ^ 64) → pk f L ^^^ pk g L = pk (fun i => f i ^^^ g i) L
  | 0, _, _, _, _ => by simp [pk]
  | L + 1, f, g, hf, hg => by unfold pk; rw [xorq_split (hf 0) (hg 0), pk_xor (fun i => hf (i + 1)) (fun i => hg (i + 1))]
def lmask (L : Nat) : Nat := pk (fun _ => 4294967295) L
theorem pk_mask {L : Nat} {f : Nat → Nat} (h : ∀ i, f i < 2 ^ 64) : pk f L &&& lmask L = pk (fun i => f i % 2 ^ 32) L := by
  unfold lmask
  rw [pk_and h (fun _ => by decide)]
  exact pk_congr fun i _ => Nat.and_two_pow_sub_one_eq_mod (f i) 32
theorem shr_mask {n : Nat} (hn : n < 32) : ∀ {L : Nat} {f : Nat → Nat}, (∀ i, f i < 2 ^ 32) → (pk f L >>> n) &&& lmask L = pk (fun i => f i >>> n) L
  | 0, _, _ => by simp [pk, lmask]
  | L + 1, f, h => by
    have ih := shr_mask hn (L := L) (f := fun i => f (i + 1)) (fun i => h (i + 1))
    unfold lmask at ih ⊢
    apply Nat.eq_of_testBit_eq; intro j
    have h0 := h 0
    have h64 : f 0 < 2 ^ 64 := Nat.lt_trans h0 (by decide)
    have hs : f 0 >>> n < 2 ^ 64 := Nat.lt_of_le_of_lt (Nat.shiftRight_le _ _) h64
    have ih' := congrArg (fun x => Nat.testBit x (j - 64)) ih
    simp only [Nat.testBit_and, Nat.testBit_shiftRight] at ih'
    unfold pk
    rw [Nat.testBit_and, Nat.testBit_shiftRight, tb_split h64, tb_split (by decide), tb_split hs]
    by_cases hj : j < 64
    · rw [if_pos hj, if_pos hj]
      by_cases hj2 : n + j < 64
      · rw [if_pos hj2, Nat.testBit_shiftRight]
        by_cases hj3 : j < 32
        · rw [show (4294967295 : Nat) = 2 ^ 32 - 1 from rfl, Nat.testBit_two_pow_sub_one]; simp [hj3]
        · rw [show (4294967295 : Nat) = 2 ^ 32 - 1 from rfl, Nat.testBit_two_pow_sub_one]
          have : (f 0).testBit (n + j) = false := Nat.testBit_lt_two_pow (Nat.lt_of_lt_of_le h0 (Nat.pow_le_pow_right (by decide) (by omega)))
          simp [hj3, this]
      · rw [if_neg hj2, show (4294967295 : Nat) = 2 ^ 32 - 1 from rfl, Nat.testBit_two_pow_sub_one, Nat.testBit_shiftRight]
        have : (f 0).testBit (n + j) = false := Nat.testBit_lt_two_pow (Nat.lt_of_lt_of_le h0 (Nat.pow_le_pow_right (by decide) (by omega)))
        simp [show ¬ j < 32 by omega, this]
    · rw [if_neg hj, if_neg hj, if_neg (by omega), show n + j - 64 = n + (j - 64) by omega]
      exact ih'

/-- A word in each lane. -/
def pw (u : Nat → UInt32) (L : Nat) : Nat := pk (fun i => (u i).toNat) L
theorem u32_lt (x : UInt32) : x.toNat < 2 ^ 32 := x.toNat_lt
theorem u32_lt64 (x : UInt32) : x.toNat < 2 ^ 64 := Nat.lt_trans x.toNat_lt (by decide)
theorem pw_and (u v : Nat → UInt32) (L : Nat) : pw u L &&& pw v L = pw (fun i => u i &&& v i) L := by
  unfold pw; rw [pk_and (fun i => u32_lt64 _) (fun i => u32_lt64 _)]; exact pk_congr fun i _ => (UInt32.toNat_and _ _).symm
theorem pw_xor (u v : Nat → UInt32) (L : Nat) : pw u L ^^^ pw v L = pw (fun i => u i ^^^ v i) L := by
  unfold pw; rw [pk_xor (fun i => u32_lt64 _) (fun i => u32_lt64 _)]; exact pk_congr fun i _ => (UInt32.toNat_xor _ _).symm
theorem pw_not (u : Nat → UInt32) (L : Nat) : lmask L ^^^ pw u L = pw (fun i => ~~~ u i) L := by
  have h : lmask L = pw (fun _ => (4294967295 : UInt32)) L := rfl
  rw [h, pw_xor]
  refine pk_congr fun i _ => ?_
  congr 1
def qsh (M x n : Nat) : Nat := (x >>> n) &&& M
def qrot (M x n : Nat) : Nat := ((x >>> n) ||| (x <<< (32 - n))) &&& M
theorem pw_shr {n : Nat} (hn : n < 32) (u : Nat → UInt32) (L : Nat) : qsh (lmask L) (pw u L) n = pw (fun i => u i >>> UInt32.ofNat n) L := by
  unfold qsh pw
  rw [shr_mask hn (fun i => u32_lt _)]
  refine pk_congr fun i _ => ?_
  rw [UInt32.toNat_shiftRight]
  have : (UInt32.ofNat n).toNat = n := by rw [UInt32.toNat_ofNat']; exact Nat.mod_eq_of_lt (by omega)
  rw [this, Nat.mod_eq_of_lt hn]
theorem pw_rot {n : Nat} (h1 : 0 < n) (hn : n < 32) (u : Nat → UInt32) (L : Nat) : qrot (lmask L) (pw u L) n = pw (fun i => rotr (u i) n) L := by
  unfold qrot
  rw [Nat.and_or_distrib_right]
  have e1 := pw_shr hn u L
  unfold qsh at e1
  rw [e1]
  have e2 : (pw u L <<< (32 - n)) &&& lmask L = pw (fun i => u i <<< UInt32.ofNat (32 - n)) L := by
    unfold pw
    rw [Nat.shiftLeft_eq, Nat.mul_comm, pk_mul, pk_mask]
    · refine pk_congr fun i _ => ?_
      rw [UInt32.toNat_shiftLeft]
      have : (UInt32.ofNat (32 - n)).toNat = 32 - n := by rw [UInt32.toNat_ofNat']; exact Nat.mod_eq_of_lt (by omega)
      rw [this, Nat.mod_eq_of_lt (show 32 - n < 32 by omega), Nat.shiftLeft_eq, Nat.mul_comm]
    · intro i
      have := u32_lt (u i)
      calc 2 ^ (32 - n) * (u i).toNat < 2 ^ (32 - n) * 2 ^ 32 := Nat.mul_lt_mul_of_pos_left this (Nat.pow_pos (by decide))
        _ = 2 ^ (32 - n + 32) := (Nat.pow_add ..).symm
        _ ≤ 2 ^ 64 := Nat.pow_le_pow_right (by decide) (by omega)
  rw [e2]
  unfold pw
  rw [pk_or (fun i => u32_lt64 _) (fun i => u32_lt64 _)]
  refine pk_congr fun i _ => ?_
  show _ = (u i <<< UInt32.ofNat (32 - n) ||| u i >>> UInt32.ofNat n).toNat
  rw [UInt32.toNat_or, Nat.or_comm]
/-- A sum of words in each lane. -/
theorem pw_of {L : Nat} {f : Nat → Nat} {u : Nat → UInt32} (hf : ∀ i, f i < 2 ^ 64) (h : ∀ i, f i % 2 ^ 32 = (u i).toNat) : pk f L &&& lmask L = pw u L := by
  rw [pk_mask hf]; exact pk_congr fun i _ => h i
theorem pw_const (c : UInt32) (L : Nat) : c.toNat * pk (fun _ => 1) L = pw (fun _ => c) L := by
  rw [pk_mul]; exact pk_congr fun i _ => Nat.mul_one _
theorem pk_pw (u : Nat → UInt32) (L : Nat) : pw u L = pk (fun i => (u i).toNat) L := rfl

def fc {α : Type} (x : Nat) (k : Nat → α) : α := match x with
  | 0 => k 0
  | n + 1 => k (n + 1)
theorem fc_eq {α : Type} (x : Nat) (k : Nat → α) : fc x k = k x := by cases x <;> rfl
def qs0 (M x : Nat) : Nat := qrot M x 7 ^^^ qrot M x 18 ^^^ qsh M x 3
def qs1 (M x : Nat) : Nat := qrot M x 17 ^^^ qrot M x 19 ^^^ qsh M x 10
theorem pw_sg0 (u : Nat → UInt32) (L : Nat) : qs0 (lmask L) (pw u L) = pw (fun i => sg0 (u i)) L := by
  unfold qs0; rw [pw_rot (by decide) (by decide), pw_rot (by decide) (by decide), pw_shr (by decide), pw_xor, pw_xor]; rfl
theorem pw_sg1 (u : Nat → UInt32) (L : Nat) : qs1 (lmask L) (pw u L) = pw (fun i => sg1 (u i)) L := by
  unfold qs1; rw [pw_rot (by decide) (by decide), pw_rot (by decide) (by decide), pw_shr (by decide), pw_xor, pw_xor]; rfl
theorem pw_wnext (x y z t : Nat → UInt32) (L : Nat) : (pw x L + qs0 (lmask L) (pw y L) + pw z L + qs1 (lmask L) (pw t L)) &&& lmask L = pw (fun i => x i + sg0 (y i) + z i + sg1 (t i)) L := by
  rw [pw_sg0, pw_sg1]
  simp only [pk_pw, pk_add]
  refine pw_of (fun i => ?_) (fun i => ?_)
  · have h1 := u32_lt (x i); have h2 := u32_lt (sg0 (y i)); have h3 := u32_lt (z i); have h4 := u32_lt (sg1 (t i)); omega
  · simp only [UInt32.toNat_add]; omega
theorem pw_one (e f g h w : Nat → UInt32) (k : UInt32) (L : Nat) :
    (pw h L + (qrot (lmask L) (pw e L) 6 ^^^ qrot (lmask L) (pw e L) 11 ^^^ qrot (lmask L) (pw e L) 25) + ((pw e L &&& pw f L) ^^^ ((lmask L ^^^ pw e L) &&& pw g L)) + k.toNat * pk (fun _ => 1) L + pw w L) &&& lmask L
      = pw (fun i => h i + (rotr (e i) 6 ^^^ rotr (e i) 11 ^^^ rotr (e i) 25) + ((e i &&& f i) ^^^ (~~~ e i &&& g i)) + k + w i) L := by
  rw [pw_rot (by decide) (by decide), pw_rot (by decide) (by decide), pw_rot (by decide) (by decide), pw_xor, pw_xor, pw_not, pw_and, pw_and, pw_xor, pw_const]
  simp only [pk_pw, pk_add]
  refine pw_of (fun i => ?_) (fun i => ?_)
  · have h1 := u32_lt (h i); have h2 := u32_lt (rotr (e i) 6 ^^^ rotr (e i) 11 ^^^ rotr (e i) 25); have h3 := u32_lt ((e i &&& f i) ^^^ (~~~ e i &&& g i)); have h4 := u32_lt k; have h5 := u32_lt (w i); omega
  · simp only [UInt32.toNat_add]; omega
theorem pw_two (a b c o : Nat → UInt32) (L : Nat) :
    (pw o L + ((qrot (lmask L) (pw a L) 2 ^^^ qrot (lmask L) (pw a L) 13 ^^^ qrot (lmask L) (pw a L) 22) + (((pw a L &&& pw b L) ^^^ (pw a L &&& pw c L)) ^^^ (pw b L &&& pw c L)))) &&& lmask L
      = pw (fun i => o i + ((rotr (a i) 2 ^^^ rotr (a i) 13 ^^^ rotr (a i) 22) + (((a i &&& b i) ^^^ (a i &&& c i)) ^^^ (b i &&& c i)))) L := by
  rw [pw_rot (by decide) (by decide), pw_rot (by decide) (by decide), pw_rot (by decide) (by decide), pw_xor, pw_xor, pw_and, pw_and, pw_and, pw_xor, pw_xor]
  simp only [pk_pw, pk_add]
  refine pw_of (fun i => ?_) (fun i => ?_)
  · have h1 := u32_lt (o i); have h2 := u32_lt (rotr (a i) 2 ^^^ rotr (a i) 13 ^^^ rotr (a i) 22); have h3 := u32_lt (((a i &&& b i) ^^^ (a i &&& c i)) ^^^ (b i &&& c i)); omega
  · simp only [UInt32.toNat_add]; omega
theorem pw_add (x y : Nat → UInt32) (L : Nat) : (pw x L + pw y L) &&& lmask L = pw (fun i => x i + y i) L := by
  simp only [pk_pw, pk_add]
  refine pw_of (fun i => ?_) (fun i => ?_)
  · have h1 := u32_lt (x i); have h2 := u32_lt (y i); omega
  · simp only [UInt32.toNat_add]

def qgo (M O : Nat) : List Nat → Nat → Nat → Nat → Nat → Nat → Nat → Nat → Nat → Nat → Nat → Nat → Nat → Nat → Nat → Nat → Nat → Nat → Nat → Nat → Nat → Nat → Nat → Nat → Nat → List Nat
  | [], _, _, _, _, _, _, _, _, _, _, _, _, _, _, _, _, a, b, c, d, e, f, g, h => [a, b, c, d, e, f, g, h]
  | k :: ks, w0, w1, w2, w3, w4, w5, w6, w7, w8, w9, w10, w11, w12, w13, w14, w15, a, b, c, d, e, f, g, h =>
    fc ((w0 + qs0 M w1 + w9 + qs1 M w14) &&& M) fun w =>
    fc ((h + (qrot M e 6 ^^^ qrot M e 11 ^^^ qrot M e 25) + ((e &&& f) ^^^ ((M ^^^ e) &&& g)) + k * O + w0) &&& M) fun one =>
    fc ((one + ((qrot M a 2 ^^^ qrot M a 13 ^^^ qrot M a 22) + (((a &&& b) ^^^ (a &&& c)) ^^^ (b &&& c)))) &&& M) fun a' =>
    fc ((d + one) &&& M) fun e' =>
    qgo M O ks w1 w2 w3 w4 w5 w6 w7 w8 w9 w10 w11 w12 w13 w14 w15 w a' a b c e' e f g
def ksF (K : Nat → UInt32) (j : Nat) : Nat → List Nat
  | 0 => []
  | n + 1 => (K j).toNat :: ksF K (j + 1) n
theorem schq_next (b : List UInt8) (j : Nat) : sch b (j + 16) = sch b j + sg0 (sch b (j + 1)) + sch b (j + 9) + sg1 (sch b (j + 14)) := by
  rw [sch.eq_1 b (j + 16), dif_neg (by omega)]
  rw [show j + 16 - 16 = j by omega, show j + 16 - 15 = j + 1 by omega, show j + 16 - 7 = j + 9 by omega, show j + 16 - 2 = j + 14 by omega]
section
variable (K : Nat → UInt32) (b : Nat → List UInt8) (v : Nat → V8) (L : Nat)
abbrev sw (j : Nat) : Nat := pw (fun l => sch (b l) j) L
abbrev sv (p : V8 → UInt32) (j : Nat) : Nat := pw (fun l => p (rnds K (sch (b l)) (v l) j)) L
set_option maxHeartbeats 1000000 in
theorem qgo_eq : ∀ (n j m : Nat), j + n = m → qgo (lmask L) (pk (fun _ => 1) L) (ksF K j n) (sw b L (j + 0)) (sw b L (j + 1)) (sw b L (j + 2)) (sw b L (j + 3)) (sw b L (j + 4)) (sw b L (j + 5)) (sw b L (j + 6)) (sw b L (j + 7)) (sw b L (j + 8)) (sw b L (j + 9)) (sw b L (j + 10)) (sw b L (j + 11)) (sw b L (j + 12)) (sw b L (j + 13)) (sw b L (j + 14)) (sw b L (j + 15)) (sv K b v L V8.a j) (sv K b v L V8.b j) (sv K b v L V8.c j) (sv K b v L V8.d j) (sv K b v L V8.e j) (sv K b v L V8.f j) (sv K b v L V8.g j) (sv K b v L V8.h j)
    = [sv K b v L V8.a m, sv K b v L V8.b m, sv K b v L V8.c m, sv K b v L V8.d m, sv K b v L V8.e m, sv K b v L V8.f m, sv K b v L V8.g m, sv K b v L V8.h m]
  | 0, j, m, h => by obtain rfl : j = m := by omega
                     rfl
  | n + 1, j, m, h => by
    unfold ksF qgo
    simp only [fc_eq]
    rw [show sw b L (j + 0) = sw b L j from rfl]
    rw [pw_wnext, pw_one, pw_two, pw_add]
    have e1 : pw (fun i => sch (b i) (j + 0) + sg0 (sch (b i) (j + 1)) + sch (b i) (j + 9) + sg1 (sch (b i) (j + 14))) L = sw b L (j + 16) := pk_congr fun i _ => congrArg UInt32.toNat (schq_next (b i) j).symm
    have := qgo_eq n (j + 1) m (by omega)
    simp only [show j + 1 + 0 = j + 1 from by omega, show j + 1 + 1 = j + 2 from by omega, show j + 1 + 2 = j + 3 from by omega, show j + 1 + 3 = j + 4 from by omega, show j + 1 + 4 = j + 5 from by omega, show j + 1 + 5 = j + 6 from by omega, show j + 1 + 6 = j + 7 from by omega, show j + 1 + 7 = j + 8 from by omega, show j + 1 + 8 = j + 9 from by omega, show j + 1 + 9 = j + 10 from by omega, show j + 1 + 10 = j + 11 from by omega, show j + 1 + 11 = j + 12 from by omega, show j + 1 + 12 = j + 13 from by omega, show j + 1 + 13 = j + 14 from by omega, show j + 1 + 14 = j + 15 from by omega, show j + 1 + 15 = j + 16 from by omega] at this
    rw [← e1] at this
    exact this
end
def qblk (M O : Nat) (ks : List Nat) (w : List Nat) (s : List Nat) : List Nat := match w, s with
  | [w0, w1, w2, w3, w4, w5, w6, w7, w8, w9, w10, w11, w12, w13, w14, w15], [a, b, c, d, e, f, g, h] => match qgo M O ks w0 w1 w2 w3 w4 w5 w6 w7 w8 w9 w10 w11 w12 w13 w14 w15 a b c d e f g h with
    | [a', b', c', d', e', f', g', h'] => [(a + a') &&& M, (b + b') &&& M, (c + c') &&& M, (d + d') &&& M, (e + e') &&& M, (f + f') &&& M, (g + g') &&& M, (h + h') &&& M]
    | _ => []
  | _, _ => []
def lanes8 (L : Nat) (v : Nat → V8) : List Nat := [pw (fun l => (v l).a) L, pw (fun l => (v l).b) L, pw (fun l => (v l).c) L, pw (fun l => (v l).d) L, pw (fun l => (v l).e) L, pw (fun l => (v l).f) L, pw (fun l => (v l).g) L, pw (fun l => (v l).h) L]
def words16 (L : Nat) (b : Nat → List UInt8) : List Nat := [pw (fun l => wordAt (b l) 0) L, pw (fun l => wordAt (b l) 1) L, pw (fun l => wordAt (b l) 2) L, pw (fun l => wordAt (b l) 3) L, pw (fun l => wordAt (b l) 4) L, pw (fun l => wordAt (b l) 5) L, pw (fun l => wordAt (b l) 6) L, pw (fun l => wordAt (b l) 7) L, pw (fun l => wordAt (b l) 8) L, pw (fun l => wordAt (b l) 9) L, pw (fun l => wordAt (b l) 10) L, pw (fun l => wordAt (b l) 11) L, pw (fun l => wordAt (b l) 12) L, pw (fun l => wordAt (b l) 13) L, pw (fun l => wordAt (b l) 14) L, pw (fun l => wordAt (b l) 15) L]
theorem schq_lo (b : List UInt8) {j : Nat} (h : j < 16) : sch b j = wordAt b j := by rw [sch.eq_1, dif_pos h]
theorem qblk_eq (K : Nat → UInt32) (b : Nat → List UInt8) (v : Nat → V8) (L : Nat) : qblk (lmask L) (pk (fun _ => 1) L) (ksF K 0 64) (words16 L b) (lanes8 L v) = lanes8 L (fun l => take64 K (v l) (b l)) := by
  have h := qgo_eq K b v L 64 0 64 rfl
  have hw : ∀ j, j < 16 → sw b L (0 + j) = pw (fun l => wordAt (b l) j) L := fun j hj => pk_congr fun i _ => (by show (sch (b i) (0 + j)).toNat = (wordAt (b i) j).toNat; rw [Nat.zero_add, schq_lo _ hj])
  rw [hw 0 (by decide), hw 1 (by decide), hw 2 (by decide), hw 3 (by decide), hw 4 (by decide), hw 5 (by decide), hw 6 (by decide), hw 7 (by decide), hw 8 (by decide), hw 9 (by decide), hw 10 (by decide), hw 11 (by decide), hw 12 (by decide), hw 13 (by decide), hw 14 (by decide), hw 15 (by decide)] at h
  unfold qblk words16 lanes8
  simp only []
  have h' : qgo (lmask L) (pk (fun _ => 1) L) (ksF K 0 64) (pw (fun l => wordAt (b l) 0) L) (pw (fun l => wordAt (b l) 1) L) (pw (fun l => wordAt (b l) 2) L) (pw (fun l => wordAt (b l) 3) L) (pw (fun l => wordAt (b l) 4) L) (pw (fun l => wordAt (b l) 5) L) (pw (fun l => wordAt (b l) 6) L) (pw (fun l => wordAt (b l) 7) L) (pw (fun l => wordAt (b l) 8) L) (pw (fun l => wordAt (b l) 9) L) (pw (fun l => wordAt (b l) 10) L) (pw (fun l => wordAt (b l) 11) L) (pw (fun l => wordAt (b l) 12) L) (pw (fun l => wordAt (b l) 13) L) (pw (fun l => wordAt (b l) 14) L) (pw (fun l => wordAt (b l) 15) L) (pw (fun l => (v l).a) L) (pw (fun l => (v l).b) L) (pw (fun l => (v l).c) L) (pw (fun l => (v l).d) L) (pw (fun l => (v l).e) L) (pw (fun l => (v l).f) L) (pw (fun l => (v l).g) L) (pw (fun l => (v l).h) L) = _ := h
  rw [h']
  simp only [pw_add]
  rfl
/-- All blocks of lanes' messages, n of them. -/
def qtks (K : Nat → UInt32) (v : V8) (b : List UInt8) : Nat → V8
  | 0 => v
  | n + 1 => qtks K (take64 K v (b.take 64)) (b.drop 64) n
theorem takes_qtks (K : Nat → UInt32) : ∀ (n : Nat) (v : V8) (b : List UInt8), b.length = 64 * n → (takes K v b).1 = qtks K v b n
  | 0, v, b, h => by rw [takes.eq_1, dif_neg (by omega)]; rfl
  | n + 1, v, b, h => by
    rw [takes.eq_1, dif_pos (by omega)]
    exact takes_qtks K n _ _ (by rw [List.length_drop]; omega)
theorem wordAt_take (b : List UInt8) {j : Nat} (h : j < 16) : wordAt (b.take 64) j = wordAt b j := by
  unfold wordAt
  have e : ∀ k, k < 64 → (b.take 64).getD k 0 = b.getD k 0 := fun k hk => by simp [List.getD, hk]
  rw [e _ (by omega), e _ (by omega), e _ (by omega), e _ (by omega)]
def qall (M O : Nat) (ks : List Nat) (s : List Nat) : List (List Nat) → List Nat
  | [] => s
  | w :: r => qall M O ks (qblk M O ks w s) r
def wordsAll (L : Nat) (b : Nat → List UInt8) : Nat → List (List Nat)
  | 0 => []
  | n + 1 => words16 L b :: wordsAll L (fun l => (b l).drop 64) n
theorem words_take (L : Nat) (b : Nat → List UInt8) : words16 L (fun l => (b l).take 64) = words16 L b := by
  unfold words16
  have e : ∀ j, j < 16 → pw (fun l => wordAt ((b l).take 64) j) L = pw (fun l => wordAt (b l) j) L := fun j hj => pk_congr fun i _ => (by show (wordAt ((b i).take 64) j).toNat = (wordAt (b i) j).toNat; rw [wordAt_take _ hj])
  rw [e 0 (by decide), e 1 (by decide), e 2 (by decide), e 3 (by decide), e 4 (by decide), e 5 (by decide), e 6 (by decide), e 7 (by decide), e 8 (by decide), e 9 (by decide), e 10 (by decide), e 11 (by decide), e 12 (by decide), e 13 (by decide), e 14 (by decide), e 15 (by decide)]
theorem qall_eq (K : Nat → UInt32) (L : Nat) : ∀ (n : Nat) (v : Nat → V8) (b : Nat → List UInt8), qall (lmask L) (pk (fun _ => 1) L) (ksF K 0 64) (lanes8 L v) (wordsAll L b n) = lanes8 L (fun l => qtks K (v l) (b l) n)
  | 0, v, b => rfl
  | n + 1, v, b => by
    unfold wordsAll qall
    rw [← words_take, qblk_eq, qall_eq K L n]
    rfl

/-! ### One message -/
theorem pk_1 (f : Nat → Nat) : pk f 1 = f 0 := by simp [pk]
theorem pw_1 (u : Nat → UInt32) : pw u 1 = (u 0).toNat := pk_1 _
def qnat8 (v : V8) : List Nat := [v.a.toNat, v.b.toNat, v.c.toNat, v.d.toNat, v.e.toNat, v.f.toNat, v.g.toNat, v.h.toNat]
theorem lanes8_1 (v : Nat → V8) : lanes8 1 v = qnat8 (v 0) := by simp only [lanes8, pw_1]; rfl
def qB (l : List UInt8) (i : Nat) : Nat := (l.getD i 0).toNat
def qW (l : List UInt8) (j : Nat) : Nat := qB l (4 * j) * 16777216 + qB l (4 * j + 1) * 65536 + qB l (4 * j + 2) * 256 + qB l (4 * j + 3)
theorem qW_eq (l : List UInt8) (j : Nat) : (wordAt l j).toNat = qW l j := by
  unfold wordAt qW qB
  generalize l.getD (4 * j) 0 = x; generalize l.getD (4 * j + 1) 0 = y; generalize l.getD (4 * j + 2) 0 = z; generalize l.getD (4 * j + 3) 0 = t
  have hx := x.toNat_lt; have hy := y.toNat_lt; have hz := z.toNat_lt; have ht := t.toNat_lt
  simp only [UInt32.toNat_or, UInt32.toNat_shiftLeft, UInt8.toNat_toUInt32]
  have e24 : (UInt32.ofNat 24).toNat % 32 = 24 := by decide
  have e16 : (UInt32.ofNat 16).toNat % 32 = 16 := by decide
  have e8 : (UInt32.ofNat 8).toNat % 32 = 8 := by decide
  rw [e24, e16, e8]
  simp only [Nat.shiftLeft_eq]
  have a1 : x.toNat * 2 ^ 24 % 2 ^ 32 = 2 ^ 24 * x.toNat := by rw [Nat.mod_eq_of_lt (Nat.lt_of_lt_of_le (Nat.mul_lt_mul_of_pos_right hx (Nat.pow_pos (by decide))) (by decide)), Nat.mul_comm]
  have a2 : y.toNat * 2 ^ 16 % 2 ^ 32 = 2 ^ 16 * y.toNat := by rw [Nat.mod_eq_of_lt (Nat.lt_of_lt_of_le (Nat.mul_lt_mul_of_pos_right hy (Nat.pow_pos (by decide))) (by decide)), Nat.mul_comm]
  have a3 : z.toNat * 2 ^ 8 % 2 ^ 32 = 2 ^ 8 * z.toNat := by rw [Nat.mod_eq_of_lt (Nat.lt_of_lt_of_le (Nat.mul_lt_mul_of_pos_right hz (Nat.pow_pos (by decide))) (by decide)), Nat.mul_comm]
  rw [a1, a2, a3]
  rw [← Nat.two_pow_add_eq_or_of_lt (i := 24) (show 2 ^ 16 * y.toNat < 2 ^ 24 by omega)]
  rw [Nat.or_assoc, ← Nat.two_pow_add_eq_or_of_lt (i := 8) (show t.toNat < 2 ^ 8 by omega)]
  have : 2 ^ 24 * x.toNat + 2 ^ 16 * y.toNat = 2 ^ 16 * (256 * x.toNat + y.toNat) := by omega
  rw [this, ← Nat.two_pow_add_eq_or_of_lt (i := 16) (show 2 ^ 8 * z.toNat + t.toNat < 2 ^ 16 by omega)]
  omega
def qWords (l : List UInt8) : List Nat := [qW l 0, qW l 1, qW l 2, qW l 3, qW l 4, qW l 5, qW l 6, qW l 7, qW l 8, qW l 9, qW l 10, qW l 11, qW l 12, qW l 13, qW l 14, qW l 15]
def qWordsS (l : List UInt8) : Nat → List (List Nat)
  | 0 => []
  | n + 1 => qWords l :: qWordsS (l.drop 64) n
theorem qWordsS_eq : ∀ (n : Nat) (b : Nat → List UInt8), wordsAll 1 b n = qWordsS (b 0) n
  | 0, b => rfl
  | n + 1, b => by
    unfold wordsAll qWordsS
    rw [qWordsS_eq n, words16, qWords]
    simp only [pw_1, qW_eq]
def qini : List Nat := qnat8 v0
theorem lmask_1 : lmask 1 = 4294967295 := by kernel_rfl
theorem ones_1 : pk (fun _ => 1) 1 = 1 := by kernel_rfl
theorem one_msg (K : Nat → UInt32) (b : List UInt8) (n : Nat) (h : b.length = 64 * n) : qnat8 (takes K v0 b).1 = qall 4294967295 1 (ksF K 0 64) qini (qWordsS b n) := by
  have := qall_eq K 1 n (fun _ => v0) (fun _ => b)
  rw [lmask_1, ones_1, lanes8_1, lanes8_1, qWordsS_eq] at this
  rw [takes_qtks K n v0 b h, ← this]; rfl
end Go.Proofs.YtobjojeliibinaaDoor

/- Plain words: the id of one block, reckoned quickly. -/
namespace Go.Proofs.YtobjojeliibinaaDoor
set_option linter.unusedVariables false

def digN (l : List Nat) : List UInt8 := (List.range 16).map fun i => UInt8.ofNat (l.getD (i / 4) 0 / 2 ^ (24 - 8 * (i % 4)))
theorem outByte_nat (v : V8) {i : Nat} (hi : i < 16) : outByte v i = UInt8.ofNat ((qnat8 v).getD (i / 4) 0 / 2 ^ (24 - 8 * (i % 4))) := by
  have hg : ∀ j, j < 4 → (v.get j).toNat = (qnat8 v).getD j 0 := fun j hj => by
    match j with
    | 0 => rfl
    | 1 => rfl
    | 2 => rfl
    | 3 => rfl
    | j + 4 => omega
  rw [← hg (i / 4) (by omega)]
  unfold outByte
  apply UInt8.toNat_inj.1
  rw [UInt32.toNat_toUInt8, UInt32.toNat_shiftRight, UInt8.toNat_ofNat']
  have e : (UInt32.ofNat (24 - 8 * (i % 4))).toNat % 32 = 24 - 8 * (i % 4) := by rw [UInt32.toNat_ofNat', Nat.mod_eq_of_lt (by omega), Nat.mod_eq_of_lt (by omega)]
  rw [e, Nat.shiftRight_eq_div_pow]
theorem refSum_16 (K : Nat → UInt32) (b : List UInt8) : (refSum K b).take 16 = digN (qnat8 (takes K v0 (refPad b)).1) := by
  unfold refSum digN
  rw [← List.map_take]
  have : (List.range 32).take 16 = List.range 16 := by decide
  rw [this]
  exact List.map_congr_left fun i hi => outByte_nat _ (List.mem_range.1 hi)
theorem refPad_len (b : List UInt8) : (refPad b).length = 64 * ((b.length + 9 + 63) / 64) := by
  simp only [refPad, List.length_append, List.length_cons, List.length_replicate, padN, lenBytes, List.length_map, List.length_range]
  omega
/-- A block's id, out of its bytes. -/
def idQ (bs : List UInt8) : List UInt8 := digN (qall 4294967295 1 (ksF Kc 0 64) qini (qWordsS (refPad (framed 6 [bs])) (((framed 6 [bs]).length + 9 + 63) / 64)))
theorem idOf_q {b : Block} (h : (wBlock b ⟨0, []⟩).err = 0) : (idOf b).l = idQ (wBlock b ⟨0, []⟩).bs := by
  unfold idOf idQ
  rw [if_pos h, ← one_msg Kc _ _ (refPad_len _), ← refSum_16]
  exact hOf_ref Kc 6 _
theorem idOf_is {b : Block} {d : Dig} (h : (wBlock b ⟨0, []⟩).err = 0) (e : idQ (wBlock b ⟨0, []⟩).bs = d.l) : idOf b = d := Dig.ext' ((idOf_q h).trans e)
end Go.Proofs.YtobjojeliibinaaDoor

/- Plain words: layer 15's first block, the blocks of two branches below it, their ids. Printed by ids.py. -/
namespace Go.Proofs.YtobjojeliibinaaDoor
set_option linter.unusedVariables false
set_option linter.unusedSimpArgs false

def g0 : Block := ⟨1, 0, dig0, qc0, [], []⟩
def chB (b : Block) (id : Dig) (on : Int) (tx : UInt8) : Block := ⟨b.epoch, b.round + on, id, ⟨b.epoch, b.round, id, []⟩, [[tx]], []⟩
def gid : Dig := ⟨[199, 135, 36, 83, 74, 106, 79, 158, 139, 73, 213, 190, 14, 154, 125, 43], rfl⟩
def idA : Nat → Dig
  | 0 => gid
  | 1 => ⟨[123, 55, 230, 167, 65, 132, 198, 89, 230, 99, 114, 57, 194, 219, 71, 140], rfl⟩
  | 2 => ⟨[236, 41, 225, 101, 149, 18, 149, 31, 86, 229, 19, 217, 9, 181, 119, 154], rfl⟩
  | 3 => ⟨[179, 91, 19, 183, 192, 179, 88, 46, 70, 226, 115, 158, 229, 40, 152, 161], rfl⟩
  | 4 => ⟨[242, 224, 134, 121, 113, 19, 98, 14, 228, 223, 125, 150, 171, 70, 85, 192], rfl⟩
  | 5 => ⟨[59, 202, 181, 5, 190, 23, 231, 122, 204, 252, 15, 79, 114, 94, 15, 78], rfl⟩
  | _ => dig0
def blA : Nat → Block
  | 0 => g0
  | n + 1 => chB (blA n) (idA n) 1 1
def idB : Nat → Dig
  | 0 => gid
  | 1 => ⟨[206, 196, 235, 13, 221, 100, 65, 205, 181, 101, 155, 224, 55, 239, 101, 36], rfl⟩
  | 2 => ⟨[77, 235, 145, 90, 45, 31, 40, 71, 207, 133, 126, 73, 129, 207, 253, 223], rfl⟩
  | 3 => ⟨[141, 0, 199, 99, 55, 136, 211, 86, 47, 30, 203, 86, 81, 84, 61, 143], rfl⟩
  | 4 => ⟨[141, 125, 12, 194, 66, 91, 127, 19, 121, 13, 93, 105, 80, 88, 133, 248], rfl⟩
  | 5 => ⟨[15, 125, 95, 103, 37, 132, 68, 244, 140, 170, 92, 13, 117, 250, 227, 127], rfl⟩
  | _ => dig0
def blB : Nat → Block
  | 0 => g0
  | n + 1 => chB (blB n) (idB n) 1 2
theorem g0_err : (wBlock g0 ⟨0, []⟩).err = 0 := by kernel_rfl
theorem g0_id : idOf g0 = gid := idOf_is g0_err (by kernel_rfl)
theorem blA_err1 : (wBlock (blA 1) ⟨0, []⟩).err = 0 := by kernel_rfl
theorem blA_id1 : idOf (blA 1) = idA 1 := idOf_is blA_err1 (by kernel_rfl)
theorem blA_err2 : (wBlock (blA 2) ⟨0, []⟩).err = 0 := by kernel_rfl
theorem blA_id2 : idOf (blA 2) = idA 2 := idOf_is blA_err2 (by kernel_rfl)
theorem blA_err3 : (wBlock (blA 3) ⟨0, []⟩).err = 0 := by kernel_rfl
theorem blA_id3 : idOf (blA 3) = idA 3 := idOf_is blA_err3 (by kernel_rfl)
theorem blA_err4 : (wBlock (blA 4) ⟨0, []⟩).err = 0 := by kernel_rfl
theorem blA_id4 : idOf (blA 4) = idA 4 := idOf_is blA_err4 (by kernel_rfl)
theorem blA_err5 : (wBlock (blA 5) ⟨0, []⟩).err = 0 := by kernel_rfl
theorem blA_id5 : idOf (blA 5) = idA 5 := idOf_is blA_err5 (by kernel_rfl)
theorem blA_err : ∀ {k : Nat}, k ≤ 5 → (wBlock (blA k) ⟨0, []⟩).err = 0
  | 0, _ => g0_err
  | 1, _ => blA_err1
  | 2, _ => blA_err2
  | 3, _ => blA_err3
  | 4, _ => blA_err4
  | 5, _ => blA_err5
  | n + 6, h => by omega
theorem blA_id : ∀ {k : Nat}, k ≤ 5 → idOf (blA k) = idA k
  | 0, _ => g0_id
  | 1, _ => blA_id1
  | 2, _ => blA_id2
  | 3, _ => blA_id3
  | 4, _ => blA_id4
  | 5, _ => blA_id5
  | n + 6, h => by omega
theorem blA_round : ∀ k, (blA k).round = k
  | 0 => rfl
  | n + 1 => by show (blA n).round + 1 = ((n + 1 : Nat) : Int); rw [blA_round n]; rfl
theorem blA_epoch : ∀ k, (blA k).epoch = 1
  | 0 => rfl
  | n + 1 => blA_epoch n
theorem blB_err1 : (wBlock (blB 1) ⟨0, []⟩).err = 0 := by kernel_rfl
theorem blB_id1 : idOf (blB 1) = idB 1 := idOf_is blB_err1 (by kernel_rfl)
theorem blB_err2 : (wBlock (blB 2) ⟨0, []⟩).err = 0 := by kernel_rfl
theorem blB_id2 : idOf (blB 2) = idB 2 := idOf_is blB_err2 (by kernel_rfl)
theorem blB_err3 : (wBlock (blB 3) ⟨0, []⟩).err = 0 := by kernel_rfl
theorem blB_id3 : idOf (blB 3) = idB 3 := idOf_is blB_err3 (by kernel_rfl)
theorem blB_err4 : (wBlock (blB 4) ⟨0, []⟩).err = 0 := by kernel_rfl
theorem blB_id4 : idOf (blB 4) = idB 4 := idOf_is blB_err4 (by kernel_rfl)
theorem blB_err5 : (wBlock (blB 5) ⟨0, []⟩).err = 0 := by kernel_rfl
theorem blB_id5 : idOf (blB 5) = idB 5 := idOf_is blB_err5 (by kernel_rfl)
theorem blB_err : ∀ {k : Nat}, k ≤ 5 → (wBlock (blB k) ⟨0, []⟩).err = 0
  | 0, _ => g0_err
  | 1, _ => blB_err1
  | 2, _ => blB_err2
  | 3, _ => blB_err3
  | 4, _ => blB_err4
  | 5, _ => blB_err5
  | n + 6, h => by omega
theorem blB_id : ∀ {k : Nat}, k ≤ 5 → idOf (blB k) = idB k
  | 0, _ => g0_id
  | 1, _ => blB_id1
  | 2, _ => blB_id2
  | 3, _ => blB_id3
  | 4, _ => blB_id4
  | 5, _ => blB_id5
  | n + 6, h => by omega
theorem blB_round : ∀ k, (blB k).round = k
  | 0 => rfl
  | n + 1 => by show (blB n).round + 1 = ((n + 1 : Nat) : Int); rw [blB_round n]; rfl
theorem blB_epoch : ∀ k, (blB k).epoch = 1
  | 0 => rfl
  | n + 1 => blB_epoch n
theorem smB_ch {b : Block} {id : Dig} {on : Int} {tx : UInt8} : smBlk (chB b id on tx) := ⟨⟨by simp [chB], fun _ h => by cases h⟩, by simp [chB], by simp [chB], fun x h => by simp [chB] at h; subst h; simp⟩
theorem smB_g0 : smBlk g0 := ⟨⟨by decide, fun _ h => by cases h⟩, by decide, by decide, fun _ h => by cases h⟩
/-- The tree of m blocks of the one branch and n of the other. -/
def qcA (i : Nat) : QC := ⟨1, i, idA i, []⟩
def qcB (i : Nat) : QC := ⟨1, i, idB i, []⟩
def fkT (m n : Nat) : Tr := ⟨gid, (gid, g0) :: ((List.range m).map (fun i => (idA (i + 1), blA (i + 1))) ++ (List.range n).map (fun i => (idB (i + 1), blB (i + 1)))), qcA 0 :: ((List.range (m - 1)).map (fun i => qcA (i + 1)) ++ (List.range (n - 1)).map (fun i => qcB (i + 1)))⟩
theorem fkT_new : newT g0 ⟨1, 0, gid, []⟩ gid = fkT 0 0 := rfl
theorem fk_new : newE g0 ⟨1, 0, gid, []⟩ 0 gid = 0 := by kernel_rfl
theorem fkA0 : addE (fkT 0 0) (blA 1) 0 (idA 1) = (0, idA 1, fkT 1 0) := by kernel_rfl
theorem fkA1 : addE (fkT 1 0) (blA 2) 0 (idA 2) = (0, idA 2, fkT 2 0) := by kernel_rfl
theorem fkA2 : addE (fkT 2 0) (blA 3) 0 (idA 3) = (0, idA 3, fkT 3 0) := by kernel_rfl
theorem fkA3 : addE (fkT 3 0) (blA 4) 0 (idA 4) = (0, idA 4, fkT 4 0) := by kernel_rfl
theorem fkA4 : addE (fkT 4 0) (blA 5) 0 (idA 5) = (0, idA 5, fkT 5 0) := by kernel_rfl
theorem fkA : ∀ {m : Nat}, m < 5 → addE (fkT m 0) (blA (m + 1)) 0 (idA (m + 1)) = (0, idA (m + 1), fkT (m + 1) 0)
  | 0, _ => fkA0
  | 1, _ => fkA1
  | 2, _ => fkA2
  | 3, _ => fkA3
  | 4, _ => fkA4
  | n + 5, h => by omega
theorem ripeA : ripeL (fkT 3 0) ⟨1, 3, idA 3, []⟩ = [idA 1] := by kernel_rfl
end Go.Proofs.YtobjojeliibinaaDoor

/- Walks, by program (wg.py) out of a spec. -/
namespace Go.Proofs.YtobjojeliibinaaDoor
open Go
set_option linter.unusedVariables false
set_option linter.unusedSimpArgs false


def genC : List Value := .int .i64 1 :: .int .i64 0 :: (dc dig0 ++ (qcC ++ [.slice none 0 0, .slice none 0 0]))
theorem genC_len : genC.length = 39 := by simp [genC, dc_length, qcC]
theorem rdGen {w : World} {A : Nat → Prop} : RdBlock w A genC g0 := ⟨qcC, none, 0, 0, none, 0, 0, rfl, rdQC0, Nat.le_refl _, RdList.nil, Nat.le_refl _, RdList.nil⟩
theorem rdQ1 {w : World} {A : Nat → Prop} (e r : Int) (d : Dig) : RdQC w A (.int .i64 e :: .int .i64 r :: (dc d ++ [.slice none 0 0])) ⟨e, r, d, []⟩ := ⟨none, 0, 0, rfl, Nat.le_refl _, RdList.nil⟩
theorem smQ1 (e r : Int) (d : Dig) : smQC ⟨e, r, d, []⟩ := ⟨by simp, fun _ h => by cases h⟩
def chC (b : Block) (id : Dig) (on : Int) (b24 : Nat) : List Value := .int .i64 b.epoch :: .int .i64 (b.round + on) :: (dc id ++ (.int .i64 b.epoch :: .int .i64 b.round :: (dc id ++ [.slice none 0 0, .slice (some ⟨b24, 0, none⟩) 1 1, .slice none 0 0])))
theorem chC_len (b : Block) (id : Dig) (on : Int) (b24 : Nat) : (chC b id on b24).length = 39 := by simp [chC, dc_length]
theorem chC_one (b : Block) (id : Dig) (on : Int) (b24 : Nat) : ∀ v ∈ chC b id on b24, v.oneCell' = true :=
  all_cons' rfl (all_cons' rfl (all_app' (dc_one _) (all_cons' rfl (all_cons' rfl (all_app' (dc_one _) (all_cons' rfl (all_cons' rfl (all_cons' rfl all_nil'))))))))
theorem rd_chC {w : World} {A : Nat → Prop} {b : Block} {id : Dig} {on : Int} {tx : UInt8} {b23 b24 : Nat} (h1 : RdRow w A 1 (some ⟨b24, 0, none⟩) 1 [.slice (some ⟨b23, 0, none⟩) 1 1]) (h2 : RdRow w A 1 (some ⟨b23, 0, none⟩) 1 [B8 tx]) : RdBlock w A (chC b id on b24) (chB b id on tx) :=
  ⟨_, some ⟨b24, 0, none⟩, 1, 1, none, 0, 0, by simp [chC, chB], rdQ1 b.epoch b.round id, Nat.le_refl _, ⟨[[.slice (some ⟨b23, 0, none⟩) 1 1]], h1, by simp, rfl, fun i x y hx hy => by
    match i with
    | 0 => simp at hx; subst hx; simp [chB] at hy; subst hy; exact ⟨_, _, _, rfl, Nat.le_refl _, h2⟩
    | i + 1 => simp at hx⟩, Nat.le_refl _, RdList.nil⟩
theorem vl_chC {w : World} {F : Nat → Prop} {b : Block} {id : Dig} {on : Int} {tx : UInt8} {b23 b24 e1 e2 : Nat} (h : stars [rowR e1 1 (some ⟨b24, 0, none⟩) 1 1 [.slice (some ⟨b23, 0, none⟩) 1 1], rowR e2 1 (some ⟨b23, 0, none⟩) 1 1 [B8 tx]] w F) : stars [VlR RdBlock (chC b id on b24) (chB b id on tx)] w F := by
  obtain ⟨F1, F2, h1, h2, hF⟩ := stars_two h
  exact rdR_mk (rd_chC ((rowR.rd h1).mv (still_sub fun k hk => (hF k).2 (.inl hk))) ((rowR.rd h2).mv (still_sub fun k hk => (hF k).2 (.inr hk)))) h
theorem digs_of_row {w : World} {A : Nat → Prop} {a : Option Addr} {n : Nat} {l : List Dig} (h : RdRow w A 16 a n (l.map dc).flatten) : RdList (fun cs d => cs = dc d) w A 16 a n l :=
  ⟨l.map dc, h, fun c hc => by obtain ⟨x, _, rfl⟩ := List.mem_map.1 hc; exact dc_length x, by simp, fun i c x hc hx => by rw [List.getElem?_map, hx] at hc; cases hc; rfl⟩
theorem digs_of_one {w : World} {A : Nat → Prop} {a : Option Addr} {d : Dig} (h : RdRow w A 16 a 1 (dc d)) : RdList (fun cs d => cs = dc d) w A 16 a 1 [d] := digs_of_row (by simpa using h)
theorem fkT_ok : ∀ {m : Nat}, m ≤ 5 → TOk (fkT m 0)
  | 0, _ => by rw [← fkT_new]; exact newT_ok rfl smB_g0 (smQ1 1 0 gid)
  | m + 1, h => by
    have h1 := addE_ok (fkT_ok (m := m) (by omega)) (b := blA (m + 1)) (err := 0) (id := idA (m + 1)) smB_ch
    rw [fkA (by omega)] at h1; exact h1
section
variable {w : World} {F : Nat → Prop} {ea : Nat → Addr} {es : List Nat}
theorem gnew_ok [Has es 1] [Has es 4] [Has es 12] (hE : GErr es w (fun k => ¬ F k) 146 ea) (hK : KR w (fun k => ¬ F k)) (h : stars [] w F) :
    Calls Tryd.prog 22 #[.agg genC.toArray, .agg (List.toArray (.int .i64 1 :: .int .i64 0 :: (dc gid ++ [.slice none 0 0])))] w (Post w F (fun x : Nat => .tuple #[.pointer (some ⟨x, 0, none⟩), eV 146 ea 0]) (fun x => [TreeR x (fkT 0 0)])) := by
  have h1 := tnew_ok (b := g0) (q := ⟨1, 0, gid, []⟩) hE hK h rdGen (rdQ1 1 0 gid) (fun _ => smB_g0) (smQ1 1 0 gid)
  rw [g0_id, g0_err, fk_new, fkT_new] at h1
  exact h1
theorem tadd_eq {q : Nat} {t t' : Tr} {cs : List Value} {b : Block} {id d : Dig} {e : Nat} [Has es 1] [Has es 4] [Has es 8] [Has es 9] [Has es 12] [Has es 14] [Has es 16] [Has es 17] (hE : GErr es w (fun k => ¬ F k) 146 ea) (hK : KR w (fun k => ¬ F k)) (h : stars [TreeR q t] w F) (hok : TOk t) (hb : RdBlock w (fun k => ¬ F k) cs b) (hs : smBlk b)
    (h0 : (wBlock b ⟨0, []⟩).err = 0) (hid : idOf b = id) (he : addE t b 0 id = (e, d, t')) :
    Calls Tryd.prog 12 #[.pointer (some ⟨q, 0, none⟩), .agg cs.toArray] w (Post w F (fun _ : Unit => .tuple #[.agg (dc d).toArray, eV 146 ea e]) (fun _ => [TreeR q t'])) := by
  have h1 := tadd_ok hE hK h hok hb (fun _ => hs)
  rw [h0, hid, he] at h1
  exact h1
end

attribute [local irreducible] Gl Gc Gx Gs Runs Wt

attribute [local irreducible] dc qcC blkC idOf TreeR gid fkT

set_option maxHeartbeats 400000 in
theorem genesis15_ok {w : World} {F : Nat → Prop} (h : stars [] w F) {ea : Nat → Addr} {es : List Nat} [Has es 1] [Has es 4] [Has es 12] (hE : GErr es w (fun k => ¬ F k) 146 ea) (hK : KR w (fun k => ¬ F k))  :
    Calls Tryd.prog 8 #[] w (Post w F (fun x : Nat => .tuple #[.pointer (some ⟨x, 0, none⟩), .agg genC.toArray, .agg (dc gid).toArray, .bool true]) (fun x => [TreeR x (fkT 0 0)])) := by
  have igen := Len.of genC_len
  have jgen := One.of (rdGen (w := w) (A := fun _ => True)).one
  refine g_enter (env := []) Tryd.func8 rfl h Tryd.ntmps8 rfl rfl ?_
  refine gsr ?_
  refine gp zas ?_
  refine zal fun b1 => ?_
  refine gl_eqc (cs' := blkC) (by repeat (first | exact Pick.here | apply Pick.there)) (by kernel_rfl) ?_
  refine zal fun b2 => ?_
  refine gp zas ?_
  refine gnt ?_
  refine gsr ?_
  refine gp (zbu (cs := genC) (hf := by kernel_rfl)) ?_
  refine zal fun b4 => ?_
  refine gl_eqc (cs' := blkC) (by repeat (first | exact Pick.here | apply Pick.there)) (by kernel_rfl) ?_
  refine zsA genC_len One.h ?_
  refine gnt ?_
  refine gsr ?_
  refine gp (zLa (cs := genC)) ?_
  refine zc (fun _ => ?_) (c := fun w1 F1 F2 h1 h2 hd hst => id_ok (x := g0) h1 (hE.mv hst.still) (hK.mv hst.still) rdGen)
  rw [g0_id, g0_err]
  refine gp zmv ?_
  refine gp zex ?_
  refine gp zex ?_
  refine zal fun b5 => ?_
  refine zsN ?_
  refine gp zas ?_
  refine gnt ?_
  refine gc_seq ?_
  refine gsr ?_
  refine gp zmv ?_
  refine gp (r_bool (c := false) (r_nenil rfl (by kernel_rfl)) rfl) ?_
  refine gnt ?_
  refine gc_condF rfl rfl ?_
  refine gc_skip ?_
  refine gx_then ?_
  refine gsr ?_
  refine gp (zLa (cs := genC)) ?_
  refine gp zL ?_
  refine gp (zbu (cs := .int .i64 1 :: .int .i64 0 :: (dc gid ++ [.slice none 0 0]))) ?_
  refine zc (fun q => ?_) (c := fun w1 F1 F2 h1 h2 hd hst => gnew_ok (hE.mv hst.still) (hK.mv hst.still) h1)
  refine gp zmv ?_
  refine gp zex ?_
  refine gp zex ?_
  refine gp zas ?_
  refine gp zas ?_
  refine gnt ?_
  refine gc_seq ?_
  refine gc_regionZ 12 ([blk b4 33 genC, blk b5 26 (dc gid)]) ?_
  refine yps 0 rfl zmv ?_
  refine yps 1 rfl (zLa (cs := genC)) ?_
  refine yps 2 rfl zL ?_
  refine yps 3 rfl zmv ?_
  refine yps 4 rfl (r_bool (c := true) (r_eqnil (k := 0) rfl (by kernel_rfl)) rfl) ?_
  refine yps 5 rfl zmv ?_
  refine yps 6 rfl zmv ?_
  refine yps 7 rfl (r_bool (c := true) (r_nepn rfl Ty.un_24) rfl) ?_
  refine yps 8 rfl zpk ?_
  refine yps 9 rfl zas ?_
  refine yos 10 rfl ?_
  refine zsA genC_len One.h ?_
  refine yxs ?_
  refine yos 11 rfl ?_
  refine zsN ?_
  refine yxs ?_
  refine yzs rfl ?_
  refine gp zas ?_
  refine gnt ?_
  refine gc_ret ?_
  refine gx_rettcct rfl rfl rfl (by conv => lhs; whnf) (by conv => lhs; whnf) (ld_aggS Ty.row_33 Ty.sz_33 (by repeat (first | exact Pick.here | apply Pick.there)) (by (simp only [List.drop_succ_cons, List.drop_zero, List.take_succ_cons, List.take_zero, List.cons_append, List.nil_append, List.append_assoc, drop_dc, drop_dc', take_dc, take_dc', drop_L, drop_L', take_L, take_L', len_L, Nat.reduceLeDiff, Nat.reduceSub, Nat.reduceAdd, Nat.le_refl, List.length_cons, List.length_append, List.length_nil, dc_length, List.drop_nil, List.take_nil, List.append_nil, List.length_map, List.length_replicate]; first | done | rfl)) (by first | rfl | (simp only [List.drop_succ_cons, List.drop_zero, List.take_succ_cons, List.take_zero, List.cons_append, List.nil_append, List.append_assoc, drop_dc, drop_dc', take_dc, take_dc', drop_L, drop_L', take_L, take_L', len_L, Nat.reduceLeDiff, Nat.reduceSub, Nat.reduceAdd, Nat.le_refl, List.length_cons, List.length_append, List.length_nil, dc_length, List.drop_nil, List.take_nil, List.append_nil, List.length_map, List.length_replicate]; first | done | omega))) (ld_aggS Ty.row_26 Ty.sz_26 (by repeat (first | exact Pick.here | apply Pick.there)) (by (simp only [List.drop_succ_cons, List.drop_zero, List.take_succ_cons, List.take_zero, List.cons_append, List.nil_append, List.append_assoc, drop_dc, drop_dc', take_dc, take_dc', drop_L, drop_L', take_L, take_L', len_L, Nat.reduceLeDiff, Nat.reduceSub, Nat.reduceAdd, Nat.le_refl, List.length_cons, List.length_append, List.length_nil, dc_length, List.drop_nil, List.take_nil, List.append_nil, List.length_map, List.length_replicate]; first | done | rfl)) (by first | rfl | (simp only [List.drop_succ_cons, List.drop_zero, List.take_succ_cons, List.take_zero, List.cons_append, List.nil_append, List.append_assoc, drop_dc, drop_dc', take_dc, take_dc', drop_L, drop_L', take_L, take_L', len_L, Nat.reduceLeDiff, Nat.reduceSub, Nat.reduceAdd, Nat.le_refl, List.length_cons, List.length_append, List.length_nil, dc_length, List.drop_nil, List.take_nil, List.append_nil, List.length_map, List.length_replicate]; first | done | omega))) ?_
  exact ze q

set_option maxHeartbeats 400000 in
theorem child15_ok {w : World} {F : Nat → Prop} {w' : World} {A : Nat → Prop} {cs : List Value} {b : Block} {id : Dig} {on : Int} {tx : UInt8} (h : stars [] w F) (hb : RdBlock w' A cs b) (h1 : -1000000000 ≤ b.round ∧ b.round ≤ 1000000000) (h2 : -1000000000 ≤ on ∧ on ≤ 1000000000) :
    Calls Tryd.prog 9 #[.agg cs.toArray, .agg (dc id).toArray, .int .i64 on, B8 tx] w (Post w F (fun x : Nat × Nat => .agg (chC b id on x.2).toArray) (fun x => [rowR 54 1 (some ⟨x.2, 0, none⟩) 1 1 [.slice (some ⟨x.1, 0, none⟩) 1 1], rowR 5 1 (some ⟨x.1, 0, none⟩) 1 1 [B8 tx]])) := by
  obtain ⟨qj, a1, n1, c1, a2, n2, c2, rfl, hj, _⟩ := hb
  have ij := Len.of hj.len
  have jj := One.of hj.one
  refine g_enter (env := [(0, _), (1, .agg (dc id).toArray), (2, .int .i64 on), (3, B8 tx)]) Tryd.func9 rfl h Tryd.ntmps9 rfl rfl ?_
  refine gsr ?_
  refine zbN fun b4 => ?_
  refine zbN fun b5 => ?_
  refine zal fun b8 => ?_
  refine gl_eqc (cs' := blkC) (by repeat (first | exact Pick.here | apply Pick.there)) (by kernel_rfl) ?_
  refine gnt ?_
  refine gsr ?_
  refine gp zfa ?_
  refine gp zl ?_
  refine gp zfa ?_
  refine gp zl ?_
  refine gp zmv ?_
  refine gp (r_int (j := b.round + on) zad (wrap_i64 (by omega) (by omega))) ?_
  refine gp zL ?_
  refine gp zfa ?_
  refine gp zl ?_
  refine gp zfa ?_
  refine gp zl ?_
  refine gp zL ?_
  refine gp (zbu (cs := .int .i64 b.epoch :: .int .i64 b.round :: (dc id ++ [.slice none 0 0]))) ?_
  refine gp zmv ?_
  refine ze1 fun b23 => ?_
  refine ze1 fun b24 => ?_
  refine gp (zbu (cs := .int .i64 b.epoch :: .int .i64 (b.round + on) :: (dc id ++ (.int .i64 b.epoch :: .int .i64 b.round :: (dc id ++ [.slice none 0 0, .slice (some ⟨b24, 0, none⟩) 1 1, .slice none 0 0]))))) ?_
  refine zsN ?_
  refine gnt ?_
  refine gc_ret ?_
  refine gx_retc rfl rfl (ld_aggS Ty.row_33 Ty.sz_33 (by repeat (first | exact Pick.here | apply Pick.there)) (by (simp only [List.drop_succ_cons, List.drop_zero, List.take_succ_cons, List.take_zero, List.cons_append, List.nil_append, List.append_assoc, drop_dc, drop_dc', take_dc, take_dc', drop_L, drop_L', take_L, take_L', len_L, Nat.reduceLeDiff, Nat.reduceSub, Nat.reduceAdd, Nat.le_refl, List.length_cons, List.length_append, List.length_nil, dc_length, List.drop_nil, List.take_nil, List.append_nil, List.length_map, List.length_replicate]; first | done | rfl)) (by first | rfl | (simp only [List.drop_succ_cons, List.drop_zero, List.take_succ_cons, List.take_zero, List.cons_append, List.nil_append, List.append_assoc, drop_dc, drop_dc', take_dc, take_dc', drop_L, drop_L', take_L, take_L', len_L, Nat.reduceLeDiff, Nat.reduceSub, Nat.reduceAdd, Nat.le_refl, List.length_cons, List.length_append, List.length_nil, dc_length, List.drop_nil, List.take_nil, List.append_nil, List.length_map, List.length_replicate]; first | done | omega))) ?_
  exact ze (b23, b24)

set_option maxHeartbeats 400000 in
theorem same03_ok {w : World} {F : Nat → Prop} {a1 a2 : Option Addr} {n1 n2 c1 c2 : Nat} {l1 l2 : List Dig} (h : stars [] w F) (hx : RdList (fun cs d => cs = dc d) w (fun k => ¬ F k) 16 a1 n1 l1) (hy : RdList (fun cs d => cs = dc d) w (fun k => ¬ F k) 16 a2 n2 l2) :
    Calls Tryd.prog 14 #[.slice a1 n1 c1, .slice a2 n2 c2] w (Post w F (fun _ : Unit => .bool (decide (l1 = l2))) (fun _ => [])) := by
  have hn1 := hx.len (by decide)
  have hn2 := hy.len (by decide)
  have hm1 := hx.max
  have hm2 := hy.max
  simp only [maxLen] at hm1 hm2
  refine g_enter (env := [(0, .slice a1 n1 c1), (1, .slice a2 n2 c2)]) Tryd.func14 rfl h Tryd.ntmps14 rfl rfl ?_
  refine gsr ?_
  refine gp zas ?_
  refine gnt ?_
  refine gc_seq ?_
  refine gsr ?_
  refine gp zmv ?_
  refine gp zln ?_
  refine gp zmv ?_
  refine gp zln ?_
  refine gp zni ?_
  refine gnt ?_
  refine gif rfl (fun hc10 => ?_) (fun hc10 => ?_)
  · try simp only at hc10
    have hne : ¬ l1 = l2 := fun e => by subst e; omega
    refine gsr ?_
    refine gp zas ?_
    refine gnt ?_
    refine gc_ret ?_
    refine gx_then_ret ?_
    refine gx_ret1 rfl (by conv => lhs; whnf) ?_
    exact fun w' hw => ⟨(), by rw [decide_eq_false hne], hw.sel (by repeat (first | exact Sel.nil | (apply Sel.cons; · (repeat (first | exact Pick.here | apply Pick.there)))))⟩
  · try simp only at hc10
    have hnn : n1 = n2 := by omega
    refine gc_skip ?_
    refine gx_then ?_
    refine gc_seq ?_
    refine gsr ?_
    refine gp zmv ?_
    refine gp zln ?_
    refine gp zmv ?_
    refine gnt ?_
    refine gc_block ?_
    refine gc_loop (α := Nat) (fun k => [pureR (k ≤ n1 ∧ ∀ i, i < k → l1[i]? = l2[i]?)]) (fun k => [(13, .int .i64 (k : Int))]) [4, 5, 14, 15, 16, 17, 18, 19, 20, 21, 22, 23, 24, 25] (fun k => n1 - k) 0 ?_ ?_ ?_
    · refine env_start (by kernel_rfl)
    · exact zlp ⟨Nat.zero_le _, fun i hi => absurd hi (Nat.not_lt_zero _)⟩
    · intro k u
      refine gc_pureR (fun hk => ?_)
      replace hk : k ≤ n1 ∧ ∀ i, i < k → l1[i]? = l2[i]? := hk
      refine gsr ?_
      refine gp zlt ?_
      refine gnt ?_
      refine gc_seq ?_
      refine gif rfl (fun hc14 => ?_) (fun hc14 => ?_)
      · try simp only at hc14
        have hk' : k < n1 := by omega
        obtain ⟨g1, o1, ce1, d1, ha1, hA1, _, hra1, hl1, hdx, rfl⟩ := hx.elem (i := k) (by decide) hk'
        obtain ⟨g2, o2, ce2, d2, ha2, hA2, _, hra2, hl2, hdy, rfl⟩ := hy.elem (i := k) (by decide) (by omega)
        subst ha1
        subst ha2
        refine gc_skip ?_
        refine gx_then ?_
        refine gc_seq ?_
        refine gc_block ?_
        refine gsr ?_
        refine gp zmv ?_
        refine gp zas ?_
        refine gnt ?_
        refine gc_seq ?_
        refine gc_regionS (by kernel_rfl) (by kernel_rfl) ?_
        refine sp zmv ?_
        refine sp zmv ?_
        refine sp (r_val (v' := .pointer (some ⟨g1, o1 + k * 16, none⟩)) zia (by simp)) ?_
        refine sp (r_ldNo (seg := dc d1) rfl Ty.row_26 Ty.sz_26 hra1 (dc_length _) (by decide) hA1) ?_
        refine sp zmv ?_
        refine sp zmv ?_
        refine sp (r_val (v' := .pointer (some ⟨g2, o2 + k * 16, none⟩)) zia (by simp)) ?_
        refine sp (r_ldNo (seg := dc d2) rfl Ty.row_26 Ty.sz_26 hra2 (dc_length _) (by decide) hA2) ?_
        refine sp znd ?_
        refine gs_nil ?_
        refine gx_then ?_
        refine gif rfl (fun hc24 => ?_) (fun hc24 => ?_)
        · try simp only at hc24
          have hne : ¬ l1 = l2 := fun e => by subst e; rw [hdx] at hdy; cases hdy; simp at hc24
          refine gsr ?_
          refine gp zas ?_
          refine gnt ?_
          refine gc_ret ?_
          refine gx_block_ret ?_
          refine gx_then_ret ?_
          refine gx_round_ret ?_
          refine gx_block_ret ?_
          refine gx_then_ret ?_
          refine gx_ret1 rfl (by conv => lhs; whnf) ?_
          exact fun w' hw => ⟨(), by rw [decide_eq_false hne], hw.sel (by repeat (first | exact Sel.nil | (apply Sel.cons; · (repeat (first | exact Pick.here | apply Pick.there)))))⟩
        · try simp only at hc24
          have heq : d1 = d2 := by simpa using hc24
          refine gc_skip ?_
          refine gx_block_normal ?_
          refine gx_then ?_
          refine gc_region ?_
          refine gp zad ?_
          refine gp zmv ?_
          refine gl_nil ?_
          refine zrd (k + 1) ?_ ?_
          · show n1 - (k + 1) < n1 - k
            omega
          · exact zlp (show k + 1 ≤ n1 ∧ ∀ i, i < k + 1 → l1[i]? = l2[i]? from ⟨by omega, fun i hi => (by by_cases h' : i < k; exact hk.2 i h'; (obtain rfl : i = k := by omega); rw [hdx, hdy, heq])⟩)
      · try simp only at hc14
        have hk' : k = n1 := by omega
        have heq : l1 = l2 := List.ext_getElem? fun i => by (by_cases h' : i < n1; exact hk.2 i (by omega); rw [List.getElem?_eq_none (by omega), List.getElem?_eq_none (by omega)])
        refine gc_exit ?_
        refine gx_then_exit ?_
        refine gx_round_exit ?_
        refine gx_block_hit ?_
        refine gx_then ?_
        refine gsr ?_
        refine gp zas ?_
        refine gnt ?_
        refine gc_ret ?_
        refine gx_ret1 rfl (by conv => lhs; whnf) ?_
        exact fun w' hw => ⟨(), by rw [decide_eq_true heq], hw.sel (by repeat (first | exact Sel.nil | (apply Sel.cons; · (repeat (first | exact Pick.here | apply Pick.there)))))⟩

end Go.Proofs.YtobjojeliibinaaDoor

/- Walks, by program (wg.py) out of a spec. -/
namespace Go.Proofs.YtobjojeliibinaaDoor
open Go
set_option linter.unusedVariables false
set_option linter.unusedSimpArgs false

attribute [local irreducible] Gl Gc Gx Gs Runs Wt

attribute [local irreducible] dc qcC blkC idOf TreeR RdBlock RdQC gid fkT genC chC

set_option maxHeartbeats 400000 in
theorem alive15_ok {w : World} {F : Nat → Prop} (h : stars [] w F) {ea : Nat → Addr} {es : List Nat} [Has es 1] [Has es 4] [Has es 8] [Has es 9] [Has es 12] [Has es 14] [Has es 16] [Has es 17] (hE : GErr es w (fun k => ¬ F k) 146 ea) (hK : KR w (fun k => ¬ F k))  :
    Calls Tryd.prog 7 #[] w (Post w F (fun _ : Unit => .bool true) (fun _ => [])) := by
  refine g_enter (env := []) Tryd.func7 rfl h Tryd.ntmps7 rfl rfl ?_
  refine gsr ?_
  refine gp zas ?_
  refine gnt ?_
  refine gsr ?_
  refine zc (fun q => ?_) (c := fun w1 F1 F2 h1 h2 hd hst => genesis15_ok h1 (hE.mv hst.still) (hK.mv hst.still))
  have igen := Len.of genC_len
  have jgen := One.of (rdGen (w := w) (A := fun _ => True)).one
  refine gp zmv ?_
  refine gp zex ?_
  refine gp zex ?_
  refine gp zex ?_
  refine gp zex ?_
  refine zal fun b2 => ?_
  refine gl_eqc (cs' := blkC) (by repeat (first | exact Pick.here | apply Pick.there)) (by kernel_rfl) ?_
  refine zal fun b3 => ?_
  refine gp zas ?_
  refine zsA genC_len One.h ?_
  refine zsN ?_
  refine gp zas ?_
  refine gnt ?_
  refine gc_seq ?_
  refine gsr ?_
  refine gp zmv ?_
  refine gp (r_bool (c := false) znt rfl) ?_
  refine gnt ?_
  refine gc_condF rfl rfl ?_
  refine gc_skip ?_
  refine gx_then ?_
  refine gsr ?_
  refine gp (zba (cs := dc dig0) (hf := by kernel_rfl)) ?_
  refine zal fun b5 => ?_
  refine zsN ?_
  refine gnt ?_
  refine gc_seq ?_
  refine gsr ?_
  refine gp zmv ?_
  refine gnt ?_
  refine gc_block ?_
  refine gc_loop (α := Nat × List Value) (fun y => [pureR (y.1 ≤ 3 ∧ y.2.length = 39 ∧ ∀ v ∈ y.2, v.oneCell' = true), TreeR q (fkT y.1 0), blk b2 33 y.2, blk b3 26 (dc (idA y.1)), blk b5 26 (dc (if y.1 = 0 then dig0 else idA 1)), VlR RdBlock y.2 (blA y.1)]) (fun y => [(17, .int .i64 (y.1 : Int))]) [0, 6, 7, 18, 19, 20, 21, 22, 23, 24, 25, 26, 27, 28, 29, 30, 31, 32, 33, 34] (fun y => 3 - y.1) (0, genC) ?_ ?_ ?_
  · refine env_start (by kernel_rfl)
  · intro w' hw
    exact St.pureI (p := 0 ≤ 3 ∧ _ ∧ _) ⟨by decide, genC_len, One.h⟩ ((St.vl hw (rdGen (w := w') (A := fun _ => False))).sel (M := [TreeR q (fkT 0 0), blk b2 33 genC, blk b3 26 (dc gid), blk b5 26 (dc dig0), VlR RdBlock genC g0]) (by repeat (first | exact Sel.nil | (apply Sel.cons; · (repeat (first | exact Pick.here | apply Pick.there))))))
  · intro y u
    obtain ⟨k, cs⟩ := y
    refine gc_pureR (fun hk => ?_)
    obtain ⟨hk, hlc, hoc⟩ := hk
    replace hk : k ≤ 3 := hk
    replace hlc : cs.length = 39 := hlc
    have ic := Len.of hlc
    have jc := One.of (show ∀ v ∈ cs, v.oneCell' = true from hoc)
    have hrk := blA_round k
    refine gsr ?_
    refine gp zlt ?_
    refine gnt ?_
    refine gc_seq ?_
    refine gif rfl (fun hc18 => ?_) (fun hc18 => ?_)
    · try simp only at hc18
      have hk' : k < 3 := by omega
      refine gc_skip ?_
      refine gx_then ?_
      refine gc_seq ?_
      refine gc_block ?_
      refine gsr ?_
      refine gp zmv ?_
      refine gp zas ?_
      refine gnt ?_
      refine gsr ?_
      refine gp (zLa (cs := cs)) ?_
      refine gp zL ?_
      refine zc ?_ (c := fun w1 F1 F2 h1 h2 hd hst => child15_ok (b := blA k) (id := idA k) (on := 1) (tx := 1) h1 (vl_rd h2 hd (by repeat (first | exact Pick.here | apply Pick.there))) (by omega) (by decide))
      rintro ⟨b23, b24⟩
      have ich := Len.of (chC_len (blA k) (idA k) 1 b24)
      have jch := One.of (chC_one (blA k) (idA k) 1 b24)
      refine zsA (chC_len _ _ _ _) (chC_one _ _ _ _) ?_
      refine gnt ?_
      refine gsr ?_
      refine gp zas ?_
      refine gnt ?_
      refine gc_seq ?_
      refine gsr ?_
      refine gp zmv ?_
      refine gp (zLa (cs := chC (blA k) (idA k) 1 b24)) ?_
      refine zc (fun _ => ?_) (c := fun w1 F1 F2 h1 h2 hd hst => tadd_eq (b := blA (k + 1)) (hE.mv hst.still) (hK.mv hst.still) h1 (fkT_ok (by omega)) (rd_chC (b := blA k) (id := idA k) (on := 1) (tx := 1) (rd_row h2 hd (by repeat (first | exact Pick.here | apply Pick.there))) (rd_row h2 hd (by repeat (first | exact Pick.here | apply Pick.there)))) smB_ch (blA_err (by omega)) (blA_id (by omega)) (fkA (by omega)))
      refine gp zmv ?_
      refine gp zex ?_
      refine gp zex ?_
      refine zsN ?_
      refine gp zas ?_
      refine gnt ?_
      refine gsr ?_
      refine gp zmv ?_
      refine gp (r_bool (c := false) (r_nenil rfl (by kernel_rfl)) rfl) ?_
      refine gnt ?_
      refine gc_condF rfl rfl ?_
      refine gc_skip ?_
      refine gx_then ?_
      refine gsr ?_
      refine gp zmv ?_
      refine gp (r_bool (c := decide (k = 0)) zei (by rw [Bool.eq_iff_iff]; simp only [decide_eq_true_eq]; omega)) ?_
      refine gnt ?_
      refine gif rfl (fun hc32 => ?_) (fun hc32 => ?_)
      · try simp only at hc32
        have hk0 : k = 0 := by simpa using hc32
        refine gc_region ?_
        refine gp zL ?_
        refine zsN ?_
        refine gl_nil ?_
        refine gx_block_normal ?_
        refine gx_then ?_
        refine gc_region ?_
        refine gp zad ?_
        refine gp zmv ?_
        refine gl_nil ?_
        refine zrd ((k + 1, chC (blA k) (idA k) 1 b24)) ?_ ?_
        · show 3 - (k + 1) < 3 - k
          omega
        · obtain rfl : k = 0 := by omega
          intro w' hw
          have h1 := hw.conv (M := [rowR 54 1 (some ⟨b24, 0, none⟩) 1 1 [.slice (some ⟨b23, 0, none⟩) 1 1], rowR 5 1 (some ⟨b23, 0, none⟩) 1 1 [B8 1]]) (by repeat (first | exact Sel.nil | (apply Sel.cons; · (repeat (first | exact Pick.here | apply Pick.there))))) (fun _ _ => vl_chC (b := blA 0) (id := idA 0) (on := 1))
          exact St.pureI (p := 0 + 1 ≤ 3 ∧ _ ∧ _) ⟨by omega, chC_len _ _ _ _, chC_one _ _ _ _⟩ (h1.sel (M := [TreeR q (fkT (0 + 1) 0), blk b2 33 (chC (blA 0) (idA 0) 1 b24), blk b3 26 (dc (idA (0 + 1))), blk b5 26 (dc (idA (0 + 1))), VlR RdBlock (chC (blA 0) (idA 0) 1 b24) (blA (0 + 1))]) (by repeat (first | exact Sel.nil | (apply Sel.cons; · (repeat (first | exact Pick.here | apply Pick.there))))))
      · try simp only at hc32
        have hk0 : ¬ k = 0 := by simpa using hc32
        refine gc_skip ?_
        refine gx_block_normal ?_
        refine gx_then ?_
        refine gc_region ?_
        refine gp zad ?_
        refine gp zmv ?_
        refine gl_nil ?_
        refine zrd ((k + 1, chC (blA k) (idA k) 1 b24)) ?_ ?_
        · show 3 - (k + 1) < 3 - k
          omega
        · rw [if_neg (show ¬ k = 0 by omega)]
          intro w' hw
          have h1 := hw.conv (M := [rowR 54 1 (some ⟨b24, 0, none⟩) 1 1 [.slice (some ⟨b23, 0, none⟩) 1 1], rowR 5 1 (some ⟨b23, 0, none⟩) 1 1 [B8 1]]) (by repeat (first | exact Sel.nil | (apply Sel.cons; · (repeat (first | exact Pick.here | apply Pick.there))))) (fun _ _ => vl_chC (b := blA k) (id := idA k) (on := 1))
          exact St.pureI (p := k + 1 ≤ 3 ∧ _ ∧ _) ⟨by omega, chC_len _ _ _ _, chC_one _ _ _ _⟩ (h1.sel (M := [TreeR q (fkT (k + 1) 0), blk b2 33 (chC (blA k) (idA k) 1 b24), blk b3 26 (dc (idA (k + 1))), blk b5 26 (dc (idA 1)), VlR RdBlock (chC (blA k) (idA k) 1 b24) (blA (k + 1))]) (by repeat (first | exact Sel.nil | (apply Sel.cons; · (repeat (first | exact Pick.here | apply Pick.there))))))
    · try simp only at hc18
      have hk' : k = 3 := by omega
      subst hk'
      refine gc_exit ?_
      refine gx_then_exit ?_
      refine gx_round_exit ?_
      refine gx_block_hit ?_
      refine gx_then ?_
      refine gc_seq ?_
      refine gc_regionZ 7 ([blk b3 26 (dc (idA 3)), blk b5 26 (dc (if (3 : Nat) = 0 then dig0 else idA 1))]) ?_
      refine yps 0 rfl zmv ?_
      refine yps 1 rfl zL ?_
      refine yps 2 rfl (zbu (cs := .int .i64 1 :: .int .i64 3 :: (dc (idA 3) ++ [.slice none 0 0]))) ?_
      refine yps 4 rfl zL ?_
      refine yo2s 3 5 rfl rfl ?_ ?_
      · refine zc ?_ (c := fun w1 F1 F2 h1 h2 hd hst => tripe_ok (x := ⟨1, 3, idA 3, []⟩) (tr_rd h2 hd (by repeat (first | exact Pick.here | apply Pick.there))) (fkT_ok (show 3 ≤ 5 by decide)) h1 (rdQ1 1 3 (idA 3)) (by decide))
        rintro ⟨a38, c38⟩
        rw [ripeA]
        refine yxs ?_
        refine yos 5 rfl ?_
        refine zeN fun b40 => ?_
        refine yxs ?_
        refine yos 6 rfl ?_
        refine zc (fun _ => ?_) (c := fun w1 F1 F2 h1 h2 hd hst => same03_ok (l1 := [idA 1]) (l2 := [idA 1]) h1 (digs_of_row (rd_row h2 hd (by repeat (first | exact Pick.here | apply Pick.there)))) (digs_of_one (rd_row h2 hd (by repeat (first | exact Pick.here | apply Pick.there)))))
        refine yxs ?_
        refine yzs rfl ?_
        refine gp zas ?_
        refine gnt ?_
        refine gc_ret ?_
        refine gx_ret1 rfl (by conv => lhs; whnf) ?_
        exact fun w' hw => ⟨(), by simp, hw.sel (by repeat (first | exact Sel.nil | (apply Sel.cons; · (repeat (first | exact Pick.here | apply Pick.there)))))⟩
      · refine zeN fun b40 => ?_
        refine yxs ?_
        refine yos 3 rfl ?_
        refine zc ?_ (c := fun w1 F1 F2 h1 h2 hd hst => tripe_ok (x := ⟨1, 3, idA 3, []⟩) (tr_rd h2 hd (by repeat (first | exact Pick.here | apply Pick.there))) (fkT_ok (show 3 ≤ 5 by decide)) h1 (rdQ1 1 3 (idA 3)) (by decide))
        rintro ⟨a38, c38⟩
        rw [ripeA]
        refine yxs ?_
        refine yos 6 rfl ?_
        refine zc (fun _ => ?_) (c := fun w1 F1 F2 h1 h2 hd hst => same03_ok (l1 := [idA 1]) (l2 := [idA 1]) h1 (digs_of_row (rd_row h2 hd (by repeat (first | exact Pick.here | apply Pick.there)))) (digs_of_one (rd_row h2 hd (by repeat (first | exact Pick.here | apply Pick.there)))))
        refine yxs ?_
        refine yzs rfl ?_
        refine gp zas ?_
        refine gnt ?_
        refine gc_ret ?_
        refine gx_ret1 rfl (by conv => lhs; whnf) ?_
        exact fun w' hw => ⟨(), by simp, hw.sel (by repeat (first | exact Sel.nil | (apply Sel.cons; · (repeat (first | exact Pick.here | apply Pick.there)))))⟩

end Go.Proofs.YtobjojeliibinaaDoor

/- Plain words: a row of blocks, each below the one ahead of it, and its tree. No program in sight. -/
namespace Go.Proofs.YtobjojeliibinaaDoor
set_option linter.unusedVariables false
set_option linter.unusedSimpArgs false

theorem wFix_err {b : List UInt8} {s : WS} (h : s.err = 0) : (wFix b s).err = 0 := by unfold wFix; rw [if_pos h]; exact h
theorem wNum_err {n : Int} {wd : Nat} {s : WS} (h : s.err = 0) (h0 : 0 ≤ n) (h1 : n < 2 ^ (8 * wd)) : (wNum n wd s).err = 0 := by
  unfold wNum; rw [if_neg (by omega)]; exact wFix_err h
theorem wPut_nil {α : Type} {wX : α → WS → WS} {most : Nat} {s : WS} (h : s.err = 0) : (wPut wX [] most s).err = 0 := by
  unfold wPut; rw [if_neg (by simp)]; exact wNum_err h (by simp) (by simp)
theorem wPut_one {α : Type} {wX : α → WS → WS} {x : α} {most : Nat} {s : WS} (h : s.err = 0) (hm : 1 ≤ most) (hx : ∀ s : WS, s.err = 0 → (wX x s).err = 0) : (wPut wX [x] most s).err = 0 := by
  unfold wPut; rw [if_neg (by simp; omega)]; exact hx _ (wNum_err h (by simp) (by simp))
theorem blk_err {e r e2 r2 : Int} {p d : Dig} {tx : UInt8} (he : 0 ≤ e ∧ e < 4294967296) (hr : 0 ≤ r ∧ r < 281474976710656) (he2 : 0 ≤ e2 ∧ e2 < 4294967296) (hr2 : 0 ≤ r2 ∧ r2 < 281474976710656) :
    (wBlock ⟨e, r, p, ⟨e2, r2, d, []⟩, [[tx]], []⟩ ⟨0, []⟩).err = 0 := by
  have p4 : (2 : Int) ^ (8 * 4) = 4294967296 := by decide
  have p6 : (2 : Int) ^ (8 * 6) = 281474976710656 := by decide
  unfold wBlock wQC wAt wDig
  refine wPut_nil (wPut_one (wPut_nil (wFix_err (wNum_err (wNum_err (wFix_err (wNum_err (wNum_err rfl he.1 (by rw [p4]; exact he.2)) hr.1 (by rw [p6]; exact hr.2))) he2.1 (by rw [p4]; exact he2.2)) hr2.1 (by rw [p6]; exact hr2.2)))) (by decide) fun s hs => ?_)
  unfold wBytes
  rw [if_neg (by simp)]
  exact wFix_err (wNum_err hs (by simp) (by simp))

theorem askE_mk {t : Tr} {b p : Block} {id : Dig} (hn : lkN id t.nodes = none) (hp : lkN b.parent t.nodes = some p) (hf : fitsQ b.justify b.parent p = true) (he : b.epoch = p.epoch) (hr : p.round < b.round) (hl : t.nodes.length < 16) : askE t b 0 id = 0 := by
  unfold askE
  simp only [hn, hp, hf, he, Option.isSome_none, Bool.false_eq_true, if_false, if_true, and_self]
  rw [if_neg (by omega), if_neg (by omega)]
theorem askE_there {t : Tr} {b x : Block} {id : Dig} (h : lkN id t.nodes = some x) : askE t b 0 id = 17 := by
  unfold askE
  simp [h]
attribute [local irreducible] idOf gid
section
variable (st : Nat → Int)
def txN (k : Nat) : UInt8 := UInt8.ofNat ((k : Int) % 256).toNat
def lnB : Nat → Block
  | 0 => g0
  | k + 1 => chB (lnB k) (idOf (lnB k)) (st k) (txN k)
def lnI (k : Nat) : Dig := idOf (lnB st k)
def lnN (k : Nat) : List (Dig × Block) := (List.range (k + 1)).map fun i => (lnI st i, lnB st i)
def lnQ (i : Nat) : QC := ⟨1, (lnB st i).round, lnI st i, []⟩
def lnC (k : Nat) : List QC := (List.range (max 1 k)).map (lnQ st)
def lnT (k : Nat) : Tr := ⟨gid, lnN st k, lnC st k⟩
def lnD (k : Nat) : List Dig := (List.range (k + 1)).map (lnI st)
variable {st}
theorem lnI_zero : lnI st 0 = gid := g0_id
theorem lnB_zero : lnB st 0 = g0 := rfl
theorem lnB_succ (k : Nat) : lnB st (k + 1) = chB (lnB st k) (lnI st k) (st k) (txN k) := rfl
theorem lnD_succ (k : Nat) : lnD st (k + 1) = lnD st k ++ [lnI st (k + 1)] := by simp [lnD, List.range_succ]
theorem lnN_succ (k : Nat) : lnN st (k + 1) = lnN st k ++ [(lnI st (k + 1), lnB st (k + 1))] := by simp [lnN, List.range_succ]
theorem lnD_len (k : Nat) : (lnD st k).length = k + 1 := by simp [lnD]
theorem keys_ln (k : Nat) : keysT (lnT st k) = lnD st k := by simp [keysT, lnT, lnN, lnD, Function.comp_def]
theorem lnT_zero : lnT st 0 = fkT 0 0 := by
  have h : lnI st 0 = gid := lnI_zero
  have hq : lnQ st 0 = qcA 0 := by simp [lnQ, h, lnB, g0, qcA, idA]
  simp only [lnT, lnN, lnC, fkT]
  simp [List.range_succ, h, lnB, hq]
theorem ln_epoch : ∀ k, (lnB st k).epoch = 1
  | 0 => rfl
  | k + 1 => ln_epoch k
/-- Each step goes on, and not far. -/
structure StOk (st : Nat → Int) : Prop where
  lo : ∀ i, 1 ≤ st i
  hi : ∀ i, st i ≤ 1000
theorem ln_round (h : StOk st) : ∀ k, 0 ≤ (lnB st k).round ∧ (lnB st k).round ≤ 1000 * k
  | 0 => by simp [lnB, g0]
  | k + 1 => by
    have ih := ln_round h k
    have h1 := h.lo k; have h2 := h.hi k
    have e : (lnB st (k + 1)).round = (lnB st k).round + st k := rfl
    omega
theorem ln_mono (h : StOk st) : ∀ {i j : Nat}, i < j → (lnB st i).round < (lnB st j).round
  | i, 0, hij => by omega
  | i, j + 1, hij => by
    have e : (lnB st (j + 1)).round = (lnB st j).round + st j := rfl
    have h1 := h.lo j
    by_cases hh : i = j
    · subst hh; omega
    · have := ln_mono h (i := i) (j := j) (by omega); omega
theorem ln_err (h : StOk st) : ∀ k, k ≤ 100 → (wBlock (lnB st k) ⟨0, []⟩).err = 0
  | 0, _ => g0_err
  | k + 1, hk => by
    have h1 := ln_round h k; have h2 := ln_round h (k + 1); have he := ln_epoch (st := st) k
    rw [lnB_succ]
    have e : (lnB st (k + 1)).round = (lnB st k).round + st k := rfl
    exact blk_err (by omega) (by omega) (by omega) (by omega)
theorem ln_sm : ∀ k, smBlk (lnB st k)
  | 0 => smB_g0
  | k + 1 => smB_ch
theorem lnN_at {k i : Nat} (h : i ≤ k) : (lnN st k)[i]? = some (lnI st i, lnB st i) := by simp [lnN, show i < k + 1 by omega]
theorem ln_lk {k i : Nat} (hn : (lnD st k).Nodup) (h : i ≤ k) : lkN (lnI st i) (lnN st k) = some (lnB st i) := by
  refine lkN_at ?_ (lnN_at h)
  have := keys_ln (st := st) k
  simp only [keysT, lnT] at this
  rw [this]; exact hn
theorem ln_mem {k : Nat} {d : Dig} {b : Block} (h : lkN d (lnN st k) = some b) : ∃ i, i ≤ k ∧ d = lnI st i ∧ b = lnB st i := by
  obtain ⟨i, hi⟩ := lkN_some h
  have hlt := (List.getElem?_eq_some_iff.1 hi).1
  simp only [lnN, List.length_map, List.length_range] at hlt
  rw [lnN_at (by omega)] at hi
  cases hi
  exact ⟨i, by omega, rfl, rfl⟩
theorem lnT_ok {k : Nat} (hn : (lnD st k).Nodup) (hk : k < 16) : TOk (lnT st k) where
  nd := by rw [keys_ln]; exact hn
  hd := by
    have h0 := lnN_at (st := st) (Nat.zero_le k)
    cases hl : lnN st k with
    | nil => rw [hl] at h0; cases h0
    | cons p r =>
      rw [hl] at h0
      have h1 : p = (lnI st 0, lnB st 0) := Option.some.inj h0
      exact ⟨g0, r, by show lnN st k = _; rw [hl, h1, lnI_zero, lnB_zero]; rfl⟩
  par := fun i d b h => by
    have hlt := (List.getElem?_eq_some_iff.1 h).1
    simp only [lnT, lnN, List.length_map, List.length_range] at hlt
    have h' : (lnN st k)[i + 1]? = some (d, b) := h
    rw [lnN_at (by omega)] at h'
    cases h'
    exact ⟨i, lnB st i, Nat.le_refl _, lnN_at (by omega)⟩
  le := by simp [lnT, lnN]; omega
  ce := by simp [lnT, lnC]; omega
  cn := by
    have e : (lnC st k).map (fun q => q.block) = (lnD st k).take (max 1 k) := by
      simp only [lnC, lnD, List.map_map, ← List.map_take]
      rw [List.take_range, Nat.min_eq_left (by omega)]; rfl
    simp only [lnT]; rw [e]
    exact hn.sublist (List.take_sublist _ _)
  ck := fun q hq => by
    simp only [lnT, lnC, List.mem_map, List.mem_range] at hq
    obtain ⟨i, hi, rfl⟩ := hq
    rw [keys_ln]
    exact List.mem_map.2 ⟨i, List.mem_range.2 (by omega), rfl⟩
  sb := fun d b h => by obtain ⟨i, _, _, rfl⟩ := ln_mem h; exact ln_sm i
  sq := fun q hq => by
    simp only [lnT, lnC, List.mem_map] at hq
    obtain ⟨i, _, rfl⟩ := hq
    exact ⟨by simp [lnQ], fun s hs => by cases hs⟩
theorem certF_at {d : Dig} : ∀ {l : List QC} {i : Nat} {q : QC}, (l.map (fun q => q.block)).Nodup → l[i]? = some q → q.block = d → certF d l = some q
  | [], i, q, _, h, _ => by simp at h
  | x :: l, 0, q, _, h, he => by simp at h; subst h; simp [certF, he]
  | x :: l, i + 1, q, hn, h, he => by
    simp only [List.map_cons, List.nodup_cons] at hn
    simp only [List.getElem?_cons_succ] at h
    unfold certF
    rw [if_neg (fun e => hn.1 (by rw [e, ← he]; exact List.mem_map.2 ⟨q, List.mem_of_getElem? h, rfl⟩)), certF_at hn.2 h he]
/-- A further block is taken, as long as its id is a new one. -/
theorem ln_add (h : StOk st) {k : Nat} (hn : (lnD st k).Nodup) (hk : k < 15) (hnew : lnI st (k + 1) ∉ lnD st k) : addE (lnT st k) (lnB st (k + 1)) 0 (lnI st (k + 1)) = (0, lnI st (k + 1), lnT st (k + 1)) := by
  have hlk := ln_lk hn (Nat.le_refl k)
  have hnone : lkN (lnI st (k + 1)) (lnN st k) = none := lkN_none.2 (by
    have := keys_ln (st := st) k
    simp only [keysT, lnT] at this
    rw [this]; exact hnew)
  have hm := ln_mono h (Nat.lt_succ_self k)
  have hpar : (lnB st (k + 1)).parent = lnI st k := rfl
  have hjus : (lnB st (k + 1)).justify = lnQ st k := by rw [lnB_succ]; simp only [chB, lnQ, ln_epoch]
  have hep : (lnB st (k + 1)).epoch = (lnB st k).epoch := rfl
  have hfit : fitsQ (lnQ st k) (lnI st k) (lnB st k) = true := by simp [fitsQ, lnQ, ln_epoch]
  have hask : askE (lnT st k) (lnB st (k + 1)) 0 (lnI st (k + 1)) = 0 := by
    exact askE_mk (t := lnT st k) (p := lnB st k) hnone (by rw [hpar]; exact hlk) (by rw [hjus, hpar]; exact hfit) hep hm (by simp [lnT, lnN]; omega)
  have hput : (putT (lnT st k) (lnB st (k + 1)) (lnI st (k + 1))).nodes = lnN st (k + 1) := by rw [lnN_succ]; rfl
  have hlk2 : lkN (lnI st k) (putT (lnT st k) (lnB st (k + 1)) (lnI st (k + 1))).nodes = some (lnB st k) := by
    show lkN _ (lnN st k ++ _) = _
    rw [lkN_append, hlk]; rfl
  have hlearn : learnE (putT (lnT st k) (lnB st (k + 1)) (lnI st (k + 1))) (lnQ st k) = (0, lnT st (k + 1)) := by
    unfold learnE
    rw [show (lnQ st k).block = lnI st k from rfl, hlk2]
    simp only [hfit, if_true]
    congr 1
    have hok := lnT_ok hn (by omega)
    cases k with
    | zero =>
      have hc : certF (lnI st 0) (lnC st 0) = some (lnQ st 0) := certF_at (i := 0) hok.cn (by simp [lnC]) rfl
      rw [show (putT (lnT st 0) (lnB st (0 + 1)) (lnI st (0 + 1))).certs = lnC st 0 from rfl, hc]
      simp only [Option.isSome_some, if_true]
      show Tr.mk gid _ _ = Tr.mk gid _ _
      rw [lnN_succ]; rfl
    | succ k =>
      have hc : certF (lnI st (k + 1)) (lnC st (k + 1)) = none := certF_none.2 (by
        intro hm2
        obtain ⟨q, hq, e⟩ := List.mem_map.1 hm2
        simp only [lnC, List.mem_map, List.mem_range] at hq
        obtain ⟨i, hi, rfl⟩ := hq
        have hi' : i < k + 1 := by omega
        have h1 : (lnD st (k + 1))[i]? = some (lnI st i) := by simp [lnD, show i < k + 1 + 1 by omega]
        have h2 : (lnD st (k + 1))[k + 1]? = some (lnI st (k + 1)) := by simp [lnD]
        have e' : lnI st i = lnI st (k + 1) := e
        have := (List.getElem?_inj (i := i) (j := k + 1) (by rw [lnD_len]; omega) hn).1 (by rw [h1, h2, e'])
        omega)
      rw [show (putT (lnT st (k + 1)) (lnB st (k + 1 + 1)) (lnI st (k + 1 + 1))).certs = lnC st (k + 1) from rfl, hc]
      simp only [Option.isSome_none, Bool.false_eq_true, if_false]
      show Tr.mk gid _ _ = Tr.mk gid _ _
      congr 1
      · simp only [lnC]
        rw [show max 1 (k + 1) = k + 1 by omega, show max 1 (k + 1 + 1) = k + 1 + 1 by omega]
        simp [List.range_succ]
  unfold addE
  rw [if_pos hask, hjus, hlearn]
theorem ln_nodup {k : Nat} (hn : (lnD st k).Nodup) (hnew : lnI st (k + 1) ∉ lnD st k) : (lnD st (k + 1)).Nodup := by
  rw [lnD_succ]
  exact List.nodup_append.2 ⟨hn, by simp, fun x hx y hy e => by simp at hy; subst hy; subst e; exact hnew hx⟩
/-- What is there is refused. -/
theorem ln_twice {k i : Nat} (hn : (lnD st k).Nodup) (hi : i ≤ k) : addE (lnT st k) (lnB st i) 0 (lnI st i) = (17, dig0, lnT st k) := by
  have ha : askE (lnT st k) (lnB st i) 0 (lnI st i) = 17 := by
    exact askE_there (t := lnT st k) (ln_lk hn hi)
  unfold addE
  rw [if_neg (by rw [ha]; decide), ha]
/-- A block whose parent is another one than the last, but that says the last one's round of it. -/
def strayB (b : Block) (d p : Dig) (on : Int) (tx : UInt8) : Block := ⟨b.epoch, b.round + on, p, ⟨b.epoch, b.round, p, []⟩, [[tx]], []⟩
theorem ln_stray (h : StOk st) {k : Nat} (hn : (lnD st k).Nodup) {p : Dig} (hp : p ≠ lnI st k) (d : Dig) (on : Int) (tx : UInt8) (err : Nat) (id : Dig) : ∃ e, e ≠ 0 ∧ addE (lnT st k) (strayB (lnB st k) d p on tx) err id = (e, dig0, lnT st k) := by
  have ha : askE (lnT st k) (strayB (lnB st k) d p on tx) err id ≠ 0 := fun hz => by
    obtain ⟨_, _, x, hx, hf, _⟩ := askE_zero hz
    have hx' : lkN p (lnN st k) = some x := hx
    obtain ⟨i, hi, rfl, rfl⟩ := ln_mem hx'
    have hik : i < k := by
      rcases Nat.lt_or_ge i k with h' | h'
      · exact h'
      · exact absurd (by rw [show i = k by omega]) hp
    have hm := ln_mono h hik
    simp only [fitsQ, strayB, decide_eq_true_eq] at hf
    omega
  exact ⟨_, ha, by unfold addE; rw [if_neg ha]⟩
end
end Go.Proofs.YtobjojeliibinaaDoor

/- Walks, by program (wg.py) out of a spec. -/
namespace Go.Proofs.YtobjojeliibinaaDoor
open Go
set_option linter.unusedVariables false
set_option linter.unusedSimpArgs false


def on3 (x : Int) : Nat := 1 + ((IntKind.u64.wrap x).tmod 3).toNat
theorem on3_eq (x : Int) : (IntKind.u64.wrap x).tmod 3 = ((on3 x - 1 : Nat) : Int) ∧ 1 ≤ on3 x ∧ on3 x ≤ 3 := by
  have := u64_rem x (m := 3) (by decide)
  unfold on3
  refine ⟨by rw [Nat.add_sub_cancel_left]; exact this.1, by omega, by have h2 : ((IntKind.u64.wrap x).tmod 3).toNat < 3 := this.2; omega⟩
def st3 (l : List Int) (i : Nat) : Int := (on3 (l.getD i 0) : Int)
theorem st3_at (l : List Int) (k : Nat) : st3 l k = ((on3 (l.getD k 0) : Nat) : Int) := rfl
theorem lnI_def (st : Nat → Int) (i : Nat) : idOf (lnB st i) = lnI st i := rfl
theorem vl_ln {st : Nat → Int} {k b23 b24 e1 e2 : Nat} {w : World} {F : Nat → Prop} (h : stars [rowR e1 1 (some ⟨b24, 0, none⟩) 1 1 [.slice (some ⟨b23, 0, none⟩) 1 1], rowR e2 1 (some ⟨b23, 0, none⟩) 1 1 [B8 (txN k)]] w F) : stars [VlR RdBlock (chC (lnB st k) (lnI st k) (st k) b24) (lnB st (k + 1))] w F := vl_chC h
theorem St.vlOfB {w0 w : World} {F0 : Nat → Prop} {L L' : List Res} {cs : List Value} {x : Block} (h : St w0 F0 L w) (hp : Pick L (VlR RdBlock cs x) L') : ∃ w A, RdBlock w A cs x := by
  obtain ⟨F, hF, _⟩ := h
  obtain ⟨F1, h1, _⟩ := stars_pick hp hF
  exact ⟨w, F1, h1.1⟩
theorem st3_ok (l : List Int) : StOk (st3 l) := ⟨fun i => by have := on3_eq (l.getD i 0); unfold st3; omega, fun i => by have := on3_eq (l.getD i 0); unfold st3; omega⟩
theorem txN_eq (k : Nat) : Value.int .u8 (IntKind.u8.wrap (k : Int)) = B8 (txN k) := byte_int
def lnA (st : Nat → Int) (k : Nat) : List Block := (List.range k).map fun i => lnB st (i + 1)
theorem lnA_succ (st : Nat → Int) (k : Nat) : lnA st (k + 1) = lnA st k ++ [lnB st (k + 1)] := by simp [lnA, List.range_succ]
theorem lnA_at {st : Nat → Int} {k i : Nat} (h : i < k) : (lnA st k)[i]? = some (lnB st (i + 1)) := by simp [lnA, h]
def bump0 (d : Dig) : Dig := ⟨d.l.set 0 (d.l.getD 0 0 + 1), by rw [List.length_set, d.h]⟩
theorem bump0_ne (d : Dig) : bump0 d ≠ d := fun e => by
  have h := congrArg (fun x : Dig => x.l.getD 0 0) e
  have hd := d.h
  simp only [bump0, List.getD, List.getElem?_set, show (0 : Nat) < d.l.length by omega, if_true] at h
  simp at h
theorem b8_succ0 (b : UInt8) : Value.int .u8 (IntKind.u8.wrap ((b.toNat : Int) + 1)) = B8 (b + 1) := by
  simp only [B8, Value.int.injEq, true_and]
  have h : (b + 1).toNat = (b.toNat + 1) % 256 := by rw [UInt8.toNat_add]; rfl
  rw [h]
  simp only [IntKind.wrap, IntKind.bits, IntKind.signed]
  simp
theorem bump0_cells (d : Dig) : updL (dc d) 0 [B8 (d.l.getD 0 0 + 1)] = dc (bump0 d) := updL_set (V := B8) (l := d.l) (i := 0) (by rw [d.h]; decide)
theorem dc_zero (d : Dig) : (dc d)[0]? = some (B8 (d.l.getD 0 0)) := by
  have hd := d.h
  simp [dc, List.getD, show 0 < d.l.length by omega]
def stC (b : Block) (p d : Dig) (on : Int) (b24 : Nat) : List Value := .int .i64 b.epoch :: .int .i64 (b.round + on) :: (dc p ++ (.int .i64 b.epoch :: .int .i64 b.round :: (dc d ++ [.slice none 0 0, .slice (some ⟨b24, 0, none⟩) 1 1, .slice none 0 0])))
theorem stC_len (b : Block) (p d : Dig) (on : Int) (b24 : Nat) : (stC b p d on b24).length = 39 := by simp [stC, dc_length]
theorem stC_one (b : Block) (p d : Dig) (on : Int) (b24 : Nat) : ∀ v ∈ stC b p d on b24, v.oneCell' = true :=
  all_cons' rfl (all_cons' rfl (all_app' (dc_one _) (all_cons' rfl (all_cons' rfl (all_app' (dc_one _) (all_cons' rfl (all_cons' rfl (all_cons' rfl all_nil'))))))))
theorem stC_ch (b : Block) (id : Dig) (on : Int) (b24 : Nat) : chC b id on b24 = stC b id id on b24 := rfl
theorem stC_at (b : Block) (p d : Dig) (on : Int) (b24 : Nat) : (stC b p d on b24)[2]? = some (B8 (p.l.getD 0 0)) := by
  show (dc p ++ _)[0]? = _
  rw [List.getElem?_append_left (by rw [dc_length]; decide)]; exact dc_zero p
theorem stC_up1 (b : Block) (p d : Dig) (on : Int) (b24 : Nat) : updL (stC b p d on b24) 2 [B8 (p.l.getD 0 0 + 1)] = stC b (bump0 p) d on b24 := by
  rw [stC, stC, ← bump0_cells]
  have e := updL_row (hd := [Value.int .i64 b.epoch, .int .i64 (b.round + on)]) (xs := dc p) (tl := .int .i64 b.epoch :: .int .i64 b.round :: (dc d ++ [.slice none 0 0, .slice (some ⟨b24, 0, none⟩) 1 1, .slice none 0 0])) (new := [B8 (p.l.getD 0 0 + 1)]) (i := 0) rfl (by rw [dc_length]; simp)
  exact e
theorem stC_up2 (b : Block) (p d : Dig) (on : Int) (b24 : Nat) : updL (stC b p d on b24) 20 (dc p) = stC b p p on b24 := by
  rw [stC, stC]
  have hh : (Value.int .i64 b.epoch :: .int .i64 (b.round + on) :: (dc p ++ [.int .i64 b.epoch, .int .i64 b.round])).length = 20 := by simp [dc_length]
  have e := updL_row (hd := Value.int .i64 b.epoch :: .int .i64 (b.round + on) :: (dc p ++ [.int .i64 b.epoch, .int .i64 b.round])) (xs := dc d) (tl := [.slice none 0 0, .slice (some ⟨b24, 0, none⟩) 1 1, .slice none 0 0]) (new := dc p) (i := 0) hh (by rw [dc_length, dc_length]; decide)
  have e2 : updL (dc d) 0 (dc p) = dc p := updL_all (by rw [dc_length, dc_length])
  rw [e2] at e
  simpa using e
theorem rd_stC {w : World} {A : Nat → Prop} {b : Block} {p d : Dig} {on : Int} {tx : UInt8} {b23 b24 : Nat} (h1 : RdRow w A 1 (some ⟨b24, 0, none⟩) 1 [.slice (some ⟨b23, 0, none⟩) 1 1]) (h2 : RdRow w A 1 (some ⟨b23, 0, none⟩) 1 [B8 tx]) : RdBlock w A (stC b p p on b24) (strayB b d p on tx) :=
  ⟨_, some ⟨b24, 0, none⟩, 1, 1, none, 0, 0, by simp [stC, strayB], rdQ1 b.epoch b.round p, Nat.le_refl _, ⟨[[.slice (some ⟨b23, 0, none⟩) 1 1]], h1, by simp, rfl, fun i x y hx hy => by
    match i with
    | 0 => simp at hx; subst hx; simp [strayB] at hy; subst hy; exact ⟨_, _, _, rfl, Nat.le_refl _, h2⟩
    | i + 1 => simp at hx⟩, Nat.le_refl _, RdList.nil⟩
theorem stC_par (b : Block) (p d : Dig) (on : Int) (b24 : Nat) : ((stC b p d on b24).drop 2).take 16 = dc p := by
  show List.take 16 (dc p ++ _) = _
  exact List.take_left' (dc_length p)
theorem tadd_any {q : Nat} {t t' : Tr} {cs : List Value} {b : Block} {d : Dig} {e : Nat} {w : World} {F : Nat → Prop} {ea : Nat → Addr} {es : List Nat} [Has es 1] [Has es 4] [Has es 8] [Has es 9] [Has es 12] [Has es 14] [Has es 16] [Has es 17] (hE : GErr es w (fun k => ¬ F k) 146 ea) (hK : KR w (fun k => ¬ F k)) (h : stars [TreeR q t] w F) (hok : TOk t) (hb : RdBlock w (fun k => ¬ F k) cs b) (hs : smBlk b)
    (he : addE t b (wBlock b ⟨0, []⟩).err (idOf b) = (e, d, t')) :
    Calls Tryd.prog 12 #[.pointer (some ⟨q, 0, none⟩), .agg cs.toArray] w (Post w F (fun _ : Unit => .tuple #[.agg (dc d).toArray, eV 146 ea e]) (fun _ => [TreeR q t'])) := by
  have h1 := tadd_ok hE hK h hok hb (fun _ => hs)
  rw [he] at h1
  exact h1
theorem sm_stray {b : Block} {d p : Dig} {on : Int} {tx : UInt8} : smBlk (strayB b d p on tx) := ⟨⟨by simp [strayB], fun _ h => by cases h⟩, by simp [strayB], by simp [strayB], fun x h => by simp [strayB] at h; subst h; simp⟩

attribute [local irreducible] Gl Gc Gx Gs Runs Wt

attribute [local irreducible] dc qcC blkC idOf TreeR RdBlock RdQC gid fkT genC chC

set_option maxHeartbeats 400000 in
theorem has15_ok {w : World} {F : Nat → Prop} {a : Option Addr} {n c : Nat} {d : Dig} {l : List Dig} (h : stars [] w F) (hx : RdList (fun cs d => cs = dc d) w (fun k => ¬ F k) 16 a n l) :
    Calls Tryd.prog 11 #[.slice a n c, .agg (dc d).toArray] w (Post w F (fun _ : Unit => .bool (decide (d ∈ l))) (fun _ => [])) := by
  have hn := hx.len (by decide)
  have hm := hx.max
  simp only [maxLen] at hm
  refine g_enter (env := [(0, .slice a n c), (1, .agg (dc d).toArray)]) Tryd.func11 rfl h Tryd.ntmps11 rfl rfl ?_
  refine gsr ?_
  refine zbN fun b3 => ?_
  refine gp zas ?_
  refine gnt ?_
  refine gc_seq ?_
  refine gsr ?_
  refine gp zmv ?_
  refine gp zln ?_
  refine gp zmv ?_
  refine gnt ?_
  refine gc_block ?_
  refine gc_loop (α := Nat) (fun k => [pureR (k ≤ n ∧ ∀ i, i < k → l[i]? ≠ some d), blk b3 26 (dc d)]) (fun k => [(9, .int .i64 (k : Int))]) [4, 6, 10, 11, 12, 13, 14, 15, 16] (fun k => n - k) 0 ?_ ?_ ?_
  · refine env_start (by kernel_rfl)
  · exact zlp ⟨Nat.zero_le _, fun i hi => absurd hi (Nat.not_lt_zero _)⟩
  · intro k u
    refine gc_pureR (fun hk => ?_)
    replace hk : k ≤ n ∧ ∀ i, i < k → l[i]? ≠ some d := hk
    refine gsr ?_
    refine gp zlt ?_
    refine gnt ?_
    refine gc_seq ?_
    refine gif rfl (fun hc10 => ?_) (fun hc10 => ?_)
    · try simp only at hc10
      have hk' : k < n := by omega
      obtain ⟨g1, o1, ce1, d1, ha1, hA1, _, hra1, hl1, hdx, rfl⟩ := hx.elem (i := k) (by decide) hk'
      subst ha1
      refine gc_skip ?_
      refine gx_then ?_
      refine gc_seq ?_
      refine gc_block ?_
      refine gsr ?_
      refine gp (r_val (v' := .pointer (some ⟨g1, o1 + k * 16, none⟩)) zia (by simp)) ?_
      refine gp (r_ldNo (seg := dc d1) rfl Ty.row_26 Ty.sz_26 hra1 (dc_length _) (by decide) hA1) ?_
      refine zal fun b6 => ?_
      refine zsN ?_
      refine gnt ?_
      refine gsr ?_
      refine gp zL ?_
      refine gp zL ?_
      refine gp zed ?_
      refine gnt ?_
      refine gif rfl (fun hc15 => ?_) (fun hc15 => ?_)
      · try simp only at hc15
        have heq : d1 = d := by simpa using hc15
        subst heq
        have hin : d1 ∈ l := List.mem_of_getElem? hdx
        refine gsr ?_
        refine gp zas ?_
        refine gnt ?_
        refine gc_ret ?_
        refine gx_block_ret ?_
        refine gx_then_ret ?_
        refine gx_round_ret ?_
        refine gx_block_ret ?_
        refine gx_then_ret ?_
        refine gx_ret1 rfl (by conv => lhs; whnf) ?_
        exact fun w' hw => ⟨(), by rw [decide_eq_true hin], hw.sel (by repeat (first | exact Sel.nil | (apply Sel.cons; · (repeat (first | exact Pick.here | apply Pick.there)))))⟩
      · try simp only at hc15
        have hne : ¬ d1 = d := by simpa using hc15
        refine gc_skip ?_
        refine gx_block_normal ?_
        refine gx_then ?_
        refine gc_region ?_
        refine gp zad ?_
        refine gp zmv ?_
        refine gl_nil ?_
        refine zrd (k + 1) ?_ ?_
        · show n - (k + 1) < n - k
          omega
        · exact zlp (show k + 1 ≤ n ∧ ∀ i, i < k + 1 → l[i]? ≠ some d from ⟨by omega, fun i hi => (by by_cases h' : i < k; exact hk.2 i h'; (obtain rfl : i = k := by omega); rw [hdx]; intro e; cases e; exact hne rfl)⟩)
    · try simp only at hc10
      have hk' : k = n := by omega
      have hni : ¬ d ∈ l := fun hm => by obtain ⟨i, hi, he⟩ := List.mem_iff_getElem.1 hm; exact hk.2 i (by omega) (by rw [List.getElem?_eq_getElem hi, he])
      refine gc_exit ?_
      refine gx_then_exit ?_
      refine gx_round_exit ?_
      refine gx_block_hit ?_
      refine gx_then ?_
      refine gsr ?_
      refine gp zas ?_
      refine gnt ?_
      refine gc_ret ?_
      refine gx_ret1 rfl (by conv => lhs; whnf) ?_
      exact fun w' hw => ⟨(), by rw [decide_eq_false hni], hw.sel (by repeat (first | exact Sel.nil | (apply Sel.cons; · (repeat (first | exact Pick.here | apply Pick.there)))))⟩

end Go.Proofs.YtobjojeliibinaaDoor

