/- Walks, by program (wg.py) out of a spec. -/
import Derived.Test.YtkgbbnhdioghmaaDoorRf
namespace Go.Proofs.YtkgbbnhdioghmaaDoor
open Go
set_option linter.unusedVariables false
set_option linter.unusedSimpArgs false


def NoZ {α : Type} (p : PR α) : Prop := ∀ b, p b ≠ .error 0
theorem noz_pure {α : Type} (x : α) : NoZ (pPure x) := fun b h => by cases h
theorem noz_err {α : Type} {e : Nat} (h : e ≠ 0) : NoZ (pErr (α := α) e) := fun b hh => by injection hh with hh; exact h hh
theorem noz_take (n : Nat) : NoZ (pTake n) := fun b h => by unfold pTake at h; split at h <;> cases h
theorem noz_bind {α β : Type} {p : PR α} {f : α → PR β} (hp : NoZ p) (hf : ∀ x, NoZ (f x)) : NoZ (pBind p f) := fun b h => by
  unfold pBind at h
  split at h
  · rename_i e he; injection h with h; subst h; exact hp b he
  · rename_i x he; exact hf _ _ h
theorem noz_num (wd : Nat) : NoZ (pNum wd) := noz_bind (noz_take wd) fun _ => noz_pure _
theorem noz_dig : NoZ pDig := noz_bind (noz_take 16) fun _ => noz_pure _
theorem noz_many {α : Type} {p : PR α} (h : NoZ p) : ∀ n, NoZ (pMany p n)
  | 0 => noz_pure _
  | n + 1 => noz_bind h fun _ => noz_bind (noz_many h n) fun _ => noz_pure _
theorem noz_ite {α : Type} {c : Prop} [Decidable c] {p q : PR α} (hp : NoZ p) (hq : NoZ q) : NoZ (if c then p else q) := by split <;> assumption
theorem noz_list {α : Type} {p : PR α} (h : NoZ p) (most : Nat) : NoZ (pList p most) := noz_bind (noz_num 1) fun _ => noz_ite (noz_err (by decide)) (noz_many h _)
theorem noz_bytes (most : Nat) : NoZ (pBytes most) := noz_bind (noz_num 2) fun _ => noz_ite (noz_err (by decide)) (noz_take _)
theorem noz_sig : NoZ pSig := noz_bind (noz_num 1) fun _ => noz_bind (noz_list noz_dig 68) fun _ => noz_bind (noz_list noz_dig 5) fun _ => noz_pure _
theorem noz_signed : NoZ pSigned := noz_bind (noz_num 1) fun _ => noz_bind noz_sig fun _ => noz_pure _
theorem noz_at : NoZ pAt := noz_bind (noz_num 4) fun _ => noz_bind (noz_num 6) fun _ => noz_pure _
theorem noz_qc : NoZ pQC := noz_bind noz_at fun _ => noz_bind noz_dig fun _ => noz_bind (noz_list noz_signed 7) fun _ => noz_pure _
theorem noz_late : NoZ pLate := noz_bind (noz_num 1) fun _ => noz_bind (noz_num 6) fun _ => noz_bind noz_sig fun _ => noz_pure _
theorem noz_tc : NoZ pTC := noz_bind noz_at fun _ => noz_bind (noz_list noz_late 7) fun _ => noz_pure _
theorem noz_vdr : NoZ pVdr := noz_bind noz_dig fun _ => noz_bind (noz_num 6) fun _ => noz_pure _
theorem noz_block : NoZ pBlock := noz_bind noz_at fun _ => noz_bind noz_dig fun _ => noz_bind noz_qc fun _ => noz_bind (noz_list (noz_bytes 16) 4) fun _ => noz_bind (noz_list noz_vdr 7) fun _ => noz_pure _
theorem noz_chg : NoZ pChg := noz_bind (noz_many noz_block 3) fun _ => noz_bind noz_qc fun _ => noz_pure _
theorem noz_vote : NoZ pVote := noz_bind noz_at fun _ => noz_bind noz_dig fun _ => noz_bind noz_signed fun _ => noz_pure _
theorem noz_tmo : NoZ pTmo := noz_bind noz_at fun _ => noz_bind noz_qc fun _ => noz_bind noz_tc fun _ => noz_bind noz_signed fun _ => noz_pure _
theorem noz_prop : NoZ pProp := noz_bind noz_block fun _ => noz_bind noz_tc fun _ => noz_bind noz_signed fun _ => noz_pure _
theorem noz_body (k : Int) : NoZ (pBody k) := by
  unfold pBody
  exact noz_ite (noz_bind noz_vote fun _ => noz_pure _) (noz_ite (noz_bind noz_tmo fun _ => noz_pure _) (noz_ite (noz_bind noz_prop fun _ => noz_pure _) (noz_ite (noz_bind noz_dig fun _ => noz_bind noz_dig fun _ => noz_pure _)
    (noz_ite (noz_bind noz_block fun _ => noz_pure _) (noz_ite (noz_bind noz_chg fun _ => noz_pure _) (noz_err (by decide)))))))
theorem noz_msg : NoZ pMsg := noz_bind (noz_num 1) noz_body
def allE {α : Type} (p : PR α) (z : α) (b : List UInt8) : Nat × α := match pAll p b with
  | .ok m => (0, m)
  | .error k => (k, z)
theorem allE_fin {α : Type} {p : PR α} {z v : α} {b : List UInt8} (hp : NoZ p) (h : Ag p (.ok b) v) : doneE (rstep p (.ok b)) = (allE p z b).1 ∧ (doneE (rstep p (.ok b)) = 0 → (allE p z b).2 = v) ∧ (doneE (rstep p (.ok b)) ≠ 0 → (allE p z b).2 = z) := by
  unfold allE pAll
  cases hb : p b with
  | error e =>
    have he : e ≠ 0 := fun h0 => hp b (by rw [hb, h0])
    simp only [rstep, hb, doneE]
    exact ⟨trivial, fun h => absurd h he, fun _ => trivial⟩
  | ok x =>
    obtain ⟨y, r⟩ := x
    have hy := h b y r rfl hb
    cases r with
    | nil => simp only [rstep, hb, doneE, if_true]; exact ⟨trivial, fun _ => hy.symm, fun h => absurd rfl h⟩
    | cons c t => simp [rstep, hb, doneE]
instance {k : Int} {a b : Dig} : Len (msgC k a b) 304 := ⟨by rw [msgC]; simp only [List.length_cons, List.length_append, dc_length, len_L]⟩
instance {k : Int} {a b : Dig} : One (msgC k a b) := One.of (by unfold msgC; repeat (first | exact One.h | refine all_app' (dc_one _) ?_ | refine all_app' One.h ?_ | refine all_cons' rfl ?_))

attribute [local irreducible] Gl Gc Gx Gs Runs Wt

attribute [local irreducible] voteC tmoC propC blkC chgC sgnC tcC qcC dc msgC

set_option maxHeartbeats 400000 in
theorem decode1_ok {w : World} {F : Nat → Prop} {TE : Nat} {ea : Nat → Addr} {g : Nat} {σ : RSt} (h : stars [RdrR TE ea g σ] w F) {es : List Nat} [Has es 1] [Has es 2] [Has es 4] (hE : GErr es w (fun k => ¬ F k) TE ea) :
    Calls Tryd.prog 61 #[.agg (List.toArray [.pointer (some ⟨g, 0, none⟩)])] w (Post w F (fun r : List Value × Msg => .agg r.1.toArray) (fun r => [pureR (Ag pMsg σ r.2 ∧ r.1.length = 304 ∧ ∀ v ∈ r.1, v.oneCell' = true), VlR RdMsg r.1 r.2, RdrR TE ea g (rstep pMsg σ)])) := by
  refine g_enter (env := [(0, .agg (List.toArray [.pointer (some ⟨g, 0, none⟩)]))]) Tryd.func61 rfl h Tryd.ntmps61 rfl rfl ?_
  refine gsr ?_
  refine zbN fun b1 => ?_
  refine zal fun b2 => ?_
  refine gl_eqc (cs' := msgC 0 dig0 dig0) (by repeat (first | exact Pick.here | apply Pick.there)) (by kernel_rfl) ?_
  refine gnt ?_
  refine gc_seq ?_
  refine gc_regionZ 5 ([blk b1 126 [.pointer (some ⟨g, 0, none⟩)]]) ?_
  refine yps 0 rfl zL ?_
  refine yps 1 rfl zfa ?_
  refine yps 2 rfl zl ?_
  refine yos 3 rfl ?_
  refine zc (fun x => ?_) (c := fun w1 F1 F2 h1 h2 hd hst => rnum_ok (wd := 1) h1 (hE.mv hst.still) (by decide) (by decide))
  refine gl_pureR (fun hp6 => ?_)
  obtain ⟨g6, _⟩ := hp6
  refine yxs ?_
  refine yos 4 rfl ?_
  refine zc ?_ (c := fun w1 F1 F2 h1 h2 hd hst => rbody_ok (n := (x : Int)) h1 (hE.mv hst.still))
  rintro ⟨q7, v7⟩
  refine gl_pureR (fun hp7 => ?_)
  obtain ⟨g7, z7, o7⟩ := hp7
  replace z7 : q7.length = _ := z7
  have i7 := Len.of z7
  have j7 := One.of (show ∀ v ∈ q7, v.oneCell' = true from o7)
  refine yxs ?_
  refine yzs rfl ?_
  refine zsN ?_
  refine gnt ?_
  refine gc_ret ?_
  refine gx_retc rfl rfl (ld_aggS Ty.row_67 Ty.sz_67 (by repeat (first | exact Pick.here | apply Pick.there)) (by (simp only [List.drop_succ_cons, List.drop_zero, List.take_succ_cons, List.take_zero, List.cons_append, List.nil_append, List.append_assoc, drop_dc, drop_dc', take_dc, take_dc', drop_L, drop_L', take_L, take_L', len_L, Nat.reduceLeDiff, Nat.reduceSub, Nat.reduceAdd, Nat.le_refl, List.length_cons, List.length_append, List.length_nil, dc_length, List.drop_nil, List.take_nil, List.append_nil, List.length_map, List.length_replicate]; first | done | rfl)) (by first | rfl | (simp only [List.drop_succ_cons, List.drop_zero, List.take_succ_cons, List.take_zero, List.cons_append, List.nil_append, List.append_assoc, drop_dc, drop_dc', take_dc, take_dc', drop_L, drop_L', take_L, take_L', len_L, Nat.reduceLeDiff, Nat.reduceSub, Nat.reduceAdd, Nat.le_refl, List.length_cons, List.length_append, List.length_nil, dc_length, List.drop_nil, List.take_nil, List.append_nil, List.length_map, List.length_replicate]; first | done | omega))) ?_
  have ha : Ag pMsg σ v7 := g6.bind g7
  have hr : rstep pMsg σ = rstep (pBody (x : Int)) (rstep (pNum 1) σ) := by rw [pMsg, rstep_bind g6]
  rw [hr]
  exact fun w' hw => ⟨(q7, v7), rfl, St.pureI ⟨ha, z7, o7⟩ (hw.sel (by repeat (first | exact Sel.nil | (apply Sel.cons; · (repeat (first | exact Pick.here | apply Pick.there))))))⟩

set_option maxHeartbeats 400000 in
theorem readMsg_ok {w : World} {F : Nat → Prop} {TE : Nat} {ea : Nat → Addr} {es : List Nat} [Has es 1] [Has es 2] [Has es 3] [Has es 4] {a : Option Addr} {n c : Nat} {b : List UInt8} (h : stars [] w F) (hE : GErr es w (fun k => ¬ F k) TE ea) (hx : RdRow w (fun k => ¬ F k) 1 a n (b.map B8)) (hb : n ≤ 1099511627776) :
    Calls Tryd.prog 60 #[.slice a n c, .func (.func 61) #[] #[]] w (Post w F (fun r : List Value => .tuple #[.agg r.toArray, eV TE ea (allE pMsg (msg0 0) b).1]) (fun r => [pureR (r.length = 304 ∧ ∀ v ∈ r, v.oneCell' = true), VlR RdMsg r (allE pMsg (msg0 0) b).2])) := by
  refine g_enter (env := [(0, .slice a n c), (1, .func (.func 61) #[] #[])]) Tryd.func60 rfl h Tryd.ntmps60 rfl rfl ?_
  refine gsr ?_
  refine zal fun b4 => ?_
  refine gl_eqc (cs' := msgC 0 dig0 dig0) (by repeat (first | exact Pick.here | apply Pick.there)) (by kernel_rfl) ?_
  refine gp zas ?_
  refine gnt ?_
  refine gsr ?_
  refine gp zmv ?_
  refine zc (fun g => ?_) (c := fun w1 F1 F2 h1 h2 hd hst => newReader_ok (TE := TE) (ea := ea) h1 (hx.mv hst.still) hb)
  refine gp zbu ?_
  refine zal fun b6 => ?_
  refine zsN ?_
  refine gnt ?_
  refine gsr ?_
  refine gp zmv ?_
  refine gp zL ?_
  refine gl_call (wt0 rfl) (e_callv (us := []) rfl Ty.call_61 rfl) (by repeat (first | exact Sel.nil | (apply Sel.cons; · (repeat (first | exact Pick.here | apply Pick.there))))) (fun w1 F1 F2 h1 h2 hd hst => decode1_ok h1 (hE.mv hst.still)) ?_
  rintro ⟨q15, v15⟩
  refine gl_pureR (fun hp15 => ?_)
  obtain ⟨g15, z15, o15⟩ := hp15
  replace z15 : q15.length = _ := z15
  have i15 := Len.of z15
  have j15 := One.of (show ∀ v ∈ q15, v.oneCell' = true from o15)
  have hfin := allE_fin (z := msg0 0) noz_msg g15
  refine zal fun b7 => ?_
  refine gl_eqc (cs' := msgC 0 dig0 dig0) (by repeat (first | exact Pick.here | apply Pick.there)) (by kernel_rfl) ?_
  refine zsN ?_
  refine gnt ?_
  refine gc_seq ?_
  refine gsr ?_
  refine gp zfa ?_
  refine gp zl ?_
  refine zc (fun _ => ?_) (c := fun w1 F1 F2 h1 h2 hd hst => rdone_ok h1 (hE.mv hst.still))
  refine gp zas ?_
  refine gnt ?_
  refine gsr ?_
  refine gp zmv ?_
  refine gp (r_bool (c := decide (¬ doneE (rstep pMsg (.ok b)) = 0)) (r_nenil rfl (by kernel_rfl)) (by simp)) ?_
  refine gnt ?_
  refine gif rfl (fun hc20 => ?_) (fun hc20 => ?_)
  · refine gsr ?_
    refine zal fun b9 => ?_
    refine gl_eqc (cs' := msgC 0 dig0 dig0) (by repeat (first | exact Pick.here | apply Pick.there)) (by kernel_rfl) ?_
    refine gnt ?_
    refine gsr ?_
    refine gp zL ?_
    refine gp zmv ?_
    refine zsN ?_
    refine gp zas ?_
    refine gnt ?_
    refine gc_ret ?_
    refine gx_then_ret ?_
    refine gx_retct rfl rfl (by conv => lhs; whnf) (ld_aggS Ty.row_67 Ty.sz_67 (by repeat (first | exact Pick.here | apply Pick.there)) (by (simp only [List.drop_succ_cons, List.drop_zero, List.take_succ_cons, List.take_zero, List.cons_append, List.nil_append, List.append_assoc, drop_dc, drop_dc', take_dc, take_dc', drop_L, drop_L', take_L, take_L', len_L, Nat.reduceLeDiff, Nat.reduceSub, Nat.reduceAdd, Nat.le_refl, List.length_cons, List.length_append, List.length_nil, dc_length, List.drop_nil, List.take_nil, List.append_nil, List.length_map, List.length_replicate]; first | done | rfl)) (by first | rfl | (simp only [List.drop_succ_cons, List.drop_zero, List.take_succ_cons, List.take_zero, List.cons_append, List.nil_append, List.append_assoc, drop_dc, drop_dc', take_dc, take_dc', drop_L, drop_L', take_L, take_L', len_L, Nat.reduceLeDiff, Nat.reduceSub, Nat.reduceAdd, Nat.le_refl, List.length_cons, List.length_append, List.length_nil, dc_length, List.drop_nil, List.take_nil, List.append_nil, List.length_map, List.length_replicate]; first | done | omega))) ?_
    rw [← hfin.1, hfin.2.2 hc20]
    intro w' hw
    exact ⟨msgC 0 dig0 dig0, rfl, St.pureI ⟨Len.h, One.h⟩ ((hw.mapL fun F' hF' => vl_pure (rd := RdMsg) (show RdMsg _ _ (msgC 0 dig0 dig0) (msg0 0) from rdMsgOf 0 dig0 dig0) hF').sel (by repeat (first | exact Sel.nil | (apply Sel.cons; · (repeat (first | exact Pick.here | apply Pick.there))))))⟩
  · refine gc_skip ?_
    refine gx_then ?_
    refine gsr ?_
    refine gp zL ?_
    refine zsN ?_
    refine gp zas ?_
    refine gnt ?_
    refine gc_ret ?_
    refine gx_retct rfl rfl (by conv => lhs; whnf) (ld_aggS Ty.row_67 Ty.sz_67 (by repeat (first | exact Pick.here | apply Pick.there)) (by (simp only [List.drop_succ_cons, List.drop_zero, List.take_succ_cons, List.take_zero, List.cons_append, List.nil_append, List.append_assoc, drop_dc, drop_dc', take_dc, take_dc', drop_L, drop_L', take_L, take_L', len_L, Nat.reduceLeDiff, Nat.reduceSub, Nat.reduceAdd, Nat.le_refl, List.length_cons, List.length_append, List.length_nil, dc_length, List.drop_nil, List.take_nil, List.append_nil, List.length_map, List.length_replicate]; first | done | rfl)) (by first | rfl | (simp only [List.drop_succ_cons, List.drop_zero, List.take_succ_cons, List.take_zero, List.cons_append, List.nil_append, List.append_assoc, drop_dc, drop_dc', take_dc, take_dc', drop_L, drop_L', take_L, take_L', len_L, Nat.reduceLeDiff, Nat.reduceSub, Nat.reduceAdd, Nat.le_refl, List.length_cons, List.length_append, List.length_nil, dc_length, List.drop_nil, List.take_nil, List.append_nil, List.length_map, List.length_replicate]; first | done | omega))) ?_
    have hc0 : doneE (rstep pMsg (.ok b)) = 0 := by omega
    rw [← hfin.1, hfin.2.1 hc0, hc0, eV_zero]
    intro w' hw
    exact ⟨q15, rfl, St.pureI ⟨z15, o15⟩ (hw.sel (by repeat (first | exact Sel.nil | (apply Sel.cons; · (repeat (first | exact Pick.here | apply Pick.there))))))⟩

set_option maxHeartbeats 400000 in
theorem decode_ok {w : World} {F : Nat → Prop} {TE : Nat} {ea : Nat → Addr} {es : List Nat} [Has es 1] [Has es 2] [Has es 3] [Has es 4] {a : Option Addr} {n c : Nat} {b : List UInt8} (h : stars [] w F) (hE : GErr es w (fun k => ¬ F k) TE ea) (hx : RdRow w (fun k => ¬ F k) 1 a n (b.map B8)) (hb : n ≤ 1099511627776) :
    Calls Tryd.prog 24 #[.slice a n c] w (Post w F (fun r : List Value => .tuple #[.agg r.toArray, eV TE ea (allE pMsg (msg0 0) b).1]) (fun r => [pureR (r.length = 304 ∧ ∀ v ∈ r, v.oneCell' = true), VlR RdMsg r (allE pMsg (msg0 0) b).2])) := by
  refine g_enter (env := [(0, .slice a n c)]) Tryd.func24 rfl h Tryd.ntmps24 rfl rfl ?_
  refine gsr ?_
  refine zal fun b2 => ?_
  refine gl_eqc (cs' := msgC 0 dig0 dig0) (by repeat (first | exact Pick.here | apply Pick.there)) (by kernel_rfl) ?_
  refine gp zas ?_
  refine gnt ?_
  refine gsr ?_
  refine gp zmv ?_
  refine zc (fun q5 => ?_) (c := fun w1 F1 F2 h1 h2 hd hst => readMsg_ok h1 (hE.mv hst.still) (hx.mv hst.still) hb)
  refine gl_pureR (fun hq => ?_)
  have i5 := Len.of hq.1
  have j5 := One.of hq.2
  refine gp zex ?_
  refine gp zex ?_
  refine zsN ?_
  refine gp zas ?_
  refine gnt ?_
  refine gc_ret ?_
  refine gx_retct rfl rfl (by conv => lhs; whnf) (ld_aggS Ty.row_67 Ty.sz_67 (by repeat (first | exact Pick.here | apply Pick.there)) (by (simp only [List.drop_succ_cons, List.drop_zero, List.take_succ_cons, List.take_zero, List.cons_append, List.nil_append, List.append_assoc, drop_dc, drop_dc', take_dc, take_dc', drop_L, drop_L', take_L, take_L', len_L, Nat.reduceLeDiff, Nat.reduceSub, Nat.reduceAdd, Nat.le_refl, List.length_cons, List.length_append, List.length_nil, dc_length, List.drop_nil, List.take_nil, List.append_nil, List.length_map, List.length_replicate]; first | done | rfl)) (by first | rfl | (simp only [List.drop_succ_cons, List.drop_zero, List.take_succ_cons, List.take_zero, List.cons_append, List.nil_append, List.append_assoc, drop_dc, drop_dc', take_dc, take_dc', drop_L, drop_L', take_L, take_L', len_L, Nat.reduceLeDiff, Nat.reduceSub, Nat.reduceAdd, Nat.le_refl, List.length_cons, List.length_append, List.length_nil, dc_length, List.drop_nil, List.take_nil, List.append_nil, List.length_map, List.length_replicate]; first | done | omega))) ?_
  exact fun w' hw => ⟨q5, rfl, St.pureI hq (hw.sel (by repeat (first | exact Sel.nil | (apply Sel.cons; · (repeat (first | exact Pick.here | apply Pick.there))))))⟩

end Go.Proofs.YtkgbbnhdioghmaaDoor
