/- Walks, by program (wg.py) out of a spec. -/
import Derived.Test.YtkgbbnhdioghmaaDoorWf
import Derived.Test.YtkgbbnhdioghmaaDoorHe
namespace Go.Proofs.YtkgbbnhdioghmaaDoor
open Go
set_option linter.unusedVariables false
set_option linter.unusedSimpArgs false


def wEnc (m : Msg) : WS := if m.kind < 1 ∨ 6 < m.kind then ⟨4, []⟩ else wMsg m ⟨0, []⟩
def idOf (b : Block) : Dig := if (wBlock b ⟨0, []⟩).err = 0 then dOf Kc 6 [(wBlock b ⟨0, []⟩).bs] else dig0
theorem wVote_len (v : Vote) (s : WS) : (wVote v s).bs.length ≤ s.bs.length + 1198 := by
  have h1 := wAt_len v.epoch v.round s; have h2 := wDig_len v.block (wAt v.epoch v.round s); have h3 := wSigned_len v.sender (wDig v.block (wAt v.epoch v.round s)); unfold wVote; omega
theorem wTmo_len (v : Tmo) (s : WS) : (wTmo v s).bs.length ≤ s.bs.length + 17670 := by
  have h1 := wAt_len v.epoch v.round s; have h2 := wQC_len v.high (wAt v.epoch v.round s); have h3 := wTC_len v.last (wQC v.high (wAt v.epoch v.round s)); have h4 := wSigned_len v.sender (wTC v.last (wQC v.high (wAt v.epoch v.round s))); unfold wTmo; omega
theorem wProp_len (v : Prop') (s : WS) : (wProp v s).bs.length ≤ s.bs.length + 17914 := by
  have h1 := wBlock_len v.block s; have h2 := wTC_len v.last (wBlock v.block s); have h3 := wSigned_len v.sender (wTC v.last (wBlock v.block s)); unfold wProp; omega
theorem wChg_len (c : Chg) (h : c.blocks.length = 3) (s : WS) : (wChg c s).bs.length ≤ s.bs.length + 33686 := by
  have h1 := foldl_len (c := 8485) (fun b s => wBlock_len b s) c.blocks s; have h2 := wQC_len c.qc (c.blocks.foldl (fun s b => wBlock b s) s); rw [h] at h1; unfold wChg; omega
theorem wBody_len (m : Msg) (h : m.chg.blocks.length = 3) (s : WS) : (wBody m s).bs.length ≤ s.bs.length + 33686 := by
  have h1 := wVote_len m.vote s; have h2 := wTmo_len m.tmo s; have h3 := wProp_len m.prop s; have h4 := wDig_len m.wantFrom s; have h5 := wDig_len m.wantBlock (wDig m.wantFrom s); have h6 := wBlock_len m.reply s; have h7 := wChg_len m.chg h s
  unfold wBody; split; omega; split; omega; split; omega; split; omega; split <;> omega
theorem wMsg_len (m : Msg) (h : m.chg.blocks.length = 3) (s : WS) : (wMsg m s).bs.length ≤ s.bs.length + 33687 := by
  have h1 := wNum_len m.kind 1 s; have h2 := wBody_len m h (wNum m.kind 1 s); unfold wMsg; omega
theorem RdMsg.three {w : World} {A : Nat → Prop} {cs : List Value} {m : Msg} (h : RdMsg w A cs m) : m.chg.blocks.length = 3 := by
  obtain ⟨v, t, p, r, c, h1, h2, h3, h4, h5, h6⟩ := h; obtain ⟨css, q, h1, h2, h3, h4, h5, h6⟩ := h6; exact h4
theorem RdList.single {α : Type} {rd : List Value → α → Prop} {w : World} {A : Nat → Prop} {size : Nat} {a : Option Addr} {cs : List Value} {x : α} (hr : RdRow w A size a 1 cs) (hx : rd cs x) : RdList rd w A size a 1 [x] :=
  ⟨[cs], by simpa using hr, by simpa using hr.1, rfl, fun i c y h1 h2 => by
    cases i with
    | zero => simp at h1 h2; subst h1; subst h2; exact hx
    | succ i => simp at h1⟩
theorem rd_le {L L' : List Res} {w : World} {F2 : Nat → Prop} {e size n c : Nat} {a : Option Addr} {xs : List Value} (h2 : stars L w F2) (hp : Pick L (rowR e size a n c xs) L') : n ≤ c := by
  obtain ⟨F', h', hs⟩ := stars_pick hp h2; exact h'.2.1

attribute [local irreducible] Gl Gc Gx Gs Runs Wt

set_option maxHeartbeats 400000 in
theorem encode1_ok {w : World} {F : Nat → Prop} {g TE : Nat} {ea : Nat → Addr} {s : WS} {b : Nat} {cs : List Value} {m : Msg} (h : stars [WrR TE ea g s, blk b 67 cs] w F) {es : List Nat} [Has es 1] (hE : GErr es w (fun k => ¬ F k) TE ea) (hx : RdMsg w (fun k => ¬ F k) cs m) (k1 : 1 ≤ m.kind) (k6 : m.kind ≤ 6) (hb : s.bs.length + 33687 ≤ 1099511627776) :
    Calls Tryd.prog 57 #[.agg (List.toArray [.pointer (some ⟨g, 0, none⟩)]), .pointer (some ⟨b, 0, none⟩)] w (Post w F (fun _ : Unit => .tuple #[]) (fun _ => [WrR TE ea g (wMsg m s), blk b 67 cs])) := by
  have hl := hx.len
  have h0 : cs[0]? = some (.int .i64 m.kind) := by obtain ⟨_, _, _, _, _, e, _⟩ := hx; rw [e]; rfl
  refine g_enter (env := [(0, .agg (List.toArray [.pointer (some ⟨g, 0, none⟩)])), (1, .pointer (some ⟨b, 0, none⟩))]) Tryd.func57 rfl h Tryd.ntmps57 rfl rfl ?_
  refine gsr ?_
  refine zbN fun b2 => ?_
  refine gnt ?_
  refine gsr ?_
  refine gp zfa ?_
  refine gp zl ?_
  refine gp zfa ?_
  refine gp (r_ld1 rfl Ty.row_3 (by repeat (first | exact Pick.here | apply Pick.there)) h0) ?_
  refine zc (fun _ => ?_) (c := fun w1 F1 F2 h1 h2 hd hst => number_ok (wd := 1) h1 (hE.mv hst.still) (by decide) (by decide) (by omega))
  refine gnt ?_
  refine gc_region ?_
  refine gp zL ?_
  refine gp (r_ldN rfl Ty.row_67 Ty.sz_67 (by repeat (first | exact Pick.here | apply Pick.there)) (seg_all hl) hl) ?_
  refine zc (fun _ => ?_) (c := fun w1 F1 F2 h1 h2 hd hst => body_ok h1 (hE.mv hst.still) (hx.mv hst.still) k1 k6 (by have e0 := wNum_len m.kind 1 s; omega))
  refine gl_nil ?_
  refine gx_ret0' rfl ?_
  exact ze ()

set_option maxHeartbeats 400000 in
theorem encode_lo {w : World} {F : Nat → Prop} {TE : Nat} {ea : Nat → Addr} {cs : List Value} {m : Msg} (h : stars [] w F) {es : List Nat} [Has es 1] [Has es 4] (hE : GErr es w (fun k => ¬ F k) TE ea) (hx : RdMsg w (fun k => ¬ F k) cs m) (hk : m.kind < 1) :
    Calls Tryd.prog 23 #[.agg cs.toArray] w (Post w F (fun r : Option Addr × Nat => .tuple #[.slice r.1 (wOut (wEnc m)).length r.2, eV TE ea (wEnc m).err]) (fun r => [rowR 5 1 r.1 (wOut (wEnc m)).length r.2 ((wOut (wEnc m)).map B8)])) := by
  have hl := hx.len
  have h0 : cs[0]? = some (.int .i64 m.kind) := by obtain ⟨_, _, _, _, _, e, _⟩ := hx; rw [e]; rfl
  refine g_enter (env := [(0, .agg cs.toArray)]) Tryd.func23 rfl h Tryd.ntmps23 rfl rfl ?_
  refine gsr ?_
  refine zbN fun b1 => ?_
  refine gp zas ?_
  refine gp zas ?_
  refine gnt ?_
  refine gc_seq ?_
  refine gsr ?_
  refine gp zfa ?_
  refine gp (r_ld1 rfl Ty.row_3 (by repeat (first | exact Pick.here | apply Pick.there)) h0) ?_
  refine gp (r_bool (r_lss rfl rfl) (decide_eq_true (by omega))) ?_
  refine gp zmv ?_
  refine gn ?_
  refine gn ?_
  refine gn ?_
  refine gp zpk ?_
  refine gnt ?_
  refine gc_condT rfl rfl ?_
  refine gc_seq ?_
  refine gc_regionS (by kernel_rfl) (by kernel_rfl) ?_
  refine sp (r_ld1o rfl Ty.row_35 (hE.c 4 Has.h) (hE.n 4 Has.h)) ?_
  refine sp zas ?_
  refine sp zas ?_
  refine gs_nil ?_
  refine gx_then ?_
  refine gc_ret ?_
  refine gx_then_ret ?_
  refine gx_ret2 rfl (by conv => lhs; whnf) (by conv => lhs; whnf) ?_
  have e : wEnc m = ⟨4, []⟩ := by rw [wEnc, if_pos (by omega)]
  rw [e]
  exact fun w' hw => ⟨(none, 0), rfl, hw.rowNil.sel (by repeat (first | exact Sel.nil | (apply Sel.cons; · (repeat (first | exact Pick.here | apply Pick.there)))))⟩

set_option maxHeartbeats 400000 in
theorem encode_hi {w : World} {F : Nat → Prop} {TE : Nat} {ea : Nat → Addr} {cs : List Value} {m : Msg} (h : stars [] w F) {es : List Nat} [Has es 1] [Has es 4] (hE : GErr es w (fun k => ¬ F k) TE ea) (hx : RdMsg w (fun k => ¬ F k) cs m) (hk : 6 < m.kind) :
    Calls Tryd.prog 23 #[.agg cs.toArray] w (Post w F (fun r : Option Addr × Nat => .tuple #[.slice r.1 (wOut (wEnc m)).length r.2, eV TE ea (wEnc m).err]) (fun r => [rowR 5 1 r.1 (wOut (wEnc m)).length r.2 ((wOut (wEnc m)).map B8)])) := by
  have hl := hx.len
  have h0 : cs[0]? = some (.int .i64 m.kind) := by obtain ⟨_, _, _, _, _, e, _⟩ := hx; rw [e]; rfl
  refine g_enter (env := [(0, .agg cs.toArray)]) Tryd.func23 rfl h Tryd.ntmps23 rfl rfl ?_
  refine gsr ?_
  refine zbN fun b1 => ?_
  refine gp zas ?_
  refine gp zas ?_
  refine gnt ?_
  refine gc_seq ?_
  refine gsr ?_
  refine gp zfa ?_
  refine gp (r_ld1 rfl Ty.row_3 (by repeat (first | exact Pick.here | apply Pick.there)) h0) ?_
  refine gp (r_bool (r_lss rfl rfl) (decide_eq_false (by omega))) ?_
  refine gp zmv ?_
  refine gq zfa ?_
  refine gq (r_ld1 rfl Ty.row_3 (by repeat (first | exact Pick.here | apply Pick.there)) h0) ?_
  refine gq (r_bool (r_gtr rfl rfl) (decide_eq_true (by omega))) ?_
  refine gp zpk ?_
  refine gnt ?_
  refine gc_condT rfl rfl ?_
  refine gc_seq ?_
  refine gc_regionS (by kernel_rfl) (by kernel_rfl) ?_
  refine sp (r_ld1o rfl Ty.row_35 (hE.c 4 Has.h) (hE.n 4 Has.h)) ?_
  refine sp zas ?_
  refine sp zas ?_
  refine gs_nil ?_
  refine gx_then ?_
  refine gc_ret ?_
  refine gx_then_ret ?_
  refine gx_ret2 rfl (by conv => lhs; whnf) (by conv => lhs; whnf) ?_
  have e : wEnc m = ⟨4, []⟩ := by rw [wEnc, if_pos (by omega)]
  rw [e]
  exact fun w' hw => ⟨(none, 0), rfl, hw.rowNil.sel (by repeat (first | exact Sel.nil | (apply Sel.cons; · (repeat (first | exact Pick.here | apply Pick.there)))))⟩

set_option maxHeartbeats 400000 in
theorem encode_go {w : World} {F : Nat → Prop} {TE : Nat} {ea : Nat → Addr} {cs : List Value} {m : Msg} (h : stars [] w F) {es : List Nat} [Has es 1] [Has es 4] (hE : GErr es w (fun k => ¬ F k) TE ea) (hx : RdMsg w (fun k => ¬ F k) cs m) (k1 : 1 ≤ m.kind) (k6 : m.kind ≤ 6) :
    Calls Tryd.prog 23 #[.agg cs.toArray] w (Post w F (fun r : Option Addr × Nat => .tuple #[.slice r.1 (wOut (wMsg m ⟨0, []⟩)).length r.2, eV TE ea (wMsg m ⟨0, []⟩).err]) (fun r => [rowR 5 1 r.1 (wOut (wMsg m ⟨0, []⟩)).length r.2 ((wOut (wMsg m ⟨0, []⟩)).map B8)])) := by
  have hl := hx.len
  have h0 : cs[0]? = some (.int .i64 m.kind) := by obtain ⟨_, _, _, _, _, e, _⟩ := hx; rw [e]; rfl
  refine g_enter (env := [(0, .agg cs.toArray)]) Tryd.func23 rfl h Tryd.ntmps23 rfl rfl ?_
  refine gsr ?_
  refine zbN fun b1 => ?_
  refine gp zas ?_
  refine gp zas ?_
  refine gnt ?_
  refine gc_seq ?_
  refine gsr ?_
  refine gp zfa ?_
  refine gp (r_ld1 rfl Ty.row_3 (by repeat (first | exact Pick.here | apply Pick.there)) h0) ?_
  refine gp (r_bool (r_lss rfl rfl) (decide_eq_false (by omega))) ?_
  refine gp zmv ?_
  refine gq zfa ?_
  refine gq (r_ld1 rfl Ty.row_3 (by repeat (first | exact Pick.here | apply Pick.there)) h0) ?_
  refine gq (r_bool (r_gtr rfl rfl) (decide_eq_false (by omega))) ?_
  refine gp zpk ?_
  refine gnt ?_
  refine gc_condF rfl rfl ?_
  refine gc_skip ?_
  refine gx_then ?_
  refine gsr ?_
  refine gp zmf ?_
  refine zc (fun r14 => ?_) (c := fun w1 F1 F2 h1 h2 hd hst => written_ok (fw := wMsg m) h1 Ty.call_57 (fun g w2 F3 h2 hs2 => encode1_ok h2 ((hE.mv hst.still).mv hs2) ((hx.mv hst.still).mv hs2) k1 k6 (by simp)) (by have e0 := wMsg_len m hx.three ⟨0, []⟩; simp at e0 ⊢; omega))
  refine gp zex ?_
  refine gp zex ?_
  refine gp zas ?_
  refine gp zas ?_
  refine gnt ?_
  refine gc_ret ?_
  refine gx_ret2 rfl (by conv => lhs; whnf) (by conv => lhs; whnf) ?_
  exact ze r14


theorem encode_ok {w : World} {F : Nat → Prop} {TE : Nat} {ea : Nat → Addr} {cs : List Value} {m : Msg} (h : stars [] w F) {es : List Nat} [Has es 1] [Has es 4] (hE : GErr es w (fun k => ¬ F k) TE ea) (hx : RdMsg w (fun k => ¬ F k) cs m)  : Calls Tryd.prog 23 #[.agg cs.toArray] w (Post w F (fun r : Option Addr × Nat => .tuple #[.slice r.1 (wOut (wEnc m)).length r.2, eV TE ea (wEnc m).err]) (fun r => [rowR 5 1 r.1 (wOut (wEnc m)).length r.2 ((wOut (wEnc m)).map B8)])) := by
  by_cases k1 : m.kind < 1
  · exact encode_lo h hE hx k1
  by_cases k6 : 6 < m.kind
  · exact encode_hi h hE hx k6
  have e : wEnc m = wMsg m ⟨0, []⟩ := by rw [wEnc, if_neg (by omega)]
  rw [e]; exact encode_go h hE hx (by omega) (by omega)

set_option maxHeartbeats 400000 in
theorem id_ok {w : World} {F : Nat → Prop} {TE : Nat} {ea : Nat → Addr} {cs : List Value} {x : Block} (h : stars [] w F) {es : List Nat} [Has es 1] (hE : GErr es w (fun k => ¬ F k) TE ea) (hK : KR w (fun k => ¬ F k)) (hx : RdBlock w (fun k => ¬ F k) cs x) :
    Calls Tryd.prog 14 #[.agg cs.toArray] w (Post w F (fun _ : Unit => .tuple #[.agg (dc (idOf x)).toArray, eV TE ea (wBlock x ⟨0, []⟩).err]) (fun _ => [])) := by
  have hl := hx.len
  have hbl := wBlock_len x ⟨0, []⟩
  simp only [List.length_nil] at hbl
  refine g_enter (env := [(0, .agg cs.toArray)]) Tryd.func14 rfl h Tryd.ntmps14 rfl rfl ?_
  refine gsr ?_
  refine zbN fun b1 => ?_
  refine zal fun b2 => ?_
  refine gp zas ?_
  refine gnt ?_
  refine gsr ?_
  refine gp (r_ldN rfl Ty.row_30 Ty.sz_30 (by repeat (first | exact Pick.here | apply Pick.there)) (seg_all hl) hl) ?_
  refine zc (fun r8 => ?_) (c := fun w1 F1 F2 h1 h2 hd hst => bytes_ok h1 (hE.mv hst.still) (hx.mv hst.still))
  refine gp zmv ?_
  refine gp zex ?_
  refine gp zex ?_
  refine gp zas ?_
  refine gp zas ?_
  refine gnt ?_
  refine gc_seq ?_
  refine gsr ?_
  refine gp zmv ?_
  refine gp (r_nenil rfl (by kernel_rfl)) ?_
  refine gnt ?_
  refine gif rfl (fun hc12 => ?_) (fun hc12 => ?_)
  · try simp only at hc12
    have he : ¬ (wBlock x ⟨0, []⟩).err = 0 := by simpa using hc12
    refine gsr ?_
    refine gp zba ?_
    refine gp zmv ?_
    refine gl_storeN (wt0 rfl) (new := dc dig0) rfl rfl Ty.sz_23 (dc_length _) (by repeat (first | exact Pick.here | apply Pick.there)) (by decide) (dc_one _) (updL_all (by rw [dc_length]; rfl)) ?_
    refine gp zas ?_
    refine gnt ?_
    refine gc_ret ?_
    refine gx_then_ret ?_
    refine gx_retct rfl rfl (by conv => lhs; whnf) (ld_aggS Ty.row_23 Ty.sz_23 (by repeat (first | exact Pick.here | apply Pick.there)) (by (simp only [List.drop_succ_cons, List.drop_zero, List.take_succ_cons, List.take_zero, List.cons_append, List.nil_append, List.append_assoc, drop_dc, drop_dc', take_dc, take_dc', drop_L, drop_L', take_L, take_L', len_L, Nat.reduceLeDiff, Nat.reduceSub, Nat.reduceAdd, Nat.le_refl, List.length_cons, List.length_append, List.length_nil, dc_length, List.drop_nil, List.take_nil, List.append_nil, List.length_map, List.length_replicate]; first | done | rfl)) (by first | rfl | (simp only [List.drop_succ_cons, List.drop_zero, List.take_succ_cons, List.take_zero, List.cons_append, List.nil_append, List.append_assoc, drop_dc, drop_dc', take_dc, take_dc', drop_L, drop_L', take_L, take_L', len_L, Nat.reduceLeDiff, Nat.reduceSub, Nat.reduceAdd, Nat.le_refl, List.length_cons, List.length_append, List.length_nil, dc_length, List.drop_nil, List.take_nil, List.append_nil, List.length_map, List.length_replicate]; first | done | omega))) ?_
    exact fun w' hw => ⟨(), by rw [idOf, if_neg he], hw.sel (by repeat (first | exact Sel.nil | (apply Sel.cons; · (repeat (first | exact Pick.here | apply Pick.there)))))⟩
  · try simp only at hc12
    have he : (wBlock x ⟨0, []⟩).err = 0 := by simpa using hc12
    refine gc_skip ?_
    refine gx_then ?_
    refine gsr ?_
    refine gp zmv ?_
    refine ze1 fun b16 => ?_
    refine zc (fun _ => ?_) (c := fun w1 F1 F2 h1 h2 hd hst => of_ok (parts := [wOut (wBlock x ⟨0, []⟩)]) h1 (hK.mv hst.still) (RdList.single (rd_row (xs := [.slice r8.1 (wOut (wBlock x ⟨0, []⟩)).length r8.2]) h2 hd (by repeat (first | exact Pick.here | apply Pick.there))) ⟨_, _, _, rfl, rd_le (xs := (wOut (wBlock x ⟨0, []⟩)).map B8) h2 (by repeat (first | exact Pick.here | apply Pick.there)), rd_row (xs := (wOut (wBlock x ⟨0, []⟩)).map B8) h2 hd (by repeat (first | exact Pick.here | apply Pick.there))⟩) (by simp only [pcost, wOut, List.map_cons, List.map_nil, List.sum_cons, List.sum_nil]; split <;> simp <;> omega))
    refine gl_storeN (wt0 rfl) rfl rfl Ty.sz_23 (dc_length _) (by repeat (first | exact Pick.here | apply Pick.there)) (by decide) (dc_one _) (updL_all (by rw [dc_length]; rfl)) ?_
    refine gp zas ?_
    refine gnt ?_
    refine gc_ret ?_
    refine gx_retct rfl rfl (by conv => lhs; whnf) (ld_aggS Ty.row_23 Ty.sz_23 (by repeat (first | exact Pick.here | apply Pick.there)) (by (simp only [List.drop_succ_cons, List.drop_zero, List.take_succ_cons, List.take_zero, List.cons_append, List.nil_append, List.append_assoc, drop_dc, drop_dc', take_dc, take_dc', drop_L, drop_L', take_L, take_L', len_L, Nat.reduceLeDiff, Nat.reduceSub, Nat.reduceAdd, Nat.le_refl, List.length_cons, List.length_append, List.length_nil, dc_length, List.drop_nil, List.take_nil, List.append_nil, List.length_map, List.length_replicate]; first | done | rfl)) (by first | rfl | (simp only [List.drop_succ_cons, List.drop_zero, List.take_succ_cons, List.take_zero, List.cons_append, List.nil_append, List.append_assoc, drop_dc, drop_dc', take_dc, take_dc', drop_L, drop_L', take_L, take_L', len_L, Nat.reduceLeDiff, Nat.reduceSub, Nat.reduceAdd, Nat.le_refl, List.length_cons, List.length_append, List.length_nil, dc_length, List.drop_nil, List.take_nil, List.append_nil, List.length_map, List.length_replicate]; first | done | omega))) ?_
    exact fun w' hw => ⟨(), by rw [idOf, if_pos he, wOut, if_pos he, he, eV_zero], hw.sel (by repeat (first | exact Sel.nil | (apply Sel.cons; · (repeat (first | exact Pick.here | apply Pick.there)))))⟩

end Go.Proofs.YtkgbbnhdioghmaaDoor
