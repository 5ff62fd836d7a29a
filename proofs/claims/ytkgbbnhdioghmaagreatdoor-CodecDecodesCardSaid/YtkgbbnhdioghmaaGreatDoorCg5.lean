/- Part 5 of 6. What is proved: see the last part: for every input the law returns true, and the input reads as it did. -/
import Derived.Test.YtkgbbnhdioghmaaGreatDoorCg4
import Derived.Laws.MakeOwn
/- Walks, by program (wg.py) out of a spec. -/
namespace Go.Proofs.YtkgbbnhdioghmaaGreatDoor
open Go
set_option linter.unusedVariables false
set_option linter.unusedSimpArgs false


def wEnc (m : Msg) : WS := if m.kind < 1 ∨ 6 < m.kind then ⟨4, []⟩ else wMsg m ⟨0, []⟩
def idOf (b : Block) : Dig := if (wBlock b ⟨0, []⟩).err = 0 then dOf Kc 6 [(wBlock b ⟨0, []⟩).bs] else dig0
theorem wVote_len (v : Vote) (s : WS) : (wVote v s).bs.length ≤ s.bs.length + 1198 := by
  have h1 := wAt_len v.epoch v.round s; have h2 := wDig_len v.block (wAt v.epoch v.round s); have h3 := wSigned_len v.sender (wDig v.block (wAt v.epoch v.round s)); unfold wVote; omega
theorem wTmo_len (v : Tmo) (s : WS) : (wTmo v s).bs.length ≤ s.bs.length + 17670 := by
  have h1 := wAt_len v.epoch v.round s; have h2 := wQC_len v.high (wAt v.epoch v.round s); have h3 := wTC_len v.last (wQC v.high (wAt v.epoch v.round s)); have h4 := wSigned_len v.sender (wTC v.last (wQC v.high (wAt v.epoch v.round s))); unfold wTmo; omega
theorem wProp_len (v : Prop') (s : WS) : (wProp v s).bs.length ≤ s.bs.length + 17914 := by
  have h1 := wBlock_len v.block s; have h2 := wTC_len v.last (wBlock v.block s); have h3 := wSigned_len v.sender (wTC v.last (wBlock v.block s)); unfold wProp; omega
theorem wChg_len (c : Chg) (h : c.blocks.length = 3) (s : WS) : (wChg c s).bs.length ≤ s.bs.length + 33686 := by
  have h1 := foldl_len (c := 8485) (fun b s => wBlock_len b s) c.blocks s; have h2 := wQC_len c.qc (c.blocks.foldl (fun s b => wBlock b s) s); rw [h] at h1; unfold wChg; omega
theorem wBody_len (m : Msg) (h : m.chg.blocks.length = 3) (s : WS) : (wBody m s).bs.length ≤ s.bs.length + 33686 := by
  have h1 := wVote_len m.vote s; have h2 := wTmo_len m.tmo s; have h3 := wProp_len m.prop s; have h4 := wDig_len m.wantFrom s; have h5 := wDig_len m.wantBlock (wDig m.wantFrom s); have h6 := wBlock_len m.reply s; have h7 := wChg_len m.chg h s
  unfold wBody; split; omega; split; omega; split; omega; split; omega; split <;> omega
theorem wMsg_len (m : Msg) (h : m.chg.blocks.length = 3) (s : WS) : (wMsg m s).bs.length ≤ s.bs.length + 33687 := by
  have h1 := wNum_len m.kind 1 s; have h2 := wBody_len m h (wNum m.kind 1 s); unfold wMsg; omega
theorem RdMsg.three {w : World} {A : Nat → Prop} {cs : List Value} {m : Msg} (h : RdMsg w A cs m) : m.chg.blocks.length = 3 := by
  obtain ⟨v, t, p, r, c, h1, h2, h3, h4, h5, h6⟩ := h; obtain ⟨css, q, h1, h2, h3, h4, h5, h6⟩ := h6; exact h4
theorem RdList.single {α : Type} {rd : List Value → α → Prop} {w : World} {A : Nat → Prop} {size : Nat} {a : Option Addr} {cs : List Value} {x : α} (hr : RdRow w A size a 1 cs) (hx : rd cs x) : RdList rd w A size a 1 [x] :=
  ⟨[cs], by simpa using hr, by simpa using hr.1, rfl, fun i c y h1 h2 => by
    cases i with
    | zero => simp at h1 h2; subst h1; subst h2; exact hx
    | succ i => simp at h1⟩
theorem rd_le {L L' : List Res} {w : World} {F2 : Nat → Prop} {e size n c : Nat} {a : Option Addr} {xs : List Value} (h2 : stars L w F2) (hp : Pick L (rowR e size a n c xs) L') : n ≤ c := by
  obtain ⟨F', h', hs⟩ := stars_pick hp h2; exact h'.2.1

attribute [local irreducible] Gl Gc Gx Gs Runs Wt

set_option maxHeartbeats 400000 in
theorem encode1_ok {w : World} {F : Nat → Prop} {g TE : Nat} {ea : Nat → Addr} {s : WS} {b : Nat} {cs : List Value} {m : Msg} (h : stars [WrR TE ea g s, blk b 66 cs] w F) {es : List Nat} [Has es 1] (hE : GErr es w (fun k => ¬ F k) TE ea) (hx : RdMsg w (fun k => ¬ F k) cs m) (k1 : 1 ≤ m.kind) (k6 : m.kind ≤ 6) (hb : s.bs.length + 33687 ≤ 1099511627776) :
    Calls Tryz.prog 49 #[.agg (List.toArray [.pointer (some ⟨g, 0, none⟩)]), .pointer (some ⟨b, 0, none⟩)] w (Post w F (fun _ : Unit => .tuple #[]) (fun _ => [WrR TE ea g (wMsg m s), blk b 66 cs])) := by
  have hl := hx.len
  have h0 : cs[0]? = some (.int .i64 m.kind) := by obtain ⟨_, _, _, _, _, e, _⟩ := hx; rw [e]; rfl
  refine g_enter (env := [(0, .agg (List.toArray [.pointer (some ⟨g, 0, none⟩)])), (1, .pointer (some ⟨b, 0, none⟩))]) Tryz.func49 rfl h Tryz.ntmps49 rfl rfl ?_
  refine gsr ?_
  refine zbN fun b2 => ?_
  refine gnt ?_
  refine gsr ?_
  refine gp zfa ?_
  refine gp zl ?_
  refine gp zfa ?_
  refine gp (r_ld1 rfl Ty.row_3 (by repeat (first | exact Pick.here | apply Pick.there)) h0) ?_
  refine zc (fun _ => ?_) (c := fun w1 F1 F2 h1 h2 hd hst => number_ok (wd := 1) h1 (hE.mv hst.still) (by decide) (by decide) (by omega))
  refine gnt ?_
  refine gc_region ?_
  refine gp zL ?_
  refine gp (r_ldN rfl Ty.row_66 Ty.sz_66 (by repeat (first | exact Pick.here | apply Pick.there)) (seg_all hl) hl) ?_
  refine zc (fun _ => ?_) (c := fun w1 F1 F2 h1 h2 hd hst => body_ok h1 (hE.mv hst.still) (hx.mv hst.still) k1 k6 (by have e0 := wNum_len m.kind 1 s; omega))
  refine gl_nil ?_
  refine gx_ret0' rfl ?_
  exact ze ()

set_option maxHeartbeats 400000 in
theorem encode_lo {w : World} {F : Nat → Prop} {TE : Nat} {ea : Nat → Addr} {cs : List Value} {m : Msg} (h : stars [] w F) {es : List Nat} [Has es 1] [Has es 4] (hE : GErr es w (fun k => ¬ F k) TE ea) (hx : RdMsg w (fun k => ¬ F k) cs m) (hk : m.kind < 1) :
    Calls Tryz.prog 16 #[.agg cs.toArray] w (Post w F (fun r : Option Addr × Nat => .tuple #[.slice r.1 (wOut (wEnc m)).length r.2, eV TE ea (wEnc m).err]) (fun r => [rowR 5 1 r.1 (wOut (wEnc m)).length r.2 ((wOut (wEnc m)).map B8)])) := by
  have hl := hx.len
  have h0 : cs[0]? = some (.int .i64 m.kind) := by obtain ⟨_, _, _, _, _, e, _⟩ := hx; rw [e]; rfl
  refine g_enter (env := [(0, .agg cs.toArray)]) Tryz.func16 rfl h Tryz.ntmps16 rfl rfl ?_
  refine gsr ?_
  refine zbN fun b1 => ?_
  refine gp zas ?_
  refine gp zas ?_
  refine gnt ?_
  refine gc_seq ?_
  refine gsr ?_
  refine gp zfa ?_
  refine gp (r_ld1 rfl Ty.row_3 (by repeat (first | exact Pick.here | apply Pick.there)) h0) ?_
  refine gp (r_bool (r_lss rfl rfl) (decide_eq_true (by omega))) ?_
  refine gp zmv ?_
  refine gn ?_
  refine gn ?_
  refine gn ?_
  refine gp zpk ?_
  refine gnt ?_
  refine gc_condT rfl rfl ?_
  refine gc_seq ?_
  refine gc_regionS (by kernel_rfl) (by kernel_rfl) ?_
  refine sp (r_ld1o rfl Ty.row_38 (hE.c 4 Has.h) (hE.n 4 Has.h)) ?_
  refine sp zas ?_
  refine sp zas ?_
  refine gs_nil ?_
  refine gx_then ?_
  refine gc_ret ?_
  refine gx_then_ret ?_
  refine gx_ret2 rfl (by conv => lhs; whnf) (by conv => lhs; whnf) ?_
  have e : wEnc m = ⟨4, []⟩ := by rw [wEnc, if_pos (by omega)]
  rw [e]
  exact fun w' hw => ⟨(none, 0), rfl, hw.rowNil.sel (by repeat (first | exact Sel.nil | (apply Sel.cons; · (repeat (first | exact Pick.here | apply Pick.there)))))⟩

set_option maxHeartbeats 400000 in
theorem encode_hi {w : World} {F : Nat → Prop} {TE : Nat} {ea : Nat → Addr} {cs : List Value} {m : Msg} (h : stars [] w F) {es : List Nat} [Has es 1] [Has es 4] (hE : GErr es w (fun k => ¬ F k) TE ea) (hx : RdMsg w (fun k => ¬ F k) cs m) (hk : 6 < m.kind) :
    Calls Tryz.prog 16 #[.agg cs.toArray] w (Post w F (fun r : Option Addr × Nat => .tuple #[.slice r.1 (wOut (wEnc m)).length r.2, eV TE ea (wEnc m).err]) (fun r => [rowR 5 1 r.1 (wOut (wEnc m)).length r.2 ((wOut (wEnc m)).map B8)])) := by
  have hl := hx.len
  have h0 : cs[0]? = some (.int .i64 m.kind) := by obtain ⟨_, _, _, _, _, e, _⟩ := hx; rw [e]; rfl
  refine g_enter (env := [(0, .agg cs.toArray)]) Tryz.func16 rfl h Tryz.ntmps16 rfl rfl ?_
  refine gsr ?_
  refine zbN fun b1 => ?_
  refine gp zas ?_
  refine gp zas ?_
  refine gnt ?_
  refine gc_seq ?_
  refine gsr ?_
  refine gp zfa ?_
  refine gp (r_ld1 rfl Ty.row_3 (by repeat (first | exact Pick.here | apply Pick.there)) h0) ?_
  refine gp (r_bool (r_lss rfl rfl) (decide_eq_false (by omega))) ?_
  refine gp zmv ?_
  refine gq zfa ?_
  refine gq (r_ld1 rfl Ty.row_3 (by repeat (first | exact Pick.here | apply Pick.there)) h0) ?_
  refine gq (r_bool (r_gtr rfl rfl) (decide_eq_true (by omega))) ?_
  refine gp zpk ?_
  refine gnt ?_
  refine gc_condT rfl rfl ?_
  refine gc_seq ?_
  refine gc_regionS (by kernel_rfl) (by kernel_rfl) ?_
  refine sp (r_ld1o rfl Ty.row_38 (hE.c 4 Has.h) (hE.n 4 Has.h)) ?_
  refine sp zas ?_
  refine sp zas ?_
  refine gs_nil ?_
  refine gx_then ?_
  refine gc_ret ?_
  refine gx_then_ret ?_
  refine gx_ret2 rfl (by conv => lhs; whnf) (by conv => lhs; whnf) ?_
  have e : wEnc m = ⟨4, []⟩ := by rw [wEnc, if_pos (by omega)]
  rw [e]
  exact fun w' hw => ⟨(none, 0), rfl, hw.rowNil.sel (by repeat (first | exact Sel.nil | (apply Sel.cons; · (repeat (first | exact Pick.here | apply Pick.there)))))⟩

set_option maxHeartbeats 400000 in
theorem encode_go {w : World} {F : Nat → Prop} {TE : Nat} {ea : Nat → Addr} {cs : List Value} {m : Msg} (h : stars [] w F) {es : List Nat} [Has es 1] [Has es 4] (hE : GErr es w (fun k => ¬ F k) TE ea) (hx : RdMsg w (fun k => ¬ F k) cs m) (k1 : 1 ≤ m.kind) (k6 : m.kind ≤ 6) :
    Calls Tryz.prog 16 #[.agg cs.toArray] w (Post w F (fun r : Option Addr × Nat => .tuple #[.slice r.1 (wOut (wMsg m ⟨0, []⟩)).length r.2, eV TE ea (wMsg m ⟨0, []⟩).err]) (fun r => [rowR 5 1 r.1 (wOut (wMsg m ⟨0, []⟩)).length r.2 ((wOut (wMsg m ⟨0, []⟩)).map B8)])) := by
  have hl := hx.len
  have h0 : cs[0]? = some (.int .i64 m.kind) := by obtain ⟨_, _, _, _, _, e, _⟩ := hx; rw [e]; rfl
  refine g_enter (env := [(0, .agg cs.toArray)]) Tryz.func16 rfl h Tryz.ntmps16 rfl rfl ?_
  refine gsr ?_
  refine zbN fun b1 => ?_
  refine gp zas ?_
  refine gp zas ?_
  refine gnt ?_
  refine gc_seq ?_
  refine gsr ?_
  refine gp zfa ?_
  refine gp (r_ld1 rfl Ty.row_3 (by repeat (first | exact Pick.here | apply Pick.there)) h0) ?_
  refine gp (r_bool (r_lss rfl rfl) (decide_eq_false (by omega))) ?_
  refine gp zmv ?_
  refine gq zfa ?_
  refine gq (r_ld1 rfl Ty.row_3 (by repeat (first | exact Pick.here | apply Pick.there)) h0) ?_
  refine gq (r_bool (r_gtr rfl rfl) (decide_eq_false (by omega))) ?_
  refine gp zpk ?_
  refine gnt ?_
  refine gc_condF rfl rfl ?_
  refine gc_skip ?_
  refine gx_then ?_
  refine gsr ?_
  refine gp zmf ?_
  refine zc (fun r14 => ?_) (c := fun w1 F1 F2 h1 h2 hd hst => written_ok (fw := wMsg m) h1 Ty.call_49 (fun g w2 F3 h2 hs2 => encode1_ok h2 ((hE.mv hst.still).mv hs2) ((hx.mv hst.still).mv hs2) k1 k6 (by simp)) (by have e0 := wMsg_len m hx.three ⟨0, []⟩; simp at e0 ⊢; omega))
  refine gp zex ?_
  refine gp zex ?_
  refine gp zas ?_
  refine gp zas ?_
  refine gnt ?_
  refine gc_ret ?_
  refine gx_ret2 rfl (by conv => lhs; whnf) (by conv => lhs; whnf) ?_
  exact ze r14


theorem encode_ok {w : World} {F : Nat → Prop} {TE : Nat} {ea : Nat → Addr} {cs : List Value} {m : Msg} (h : stars [] w F) {es : List Nat} [Has es 1] [Has es 4] (hE : GErr es w (fun k => ¬ F k) TE ea) (hx : RdMsg w (fun k => ¬ F k) cs m)  : Calls Tryz.prog 16 #[.agg cs.toArray] w (Post w F (fun r : Option Addr × Nat => .tuple #[.slice r.1 (wOut (wEnc m)).length r.2, eV TE ea (wEnc m).err]) (fun r => [rowR 5 1 r.1 (wOut (wEnc m)).length r.2 ((wOut (wEnc m)).map B8)])) := by
  by_cases k1 : m.kind < 1
  · exact encode_lo h hE hx k1
  by_cases k6 : 6 < m.kind
  · exact encode_hi h hE hx k6
  have e : wEnc m = wMsg m ⟨0, []⟩ := by rw [wEnc, if_neg (by omega)]
  rw [e]; exact encode_go h hE hx (by omega) (by omega)

set_option maxHeartbeats 400000 in
theorem id_ok {w : World} {F : Nat → Prop} {TE : Nat} {ea : Nat → Addr} {cs : List Value} {x : Block} (h : stars [] w F) {es : List Nat} [Has es 1] (hE : GErr es w (fun k => ¬ F k) TE ea) (hK : KR w (fun k => ¬ F k)) (hx : RdBlock w (fun k => ¬ F k) cs x) :
    Calls Tryz.prog 36 #[.agg cs.toArray] w (Post w F (fun _ : Unit => .tuple #[.agg (dc (idOf x)).toArray, eV TE ea (wBlock x ⟨0, []⟩).err]) (fun _ => [])) := by
  have hl := hx.len
  have hbl := wBlock_len x ⟨0, []⟩
  simp only [List.length_nil] at hbl
  refine g_enter (env := [(0, .agg cs.toArray)]) Tryz.func36 rfl h Tryz.ntmps36 rfl rfl ?_
  refine gsr ?_
  refine zbN fun b1 => ?_
  refine zal fun b2 => ?_
  refine gp zas ?_
  refine gnt ?_
  refine gsr ?_
  refine gp (r_ldN rfl Ty.row_30 Ty.sz_30 (by repeat (first | exact Pick.here | apply Pick.there)) (seg_all hl) hl) ?_
  refine zc (fun r8 => ?_) (c := fun w1 F1 F2 h1 h2 hd hst => bytes_ok h1 (hE.mv hst.still) (hx.mv hst.still))
  refine gp zmv ?_
  refine gp zex ?_
  refine gp zex ?_
  refine gp zas ?_
  refine gp zas ?_
  refine gnt ?_
  refine gc_seq ?_
  refine gsr ?_
  refine gp zmv ?_
  refine gp (r_nenil rfl (by kernel_rfl)) ?_
  refine gnt ?_
  refine gif rfl (fun hc12 => ?_) (fun hc12 => ?_)
  · try simp only at hc12
    have he : ¬ (wBlock x ⟨0, []⟩).err = 0 := by simpa using hc12
    refine gsr ?_
    refine gp zba ?_
    refine gp zmv ?_
    refine gl_storeN (wt0 rfl) (new := dc dig0) rfl rfl Ty.sz_23 (dc_length _) (by repeat (first | exact Pick.here | apply Pick.there)) (by decide) (dc_one _) (updL_all (by rw [dc_length]; rfl)) ?_
    refine gp zas ?_
    refine gnt ?_
    refine gc_ret ?_
    refine gx_then_ret ?_
    refine gx_retct rfl rfl (by conv => lhs; whnf) (ld_aggS Ty.row_23 Ty.sz_23 (by repeat (first | exact Pick.here | apply Pick.there)) (by (simp only [List.drop_succ_cons, List.drop_zero, List.take_succ_cons, List.take_zero, List.cons_append, List.nil_append, List.append_assoc, drop_dc, drop_dc', take_dc, take_dc', drop_L, drop_L', take_L, take_L', len_L, Nat.reduceLeDiff, Nat.reduceSub, Nat.reduceAdd, Nat.le_refl, List.length_cons, List.length_append, List.length_nil, dc_length, List.drop_nil, List.take_nil, List.append_nil, List.length_map, List.length_replicate]; first | done | rfl)) (by first | rfl | (simp only [List.drop_succ_cons, List.drop_zero, List.take_succ_cons, List.take_zero, List.cons_append, List.nil_append, List.append_assoc, drop_dc, drop_dc', take_dc, take_dc', drop_L, drop_L', take_L, take_L', len_L, Nat.reduceLeDiff, Nat.reduceSub, Nat.reduceAdd, Nat.le_refl, List.length_cons, List.length_append, List.length_nil, dc_length, List.drop_nil, List.take_nil, List.append_nil, List.length_map, List.length_replicate]; first | done | omega))) ?_
    exact fun w' hw => ⟨(), by rw [idOf, if_neg he], hw.sel (by repeat (first | exact Sel.nil | (apply Sel.cons; · (repeat (first | exact Pick.here | apply Pick.there)))))⟩
  · try simp only at hc12
    have he : (wBlock x ⟨0, []⟩).err = 0 := by simpa using hc12
    refine gc_skip ?_
    refine gx_then ?_
    refine gsr ?_
    refine gp zmv ?_
    refine ze1 fun b16 => ?_
    refine zc (fun _ => ?_) (c := fun w1 F1 F2 h1 h2 hd hst => of_ok (parts := [wOut (wBlock x ⟨0, []⟩)]) h1 (hK.mv hst.still) (RdList.single (rd_row (xs := [.slice r8.1 (wOut (wBlock x ⟨0, []⟩)).length r8.2]) h2 hd (by repeat (first | exact Pick.here | apply Pick.there))) ⟨_, _, _, rfl, rd_le (xs := (wOut (wBlock x ⟨0, []⟩)).map B8) h2 (by repeat (first | exact Pick.here | apply Pick.there)), rd_row (xs := (wOut (wBlock x ⟨0, []⟩)).map B8) h2 hd (by repeat (first | exact Pick.here | apply Pick.there))⟩) (by simp only [pcost, wOut, List.map_cons, List.map_nil, List.sum_cons, List.sum_nil]; split <;> simp <;> omega))
    refine gl_storeN (wt0 rfl) rfl rfl Ty.sz_23 (dc_length _) (by repeat (first | exact Pick.here | apply Pick.there)) (by decide) (dc_one _) (updL_all (by rw [dc_length]; rfl)) ?_
    refine gp zas ?_
    refine gnt ?_
    refine gc_ret ?_
    refine gx_retct rfl rfl (by conv => lhs; whnf) (ld_aggS Ty.row_23 Ty.sz_23 (by repeat (first | exact Pick.here | apply Pick.there)) (by (simp only [List.drop_succ_cons, List.drop_zero, List.take_succ_cons, List.take_zero, List.cons_append, List.nil_append, List.append_assoc, drop_dc, drop_dc', take_dc, take_dc', drop_L, drop_L', take_L, take_L', len_L, Nat.reduceLeDiff, Nat.reduceSub, Nat.reduceAdd, Nat.le_refl, List.length_cons, List.length_append, List.length_nil, dc_length, List.drop_nil, List.take_nil, List.append_nil, List.length_map, List.length_replicate]; first | done | rfl)) (by first | rfl | (simp only [List.drop_succ_cons, List.drop_zero, List.take_succ_cons, List.take_zero, List.cons_append, List.nil_append, List.append_assoc, drop_dc, drop_dc', take_dc, take_dc', drop_L, drop_L', take_L, take_L', len_L, Nat.reduceLeDiff, Nat.reduceSub, Nat.reduceAdd, Nat.le_refl, List.length_cons, List.length_append, List.length_nil, dc_length, List.drop_nil, List.take_nil, List.append_nil, List.length_map, List.length_replicate]; first | done | omega))) ?_
    exact fun w' hw => ⟨(), by rw [idOf, if_pos he, wOut, if_pos he, he, eV_zero], hw.sel (by repeat (first | exact Sel.nil | (apply Sel.cons; · (repeat (first | exact Pick.here | apply Pick.there)))))⟩

end Go.Proofs.YtkgbbnhdioghmaaGreatDoor

/- Walks, by program (wg.py) out of a spec. -/
namespace Go.Proofs.YtkgbbnhdioghmaaGreatDoor
open Go
set_option linter.unusedVariables false
set_option linter.unusedSimpArgs false


def d3 : Dig := ⟨3 :: List.replicate 15 0, rfl⟩
def aliveB : List UInt8 := 4 :: 3 :: List.replicate 31 0
theorem alive_enc : wEnc (msgOf 4 d3 dig0) = ⟨0, aliveB⟩ := by kernel_rfl
theorem alive_out : wOut ⟨0, aliveB⟩ = aliveB := rfl
theorem inj_block {x y : Block} (hx : (wBlock x ⟨0, []⟩).err = 0) (hy : (wBlock y ⟨0, []⟩).err = 0) (he : (wBlock x ⟨0, []⟩).bs = (wBlock y ⟨0, []⟩).bs) : x = y := by
  have a := pAll_enc (f := wBlock x) (enc_block x) hx
  have b := pAll_enc (f := wBlock y) (enc_block y) hy
  rw [he, b] at a
  simpa using a.symm
theorem ids_law {x y : Block} (hx : (wBlock x ⟨0, []⟩).err = 0) (hy : (wBlock y ⟨0, []⟩).err = 0) : (decide (x = y) == decide (wOut (wBlock x ⟨0, []⟩) = wOut (wBlock y ⟨0, []⟩))) = true := by
  rw [wOut, if_pos hx, wOut, if_pos hy]
  by_cases h : x = y
  · subst h; simp
  · have : ¬ (wBlock x ⟨0, []⟩).bs = (wBlock y ⟨0, []⟩).bs := fun he => h (inj_block hx hy he)
    simp [h, this]

attribute [local irreducible] Gl Gc Gx Gs Runs Wt

set_option maxHeartbeats 400000 in
theorem alive09_ok {w : World} {F : Nat → Prop} {TE : Nat} {ea : Nat → Addr} (h : stars [] w F) {es : List Nat} [Has es 1] [Has es 4] (hE : GErr es w (fun k => ¬ F k) TE ea) :
    Calls Tryz.prog 8 #[] w (Post w F (fun _ : Unit => .bool true) (fun _ => [])) := by
  refine g_enter (env := []) Tryz.func8 rfl h Tryz.ntmps8 rfl rfl ?_
  refine gsr ?_
  refine gp zas ?_
  refine gnt ?_
  refine gsr ?_
  refine gp (r_buildA (cs := dc d3) Ty.zc_23 Ty.arr_23 Ty.sz_5 (by kernel_rfl)) ?_
  refine gp (r_build (cs := dc d3 ++ dc dig0) Ty.zc_62 Ty.pl_62 (by kernel_rfl)) ?_
  refine gp (r_build (cs := msgC 4 d3 dig0) Ty.zc_66 Ty.pl_66 (by kernel_rfl)) ?_
  refine zc ?_ (c := fun w1 F1 F2 h1 h2 hd hst => encode_ok h1 (hE.mv hst.still) (rdMsgOf 4 d3 dig0))
  rintro ⟨a7, c7⟩
  rw [alive_enc, alive_out]
  refine gl_fact (p := ∃ g o, a7 = some ⟨g, o, none⟩) (fun w hw => (by obtain ⟨g, o, e, _⟩ := (hw.row (a := a7) (m := aliveB.length) (c := c7) (xs := aliveB.map B8) (by repeat (first | exact Pick.here | apply Pick.there))).2.2 (by decide); exact ⟨g, o, e⟩)) (fun ha => ?_)
  obtain ⟨g7, o7, rfl⟩ := ha
  refine gp zmv ?_
  refine gp zex ?_
  refine gp zex ?_
  refine gp zas ?_
  refine gp zas ?_
  refine gnt ?_
  refine gsr ?_
  refine gp zmv ?_
  refine gp (r_bool (c := true) (r_eqnil rfl (by kernel_rfl)) rfl) ?_
  refine gp zmv ?_
  refine gq zmv ?_
  refine gq zln ?_
  refine gq (r_bool (c := true) (r_eql_int rfl rfl) rfl) ?_
  refine gp zpk ?_
  refine gp zmv ?_
  refine gq zmv ?_
  refine gq (r_indexAddr_slice (m := aliveB.length) rfl rfl Ty.sl_36 Ty.sz_5 (by decide) (by decide)) ?_
  refine gq (r_ld1r (i := 0) (v := B8 4) rfl Ty.row_5 (by repeat (first | exact Pick.here | apply Pick.there)) rfl) ?_
  refine gq (r_bool (c := true) (r_eql_int rfl rfl) rfl) ?_
  refine gp zpk ?_
  refine gp zmv ?_
  refine gq zmv ?_
  refine gq (r_indexAddr_slice (m := aliveB.length) rfl rfl Ty.sl_36 Ty.sz_5 (by decide) (by decide)) ?_
  refine gq (r_ld1r (i := 1) (v := B8 3) rfl Ty.row_5 (by repeat (first | exact Pick.here | apply Pick.there)) rfl) ?_
  refine gq (r_bool (c := true) (r_eql_int rfl rfl) rfl) ?_
  refine gp zpk ?_
  refine gp zas ?_
  refine gnt ?_
  refine gc_ret ?_
  refine gx_ret1 rfl (by conv => lhs; whnf) ?_
  exact ze ()


end Go.Proofs.YtkgbbnhdioghmaaGreatDoor

/- Walks, by program (wg.py) out of a spec. -/
namespace Go.Proofs.YtkgbbnhdioghmaaGreatDoor
open Go
set_option linter.unusedVariables false
set_option linter.unusedSimpArgs false


/-- The errors' variables: all eighteen of the library, each its own. -/
structure NErr (w : World) (A : Nat → Prop) (ea : Nat → Addr) : Prop where
  g : GErr [1, 2, 3, 4, 5, 6, 7, 8, 9, 10, 11, 12, 13, 14, 15, 16, 17, 18] w A 264 ea
  c : ∀ i, 1 ≤ i → i ≤ 18 → (∃ c t, w.heap[(ea i).block]? = some (.cells c t (0, 0))) ∧ A (ea i).block
  j : ∀ i j, 1 ≤ i → i ≤ 18 → 1 ≤ j → j ≤ 18 → ea i = ea j → i = j
theorem NErr.mv {w w' : World} {A A' : Nat → Prop} {ea : Nat → Addr} (h : NErr w A ea) (k : Still w A w' A') : NErr w' A' ea :=
  ⟨h.g.mv k, fun i h1 h2 => by
    obtain ⟨⟨c, t, hc⟩, hA⟩ := h.c i h1 h2
    have hlt : (ea i).block < w.heap.size := (Array.getElem?_eq_some_iff.1 hc).1
    obtain ⟨e, hA'⟩ := k _ hlt hA
    exact ⟨⟨c, t, by rw [e]; exact hc⟩, hA'⟩, h.j⟩
theorem errIs_ok {w : World} {F : Nat → Prop} {ea : Nat → Addr} {n m : Nat} (h : stars [] w F) (hN : NErr w (fun k => ¬ F k) ea) (n1 : 1 ≤ n) (n2 : n ≤ 18) (m1 : 1 ≤ m) (m2 : m ≤ 18) :
    Calls Tryz.prog 44 #[eV 264 ea n, eV 264 ea m] w (Post w F (fun _ : Unit => .bool (decide (n = m))) (fun _ => [])) := by
  have en : eV 264 ea n = .iface 264 (.pointer (some (ea n))) := by cases n with | zero => omega | succ n => unfold eV; rfl
  have em : eV 264 ea m = .iface 264 (.pointer (some (ea m))) := by cases m with | zero => omega | succ n => unfold eV; rfl
  rw [en, em]
  by_cases hnm : n = m
  · subst hnm
    exact Calls.mono (is_same (ea n) w) fun e w' ⟨he, hw⟩ => ⟨(), by rw [he, decide_eq_true rfl], by rw [hw]; exact St.init h⟩
  · obtain ⟨⟨c1, t1, h1⟩, _⟩ := hN.c n n1 n2
    obtain ⟨⟨c2, t2, h2⟩, _⟩ := hN.c m m1 m2
    exact Calls.mono (is_other (ea n) (ea m) c1 c2 t1 t2 w (fun e => hnm (hN.j n m n1 n2 m1 m2 e)) h1 h2) fun e w' ⟨he, hw⟩ => ⟨(), by rw [he, decide_eq_false hnm], by rw [hw]; exact St.init h⟩
abbrev E18 : List Nat := [1, 2, 3, 4, 5, 6, 7, 8, 9, 10, 11, 12, 13, 14, 15, 16, 17, 18]

attribute [local irreducible] Gl Gc Gx Gs Runs Wt

set_option maxHeartbeats 400000 in
theorem errNum_ok {w : World} {F : Nat → Prop} {ea : Nat → Addr} {n : Nat} (h : stars [] w F) (hN : NErr w (fun k => ¬ F k) ea) (hn : n ≤ 18) :
    Calls Tryz.prog 12 #[eV 264 ea n] w (Post w F (fun _ : Unit => .int .i64 (n : Int)) (fun _ => [])) := by
  have hE := hN.g
  refine g_enter (env := [(0, eV 264 ea n)]) Tryz.func12 rfl h Tryz.ntmps12 rfl rfl ?_
  refine gsr ?_
  refine gp zas ?_
  refine gnt ?_
  refine gc_seq ?_
  refine gsr ?_
  refine gp zmv ?_
  refine gp (r_bool (c := decide (n = 0)) (r_eqnil rfl (by kernel_rfl)) rfl) ?_
  refine gnt ?_
  refine gif rfl (fun hc7 => ?_) (fun hc7 => ?_)
  · refine gsr ?_
    refine gp zas ?_
    refine gnt ?_
    refine gc_ret ?_
    refine gx_then_ret ?_
    refine gx_ret1 rfl (by conv => lhs; whnf) ?_
    have hn0 : n = 0 := hc7
    subst hn0
    exact ze ()
  · try simp only at hc7
    have hn0 : n ≠ 0 := hc7
    refine gc_skip ?_
    refine gx_then ?_
    refine gsr ?_
    refine gp (r_ld1o rfl Ty.row_38 (hE.c 1 Has.h) (hE.n 1 Has.h)) ?_
    refine gp (r_ld1o rfl Ty.row_38 (hE.c 2 Has.h) (hE.n 2 Has.h)) ?_
    refine gp (r_ld1o rfl Ty.row_38 (hE.c 3 Has.h) (hE.n 3 Has.h)) ?_
    refine gp (r_ld1o rfl Ty.row_38 (hE.c 4 Has.h) (hE.n 4 Has.h)) ?_
    refine gp (r_ld1o rfl Ty.row_38 (hE.c 5 Has.h) (hE.n 5 Has.h)) ?_
    refine gp (r_ld1o rfl Ty.row_38 (hE.c 6 Has.h) (hE.n 6 Has.h)) ?_
    refine gp (r_ld1o rfl Ty.row_38 (hE.c 7 Has.h) (hE.n 7 Has.h)) ?_
    refine gp (r_ld1o rfl Ty.row_38 (hE.c 8 Has.h) (hE.n 8 Has.h)) ?_
    refine gp (r_ld1o rfl Ty.row_38 (hE.c 9 Has.h) (hE.n 9 Has.h)) ?_
    refine gp (r_ld1o rfl Ty.row_38 (hE.c 10 Has.h) (hE.n 10 Has.h)) ?_
    refine gp (r_ld1o rfl Ty.row_38 (hE.c 11 Has.h) (hE.n 11 Has.h)) ?_
    refine gp (r_ld1o rfl Ty.row_38 (hE.c 12 Has.h) (hE.n 12 Has.h)) ?_
    refine gp (r_ld1o rfl Ty.row_38 (hE.c 13 Has.h) (hE.n 13 Has.h)) ?_
    refine gp (r_ld1o rfl Ty.row_38 (hE.c 14 Has.h) (hE.n 14 Has.h)) ?_
    refine gp (r_ld1o rfl Ty.row_38 (hE.c 15 Has.h) (hE.n 15 Has.h)) ?_
    refine gp (r_ld1o rfl Ty.row_38 (hE.c 16 Has.h) (hE.n 16 Has.h)) ?_
    refine gp (r_ld1o rfl Ty.row_38 (hE.c 17 Has.h) (hE.n 17 Has.h)) ?_
    refine gp (r_ld1o rfl Ty.row_38 (hE.c 18 Has.h) (hE.n 18 Has.h)) ?_
    refine gl_bslice (s := 1) (e := 38) (len := 18) (cs := ((List.range 18).map fun i => eV 264 ea (i + 1))) (z := [.nilIface]) (wt0 rfl) Ty.sl_116 (by kernel_rfl) (by decide) (by decide) (by decide) (by kernel_rfl) (by kernel_rfl) rfl (fun b26 => ?_)
    refine gp zas ?_
    refine gnt ?_
    refine gc_seq ?_
    refine gsr ?_
    refine gp zmv ?_
    refine gp zln ?_
    refine gp zmv ?_
    refine gnt ?_
    refine gc_block ?_
    refine gc_loop (α := Nat) (fun k => [pureR (k ≤ 18 ∧ k < n), rowR 38 1 (some ⟨b26, 0, none⟩) 18 18 ((List.range 18).map fun i => eV 264 ea (i + 1))]) (fun k => [(29, .int .i64 (k : Int))]) [2, 4, 5, 30, 31, 32, 33, 34, 35, 36, 37, 38, 39] (fun k => 18 - k) 0 ?_ ?_ ?_
    · refine env_start (by kernel_rfl)
    · exact fun w' hw => zlp ⟨Nat.zero_le _, by omega⟩ (by repeat (first | exact Sel.nil | (apply Sel.cons; · (repeat (first | exact Pick.here | apply Pick.there))))) w' hw
    · intro k u
      refine gc_pureR (fun hk => ?_)
      obtain ⟨hk, hkn⟩ := hk
      replace hk : k ≤ 18 := hk
      replace hkn : k < n := hkn
      refine gsr ?_
      refine gp zlt ?_
      refine gnt ?_
      refine gc_seq ?_
      refine gif rfl (fun hc30 => ?_) (fun hc30 => ?_)
      · try simp only at hc30
        have hk' : k < 18 := by omega
        refine gc_skip ?_
        refine gx_then ?_
        refine gc_seq ?_
        refine gc_block ?_
        refine gsr ?_
        refine gp zmv ?_
        refine gp (zia) ?_
        refine gp (r_ld1r (v := eV 264 ea (k + 1)) rfl Ty.row_38 (by repeat (first | exact Pick.here | apply Pick.there)) (by simp [hk'])) ?_
        refine gp zas ?_
        refine gp zas ?_
        refine gnt ?_
        refine gsr ?_
        refine gp zmv ?_
        refine gp zmv ?_
        refine zc (fun _ => ?_) (c := fun w1 F1 F2 h1 h2 hd hst => errIs_ok (n := n) (m := k + 1) h1 (hN.mv hst.still) (by omega) (by omega) (by omega) (by omega))
        refine gnt ?_
        refine gif rfl (fun hc36 => ?_) (fun hc36 => ?_)
        · refine gsr ?_
          refine gp zmv ?_
          refine gp zad ?_
          refine gp zas ?_
          refine gnt ?_
          refine gc_ret ?_
          refine gx_block_ret ?_
          refine gx_then_ret ?_
          refine gx_round_ret ?_
          refine gx_block_ret ?_
          refine gx_then_ret ?_
          refine gx_ret1 rfl (by conv => lhs; whnf) ?_
          have e : n = k + 1 := hc36
          subst e
          exact ze ()
        · refine gc_skip ?_
          refine gx_block_normal ?_
          refine gx_then ?_
          refine gc_region ?_
          refine gp zad ?_
          refine gp zmv ?_
          refine gl_nil ?_
          refine zrd (k + 1) ?_ ?_
          · show 18 - (k + 1) < 18 - k
            omega
          · exact fun w' hw => zlp ⟨by show k + 1 ≤ 18; omega, by show k + 1 < n; omega⟩ (by repeat (first | exact Sel.nil | (apply Sel.cons; · (repeat (first | exact Pick.here | apply Pick.there))))) w' hw
      · refine gc_exit ?_
        refine gx_then_exit ?_
        refine gx_round_exit ?_
        refine gx_block_hit ?_
        refine gx_then ?_
        refine gsr ?_
        refine gp zas ?_
        refine gnt ?_
        refine gc_ret ?_
        refine gx_ret1 rfl (by conv => lhs; whnf) ?_
        exact absurd hkn (by omega)


theorem wOut_maxE {x : Msg} (h3 : x.chg.blocks.length = 3) : (wOut (wEnc x)).length ≤ 33687 := by
  have e0 := wMsg_len x h3 ⟨0, []⟩
  simp only [List.length_nil] at e0
  by_cases he : (wEnc x).err = 0
  · rw [wOut, if_pos he]
    by_cases hk : x.kind < 1 ∨ 6 < x.kind
    · rw [wEnc, if_pos hk]; simp
    · rw [wEnc, if_neg hk]; omega
  · rw [wOut, if_neg he]; simp
theorem cut_law {x : Msg} (h3 : x.chg.blocks.length = 3) (he : (wEnc x).err = 0) :
    0 < (wOut (wEnc x)).length ∧ (∀ k, k < (wOut (wEnc x)).length → allE pMsg (msg0 0) ((wOut (wEnc x)).take k) = (2, msg0 0)) ∧ (allE pMsg (msg0 0) (wOut (wEnc x))).1 = 0 ∧ (∀ m, m ≠ [] → allE pMsg (msg0 0) (wOut (wEnc x) ++ m) = (3, msg0 0)) := by
  have hk : ¬ (x.kind < 1 ∨ 6 < x.kind) := fun h => by rw [wEnc, if_pos h] at he; simp at he
  have e : wEnc x = wMsg x ⟨0, []⟩ := by rw [wEnc, if_neg hk]
  have ho : wOut (wEnc x) = (wMsg x ⟨0, []⟩).bs := by rw [wOut, if_pos he, e]
  rw [e] at he
  have hall := pAll_enc (enc_msg x h3 (by omega) (by omega)) he
  obtain ⟨_, _, _, _, ⟨c, t, hb, _⟩, _⟩ := dec_msg _ _ _ (pAll_ok hall)
  rw [ho]
  refine ⟨by rw [hb]; simp, fun k hk => ?_, by unfold allE; rw [hall], fun m hm => ?_⟩
  · unfold allE; rw [pAll_cut hall loc_msg hk]
  · unfold allE; rw [pAll_more hall loc_msg hm]
theorem RdMsg.head {w : World} {A : Nat → Prop} {cs : List Value} {x : Msg} (h : RdMsg w A cs x) : ∃ rest, cs = .int .i64 x.kind :: rest := by
  obtain ⟨v, t, p, r, c, h1, _⟩ := h; exact ⟨_, h1⟩
theorem RdRow.pre8 {w : World} {A : Nat → Prop} {h c : Nat} {a : Option Addr} {bs : List UInt8} (hr : RdRow w A 1 a bs.length (bs.map B8)) (h2 : h ≤ bs.length) (h3 : bs.length ≤ c) :
    RdRow w A 1 (if c = 0 then a else a.map (·.add (0 * 1))) h ((bs.take h).map B8) := by
  have := hr.cut8 (l := 0) (h := h) (Nat.zero_le _) h2 h3
  rwa [List.drop_zero, Nat.sub_zero] at this
theorem u64_range (x : Int) : 0 ≤ IntKind.u64.wrap x ∧ IntKind.u64.wrap x < 18446744073709551616 := by
  simp only [IntKind.wrap, IntKind.bits, IntKind.signed]; simp; omega
theorem RdMsg.one {w : World} {A : Nat → Prop} {cs : List Value} {x : Msg} (h : RdMsg w A cs x) : ∀ v ∈ cs, v.oneCell' = true := by
  obtain ⟨cv1, ct1, cp1, br1, cc1, rfl, hv1, ht1, hp1, hbr1, hcc1⟩ := h
  obtain ⟨sv1, rfl, gv1, rfl, hgv1⟩ := hv1
  obtain ⟨qt1, tt1, st1, rfl, hqt1, htt1, gt1, rfl, hgt1⟩ := ht1
  obtain ⟨bp1, tp1, sp1, rfl, hbp1, htp1, gp1, rfl, hgp1⟩ := hp1
  have jlgv1 := One.of hgv1.one
  have jlqt1 := One.of hqt1.one
  have jltt1 := One.of htt1.one
  have jlgt1 := One.of hgt1.one
  have jlbp1 := One.of hbp1.one
  have jltp1 := One.of htp1.one
  have jlgp1 := One.of hgp1.one
  have jlbr1 := One.of hbr1.one
  have jlcc1 := One.of hcc1.one'
  simp only [List.cons_append, List.append_assoc]
  repeat (first | exact One.h | refine all_app' (dc_one _) ?_ | refine all_app' One.h ?_ | refine all_cons' rfl ?_)

attribute [local irreducible] voteC tmoC propC blkC chgC sgnC tcC qcC dc msgC


end Go.Proofs.YtkgbbnhdioghmaaGreatDoor

/- The shell, part D: all eighteen errors. -/
namespace Go.Proofs.YtkgbbnhdioghmaaGreatDoor
open Go
open Go.ChangeShapes Go.WideShapes Go.RowKit
set_option linter.unusedVariables false
theorem rdBytes_row {w : World} {A : Nat → Prop} {a : Option Addr} {n c : Nat} {b : List UInt8} (h : RdBytes w A [.slice a n c] b) : RdRow w A 1 a n (b.map B8) := by
  obtain ⟨a', n', c', e, _, hr⟩ := h
  injection e with e _
  injection e with e1 e2 e3
  subst e1; subst e2
  exact hr
def errRow (x : String × List UInt8) : String × DataW Unit := (x.1, .iface "*errors.errorString" (.ptr (.agg [.lit (.string x.2)])))
theorem laid_sentinelF {P : Program} {n nm : String} {text : List UInt8} {r : List (String × DataW Unit)} {W : World} {g : Nat} {ti tp te ts : TypeId} {ms : Array (String × TypeId)} {f : Field}
    (h : laidMet P ((n, .iface nm (.ptr (.agg [.lit (.string text)]))) :: r) W)
    (hg : P.globalNamed n = some g) (ht : (P.globals[g]?).map (·.type) = some ti) (hi : P.underlying ti = some (.interface ms)) (hrow : ∀ u, P.typeName? 3 u = some nm → u = tp)
    (hp : P.underlying tp = some (.pointer te)) (he : P.underlying te = some (.struct #[f])) (hft : f.type = ts) (hfo : f.offset = 0) (hs : P.underlying ts = some .string) (hc : P.cellsOf te = 1) (hcs : P.cellsOf ts = 1) :
    ∃ (a : Addr) (s : ByteArray), W.var? P n = some #[.iface tp (.pointer (some a))] ∧ W.cell? a = some (.string s) ∧ s.data.toList = text ∧ ∃ c t, W.heap[a.block]? = some (.cells c t (0, 0)) := by
  obtain ⟨ps, ⟨g0', t0', cs0, f0, p0, q0, hg0', ht0', hv0, hd0, _, e0⟩, hnd, hrows⟩ := h
  obtain rfl := Option.some.inj (hg.symm.trans hg0')
  obtain rfl := Option.some.inj (ht.symm.trans ht0')
  subst e0
  obtain ⟨l0⟩ := cs0
  have ok0 : ∀ u v, l0 = [.iface u v] → Value.okWide P W .any 0 u v := fun u v e => by
    subst e
    exact (hrows g 0 (by simp [MemPlace.row])).2 u v (by simpa using World.var?_cell hg hv0 0)
  obtain ⟨a0, s0, rfl, hc0, hs0, hz0, rfl⟩ := errorString_of_trod hi hrow hp he hft hfo hs hc hcs hd0 ok0
  exact ⟨a0, s0, hv0, hc0, hs0, (hrows a0.block a0.off (by simp [MemPlace.row])).1⟩
theorem laid_err1 {W : World} {n : String} {text : List UInt8} {r : List (String × DataW Unit)} {g : Nat} (h : laidMet Tryz.prog ((n, .iface "*errors.errorString" (.ptr (.agg [.lit (.string text)]))) :: r) W) (hg : Tryz.prog.globalNamed n = some g) (ht : (Tryz.prog.globals[g]?).map (·.type) = some 38) :
    ∃ (a : Addr), W.cell? ⟨g, 0, none⟩ = some (.iface 264 (.pointer (some a))) ∧ (∃ s : ByteArray, W.cell? a = some (.string s) ∧ s.data.toList = text) ∧ ∃ c t, W.heap[a.block]? = some (.cells c t (0, 0)) := by
  obtain ⟨ms, hi⟩ := run_ifcT (P := Tryz.prog) (T := 38) (by kernel_rfl)
  obtain ⟨a, s, h1, h2, h3, h4⟩ := laid_sentinelF h hg ht hi err_row Tryz.underlying264 Tryz.underlying289 rfl rfl Tryz.underlying9 (by kernel_rfl) (by kernel_rfl)
  exact ⟨a, by simpa using World.var?_cell hg h1 0, ⟨s, h2, h3⟩, h4⟩
theorem laid_errs {W : World} : ∀ {ns : List (String × List UInt8)} {r : List (String × DataW Unit)}, laidMet Tryz.prog (ns.map errRow ++ r) W → (∀ x ∈ ns, ∃ g, Tryz.prog.globalNamed x.1 = some g ∧ (Tryz.prog.globals[g]?).map (·.type) = some 38) →
    ∃ al : List Addr, al.length = ns.length ∧ ∀ (i : Nat) (n : String) (t : List UInt8) (a : Addr), ns[i]? = some (n, t) → al[i]? = some a → (∀ g, Tryz.prog.globalNamed n = some g → W.cell? ⟨g, 0, none⟩ = some (.iface 264 (.pointer (some a)))) ∧ (∃ s : ByteArray, W.cell? a = some (.string s) ∧ s.data.toList = t) ∧ ∃ c t, W.heap[a.block]? = some (.cells c t (0, 0))
  | [], r, _, _ => ⟨[], rfl, fun i n t a h => by simp at h⟩
  | x :: ns, r, h, hg => by
    obtain ⟨al, hl, ha⟩ := laid_errs (ns := ns) (r := r) h.tail (fun y hy => hg y (List.mem_cons_of_mem _ hy))
    obtain ⟨g, hg1, hg2⟩ := hg x List.mem_cons_self
    obtain ⟨a0, h1, h2, h3⟩ := laid_err1 (n := x.1) (text := x.2) h hg1 hg2
    refine ⟨a0 :: al, by simp [hl], fun i n t a hi hai => ?_⟩
    cases i with
    | zero =>
      simp only [List.getElem?_cons_zero, Option.some.injEq] at hi hai
      subst hi; subst hai
      exact ⟨fun g' hg' => by rw [hg1] at hg'; cases hg'; exact h1, h2, h3⟩
    | succ i => exact ha i n t a (by simpa using hi) (by simpa using hai)
def errNames : List (String × List UInt8) := [("quorate/api.ErrRange", [113, 117, 111, 114, 97, 116, 101, 58, 32, 114, 97, 110, 103, 101]),
  ("quorate/api.ErrShort", [113, 117, 111, 114, 97, 116, 101, 58, 32, 115, 104, 111, 114, 116]),
  ("quorate/api.ErrLong", [113, 117, 111, 114, 97, 116, 101, 58, 32, 108, 111, 110, 103]),
  ("quorate/api.ErrForm", [113, 117, 111, 114, 97, 116, 101, 58, 32, 102, 111, 114, 109]),
  ("quorate/api.ErrSpent", [113, 117, 111, 114, 97, 116, 101, 58, 32, 115, 112, 101, 110, 116]),
  ("quorate/api.ErrPower", [113, 117, 111, 114, 97, 116, 101, 58, 32, 112, 111, 119, 101, 114]),
  ("quorate/api.ErrDisk", [113, 117, 111, 114, 97, 116, 101, 58, 32, 100, 105, 115, 107]),
  ("quorate/api.ErrFull", [113, 117, 111, 114, 97, 116, 101, 58, 32, 102, 117, 108, 108]),
  ("quorate/api.ErrNone", [113, 117, 111, 114, 97, 116, 101, 58, 32, 110, 111, 110, 101]),
  ("quorate/api.ErrOld", [113, 117, 111, 114, 97, 116, 101, 58, 32, 111, 108, 100]),
  ("quorate/api.ErrSet", [113, 117, 111, 114, 97, 116, 101, 58, 32, 115, 101, 116]),
  ("quorate/api.ErrProof", [113, 117, 111, 114, 97, 116, 101, 58, 32, 112, 114, 111, 111, 102]),
  ("quorate/api.ErrLeader", [113, 117, 111, 114, 97, 116, 101, 58, 32, 108, 101, 97, 100, 101, 114]),
  ("quorate/api.ErrRound", [113, 117, 111, 114, 97, 116, 101, 58, 32, 114, 111, 117, 110, 100]),
  ("quorate/api.ErrUnsafe", [113, 117, 111, 114, 97, 116, 101, 58, 32, 117, 110, 115, 97, 102, 101]),
  ("quorate/api.ErrParent", [113, 117, 111, 114, 97, 116, 101, 58, 32, 112, 97, 114, 101, 110, 116]),
  ("quorate/api.ErrTwice", [113, 117, 111, 114, 97, 116, 101, 58, 32, 116, 119, 105, 99, 101]),
  ("quorate/api.ErrEpoch", [113, 117, 111, 114, 97, 116, 101, 58, 32, 101, 112, 111, 99, 104])]
theorem errNames_glob : (List.range 18).all (fun i => match errNames[i]? with | some x => (Tryz.prog.globalNamed x.1 == some (errG (i + 1))) && ((Tryz.prog.globals[errG (i + 1)]?).map (·.type) == some 38) | none => false) = true := by kernel_rfl
theorem errNames_apart : (List.range 18).all (fun i => (List.range 18).all fun j => match errNames[i]?, errNames[j]? with | some x, some y => i == j || x.2 != y.2 | _, _ => false) = true := by kernel_rfl
theorem laid_nerr {W : World} {r : List (String × DataW Unit)} (h : laidMet Tryz.prog (errNames.map errRow ++ r) W) : ∃ ea, NErr W (fun k => ¬ (fun _ : Nat => False) k) ea := by
  have hgl := errNames_glob
  rw [List.all_eq_true] at hgl
  have hap := errNames_apart
  rw [List.all_eq_true] at hap
  have hlen : errNames.length = 18 := rfl
  have hglob : ∀ i, i < 18 → ∃ x, errNames[i]? = some x ∧ Tryz.prog.globalNamed x.1 = some (errG (i + 1)) ∧ (Tryz.prog.globals[errG (i + 1)]?).map (·.type) = some 38 := fun i hi => by
    have := hgl i (List.mem_range.2 hi)
    cases hx : errNames[i]? with
    | none => rw [hx] at this; cases this
    | some x => rw [hx] at this; simp only [Bool.and_eq_true, beq_iff_eq] at this; exact ⟨x, rfl, this⟩
  obtain ⟨al, hl, ha⟩ := laid_errs h (fun x hx => by
    obtain ⟨i, hi, hxi⟩ := List.mem_iff_getElem.1 hx
    obtain ⟨y, hy, h1, h2⟩ := hglob i (by omega)
    rw [List.getElem?_eq_getElem hi, hxi] at hy
    cases hy
    exact ⟨_, h1, h2⟩)
  rw [hlen] at hl
  have key : ∀ i, 1 ≤ i → i ≤ 18 → ∃ x a, errNames[i - 1]? = some x ∧ al[i - 1]? = some a ∧ al.getD (i - 1) ⟨0, 0, none⟩ = a ∧ W.cell? ⟨errG i, 0, none⟩ = some (.iface 264 (.pointer (some a))) ∧ (∃ s : ByteArray, W.cell? a = some (.string s) ∧ s.data.toList = x.2) ∧ ∃ c t, W.heap[a.block]? = some (.cells c t (0, 0)) := fun i h1 h2 => by
    obtain ⟨x, hx, hg, _⟩ := hglob (i - 1) (by omega)
    have haa : al[i - 1]? = some al[i - 1] := List.getElem?_eq_getElem (by omega)
    obtain ⟨k1, k2, k3⟩ := ha (i - 1) x.1 x.2 _ hx haa
    rw [show i - 1 + 1 = i by omega] at hg
    exact ⟨x, _, hx, haa, by rw [List.getD_eq_getElem?_getD, haa]; rfl, k1 _ hg, k2, k3⟩
  refine ⟨fun i => al.getD (i - 1) ⟨0, 0, none⟩, ⟨fun i hi => ?_, fun i _ => id⟩, fun i h1 h2 => ?_, fun i j h1 h2 k1 k2 e => ?_⟩
  · have hi' : 1 ≤ i ∧ i ≤ 18 := by
      simp only [List.mem_cons, List.not_mem_nil, or_false] at hi; omega
    obtain ⟨x, a, _, _, ea, hc, _⟩ := key i hi'.1 hi'.2
    rw [hc, ← ea]
    cases i with
    | zero => omega
    | succ i => unfold eV; rfl
  · obtain ⟨x, a, _, _, ea, _, _, hc⟩ := key i h1 h2
    simp only []
    rw [ea]
    exact ⟨hc, id⟩
  · obtain ⟨x, a, hx, _, ea, _, ⟨s, hs, ht⟩, _⟩ := key i h1 h2
    obtain ⟨y, b, hy, _, eb, _, ⟨s', hs', ht'⟩, _⟩ := key j k1 k2
    replace e : al.getD (i - 1) ⟨0, 0, none⟩ = al.getD (j - 1) ⟨0, 0, none⟩ := e
    rw [ea, eb] at e
    subst e
    rw [hs] at hs'
    injection hs' with hs'; injection hs' with hs'
    subst hs'
    have h3 := hap (i - 1) (List.mem_range.2 (by omega))
    rw [List.all_eq_true] at h3
    have h4 := h3 (j - 1) (List.mem_range.2 (by omega))
    rw [hx, hy] at h4
    simp only [Bool.or_eq_true, beq_iff_eq, bne_iff_ne] at h4
    rcases h4 with h4 | h4
    · omega
    · exact absurd (ht.symm.trans ht') h4
end Go.Proofs.YtkgbbnhdioghmaaGreatDoor

/- Plain words: ints of a range; what the reference's writer of layer 9 makes of lists is what layer 9's own writer makes of them. No program in sight. -/
namespace Go.Proofs.YtkgbbnhdioghmaaGreatDoor
set_option linter.unusedVariables false

def I64 (n : Int) : Prop := -9223372036854775808 ≤ n ∧ n ≤ 9223372036854775807
def OkSig (x : Sig) : Prop := I64 x.leaf
def OkSigned (x : Signed) : Prop := I64 x.who ∧ OkSig x.sig
def OkQC (x : QC) : Prop := I64 x.epoch ∧ I64 x.round ∧ ∀ v ∈ x.votes, OkSigned v
def OkLate (x : Late) : Prop := I64 x.who ∧ I64 x.high ∧ OkSig x.sig
def OkTC (x : TC) : Prop := I64 x.epoch ∧ I64 x.round ∧ ∀ v ∈ x.lates, OkLate v
def OkVdr (x : Vdr) : Prop := I64 x.power
def OkBlock (x : Block) : Prop := I64 x.epoch ∧ I64 x.round ∧ OkQC x.justify ∧ ∀ v ∈ x.next, OkVdr v
def OkVote (x : Vote) : Prop := I64 x.epoch ∧ I64 x.round ∧ OkSigned x.sender
def OkTmo (x : Tmo) : Prop := I64 x.epoch ∧ I64 x.round ∧ OkQC x.high ∧ OkTC x.last ∧ OkSigned x.sender
def OkProp (x : Prop') : Prop := OkBlock x.block ∧ OkTC x.last ∧ OkSigned x.sender
def OkChg (x : Chg) : Prop := (∀ b ∈ x.blocks, OkBlock b) ∧ OkQC x.qc
def OkMsg (x : Msg) : Prop := I64 x.kind ∧ OkVote x.vote ∧ OkTmo x.tmo ∧ OkProp x.prop ∧ OkBlock x.reply ∧ OkChg x.chg

theorem wFail_bad {k : Nat} {s : WS} (he : ¬ s.err = 0) : wFail k s = s := by unfold wFail; rw [if_neg he]
theorem wFix_bad {b : List UInt8} {s : WS} (he : ¬ s.err = 0) : wFix b s = s := by unfold wFix; rw [if_neg he]
theorem wNum_bad {n : Int} {wd : Nat} {s : WS} (he : ¬ s.err = 0) : wNum n wd s = s := by
  unfold wNum; split
  · exact wFail_bad he
  · exact wFix_bad he
theorem wDig_bad (d : Dig) (s : WS) (he : ¬ s.err = 0) : wDig d s = s := wFix_bad he
theorem foldl_bad {α : Type} {wX : α → WS → WS} (h : ∀ x s, ¬ s.err = 0 → wX x s = s) : ∀ (l : List α) (s : WS), ¬ s.err = 0 → l.foldl (fun s x => wX x s) s = s
  | [], _, _ => rfl
  | x :: l, s, he => by rw [List.foldl_cons, h x s he]; exact foldl_bad h l s he
theorem wPut_bad {α : Type} {wX : α → WS → WS} (h : ∀ x s, ¬ s.err = 0 → wX x s = s) (l : List α) (most : Nat) (s : WS) (he : ¬ s.err = 0) : wPut wX l most s = s := by
  unfold wPut; split
  · exact wFail_bad he
  · rw [wNum_bad he]; exact foldl_bad h l s he
theorem wBytes_bad (b : List UInt8) (most : Nat) (s : WS) (he : ¬ s.err = 0) : wBytes b most s = s := by
  unfold wBytes; split
  · exact wFail_bad he
  · rw [wNum_bad he]; exact wFix_bad he
theorem wSig_bad (x : Sig) (s : WS) (he : ¬ s.err = 0) : wSig x s = s := by
  unfold wSig; rw [wNum_bad he, wPut_bad wDig_bad _ _ _ he, wPut_bad wDig_bad _ _ _ he]
theorem wSigned_bad (x : Signed) (s : WS) (he : ¬ s.err = 0) : wSigned x s = s := by
  unfold wSigned; rw [wNum_bad he, wSig_bad _ _ he]
theorem wLate_bad (x : Late) (s : WS) (he : ¬ s.err = 0) : wLate x s = s := by
  unfold wLate; rw [wNum_bad he, wNum_bad he, wSig_bad _ _ he]
theorem wVdr_bad (x : Vdr) (s : WS) (he : ¬ s.err = 0) : wVdr x s = s := by
  unfold wVdr; rw [wDig_bad _ _ he, wNum_bad he]
/-- How many elements, most at most; and what stands then. -/
def wMany (n most : Nat) (s : WS) : WS := if s.err = 0 ∧ most < n then ⟨1, s.bs⟩ else wNum (n : Int) 1 s
theorem wMany_len (n most : Nat) (s : WS) : (wMany n most s).bs.length ≤ s.bs.length + 1 := by
  unfold wMany; split
  · simp
  · exact wNum_len _ _ _
theorem put_many {α : Type} {wX : α → WS → WS} (h : ∀ x s, ¬ s.err = 0 → wX x s = s) (l : List α) {most : Nat} (hm : most ≤ 255) (s : WS) : l.foldl (fun s x => wX x s) (wMany l.length most s) = wPut wX l most s := by
  by_cases he : s.err = 0
  · unfold wMany wPut
    by_cases hn : most < l.length
    · rw [if_pos ⟨he, hn⟩, if_pos (.inl hn), foldl_bad h _ _ (by simp)]
      unfold wFail; rw [if_pos he]
    · rw [if_neg (fun hh => hn hh.2), if_neg (by omega)]
  · rw [wPut_bad h l most s he]
    unfold wMany
    rw [if_neg (fun hh => he hh.1), wNum_bad he]
    exact foldl_bad h l s he
theorem many_bound {α : Type} {wX : α → WS → WS} {c M : Nat} (h : ∀ x s, (wX x s).bs.length ≤ s.bs.length + c) (hb : ∀ x s, ¬ s.err = 0 → wX x s = s) {l : List α} {s : WS} {most k : Nat} (hk : k < l.length) (hm : 1 ≤ most) (hM : s.bs.length + (1 + most * c) ≤ M) :
    ((l.take k).foldl (fun s x => wX x s) (wMany l.length most s)).bs.length + c ≤ M := by
  have h4 : 1 * c ≤ most * c := Nat.mul_le_mul_right _ hm
  have bad : ∀ t : WS, ¬ t.err = 0 → t.bs.length ≤ s.bs.length → ((l.take k).foldl (fun s x => wX x s) t).bs.length + c ≤ M := fun t ht hl => by
    rw [foldl_bad hb _ _ ht]; omega
  by_cases he : s.err = 0
  · unfold wMany
    by_cases hn : most < l.length
    · rw [if_pos ⟨he, hn⟩]; exact bad _ (by simp) (Nat.le_refl _)
    · rw [if_neg (fun hh => hn hh.2)]
      have h1 := foldl_len h (l.take k) (wNum (l.length : Int) 1 s)
      have h2 := wNum_len (l.length : Int) 1 s
      have h3 : (l.take k).length = k := by rw [List.length_take]; omega
      have h5 : (k + 1) * c ≤ most * c := Nat.mul_le_mul_right _ (by omega)
      rw [h3] at h1
      rw [Nat.add_mul, Nat.one_mul] at h5
      omega
  · have e : wMany l.length most s = s := by unfold wMany; rw [if_neg (fun hh => he hh.1), wNum_bad he]
    rw [e]; exact bad s he (Nat.le_refl _)
/-- A list of bytes, as the reference writes it. -/
def wTx0 (n : Nat) (s : WS) : WS := wNum (n : Int) 2 (if s.err = 0 ∧ 16 < n then ⟨1, s.bs⟩ else s)
theorem wTx_eq (b : List UInt8) (s : WS) : wFix b (wTx0 b.length s) = wBytes b 16 s := by
  unfold wTx0 wBytes
  by_cases he : s.err = 0
  · by_cases hn : 16 < b.length
    · rw [if_pos ⟨he, hn⟩, if_pos (.inl hn), wNum_bad (by simp), wFix_bad (by simp)]
      unfold wFail; rw [if_pos he]
    · rw [if_neg (fun hh => hn hh.2), if_neg (by omega)]
  · rw [if_neg (fun hh => he hh.1), wNum_bad he, wFix_bad he]
    split
    · rw [wFail_bad he]
    · rfl
theorem wTx0_len (n : Nat) (s : WS) : (wTx0 n s).bs.length ≤ s.bs.length + 2 := by
  unfold wTx0; split
  · exact wNum_len _ _ _
  · exact wNum_len _ _ _
end Go.Proofs.YtkgbbnhdioghmaaGreatDoor

/- The shell, part E: the kinds of layer 9, opened, their ints of a range. -/
namespace Go.Proofs.YtkgbbnhdioghmaaGreatDoor
open Go
set_option linter.unusedVariables false
set_option linter.unusedSimpArgs false
theorem rdList_and {α : Type} {rd : List Value → α → Prop} {ok : α → Prop} {w : World} {A : Nat → Prop} {size n : Nat} {a : Option Addr} {l : List α} (h : RdList (fun cs x => rd cs x ∧ ok x) w A size a n l) : RdList rd w A size a n l ∧ ∀ x ∈ l, ok x := by
  obtain ⟨css, h1, h2, h3, h4⟩ := h
  refine ⟨⟨css, h1, h2, h3, fun i c x hc hx => (h4 i c x hc hx).1⟩, fun x hx => ?_⟩
  obtain ⟨i, hi, e⟩ := List.getElem_of_mem hx
  have hic : i < css.length := by omega
  exact (h4 i _ _ (List.getElem?_eq_getElem hic) (by rw [List.getElem?_eq_getElem hi, e])).2
section
variable {H : Type} {enc : TypeId × Value → H} {w : World} {base : Nat} {sp : Nat → Bool} {held : Bool}
theorem opens_intw {P : Program} {T : TypeId} (ht : P.underlying T = some (.int .i64)) : Opens enc P w base sp held T (fun cs n => cs = [.int .i64 n] ∧ I64 n) := fun fuel cs x h => by
  obtain ⟨n, h1, _, h3⟩ := DataW.trod_int ht h
  refine ⟨n, h1, ?_⟩
  simp [Lit.wf, IntKind.min, IntKind.max, IntKind.signed, IntKind.bits] at h3
  unfold I64; omega
theorem p_int : Opens enc Tryz.prog w base sp held 3 (fun cs n => cs = [.int .i64 n] ∧ I64 n) := opens_intw Ty.un_3
theorem p_sig : Opens enc Tryz.prog w base sp held 49 (fun cs x => RdSig w TT cs x ∧ OkSig x) := fun fuel cs x h => by
  have hl := opens_lenT (i := 0) (f := 3) (o := 0) (s := 3) (by kernel_rfl) (by kernel_rfl) h
  obtain ⟨n0, h0, j0⟩ := opens_fieldT (i := 0) (f := 3) (o := 0) (s := 1) (by kernel_rfl) (by kernel_rfl) p_int h
  obtain ⟨l1, a1, m1, c1, h1, k1, r1⟩ := opens_fieldT (i := 1) (f := 47) (o := 1) (s := 1) (by kernel_rfl) (by kernel_rfl) (opens_slice (s := 16) Ty.sl_47 Ty.sz_23 (by decide) o_dig) h
  obtain ⟨l2, a2, m2, c2, h2, k2, r2⟩ := opens_fieldT (i := 2) (f := 47) (o := 2) (s := 1) (by kernel_rfl) (by kernel_rfl) (opens_slice (s := 16) Ty.sl_47 Ty.sz_23 (by decide) o_dig) h
  have e0 := seg cs 0 1
  have e1 := seg cs 1 1
  have e2 := seg cs 2 1
  have ee := drop_all hl
  have e : cs = _ := (List.drop_zero (l := cs)).symm.trans e0
  simp only [Nat.reduceAdd, Nat.zero_add] at e e1 e2
  rw [h0, e1, h1, e2, h2, ee] at e
  exact ⟨⟨n0, l1, l2⟩, ⟨a1, m1, c1, a2, m2, c2, e, k1, k2, r1, r2⟩, j0⟩
theorem p_signed : Opens enc Tryz.prog w base sp held 51 (fun cs x => RdSigned w TT cs x ∧ OkSigned x) := fun fuel cs x h => by
  have hl := opens_lenT (i := 0) (f := 3) (o := 0) (s := 4) (by kernel_rfl) (by kernel_rfl) h
  obtain ⟨n0, h0, j0⟩ := opens_fieldT (i := 0) (f := 3) (o := 0) (s := 1) (by kernel_rfl) (by kernel_rfl) p_int h
  obtain ⟨s1, h1, j1⟩ := opens_fieldT (i := 1) (f := 49) (o := 1) (s := 3) (by kernel_rfl) (by kernel_rfl) p_sig h
  have e0 := seg cs 0 1
  have e1 := seg cs 1 3
  have ee := drop_all hl
  have e : cs = _ := (List.drop_zero (l := cs)).symm.trans e0
  simp only [Nat.reduceAdd, Nat.zero_add] at e e1
  rw [h0, e1, ee, List.append_nil] at e
  exact ⟨⟨n0, s1⟩, ⟨_, e, h1⟩, j0, j1⟩
theorem p_vdr : Opens enc Tryz.prog w base sp held 191 (fun cs x => RdVdr cs x ∧ OkVdr x) := fun fuel cs x h => by
  have hl := opens_lenT (i := 0) (f := 23) (o := 0) (s := 17) (by kernel_rfl) (by kernel_rfl) h
  obtain ⟨d0, h0⟩ := opens_fieldT (i := 0) (f := 23) (o := 0) (s := 16) (by kernel_rfl) (by kernel_rfl) o_dig h
  obtain ⟨n1, h1, j1⟩ := opens_fieldT (i := 1) (f := 3) (o := 16) (s := 1) (by kernel_rfl) (by kernel_rfl) p_int h
  have e0 := seg cs 0 16
  have e1 := seg cs 16 1
  have ee := drop_all hl
  have e : cs = _ := (List.drop_zero (l := cs)).symm.trans e0
  unfold RdDig at h0
  simp only [Nat.reduceAdd, Nat.zero_add] at e e1
  rw [h0, e1, h1, ee] at e
  exact ⟨⟨d0, n1⟩, e, j1⟩
theorem p_qc : Opens enc Tryz.prog w base sp held 26 (fun cs x => RdQC w TT cs x ∧ OkQC x) := fun fuel cs x h => by
  have hl := opens_lenT (i := 0) (f := 3) (o := 0) (s := 19) (by kernel_rfl) (by kernel_rfl) h
  obtain ⟨n0, h0, j0⟩ := opens_fieldT (i := 0) (f := 3) (o := 0) (s := 1) (by kernel_rfl) (by kernel_rfl) p_int h
  obtain ⟨n1, h1, j1⟩ := opens_fieldT (i := 1) (f := 3) (o := 1) (s := 1) (by kernel_rfl) (by kernel_rfl) p_int h
  obtain ⟨d2, h2⟩ := opens_fieldT (i := 2) (f := 23) (o := 2) (s := 16) (by kernel_rfl) (by kernel_rfl) o_dig h
  obtain ⟨l3, a3, m3, c3, h3, k3, r3⟩ := opens_fieldT (i := 3) (f := 24) (o := 18) (s := 1) (by kernel_rfl) (by kernel_rfl) (opens_slice (s := 4) Ty.sl_24 Ty.sz_51 (by decide) p_signed) h
  obtain ⟨r3, j3⟩ := rdList_and r3
  have e0 := seg cs 0 1
  have e1 := seg cs 1 1
  have e2 := seg cs 2 16
  have e3 := seg cs 18 1
  have ee := drop_all hl
  have e : cs = _ := (List.drop_zero (l := cs)).symm.trans e0
  unfold RdDig at h2
  simp only [Nat.reduceAdd, Nat.zero_add] at e e1 e2 e3
  rw [h0, e1, h1, e2, h2, e3, h3, ee] at e
  exact ⟨⟨n0, n1, d2, l3⟩, ⟨a3, m3, c3, e, k3, r3⟩, j0, j1, j3⟩
theorem p_block : Opens enc Tryz.prog w base sp held 30 (fun cs x => RdBlock w TT cs x ∧ OkBlock x) := fun fuel cs x h => by
  have hl := opens_lenT (i := 0) (f := 3) (o := 0) (s := 39) (by kernel_rfl) (by kernel_rfl) h
  obtain ⟨n0, h0, j0⟩ := opens_fieldT (i := 0) (f := 3) (o := 0) (s := 1) (by kernel_rfl) (by kernel_rfl) p_int h
  obtain ⟨n1, h1, j1⟩ := opens_fieldT (i := 1) (f := 3) (o := 1) (s := 1) (by kernel_rfl) (by kernel_rfl) p_int h
  obtain ⟨d2, h2⟩ := opens_fieldT (i := 2) (f := 23) (o := 2) (s := 16) (by kernel_rfl) (by kernel_rfl) o_dig h
  obtain ⟨q3, h3, j3⟩ := opens_fieldT (i := 3) (f := 26) (o := 18) (s := 19) (by kernel_rfl) (by kernel_rfl) p_qc h
  obtain ⟨l4, a4, m4, c4, h4, k4, r4⟩ := opens_fieldT (i := 4) (f := 27) (o := 37) (s := 1) (by kernel_rfl) (by kernel_rfl) (opens_slice (s := 1) Ty.sl_27 Ty.sz_36 (by decide) o_bytes) h
  obtain ⟨l5, a5, m5, c5, h5, k5, r5⟩ := opens_fieldT (i := 5) (f := 28) (o := 38) (s := 1) (by kernel_rfl) (by kernel_rfl) (opens_slice (s := 17) Ty.sl_28 Ty.sz_191 (by decide) p_vdr) h
  obtain ⟨r5, j5⟩ := rdList_and r5
  have e0 := seg cs 0 1
  have e1 := seg cs 1 1
  have e2 := seg cs 2 16
  have e3 := seg cs 18 19
  have e4 := seg cs 37 1
  have e5 := seg cs 38 1
  have ee := drop_all hl
  have e : cs = _ := (List.drop_zero (l := cs)).symm.trans e0
  unfold RdDig at h2
  simp only [Nat.reduceAdd, Nat.zero_add] at e e1 e2 e3 e4 e5
  rw [h0, e1, h1, e2, h2, e3, e4, h4, e5, h5, ee] at e
  exact ⟨⟨n0, n1, d2, q3, l4, l5⟩, ⟨_, a4, m4, c4, a5, m5, c5, e, h3, k4, r4, k5, r5⟩, j0, j1, j3, j5⟩
theorem p_late : Opens enc Tryz.prog w base sp held 179 (fun cs x => RdLate w TT cs x ∧ OkLate x) := fun fuel cs x h => by
  have hl := opens_lenT (i := 0) (f := 3) (o := 0) (s := 5) (by kernel_rfl) (by kernel_rfl) h
  obtain ⟨n0, h0, j0⟩ := opens_fieldT (i := 0) (f := 3) (o := 0) (s := 1) (by kernel_rfl) (by kernel_rfl) p_int h
  obtain ⟨n1, h1, j1⟩ := opens_fieldT (i := 1) (f := 3) (o := 1) (s := 1) (by kernel_rfl) (by kernel_rfl) p_int h
  obtain ⟨s2, h2, j2⟩ := opens_fieldT (i := 2) (f := 49) (o := 2) (s := 3) (by kernel_rfl) (by kernel_rfl) p_sig h
  have e0 := seg cs 0 1
  have e1 := seg cs 1 1
  have e2 := seg cs 2 3
  have ee := drop_all hl
  have e : cs = _ := (List.drop_zero (l := cs)).symm.trans e0
  simp only [Nat.reduceAdd, Nat.zero_add] at e e1 e2
  rw [h0, e1, h1, e2, ee, List.append_nil] at e
  exact ⟨⟨n0, n1, s2⟩, ⟨_, e, h2⟩, j0, j1, j2⟩
theorem p_tc : Opens enc Tryz.prog w base sp held 56 (fun cs x => RdTC w TT cs x ∧ OkTC x) := fun fuel cs x h => by
  have hl := opens_lenT (i := 0) (f := 3) (o := 0) (s := 3) (by kernel_rfl) (by kernel_rfl) h
  obtain ⟨n0, h0, j0⟩ := opens_fieldT (i := 0) (f := 3) (o := 0) (s := 1) (by kernel_rfl) (by kernel_rfl) p_int h
  obtain ⟨n1, h1, j1⟩ := opens_fieldT (i := 1) (f := 3) (o := 1) (s := 1) (by kernel_rfl) (by kernel_rfl) p_int h
  obtain ⟨l2, a2, m2, c2, h2, k2, r2⟩ := opens_fieldT (i := 2) (f := 54) (o := 2) (s := 1) (by kernel_rfl) (by kernel_rfl) (opens_slice (s := 5) Ty.sl_54 Ty.sz_179 (by decide) p_late) h
  obtain ⟨r2, j2⟩ := rdList_and r2
  have e0 := seg cs 0 1
  have e1 := seg cs 1 1
  have e2 := seg cs 2 1
  have ee := drop_all hl
  have e : cs = _ := (List.drop_zero (l := cs)).symm.trans e0
  simp only [Nat.reduceAdd, Nat.zero_add] at e e1 e2
  rw [h0, e1, h1, e2, h2, ee] at e
  exact ⟨⟨n0, n1, l2⟩, ⟨a2, m2, c2, e, k2, r2⟩, j0, j1, j2⟩
theorem p_vote : Opens enc Tryz.prog w base sp held 53 (fun cs x => RdVote w TT cs x ∧ OkVote x) := fun fuel cs x h => by
  have hl := opens_lenT (i := 0) (f := 3) (o := 0) (s := 22) (by kernel_rfl) (by kernel_rfl) h
  obtain ⟨n0, h0, j0⟩ := opens_fieldT (i := 0) (f := 3) (o := 0) (s := 1) (by kernel_rfl) (by kernel_rfl) p_int h
  obtain ⟨n1, h1, j1⟩ := opens_fieldT (i := 1) (f := 3) (o := 1) (s := 1) (by kernel_rfl) (by kernel_rfl) p_int h
  obtain ⟨d2, h2⟩ := opens_fieldT (i := 2) (f := 23) (o := 2) (s := 16) (by kernel_rfl) (by kernel_rfl) o_dig h
  obtain ⟨s3, h3, j3⟩ := opens_fieldT (i := 3) (f := 51) (o := 18) (s := 4) (by kernel_rfl) (by kernel_rfl) p_signed h
  have e0 := seg cs 0 1
  have e1 := seg cs 1 1
  have e2 := seg cs 2 16
  have e3 := seg cs 18 4
  have ee := drop_all hl
  have e : cs = _ := (List.drop_zero (l := cs)).symm.trans e0
  unfold RdDig at h2
  simp only [Nat.reduceAdd, Nat.zero_add] at e e1 e2 e3
  rw [h0, e1, h1, e2, h2, e3, ee, List.append_nil] at e
  exact ⟨⟨n0, n1, d2, s3⟩, ⟨_, e, h3⟩, j0, j1, j3⟩
theorem p_tmo : Opens enc Tryz.prog w base sp held 58 (fun cs x => RdTmo w TT cs x ∧ OkTmo x) := fun fuel cs x h => by
  have hl := opens_lenT (i := 0) (f := 3) (o := 0) (s := 28) (by kernel_rfl) (by kernel_rfl) h
  obtain ⟨n0, h0, j0⟩ := opens_fieldT (i := 0) (f := 3) (o := 0) (s := 1) (by kernel_rfl) (by kernel_rfl) p_int h
  obtain ⟨n1, h1, j1⟩ := opens_fieldT (i := 1) (f := 3) (o := 1) (s := 1) (by kernel_rfl) (by kernel_rfl) p_int h
  obtain ⟨q2, h2, j2⟩ := opens_fieldT (i := 2) (f := 26) (o := 2) (s := 19) (by kernel_rfl) (by kernel_rfl) p_qc h
  obtain ⟨t3, h3, j3⟩ := opens_fieldT (i := 3) (f := 56) (o := 21) (s := 3) (by kernel_rfl) (by kernel_rfl) p_tc h
  obtain ⟨s4, h4, j4⟩ := opens_fieldT (i := 4) (f := 51) (o := 24) (s := 4) (by kernel_rfl) (by kernel_rfl) p_signed h
  have e0 := seg cs 0 1
  have e1 := seg cs 1 1
  have e2 := seg cs 2 19
  have e3 := seg cs 21 3
  have e4 := seg cs 24 4
  have ee := drop_all hl
  have e : cs = _ := (List.drop_zero (l := cs)).symm.trans e0
  simp only [Nat.reduceAdd, Nat.zero_add] at e e1 e2 e3 e4
  rw [h0, e1, h1, e2, e3, e4, ee, List.append_nil] at e
  exact ⟨⟨n0, n1, q2, t3, s4⟩, ⟨(cs.drop 2).take 19, (cs.drop 21).take 3, (cs.drop 24).take 4, e, h2, h3, h4⟩, j0, j1, j2, j3, j4⟩
theorem p_prop : Opens enc Tryz.prog w base sp held 60 (fun cs x => RdProp w TT cs x ∧ OkProp x) := fun fuel cs x h => by
  have hl := opens_lenT (i := 0) (f := 30) (o := 0) (s := 46) (by kernel_rfl) (by kernel_rfl) h
  obtain ⟨b0, h0, j0⟩ := opens_fieldT (i := 0) (f := 30) (o := 0) (s := 39) (by kernel_rfl) (by kernel_rfl) p_block h
  obtain ⟨t1, h1, j1⟩ := opens_fieldT (i := 1) (f := 56) (o := 39) (s := 3) (by kernel_rfl) (by kernel_rfl) p_tc h
  obtain ⟨s2, h2, j2⟩ := opens_fieldT (i := 2) (f := 51) (o := 42) (s := 4) (by kernel_rfl) (by kernel_rfl) p_signed h
  have e0 := seg cs 0 39
  have e1 := seg cs 39 3
  have e2 := seg cs 42 4
  have ee := drop_all hl
  have e : cs = _ := (List.drop_zero (l := cs)).symm.trans e0
  simp only [Nat.reduceAdd, Nat.zero_add] at e e1 e2
  rw [e1, e2, ee, List.append_nil] at e
  exact ⟨⟨b0, t1, s2⟩, ⟨_, _, _, e, h0, h1, h2⟩, j0, j1, j2⟩
theorem p_reply : Opens enc Tryz.prog w base sp held 64 (fun cs x => RdBlock w TT cs x ∧ OkBlock x) := fun fuel cs x h => by
  have hl := opens_lenT (i := 0) (f := 30) (o := 0) (s := 39) (by kernel_rfl) (by kernel_rfl) h
  obtain ⟨b0, h0, j0⟩ := opens_fieldT (i := 0) (f := 30) (o := 0) (s := 39) (by kernel_rfl) (by kernel_rfl) p_block h
  have e0 := seg cs 0 39
  have ee := drop_all hl
  have e : cs = _ := (List.drop_zero (l := cs)).symm.trans e0
  simp only [Nat.reduceAdd, Nat.zero_add] at e
  rw [ee, List.append_nil] at e
  rw [← e] at h0
  exact ⟨b0, h0, j0⟩
theorem p_arr3 : Opens enc Tryz.prog w base sp held 31 (fun cs (l : List Block) => (∃ css : List (List Value), cs = css.flatten ∧ (∀ c ∈ css, c.length = 39) ∧ css.length = 3 ∧ l.length = 3 ∧ ∀ (i : Nat) (c : List Value) (x : Block), css[i]? = some c → l[i]? = some x → RdBlock w TT c x) ∧ ∀ x ∈ l, OkBlock x) := fun fuel cs x h => by
  obtain ⟨l, css, h0, hc, hn, hl3, hx⟩ := opens_arr3 (s := 39) Ty.arr_31 Ty.sz_30 (by kernel_rfl) p_block fuel cs x h
  refine ⟨l, ⟨css, h0, hc, hn, hl3, fun i c x h1 h2 => (hx i c x h1 h2).1⟩, fun x hm => ?_⟩
  obtain ⟨i, hi, e⟩ := List.getElem_of_mem hm
  have hic : i < css.length := by omega
  exact (hx i _ _ (List.getElem?_eq_getElem hic) (by rw [List.getElem?_eq_getElem hi, e])).2
theorem p_chg : Opens enc Tryz.prog w base sp held 33 (fun cs x => RdChg w TT cs x ∧ OkChg x) := fun fuel cs x h => by
  have hl := opens_lenT (i := 0) (f := 31) (o := 0) (s := 136) (by kernel_rfl) (by kernel_rfl) h
  obtain ⟨l0, ⟨css, h0, hc, hn, hl3, hx⟩, j0⟩ := opens_fieldT (i := 0) (f := 31) (o := 0) (s := 117) (by kernel_rfl) (by kernel_rfl) p_arr3 h
  obtain ⟨q1, h1, j1⟩ := opens_fieldT (i := 1) (f := 26) (o := 117) (s := 19) (by kernel_rfl) (by kernel_rfl) p_qc h
  have e0 := seg cs 0 117
  have e1 := seg cs 117 19
  have ee := drop_all hl
  have e : cs = _ := (List.drop_zero (l := cs)).symm.trans e0
  simp only [Nat.reduceAdd, Nat.zero_add] at e e1
  rw [h0, e1, ee, List.append_nil] at e
  exact ⟨⟨l0, q1⟩, ⟨css, _, e, hc, hn, hl3, hx, h1⟩, j0, j1⟩
theorem p_msg : Opens enc Tryz.prog w base sp held 66 (fun cs x => RdMsg w TT cs x ∧ OkMsg x) := fun fuel cs x h => by
  have hl := opens_lenT (i := 0) (f := 3) (o := 0) (s := 304) (by kernel_rfl) (by kernel_rfl) h
  obtain ⟨n0, h0, j0⟩ := opens_fieldT (i := 0) (f := 3) (o := 0) (s := 1) (by kernel_rfl) (by kernel_rfl) p_int h
  obtain ⟨v1, h1, j1⟩ := opens_fieldT (i := 1) (f := 53) (o := 1) (s := 22) (by kernel_rfl) (by kernel_rfl) p_vote h
  obtain ⟨t2, h2, j2⟩ := opens_fieldT (i := 2) (f := 58) (o := 23) (s := 28) (by kernel_rfl) (by kernel_rfl) p_tmo h
  obtain ⟨p3, h3, j3⟩ := opens_fieldT (i := 3) (f := 60) (o := 51) (s := 46) (by kernel_rfl) (by kernel_rfl) p_prop h
  obtain ⟨⟨d4, d5⟩, h4⟩ := opens_fieldT (i := 4) (f := 62) (o := 97) (s := 32) (by kernel_rfl) (by kernel_rfl) o_want h
  obtain ⟨r5, h5, j5⟩ := opens_fieldT (i := 5) (f := 64) (o := 129) (s := 39) (by kernel_rfl) (by kernel_rfl) p_reply h
  obtain ⟨c6, h6, j6⟩ := opens_fieldT (i := 6) (f := 33) (o := 168) (s := 136) (by kernel_rfl) (by kernel_rfl) p_chg h
  have e0 := seg cs 0 1
  have e1 := seg cs 1 22
  have e2 := seg cs 23 28
  have e3 := seg cs 51 46
  have e4 := seg cs 97 32
  have e5 := seg cs 129 39
  have e6 := seg cs 168 136
  have ee := drop_all hl
  have e : cs = _ := (List.drop_zero (l := cs)).symm.trans e0
  replace h4 : _ = dc d4 ++ dc d5 := h4
  simp only [Nat.reduceAdd, Nat.zero_add] at e e1 e2 e3 e4 e5 e6
  rw [h0, e1, e2, e3, e4, h4, e5, e6, ee, List.append_nil, List.append_assoc (dc d4)] at e
  exact ⟨⟨n0, v1, t2, p3, d4, d5, r5, c6⟩, ⟨_, _, _, _, _, e, h1, h2, h3, h5, h6⟩, j0, j1, j2, j3, j5, j6⟩
end
end Go.Proofs.YtkgbbnhdioghmaaGreatDoor

/- The engine, part M: make([]T, n), n read off; a block as a row. -/
namespace Go.Proofs.YtkgbbnhdioghmaaGreatDoor
open Go
set_option linter.unusedVariables false
set_option linter.unusedSimpArgs false
theorem madeCells_one (v : Value) (n : Nat) : (madeCells #[v] n).toList = List.replicate n v := by
  apply List.ext_getElem?
  intro i
  simp only [madeCells, Array.toList_map, Array.toList_range, List.getElem?_map, List.getElem?_replicate, List.getElem?_range']
  by_cases h : i < n
  · simp [h, List.getElem?_range h, Nat.mod_one]
  · simp [h, List.getElem?_eq_none]
theorem stars_blk_row {w : World} {F : Nat → Prop} {L : List Res} {b e n : Nat} {cs : List Value} (h : stars (blk b e cs :: L) w F) (hl : cs.length = n) (hn : n ≤ maxLen) : stars (rowR e 1 (some ⟨b, 0, none⟩) n n cs :: L) w F := by
  obtain ⟨F1, F2, ⟨hF1, fz, h1, hz⟩, h2, hF, hd⟩ := h
  refine ⟨F1, F2, ⟨by omega, Nat.le_refl _, hn, .inr ⟨b, 0, cs.toArray, fz, rfl, hF1, h1, by simpa using hz, by simp; omega, ?_⟩⟩, h2, hF, hd⟩
  simp only [List.drop_zero]
  exact List.take_of_length_le (by omega)
section
variable {P : Program} {w0 : World} {F0 : Nat → Prop} {L : List Res} {Q : Exit → Act → World → Prop} {n : Nat} {env : Env} {ops : Array Oper} {rest : List Oper} {ty : TypeId} {pos : String} {af : Array Edge} {gd : Option (Nat × Bool)}
theorem gl_mk1 {t : Tmp} {T e bytes m : Nat} {x y : Operand} {z : Value} {k k' : IntKind} (hw : Wt ops n env ⟨some t, .makeSlice T x y, ty, pos, af, gd⟩ true) (ht : ElemT P T e 1 bytes) (hz : (P.info? e).map (·.zero) = some (some z)) (hzc : z.cells = #[z])
    (hx : ev n env x = .int k (m : Int)) (hy : ev n env y = .int k' (m : Int)) (hb : bytes * m ≤ 16777216) (hm : m ≤ 16777216)
    (K : ∀ b, Gl P w0 F0 (blk b e (List.replicate m z) :: L) ops Q rest n ((t, .slice (some ⟨b, 0, none⟩) m m) :: env)) : Gl P w0 F0 L ops Q (⟨some t, .makeSlice T x y, ty, pos, af, gd⟩ :: rest) n env := by
  refine gl_effx (α := Nat) (L' := fun b => blk b e (List.replicate m z) :: L) (v := fun b => .slice (some ⟨b, 0, none⟩) m m) hw (fun w hst => ?_) K
  obtain ⟨i, z', hi, hz', hs, hby, _⟩ := ht.info
  have hzz : z' = z := by rw [hi] at hz; simp only [Option.map_some, Option.some.injEq] at hz; rw [hz'] at hz; exact Option.some.inj hz
  subst hzz
  refine ⟨w.heap.size, { w with heap := w.heap.push (.cells (List.replicate m z').toArray e) }, ?_, hst.new⟩
  have hbb : (i.bytes : Int) * (m : Int) ≤ 281474976710656 := by
    rw [hby, ← Int.natCast_mul]; omega
  have hr := run_makeSlice (P := P) (w := w) T e i z' ht.sl hi hz' k k' (m : Int) (m : Int) (by omega) (Int.le_refl _) (by simp [hs]; omega) hbb (by omega)
  simp only [execOp, hx, hy, Sem.run_bind, hr, Result.andThen_ok, Sem.run_pure]
  simp only [Int.toNat_natCast, hs, Nat.mul_one, hzc]
  have e1 : madeCells #[z'] m = (List.replicate m z').toArray := by rw [← madeCells_one]
  rw [e1]
  first | rfl | simp [World.alloc]
end
section two
variable {P : Program} {w0 : World} {F0 : Nat → Prop} {K L : List Res} {Q : Exit → Act → World → Prop} {n : Nat} {env : Env} {ops : Array Oper} {listed : Array Bool} {fuel z : Nat}
/-- One of two comes, then the other. -/
theorem yo2 (i j : Nat) {oi oj : Oper} (hi : ops[i]? = some oi) (hj : ops[j]? = some oj)
    (ki : Gl P w0 F0 L ops (Exit.then (NextH P w0 F0 K ops Q fuel (listed.setIfInBounds i true)) Q) [oi] n env) (kj : Gl P w0 F0 L ops (Exit.then (NextH P w0 F0 K ops Q fuel (listed.setIfInBounds j true)) Q) [oj] n env)
    (hr : Region.ready .any ops listed = [i, j] := by kernel_rfl) : Gh P w0 F0 K L ops Q (fuel + 1) listed n env := fun w hst =>
  wpAnyH_all hr (by simp) fun x hx => by
    rcases List.mem_cons.1 hx with rfl | hx
    · exact wpOp_of_list hi (ki w hst)
    · obtain rfl : x = j := by simpa using hx
      exact wpOp_of_list hj (kj w hst)
theorem yo2s (i j : Nat) {oi oj : Oper} (hi : ops[i]? = some oi) (hj : ops[j]? = some oj)
    (ki : Gl P w0 F0 L ops (Exit.then (NextT P w0 F0 K ops Q z fuel (listed.setIfInBounds i true)) Q) [oi] n env) (kj : Gl P w0 F0 L ops (Exit.then (NextT P w0 F0 K ops Q z fuel (listed.setIfInBounds j true)) Q) [oj] n env)
    (hr : Region.ready .any ops listed = [i, j] := by kernel_rfl) : Gt P w0 F0 K L ops Q z (fuel + 1) listed n env := fun w hst =>
  ⟨fun h => (by rw [hr] at h; cases h), by rw [hr]; simp, fun x hx _ => by
    rw [hr] at hx
    rcases List.mem_cons.1 hx with rfl | hx
    · exact wpOp_of_list hi (ki w hst)
    · obtain rfl : x = j := by simpa using hx
      exact wpOp_of_list hj (kj w hst)⟩
end two
end Go.Proofs.YtkgbbnhdioghmaaGreatDoor

/- Walks, by program (wg.py) out of a spec. -/
namespace Go.Proofs.YtkgbbnhdioghmaaGreatDoor
open Go
set_option linter.unusedVariables false
set_option linter.unusedSimpArgs false


def quoN (n : Int) : Nat → Int
  | 0 => n
  | k + 1 => quoN n k / 256
theorem quoN_eq (n : Int) : ∀ k, quoN n k = n / 256 ^ k
  | 0 => by simp [quoN]
  | k + 1 => by rw [quoN, quoN_eq n k, Int.pow_succ, Int.ediv_ediv_of_nonneg (Int.le_of_lt (Int.pow_pos (by decide)))]
theorem quoN_range {n : Int} (h : I64 n) (h0 : 0 ≤ n) : ∀ k, 0 ≤ quoN n k ∧ quoN n k ≤ 9223372036854775807
  | 0 => ⟨h0, h.2⟩
  | k + 1 => by have := quoN_range h h0 k; simp only [quoN]; omega
theorem quo_step {n : Int} {k : Nat} (h : I64 n) (h0 : 0 ≤ n) : IntKind.i64.wrap ((quoN n k).tdiv 256) = quoN n (k + 1) := by
  have h1 := quoN_range h h0 k
  rw [Int.tdiv_eq_ediv_of_nonneg h1.1, quoN]
  exact wrap_i64 (by omega) (by omega)
theorem fits_zero {n : Int} {wd : Nat} (h0 : 0 ≤ n) : (quoN n wd = 0) ↔ n < 256 ^ wd := by
  have hp : (0 : Int) < 256 ^ wd := Int.pow_pos (by decide)
  rw [quoN_eq]
  refine ⟨fun h => ?_, fun h => Int.ediv_eq_zero_of_lt h0 h⟩
  have h1 := Int.mul_ediv_add_emod n (256 ^ wd)
  have h2 := Int.emod_lt_of_pos n hp
  rw [h, Int.mul_zero, Int.zero_add] at h1
  omega

attribute [local irreducible] Gl Gc Gx Gs Runs Wt

set_option maxHeartbeats 400000 in
theorem fits_ok {w : World} {F : Nat → Prop} {n : Int} {wd : Nat} (h : stars [] w F) (h1 : 1 ≤ wd) (h7 : wd ≤ 7) (hn : I64 n) :
    Calls Tryz.prog 105 #[.int .i64 n, .int .i64 (wd : Int)] w (Post w F (fun _ : Unit => .bool (decide (0 ≤ n ∧ n < 256 ^ wd))) (fun _ => [])) := by
  refine g_enter (env := [(0, .int .i64 n), (1, .int .i64 (wd : Int))]) Tryz.func105 rfl h Tryz.ntmps105 rfl rfl ?_
  refine gsr ?_
  refine gp zas ?_
  refine gnt ?_
  refine gc_seq ?_
  refine gsr ?_
  refine gp zmv ?_
  refine gp (r_bool (c := false) zlt (decide_eq_false (by omega))) ?_
  refine gp zmv ?_
  refine gq zmv ?_
  refine gq (r_bool (c := false) zgt (decide_eq_false (by omega))) ?_
  refine gp zpk ?_
  refine gp zmv ?_
  refine gq zmv ?_
  refine gq zlt ?_
  refine gp zpk ?_
  refine gnt ?_
  refine gif rfl (fun hc15 => ?_) (fun hc15 => ?_)
  · refine gsr ?_
    refine gp zas ?_
    refine gnt ?_
    refine gc_ret ?_
    refine gx_then_ret ?_
    refine gx_ret1 rfl (by conv => lhs; whnf) ?_
    rw [decide_eq_false (fun h => by omega)]
    exact ze ()
  · try simp only at hc15
    have h0 : 0 ≤ n := by omega
    refine gc_skip ?_
    refine gx_then ?_
    refine gc_seq ?_
    refine gsr ?_
    refine gp zas ?_
    refine gnt ?_
    refine gc_block ?_
    refine gc_loop (α := Nat) (fun k => [pureR (k ≤ wd)]) (fun k => [(5, .int .i64 (k : Int)), (0, .int .i64 (quoN n k))]) [16, 17, 18, 19, 20, 21, 22] (fun k => wd - k) 0 ?_ ?_ ?_
    · refine env_start (by kernel_rfl)
    · exact fun w' hw => zlp (Nat.zero_le _) (by repeat (first | exact Sel.nil | (apply Sel.cons; · (repeat (first | exact Pick.here | apply Pick.there))))) w' hw
    · intro k u
      refine gc_pureR (fun hk => ?_)
      replace hk : k ≤ wd := hk
      refine gc_seq ?_
      refine gsr ?_
      refine gp zmv ?_
      refine gp zmv ?_
      refine gp zlt ?_
      refine gnt ?_
      refine gif rfl (fun hc18 => ?_) (fun hc18 => ?_)
      · refine gc_skip ?_
        refine gx_then ?_
        refine gc_seq ?_
        refine gc_block ?_
        refine gc_region ?_
        refine gp zmv ?_
        refine gp (r_int zqu (quo_step hn h0)) ?_
        refine gp zas ?_
        refine gl_nil ?_
        refine gx_block_normal ?_
        refine gx_then ?_
        refine gc_region ?_
        refine gp zmv ?_
        refine gp zad ?_
        refine gp zas ?_
        refine gl_nil ?_
        refine zrd (k + 1) ?_ ?_
        · show wd - (k + 1) < wd - k
          omega
        · exact fun w' hw => zlp (show k + 1 ≤ wd by omega) (by repeat (first | exact Sel.nil | (apply Sel.cons; · (repeat (first | exact Pick.here | apply Pick.there))))) w' hw
      · try simp only at hc18
        have hk' : k = wd := by omega
        subst hk'
        refine gc_exit ?_
        refine gx_then_exit ?_
        refine gx_round_exit ?_
        refine gx_block_hit ?_
        refine gx_then ?_
        refine gsr ?_
        refine gp zmv ?_
        refine gp zei ?_
        refine gp zas ?_
        refine gnt ?_
        refine gc_ret ?_
        refine gx_ret1 rfl (by conv => lhs; whnf) ?_
        rw [show decide (quoN n k = 0) = decide (0 ≤ n ∧ n < 256 ^ k) from decide_eq_decide.2 (by rw [fits_zero h0]; exact ⟨fun h => ⟨h0, h⟩, fun h => h.2⟩)]
        exact ze ()


def numRow (n : Int) (wd k : Nat) : List Value := List.replicate (wd - k) (.int .u8 0) ++ ((beN n wd).drop (wd - k)).map B8
theorem numRow_zero (n : Int) (wd : Nat) : List.replicate wd (.int .u8 0) = numRow n wd 0 := by
  simp only [numRow, Nat.sub_zero]
  rw [List.drop_eq_nil_of_le (by rw [beN_length]; exact Nat.le_refl _)]; simp
theorem numRow_full (n : Int) (wd : Nat) : numRow n wd wd = (beN n wd).map B8 := by simp [numRow]
theorem numRow_length (n : Int) (wd k : Nat) (h : k ≤ wd) : (numRow n wd k).length = wd := by simp [numRow, beN_length]; try omega
theorem numRow_store {n : Int} {wd k o : Nat} (h : k < wd) (ho : o = wd - 1 - k) : updL (numRow n wd k) o [B8 (byteAt n k)] = numRow n wd (k + 1) := by
  subst ho
  have hb : (beN n wd).drop (wd - (k + 1)) = byteAt n k :: (beN n wd).drop (wd - k) := by
    have hl : wd - (k + 1) < (beN n wd).length := by rw [beN_length]; omega
    rw [List.drop_eq_getElem_cons hl, show wd - (k + 1) + 1 = wd - k by omega]
    congr 1
    simp only [beN, List.getElem_map, List.getElem_range]
    rw [show wd - 1 - (wd - (k + 1)) = k by omega]
  have e1 : wd - k = wd - 1 - k + 1 := by omega
  have e2 : wd - (k + 1) = wd - 1 - k := by omega
  simp only [updL, numRow, hb, List.length_singleton]
  rw [e2, e1, List.take_append_of_le_length (by simp), List.take_replicate, Nat.min_eq_left (by omega), List.drop_append, List.drop_replicate]
  simp
theorem byte_rem {n : Int} {k : Nat} (h : I64 n) (h0 : 0 ≤ n) : (.int .u8 (IntKind.u8.wrap ((quoN n k).tmod 256)) : Value) = B8 (byteAt n k) := by
  have h1 := quoN_range h h0 k
  rw [Int.tmod_eq_emod_of_nonneg h1.1, wrap_u8 (by omega) (by omega), byteAt, B8, quoN_eq]
  have e : (256 : Int) ^ k = 2 ^ (8 * k) := by rw [Int.pow_mul]; rfl
  rw [e, UInt8.toNat_ofNat']
  congr 1
  have := Int.emod_nonneg (n / 2 ^ (8 * k)) (show (256 : Int) ≠ 0 by decide)
  have := Int.emod_lt_of_pos (n / 2 ^ (8 * k)) (show (0 : Int) < 256 by decide)
  omega

set_option maxHeartbeats 400000 in
theorem refNumber_ok {w : World} {F : Nat → Prop} {n : Int} {wd : Nat} (h : stars [] w F) (h1 : 1 ≤ wd) (h7 : wd ≤ 7) (hn : I64 n) (h0 : 0 ≤ n) :
    Calls Tryz.prog 106 #[.int .i64 n, .int .i64 (wd : Int)] w (Post w F (fun b : Nat => .slice (some ⟨b, 0, none⟩) wd wd) (fun b => [rowR 5 1 (some ⟨b, 0, none⟩) wd wd ((beN n wd).map B8)])) := by
  refine g_enter (env := [(0, .int .i64 n), (1, .int .i64 (wd : Int))]) Tryz.func106 rfl h Tryz.ntmps106 rfl rfl ?_
  refine gsr ?_
  refine gp zas ?_
  refine gnt ?_
  refine gsr ?_
  refine gp zmv ?_
  refine gl_mk1 (z := .int .u8 0) (m := wd) (wt0 rfl) ELT.h (by kernel_rfl) rfl rfl rfl (by omega) (by omega) (fun b8 => ?_)
  refine gl_eqc (cs' := numRow n wd 0) (by repeat (first | exact Pick.here | apply Pick.there)) (numRow_zero n wd) ?_
  refine gp zas ?_
  refine gnt ?_
  refine gc_seq ?_
  refine gsr ?_
  refine gp zmv ?_
  refine gp (r_int zsb (show (wd : Int) - 1 = (wd : Int) - 1 - ((0 : Nat) : Int) by omega)) ?_
  refine gp zas ?_
  refine gnt ?_
  refine gc_block ?_
  refine gc_loop (α := Nat) (fun k => [pureR (k ≤ wd), blk b8 5 (numRow n wd k)]) (fun k => [(6, .int .i64 ((wd : Int) - 1 - (k : Int))), (0, .int .i64 (quoN n k))]) [11, 12, 13, 14, 15, 16, 17, 18, 19, 20, 21, 22] (fun k => wd - k) 0 ?_ ?_ ?_
  · refine env_start (by kernel_rfl)
  · exact fun w' hw => zlp (Nat.zero_le _) (by repeat (first | exact Sel.nil | (apply Sel.cons; · (repeat (first | exact Pick.here | apply Pick.there))))) w' hw
  · intro k u
    refine gc_pureR (fun hk => ?_)
    replace hk : k ≤ wd := hk
    refine gc_seq ?_
    refine gsr ?_
    refine gp zmv ?_
    refine gp zge ?_
    refine gnt ?_
    refine gif rfl (fun hc12 => ?_) (fun hc12 => ?_)
    · try simp only at hc12
      have hk' : k < wd := by omega
      refine gc_skip ?_
      refine gx_then ?_
      refine gc_seq ?_
      refine gc_block ?_
      refine gsr ?_
      refine gp zmv ?_
      refine gp zmv ?_
      refine gp zmv ?_
      refine gp zrm ?_
      refine gp (r_val zci (byte_rem hn h0)) ?_
      refine gp (zia) ?_
      refine gl_store1 (wt0 rfl) rfl rfl rfl Ty.sz_5 (by repeat (first | exact Pick.here | apply Pick.there)) (by rw [numRow_length n wd k hk]; omega) (numRow_store hk' (by omega)) ?_
      refine gnt ?_
      refine gc_region ?_
      refine gp zmv ?_
      refine gp (r_int zqu (quo_step hn h0)) ?_
      refine gp zas ?_
      refine gl_nil ?_
      refine gx_block_normal ?_
      refine gx_then ?_
      refine gc_region ?_
      refine gp zmv ?_
      refine gp (r_int zsb (show (wd : Int) - 1 - (k : Int) - 1 = (wd : Int) - 1 - ((k + 1 : Nat) : Int) by omega)) ?_
      refine gp zas ?_
      refine gl_nil ?_
      refine zrd (k + 1) ?_ ?_
      · show wd - (k + 1) < wd - k
        omega
      · exact fun w' hw => zlp (show k + 1 ≤ wd by omega) (by repeat (first | exact Sel.nil | (apply Sel.cons; · (repeat (first | exact Pick.here | apply Pick.there))))) w' hw
    · try simp only at hc12
      have hk' : k = wd := by omega
      subst hk'
      refine gc_exit ?_
      refine gx_then_exit ?_
      refine gx_round_exit ?_
      refine gx_block_hit ?_
      refine gx_then ?_
      refine gsr ?_
      refine gp zmv ?_
      refine gp zas ?_
      refine gnt ?_
      refine gc_ret ?_
      refine gx_ret1 rfl (by conv => lhs; whnf) ?_
      exact fun w' hw => ⟨b8, rfl, (hw.sel (M := [blk b8 5 _]) (by repeat (first | exact Sel.nil | (apply Sel.cons; · (repeat (first | exact Pick.here | apply Pick.there)))))).mapL0 fun F' hF' => by rw [numRow_full] at hF'; exact stars_blk_row hF' (by simp [beN_length]) (by simp only [maxLen]; omega)⟩

end Go.Proofs.YtkgbbnhdioghmaaGreatDoor

/- Walks, by program (wg.py) out of a spec. -/
namespace Go.Proofs.YtkgbbnhdioghmaaGreatDoor
open Go
set_option linter.unusedVariables false
set_option linter.unusedSimpArgs false


/-- The reference's writer in block g. -/
def OutR (g : Nat) (s : WS) : Res := exR fun p : Option Addr × Nat => allR [blk g 114 [.slice p.1 s.bs.length p.2, .int .i64 (s.err : Int)], rowR 5 1 p.1 s.bs.length p.2 (s.bs.map B8)]
theorem out_open {g : Nat} {s : WS} {L : List Res} {w : World} {F : Nat → Prop} (h : stars (OutR g s :: L) w F) :
    ∃ a c, stars (blk g 114 [.slice a s.bs.length c, .int .i64 (s.err : Int)] :: rowR 5 1 a s.bs.length c (s.bs.map B8) :: L) w F := by
  obtain ⟨⟨a, c⟩, h⟩ := stars_ex h
  exact ⟨a, c, stars_all h⟩
theorem St.out {w0 w : World} {F0 : Nat → Prop} {g m c : Nat} {k : Int} {a : Option Addr} {xs : List Value} {s : WS} {L : List Res}
    (h : St w0 F0 (blk g 114 [.slice a m c, .int .i64 k] :: rowR 5 1 a m c xs :: L) w) (hk : k = (s.err : Int)) (hm : m = s.bs.length) (hx : xs = s.bs.map B8) : St w0 F0 (OutR g s :: L) w := by
  subst hk; subst hm; subst hx
  obtain ⟨F, hF, hst⟩ := h
  exact ⟨F, stars_ex_mk (a, c) (stars_all_mk hF), hst⟩
theorem fit_iff {n : Int} {wd : Nat} (h7 : wd ≤ 7) : ¬ (n < 0 ∨ (wd < 8 ∧ 2 ^ (8 * wd) ≤ n)) ↔ 0 ≤ n ∧ n < 256 ^ wd := by
  have e : (256 : Int) ^ wd = 2 ^ (8 * wd) := by rw [Int.pow_mul]; rfl
  rw [e]; omega
theorem wNum_fail {n : Int} {wd : Nat} {s : WS} (h7 : wd ≤ 7) (he : s.err = 0) (hf : ¬ (0 ≤ n ∧ n < 256 ^ wd)) : wNum n wd s = ⟨1, s.bs⟩ := by
  have h : (n < 0 ∨ (wd < 8 ∧ 2 ^ (8 * wd) ≤ n)) := by
    rcases Classical.em (n < 0 ∨ (wd < 8 ∧ 2 ^ (8 * wd) ≤ n)) with h | h
    · exact h
    · exact absurd ((fit_iff h7).1 h) hf
  unfold wNum wFail; rw [if_pos h, if_pos he]
theorem wNum_fit {n : Int} {wd : Nat} {s : WS} (h7 : wd ≤ 7) (he : s.err = 0) (hf : 0 ≤ n ∧ n < 256 ^ wd) : wNum n wd s = ⟨0, s.bs ++ beN n wd⟩ := by
  have h := (fit_iff h7).2 hf
  unfold wNum wFix; rw [if_neg h, if_pos he, he]
theorem out_mk {g m c : Nat} {k : Int} {a : Option Addr} {xs : List Value} {s : WS} {w : World} {F : Nat → Prop}
    (h : stars [blk g 114 [.slice a m c, .int .i64 k], rowR 5 1 a m c xs] w F) (hk : k = (s.err : Int)) (hm : m = s.bs.length) (hx : xs = s.bs.map B8) : stars [OutR g s] w F := by
  subst hk; subst hm; subst hx
  exact stars_ex_mk (a, c) (stars_all_mk h)
theorem wDig_fit {d : Dig} {s : WS} (he : s.err = 0) : wDig d s = ⟨0, s.bs ++ d.l⟩ := by unfold wDig wFix; rw [if_pos he, he]

attribute [local irreducible] Gl Gc Gx Gs Runs Wt

set_option maxHeartbeats 400000 in
theorem onum_ok {w : World} {F : Nat → Prop} {g : Nat} {s : WS} {n : Int} {wd : Nat} (h : stars [OutR g s] w F) (h1 : 1 ≤ wd) (h7 : wd ≤ 7) (hn : s.err = 0 → I64 n) (hb : s.bs.length + wd ≤ 1099511627776) :
    Calls Tryz.prog 52 #[.pointer (some ⟨g, 0, none⟩), .int .i64 n, .int .i64 (wd : Int)] w (Post w F (fun _ : Unit => .tuple #[]) (fun _ => [OutR g (wNum n wd s)])) := by
  obtain ⟨a0, c0, h'⟩ := out_open h
  refine g_enter (env := [(0, .pointer (some ⟨g, 0, none⟩)), (1, .int .i64 n), (2, .int .i64 (wd : Int))]) Tryz.func52 rfl h' Tryz.ntmps52 rfl rfl ?_
  refine gc_seq ?_
  refine gc_seq ?_
  by_cases he : s.err = 0
  · by_cases hf : 0 ≤ n ∧ n < 256 ^ wd
    · refine gc_region ?_
      refine gp zmv ?_
      refine gp znc ?_
      refine gp zfa ?_
      refine gp zl ?_
      refine gp (r_bool (c := true) zei (decide_eq_true (by omega))) ?_
      refine gp zmv ?_
      refine gq zmv ?_
      refine gq zmv ?_
      refine zc (fun _ => ?_) (c := fun w1 F1 F2 h1 h2 hd hst => fits_ok h1 (by assumption) (by assumption) (hn he))
      rw [decide_eq_true hf]
      refine gq znt ?_
      refine gp zpk ?_
      refine gnt ?_
      refine gc_condF rfl rfl ?_
      refine gc_skip ?_
      refine gx_then ?_
      refine gsr ?_
      refine gp zmv ?_
      refine gp znc ?_
      refine gp zfa ?_
      refine gp zl ?_
      refine gp (r_bool (c := true) zei (decide_eq_true (by omega))) ?_
      refine gnt ?_
      refine gc_condT rfl rfl ?_
      refine gc_regionH [] ?_
      refine yp 0 rfl zmv ?_
      refine yp 1 rfl zmv ?_
      refine yp 2 rfl znc ?_
      refine yp 3 rfl zfa ?_
      refine yp 5 rfl zmv ?_
      refine yp 6 rfl zmv ?_
      refine yo2 4 7 rfl rfl ?_ ?_
      · refine gp zl ?_
        refine yx ?_
        refine yo 7 rfl ?_
        refine zc (fun b32 => ?_) (c := fun w1 F1 F2 h1 h2 hd hst => refNumber_ok h1 (by assumption) (by assumption) (hn he) hf.1)
        refine yx ?_
        refine yo 8 rfl ?_
        refine zapo (a2 := some ⟨b32, 0, none⟩) (c2 := wd) (news := (beN n wd).map B8) (fun a33 c33 => ?_) (h1 := one_B8 _)
        refine yx ?_
        refine yp 9 rfl znc ?_
        refine yp 10 rfl zfa ?_
        refine yo 11 rfl ?_
        refine zs1 ?_
        refine yx ?_
        refine yd ?_
        refine gx_ret0' rfl ?_
        rw [wNum_fit h7 he hf]
        exact fun w' hw => ⟨(), rfl, St.out (hw.sel (by repeat (first | exact Sel.nil | (apply Sel.cons; · (repeat (first | exact Pick.here | apply Pick.there)))))) (by rw [he]) (by simp [beN_length]) (by simp)⟩
      · refine zc (fun b32 => ?_) (c := fun w1 F1 F2 h1 h2 hd hst => refNumber_ok h1 (by assumption) (by assumption) (hn he) hf.1)
        refine yx ?_
        refine yo 4 rfl ?_
        refine gp zl ?_
        refine yx ?_
        refine yo 8 rfl ?_
        refine zapo (a2 := some ⟨b32, 0, none⟩) (c2 := wd) (news := (beN n wd).map B8) (fun a33 c33 => ?_) (h1 := one_B8 _)
        refine yx ?_
        refine yp 9 rfl znc ?_
        refine yp 10 rfl zfa ?_
        refine yo 11 rfl ?_
        refine zs1 ?_
        refine yx ?_
        refine yd ?_
        refine gx_ret0' rfl ?_
        rw [wNum_fit h7 he hf]
        exact fun w' hw => ⟨(), rfl, St.out (hw.sel (by repeat (first | exact Sel.nil | (apply Sel.cons; · (repeat (first | exact Pick.here | apply Pick.there)))))) (by rw [he]) (by simp [beN_length]) (by simp)⟩
    · refine gc_region ?_
      refine gp zmv ?_
      refine gp znc ?_
      refine gp zfa ?_
      refine gp zl ?_
      refine gp (r_bool (c := true) zei (decide_eq_true (by omega))) ?_
      refine gp zmv ?_
      refine gq zmv ?_
      refine gq zmv ?_
      refine zc (fun _ => ?_) (c := fun w1 F1 F2 h1 h2 hd hst => fits_ok h1 (by assumption) (by assumption) (hn he))
      rw [decide_eq_false hf]
      refine gq znt ?_
      refine gp zpk ?_
      refine gnt ?_
      refine gc_condT rfl rfl ?_
      refine gc_region ?_
      refine gp zmv ?_
      refine gp znc ?_
      refine gp zfa ?_
      refine zs1 ?_
      refine gnt ?_
      refine gsr ?_
      refine gp zmv ?_
      refine gp znc ?_
      refine gp zfa ?_
      refine gp zl ?_
      refine gp (r_bool (c := false) zei rfl) ?_
      refine gnt ?_
      refine gc_condF rfl rfl ?_
      refine gc_skip ?_
      refine gx_ret0' rfl ?_
      rw [wNum_fail h7 he hf]
      exact fun w' hw => ⟨(), rfl, St.out (hw.sel (by repeat (first | exact Sel.nil | (apply Sel.cons; · (repeat (first | exact Pick.here | apply Pick.there)))))) rfl rfl rfl⟩
  · refine gc_region ?_
    refine gp zmv ?_
    refine gp znc ?_
    refine gp zfa ?_
    refine gp zl ?_
    refine gp (r_bool (c := false) zei (decide_eq_false (by omega))) ?_
    refine gp zmv ?_
    refine gn ?_
    refine gn ?_
    refine gn ?_
    refine gn ?_
    refine gp zpk ?_
    refine gnt ?_
    refine gc_condF rfl rfl ?_
    refine gc_skip ?_
    refine gx_then ?_
    refine gsr ?_
    refine gp zmv ?_
    refine gp znc ?_
    refine gp zfa ?_
    refine gp zl ?_
    refine gp (r_bool (c := false) zei (decide_eq_false (by omega))) ?_
    refine gnt ?_
    refine gc_condF rfl rfl ?_
    refine gc_skip ?_
    refine gx_ret0' rfl ?_
    rw [wNum_bad he]
    exact fun w' hw => ⟨(), rfl, St.out (hw.sel (by repeat (first | exact Sel.nil | (apply Sel.cons; · (repeat (first | exact Pick.here | apply Pick.there)))))) rfl rfl rfl⟩

set_option maxHeartbeats 400000 in
theorem odigest_ok {w : World} {F : Nat → Prop} {g : Nat} {s : WS} {d : Dig} (h : stars [OutR g s] w F) (hb : s.bs.length + 16 ≤ 1099511627776) :
    Calls Tryz.prog 53 #[.pointer (some ⟨g, 0, none⟩), .agg (dc d).toArray] w (Post w F (fun _ : Unit => .tuple #[]) (fun _ => [OutR g (wDig d s)])) := by
  obtain ⟨a0, c0, h'⟩ := out_open h
  have hdl := d.h
  refine g_enter (env := [(0, .pointer (some ⟨g, 0, none⟩)), (1, .agg (dc d).toArray)]) Tryz.func53 rfl h' Tryz.ntmps53 rfl rfl ?_
  refine gsr ?_
  refine zbN fun b3 => ?_
  refine gnt ?_
  refine gc_seq ?_
  by_cases he : s.err = 0
  · refine gc_region ?_
    refine gp zmv ?_
    refine gp znc ?_
    refine gp zfa ?_
    refine gp zl ?_
    refine gp (r_bool (c := true) zei (decide_eq_true (by omega))) ?_
    refine gnt ?_
    refine gc_condT rfl rfl ?_
    refine gc_regionH [] ?_
    refine yp 0 rfl zmv ?_
    refine yp 1 rfl zmv ?_
    refine yp 2 rfl znc ?_
    refine yp 3 rfl zfa ?_
    refine yo2 4 5 rfl rfl ?_ ?_
    · refine gp zl ?_
      refine yx ?_
      refine yo 5 rfl ?_
      refine gp zL ?_
      refine yx ?_
      refine yo 6 rfl ?_
      refine zc (fun _ => ?_) (c := fun w1 F1 F2 h1 h2 hd hst => text_ok (d := d) h1)
      refine yx ?_
      refine yo 7 rfl ?_
      refine zob fun g16 c16 => ?_
      refine yx ?_
      refine yo 8 rfl ?_
      refine zapo (a2 := some ⟨g16, 0, none⟩) (c2 := c16) (news := d.l.map B8) (fun a17 c17 => ?_) (h1 := one_B8 _)
      refine yx ?_
      refine yp 9 rfl znc ?_
      refine yp 10 rfl zfa ?_
      refine yo 11 rfl ?_
      refine zs1 ?_
      refine yx ?_
      refine yd ?_
      refine gx_ret0' rfl ?_
      rw [wDig_fit he]
      exact fun w' hw => ⟨(), rfl, St.out (hw.sel (by repeat (first | exact Sel.nil | (apply Sel.cons; · (repeat (first | exact Pick.here | apply Pick.there)))))) (by rw [he]) (by simp [d.h]) (by simp)⟩
    · refine gp zL ?_
      refine yx ?_
      refine yo2 4 6 rfl rfl ?_ ?_
      · refine gp zl ?_
        refine yx ?_
        refine yo 6 rfl ?_
        refine zc (fun _ => ?_) (c := fun w1 F1 F2 h1 h2 hd hst => text_ok (d := d) h1)
        refine yx ?_
        refine yo 7 rfl ?_
        refine zob fun g16 c16 => ?_
        refine yx ?_
        refine yo 8 rfl ?_
        refine zapo (a2 := some ⟨g16, 0, none⟩) (c2 := c16) (news := d.l.map B8) (fun a17 c17 => ?_) (h1 := one_B8 _)
        refine yx ?_
        refine yp 9 rfl znc ?_
        refine yp 10 rfl zfa ?_
        refine yo 11 rfl ?_
        refine zs1 ?_
        refine yx ?_
        refine yd ?_
        refine gx_ret0' rfl ?_
        rw [wDig_fit he]
        exact fun w' hw => ⟨(), rfl, St.out (hw.sel (by repeat (first | exact Sel.nil | (apply Sel.cons; · (repeat (first | exact Pick.here | apply Pick.there)))))) (by rw [he]) (by simp [d.h]) (by simp)⟩
      · refine zc (fun _ => ?_) (c := fun w1 F1 F2 h1 h2 hd hst => text_ok (d := d) h1)
        refine yx ?_
        refine yo2 4 7 rfl rfl ?_ ?_
        · refine gp zl ?_
          refine yx ?_
          refine yo 7 rfl ?_
          refine zob fun g16 c16 => ?_
          refine yx ?_
          refine yo 8 rfl ?_
          refine zapo (a2 := some ⟨g16, 0, none⟩) (c2 := c16) (news := d.l.map B8) (fun a17 c17 => ?_) (h1 := one_B8 _)
          refine yx ?_
          refine yp 9 rfl znc ?_
          refine yp 10 rfl zfa ?_
          refine yo 11 rfl ?_
          refine zs1 ?_
          refine yx ?_
          refine yd ?_
          refine gx_ret0' rfl ?_
          rw [wDig_fit he]
          exact fun w' hw => ⟨(), rfl, St.out (hw.sel (by repeat (first | exact Sel.nil | (apply Sel.cons; · (repeat (first | exact Pick.here | apply Pick.there)))))) (by rw [he]) (by simp [d.h]) (by simp)⟩
        · refine zob fun g16 c16 => ?_
          refine yx ?_
          refine yo 4 rfl ?_
          refine gp zl ?_
          refine yx ?_
          refine yo 8 rfl ?_
          refine zapo (a2 := some ⟨g16, 0, none⟩) (c2 := c16) (news := d.l.map B8) (fun a17 c17 => ?_) (h1 := one_B8 _)
          refine yx ?_
          refine yp 9 rfl znc ?_
          refine yp 10 rfl zfa ?_
          refine yo 11 rfl ?_
          refine zs1 ?_
          refine yx ?_
          refine yd ?_
          refine gx_ret0' rfl ?_
          rw [wDig_fit he]
          exact fun w' hw => ⟨(), rfl, St.out (hw.sel (by repeat (first | exact Sel.nil | (apply Sel.cons; · (repeat (first | exact Pick.here | apply Pick.there)))))) (by rw [he]) (by simp [d.h]) (by simp)⟩
  · refine gc_region ?_
    refine gp zmv ?_
    refine gp znc ?_
    refine gp zfa ?_
    refine gp zl ?_
    refine gp (r_bool (c := false) zei (decide_eq_false (by omega))) ?_
    refine gnt ?_
    refine gc_condF rfl rfl ?_
    refine gc_skip ?_
    refine gx_ret0' rfl ?_
    rw [wDig_bad d s he]
    exact fun w' hw => ⟨(), rfl, St.out (hw.sel (by repeat (first | exact Sel.nil | (apply Sel.cons; · (repeat (first | exact Pick.here | apply Pick.there)))))) rfl rfl rfl⟩

set_option maxHeartbeats 400000 in
theorem omany_ok {w : World} {F : Nat → Prop} {g : Nat} {s : WS} {n most : Nat} (h : stars [OutR g s] w F) (hm : most ≤ 255) (hb : s.bs.length + 1 ≤ 1099511627776) :
    Calls Tryz.prog 109 #[.pointer (some ⟨g, 0, none⟩), .int .i64 (n : Int), .int .i64 (most : Int)] w (Post w F (fun _ : Unit => .tuple #[]) (fun _ => [OutR g (wMany n most s)])) := by
  obtain ⟨a0, c0, h'⟩ := out_open h
  refine g_enter (env := [(0, .pointer (some ⟨g, 0, none⟩)), (1, .int .i64 (n : Int)), (2, .int .i64 (most : Int))]) Tryz.func109 rfl h' Tryz.ntmps109 rfl rfl ?_
  refine gc_seq ?_
  refine gc_seq ?_
  by_cases he : s.err = 0
  · by_cases hq : most < n
    · refine gc_region ?_
      refine gp zmv ?_
      refine gp znc ?_
      refine gp zfa ?_
      refine gp zl ?_
      refine gp (r_bool (c := true) zei (decide_eq_true (by omega))) ?_
      refine gp zmv ?_
      refine gq zmv ?_
      refine gq zmv ?_
      refine gq (r_bool (c := true) zgt (decide_eq_true (by omega))) ?_
      refine gp zpk ?_
      refine gnt ?_
      refine gc_condT rfl rfl ?_
      refine gc_region ?_
      refine gp zmv ?_
      refine gp znc ?_
      refine gp zfa ?_
      refine zs1 ?_
      refine gnt ?_
      refine gc_region ?_
      refine gp zmv ?_
      refine gp zmv ?_
      refine gl_conv (M := [blk g 114 [.slice a0 s.bs.length c0, .int .i64 1], rowR 5 1 a0 s.bs.length c0 (s.bs.map B8)]) (N := [OutR g (⟨1, s.bs⟩ : WS)]) (by repeat (first | exact Sel.nil | (apply Sel.cons; · (repeat (first | exact Pick.here | apply Pick.there))))) (fun w F hF => out_mk hF rfl rfl rfl) ?_
      refine zc (fun _ => ?_) (c := fun w1 F1 F2 h1 h2 hd hst => onum_ok (s := (⟨1, s.bs⟩ : WS)) (wd := 1) h1 (by decide) (by decide) (fun e => absurd e (by simp)) (by simpa using hb))
      refine gl_nil ?_
      refine gx_ret0' rfl ?_
      have e : wMany n most s = wNum (n : Int) 1 (⟨1, s.bs⟩ : WS) := by unfold wMany; rw [if_pos ⟨he, hq⟩, wNum_bad (by simp)]
      rw [e]
      exact ze ()
    · refine gc_region ?_
      refine gp zmv ?_
      refine gp znc ?_
      refine gp zfa ?_
      refine gp zl ?_
      refine gp (r_bool (c := true) zei (decide_eq_true (by omega))) ?_
      refine gp zmv ?_
      refine gq zmv ?_
      refine gq zmv ?_
      refine gq (r_bool (c := false) zgt (decide_eq_false (by omega))) ?_
      refine gp zpk ?_
      refine gnt ?_
      refine gc_condF rfl rfl ?_
      refine gc_skip ?_
      refine gx_then ?_
      refine gc_region ?_
      refine gp zmv ?_
      refine gp zmv ?_
      refine gl_conv (M := [blk g 114 [.slice a0 s.bs.length c0, .int .i64 (s.err : Int)], rowR 5 1 a0 s.bs.length c0 (s.bs.map B8)]) (N := [OutR g s]) (by repeat (first | exact Sel.nil | (apply Sel.cons; · (repeat (first | exact Pick.here | apply Pick.there))))) (fun w F hF => out_mk hF rfl rfl rfl) ?_
      refine zc (fun _ => ?_) (c := fun w1 F1 F2 h1 h2 hd hst => onum_ok (wd := 1) h1 (by decide) (by decide) (fun _ => by unfold I64; omega) (by omega))
      refine gl_nil ?_
      refine gx_ret0' rfl ?_
      have e : wMany n most s = wNum (n : Int) 1 s := by unfold wMany; rw [if_neg (fun hh => hq hh.2)]
      rw [e]
      exact ze ()
  · refine gc_region ?_
    refine gp zmv ?_
    refine gp znc ?_
    refine gp zfa ?_
    refine gp zl ?_
    refine gp (r_bool (c := false) zei (decide_eq_false (by omega))) ?_
    refine gp zmv ?_
    refine gn ?_
    refine gn ?_
    refine gn ?_
    refine gp zpk ?_
    refine gnt ?_
    refine gc_condF rfl rfl ?_
    refine gc_skip ?_
    refine gx_then ?_
    refine gc_region ?_
    refine gp zmv ?_
    refine gp zmv ?_
    refine gl_conv (M := [blk g 114 [.slice a0 s.bs.length c0, .int .i64 (s.err : Int)], rowR 5 1 a0 s.bs.length c0 (s.bs.map B8)]) (N := [OutR g s]) (by repeat (first | exact Sel.nil | (apply Sel.cons; · (repeat (first | exact Pick.here | apply Pick.there))))) (fun w F hF => out_mk hF rfl rfl rfl) ?_
    refine zc (fun _ => ?_) (c := fun w1 F1 F2 h1 h2 hd hst => onum_ok (wd := 1) h1 (by decide) (by decide) (fun e => absurd e he) (by omega))
    refine gl_nil ?_
    refine gx_ret0' rfl ?_
    have e : wMany n most s = wNum (n : Int) 1 s := by unfold wMany; rw [if_neg (fun hh => he hh.1)]
    rw [e]
    exact ze ()

end Go.Proofs.YtkgbbnhdioghmaaGreatDoor

/- Walks, by program (wg.py) out of a spec. -/
namespace Go.Proofs.YtkgbbnhdioghmaaGreatDoor
open Go
set_option linter.unusedVariables false
set_option linter.unusedSimpArgs false

attribute [local irreducible] Gl Gc Gx Gs Runs Wt

set_option maxHeartbeats 400000 in
theorem osig_ok {w : World} {F : Nat → Prop} {g : Nat} {s : WS} {cs : List Value} {x : Sig} (h : stars [OutR g s] w F) (hx : RdSig w (fun k => ¬ F k) cs x) (ho : OkSig x) (hb : s.bs.length + 1171 ≤ 1099511627776) :
    Calls Tryz.prog 108 #[.pointer (some ⟨g, 0, none⟩), .agg cs.toArray] w (Post w F (fun _ : Unit => .tuple #[]) (fun _ => [OutR g (wSig x s)])) := by
  obtain ⟨a1, n1, c1, a2, n2, c2, rfl, hk1, hk2, hd1, hd2⟩ := hx
  have hm1 := hd1.max
  have hm2 := hd2.max
  simp only [maxLen] at hm1 hm2
  have hn1 := hd1.len (by decide)
  have hn2 := hd2.len (by decide)
  subst hn1
  subst hn2
  have e0 := wNum_len x.leaf 1 s
  have e1 := wPut_len wDig_len x.chains 68 (wNum x.leaf 1 s)
  refine g_enter (env := [(0, .pointer (some ⟨g, 0, none⟩)), (1, .agg (List.toArray ([.int .i64 x.leaf, .slice a1 x.chains.length c1, .slice a2 x.path.length c2])))]) Tryz.func108 rfl h Tryz.ntmps108 rfl rfl ?_
  refine gsr ?_
  refine zbN fun b3 => ?_
  refine gnt ?_
  refine gsr ?_
  refine gp zmv ?_
  refine gp zfa ?_
  refine gp zl ?_
  refine zc (fun _ => ?_) (c := fun w1 F1 F2 h1 h2 hd hst => onum_ok (wd := 1) h1 (by decide) (by decide) (fun _ => ho) (by omega))
  refine gnt ?_
  refine gsr ?_
  refine gp zmv ?_
  refine gp zfa ?_
  refine gp zl ?_
  refine gp zln ?_
  refine zc (fun _ => ?_) (c := fun w1 F1 F2 h1 h2 hd hst => omany_ok (most := 68) h1 (by decide) (by omega))
  refine gnt ?_
  refine gc_seq ?_
  refine gsr ?_
  refine gp zfa ?_
  refine gp zl ?_
  refine gp zln ?_
  refine gp zmv ?_
  refine gnt ?_
  refine gc_block ?_
  refine gc_loop (α := Nat) (fun k => [pureR (k ≤ x.chains.length), blk b3 49 [.int .i64 x.leaf, .slice a1 x.chains.length c1, .slice a2 x.path.length c2], OutR g ((x.chains.take k).foldl (fun s x => wDig x s) (wMany x.chains.length 68 (wNum x.leaf 1 s)))]) (fun k => [(20, .int .i64 (k : Int))]) [5, 21, 22, 23, 24, 25, 26, 27] (fun k => x.chains.length - k) 0 ?_ ?_ ?_
  · refine env_start (by kernel_rfl)
  · exact zlp (Nat.zero_le _)
  · intro k u
    refine gc_pureR (fun hk => ?_)
    replace hk : k ≤ x.chains.length := hk
    refine gsr ?_
    refine gp zlt ?_
    refine gnt ?_
    refine gc_seq ?_
    refine gif rfl (fun hc21 => ?_) (fun hc21 => ?_)
    · try simp only at hc21
      have hk' : k < x.chains.length := by omega
      obtain ⟨ga, o, cs1, y, ha, hA, hg, hra, hcl, hly, hrd⟩ := hd1.elem (by decide) hk'
      subst ha
      have hbk := many_bound (k := k) (l := x.chains) (s := (wNum x.leaf 1 s)) (most := 68) (M := 1099511627776) wDig_len wDig_bad hk' (by decide) (by omega)
      unfold RdDig at hrd
      subst hrd
      refine gc_skip ?_
      refine gx_then ?_
      refine gc_seq ?_
      refine gc_block ?_
      refine gsr ?_
      refine gp (r_indexAddr_slice rfl rfl Ty.sl_47 Ty.sz_23 (by omega) (by omega)) ?_
      refine gp (r_ldNo rfl Ty.row_23 Ty.sz_23 hra hcl (by decide) hA) ?_
      refine zal fun b5 => ?_
      refine gl_storeN (wt0 rfl) rfl rfl Ty.sz_23 hcl (by repeat (first | exact Pick.here | apply Pick.there)) (by first | decide | (rw [zD_length]; decide)) (dc_one _) (updL_all (by rw [hcl]; first | rfl | decide)) ?_
      refine gnt ?_
      refine gc_region ?_
      refine gp zmv ?_
      refine gp (zLa (cs := dc y)) ?_
      refine zc (fun _ => ?_) (c := fun w1 F1 F2 h1 h2 hd hst => odigest_ok h1 hbk)
      refine gl_nil ?_
      refine gx_block_normal ?_
      refine gx_then ?_
      refine gc_region ?_
      refine gp zad ?_
      refine gp zmv ?_
      refine gl_nil ?_
      refine zrd (k + 1) ?_ ?_
      · show x.chains.length - (k + 1) < x.chains.length - k
        omega
      · rintro w' hw
        rw [foldl_take_succ _ _ _ hly]
        exact zlp (show k + 1 ≤ x.chains.length by omega) (by repeat (first | exact Sel.nil | (apply Sel.cons; · (repeat (first | exact Pick.here | apply Pick.there))))) w' hw
    · try simp only at hc21
      have hk' : k = x.chains.length := by omega
      subst hk'
      rw [List.take_length, put_many wDig_bad _ (by decide)]
      refine gc_exit ?_
      refine gx_then_exit ?_
      refine gx_round_exit ?_
      refine gx_block_hit ?_
      refine gx_then ?_
      refine gsr ?_
      refine gp zmv ?_
      refine gp zfa ?_
      refine gp zl ?_
      refine gp zln ?_
      refine zc (fun _ => ?_) (c := fun w1 F1 F2 h1 h2 hd hst => omany_ok (most := 5) h1 (by decide) (by omega))
      refine gnt ?_
      refine gsr ?_
      refine gp zfa ?_
      refine gp zl ?_
      refine gp zln ?_
      refine gp zmv ?_
      refine gnt ?_
      refine gc_block ?_
      refine gc_loop (α := Nat) (fun k => [pureR (k ≤ x.path.length), blk b3 49 [.int .i64 x.leaf, .slice a1 x.chains.length c1, .slice a2 x.path.length c2], OutR g ((x.path.take k).foldl (fun s x => wDig x s) (wMany x.path.length 5 (wPut wDig x.chains 68 (wNum x.leaf 1 s))))]) (fun k => [(36, .int .i64 (k : Int))]) [7, 37, 38, 39, 40, 41, 42, 43] (fun k => x.path.length - k) 0 ?_ ?_ ?_
      · refine env_start (by kernel_rfl)
      · exact zlp (Nat.zero_le _)
      · intro k u
        refine gc_pureR (fun hk => ?_)
        replace hk : k ≤ x.path.length := hk
        refine gsr ?_
        refine gp zlt ?_
        refine gnt ?_
        refine gc_seq ?_
        refine gif rfl (fun hc37 => ?_) (fun hc37 => ?_)
        · try simp only at hc37
          have hk' : k < x.path.length := by omega
          obtain ⟨ga, o, cs1, y, ha, hA, hg, hra, hcl, hly, hrd⟩ := hd2.elem (by decide) hk'
          subst ha
          have hbk := many_bound (k := k) (l := x.path) (s := (wPut wDig x.chains 68 (wNum x.leaf 1 s))) (most := 5) (M := 1099511627776) wDig_len wDig_bad hk' (by decide) (by omega)
          unfold RdDig at hrd
          subst hrd
          refine gc_skip ?_
          refine gx_then ?_
          refine gc_seq ?_
          refine gc_block ?_
          refine gsr ?_
          refine gp (r_indexAddr_slice rfl rfl Ty.sl_47 Ty.sz_23 (by omega) (by omega)) ?_
          refine gp (r_ldNo rfl Ty.row_23 Ty.sz_23 hra hcl (by decide) hA) ?_
          refine zal fun b7 => ?_
          refine gl_storeN (wt0 rfl) rfl rfl Ty.sz_23 hcl (by repeat (first | exact Pick.here | apply Pick.there)) (by first | decide | (rw [zD_length]; decide)) (dc_one _) (updL_all (by rw [hcl]; first | rfl | decide)) ?_
          refine gnt ?_
          refine gc_region ?_
          refine gp zmv ?_
          refine gp (zLa (cs := dc y)) ?_
          refine zc (fun _ => ?_) (c := fun w1 F1 F2 h1 h2 hd hst => odigest_ok h1 hbk)
          refine gl_nil ?_
          refine gx_block_normal ?_
          refine gx_then ?_
          refine gc_region ?_
          refine gp zad ?_
          refine gp zmv ?_
          refine gl_nil ?_
          refine zrd (k + 1) ?_ ?_
          · show x.path.length - (k + 1) < x.path.length - k
            omega
          · rintro w' hw
            rw [foldl_take_succ _ _ _ hly]
            exact zlp (show k + 1 ≤ x.path.length by omega) (by repeat (first | exact Sel.nil | (apply Sel.cons; · (repeat (first | exact Pick.here | apply Pick.there))))) w' hw
        · try simp only at hc37
          have hk' : k = x.path.length := by omega
          subst hk'
          rw [List.take_length, put_many wDig_bad _ (by decide)]
          refine gc_exit ?_
          refine gx_then_exit ?_
          refine gx_round_exit ?_
          refine gx_block_hit ?_
          refine gx_ret0' rfl ?_
          exact ze ()

set_option maxHeartbeats 400000 in
theorem osigned_ok {w : World} {F : Nat → Prop} {g : Nat} {s : WS} {cs : List Value} {x : Signed} (h : stars [OutR g s] w F) (hx : RdSigned w (fun k => ¬ F k) cs x) (ho : OkSigned x) (hb : s.bs.length + 1172 ≤ 1099511627776) :
    Calls Tryz.prog 54 #[.pointer (some ⟨g, 0, none⟩), .agg cs.toArray] w (Post w F (fun _ : Unit => .tuple #[]) (fun _ => [OutR g (wSigned x s)])) := by
  obtain ⟨ss, rfl, hs⟩ := hx
  have hl := hs.len
  have il := Len.of hl
  have jl := One.of hs.one
  have e0 := wNum_len x.who 1 s
  refine g_enter (env := [(0, .pointer (some ⟨g, 0, none⟩)), (1, .agg (List.toArray (.int .i64 x.who :: ss)))]) Tryz.func54 rfl h Tryz.ntmps54 rfl rfl ?_
  refine gsr ?_
  refine zbN fun b3 => ?_
  refine gnt ?_
  refine gsr ?_
  refine gp zmv ?_
  refine gp zfa ?_
  refine gp zl ?_
  refine zc (fun _ => ?_) (c := fun w1 F1 F2 h1 h2 hd hst => onum_ok (wd := 1) h1 (by decide) (by decide) (fun _ => ho.1) (by omega))
  refine gnt ?_
  refine gc_region ?_
  refine gp zmv ?_
  refine gp zfa ?_
  refine gp (zL (sg := ss)) ?_
  refine zc (fun _ => ?_) (c := fun w1 F1 F2 h1 h2 hd hst => osig_ok h1 (hs.mv hst.still) ho.2 (by omega))
  refine gl_nil ?_
  refine gx_ret0' rfl ?_
  exact ze ()

set_option maxHeartbeats 400000 in
theorem oqc_ok {w : World} {F : Nat → Prop} {g : Nat} {s : WS} {cs : List Value} {x : QC} (h : stars [OutR g s] w F) (hx : RdQC w (fun k => ¬ F k) cs x) (ho : OkQC x) (hb : s.bs.length + 8231 ≤ 1099511627776) :
    Calls Tryz.prog 55 #[.pointer (some ⟨g, 0, none⟩), .agg cs.toArray] w (Post w F (fun _ : Unit => .tuple #[]) (fun _ => [OutR g (wQC x s)])) := by
  obtain ⟨a1, n1, c1, rfl, hk1, hd1⟩ := hx
  have hm1 := hd1.max
  simp only [maxLen] at hm1
  have hn1 := hd1.len (by decide)
  subst hn1
  have e0 := wNum_len x.epoch 4 s
  have e1 := wNum_len x.round 6 (wNum x.epoch 4 s)
  have e2 := wDig_len x.block (wNum x.round 6 (wNum x.epoch 4 s))
  refine g_enter (env := [(0, .pointer (some ⟨g, 0, none⟩)), (1, .agg (List.toArray (.int .i64 x.epoch :: .int .i64 x.round :: (dc x.block ++ [.slice a1 x.votes.length c1]))))]) Tryz.func55 rfl h Tryz.ntmps55 rfl rfl ?_
  refine gsr ?_
  refine zbN fun b3 => ?_
  refine gnt ?_
  refine gsr ?_
  refine gp zmv ?_
  refine gp zfa ?_
  refine gp zl ?_
  refine zc (fun _ => ?_) (c := fun w1 F1 F2 h1 h2 hd hst => onum_ok (wd := 4) h1 (by decide) (by decide) (fun _ => ho.1) (by omega))
  refine gnt ?_
  refine gsr ?_
  refine gp zmv ?_
  refine gp zfa ?_
  refine gp zl ?_
  refine zc (fun _ => ?_) (c := fun w1 F1 F2 h1 h2 hd hst => onum_ok (wd := 6) h1 (by decide) (by decide) (fun _ => ho.2.1) (by omega))
  refine gnt ?_
  refine gsr ?_
  refine gp zmv ?_
  refine gp zfa ?_
  refine gp zL ?_
  refine zc (fun _ => ?_) (c := fun w1 F1 F2 h1 h2 hd hst => odigest_ok h1 (by omega))
  refine gnt ?_
  refine gsr ?_
  refine gp zmv ?_
  refine gp zfa ?_
  refine gp zl ?_
  refine gp zln ?_
  refine zc (fun _ => ?_) (c := fun w1 F1 F2 h1 h2 hd hst => omany_ok (most := 7) h1 (by decide) (by omega))
  refine gnt ?_
  refine gsr ?_
  refine gp zfa ?_
  refine gp zl ?_
  refine gp zln ?_
  refine gp zmv ?_
  refine gnt ?_
  refine gc_block ?_
  refine gc_loop (α := Nat) (fun k => [pureR (k ≤ x.votes.length), blk b3 26 (.int .i64 x.epoch :: .int .i64 x.round :: (dc x.block ++ [.slice a1 x.votes.length c1])), OutR g ((x.votes.take k).foldl (fun s x => wSigned x s) (wMany x.votes.length 7 (wDig x.block (wNum x.round 6 (wNum x.epoch 4 s)))))]) (fun k => [(26, .int .i64 (k : Int))]) [5, 27, 28, 29, 30, 31, 32, 33] (fun k => x.votes.length - k) 0 ?_ ?_ ?_
  · refine env_start (by kernel_rfl)
  · exact zlp (Nat.zero_le _)
  · intro k u
    refine gc_pureR (fun hk => ?_)
    replace hk : k ≤ x.votes.length := hk
    refine gsr ?_
    refine gp zlt ?_
    refine gnt ?_
    refine gc_seq ?_
    refine gif rfl (fun hc27 => ?_) (fun hc27 => ?_)
    · try simp only at hc27
      have hk' : k < x.votes.length := by omega
      obtain ⟨ga, o, cs1, y, ha, hA, hg, hra, hcl, hly, hrd⟩ := hd1.elem (by decide) hk'
      subst ha
      have hbk := many_bound (k := k) (l := x.votes) (s := (wDig x.block (wNum x.round 6 (wNum x.epoch 4 s)))) (most := 7) (M := 1099511627776) wSigned_len wSigned_bad hk' (by decide) (by omega)
      have hoy := ho.2.2 y (List.mem_of_getElem? hly)
      have i1 := Len.of hcl
      have j1 := One.of hrd.one
      refine gc_skip ?_
      refine gx_then ?_
      refine gc_seq ?_
      refine gc_block ?_
      refine gsr ?_
      refine gp (r_indexAddr_slice rfl rfl Ty.sl_24 Ty.sz_51 (by omega) (by omega)) ?_
      refine gp (r_ldNo rfl Ty.row_51 Ty.sz_51 hra hcl (by decide) hA) ?_
      refine zal fun b5 => ?_
      refine gl_storeN (wt0 rfl) rfl rfl Ty.sz_51 hcl (by repeat (first | exact Pick.here | apply Pick.there)) (by first | decide | (rw [zD_length]; decide)) (hrd.one) (updL_all (by rw [hcl]; first | rfl | decide)) ?_
      refine gnt ?_
      refine gc_region ?_
      refine gp zmv ?_
      refine gp (zL (sg := cs1)) ?_
      refine zc (fun _ => ?_) (c := fun w1 F1 F2 h1 h2 hd hst => osigned_ok h1 (hrd.mv hst.still) hoy hbk)
      refine gl_nil ?_
      refine gx_block_normal ?_
      refine gx_then ?_
      refine gc_region ?_
      refine gp zad ?_
      refine gp zmv ?_
      refine gl_nil ?_
      refine zrd (k + 1) ?_ ?_
      · show x.votes.length - (k + 1) < x.votes.length - k
        omega
      · rintro w' hw
        rw [foldl_take_succ _ _ _ hly]
        exact zlp (show k + 1 ≤ x.votes.length by omega) (by repeat (first | exact Sel.nil | (apply Sel.cons; · (repeat (first | exact Pick.here | apply Pick.there))))) w' hw
    · try simp only at hc27
      have hk' : k = x.votes.length := by omega
      subst hk'
      rw [List.take_length, put_many wSigned_bad _ (by decide)]
      refine gc_exit ?_
      refine gx_then_exit ?_
      refine gx_round_exit ?_
      refine gx_block_hit ?_
      refine gx_ret0' rfl ?_
      exact ze ()

set_option maxHeartbeats 400000 in
theorem otc_ok {w : World} {F : Nat → Prop} {g : Nat} {s : WS} {cs : List Value} {x : TC} (h : stars [OutR g s] w F) (hx : RdTC w (fun k => ¬ F k) cs x) (ho : OkTC x) (hb : s.bs.length + 8257 ≤ 1099511627776) :
    Calls Tryz.prog 56 #[.pointer (some ⟨g, 0, none⟩), .agg cs.toArray] w (Post w F (fun _ : Unit => .tuple #[]) (fun _ => [OutR g (wTC x s)])) := by
  obtain ⟨a1, n1, c1, rfl, hk1, hd1⟩ := hx
  have hm1 := hd1.max
  simp only [maxLen] at hm1
  have hn1 := hd1.len (by decide)
  subst hn1
  have e0 := wNum_len x.epoch 4 s
  have e1 := wNum_len x.round 6 (wNum x.epoch 4 s)
  refine g_enter (env := [(0, .pointer (some ⟨g, 0, none⟩)), (1, .agg (List.toArray [.int .i64 x.epoch, .int .i64 x.round, .slice a1 x.lates.length c1]))]) Tryz.func56 rfl h Tryz.ntmps56 rfl rfl ?_
  refine gsr ?_
  refine zbN fun b3 => ?_
  refine gnt ?_
  refine gsr ?_
  refine gp zmv ?_
  refine gp zfa ?_
  refine gp zl ?_
  refine zc (fun _ => ?_) (c := fun w1 F1 F2 h1 h2 hd hst => onum_ok (wd := 4) h1 (by decide) (by decide) (fun _ => ho.1) (by omega))
  refine gnt ?_
  refine gsr ?_
  refine gp zmv ?_
  refine gp zfa ?_
  refine gp zl ?_
  refine zc (fun _ => ?_) (c := fun w1 F1 F2 h1 h2 hd hst => onum_ok (wd := 6) h1 (by decide) (by decide) (fun _ => ho.2.1) (by omega))
  refine gnt ?_
  refine gsr ?_
  refine gp zmv ?_
  refine gp zfa ?_
  refine gp zl ?_
  refine gp zln ?_
  refine zc (fun _ => ?_) (c := fun w1 F1 F2 h1 h2 hd hst => omany_ok (most := 7) h1 (by decide) (by omega))
  refine gnt ?_
  refine gsr ?_
  refine gp zfa ?_
  refine gp zl ?_
  refine gp zln ?_
  refine gp zmv ?_
  refine gnt ?_
  refine gc_block ?_
  refine gc_loop (α := Nat) (fun k => [pureR (k ≤ x.lates.length), blk b3 56 [.int .i64 x.epoch, .int .i64 x.round, .slice a1 x.lates.length c1], OutR g ((x.lates.take k).foldl (fun s x => wLate x s) (wMany x.lates.length 7 (wNum x.round 6 (wNum x.epoch 4 s))))]) (fun k => [(22, .int .i64 (k : Int))]) [5, 23, 24, 25, 26, 27, 28, 29, 30, 31, 32, 33, 34, 35, 36, 37, 38] (fun k => x.lates.length - k) 0 ?_ ?_ ?_
  · refine env_start (by kernel_rfl)
  · exact zlp (Nat.zero_le _)
  · intro k u
    refine gc_pureR (fun hk => ?_)
    replace hk : k ≤ x.lates.length := hk
    refine gsr ?_
    refine gp zlt ?_
    refine gnt ?_
    refine gc_seq ?_
    refine gif rfl (fun hc23 => ?_) (fun hc23 => ?_)
    · try simp only at hc23
      have hk' : k < x.lates.length := by omega
      obtain ⟨ga, o, cs1, y, ha, hA, hg, hra, hcl, hly, hrd⟩ := hd1.elem (by decide) hk'
      subst ha
      have hbk := many_bound (k := k) (l := x.lates) (s := (wNum x.round 6 (wNum x.epoch 4 s))) (most := 7) (M := 1099511627776) wLate_len wLate_bad hk' (by decide) (by omega)
      have hoy := ho.2.2 y (List.mem_of_getElem? hly)
      obtain ⟨ss, rfl, hs⟩ := hrd
      have hsl := hs.len
      have i1 := Len.of hsl
      have j1 := One.of hs.one
      have f0 := wNum_len y.who 1 ((x.lates.take k).foldl (fun s x => wLate x s) (wMany x.lates.length 7 (wNum x.round 6 (wNum x.epoch 4 s))))
      have f1 := wNum_len y.high 6 (wNum y.who 1 ((x.lates.take k).foldl (fun s x => wLate x s) (wMany x.lates.length 7 (wNum x.round 6 (wNum x.epoch 4 s)))))
      refine gc_skip ?_
      refine gx_then ?_
      refine gc_seq ?_
      refine gc_block ?_
      refine gsr ?_
      refine gp (r_indexAddr_slice rfl rfl Ty.sl_54 Ty.sz_179 (by omega) (by omega)) ?_
      refine gp (r_ldNo (seg := .int .i64 y.who :: .int .i64 y.high :: ss) rfl Ty.row_179 Ty.sz_179 hra hcl (by decide) hA) ?_
      refine zal fun b5 => ?_
      refine gl_storeN (wt0 rfl) rfl rfl Ty.sz_179 hcl (by repeat (first | exact Pick.here | apply Pick.there)) (by first | decide | (rw [zD_length]; decide)) (all_cons' rfl (all_cons' rfl hs.one)) (updL_all (by rw [hcl]; first | rfl | decide)) ?_
      refine gnt ?_
      refine gsr ?_
      refine gp zmv ?_
      refine gp zfa ?_
      refine gp zl ?_
      refine zc (fun _ => ?_) (c := fun w1 F1 F2 h1 h2 hd hst => onum_ok (wd := 1) h1 (by decide) (by decide) (fun _ => hoy.1) (by omega))
      refine gnt ?_
      refine gsr ?_
      refine gp zmv ?_
      refine gp zfa ?_
      refine gp zl ?_
      refine zc (fun _ => ?_) (c := fun w1 F1 F2 h1 h2 hd hst => onum_ok (wd := 6) h1 (by decide) (by decide) (fun _ => hoy.2.1) (by omega))
      refine gnt ?_
      refine gc_region ?_
      refine gp zmv ?_
      refine gp zfa ?_
      refine gp (zL (sg := ss)) ?_
      refine zc (fun _ => ?_) (c := fun w1 F1 F2 h1 h2 hd hst => osig_ok h1 (hs.mv hst.still) hoy.2.2 (by omega))
      refine gl_nil ?_
      refine gx_block_normal ?_
      refine gx_then ?_
      refine gc_region ?_
      refine gp zad ?_
      refine gp zmv ?_
      refine gl_nil ?_
      refine zrd (k + 1) ?_ ?_
      · show x.lates.length - (k + 1) < x.lates.length - k
        omega
      · rintro w' hw
        rw [foldl_take_succ _ _ _ hly]
        exact zlp (show k + 1 ≤ x.lates.length by omega) (by repeat (first | exact Sel.nil | (apply Sel.cons; · (repeat (first | exact Pick.here | apply Pick.there))))) w' hw
    · try simp only at hc23
      have hk' : k = x.lates.length := by omega
      subst hk'
      rw [List.take_length, put_many wLate_bad _ (by decide)]
      refine gc_exit ?_
      refine gx_then_exit ?_
      refine gx_round_exit ?_
      refine gx_block_hit ?_
      refine gx_ret0' rfl ?_
      exact ze ()

end Go.Proofs.YtkgbbnhdioghmaaGreatDoor

/- Walks, by program (wg.py) out of a spec. -/
namespace Go.Proofs.YtkgbbnhdioghmaaGreatDoor
open Go
set_option linter.unusedVariables false
set_option linter.unusedSimpArgs false


section
variable {P : Program} {w0 : World} {F0 : Nat → Prop} {L L' : List Res} {Q : Exit → Act → World → Prop} {n : Nat} {env : Env} {ops : Array Oper} {rest : List Oper}
theorem gl_out {g : Nat} {s : WS} (hp : Pick L (OutR g s) L') (k : ∀ a c, Gl P w0 F0 (blk g 114 [.slice a s.bs.length c, .int .i64 (s.err : Int)] :: rowR 5 1 a s.bs.length c (s.bs.map B8) :: L') ops Q rest n env) : Gl P w0 F0 L ops Q rest n env := fun w ⟨F, hF, hst⟩ => by
  obtain ⟨a, c, h⟩ := out_open (hp.stars hF)
  exact k a c w ⟨F, h, hst⟩
end
theorem wTx_over {b : List UInt8} {s : WS} (he : s.err = 0) (hn : 16 < b.length) : wBytes b 16 s = ⟨1, s.bs⟩ := by
  unfold wBytes wFail; rw [if_pos (.inl hn), if_pos he]
theorem wTx_fit {b : List UInt8} {s : WS} (he : s.err = 0) (hn : ¬ 16 < b.length) : wBytes b 16 s = ⟨0, s.bs ++ beN (b.length : Int) 2 ++ b⟩ := by
  have h2 : (0 : Int) ≤ (b.length : Int) ∧ (b.length : Int) < 256 ^ 2 := by refine ⟨by omega, ?_⟩; have : (256 : Int) ^ 2 = 65536 := rfl; omega
  unfold wBytes; rw [if_neg (by omega), wNum_fit (by decide) he h2]
  unfold wFix; rw [if_pos rfl]

attribute [local irreducible] Gl Gc Gx Gs Runs Wt

set_option maxHeartbeats 400000 in
theorem oblock_ok {w : World} {F : Nat → Prop} {g : Nat} {s : WS} {cs : List Value} {x : Block} (h : stars [OutR g s] w F) (hx : RdBlock w (fun k => ¬ F k) cs x) (ho : OkBlock x) (hb : s.bs.length + 8485 ≤ 1099511627776) :
    Calls Tryz.prog 57 #[.pointer (some ⟨g, 0, none⟩), .agg cs.toArray] w (Post w F (fun _ : Unit => .tuple #[]) (fun _ => [OutR g (wBlock x s)])) := by
  obtain ⟨q, a1, n1, c1, a2, n2, c2, rfl, hq0, hk1, hd1, hk2, hd2⟩ := hx
  have hm1 := hd1.max
  have hm2 := hd2.max
  simp only [maxLen] at hm1 hm2
  have hn1 := hd1.len (by decide)
  have hn2 := hd2.len (by decide)
  subst hn1
  subst hn2
  have hlq := hq0.len
  have ilq := Len.of hlq
  have jlq := One.of hq0.one
  have e0 := wNum_len x.epoch 4 s
  have e1 := wNum_len x.round 6 (wNum x.epoch 4 s)
  have e2 := wDig_len x.parent (wNum x.round 6 (wNum x.epoch 4 s))
  have e3 := wQC_len x.justify (wDig x.parent (wNum x.round 6 (wNum x.epoch 4 s)))
  have e4 := wPut_len (wX := fun t => wBytes t 16) (c := 18) (fun x s => wBytes_len x 16 s) x.payload 4 (wQC x.justify (wDig x.parent (wNum x.round 6 (wNum x.epoch 4 s))))
  refine g_enter (env := [(0, .pointer (some ⟨g, 0, none⟩)), (1, .agg (List.toArray (.int .i64 x.epoch :: .int .i64 x.round :: (dc x.parent ++ (q ++ [.slice a1 x.payload.length c1, .slice a2 x.next.length c2])))))]) Tryz.func57 rfl h Tryz.ntmps57 rfl rfl ?_
  refine gsr ?_
  refine zbN fun b3 => ?_
  refine gnt ?_
  refine gsr ?_
  refine gp zmv ?_
  refine gp zfa ?_
  refine gp zl ?_
  refine zc (fun _ => ?_) (c := fun w1 F1 F2 h1 h2 hd hst => onum_ok (wd := 4) h1 (by decide) (by decide) (fun _ => ho.1) (by omega))
  refine gnt ?_
  refine gsr ?_
  refine gp zmv ?_
  refine gp zfa ?_
  refine gp zl ?_
  refine zc (fun _ => ?_) (c := fun w1 F1 F2 h1 h2 hd hst => onum_ok (wd := 6) h1 (by decide) (by decide) (fun _ => ho.2.1) (by omega))
  refine gnt ?_
  refine gsr ?_
  refine gp zmv ?_
  refine gp zfa ?_
  refine gp zL ?_
  refine zc (fun _ => ?_) (c := fun w1 F1 F2 h1 h2 hd hst => odigest_ok h1 (by omega))
  refine gnt ?_
  refine gsr ?_
  refine gp zmv ?_
  refine gp zfa ?_
  refine gp (zL (sg := q)) ?_
  refine zc (fun _ => ?_) (c := fun w1 F1 F2 h1 h2 hd hst => oqc_ok h1 (hq0.mv hst.still) ho.2.2.1 (by omega))
  refine gnt ?_
  refine gsr ?_
  refine gp zmv ?_
  refine gp zfa ?_
  refine gp zl ?_
  refine gp zln ?_
  refine zc (fun _ => ?_) (c := fun w1 F1 F2 h1 h2 hd hst => omany_ok (most := 4) h1 (by decide) (by omega))
  refine gnt ?_
  refine gc_seq ?_
  refine gsr ?_
  refine gp zfa ?_
  refine gp zl ?_
  refine gp zln ?_
  refine gp zmv ?_
  refine gnt ?_
  refine gc_block ?_
  refine gc_loop (α := Nat) (fun k => [pureR (k ≤ x.payload.length), blk b3 30 (.int .i64 x.epoch :: .int .i64 x.round :: (dc x.parent ++ (q ++ [.slice a1 x.payload.length c1, .slice a2 x.next.length c2]))), OutR g ((x.payload.take k).foldl (fun s t => wBytes t 16 s) (wMany x.payload.length 4 (wQC x.justify (wDig x.parent (wNum x.round 6 (wNum x.epoch 4 s))))))]) (fun k => [(32, .int .i64 (k : Int))]) [5, 33, 34, 35, 36, 37, 38, 39, 40, 41, 42, 43, 44, 45, 46, 47, 48, 49, 50, 51, 52, 53, 54, 55, 56, 57, 58, 59, 60, 61, 62, 63, 64, 65, 66, 67] (fun k => x.payload.length - k) 0 ?_ ?_ ?_
  · refine env_start (by kernel_rfl)
  · exact zlp (Nat.zero_le _)
  · intro k u
    refine gc_pureR (fun hk => ?_)
    replace hk : k ≤ x.payload.length := hk
    refine gsr ?_
    refine gp zlt ?_
    refine gnt ?_
    refine gc_seq ?_
    refine gif rfl (fun hc33 => ?_) (fun hc33 => ?_)
    · try simp only at hc33
      have hk' : k < x.payload.length := by omega
      obtain ⟨ga, o, cs1, y, ha, hA, hg, hra, hcl, hly, hrd⟩ := hd1.elem (by decide) hk'
      subst ha
      obtain ⟨a', n', c', rfl, hn', hrb⟩ := hrd
      have hny : n' = y.length := by have := hrb.1; simp at this; omega
      subst hny
      have hmy := hrb.2.1
      simp only [maxLen] at hmy
      have hbk := many_bound (k := k) (l := x.payload) (s := (wQC x.justify (wDig x.parent (wNum x.round 6 (wNum x.epoch 4 s))))) (most := 4) (M := 1099511627776) (wX := fun t => wBytes t 16) (c := 18) (fun x s => wBytes_len x 16 s) (fun x s => wBytes_bad x 16 s) hk' (by decide) (by omega)
      obtain ⟨S, hS⟩ : ∃ S, S = ((x.payload.take k).foldl (fun s t => wBytes t 16 s) (wMany x.payload.length 4 (wQC x.justify (wDig x.parent (wNum x.round 6 (wNum x.epoch 4 s)))))) := ⟨_, rfl⟩
      rw [← hS] at hbk ⊢
      refine gc_skip ?_
      refine gx_then ?_
      refine gc_seq ?_
      refine gc_block ?_
      refine gsr ?_
      refine gp (r_indexAddr_slice rfl rfl Ty.sl_27 Ty.sz_36 (by omega) (by omega)) ?_
      refine gp (r_ld1o rfl Ty.row_36 (hra 0 _ rfl) hA) ?_
      refine gp zas ?_
      refine gnt ?_
      refine gc_seq ?_
      refine gc_seq ?_
      by_cases he : S.err = 0
      · by_cases hq : 16 < y.length
        · refine gc_region ?_
          refine gp zmv ?_
          refine gp znc ?_
          refine gp zfa ?_
          refine gl_out (s := S) (by repeat (first | exact Pick.here | apply Pick.there)) (fun a39 c39 => ?_)
          refine gp zl ?_
          refine gp (r_bool (c := true) zei (decide_eq_true (by omega))) ?_
          refine gp zmv ?_
          refine gq zmv ?_
          refine gq zln ?_
          refine gq (r_bool (c := true) zgt (decide_eq_true (by omega))) ?_
          refine gp zpk ?_
          refine gnt ?_
          refine gc_condT rfl rfl ?_
          refine gc_region ?_
          refine gp zmv ?_
          refine gp znc ?_
          refine gp zfa ?_
          refine zs1 ?_
          refine gnt ?_
          refine gsr ?_
          refine gp zmv ?_
          refine gp zmv ?_
          refine gp zln ?_
          refine gl_conv (M := [blk g 114 [.slice a39 S.bs.length c39, .int .i64 1], rowR 5 1 a39 S.bs.length c39 (S.bs.map B8)]) (N := [OutR g (⟨1, S.bs⟩ : WS)]) (by repeat (first | exact Sel.nil | (apply Sel.cons; · (repeat (first | exact Pick.here | apply Pick.there))))) (fun w F hF => out_mk hF rfl rfl rfl) ?_
          refine zc (fun _ => ?_) (c := fun w1 F1 F2 h1 h2 hd hst => onum_ok (s := ⟨1, S.bs⟩) (wd := 2) h1 (by decide) (by decide) (fun e => absurd e (by simp)) (by simp only; omega))
          rw [wNum_bad (s := ⟨1, S.bs⟩) (by simp)]
          refine gnt ?_
          refine gsr ?_
          refine gp zmv ?_
          refine gp znc ?_
          refine gp zfa ?_
          refine gl_out (s := ⟨1, S.bs⟩) (by repeat (first | exact Pick.here | apply Pick.there)) (fun a56 c56 => ?_)
          refine gp zl ?_
          refine gp (r_bool (c := false) zei rfl) ?_
          refine gnt ?_
          refine gc_condF rfl rfl ?_
          refine gc_skip ?_
          refine gx_block_normal ?_
          refine gx_then ?_
          refine gc_region ?_
          refine gp zad ?_
          refine gp zmv ?_
          refine gl_nil ?_
          refine zrd (k + 1) ?_ ?_
          · show x.payload.length - (k + 1) < x.payload.length - k
            omega
          · rintro w' hw
            rw [foldl_take_succ _ _ _ hly, ← hS]
            have e : wBytes y 16 S = ⟨1, S.bs⟩ := wTx_over he hq
            rw [e]
            have h2 := St.out (s := ⟨1, S.bs⟩) (a := a56) (c := c56) (m := (⟨1, S.bs⟩ : WS).bs.length) (xs := (⟨1, S.bs⟩ : WS).bs.map B8) (hw.sel (M := [_, _, blk b3 _ _]) (by repeat (first | exact Sel.nil | (apply Sel.cons; · (repeat (first | exact Pick.here | apply Pick.there)))))) rfl rfl rfl
            exact zlp (show k + 1 ≤ x.payload.length by omega) (by repeat (first | exact Sel.nil | (apply Sel.cons; · (repeat (first | exact Pick.here | apply Pick.there))))) w' h2
        · refine gc_region ?_
          refine gp zmv ?_
          refine gp znc ?_
          refine gp zfa ?_
          refine gl_out (s := S) (by repeat (first | exact Pick.here | apply Pick.there)) (fun a39 c39 => ?_)
          refine gp zl ?_
          refine gp (r_bool (c := true) zei (decide_eq_true (by omega))) ?_
          refine gp zmv ?_
          refine gq zmv ?_
          refine gq zln ?_
          refine gq (r_bool (c := false) zgt (decide_eq_false (by omega))) ?_
          refine gp zpk ?_
          refine gnt ?_
          refine gc_condF rfl rfl ?_
          refine gc_skip ?_
          refine gx_then ?_
          refine gsr ?_
          refine gp zmv ?_
          refine gp zmv ?_
          refine gp zln ?_
          refine gl_conv (M := [blk g 114 [.slice a39 S.bs.length c39, .int .i64 (S.err : Int)], rowR 5 1 a39 S.bs.length c39 (S.bs.map B8)]) (N := [OutR g S]) (by repeat (first | exact Sel.nil | (apply Sel.cons; · (repeat (first | exact Pick.here | apply Pick.there))))) (fun w F hF => out_mk hF rfl rfl rfl) ?_
          refine zc (fun _ => ?_) (c := fun w1 F1 F2 h1 h2 hd hst => onum_ok (wd := 2) h1 (by decide) (by decide) (fun _ => by unfold I64; omega) (by omega))
          rw [wNum_fit (by decide) he ⟨by omega, by have : (256 : Int) ^ 2 = 65536 := rfl; omega⟩]
          obtain ⟨S2, hS2⟩ : ∃ S2 : WS, S2 = ⟨0, S.bs ++ beN (y.length : Int) 2⟩ := ⟨_, rfl⟩
          rw [← hS2]
          refine gnt ?_
          refine gsr ?_
          refine gp zmv ?_
          refine gp znc ?_
          refine gp zfa ?_
          refine gl_out (s := S2) (by repeat (first | exact Pick.here | apply Pick.there)) (fun a56 c56 => ?_)
          refine gp zl ?_
          refine gp (r_bool (c := true) zei (by rw [hS2]; rfl)) ?_
          refine gnt ?_
          refine gc_condT rfl rfl ?_
          refine gc_region ?_
          refine gp zmv ?_
          refine gp zmv ?_
          refine gp znc ?_
          refine gp zfa ?_
          refine gp zl ?_
          refine gp zmv ?_
          have hl0 : S2.bs.length = S.bs.length + 2 := by rw [hS2]; simp [beN_length]
          refine gl_append (xs := S2.bs.map B8) (news := y.map B8) (wt0 rfl) rfl rfl (by repeat (first | exact Pick.here | apply Pick.there)) ELT.h (fun w hw => hw.rdOld hrb) (one_B8 _) (by simp only [maxLen, List.length_append, beN_length]; omega) (by omega) (fun a64 c64 => ?_)
          refine gp znc ?_
          refine gp zfa ?_
          refine zs1 ?_
          refine gl_nil ?_
          refine gx_block_normal ?_
          refine gx_then ?_
          refine gc_region ?_
          refine gp zad ?_
          refine gp zmv ?_
          refine gl_nil ?_
          refine zrd (k + 1) ?_ ?_
          · show x.payload.length - (k + 1) < x.payload.length - k
            omega
          · rintro w' hw
            rw [foldl_take_succ _ _ _ hly, ← hS]
            have e : wBytes y 16 S = ⟨0, S2.bs ++ y⟩ := by rw [hS2]; exact wTx_fit he hq
            rw [e]
            have h2 := St.out (s := ⟨0, S2.bs ++ y⟩) (a := a64) (c := c64) (m := S2.bs.length + y.length) (xs := List.map B8 S2.bs ++ List.map B8 y) (hw.sel (M := [_, _, blk b3 _ _]) (by repeat (first | exact Sel.nil | (apply Sel.cons; · (repeat (first | exact Pick.here | apply Pick.there)))))) (by rw [hS2]) (by simp) (by simp)
            exact zlp (show k + 1 ≤ x.payload.length by omega) (by repeat (first | exact Sel.nil | (apply Sel.cons; · (repeat (first | exact Pick.here | apply Pick.there))))) w' h2
      · refine gc_region ?_
        refine gp zmv ?_
        refine gp znc ?_
        refine gp zfa ?_
        refine gl_out (s := S) (by repeat (first | exact Pick.here | apply Pick.there)) (fun a39 c39 => ?_)
        refine gp zl ?_
        refine gp (r_bool (c := false) zei (decide_eq_false (by omega))) ?_
        refine gp zmv ?_
        refine gn ?_
        refine gn ?_
        refine gn ?_
        refine gp zpk ?_
        refine gnt ?_
        refine gc_condF rfl rfl ?_
        refine gc_skip ?_
        refine gx_then ?_
        refine gsr ?_
        refine gp zmv ?_
        refine gp zmv ?_
        refine gp zln ?_
        refine gl_conv (M := [blk g 114 [.slice a39 S.bs.length c39, .int .i64 (S.err : Int)], rowR 5 1 a39 S.bs.length c39 (S.bs.map B8)]) (N := [OutR g S]) (by repeat (first | exact Sel.nil | (apply Sel.cons; · (repeat (first | exact Pick.here | apply Pick.there))))) (fun w F hF => out_mk hF rfl rfl rfl) ?_
        refine zc (fun _ => ?_) (c := fun w1 F1 F2 h1 h2 hd hst => onum_ok (wd := 2) h1 (by decide) (by decide) (fun e => absurd e he) (by omega))
        rw [wNum_bad he]
        refine gnt ?_
        refine gsr ?_
        refine gp zmv ?_
        refine gp znc ?_
        refine gp zfa ?_
        refine gl_out (s := S) (by repeat (first | exact Pick.here | apply Pick.there)) (fun a56 c56 => ?_)
        refine gp zl ?_
        refine gp (r_bool (c := false) zei (decide_eq_false (by omega))) ?_
        refine gnt ?_
        refine gc_condF rfl rfl ?_
        refine gc_skip ?_
        refine gx_block_normal ?_
        refine gx_then ?_
        refine gc_region ?_
        refine gp zad ?_
        refine gp zmv ?_
        refine gl_nil ?_
        refine zrd (k + 1) ?_ ?_
        · show x.payload.length - (k + 1) < x.payload.length - k
          omega
        · rintro w' hw
          rw [foldl_take_succ _ _ _ hly, ← hS]
          have e : wBytes y 16 S = S := wBytes_bad y 16 S he
          rw [e]
          have h2 := St.out (s := S) (a := a56) (c := c56) (m := S.bs.length) (xs := S.bs.map B8) (hw.sel (M := [_, _, blk b3 _ _]) (by repeat (first | exact Sel.nil | (apply Sel.cons; · (repeat (first | exact Pick.here | apply Pick.there)))))) rfl rfl rfl
          exact zlp (show k + 1 ≤ x.payload.length by omega) (by repeat (first | exact Sel.nil | (apply Sel.cons; · (repeat (first | exact Pick.here | apply Pick.there))))) w' h2
    · try simp only at hc33
      have hk' : k = x.payload.length := by omega
      subst hk'
      rw [List.take_length, put_many (wX := fun t => wBytes t 16) (fun x s => wBytes_bad x 16 s) _ (by decide)]
      refine gc_exit ?_
      refine gx_then_exit ?_
      refine gx_round_exit ?_
      refine gx_block_hit ?_
      refine gx_then ?_
      refine gsr ?_
      refine gp zmv ?_
      refine gp zfa ?_
      refine gp zl ?_
      refine gp zln ?_
      refine zc (fun _ => ?_) (c := fun w1 F1 F2 h1 h2 hd hst => omany_ok (most := 7) h1 (by decide) (by omega))
      refine gnt ?_
      refine gsr ?_
      refine gp zfa ?_
      refine gp zl ?_
      refine gp zln ?_
      refine gp zmv ?_
      refine gnt ?_
      refine gc_block ?_
      refine gc_loop (α := Nat) (fun k => [pureR (k ≤ x.next.length), blk b3 30 (.int .i64 x.epoch :: .int .i64 x.round :: (dc x.parent ++ (q ++ [.slice a1 x.payload.length c1, .slice a2 x.next.length c2]))), OutR g ((x.next.take k).foldl (fun s x => wVdr x s) (wMany x.next.length 7 (wPut (fun t => wBytes t 16) x.payload 4 (wQC x.justify (wDig x.parent (wNum x.round 6 (wNum x.epoch 4 s)))))))]) (fun k => [(76, .int .i64 (k : Int))]) [7, 77, 78, 79, 80, 81, 82, 83, 84, 85, 86, 87, 88] (fun k => x.next.length - k) 0 ?_ ?_ ?_
      · refine env_start (by kernel_rfl)
      · exact zlp (Nat.zero_le _)
      · intro k u
        refine gc_pureR (fun hk => ?_)
        replace hk : k ≤ x.next.length := hk
        refine gsr ?_
        refine gp zlt ?_
        refine gnt ?_
        refine gc_seq ?_
        refine gif rfl (fun hc77 => ?_) (fun hc77 => ?_)
        · try simp only at hc77
          have hk' : k < x.next.length := by omega
          obtain ⟨ga, o, cs1, y, ha, hA, hg, hra, hcl, hly, hrd⟩ := hd2.elem (by decide) hk'
          subst ha
          have hbk := many_bound (k := k) (l := x.next) (s := (wPut (fun t => wBytes t 16) x.payload 4 (wQC x.justify (wDig x.parent (wNum x.round 6 (wNum x.epoch 4 s)))))) (most := 7) (M := 1099511627776) wVdr_len wVdr_bad hk' (by decide) (by omega)
          unfold RdVdr at hrd
          subst hrd
          have hoy := ho.2.2.2 y (List.mem_of_getElem? hly)
          have f0 := wDig_len y.key ((x.next.take k).foldl (fun s x => wVdr x s) (wMany x.next.length 7 (wPut (fun t => wBytes t 16) x.payload 4 (wQC x.justify (wDig x.parent (wNum x.round 6 (wNum x.epoch 4 s)))))))
          refine gc_skip ?_
          refine gx_then ?_
          refine gc_seq ?_
          refine gc_block ?_
          refine gsr ?_
          refine gp (r_indexAddr_slice rfl rfl Ty.sl_28 Ty.sz_191 (by omega) (by omega)) ?_
          refine gp (r_ldNo rfl Ty.row_191 Ty.sz_191 hra hcl (by decide) hA) ?_
          refine zal fun b7 => ?_
          refine gl_storeN (wt0 rfl) rfl rfl Ty.sz_191 hcl (by repeat (first | exact Pick.here | apply Pick.there)) (by first | decide | (rw [zD_length]; decide)) (all_app' (dc_one _) (all_cons' rfl all_nil')) (updL_all (by rw [hcl]; first | rfl | decide)) ?_
          refine gnt ?_
          refine gsr ?_
          refine gp zmv ?_
          refine gp zfa ?_
          refine gp (zL (sg := dc y.key)) ?_
          refine zc (fun _ => ?_) (c := fun w1 F1 F2 h1 h2 hd hst => odigest_ok h1 (by omega))
          refine gnt ?_
          refine gc_region ?_
          refine gp zmv ?_
          refine gp zfa ?_
          refine gp zl ?_
          refine zc (fun _ => ?_) (c := fun w1 F1 F2 h1 h2 hd hst => onum_ok (wd := 6) h1 (by decide) (by decide) (fun _ => hoy) (by omega))
          refine gl_nil ?_
          refine gx_block_normal ?_
          refine gx_then ?_
          refine gc_region ?_
          refine gp zad ?_
          refine gp zmv ?_
          refine gl_nil ?_
          refine zrd (k + 1) ?_ ?_
          · show x.next.length - (k + 1) < x.next.length - k
            omega
          · rintro w' hw
            rw [foldl_take_succ _ _ _ hly]
            exact zlp (show k + 1 ≤ x.next.length by omega) (by repeat (first | exact Sel.nil | (apply Sel.cons; · (repeat (first | exact Pick.here | apply Pick.there))))) w' hw
        · try simp only at hc77
          have hk' : k = x.next.length := by omega
          subst hk'
          rw [List.take_length, put_many wVdr_bad _ (by decide)]
          refine gc_exit ?_
          refine gx_then_exit ?_
          refine gx_round_exit ?_
          refine gx_block_hit ?_
          refine gx_ret0' rfl ?_
          exact ze ()

end Go.Proofs.YtkgbbnhdioghmaaGreatDoor

/- Walks, by program (wg.py) out of a spec. -/
namespace Go.Proofs.YtkgbbnhdioghmaaGreatDoor
open Go
set_option linter.unusedVariables false
set_option linter.unusedSimpArgs false


theorem RdChg.one {w : World} {A : Nat → Prop} {cs : List Value} {x : Chg} (h : RdChg w A cs x) : ∀ v ∈ cs, v.oneCell' = true := by
  obtain ⟨css, q, rfl, hcl, hc3, hb3, hbs, hq⟩ := h
  refine all_app' (fun v hv => ?_) hq.one
  obtain ⟨c, hc, hvc⟩ := List.mem_flatten.1 hv
  obtain ⟨i, hi, e⟩ := List.getElem_of_mem hc
  exact (hbs i c (x.blocks[i]'(by omega)) (by rw [List.getElem?_eq_getElem hi, e]) (List.getElem?_eq_getElem (by omega))).one v hvc
theorem RdChg.len' {w : World} {A : Nat → Prop} {cs : List Value} {x : Chg} (h : RdChg w A cs x) : cs.length = 136 := h.len

attribute [local irreducible] Gl Gc Gx Gs Runs Wt

set_option maxHeartbeats 400000 in
theorem ochange_ok {w : World} {F : Nat → Prop} {g : Nat} {s : WS} {cs : List Value} {x : Chg} (h : stars [OutR g s] w F) (hx : RdChg w (fun k => ¬ F k) cs x) (ho : OkChg x) (hb : s.bs.length + 33686 ≤ 1099511627776) :
    Calls Tryz.prog 42 #[.pointer (some ⟨g, 0, none⟩), .agg cs.toArray] w (Post w F (fun _ : Unit => .tuple #[]) (fun _ => [OutR g (wChg x s)])) := by
  obtain ⟨css, q, rfl, hcl, hc3, hb3, hbs, hq⟩ := hx
  have hfl : css.flatten.length = 117 := by rw [flatten_len hcl, hc3]
  have hql := hq.len
  have ifl := Len.of hfl
  have iql := Len.of hql
  have jql := One.of hq.one
  have jfl := One.of (l := css.flatten) (fun v hv => by obtain ⟨c, hc, hvc⟩ := List.mem_flatten.1 hv; obtain ⟨i, hi, e⟩ := List.getElem_of_mem hc; exact (hbs i c (x.blocks[i]'(by omega)) (by rw [List.getElem?_eq_getElem hi, e]) (List.getElem?_eq_getElem (by omega))).one v hvc)
  refine g_enter (env := [(0, .pointer (some ⟨g, 0, none⟩)), (1, .agg (List.toArray (css.flatten ++ q)))]) Tryz.func42 rfl h Tryz.ntmps42 rfl rfl ?_
  refine gsr ?_
  refine zbN fun b3 => ?_
  refine gnt ?_
  refine gc_seq ?_
  refine gsr ?_
  refine gp zfa ?_
  refine gp (zL (sg := css.flatten)) ?_
  refine gp zmv ?_
  refine gnt ?_
  refine gc_block ?_
  refine gc_loop (α := Nat) (fun k => [pureR (k ≤ 3), OutR g ((x.blocks.take k).foldl (fun s b => wBlock b s) s), blk b3 33 (css.flatten ++ q)]) (fun k => [(8, .int .i64 (k : Int))]) [5, 9, 10, 11, 12, 13, 14] (fun k => 3 - k) 0 ?_ ?_ ?_
  · refine env_start (by kernel_rfl)
  · exact zlp (Nat.zero_le _)
  · intro k u
    refine gc_pureR (fun hk => ?_)
    replace hk : k ≤ 3 := hk
    refine gsr ?_
    refine gp zlt ?_
    refine gnt ?_
    refine gc_seq ?_
    refine gif rfl (fun hc9 => ?_) (fun hc9 => ?_)
    · try simp only at hc9
      have hk' : k < 3 := by omega
      obtain ⟨bc, hbc⟩ : ∃ bc, css[k]? = some bc := ⟨_, List.getElem?_eq_getElem (by omega)⟩
      obtain ⟨xb, hxb⟩ : ∃ xb, x.blocks[k]? = some xb := ⟨_, List.getElem?_eq_getElem (by omega)⟩
      have hB := hbs k bc xb hbc hxb
      have hbl := hB.len
      have ibl := Len.of hbl
      have jbl := One.of hB.one
      have hoy := ho.1 xb (List.mem_of_getElem? hxb)
      have hfd := foldl_len (c := 8485) (fun b s => wBlock_len b s) (x.blocks.take k) s
      have htl : (x.blocks.take k).length = k := by rw [List.length_take]; omega
      rw [htl] at hfd
      refine gc_skip ?_
      refine gx_then ?_
      refine gc_seq ?_
      refine gc_block ?_
      refine gsr ?_
      refine gp (r_indexN (seg := bc) rfl rfl Ty.arr_31 Ty.sz_30 Ty.row_30 (by omega) (by omega) (by rw [show (k : Int).toNat * 39 = k * 39 by omega]; exact flatten_at hcl hbc)) ?_
      refine zal fun b5 => ?_
      refine gl_storeN (wt0 rfl) rfl rfl Ty.sz_30 hbl (by repeat (first | exact Pick.here | apply Pick.there)) (by decide) hB.one (updL_all (by rw [hbl]; rfl)) ?_
      refine gnt ?_
      refine gc_region ?_
      refine gp zmv ?_
      refine gp (zLa (cs := bc)) ?_
      refine zc (fun _ => ?_) (c := fun w1 F1 F2 h1 h2 hd hst => oblock_ok h1 (hB.mv hst.still) hoy (by omega))
      refine gl_nil ?_
      refine gx_block_normal ?_
      refine gx_then ?_
      refine gc_region ?_
      refine gp zad ?_
      refine gp zmv ?_
      refine gl_nil ?_
      refine zrd (k + 1) ?_ ?_
      · show 3 - (k + 1) < 3 - k
        omega
      · rintro w' hw
        rw [foldl_take_succ _ _ _ hxb]
        exact zlp (show k + 1 ≤ 3 by omega) (by repeat (first | exact Sel.nil | (apply Sel.cons; · (repeat (first | exact Pick.here | apply Pick.there))))) w' hw
    · try simp only at hc9
      have hk' : k = x.blocks.length := by omega
      subst hk'
      have hfd := foldl_len (c := 8485) (fun b s => wBlock_len b s) (x.blocks.take x.blocks.length) s
      rw [List.take_length] at hfd
      rw [List.take_length]
      refine gc_exit ?_
      refine gx_then_exit ?_
      refine gx_round_exit ?_
      refine gx_block_hit ?_
      refine gx_then ?_
      refine gc_region ?_
      refine gp zmv ?_
      refine gp zfa ?_
      refine gp (zL (sg := q)) ?_
      refine zc (fun _ => ?_) (c := fun w1 F1 F2 h1 h2 hd hst => oqc_ok h1 (hq.mv hst.still) ho.2 (by omega))
      refine gl_nil ?_
      refine gx_ret0' rfl ?_
      exact ze ()

set_option maxHeartbeats 400000 in
theorem odone_ok {w : World} {F : Nat → Prop} {g : Nat} {s : WS} (h : stars [OutR g s] w F) :
    Calls Tryz.prog 43 #[.pointer (some ⟨g, 0, none⟩)] w (Post w F (fun r : Option Addr × Nat => .tuple #[.slice r.1 (wOut (s)).length r.2, .int .i64 ((s).err : Int)]) (fun r => [rowR 5 1 r.1 (wOut (s)).length r.2 ((wOut (s)).map B8)])) := by
  obtain ⟨a0, c0, h'⟩ := out_open h
  refine g_enter (env := [(0, .pointer (some ⟨g, 0, none⟩))]) Tryz.func43 rfl h' Tryz.ntmps43 rfl rfl ?_
  refine gsr ?_
  refine gp zas ?_
  refine gp zas ?_
  refine gnt ?_
  refine gc_seq ?_
  refine gc_seq ?_
  by_cases he : s.err = 0
  · refine gc_region ?_
    refine gp zmv ?_
    refine gp znc ?_
    refine gp zfa ?_
    refine gp zl ?_
    refine gp (r_bool (c := false) zni (by simp [he])) ?_
    refine gnt ?_
    refine gc_condF rfl rfl ?_
    refine gc_skip ?_
    refine gx_then ?_
    refine gsr ?_
    refine gp zmv ?_
    refine gp znc ?_
    refine gp zfa ?_
    refine gp zl ?_
    refine gp zas ?_
    refine gp zas ?_
    refine gnt ?_
    refine gc_ret ?_
    refine gx_ret2 rfl (by conv => lhs; whnf) (by conv => lhs; whnf) ?_
    have e : wOut s = s.bs := by rw [wOut, if_pos he]
    rw [e]
    exact fun w' hw => ⟨(a0, c0), by rw [he]; rfl, hw.sel (by repeat (first | exact Sel.nil | (apply Sel.cons; · (repeat (first | exact Pick.here | apply Pick.there)))))⟩
  · refine gc_region ?_
    refine gp zmv ?_
    refine gp znc ?_
    refine gp zfa ?_
    refine gp zl ?_
    refine gp (r_bool (c := true) zni (by simp [he])) ?_
    refine gnt ?_
    refine gc_condT rfl rfl ?_
    refine gc_seq ?_
    refine gc_regionS (by kernel_rfl) (by kernel_rfl) ?_
    refine sp zmv ?_
    refine sp znc ?_
    refine sp zfa ?_
    refine sp zl ?_
    refine sp zas ?_
    refine sp zas ?_
    refine gs_nil ?_
    refine gx_then ?_
    refine gc_ret ?_
    refine gx_then_ret ?_
    refine gx_ret2 rfl (by conv => lhs; whnf) (by conv => lhs; whnf) ?_
    have e : wOut s = [] := by rw [wOut, if_neg he]
    rw [e]
    exact fun w' hw => ⟨(none, 0), rfl, hw.rowNil.sel (by repeat (first | exact Sel.nil | (apply Sel.cons; · (repeat (first | exact Pick.here | apply Pick.there)))))⟩

set_option maxHeartbeats 400000 in
theorem obytes_ok {w : World} {F : Nat → Prop} {cs : List Value} {x : Block} (h : stars [] w F) (hx : RdBlock w (fun k => ¬ F k) cs x) (ho : OkBlock x) :
    Calls Tryz.prog 35 #[.agg cs.toArray] w (Post w F (fun r : Option Addr × Nat => .tuple #[.slice r.1 (wOut (wBlock x ⟨0, []⟩)).length r.2, .int .i64 ((wBlock x ⟨0, []⟩).err : Int)]) (fun r => [rowR 5 1 r.1 (wOut (wBlock x ⟨0, []⟩)).length r.2 ((wOut (wBlock x ⟨0, []⟩)).map B8)])) := by
  have hl := RdBlock.len hx
  have il := Len.of hl
  have jl := One.of (RdBlock.one hx)
  refine g_enter (env := [(0, .agg cs.toArray)]) Tryz.func35 rfl h Tryz.ntmps35 rfl rfl ?_
  refine gsr ?_
  refine zbN fun b1 => ?_
  refine gp zas ?_
  refine gp zas ?_
  refine gnt ?_
  refine gsr ?_
  refine gp (r_build (cs := [.slice none 0 0, .int .i64 0]) Ty.zc_114 Ty.pl_114 (by kernel_rfl)) ?_
  refine zbN fun b6 => ?_
  refine gp zas ?_
  refine gnt ?_
  refine gsr ?_
  refine gp zmv ?_
  refine gp (zLa (cs := cs)) ?_
  refine gl_conv (M := [blk b6 114 [.slice none 0 0, .int .i64 0]]) (N := [OutR b6 ⟨0, []⟩]) (by repeat (first | exact Sel.nil | (apply Sel.cons; · (repeat (first | exact Pick.here | apply Pick.there))))) (fun w F hF => out_mk (a := none) (c := 0) (xs := []) (by have := stars_row_nil (e := 5) (size := 1) hF; exact stars_swap this) rfl rfl rfl) ?_
  refine zc (fun _ => ?_) (c := fun w1 F1 F2 h1 h2 hd hst => oblock_ok h1 (hx.mv hst.still) ho (by simp))
  refine gnt ?_
  refine gsr ?_
  refine gp zmv ?_
  refine zc (fun r11 => ?_) (c := fun w1 F1 F2 h1 h2 hd hst => odone_ok h1)
  refine gp zex ?_
  refine gp zex ?_
  refine gp zas ?_
  refine gp zas ?_
  refine gnt ?_
  refine gc_ret ?_
  refine gx_ret2 rfl (by conv => lhs; whnf) (by conv => lhs; whnf) ?_
  exact ze r11

set_option maxHeartbeats 400000 in
theorem ochg_ok {w : World} {F : Nat → Prop} {cs : List Value} {x : Chg} (h : stars [] w F) (hx : RdChg w (fun k => ¬ F k) cs x) (ho : OkChg x) :
    Calls Tryz.prog 11 #[.agg cs.toArray] w (Post w F (fun r : Option Addr × Nat => .tuple #[.slice r.1 (wOut (wChg x ⟨0, []⟩)).length r.2, .int .i64 ((wChg x ⟨0, []⟩).err : Int)]) (fun r => [rowR 5 1 r.1 (wOut (wChg x ⟨0, []⟩)).length r.2 ((wOut (wChg x ⟨0, []⟩)).map B8)])) := by
  have hl := RdChg.len hx
  have il := Len.of hl
  have jl := One.of (RdChg.one hx)
  refine g_enter (env := [(0, .agg cs.toArray)]) Tryz.func11 rfl h Tryz.ntmps11 rfl rfl ?_
  refine gsr ?_
  refine zbN fun b1 => ?_
  refine gp zas ?_
  refine gp zas ?_
  refine gnt ?_
  refine gsr ?_
  refine gp (r_build (cs := [.slice none 0 0, .int .i64 0]) Ty.zc_114 Ty.pl_114 (by kernel_rfl)) ?_
  refine zbN fun b6 => ?_
  refine gp zas ?_
  refine gnt ?_
  refine gsr ?_
  refine gp zmv ?_
  refine gp (zLa (cs := cs)) ?_
  refine gl_conv (M := [blk b6 114 [.slice none 0 0, .int .i64 0]]) (N := [OutR b6 ⟨0, []⟩]) (by repeat (first | exact Sel.nil | (apply Sel.cons; · (repeat (first | exact Pick.here | apply Pick.there))))) (fun w F hF => out_mk (a := none) (c := 0) (xs := []) (by have := stars_row_nil (e := 5) (size := 1) hF; exact stars_swap this) rfl rfl rfl) ?_
  refine zc (fun _ => ?_) (c := fun w1 F1 F2 h1 h2 hd hst => ochange_ok h1 (hx.mv hst.still) ho (by simp))
  refine gnt ?_
  refine gsr ?_
  refine gp zmv ?_
  refine zc (fun r11 => ?_) (c := fun w1 F1 F2 h1 h2 hd hst => odone_ok h1)
  refine gp zex ?_
  refine gp zex ?_
  refine gp zas ?_
  refine gp zas ?_
  refine gnt ?_
  refine gc_ret ?_
  refine gx_ret2 rfl (by conv => lhs; whnf) (by conv => lhs; whnf) ?_
  exact ze r11

end Go.Proofs.YtkgbbnhdioghmaaGreatDoor

/- Walks, by program (wg.py) out of a spec. -/
namespace Go.Proofs.YtkgbbnhdioghmaaGreatDoor
open Go
set_option linter.unusedVariables false
set_option linter.unusedSimpArgs false


/-- A message's parts. -/
structure MP where
  gv : List Value
  qt : List Value
  tt : List Value
  gt : List Value
  bp : List Value
  tp : List Value
  gp : List Value
  br : List Value
  cc : List Value
def MP.cs (x : Msg) : MP → List Value
  | ⟨gv, qt, tt, gt, bp, tp, gp, br, cc⟩ => .int .i64 x.kind :: ((.int .i64 x.vote.epoch :: .int .i64 x.vote.round :: (dc x.vote.block ++ (.int .i64 x.vote.sender.who :: gv))) ++ ((.int .i64 x.tmo.epoch :: .int .i64 x.tmo.round :: (qt ++ (tt ++ (.int .i64 x.tmo.sender.who :: gt)))) ++ ((bp ++ (tp ++ (.int .i64 x.prop.sender.who :: gp))) ++ (dc x.wantFrom ++ (dc x.wantBlock ++ (br ++ cc))))))
def MP.pc (x : Msg) : MP → List Value
  | ⟨gv, qt, tt, gt, bp, tp, gp, br, cc⟩ =>
    if x.kind = 1 then .int .i64 x.kind :: ((.int .i64 x.vote.epoch :: .int .i64 x.vote.round :: (dc x.vote.block ++ (.int .i64 x.vote.sender.who :: gv))) ++ (tmoC ++ (propC ++ (dc dig0 ++ (dc dig0 ++ (blkC ++ chgC))))))
    else if x.kind = 2 then .int .i64 x.kind :: (voteC ++ ((.int .i64 x.tmo.epoch :: .int .i64 x.tmo.round :: (qt ++ (tt ++ (.int .i64 x.tmo.sender.who :: gt)))) ++ (propC ++ (dc dig0 ++ (dc dig0 ++ (blkC ++ chgC))))))
    else if x.kind = 3 then .int .i64 x.kind :: (voteC ++ (tmoC ++ ((bp ++ (tp ++ (.int .i64 x.prop.sender.who :: gp))) ++ (dc dig0 ++ (dc dig0 ++ (blkC ++ chgC))))))
    else if x.kind = 4 then .int .i64 x.kind :: (voteC ++ (tmoC ++ (propC ++ (dc x.wantFrom ++ (dc x.wantBlock ++ (blkC ++ chgC))))))
    else if x.kind = 5 then .int .i64 x.kind :: (voteC ++ (tmoC ++ (propC ++ (dc dig0 ++ (dc dig0 ++ (br ++ chgC))))))
    else if x.kind = 6 then .int .i64 x.kind :: (voteC ++ (tmoC ++ (propC ++ (dc dig0 ++ (dc dig0 ++ (blkC ++ cc))))))
    else msgC x.kind dig0 dig0
structure MP.rd (w : World) (F : Nat → Prop) (x : Msg) (p : MP) : Prop where
  gv : RdSig w F p.gv x.vote.sender.sig
  qt : RdQC w F p.qt x.tmo.high
  tt : RdTC w F p.tt x.tmo.last
  gt : RdSig w F p.gt x.tmo.sender.sig
  bp : RdBlock w F p.bp x.prop.block
  tp : RdTC w F p.tp x.prop.last
  gp : RdSig w F p.gp x.prop.sender.sig
  br : RdBlock w F p.br x.reply
  cc : RdChg w F p.cc x.chg
theorem MP.rd.mv {w w' : World} {F F' : Nat → Prop} {x : Msg} {p : MP} (h : p.rd w F x) (k : Still w F w' F') : p.rd w' F' x :=
  ⟨h.gv.mv k, h.qt.mv k, h.tt.mv k, h.gt.mv k, h.bp.mv k, h.tp.mv k, h.gp.mv k, h.br.mv k, h.cc.mv k⟩
theorem MP.of {w : World} {F : Nat → Prop} {x : Msg} {cs : List Value} (h : RdMsg w F cs x) : ∃ p : MP, cs = p.cs x ∧ p.rd w F x := by
  obtain ⟨cv1, ct1, cp1, br1, cc1, rfl, hv1, ht1, hp1, hbr1, hcc1⟩ := h
  obtain ⟨sv1, rfl, gv1, rfl, hgv1⟩ := hv1
  obtain ⟨qt1, tt1, st1, rfl, hqt1, htt1, gt1, rfl, hgt1⟩ := ht1
  obtain ⟨bp1, tp1, sp1, rfl, hbp1, htp1, gp1, rfl, hgp1⟩ := hp1
  exact ⟨⟨gv1, qt1, tt1, gt1, bp1, tp1, gp1, br1, cc1⟩, rfl, ⟨hgv1, hqt1, htt1, hgt1, hbp1, htp1, hgp1, hbr1, hcc1⟩⟩
theorem MP.msg {w : World} {F : Nat → Prop} {x : Msg} {p : MP} (h : p.rd w F x) : RdMsg w F (p.cs x) x :=
  ⟨_, _, _, _, _, rfl, ⟨_, rfl, _, rfl, h.gv⟩, ⟨_, _, _, rfl, h.qt, h.tt, _, rfl, h.gt⟩, ⟨_, _, _, rfl, h.bp, h.tp, _, rfl, h.gp⟩, h.br, h.cc⟩
theorem MP.plain {w : World} {F : Nat → Prop} {x : Msg} {p : MP} (h : p.rd w F x) : RdMsg w F (p.pc x) (plainM x) := by
  obtain ⟨gv, qt, tt, gt, bp, tp, gp, br, cc⟩ := p
  simp only [MP.pc]
  unfold plainM
  by_cases h1 : x.kind = 1
  · rw [if_pos h1, if_pos h1]; exact ⟨_, _, _, _, _, rfl, ⟨_, rfl, _, rfl, h.gv⟩, rdTmo0, rdProp0, rdBlock0, rdChg0⟩
  rw [if_neg h1, if_neg h1]
  by_cases h1 : x.kind = 2
  · rw [if_pos h1, if_pos h1]; exact ⟨_, _, _, _, _, rfl, rdVote0, ⟨_, _, _, rfl, h.qt, h.tt, _, rfl, h.gt⟩, rdProp0, rdBlock0, rdChg0⟩
  rw [if_neg h1, if_neg h1]
  by_cases h1 : x.kind = 3
  · rw [if_pos h1, if_pos h1]; exact ⟨_, _, _, _, _, rfl, rdVote0, rdTmo0, ⟨_, _, _, rfl, h.bp, h.tp, _, rfl, h.gp⟩, rdBlock0, rdChg0⟩
  rw [if_neg h1, if_neg h1]
  by_cases h1 : x.kind = 4
  · rw [if_pos h1, if_pos h1]; exact ⟨_, _, _, _, _, rfl, rdVote0, rdTmo0, rdProp0, rdBlock0, rdChg0⟩
  rw [if_neg h1, if_neg h1]
  by_cases h1 : x.kind = 5
  · rw [if_pos h1, if_pos h1]; exact ⟨_, _, _, _, _, rfl, rdVote0, rdTmo0, rdProp0, h.br, rdChg0⟩
  rw [if_neg h1, if_neg h1]
  by_cases h1 : x.kind = 6
  · rw [if_pos h1, if_pos h1]; exact ⟨_, _, _, _, _, rfl, rdVote0, rdTmo0, rdProp0, rdBlock0, h.cc⟩
  rw [if_neg h1, if_neg h1]
  exact rdMsgOf x.kind dig0 dig0
/-- A message's parts, their memory owned. -/
def PartsR (x : Msg) (p : MP) : Res := rdR (fun w F => p.rd w F x) (fun h hk => h.mv (still_of hk))
theorem flat_at {css : List (List Value)} {q bc : List Value} {k o : Nat} (hcl : ∀ c ∈ css, c.length = 39) (h : css[k]? = some bc) (ho : o = k * 39) : ((css.flatten ++ q).drop o).take 39 = bc := by
  subst ho
  have hk : k < css.length := (List.getElem?_eq_some_iff.1 h).1
  have hf := flatten_len hcl
  rw [List.drop_append_of_le_length (by rw [hf]; omega), List.take_append_of_le_length (by rw [List.length_drop, hf]; omega)]
  exact flatten_at hcl h

attribute [local irreducible] Gl Gc Gx Gs Runs Wt

attribute [local irreducible] voteC tmoC propC blkC chgC sgnC tcC qcC dc msgC

set_option maxHeartbeats 400000 in
theorem plain_ok {w : World} {F : Nat → Prop} {x : Msg} {gv1 qt1 tt1 gt1 bp1 tp1 gp1 br1 cc1 : List Value} [Len gv1 3] [One gv1] [Len qt1 19] [One qt1] [Len tt1 3] [One tt1] [Len gt1 3] [One gt1] [Len bp1 39] [One bp1] [Len tp1 3] [One tp1] [Len gp1 3] [One gp1] [Len br1 39] [One br1] [Len cc1 136] [One cc1] (h : stars [] w F) :
    Calls Tryz.prog 20 #[.agg (List.toArray (.int .i64 x.kind :: ((.int .i64 x.vote.epoch :: .int .i64 x.vote.round :: (dc x.vote.block ++ (.int .i64 x.vote.sender.who :: gv1))) ++ ((.int .i64 x.tmo.epoch :: .int .i64 x.tmo.round :: (qt1 ++ (tt1 ++ (.int .i64 x.tmo.sender.who :: gt1)))) ++ ((bp1 ++ (tp1 ++ (.int .i64 x.prop.sender.who :: gp1))) ++ (dc x.wantFrom ++ (dc x.wantBlock ++ (br1 ++ cc1))))))))] w (Post w F (fun _ : Unit => .agg (List.toArray ((⟨gv1, qt1, tt1, gt1, bp1, tp1, gp1, br1, cc1⟩ : MP).pc x))) (fun _ => [])) := by
  refine g_enter (env := [(0, .agg (List.toArray (.int .i64 x.kind :: ((.int .i64 x.vote.epoch :: .int .i64 x.vote.round :: (dc x.vote.block ++ (.int .i64 x.vote.sender.who :: gv1))) ++ ((.int .i64 x.tmo.epoch :: .int .i64 x.tmo.round :: (qt1 ++ (tt1 ++ (.int .i64 x.tmo.sender.who :: gt1)))) ++ ((bp1 ++ (tp1 ++ (.int .i64 x.prop.sender.who :: gp1))) ++ (dc x.wantFrom ++ (dc x.wantBlock ++ (br1 ++ cc1)))))))))]) Tryz.func20 rfl h Tryz.ntmps20 rfl rfl ?_
  refine gsr ?_
  refine zbN fun b1 => ?_
  refine zal fun b2 => ?_
  refine gl_eqc (cs' := msgC 0 dig0 dig0) (by repeat (first | exact Pick.here | apply Pick.there)) (by kernel_rfl) ?_
  refine gnt ?_
  refine gsr ?_
  refine gp zfa ?_
  refine gp zl ?_
  refine gp (r_build (cs := msgC x.kind dig0 dig0) Ty.zc_66 Ty.pl_66 (by kernel_rfl)) ?_
  refine zal fun b3 => ?_
  refine gl_eqc (cs' := msgC 0 dig0 dig0) (by repeat (first | exact Pick.here | apply Pick.there)) (by kernel_rfl) ?_
  refine zsN ?_
  refine gnt ?_
  refine gc_seq ?_
  refine gsr ?_
  refine gp zfa ?_
  refine gp zl ?_
  refine gnt ?_
  refine gc_block ?_
  refine gsr ?_
  refine gp zei ?_
  refine gp zas ?_
  refine gnt ?_
  refine gif rfl (fun hc9 => ?_) (fun hc9 => ?_)
  · try simp only at hc9
    refine gc_eqc (cs' := .int .i64 x.kind :: ((.int .i64 0 :: .int .i64 0 :: (dc dig0 ++ sgnC)) ++ (tmoC ++ (propC ++ (dc dig0 ++ (dc dig0 ++ (blkC ++ chgC))))))) (by repeat (first | exact Pick.here | apply Pick.there)) (by kernel_rfl) ?_
    have ePC : (⟨gv1, qt1, tt1, gt1, bp1, tp1, gp1, br1, cc1⟩ : MP).pc x = .int .i64 x.kind :: ((.int .i64 x.vote.epoch :: .int .i64 x.vote.round :: (dc x.vote.block ++ (.int .i64 x.vote.sender.who :: gv1))) ++ (tmoC ++ (propC ++ (dc dig0 ++ (dc dig0 ++ (blkC ++ chgC)))))) := by simp only [MP.pc]; rw [if_pos hc9]
    refine gc_region ?_
    refine gp zfa ?_
    refine gp zL ?_
    refine gp zfa ?_
    refine zsN ?_
    refine gl_nil ?_
    refine gx_block_normal ?_
    refine gx_then ?_
    refine gsr ?_
    refine gp zL ?_
    refine zsN ?_
    refine gnt ?_
    refine gc_ret ?_
    refine gx_retc rfl rfl (ld_aggS Ty.row_66 Ty.sz_66 (by repeat (first | exact Pick.here | apply Pick.there)) (by (simp only [List.drop_succ_cons, List.drop_zero, List.take_succ_cons, List.take_zero, List.cons_append, List.nil_append, List.append_assoc, drop_dc, drop_dc', take_dc, take_dc', drop_L, drop_L', take_L, take_L', len_L, Nat.reduceLeDiff, Nat.reduceSub, Nat.reduceAdd, Nat.le_refl, List.length_cons, List.length_append, List.length_nil, dc_length, List.drop_nil, List.take_nil, List.append_nil, List.length_map, List.length_replicate]; first | done | rfl)) (by first | rfl | (simp only [List.drop_succ_cons, List.drop_zero, List.take_succ_cons, List.take_zero, List.cons_append, List.nil_append, List.append_assoc, drop_dc, drop_dc', take_dc, take_dc', drop_L, drop_L', take_L, take_L', len_L, Nat.reduceLeDiff, Nat.reduceSub, Nat.reduceAdd, Nat.le_refl, List.length_cons, List.length_append, List.length_nil, dc_length, List.drop_nil, List.take_nil, List.append_nil, List.length_map, List.length_replicate]; first | done | omega))) ?_
    rw [ePC]
    exact fun w' hw => ⟨(), by first | rfl | simp only [List.cons_append, List.append_assoc], hw.sel (by repeat (first | exact Sel.nil | (apply Sel.cons; · (repeat (first | exact Pick.here | apply Pick.there)))))⟩
  · refine gsr ?_
    refine gp zei ?_
    refine gp zas ?_
    refine gnt ?_
    refine gif rfl (fun hc14 => ?_) (fun hc14 => ?_)
    · try simp only at hc14
      refine gc_eqc (cs' := .int .i64 x.kind :: (voteC ++ ((.int .i64 0 :: .int .i64 0 :: (qcC ++ (tcC ++ sgnC))) ++ (propC ++ (dc dig0 ++ (dc dig0 ++ (blkC ++ chgC))))))) (by repeat (first | exact Pick.here | apply Pick.there)) (by kernel_rfl) ?_
      have ePC : (⟨gv1, qt1, tt1, gt1, bp1, tp1, gp1, br1, cc1⟩ : MP).pc x = .int .i64 x.kind :: (voteC ++ ((.int .i64 x.tmo.epoch :: .int .i64 x.tmo.round :: (qt1 ++ (tt1 ++ (.int .i64 x.tmo.sender.who :: gt1)))) ++ (propC ++ (dc dig0 ++ (dc dig0 ++ (blkC ++ chgC)))))) := by simp only [MP.pc]; rw [if_neg hc9]; rw [if_pos hc14]
      refine gc_region ?_
      refine gp zfa ?_
      refine gp zL ?_
      refine gp zfa ?_
      refine zsN ?_
      refine gl_nil ?_
      refine gx_block_normal ?_
      refine gx_then ?_
      refine gsr ?_
      refine gp zL ?_
      refine zsN ?_
      refine gnt ?_
      refine gc_ret ?_
      refine gx_retc rfl rfl (ld_aggS Ty.row_66 Ty.sz_66 (by repeat (first | exact Pick.here | apply Pick.there)) (by (simp only [List.drop_succ_cons, List.drop_zero, List.take_succ_cons, List.take_zero, List.cons_append, List.nil_append, List.append_assoc, drop_dc, drop_dc', take_dc, take_dc', drop_L, drop_L', take_L, take_L', len_L, Nat.reduceLeDiff, Nat.reduceSub, Nat.reduceAdd, Nat.le_refl, List.length_cons, List.length_append, List.length_nil, dc_length, List.drop_nil, List.take_nil, List.append_nil, List.length_map, List.length_replicate]; first | done | rfl)) (by first | rfl | (simp only [List.drop_succ_cons, List.drop_zero, List.take_succ_cons, List.take_zero, List.cons_append, List.nil_append, List.append_assoc, drop_dc, drop_dc', take_dc, take_dc', drop_L, drop_L', take_L, take_L', len_L, Nat.reduceLeDiff, Nat.reduceSub, Nat.reduceAdd, Nat.le_refl, List.length_cons, List.length_append, List.length_nil, dc_length, List.drop_nil, List.take_nil, List.append_nil, List.length_map, List.length_replicate]; first | done | omega))) ?_
      rw [ePC]
      exact fun w' hw => ⟨(), by first | rfl | simp only [List.cons_append, List.append_assoc], hw.sel (by repeat (first | exact Sel.nil | (apply Sel.cons; · (repeat (first | exact Pick.here | apply Pick.there)))))⟩
    · refine gsr ?_
      refine gp zei ?_
      refine gp zas ?_
      refine gnt ?_
      refine gif rfl (fun hc19 => ?_) (fun hc19 => ?_)
      · try simp only at hc19
        refine gc_eqc (cs' := .int .i64 x.kind :: (voteC ++ (tmoC ++ ((blkC ++ (tcC ++ sgnC)) ++ (dc dig0 ++ (dc dig0 ++ (blkC ++ chgC))))))) (by repeat (first | exact Pick.here | apply Pick.there)) (by kernel_rfl) ?_
        have ePC : (⟨gv1, qt1, tt1, gt1, bp1, tp1, gp1, br1, cc1⟩ : MP).pc x = .int .i64 x.kind :: (voteC ++ (tmoC ++ ((bp1 ++ (tp1 ++ (.int .i64 x.prop.sender.who :: gp1))) ++ (dc dig0 ++ (dc dig0 ++ (blkC ++ chgC)))))) := by simp only [MP.pc]; rw [if_neg hc9]; rw [if_neg hc14]; rw [if_pos hc19]
        refine gc_region ?_
        refine gp zfa ?_
        refine gp zL ?_
        refine gp zfa ?_
        refine zsN ?_
        refine gl_nil ?_
        refine gx_block_normal ?_
        refine gx_then ?_
        refine gsr ?_
        refine gp zL ?_
        refine zsN ?_
        refine gnt ?_
        refine gc_ret ?_
        refine gx_retc rfl rfl (ld_aggS Ty.row_66 Ty.sz_66 (by repeat (first | exact Pick.here | apply Pick.there)) (by (simp only [List.drop_succ_cons, List.drop_zero, List.take_succ_cons, List.take_zero, List.cons_append, List.nil_append, List.append_assoc, drop_dc, drop_dc', take_dc, take_dc', drop_L, drop_L', take_L, take_L', len_L, Nat.reduceLeDiff, Nat.reduceSub, Nat.reduceAdd, Nat.le_refl, List.length_cons, List.length_append, List.length_nil, dc_length, List.drop_nil, List.take_nil, List.append_nil, List.length_map, List.length_replicate]; first | done | rfl)) (by first | rfl | (simp only [List.drop_succ_cons, List.drop_zero, List.take_succ_cons, List.take_zero, List.cons_append, List.nil_append, List.append_assoc, drop_dc, drop_dc', take_dc, take_dc', drop_L, drop_L', take_L, take_L', len_L, Nat.reduceLeDiff, Nat.reduceSub, Nat.reduceAdd, Nat.le_refl, List.length_cons, List.length_append, List.length_nil, dc_length, List.drop_nil, List.take_nil, List.append_nil, List.length_map, List.length_replicate]; first | done | omega))) ?_
        rw [ePC]
        exact fun w' hw => ⟨(), by first | rfl | simp only [List.cons_append, List.append_assoc], hw.sel (by repeat (first | exact Sel.nil | (apply Sel.cons; · (repeat (first | exact Pick.here | apply Pick.there)))))⟩
      · refine gsr ?_
        refine gp zei ?_
        refine gp zas ?_
        refine gnt ?_
        refine gif rfl (fun hc24 => ?_) (fun hc24 => ?_)
        · try simp only at hc24
          refine gc_eqc (cs' := .int .i64 x.kind :: (voteC ++ (tmoC ++ (propC ++ (dc dig0 ++ (dc dig0 ++ (blkC ++ chgC))))))) (by repeat (first | exact Pick.here | apply Pick.there)) (by kernel_rfl) ?_
          have ePC : (⟨gv1, qt1, tt1, gt1, bp1, tp1, gp1, br1, cc1⟩ : MP).pc x = .int .i64 x.kind :: (voteC ++ (tmoC ++ (propC ++ (dc x.wantFrom ++ (dc x.wantBlock ++ (blkC ++ chgC)))))) := by simp only [MP.pc]; rw [if_neg hc9]; rw [if_neg hc14]; rw [if_neg hc19]; rw [if_pos hc24]
          refine gc_region ?_
          refine gp zfa ?_
          refine gp zL ?_
          refine gp zfa ?_
          refine zsN ?_
          refine gl_nil ?_
          refine gx_block_normal ?_
          refine gx_then ?_
          refine gsr ?_
          refine gp zL ?_
          refine zsN ?_
          refine gnt ?_
          refine gc_ret ?_
          refine gx_retc rfl rfl (ld_aggS Ty.row_66 Ty.sz_66 (by repeat (first | exact Pick.here | apply Pick.there)) (by (simp only [List.drop_succ_cons, List.drop_zero, List.take_succ_cons, List.take_zero, List.cons_append, List.nil_append, List.append_assoc, drop_dc, drop_dc', take_dc, take_dc', drop_L, drop_L', take_L, take_L', len_L, Nat.reduceLeDiff, Nat.reduceSub, Nat.reduceAdd, Nat.le_refl, List.length_cons, List.length_append, List.length_nil, dc_length, List.drop_nil, List.take_nil, List.append_nil, List.length_map, List.length_replicate]; first | done | rfl)) (by first | rfl | (simp only [List.drop_succ_cons, List.drop_zero, List.take_succ_cons, List.take_zero, List.cons_append, List.nil_append, List.append_assoc, drop_dc, drop_dc', take_dc, take_dc', drop_L, drop_L', take_L, take_L', len_L, Nat.reduceLeDiff, Nat.reduceSub, Nat.reduceAdd, Nat.le_refl, List.length_cons, List.length_append, List.length_nil, dc_length, List.drop_nil, List.take_nil, List.append_nil, List.length_map, List.length_replicate]; first | done | omega))) ?_
          rw [ePC]
          exact fun w' hw => ⟨(), by first | rfl | simp only [List.cons_append, List.append_assoc], hw.sel (by repeat (first | exact Sel.nil | (apply Sel.cons; · (repeat (first | exact Pick.here | apply Pick.there)))))⟩
        · refine gsr ?_
          refine gp zei ?_
          refine gp zas ?_
          refine gnt ?_
          refine gif rfl (fun hc29 => ?_) (fun hc29 => ?_)
          · try simp only at hc29
            refine gc_eqc (cs' := .int .i64 x.kind :: (voteC ++ (tmoC ++ (propC ++ (dc dig0 ++ (dc dig0 ++ (blkC ++ chgC))))))) (by repeat (first | exact Pick.here | apply Pick.there)) (by kernel_rfl) ?_
            have ePC : (⟨gv1, qt1, tt1, gt1, bp1, tp1, gp1, br1, cc1⟩ : MP).pc x = .int .i64 x.kind :: (voteC ++ (tmoC ++ (propC ++ (dc dig0 ++ (dc dig0 ++ (br1 ++ chgC)))))) := by simp only [MP.pc]; rw [if_neg hc9]; rw [if_neg hc14]; rw [if_neg hc19]; rw [if_neg hc24]; rw [if_pos hc29]
            refine gc_region ?_
            refine gp zfa ?_
            refine gp zL ?_
            refine gp zfa ?_
            refine zsN ?_
            refine gl_nil ?_
            refine gx_block_normal ?_
            refine gx_then ?_
            refine gsr ?_
            refine gp zL ?_
            refine zsN ?_
            refine gnt ?_
            refine gc_ret ?_
            refine gx_retc rfl rfl (ld_aggS Ty.row_66 Ty.sz_66 (by repeat (first | exact Pick.here | apply Pick.there)) (by (simp only [List.drop_succ_cons, List.drop_zero, List.take_succ_cons, List.take_zero, List.cons_append, List.nil_append, List.append_assoc, drop_dc, drop_dc', take_dc, take_dc', drop_L, drop_L', take_L, take_L', len_L, Nat.reduceLeDiff, Nat.reduceSub, Nat.reduceAdd, Nat.le_refl, List.length_cons, List.length_append, List.length_nil, dc_length, List.drop_nil, List.take_nil, List.append_nil, List.length_map, List.length_replicate]; first | done | rfl)) (by first | rfl | (simp only [List.drop_succ_cons, List.drop_zero, List.take_succ_cons, List.take_zero, List.cons_append, List.nil_append, List.append_assoc, drop_dc, drop_dc', take_dc, take_dc', drop_L, drop_L', take_L, take_L', len_L, Nat.reduceLeDiff, Nat.reduceSub, Nat.reduceAdd, Nat.le_refl, List.length_cons, List.length_append, List.length_nil, dc_length, List.drop_nil, List.take_nil, List.append_nil, List.length_map, List.length_replicate]; first | done | omega))) ?_
            rw [ePC]
            exact fun w' hw => ⟨(), by first | rfl | simp only [List.cons_append, List.append_assoc], hw.sel (by repeat (first | exact Sel.nil | (apply Sel.cons; · (repeat (first | exact Pick.here | apply Pick.there)))))⟩
          · refine gsr ?_
            refine gp zei ?_
            refine gp zas ?_
            refine gnt ?_
            refine gif rfl (fun hc34 => ?_) (fun hc34 => ?_)
            · try simp only at hc34
              refine gc_eqc (cs' := .int .i64 x.kind :: (voteC ++ (tmoC ++ (propC ++ (dc dig0 ++ (dc dig0 ++ (blkC ++ chgC))))))) (by repeat (first | exact Pick.here | apply Pick.there)) (by kernel_rfl) ?_
              have ePC : (⟨gv1, qt1, tt1, gt1, bp1, tp1, gp1, br1, cc1⟩ : MP).pc x = .int .i64 x.kind :: (voteC ++ (tmoC ++ (propC ++ (dc dig0 ++ (dc dig0 ++ (blkC ++ cc1)))))) := by simp only [MP.pc]; rw [if_neg hc9]; rw [if_neg hc14]; rw [if_neg hc19]; rw [if_neg hc24]; rw [if_neg hc29]; rw [if_pos hc34]
              refine gc_region ?_
              refine gp zfa ?_
              refine gp zL ?_
              refine gp zfa ?_
              refine zsN ?_
              refine gl_nil ?_
              refine gx_block_normal ?_
              refine gx_then ?_
              refine gsr ?_
              refine gp zL ?_
              refine zsN ?_
              refine gnt ?_
              refine gc_ret ?_
              refine gx_retc rfl rfl (ld_aggS Ty.row_66 Ty.sz_66 (by repeat (first | exact Pick.here | apply Pick.there)) (by (simp only [List.drop_succ_cons, List.drop_zero, List.take_succ_cons, List.take_zero, List.cons_append, List.nil_append, List.append_assoc, drop_dc, drop_dc', take_dc, take_dc', drop_L, drop_L', take_L, take_L', len_L, Nat.reduceLeDiff, Nat.reduceSub, Nat.reduceAdd, Nat.le_refl, List.length_cons, List.length_append, List.length_nil, dc_length, List.drop_nil, List.take_nil, List.append_nil, List.length_map, List.length_replicate]; first | done | rfl)) (by first | rfl | (simp only [List.drop_succ_cons, List.drop_zero, List.take_succ_cons, List.take_zero, List.cons_append, List.nil_append, List.append_assoc, drop_dc, drop_dc', take_dc, take_dc', drop_L, drop_L', take_L, take_L', len_L, Nat.reduceLeDiff, Nat.reduceSub, Nat.reduceAdd, Nat.le_refl, List.length_cons, List.length_append, List.length_nil, dc_length, List.drop_nil, List.take_nil, List.append_nil, List.length_map, List.length_replicate]; first | done | omega))) ?_
              rw [ePC]
              exact fun w' hw => ⟨(), by first | rfl | simp only [List.cons_append, List.append_assoc], hw.sel (by repeat (first | exact Sel.nil | (apply Sel.cons; · (repeat (first | exact Pick.here | apply Pick.there)))))⟩
            · try simp only at hc34
              have ePC : (⟨gv1, qt1, tt1, gt1, bp1, tp1, gp1, br1, cc1⟩ : MP).pc x = msgC x.kind dig0 dig0 := by simp only [MP.pc]; rw [if_neg hc9]; rw [if_neg hc14]; rw [if_neg hc19]; rw [if_neg hc24]; rw [if_neg hc29]; rw [if_neg hc34]
              refine gc_skip ?_
              refine gx_block_normal ?_
              refine gx_then ?_
              refine gsr ?_
              refine gp zL ?_
              refine zsN ?_
              refine gnt ?_
              refine gc_ret ?_
              refine gx_retc rfl rfl (ld_aggS Ty.row_66 Ty.sz_66 (by repeat (first | exact Pick.here | apply Pick.there)) (by (simp only [List.drop_succ_cons, List.drop_zero, List.take_succ_cons, List.take_zero, List.cons_append, List.nil_append, List.append_assoc, drop_dc, drop_dc', take_dc, take_dc', drop_L, drop_L', take_L, take_L', len_L, Nat.reduceLeDiff, Nat.reduceSub, Nat.reduceAdd, Nat.le_refl, List.length_cons, List.length_append, List.length_nil, dc_length, List.drop_nil, List.take_nil, List.append_nil, List.length_map, List.length_replicate]; first | done | rfl)) (by first | rfl | (simp only [List.drop_succ_cons, List.drop_zero, List.take_succ_cons, List.take_zero, List.cons_append, List.nil_append, List.append_assoc, drop_dc, drop_dc', take_dc, take_dc', drop_L, drop_L', take_L, take_L', len_L, Nat.reduceLeDiff, Nat.reduceSub, Nat.reduceAdd, Nat.le_refl, List.length_cons, List.length_append, List.length_nil, dc_length, List.drop_nil, List.take_nil, List.append_nil, List.length_map, List.length_replicate]; first | done | omega))) ?_
              rw [ePC]
              exact fun w' hw => ⟨(), by first | rfl | simp only [List.cons_append, List.append_assoc], hw.sel (by repeat (first | exact Sel.nil | (apply Sel.cons; · (repeat (first | exact Pick.here | apply Pick.there)))))⟩

end Go.Proofs.YtkgbbnhdioghmaaGreatDoor

/- Walks, by program (wg.py) out of a spec. -/
namespace Go.Proofs.YtkgbbnhdioghmaaGreatDoor
open Go
set_option linter.unusedVariables false
set_option linter.unusedSimpArgs false

attribute [local irreducible] Gl Gc Gx Gs Runs Wt

set_option maxHeartbeats 400000 in
theorem sameTCx_ok {w : World} {F : Nat → Prop} {cs1 cs2 : List Value} {x : TC} (h : stars [] w F) (hx : RdTC w (fun k => ¬ F k) cs1 x) (hy : RdTC w (fun k => ¬ F k) cs2 x) :
    Calls Tryz.prog 63 #[.agg cs1.toArray, .agg cs2.toArray] w (Post w F (fun _ : Unit => .bool true) (fun _ => [])) := by
  obtain ⟨a1, n1, c1, rfl, hk1, hd1⟩ := hx
  obtain ⟨a2, n2, c2, rfl, hk2, hd2⟩ := hy
  have hm1 := hd1.max
  simp only [maxLen] at hm1
  have e1 := hd1.len (by decide)
  have e2 := hd2.len (by decide)
  obtain rfl : n1 = n2 := by omega
  refine g_enter (env := [(0, .agg (List.toArray [.int .i64 x.epoch, .int .i64 x.round, .slice a1 n1 c1])), (1, .agg (List.toArray [.int .i64 x.epoch, .int .i64 x.round, .slice a2 n1 c2]))]) Tryz.func63 rfl h Tryz.ntmps63 rfl rfl ?_
  refine gsr ?_
  refine zbN fun b2 => ?_
  refine zbN fun b3 => ?_
  refine gp zas ?_
  refine gnt ?_
  refine gc_seq ?_
  refine gsr ?_
  refine gp zfa ?_
  refine gp zl ?_
  refine gp zfa ?_
  refine gp zl ?_
  refine gp (r_bool (c := false) zni (by simp)) ?_
  refine gp zmv ?_
  refine gq zfa ?_
  refine gq zl ?_
  refine gq zfa ?_
  refine gq zl ?_
  refine gq (r_bool (c := false) zni (by simp)) ?_
  refine gp zpk ?_
  refine gp zmv ?_
  refine gq zfa ?_
  refine gq zl ?_
  refine gq zln ?_
  refine gq zfa ?_
  refine gq zl ?_
  refine gq zln ?_
  refine gq (r_bool (c := false) zni (by simp)) ?_
  refine gp zpk ?_
  refine gnt ?_
  refine gc_condF rfl rfl ?_
  refine gc_skip ?_
  refine gx_then ?_
  refine gc_seq ?_
  refine gsr ?_
  refine gp zfa ?_
  refine gp zl ?_
  refine gp zln ?_
  refine gp zmv ?_
  refine gnt ?_
  refine gc_block ?_
  refine gc_loop (α := Nat) (fun k => [pureR (k ≤ n1), blk b2 56 [.int .i64 x.epoch, .int .i64 x.round, .slice a1 n1 c1], blk b3 56 [.int .i64 x.epoch, .int .i64 x.round, .slice a2 n1 c2]]) (fun k => [(32, .int .i64 (k : Int))]) [4, 5, 6, 7, 33, 34, 35, 36, 37, 38, 39, 40, 41, 42, 43, 44, 45, 46, 47, 48, 49, 50, 51, 52, 53, 54, 55, 56, 57, 58, 59, 60, 61, 62, 63, 64, 65] (fun k => n1 - k) 0 ?_ ?_ ?_
  · refine env_start (by kernel_rfl)
  · exact fun w' hw => zlp (Nat.zero_le _) (by repeat (first | exact Sel.nil | (apply Sel.cons; · (repeat (first | exact Pick.here | apply Pick.there))))) w' hw
  · intro k u
    refine gc_pureR (fun hk => ?_)
    replace hk : k ≤ n1 := hk
    refine gsr ?_
    refine gp zlt ?_
    refine gnt ?_
    refine gc_seq ?_
    refine gif rfl (fun hc33 => ?_) (fun hc33 => ?_)
    · have hk' : k < n1 := by (try simp only at hc33); omega
      obtain ⟨g1, o1, cs1, y, ha1, hA1, hg1, hra1, hcl1, hl1, hrd1⟩ := hd1.elem (by decide) hk'
      obtain ⟨g2, o2, cs2, z, ha2, hA2, hg2, hra2, hcl2, hl2, hrd2⟩ := hd2.elem (by decide) hk'
      obtain rfl : y = z := by rw [hl1] at hl2; exact Option.some.inj hl2
      subst ha1
      subst ha2
      obtain ⟨s1, rfl, hs1⟩ := hrd1
      obtain ⟨s2, rfl, hs2⟩ := hrd2
      have i1 := Len.of hs1.len
      have i2 := Len.of hs2.len
      have j1 := One.of hs1.one
      have j2 := One.of hs2.one
      refine gc_skip ?_
      refine gx_then ?_
      refine gc_seq ?_
      refine gc_block ?_
      refine gsr ?_
      refine gp zmv ?_
      refine gp zas ?_
      refine gnt ?_
      refine gc_seq ?_
      refine gc_regionZ 13 ([blk b2 56 [.int .i64 x.epoch, .int .i64 x.round, .slice (some ⟨g1, o1, none⟩) n1 c1], blk b3 56 [.int .i64 x.epoch, .int .i64 x.round, .slice (some ⟨g2, o2, none⟩) n1 c2]]) ?_
      refine yps 0 rfl zfa ?_
      refine yps 1 rfl zl ?_
      refine yps 2 rfl zmv ?_
      refine yps 3 rfl (r_indexAddr_slice rfl rfl Ty.sl_54 Ty.sz_179 (by omega) (by omega)) ?_
      refine yps 4 rfl (r_ldNo rfl Ty.row_179 Ty.sz_179 hra1 hcl1 (by decide) hA1) ?_
      refine yps 5 rfl zfa ?_
      refine yps 6 rfl zl ?_
      refine yps 7 rfl zmv ?_
      refine yps 8 rfl (r_indexAddr_slice rfl rfl Ty.sl_54 Ty.sz_179 (by omega) (by omega)) ?_
      refine yps 9 rfl (r_ldNo rfl Ty.row_179 Ty.sz_179 hra2 hcl2 (by decide) hA2) ?_
      refine yas2 10 11 rfl rfl (fun b6 b7 => ?_)
      refine yos 12 rfl ?_
      refine zsN ?_
      refine yxs ?_
      refine yzs rfl ?_
      refine zsN ?_
      refine gnt ?_
      refine gsr ?_
      refine gp zfa ?_
      refine gp zl ?_
      refine gp zfa ?_
      refine gp zl ?_
      refine gp (r_bool (c := false) zni (by simp)) ?_
      refine gp zmv ?_
      refine gq zfa ?_
      refine gq zl ?_
      refine gq zfa ?_
      refine gq zl ?_
      refine gq (r_bool (c := false) zni (by simp)) ?_
      refine gp zpk ?_
      refine gp zmv ?_
      refine gq zfa ?_
      refine gq zL ?_
      refine gq zfa ?_
      refine gq zL ?_
      refine zc (fun _ => ?_) (c := fun w1 F1 F2 h1 h2 hd hst => sameSig_ok h1 (hs1.mv hst.still) (hs2.mv hst.still))
      rw [decide_eq_true rfl]
      refine gq znt ?_
      refine gp zpk ?_
      refine gnt ?_
      refine gc_condF rfl rfl ?_
      refine gc_skip ?_
      refine gx_block_normal ?_
      refine gx_then ?_
      refine gc_region ?_
      refine gp zad ?_
      refine gp zmv ?_
      refine gl_nil ?_
      refine zrd (k + 1) ?_ ?_
      · show n1 - (k + 1) < n1 - k
        omega
      · exact fun w' hw => zlp (show k + 1 ≤ n1 by omega) (by repeat (first | exact Sel.nil | (apply Sel.cons; · (repeat (first | exact Pick.here | apply Pick.there))))) w' hw
    · refine gc_exit ?_
      refine gx_then_exit ?_
      refine gx_round_exit ?_
      refine gx_block_hit ?_
      refine gx_then ?_
      refine gsr ?_
      refine gp zas ?_
      refine gnt ?_
      refine gc_ret ?_
      refine gx_ret1 rfl (by conv => lhs; whnf) ?_
      exact ze ()

set_option maxHeartbeats 400000 in
theorem sameChangex_ok {w : World} {F : Nat → Prop} {cs1 cs2 : List Value} {x : Chg} (h : stars [] w F) (hx : RdChg w (fun k => ¬ F k) cs1 x) (hy : RdChg w (fun k => ¬ F k) cs2 x) :
    Calls Tryz.prog 14 #[.agg cs1.toArray, .agg cs2.toArray] w (Post w F (fun _ : Unit => .bool true) (fun _ => [])) := by
  obtain ⟨css1, q1, rfl, hcl1, hc31, hb31, hbs1, hq1⟩ := hx
  have hfl1 : css1.flatten.length = 117 := by rw [flatten_len hcl1, hc31]
  have hi1 := Len.of hfl1
  have hj1 := Len.of hq1.len
  obtain ⟨css2, q2, rfl, hcl2, hc32, hb32, hbs2, hq2⟩ := hy
  have hfl2 : css2.flatten.length = 117 := by rw [flatten_len hcl2, hc32]
  have hi2 := Len.of hfl2
  have hj2 := Len.of hq2.len
  refine g_enter (env := [(0, .agg (List.toArray (css1.flatten ++ q1))), (1, .agg (List.toArray (css2.flatten ++ q2)))]) Tryz.func14 rfl h Tryz.ntmps14 rfl rfl ?_
  refine gsr ?_
  refine zbN fun b2 => ?_
  refine zbN fun b3 => ?_
  refine gp zas ?_
  refine gnt ?_
  refine gc_seq ?_
  refine gsr ?_
  refine gp zmv ?_
  refine gnt ?_
  refine gc_block ?_
  refine gc_loop (α := Nat) (fun k => [pureR (k ≤ 3), blk b2 33 (css1.flatten ++ q1), blk b3 33 (css2.flatten ++ q2)]) (fun k => [(6, .int .i64 (k : Int))]) [4, 5, 7, 8, 9, 10, 11, 12, 13, 14, 15, 16, 17, 18, 19] (fun k => 3 - k) 0 ?_ ?_ ?_
  · refine env_start (by kernel_rfl)
  · exact fun w' hw => zlp (Nat.zero_le _) (by repeat (first | exact Sel.nil | (apply Sel.cons; · (repeat (first | exact Pick.here | apply Pick.there))))) w' hw
  · intro k u
    refine gc_pureR (fun hk => ?_)
    replace hk : k ≤ 3 := hk
    refine gsr ?_
    refine gp zlt ?_
    refine gnt ?_
    refine gc_seq ?_
    refine gif rfl (fun hc7 => ?_) (fun hc7 => ?_)
    · have hk' : k < 3 := by (try simp only at hc7); omega
      obtain ⟨xb, hxb⟩ : ∃ xb, x.blocks[k]? = some xb := ⟨_, List.getElem?_eq_getElem (by omega)⟩
      obtain ⟨bc1, hbc1⟩ : ∃ bc, css1[k]? = some bc := ⟨_, List.getElem?_eq_getElem (by omega)⟩
      have hB1 := hbs1 k bc1 xb hbc1 hxb
      have hbl1 := hB1.len
      obtain ⟨bc2, hbc2⟩ : ∃ bc, css2[k]? = some bc := ⟨_, List.getElem?_eq_getElem (by omega)⟩
      have hB2 := hbs2 k bc2 xb hbc2 hxb
      have hbl2 := hB2.len
      refine gc_skip ?_
      refine gx_then ?_
      refine gc_seq ?_
      refine gc_block ?_
      refine gsr ?_
      refine gp zmv ?_
      refine gp zas ?_
      refine gnt ?_
      refine gc_seq ?_
      refine gc_regionH ([blk b2 33 (css1.flatten ++ q1), blk b3 33 (css2.flatten ++ q2)]) ?_
      refine yp 0 rfl zmv ?_
      refine yp 1 rfl zfa ?_
      refine yp 2 rfl (zib) ?_
      refine yp 3 rfl (r_ldN (seg := bc1) rfl Ty.row_30 Ty.sz_30 (by repeat (first | exact Pick.here | apply Pick.there)) (flat_at hcl1 hbc1 (by omega)) hbl1) ?_
      refine yp 4 rfl zmv ?_
      refine yp 5 rfl zfa ?_
      refine yp 6 rfl (zib) ?_
      refine yp 7 rfl (r_ldN (seg := bc2) rfl Ty.row_30 Ty.sz_30 (by repeat (first | exact Pick.here | apply Pick.there)) (flat_at hcl2 hbc2 (by omega)) hbl2) ?_
      refine yo 8 rfl ?_
      refine zc (fun _ => ?_) (c := fun w1 F1 F2 h1 h2 hd hst => sameBlock_ok h1 (hB1.mv hst.still) (hB2.mv hst.still))
      rw [decide_eq_true rfl]
      refine yx ?_
      refine yp 9 rfl znt ?_
      refine yd ?_
      refine gx_then ?_
      refine gc_condF rfl rfl ?_
      refine gc_skip ?_
      refine gx_block_normal ?_
      refine gx_then ?_
      refine gc_region ?_
      refine gp zad ?_
      refine gp zmv ?_
      refine gl_nil ?_
      refine zrd (k + 1) ?_ ?_
      · show 3 - (k + 1) < 3 - k
        omega
      · exact fun w' hw => zlp (show k + 1 ≤ 3 by omega) (by repeat (first | exact Sel.nil | (apply Sel.cons; · (repeat (first | exact Pick.here | apply Pick.there))))) w' hw
    · refine gc_exit ?_
      refine gx_then_exit ?_
      refine gx_round_exit ?_
      refine gx_block_hit ?_
      refine gx_then ?_
      refine gsr ?_
      refine gp zfa ?_
      refine gp zL ?_
      refine gp zfa ?_
      refine gp zL ?_
      refine zc (fun _ => ?_) (c := fun w1 F1 F2 h1 h2 hd hst => sameQC_ok h1 (hq1.mv hst.still) (hq2.mv hst.still))
      rw [decide_eq_true rfl]
      refine gp zas ?_
      refine gnt ?_
      refine gc_ret ?_
      refine gx_ret1 rfl (by conv => lhs; whnf) ?_
      exact ze ()

attribute [local irreducible] voteC tmoC propC blkC chgC sgnC tcC qcC dc msgC

set_option maxRecDepth 20000

set_option maxHeartbeats 400000 in
theorem sameMsg_ok {w : World} {F : Nat → Prop} {cs1 cs2 : List Value} {x : Msg} (h : stars [] w F) (hx : RdMsg w (fun k => ¬ F k) cs1 x) (hy : RdMsg w (fun k => ¬ F k) cs2 x) :
    Calls Tryz.prog 19 #[.agg cs1.toArray, .agg cs2.toArray] w (Post w F (fun _ : Unit => .bool true) (fun _ => [])) := by
  obtain ⟨cv1, ct1, cp1, br1, cc1, rfl, hv1, ht1, hp1, hbr1, hcc1⟩ := hx
  obtain ⟨sv1, rfl, gv1, rfl, hgv1⟩ := hv1
  obtain ⟨qt1, tt1, st1, rfl, hqt1, htt1, gt1, rfl, hgt1⟩ := ht1
  obtain ⟨bp1, tp1, sp1, rfl, hbp1, htp1, gp1, rfl, hgp1⟩ := hp1
  have ilgv1 := Len.of hgv1.len
  have jlgv1 := One.of hgv1.one
  have ilqt1 := Len.of hqt1.len
  have jlqt1 := One.of hqt1.one
  have iltt1 := Len.of htt1.len
  have jltt1 := One.of htt1.one
  have ilgt1 := Len.of hgt1.len
  have jlgt1 := One.of hgt1.one
  have ilbp1 := Len.of hbp1.len
  have jlbp1 := One.of hbp1.one
  have iltp1 := Len.of htp1.len
  have jltp1 := One.of htp1.one
  have ilgp1 := Len.of hgp1.len
  have jlgp1 := One.of hgp1.one
  have ilbr1 := Len.of hbr1.len
  have jlbr1 := One.of hbr1.one
  have ilcc1 := Len.of hcc1.len
  have jlcc1 := One.of hcc1.one'
  obtain ⟨cv2, ct2, cp2, br2, cc2, rfl, hv2, ht2, hp2, hbr2, hcc2⟩ := hy
  obtain ⟨sv2, rfl, gv2, rfl, hgv2⟩ := hv2
  obtain ⟨qt2, tt2, st2, rfl, hqt2, htt2, gt2, rfl, hgt2⟩ := ht2
  obtain ⟨bp2, tp2, sp2, rfl, hbp2, htp2, gp2, rfl, hgp2⟩ := hp2
  have ilgv2 := Len.of hgv2.len
  have jlgv2 := One.of hgv2.one
  have ilqt2 := Len.of hqt2.len
  have jlqt2 := One.of hqt2.one
  have iltt2 := Len.of htt2.len
  have jltt2 := One.of htt2.one
  have ilgt2 := Len.of hgt2.len
  have jlgt2 := One.of hgt2.one
  have ilbp2 := Len.of hbp2.len
  have jlbp2 := One.of hbp2.one
  have iltp2 := Len.of htp2.len
  have jltp2 := One.of htp2.one
  have ilgp2 := Len.of hgp2.len
  have jlgp2 := One.of hgp2.one
  have ilbr2 := Len.of hbr2.len
  have jlbr2 := One.of hbr2.one
  have ilcc2 := Len.of hcc2.len
  have jlcc2 := One.of hcc2.one'
  refine g_enter (env := [(0, .agg (List.toArray (.int .i64 x.kind :: ((.int .i64 x.vote.epoch :: .int .i64 x.vote.round :: (dc x.vote.block ++ (.int .i64 x.vote.sender.who :: gv1))) ++ ((.int .i64 x.tmo.epoch :: .int .i64 x.tmo.round :: (qt1 ++ (tt1 ++ (.int .i64 x.tmo.sender.who :: gt1)))) ++ ((bp1 ++ (tp1 ++ (.int .i64 x.prop.sender.who :: gp1))) ++ (dc x.wantFrom ++ (dc x.wantBlock ++ (br1 ++ cc1))))))))), (1, .agg (List.toArray (.int .i64 x.kind :: ((.int .i64 x.vote.epoch :: .int .i64 x.vote.round :: (dc x.vote.block ++ (.int .i64 x.vote.sender.who :: gv2))) ++ ((.int .i64 x.tmo.epoch :: .int .i64 x.tmo.round :: (qt2 ++ (tt2 ++ (.int .i64 x.tmo.sender.who :: gt2)))) ++ ((bp2 ++ (tp2 ++ (.int .i64 x.prop.sender.who :: gp2))) ++ (dc x.wantFrom ++ (dc x.wantBlock ++ (br2 ++ cc2)))))))))]) Tryz.func19 rfl h Tryz.ntmps19 rfl rfl ?_
  refine gsr ?_
  refine zbN fun b2 => ?_
  refine zbN fun b3 => ?_
  refine gp zas ?_
  refine gnt ?_
  refine gc_seq ?_
  refine gc_regionZ 7 ([blk b2 66 (.int .i64 x.kind :: ((.int .i64 x.vote.epoch :: .int .i64 x.vote.round :: (dc x.vote.block ++ (.int .i64 x.vote.sender.who :: gv1))) ++ ((.int .i64 x.tmo.epoch :: .int .i64 x.tmo.round :: (qt1 ++ (tt1 ++ (.int .i64 x.tmo.sender.who :: gt1)))) ++ ((bp1 ++ (tp1 ++ (.int .i64 x.prop.sender.who :: gp1))) ++ (dc x.wantFrom ++ (dc x.wantBlock ++ (br1 ++ cc1))))))), blk b3 66 (.int .i64 x.kind :: ((.int .i64 x.vote.epoch :: .int .i64 x.vote.round :: (dc x.vote.block ++ (.int .i64 x.vote.sender.who :: gv2))) ++ ((.int .i64 x.tmo.epoch :: .int .i64 x.tmo.round :: (qt2 ++ (tt2 ++ (.int .i64 x.tmo.sender.who :: gt2)))) ++ ((bp2 ++ (tp2 ++ (.int .i64 x.prop.sender.who :: gp2))) ++ (dc x.wantFrom ++ (dc x.wantBlock ++ (br2 ++ cc2)))))))]) ?_
  refine yps 0 rfl zfa ?_
  refine yps 1 rfl zL ?_
  refine yps 2 rfl zfa ?_
  refine yps 3 rfl zL ?_
  refine yas2 4 5 rfl rfl (fun b5 b6 => ?_)
  refine yos 6 rfl ?_
  refine zsN ?_
  refine yxs ?_
  refine yzs rfl ?_
  refine zsN ?_
  refine gnt ?_
  refine gc_seq ?_
  refine gc_regionZ 7 ([blk b2 66 (.int .i64 x.kind :: ((.int .i64 x.vote.epoch :: .int .i64 x.vote.round :: (dc x.vote.block ++ (.int .i64 x.vote.sender.who :: gv1))) ++ ((.int .i64 x.tmo.epoch :: .int .i64 x.tmo.round :: (qt1 ++ (tt1 ++ (.int .i64 x.tmo.sender.who :: gt1)))) ++ ((bp1 ++ (tp1 ++ (.int .i64 x.prop.sender.who :: gp1))) ++ (dc x.wantFrom ++ (dc x.wantBlock ++ (br1 ++ cc1))))))), blk b3 66 (.int .i64 x.kind :: ((.int .i64 x.vote.epoch :: .int .i64 x.vote.round :: (dc x.vote.block ++ (.int .i64 x.vote.sender.who :: gv2))) ++ ((.int .i64 x.tmo.epoch :: .int .i64 x.tmo.round :: (qt2 ++ (tt2 ++ (.int .i64 x.tmo.sender.who :: gt2)))) ++ ((bp2 ++ (tp2 ++ (.int .i64 x.prop.sender.who :: gp2))) ++ (dc x.wantFrom ++ (dc x.wantBlock ++ (br2 ++ cc2)))))))]) ?_
  refine yps 0 rfl zfa ?_
  refine yps 1 rfl zL ?_
  refine yps 2 rfl zfa ?_
  refine yps 3 rfl zL ?_
  refine yas2 4 5 rfl rfl (fun b7 b8 => ?_)
  refine yos 6 rfl ?_
  refine zsN ?_
  refine yxs ?_
  refine yzs rfl ?_
  refine zsN ?_
  refine gnt ?_
  refine gc_seq ?_
  refine gc_regionZ 7 ([blk b2 66 (.int .i64 x.kind :: ((.int .i64 x.vote.epoch :: .int .i64 x.vote.round :: (dc x.vote.block ++ (.int .i64 x.vote.sender.who :: gv1))) ++ ((.int .i64 x.tmo.epoch :: .int .i64 x.tmo.round :: (qt1 ++ (tt1 ++ (.int .i64 x.tmo.sender.who :: gt1)))) ++ ((bp1 ++ (tp1 ++ (.int .i64 x.prop.sender.who :: gp1))) ++ (dc x.wantFrom ++ (dc x.wantBlock ++ (br1 ++ cc1))))))), blk b3 66 (.int .i64 x.kind :: ((.int .i64 x.vote.epoch :: .int .i64 x.vote.round :: (dc x.vote.block ++ (.int .i64 x.vote.sender.who :: gv2))) ++ ((.int .i64 x.tmo.epoch :: .int .i64 x.tmo.round :: (qt2 ++ (tt2 ++ (.int .i64 x.tmo.sender.who :: gt2)))) ++ ((bp2 ++ (tp2 ++ (.int .i64 x.prop.sender.who :: gp2))) ++ (dc x.wantFrom ++ (dc x.wantBlock ++ (br2 ++ cc2)))))))]) ?_
  refine yps 0 rfl zfa ?_
  refine yps 1 rfl zL ?_
  refine yps 2 rfl zfa ?_
  refine yps 3 rfl zL ?_
  refine yas2 4 5 rfl rfl (fun b9 b10 => ?_)
  refine yos 6 rfl ?_
  refine zsN ?_
  refine yxs ?_
  refine yzs rfl ?_
  refine zsN ?_
  refine gnt ?_
  refine gsr ?_
  refine gp zfa ?_
  refine gp zl ?_
  refine gp zfa ?_
  refine gp zl ?_
  refine gp (r_bool (c := true) zei (decide_eq_true rfl)) ?_
  refine gp zmv ?_
  refine gq zfa ?_
  refine gq zl ?_
  refine gq zfa ?_
  refine gq zl ?_
  refine gq (r_bool (c := true) zei (decide_eq_true rfl)) ?_
  refine gp zpk ?_
  refine gp zmv ?_
  refine gq zfa ?_
  refine gq zl ?_
  refine gq zfa ?_
  refine gq zl ?_
  refine gq (r_bool (c := true) zei (decide_eq_true rfl)) ?_
  refine gp zpk ?_
  refine gp zmv ?_
  refine gq zfa ?_
  refine gq zL ?_
  refine gq zfa ?_
  refine gq zL ?_
  refine gq (r_bool (c := true) (r_eql_dig rfl rfl Ty.arr_23 Ty.un_5 Ty.sz_5 (by kernel_rfl)) (decide_eq_true rfl)) ?_
  refine gp zpk ?_
  refine gp zmv ?_
  refine gq zfa ?_
  refine gq zL ?_
  refine zeN fun b52 => ?_
  refine gq zfa ?_
  refine gq zL ?_
  refine zeN fun b55 => ?_
  refine zc (fun _ => ?_) (c := fun w1 F1 F2 h1 h2 hd hst => sameSigneds_ok h1 (rdList_one (rd_row h2 hd (by repeat (first | exact Pick.here | apply Pick.there))) (by simp only [List.length_cons, len_L]) ⟨_, rfl, hgv1.mv hst.still⟩) (rdList_one (rd_row h2 hd (by repeat (first | exact Pick.here | apply Pick.there))) (by simp only [List.length_cons, len_L]) ⟨_, rfl, hgv2.mv hst.still⟩))
  rw [decide_eq_true rfl]
  refine gp zpk ?_
  refine gp zmv ?_
  refine gq zfa ?_
  refine gq zl ?_
  refine gq zfa ?_
  refine gq zl ?_
  refine gq (r_bool (c := true) zei (decide_eq_true rfl)) ?_
  refine gp zpk ?_
  refine gp zmv ?_
  refine gq zfa ?_
  refine gq zl ?_
  refine gq zfa ?_
  refine gq zl ?_
  refine gq (r_bool (c := true) zei (decide_eq_true rfl)) ?_
  refine gp zpk ?_
  refine gp zmv ?_
  refine gq zfa ?_
  refine gq zL ?_
  refine gq zfa ?_
  refine gq zL ?_
  refine zc (fun _ => ?_) (c := fun w1 F1 F2 h1 h2 hd hst => sameQC_ok h1 (hqt1.mv hst.still) (hqt2.mv hst.still))
  rw [decide_eq_true rfl]
  refine gp zpk ?_
  refine gp zmv ?_
  refine gq zfa ?_
  refine gq zL ?_
  refine gq zfa ?_
  refine gq zL ?_
  refine zc (fun _ => ?_) (c := fun w1 F1 F2 h1 h2 hd hst => sameTCx_ok h1 (htt1.mv hst.still) (htt2.mv hst.still))
  refine gp zpk ?_
  refine gp zmv ?_
  refine gq zfa ?_
  refine gq zL ?_
  refine zeN fun b89 => ?_
  refine gq zfa ?_
  refine gq zL ?_
  refine zeN fun b92 => ?_
  refine zc (fun _ => ?_) (c := fun w1 F1 F2 h1 h2 hd hst => sameSigneds_ok h1 (rdList_one (rd_row h2 hd (by repeat (first | exact Pick.here | apply Pick.there))) (by simp only [List.length_cons, len_L]) ⟨_, rfl, hgt1.mv hst.still⟩) (rdList_one (rd_row h2 hd (by repeat (first | exact Pick.here | apply Pick.there))) (by simp only [List.length_cons, len_L]) ⟨_, rfl, hgt2.mv hst.still⟩))
  rw [decide_eq_true rfl]
  refine gp zpk ?_
  refine gp zmv ?_
  refine gq zfa ?_
  refine gq zL ?_
  refine gq zfa ?_
  refine gq zL ?_
  refine zc (fun _ => ?_) (c := fun w1 F1 F2 h1 h2 hd hst => sameBlock_ok h1 (hbp1.mv hst.still) (hbp2.mv hst.still))
  rw [decide_eq_true rfl]
  refine gp zpk ?_
  refine gp zmv ?_
  refine gq zfa ?_
  refine gq zL ?_
  refine gq zfa ?_
  refine gq zL ?_
  refine zc (fun _ => ?_) (c := fun w1 F1 F2 h1 h2 hd hst => sameTCx_ok h1 (htp1.mv hst.still) (htp2.mv hst.still))
  refine gp zpk ?_
  refine gp zmv ?_
  refine gq zfa ?_
  refine gq zL ?_
  refine zeN fun b112 => ?_
  refine gq zfa ?_
  refine gq zL ?_
  refine zeN fun b115 => ?_
  refine zc (fun _ => ?_) (c := fun w1 F1 F2 h1 h2 hd hst => sameSigneds_ok h1 (rdList_one (rd_row h2 hd (by repeat (first | exact Pick.here | apply Pick.there))) (by simp only [List.length_cons, len_L]) ⟨_, rfl, hgp1.mv hst.still⟩) (rdList_one (rd_row h2 hd (by repeat (first | exact Pick.here | apply Pick.there))) (by simp only [List.length_cons, len_L]) ⟨_, rfl, hgp2.mv hst.still⟩))
  rw [decide_eq_true rfl]
  refine gp zpk ?_
  refine gp zmv ?_
  refine gq zfa ?_
  refine gq zfa ?_
  refine gq zL ?_
  refine gq zfa ?_
  refine gq zfa ?_
  refine gq zL ?_
  refine gq (r_bool (c := true) (r_eql_dig rfl rfl Ty.arr_23 Ty.un_5 Ty.sz_5 (by kernel_rfl)) (decide_eq_true rfl)) ?_
  refine gp zpk ?_
  refine gp zmv ?_
  refine gq zfa ?_
  refine gq zfa ?_
  refine gq zL ?_
  refine gq zfa ?_
  refine gq zfa ?_
  refine gq zL ?_
  refine gq (r_bool (c := true) (r_eql_dig rfl rfl Ty.arr_23 Ty.un_5 Ty.sz_5 (by kernel_rfl)) (decide_eq_true rfl)) ?_
  refine gp zpk ?_
  refine gp zmv ?_
  refine gq zfa ?_
  refine gq zfa ?_
  refine gq zL ?_
  refine gq zfa ?_
  refine gq zfa ?_
  refine gq zL ?_
  refine zc (fun _ => ?_) (c := fun w1 F1 F2 h1 h2 hd hst => sameBlock_ok h1 (hbr1.mv hst.still) (hbr2.mv hst.still))
  rw [decide_eq_true rfl]
  refine gp zpk ?_
  refine gp zmv ?_
  refine gq zfa ?_
  refine gq zL ?_
  refine gq zfa ?_
  refine gq zL ?_
  refine zc (fun _ => ?_) (c := fun w1 F1 F2 h1 h2 hd hst => sameChangex_ok h1 (hcc1.mv hst.still) (hcc2.mv hst.still))
  refine gp zpk ?_
  refine gp zas ?_
  refine gnt ?_
  refine gc_ret ?_
  refine gx_ret1 rfl (by conv => lhs; whnf) ?_
  exact ze ()

end Go.Proofs.YtkgbbnhdioghmaaGreatDoor

/- Walks, by program (wg.py) out of a spec. -/
namespace Go.Proofs.YtkgbbnhdioghmaaGreatDoor
open Go
set_option linter.unusedVariables false
set_option linter.unusedSimpArgs false


theorem plainM_kind (m : Msg) : (plainM m).kind = m.kind := by
  unfold plainM
  split <;> first | rfl | skip
  split <;> first | rfl | skip
  split <;> first | rfl | skip
  split <;> first | rfl | skip
  split <;> first | rfl | skip
  split <;> rfl
theorem kinds_law {x : Msg} (h3 : x.chg.blocks.length = 3) (he : (wEnc x).err = 0) :
    allE pMsg (msg0 0) (wOut (wEnc x)) = (0, plainM x) ∧ plainM (plainM x) = plainM x ∧ ∃ c t, wOut (wEnc x) = c :: t ∧ x.kind = (c.toNat : Int) := by
  have hk : ¬ (x.kind < 1 ∨ 6 < x.kind) := fun h => by rw [wEnc, if_pos h] at he; simp at he
  have e : wEnc x = wMsg x ⟨0, []⟩ := by rw [wEnc, if_neg hk]
  have ho : wOut (wEnc x) = (wMsg x ⟨0, []⟩).bs := by rw [wOut, if_pos he, e]
  rw [e] at he
  have hall := pAll_enc (enc_msg x h3 (by omega) (by omega)) he
  have hm := pAll_ok hall
  obtain ⟨_, _, hp, _, ⟨c, t, hb, hc⟩, _⟩ := dec_msg _ _ _ hm
  rw [plainM_kind] at hc
  exact ⟨by unfold allE; rw [ho, hall], hp, c, t, by rw [ho, hb], hc⟩
theorem wOut_max {x : Msg} (h3 : x.chg.blocks.length = 3) : (wOut (wEnc x)).length ≤ 1099511627776 := by
  have e0 := wMsg_len x h3 ⟨0, []⟩
  simp only [List.length_nil] at e0
  by_cases he : (wEnc x).err = 0
  · rw [wOut, if_pos he]
    by_cases hk : x.kind < 1 ∨ 6 < x.kind
    · rw [wEnc, if_pos hk]; simp
    · rw [wEnc, if_neg hk]; omega
  · rw [wOut, if_neg he]; simp
structure MP.ok (x : Msg) (p : MP) : Prop where
  gv : p.gv.length = 3 ∧ ∀ v ∈ p.gv, v.oneCell' = true
  qt : p.qt.length = 19 ∧ ∀ v ∈ p.qt, v.oneCell' = true
  tt : p.tt.length = 3 ∧ ∀ v ∈ p.tt, v.oneCell' = true
  gt : p.gt.length = 3 ∧ ∀ v ∈ p.gt, v.oneCell' = true
  bp : p.bp.length = 39 ∧ ∀ v ∈ p.bp, v.oneCell' = true
  tp : p.tp.length = 3 ∧ ∀ v ∈ p.tp, v.oneCell' = true
  gp : p.gp.length = 3 ∧ ∀ v ∈ p.gp, v.oneCell' = true
  br : p.br.length = 39 ∧ ∀ v ∈ p.br, v.oneCell' = true
  cc : p.cc.length = 136 ∧ ∀ v ∈ p.cc, v.oneCell' = true
  pl : (p.pc x).length = 304
theorem MP.rd.ok {w : World} {F : Nat → Prop} {x : Msg} {p : MP} (h : p.rd w F x) : p.ok x :=
  ⟨⟨h.gv.len, h.gv.one⟩, ⟨h.qt.len, h.qt.one⟩, ⟨h.tt.len, h.tt.one⟩, ⟨h.gt.len, h.gt.one⟩, ⟨h.bp.len, h.bp.one⟩, ⟨h.tp.len, h.tp.one⟩, ⟨h.gp.len, h.gp.one⟩, ⟨h.br.len, h.br.one⟩, ⟨h.cc.len, h.cc.one'⟩, (MP.plain h).len⟩
theorem MP.ok.one {x : Msg} {p : MP} (h : p.ok x) : ∀ v ∈ p.cs x, v.oneCell' = true := by
  obtain ⟨gv, qt, tt, gt, bp, tp, gp, br, cc⟩ := p
  have i1 := One.of h.gv.2; have i2 := One.of h.qt.2; have i3 := One.of h.tt.2; have i4 := One.of h.gt.2; have i5 := One.of h.bp.2; have i6 := One.of h.tp.2; have i7 := One.of h.gp.2; have i8 := One.of h.br.2; have i9 := One.of h.cc.2
  simp only [] at i1 i2 i3 i4 i5 i6 i7 i8 i9
  simp only [MP.cs, List.cons_append, List.append_assoc]
  repeat (first | exact One.h | refine all_app' (dc_one _) ?_ | refine all_app' One.h ?_ | refine all_cons' rfl ?_)
theorem MP.ok.onep {x : Msg} {p : MP} (h : p.ok x) : ∀ v ∈ p.pc x, v.oneCell' = true := by
  obtain ⟨gv, qt, tt, gt, bp, tp, gp, br, cc⟩ := p
  have i1 := One.of h.gv.2; have i2 := One.of h.qt.2; have i3 := One.of h.tt.2; have i4 := One.of h.gt.2; have i5 := One.of h.bp.2; have i6 := One.of h.tp.2; have i7 := One.of h.gp.2; have i8 := One.of h.br.2; have i9 := One.of h.cc.2
  simp only [] at i1 i2 i3 i4 i5 i6 i7 i8 i9
  have i0 : One (msgC x.kind dig0 dig0) := inferInstance
  simp only [MP.pc]
  split
  · simp only [List.cons_append, List.append_assoc]; repeat (first | exact One.h | refine all_app' (dc_one _) ?_ | refine all_app' One.h ?_ | refine all_cons' rfl ?_)
  split
  · simp only [List.cons_append, List.append_assoc]; repeat (first | exact One.h | refine all_app' (dc_one _) ?_ | refine all_app' One.h ?_ | refine all_cons' rfl ?_)
  split
  · simp only [List.cons_append, List.append_assoc]; repeat (first | exact One.h | refine all_app' (dc_one _) ?_ | refine all_app' One.h ?_ | refine all_cons' rfl ?_)
  split
  · repeat (first | exact One.h | refine all_app' (dc_one _) ?_ | refine all_app' One.h ?_ | refine all_cons' rfl ?_)
  split
  · repeat (first | exact One.h | refine all_app' (dc_one _) ?_ | refine all_app' One.h ?_ | refine all_cons' rfl ?_)
  split
  · repeat (first | exact One.h | refine all_app' (dc_one _) ?_ | refine all_app' One.h ?_ | refine all_cons' rfl ?_)
  exact i0.h
theorem plain_ok' {w : World} {F : Nat → Prop} {x : Msg} {p : MP} {cs : List Value} (h : stars [] w F) (hcs : cs = p.cs x) (hp : p.ok x) :
    Calls Tryz.prog 20 #[.agg cs.toArray] w (Post w F (fun _ : Unit => .agg (List.toArray (p.pc x))) (fun _ => [])) := by
  obtain ⟨gv, qt, tt, gt, bp, tp, gp, br, cc⟩ := p
  have i1 := One.of hp.gv.2; have i2 := One.of hp.qt.2; have i3 := One.of hp.tt.2; have i4 := One.of hp.gt.2; have i5 := One.of hp.bp.2; have i6 := One.of hp.tp.2; have i7 := One.of hp.gp.2; have i8 := One.of hp.br.2; have i9 := One.of hp.cc.2
  have l1 := Len.of hp.gv.1; have l2 := Len.of hp.qt.1; have l3 := Len.of hp.tt.1; have l4 := Len.of hp.gt.1; have l5 := Len.of hp.bp.1; have l6 := Len.of hp.tp.1; have l7 := Len.of hp.gp.1; have l8 := Len.of hp.br.1; have l9 := Len.of hp.cc.1
  simp only [] at i1 i2 i3 i4 i5 i6 i7 i8 i9 l1 l2 l3 l4 l5 l6 l7 l8 l9
  subst hcs
  exact plain_ok h
section
variable {P : Program} {w0 : World} {F0 : Nat → Prop} {L : List Res} {Q : Exit → Act → World → Prop} {n : Nat} {env : Env} {ops : Array Oper} {rest : List Oper}
theorem gl_open {ι : Type} {r : Res} {ρ : ι → Res} {φ : ι → Prop} {L' : List Res} (hp : Pick L r L') (h : ∀ w F, r.on w F → ∃ i, φ i ∧ (ρ i).on w F) (k : ∀ i, φ i → Gl P w0 F0 (ρ i :: L') ops Q rest n env) : Gl P w0 F0 L ops Q rest n env := fun w hw => by
  obtain ⟨F, hF, hst⟩ := hw
  obtain ⟨F1, F2, h1, h2, hd⟩ := hp.stars hF
  obtain ⟨i, hi, hr⟩ := h _ _ h1
  exact k i hi w ⟨F, ⟨F1, F2, hr, h2, hd⟩, hst⟩
end
theorem msg_open {q : List Value} {m : Msg} (w : World) (F : Nat → Prop) (h : (VlR RdMsg q m).on w F) : ∃ i : List Value × MP, (q = .int .i64 m.kind :: i.1 ∧ q = i.2.cs m ∧ i.2.ok m) ∧ (PartsR m i.2).on w F := by
  obtain ⟨h1, hl⟩ := h
  obtain ⟨rest, hr⟩ := h1.head
  obtain ⟨p, hp, hd⟩ := MP.of h1
  exact ⟨(rest, p), ⟨hr, hp, hd.ok⟩, hd, hl⟩
theorem parts_rd {L L' : List Res} {w : World} {F1 F2 : Nat → Prop} {x : Msg} {p : MP} (h2 : stars L w F2) (hd : ∀ k, F1 k → ¬ F2 k) (hp : Pick L (PartsR x p) L') : p.rd w (fun k => ¬ F1 k) x := by
  obtain ⟨G1, G2, ⟨h, _⟩, _, hF, _⟩ := hp.stars h2
  exact h.mv fun k _ hk => ⟨rfl, fun h1 => hd k h1 ((hF k).2 (.inl hk))⟩
theorem RdMsg.cast {w : World} {A : Nat → Prop} {cs cs' : List Value} {x y : Msg} (h : RdMsg w A cs x) (e : cs = cs') (e2 : x = y) : RdMsg w A cs' y := by subst e; subst e2; exact h

attribute [local irreducible] Gl Gc Gx Gs Runs Wt

attribute [local irreducible] voteC tmoC propC blkC chgC sgnC tcC qcC dc msgC

attribute [local irreducible] MP.pc MP.cs plainM


end Go.Proofs.YtkgbbnhdioghmaaGreatDoor

/- Walks, by program (wg.py) out of a spec. -/
namespace Go.Proofs.YtkgbbnhdioghmaaGreatDoor
open Go
set_option linter.unusedVariables false
set_option linter.unusedSimpArgs false


theorem vl_rd {α : Type} {rd : World → (Nat → Prop) → List Value → α → Prop} [RdK rd] {L L' : List Res} {w : World} {F1 F2 : Nat → Prop} {cs : List Value} {x : α} (h2 : stars L w F2) (hd : ∀ k, F1 k → ¬ F2 k) (hp : Pick L (VlR rd cs x) L') : rd w (fun k => ¬ F1 k) cs x := by
  obtain ⟨G1, G2, ⟨h, _⟩, _, hF, _⟩ := hp.stars h2
  exact RdK.mv h fun k _ hk => ⟨rfl, fun h1 => hd k h1 ((hF k).2 (.inl hk))⟩
def EOk (f : WS → WS) : Prop := ∀ s, s.err ≤ 1 → (f s).err ≤ 1
theorem eok_fail : EOk (wFail 1) := fun s h => by unfold wFail; split <;> first | exact Nat.le_refl 1 | exact h
theorem eok_fix (b : List UInt8) : EOk (wFix b) := fun s h => by unfold wFix; split <;> exact h
theorem eok_num (n : Int) (wd : Nat) : EOk (wNum n wd) := fun s h => by
  unfold wNum; split
  · exact eok_fail s h
  · exact eok_fix _ s h
theorem eok_dig (d : Dig) : EOk (wDig d) := eok_fix _
theorem eok_fold {α : Type} {wX : α → WS → WS} (h : ∀ x, EOk (wX x)) : ∀ (l : List α), EOk (fun s => l.foldl (fun s x => wX x s) s)
  | [], s, hs => hs
  | x :: l, s, hs => eok_fold h l _ (h x s hs)
theorem eok_put {α : Type} {wX : α → WS → WS} (h : ∀ x, EOk (wX x)) (l : List α) (most : Nat) : EOk (wPut wX l most) := fun s hs => by
  unfold wPut; split
  · exact eok_fail s hs
  · exact eok_fold h l _ (eok_num _ _ s hs)
theorem eok_bytes (b : List UInt8) (most : Nat) : EOk (wBytes b most) := fun s hs => by
  unfold wBytes; split
  · exact eok_fail s hs
  · exact eok_fix _ _ (eok_num _ _ s hs)
theorem eok_sig (x : Sig) : EOk (wSig x) := fun s hs => eok_put eok_dig _ _ _ (eok_put eok_dig _ _ _ (eok_num _ _ s hs))
theorem eok_signed (x : Signed) : EOk (wSigned x) := fun s hs => eok_sig _ _ (eok_num _ _ s hs)
theorem eok_at (e r : Int) : EOk (wAt e r) := fun s hs => eok_num _ _ _ (eok_num _ _ s hs)
theorem eok_qc (x : QC) : EOk (wQC x) := fun s hs => eok_put eok_signed _ _ _ (eok_dig _ _ (eok_at _ _ s hs))
theorem eok_late (x : Late) : EOk (wLate x) := fun s hs => eok_sig _ _ (eok_num _ _ _ (eok_num _ _ s hs))
theorem eok_tc (x : TC) : EOk (wTC x) := fun s hs => eok_put eok_late _ _ _ (eok_at _ _ s hs)
theorem eok_vdr (x : Vdr) : EOk (wVdr x) := fun s hs => eok_num _ _ _ (eok_dig _ s hs)
theorem eok_block (x : Block) : EOk (wBlock x) := fun s hs => eok_put eok_vdr _ _ _ (eok_put (fun t => eok_bytes t 16) _ _ _ (eok_qc _ _ (eok_dig _ _ (eok_at _ _ s hs))))
theorem eok_chg (x : Chg) : EOk (wChg x) := fun s hs => eok_qc _ _ (eok_fold eok_block _ s hs)
theorem eok_body (m : Msg) : EOk (wBody m) := fun s hs => by
  unfold wBody
  split; exact eok_signed _ _ (eok_dig _ _ (eok_at _ _ s hs))
  split; exact eok_signed _ _ (eok_tc _ _ (eok_qc _ _ (eok_at _ _ s hs)))
  split; exact eok_signed _ _ (eok_tc _ _ (eok_block _ s hs))
  split; exact eok_dig _ _ (eok_dig _ s hs)
  split; exact eok_block _ s hs
  exact eok_chg _ s hs
theorem eok_enc (m : Msg) : (wEnc m).err ≤ 4 := by
  unfold wEnc; split
  · simp
  · exact Nat.le_trans (eok_body m _ (eok_num _ _ ⟨0, []⟩ (by simp))) (by decide)
theorem allE_ok {α : Type} {p : PR α} {z y : α} {b : List UInt8} (h : pAll p b = .ok y) : allE p z b = (0, y) := by unfold allE; rw [h]
theorem chg_law {x : Chg} (h3 : x.blocks.length = 3) (he : (wChg x ⟨0, []⟩).err = 0) : allE pChg chg0 (wOut (wChg x ⟨0, []⟩)) = (0, x) := by
  rw [wOut, if_pos he]; exact allE_ok (pAll_enc (enc_chg x h3) he)
theorem block_law {x : Block} (he : (wBlock x ⟨0, []⟩).err = 0) : allE pBlock blk0 (wOut (wBlock x ⟨0, []⟩)) = (0, x) := by
  rw [wOut, if_pos he]; exact allE_ok (pAll_enc (f := wBlock x) (enc_block x) he)
theorem RdChg.three {w : World} {A : Nat → Prop} {cs : List Value} {x : Chg} (h : RdChg w A cs x) : x.blocks.length = 3 := by
  obtain ⟨css, q, h1, h2, h3, h4, h5, h6⟩ := h; exact h4
theorem chg_max {x : Chg} (h3 : x.blocks.length = 3) : (wOut (wChg x ⟨0, []⟩)).length ≤ 33686 := by
  have e0 := wChg_len x h3 ⟨0, []⟩
  simp only [List.length_nil] at e0
  unfold wOut; split
  · omega
  · simp
theorem block_max (x : Block) : (wOut (wBlock x ⟨0, []⟩)).length ≤ 8485 := by
  have e0 := wBlock_len x ⟨0, []⟩
  simp only [List.length_nil] at e0
  unfold wOut; split
  · omega
  · simp
instance : One chgC := One.of (rdChg0 (w := default) (A := fun _ => True)).one

attribute [local irreducible] Gl Gc Gx Gs Runs Wt

attribute [local irreducible] voteC tmoC propC blkC chgC sgnC tcC qcC dc msgC

set_option maxHeartbeats 400000 in
theorem change1_ok {w : World} {F : Nat → Prop} {g TE : Nat} {ea : Nat → Addr} {s : WS} {b : Nat} {cs : List Value} {x : Chg} (h : stars [WrR TE ea g s, blk b 33 cs] w F) {es : List Nat} [Has es 1] (hE : GErr es w (fun k => ¬ F k) TE ea) (hx : RdChg w (fun k => ¬ F k) cs x) (hb : s.bs.length + 33686 ≤ 1099511627776) :
    Calls Tryz.prog 40 #[.agg (List.toArray [.pointer (some ⟨g, 0, none⟩)]), .pointer (some ⟨b, 0, none⟩)] w (Post w F (fun _ : Unit => .tuple #[]) (fun _ => [WrR TE ea g (wChg x s), blk b 33 cs])) := by
  have hl := RdChg.len hx
  have il := Len.of hl
  have jl := One.of (RdChg.one hx)
  refine g_enter (env := [(0, .agg (List.toArray [.pointer (some ⟨g, 0, none⟩)])), (1, .pointer (some ⟨b, 0, none⟩))]) Tryz.func40 rfl h Tryz.ntmps40 rfl rfl ?_
  refine gsr ?_
  refine zbN fun b2 => ?_
  refine gnt ?_
  refine gc_region ?_
  refine gp zL ?_
  refine gp (zLa (cs := cs)) ?_
  refine zc (fun _ => ?_) (c := fun w1 F1 F2 h1 h2 hd hst => change_ok h1 (hE.mv hst.still) (hx.mv hst.still) hb)
  refine gl_nil ?_
  refine gx_ret0' rfl ?_
  exact ze ()

set_option maxHeartbeats 400000 in
theorem cchange_ok {w : World} {F : Nat → Prop} {TE : Nat} {ea : Nat → Addr} {cs : List Value} {x : Chg} (h : stars [] w F) {es : List Nat} [Has es 1] (hE : GErr es w (fun k => ¬ F k) TE ea) (hx : RdChg w (fun k => ¬ F k) cs x) :
    Calls Tryz.prog 10 #[.agg cs.toArray] w (Post w F (fun r : Option Addr × Nat => .tuple #[.slice r.1 (wOut (wChg x ⟨0, []⟩)).length r.2, eV TE ea (wChg x ⟨0, []⟩).err]) (fun r => [rowR 5 1 r.1 (wOut (wChg x ⟨0, []⟩)).length r.2 ((wOut (wChg x ⟨0, []⟩)).map B8)])) := by
  refine g_enter (env := [(0, .agg cs.toArray)]) Tryz.func10 rfl h Tryz.ntmps10 rfl rfl ?_
  refine gsr ?_
  refine zbN fun b1 => ?_
  refine gp zas ?_
  refine gp zas ?_
  refine gnt ?_
  refine gsr ?_
  refine gp zmf ?_
  refine zc (fun r5 => ?_) (c := fun w1 F1 F2 h1 h2 hd hst => written_ok (fw := wChg x) h1 Ty.call_40 (fun g w2 F3 h2 hs2 => change1_ok h2 ((hE.mv hst.still).mv hs2) ((hx.mv hst.still).mv hs2) (by simp)) (by have e0 := wChg_len x hx.three ⟨0, []⟩; simp at e0 ⊢; omega))
  refine gp zex ?_
  refine gp zex ?_
  refine gp zas ?_
  refine gp zas ?_
  refine gnt ?_
  refine gc_ret ?_
  refine gx_ret2 rfl (by conv => lhs; whnf) (by conv => lhs; whnf) ?_
  exact ze r5

set_option maxHeartbeats 400000 in
theorem readChg_ok {w : World} {F : Nat → Prop} {TE : Nat} {ea : Nat → Addr} {es : List Nat} [Has es 1] [Has es 2] [Has es 3] [Has es 4] {a : Option Addr} {n c : Nat} {b : List UInt8} (h : stars [] w F) (hE : GErr es w (fun k => ¬ F k) TE ea) (hx : RdRow w (fun k => ¬ F k) 1 a n (b.map B8)) (hb : n ≤ 1099511627776) :
    Calls Tryz.prog 45 #[.slice a n c, .func (.func 46) #[] #[]] w (Post w F (fun r : List Value => .tuple #[.agg r.toArray, eV TE ea (allE pChg (chg0) b).1]) (fun r => [pureR (r.length = 136 ∧ ∀ v ∈ r, v.oneCell' = true), VlR RdChg r (allE pChg (chg0) b).2])) := by
  refine g_enter (env := [(0, .slice a n c), (1, .func (.func 46) #[] #[])]) Tryz.func45 rfl h Tryz.ntmps45 rfl rfl ?_
  refine gsr ?_
  refine zal fun b4 => ?_
  refine gl_eqc (cs' := chgC) (by repeat (first | exact Pick.here | apply Pick.there)) (by kernel_rfl) ?_
  refine gp zas ?_
  refine gnt ?_
  refine gsr ?_
  refine gp zmv ?_
  refine zc (fun g => ?_) (c := fun w1 F1 F2 h1 h2 hd hst => newReader_ok (TE := TE) (ea := ea) h1 (hx.mv hst.still) hb)
  refine gp zbu ?_
  refine zal fun b6 => ?_
  refine zsN ?_
  refine gnt ?_
  refine gsr ?_
  refine gp zmv ?_
  refine gp zL ?_
  refine gl_call (wt0 rfl) (e_callv (us := []) rfl Ty.call_46 rfl) (by repeat (first | exact Sel.nil | (apply Sel.cons; · (repeat (first | exact Pick.here | apply Pick.there))))) (fun w1 F1 F2 h1 h2 hd hst => rchange_ok h1 (hE.mv hst.still)) ?_
  rintro ⟨q15, v15⟩
  refine gl_pureR (fun hp15 => ?_)
  obtain ⟨_, g15, z15, o15⟩ := hp15
  replace z15 : q15.length = _ := z15
  have i15 := Len.of z15
  have j15 := One.of (show ∀ v ∈ q15, v.oneCell' = true from o15)
  have hfin := allE_fin (z := chg0) noz_chg g15
  refine zal fun b7 => ?_
  refine gl_eqc (cs' := chgC) (by repeat (first | exact Pick.here | apply Pick.there)) (by kernel_rfl) ?_
  refine zsN ?_
  refine gnt ?_
  refine gc_seq ?_
  refine gsr ?_
  refine gp zfa ?_
  refine gp zl ?_
  refine zc (fun _ => ?_) (c := fun w1 F1 F2 h1 h2 hd hst => rdone_ok h1 (hE.mv hst.still))
  refine gp zas ?_
  refine gnt ?_
  refine gsr ?_
  refine gp zmv ?_
  refine gp (r_bool (c := decide (¬ doneE (rstep pChg (.ok b)) = 0)) (r_nenil rfl (by kernel_rfl)) (by simp)) ?_
  refine gnt ?_
  refine gif rfl (fun hc20 => ?_) (fun hc20 => ?_)
  · refine gsr ?_
    refine zal fun b9 => ?_
    refine gl_eqc (cs' := chgC) (by repeat (first | exact Pick.here | apply Pick.there)) (by kernel_rfl) ?_
    refine gnt ?_
    refine gsr ?_
    refine gp zL ?_
    refine gp zmv ?_
    refine zsN ?_
    refine gp zas ?_
    refine gnt ?_
    refine gc_ret ?_
    refine gx_then_ret ?_
    refine gx_retct rfl rfl (by conv => lhs; whnf) (ld_aggS Ty.row_33 Ty.sz_33 (by repeat (first | exact Pick.here | apply Pick.there)) (by (simp only [List.drop_succ_cons, List.drop_zero, List.take_succ_cons, List.take_zero, List.cons_append, List.nil_append, List.append_assoc, drop_dc, drop_dc', take_dc, take_dc', drop_L, drop_L', take_L, take_L', len_L, Nat.reduceLeDiff, Nat.reduceSub, Nat.reduceAdd, Nat.le_refl, List.length_cons, List.length_append, List.length_nil, dc_length, List.drop_nil, List.take_nil, List.append_nil, List.length_map, List.length_replicate]; first | done | rfl)) (by first | rfl | (simp only [List.drop_succ_cons, List.drop_zero, List.take_succ_cons, List.take_zero, List.cons_append, List.nil_append, List.append_assoc, drop_dc, drop_dc', take_dc, take_dc', drop_L, drop_L', take_L, take_L', len_L, Nat.reduceLeDiff, Nat.reduceSub, Nat.reduceAdd, Nat.le_refl, List.length_cons, List.length_append, List.length_nil, dc_length, List.drop_nil, List.take_nil, List.append_nil, List.length_map, List.length_replicate]; first | done | omega))) ?_
    rw [← hfin.1, hfin.2.2 hc20]
    intro w' hw
    exact ⟨chgC, rfl, St.pureI ⟨Len.h, One.h⟩ ((hw.mapL fun F' hF' => vl_pure (rd := RdChg) (show RdChg _ _ (chgC) (chg0) from rdChg0) hF').sel (by repeat (first | exact Sel.nil | (apply Sel.cons; · (repeat (first | exact Pick.here | apply Pick.there))))))⟩
  · refine gc_skip ?_
    refine gx_then ?_
    refine gsr ?_
    refine gp zL ?_
    refine zsN ?_
    refine gp zas ?_
    refine gnt ?_
    refine gc_ret ?_
    refine gx_retct rfl rfl (by conv => lhs; whnf) (ld_aggS Ty.row_33 Ty.sz_33 (by repeat (first | exact Pick.here | apply Pick.there)) (by (simp only [List.drop_succ_cons, List.drop_zero, List.take_succ_cons, List.take_zero, List.cons_append, List.nil_append, List.append_assoc, drop_dc, drop_dc', take_dc, take_dc', drop_L, drop_L', take_L, take_L', len_L, Nat.reduceLeDiff, Nat.reduceSub, Nat.reduceAdd, Nat.le_refl, List.length_cons, List.length_append, List.length_nil, dc_length, List.drop_nil, List.take_nil, List.append_nil, List.length_map, List.length_replicate]; first | done | rfl)) (by first | rfl | (simp only [List.drop_succ_cons, List.drop_zero, List.take_succ_cons, List.take_zero, List.cons_append, List.nil_append, List.append_assoc, drop_dc, drop_dc', take_dc, take_dc', drop_L, drop_L', take_L, take_L', len_L, Nat.reduceLeDiff, Nat.reduceSub, Nat.reduceAdd, Nat.le_refl, List.length_cons, List.length_append, List.length_nil, dc_length, List.drop_nil, List.take_nil, List.append_nil, List.length_map, List.length_replicate]; first | done | omega))) ?_
    have hc0 : doneE (rstep pChg (.ok b)) = 0 := by omega
    rw [← hfin.1, hfin.2.1 hc0, hc0, eV_zero]
    intro w' hw
    exact ⟨q15, rfl, St.pureI ⟨z15, o15⟩ (hw.sel (by repeat (first | exact Sel.nil | (apply Sel.cons; · (repeat (first | exact Pick.here | apply Pick.there))))))⟩

set_option maxHeartbeats 400000 in
theorem readBlk_ok {w : World} {F : Nat → Prop} {TE : Nat} {ea : Nat → Addr} {es : List Nat} [Has es 1] [Has es 2] [Has es 3] [Has es 4] {a : Option Addr} {n c : Nat} {b : List UInt8} (h : stars [] w F) (hE : GErr es w (fun k => ¬ F k) TE ea) (hx : RdRow w (fun k => ¬ F k) 1 a n (b.map B8)) (hb : n ≤ 1099511627776) :
    Calls Tryz.prog 87 #[.slice a n c, .func (.func 88) #[] #[]] w (Post w F (fun r : List Value => .tuple #[.agg r.toArray, eV TE ea (allE pBlock (blk0) b).1]) (fun r => [pureR (r.length = 39 ∧ ∀ v ∈ r, v.oneCell' = true), VlR RdBlock r (allE pBlock (blk0) b).2])) := by
  refine g_enter (env := [(0, .slice a n c), (1, .func (.func 88) #[] #[])]) Tryz.func87 rfl h Tryz.ntmps87 rfl rfl ?_
  refine gsr ?_
  refine zal fun b4 => ?_
  refine gl_eqc (cs' := blkC) (by repeat (first | exact Pick.here | apply Pick.there)) (by kernel_rfl) ?_
  refine gp zas ?_
  refine gnt ?_
  refine gsr ?_
  refine gp zmv ?_
  refine zc (fun g => ?_) (c := fun w1 F1 F2 h1 h2 hd hst => newReader_ok (TE := TE) (ea := ea) h1 (hx.mv hst.still) hb)
  refine gp zbu ?_
  refine zal fun b6 => ?_
  refine zsN ?_
  refine gnt ?_
  refine gsr ?_
  refine gp zmv ?_
  refine gp zL ?_
  refine gl_call (wt0 rfl) (e_callv (us := []) rfl Ty.call_88 rfl) (by repeat (first | exact Sel.nil | (apply Sel.cons; · (repeat (first | exact Pick.here | apply Pick.there))))) (fun w1 F1 F2 h1 h2 hd hst => rblock_ok h1 (hE.mv hst.still)) ?_
  rintro ⟨q15, v15⟩
  refine gl_pureR (fun hp15 => ?_)
  obtain ⟨g15, z15, o15⟩ := hp15
  replace z15 : q15.length = _ := z15
  have i15 := Len.of z15
  have j15 := One.of (show ∀ v ∈ q15, v.oneCell' = true from o15)
  have hfin := allE_fin (z := blk0) noz_block g15
  refine zal fun b7 => ?_
  refine gl_eqc (cs' := blkC) (by repeat (first | exact Pick.here | apply Pick.there)) (by kernel_rfl) ?_
  refine zsN ?_
  refine gnt ?_
  refine gc_seq ?_
  refine gsr ?_
  refine gp zfa ?_
  refine gp zl ?_
  refine zc (fun _ => ?_) (c := fun w1 F1 F2 h1 h2 hd hst => rdone_ok h1 (hE.mv hst.still))
  refine gp zas ?_
  refine gnt ?_
  refine gsr ?_
  refine gp zmv ?_
  refine gp (r_bool (c := decide (¬ doneE (rstep pBlock (.ok b)) = 0)) (r_nenil rfl (by kernel_rfl)) (by simp)) ?_
  refine gnt ?_
  refine gif rfl (fun hc20 => ?_) (fun hc20 => ?_)
  · refine gsr ?_
    refine zal fun b9 => ?_
    refine gl_eqc (cs' := blkC) (by repeat (first | exact Pick.here | apply Pick.there)) (by kernel_rfl) ?_
    refine gnt ?_
    refine gsr ?_
    refine gp zL ?_
    refine gp zmv ?_
    refine zsN ?_
    refine gp zas ?_
    refine gnt ?_
    refine gc_ret ?_
    refine gx_then_ret ?_
    refine gx_retct rfl rfl (by conv => lhs; whnf) (ld_aggS Ty.row_30 Ty.sz_30 (by repeat (first | exact Pick.here | apply Pick.there)) (by (simp only [List.drop_succ_cons, List.drop_zero, List.take_succ_cons, List.take_zero, List.cons_append, List.nil_append, List.append_assoc, drop_dc, drop_dc', take_dc, take_dc', drop_L, drop_L', take_L, take_L', len_L, Nat.reduceLeDiff, Nat.reduceSub, Nat.reduceAdd, Nat.le_refl, List.length_cons, List.length_append, List.length_nil, dc_length, List.drop_nil, List.take_nil, List.append_nil, List.length_map, List.length_replicate]; first | done | rfl)) (by first | rfl | (simp only [List.drop_succ_cons, List.drop_zero, List.take_succ_cons, List.take_zero, List.cons_append, List.nil_append, List.append_assoc, drop_dc, drop_dc', take_dc, take_dc', drop_L, drop_L', take_L, take_L', len_L, Nat.reduceLeDiff, Nat.reduceSub, Nat.reduceAdd, Nat.le_refl, List.length_cons, List.length_append, List.length_nil, dc_length, List.drop_nil, List.take_nil, List.append_nil, List.length_map, List.length_replicate]; first | done | omega))) ?_
    rw [← hfin.1, hfin.2.2 hc20]
    intro w' hw
    exact ⟨blkC, rfl, St.pureI ⟨Len.h, One.h⟩ ((hw.mapL fun F' hF' => vl_pure (rd := RdBlock) (show RdBlock _ _ (blkC) (blk0) from rdBlock0) hF').sel (by repeat (first | exact Sel.nil | (apply Sel.cons; · (repeat (first | exact Pick.here | apply Pick.there))))))⟩
  · refine gc_skip ?_
    refine gx_then ?_
    refine gsr ?_
    refine gp zL ?_
    refine zsN ?_
    refine gp zas ?_
    refine gnt ?_
    refine gc_ret ?_
    refine gx_retct rfl rfl (by conv => lhs; whnf) (ld_aggS Ty.row_30 Ty.sz_30 (by repeat (first | exact Pick.here | apply Pick.there)) (by (simp only [List.drop_succ_cons, List.drop_zero, List.take_succ_cons, List.take_zero, List.cons_append, List.nil_append, List.append_assoc, drop_dc, drop_dc', take_dc, take_dc', drop_L, drop_L', take_L, take_L', len_L, Nat.reduceLeDiff, Nat.reduceSub, Nat.reduceAdd, Nat.le_refl, List.length_cons, List.length_append, List.length_nil, dc_length, List.drop_nil, List.take_nil, List.append_nil, List.length_map, List.length_replicate]; first | done | rfl)) (by first | rfl | (simp only [List.drop_succ_cons, List.drop_zero, List.take_succ_cons, List.take_zero, List.cons_append, List.nil_append, List.append_assoc, drop_dc, drop_dc', take_dc, take_dc', drop_L, drop_L', take_L, take_L', len_L, Nat.reduceLeDiff, Nat.reduceSub, Nat.reduceAdd, Nat.le_refl, List.length_cons, List.length_append, List.length_nil, dc_length, List.drop_nil, List.take_nil, List.append_nil, List.length_map, List.length_replicate]; first | done | omega))) ?_
    have hc0 : doneE (rstep pBlock (.ok b)) = 0 := by omega
    rw [← hfin.1, hfin.2.1 hc0, hc0, eV_zero]
    intro w' hw
    exact ⟨q15, rfl, St.pureI ⟨z15, o15⟩ (hw.sel (by repeat (first | exact Sel.nil | (apply Sel.cons; · (repeat (first | exact Pick.here | apply Pick.there))))))⟩

set_option maxHeartbeats 400000 in
theorem readChange_ok {w : World} {F : Nat → Prop} {TE : Nat} {ea : Nat → Addr} {es : List Nat} [Has es 1] [Has es 2] [Has es 3] [Has es 4] {a : Option Addr} {n c : Nat} {b : List UInt8} (h : stars [] w F) (hE : GErr es w (fun k => ¬ F k) TE ea) (hx : RdRow w (fun k => ¬ F k) 1 a n (b.map B8)) (hb : n ≤ 1099511627776) :
    Calls Tryz.prog 13 #[.slice a n c] w (Post w F (fun r : List Value => .tuple #[.agg r.toArray, eV TE ea (allE pChg (chg0) b).1]) (fun r => [pureR (r.length = 136 ∧ ∀ v ∈ r, v.oneCell' = true), VlR RdChg r (allE pChg (chg0) b).2])) := by
  refine g_enter (env := [(0, .slice a n c)]) Tryz.func13 rfl h Tryz.ntmps13 rfl rfl ?_
  refine gsr ?_
  refine zal fun b2 => ?_
  refine gl_eqc (cs' := chgC) (by repeat (first | exact Pick.here | apply Pick.there)) (by kernel_rfl) ?_
  refine gp zas ?_
  refine gnt ?_
  refine gsr ?_
  refine gp zmv ?_
  refine zc (fun q5 => ?_) (c := fun w1 F1 F2 h1 h2 hd hst => readChg_ok h1 (hE.mv hst.still) (hx.mv hst.still) hb)
  refine gl_pureR (fun hq => ?_)
  have i5 := Len.of hq.1
  have j5 := One.of hq.2
  refine gp zex ?_
  refine gp zex ?_
  refine zsN ?_
  refine gp zas ?_
  refine gnt ?_
  refine gc_ret ?_
  refine gx_retct rfl rfl (by conv => lhs; whnf) (ld_aggS Ty.row_33 Ty.sz_33 (by repeat (first | exact Pick.here | apply Pick.there)) (by (simp only [List.drop_succ_cons, List.drop_zero, List.take_succ_cons, List.take_zero, List.cons_append, List.nil_append, List.append_assoc, drop_dc, drop_dc', take_dc, take_dc', drop_L, drop_L', take_L, take_L', len_L, Nat.reduceLeDiff, Nat.reduceSub, Nat.reduceAdd, Nat.le_refl, List.length_cons, List.length_append, List.length_nil, dc_length, List.drop_nil, List.take_nil, List.append_nil, List.length_map, List.length_replicate]; first | done | rfl)) (by first | rfl | (simp only [List.drop_succ_cons, List.drop_zero, List.take_succ_cons, List.take_zero, List.cons_append, List.nil_append, List.append_assoc, drop_dc, drop_dc', take_dc, take_dc', drop_L, drop_L', take_L, take_L', len_L, Nat.reduceLeDiff, Nat.reduceSub, Nat.reduceAdd, Nat.le_refl, List.length_cons, List.length_append, List.length_nil, dc_length, List.drop_nil, List.take_nil, List.append_nil, List.length_map, List.length_replicate]; first | done | omega))) ?_
  exact fun w' hw => ⟨q5, rfl, St.pureI hq (hw.sel (by repeat (first | exact Sel.nil | (apply Sel.cons; · (repeat (first | exact Pick.here | apply Pick.there))))))⟩

set_option maxHeartbeats 400000 in
theorem readBlock_ok {w : World} {F : Nat → Prop} {TE : Nat} {ea : Nat → Addr} {es : List Nat} [Has es 1] [Has es 2] [Has es 3] [Has es 4] {a : Option Addr} {n c : Nat} {b : List UInt8} (h : stars [] w F) (hE : GErr es w (fun k => ¬ F k) TE ea) (hx : RdRow w (fun k => ¬ F k) 1 a n (b.map B8)) (hb : n ≤ 1099511627776) :
    Calls Tryz.prog 37 #[.slice a n c] w (Post w F (fun r : List Value => .tuple #[.agg r.toArray, eV TE ea (allE pBlock (blk0) b).1]) (fun r => [pureR (r.length = 39 ∧ ∀ v ∈ r, v.oneCell' = true), VlR RdBlock r (allE pBlock (blk0) b).2])) := by
  refine g_enter (env := [(0, .slice a n c)]) Tryz.func37 rfl h Tryz.ntmps37 rfl rfl ?_
  refine gsr ?_
  refine zal fun b2 => ?_
  refine gl_eqc (cs' := blkC) (by repeat (first | exact Pick.here | apply Pick.there)) (by kernel_rfl) ?_
  refine gp zas ?_
  refine gnt ?_
  refine gsr ?_
  refine gp zmv ?_
  refine zc (fun q5 => ?_) (c := fun w1 F1 F2 h1 h2 hd hst => readBlk_ok h1 (hE.mv hst.still) (hx.mv hst.still) hb)
  refine gl_pureR (fun hq => ?_)
  have i5 := Len.of hq.1
  have j5 := One.of hq.2
  refine gp zex ?_
  refine gp zex ?_
  refine zsN ?_
  refine gp zas ?_
  refine gnt ?_
  refine gc_ret ?_
  refine gx_retct rfl rfl (by conv => lhs; whnf) (ld_aggS Ty.row_30 Ty.sz_30 (by repeat (first | exact Pick.here | apply Pick.there)) (by (simp only [List.drop_succ_cons, List.drop_zero, List.take_succ_cons, List.take_zero, List.cons_append, List.nil_append, List.append_assoc, drop_dc, drop_dc', take_dc, take_dc', drop_L, drop_L', take_L, take_L', len_L, Nat.reduceLeDiff, Nat.reduceSub, Nat.reduceAdd, Nat.le_refl, List.length_cons, List.length_append, List.length_nil, dc_length, List.drop_nil, List.take_nil, List.append_nil, List.length_map, List.length_replicate]; first | done | rfl)) (by first | rfl | (simp only [List.drop_succ_cons, List.drop_zero, List.take_succ_cons, List.take_zero, List.cons_append, List.nil_append, List.append_assoc, drop_dc, drop_dc', take_dc, take_dc', drop_L, drop_L', take_L, take_L', len_L, Nat.reduceLeDiff, Nat.reduceSub, Nat.reduceAdd, Nat.le_refl, List.length_cons, List.length_append, List.length_nil, dc_length, List.drop_nil, List.take_nil, List.append_nil, List.length_map, List.length_replicate]; first | done | omega))) ?_
  exact fun w' hw => ⟨q5, rfl, St.pureI hq (hw.sel (by repeat (first | exact Sel.nil | (apply Sel.cons; · (repeat (first | exact Pick.here | apply Pick.there))))))⟩

end Go.Proofs.YtkgbbnhdioghmaaGreatDoor

