/- Walks, by program (wg.py) out of a spec. -/
import Derived.Test.YtkgbbnhdioghmaaDoorKc
import Derived.Test.YtkgbbnhdioghmaaDoorIa
namespace Go.Proofs.YtkgbbnhdioghmaaDoor
open Go
set_option linter.unusedVariables false
set_option linter.unusedSimpArgs false


theorem plainM_kind (m : Msg) : (plainM m).kind = m.kind := by
  unfold plainM
  split <;> first | rfl | skip
  split <;> first | rfl | skip
  split <;> first | rfl | skip
  split <;> first | rfl | skip
  split <;> first | rfl | skip
  split <;> rfl
theorem kinds_law {x : Msg} (h3 : x.chg.blocks.length = 3) (he : (wEnc x).err = 0) :
    allE pMsg (msg0 0) (wOut (wEnc x)) = (0, plainM x) ∧ plainM (plainM x) = plainM x ∧ ∃ c t, wOut (wEnc x) = c :: t ∧ x.kind = (c.toNat : Int) := by
  have hk : ¬ (x.kind < 1 ∨ 6 < x.kind) := fun h => by rw [wEnc, if_pos h] at he; simp at he
  have e : wEnc x = wMsg x ⟨0, []⟩ := by rw [wEnc, if_neg hk]
  have ho : wOut (wEnc x) = (wMsg x ⟨0, []⟩).bs := by rw [wOut, if_pos he, e]
  rw [e] at he
  have hall := pAll_enc (enc_msg x h3 (by omega) (by omega)) he
  have hm := pAll_ok hall
  obtain ⟨_, _, hp, _, ⟨c, t, hb, hc⟩, _⟩ := dec_msg _ _ _ hm
  rw [plainM_kind] at hc
  exact ⟨by unfold allE; rw [ho, hall], hp, c, t, by rw [ho, hb], hc⟩
theorem wOut_max {x : Msg} (h3 : x.chg.blocks.length = 3) : (wOut (wEnc x)).length ≤ 1099511627776 := by
  have e0 := wMsg_len x h3 ⟨0, []⟩
  simp only [List.length_nil] at e0
  by_cases he : (wEnc x).err = 0
  · rw [wOut, if_pos he]
    by_cases hk : x.kind < 1 ∨ 6 < x.kind
    · rw [wEnc, if_pos hk]; simp
    · rw [wEnc, if_neg hk]; omega
  · rw [wOut, if_neg he]; simp
theorem RdMsg.head {w : World} {A : Nat → Prop} {cs : List Value} {x : Msg} (h : RdMsg w A cs x) : ∃ rest, cs = .int .i64 x.kind :: rest := by
  obtain ⟨v, t, p, r, c, h1, _⟩ := h; exact ⟨_, h1⟩
structure MP.ok (x : Msg) (p : MP) : Prop where
  gv : p.gv.length = 3 ∧ ∀ v ∈ p.gv, v.oneCell' = true
  qt : p.qt.length = 19 ∧ ∀ v ∈ p.qt, v.oneCell' = true
  tt : p.tt.length = 3 ∧ ∀ v ∈ p.tt, v.oneCell' = true
  gt : p.gt.length = 3 ∧ ∀ v ∈ p.gt, v.oneCell' = true
  bp : p.bp.length = 39 ∧ ∀ v ∈ p.bp, v.oneCell' = true
  tp : p.tp.length = 3 ∧ ∀ v ∈ p.tp, v.oneCell' = true
  gp : p.gp.length = 3 ∧ ∀ v ∈ p.gp, v.oneCell' = true
  br : p.br.length = 39 ∧ ∀ v ∈ p.br, v.oneCell' = true
  cc : p.cc.length = 136 ∧ ∀ v ∈ p.cc, v.oneCell' = true
  pl : (p.pc x).length = 304
theorem MP.rd.ok {w : World} {F : Nat → Prop} {x : Msg} {p : MP} (h : p.rd w F x) : p.ok x :=
  ⟨⟨h.gv.len, h.gv.one⟩, ⟨h.qt.len, h.qt.one⟩, ⟨h.tt.len, h.tt.one⟩, ⟨h.gt.len, h.gt.one⟩, ⟨h.bp.len, h.bp.one⟩, ⟨h.tp.len, h.tp.one⟩, ⟨h.gp.len, h.gp.one⟩, ⟨h.br.len, h.br.one⟩, ⟨h.cc.len, h.cc.one'⟩, (MP.plain h).len⟩
theorem MP.ok.one {x : Msg} {p : MP} (h : p.ok x) : ∀ v ∈ p.cs x, v.oneCell' = true := by
  obtain ⟨gv, qt, tt, gt, bp, tp, gp, br, cc⟩ := p
  have i1 := One.of h.gv.2; have i2 := One.of h.qt.2; have i3 := One.of h.tt.2; have i4 := One.of h.gt.2; have i5 := One.of h.bp.2; have i6 := One.of h.tp.2; have i7 := One.of h.gp.2; have i8 := One.of h.br.2; have i9 := One.of h.cc.2
  simp only [] at i1 i2 i3 i4 i5 i6 i7 i8 i9
  simp only [MP.cs, List.cons_append, List.append_assoc]
  repeat (first | exact One.h | refine all_app' (dc_one _) ?_ | refine all_app' One.h ?_ | refine all_cons' rfl ?_)
theorem MP.ok.onep {x : Msg} {p : MP} (h : p.ok x) : ∀ v ∈ p.pc x, v.oneCell' = true := by
  obtain ⟨gv, qt, tt, gt, bp, tp, gp, br, cc⟩ := p
  have i1 := One.of h.gv.2; have i2 := One.of h.qt.2; have i3 := One.of h.tt.2; have i4 := One.of h.gt.2; have i5 := One.of h.bp.2; have i6 := One.of h.tp.2; have i7 := One.of h.gp.2; have i8 := One.of h.br.2; have i9 := One.of h.cc.2
  simp only [] at i1 i2 i3 i4 i5 i6 i7 i8 i9
  have i0 : One (msgC x.kind dig0 dig0) := inferInstance
  simp only [MP.pc]
  split
  · simp only [List.cons_append, List.append_assoc]; repeat (first | exact One.h | refine all_app' (dc_one _) ?_ | refine all_app' One.h ?_ | refine all_cons' rfl ?_)
  split
  · simp only [List.cons_append, List.append_assoc]; repeat (first | exact One.h | refine all_app' (dc_one _) ?_ | refine all_app' One.h ?_ | refine all_cons' rfl ?_)
  split
  · simp only [List.cons_append, List.append_assoc]; repeat (first | exact One.h | refine all_app' (dc_one _) ?_ | refine all_app' One.h ?_ | refine all_cons' rfl ?_)
  split
  · repeat (first | exact One.h | refine all_app' (dc_one _) ?_ | refine all_app' One.h ?_ | refine all_cons' rfl ?_)
  split
  · repeat (first | exact One.h | refine all_app' (dc_one _) ?_ | refine all_app' One.h ?_ | refine all_cons' rfl ?_)
  split
  · repeat (first | exact One.h | refine all_app' (dc_one _) ?_ | refine all_app' One.h ?_ | refine all_cons' rfl ?_)
  exact i0.h
theorem plain_ok' {w : World} {F : Nat → Prop} {x : Msg} {p : MP} {cs : List Value} (h : stars [] w F) (hcs : cs = p.cs x) (hp : p.ok x) :
    Calls Tryd.prog 25 #[.agg cs.toArray] w (Post w F (fun _ : Unit => .agg (List.toArray (p.pc x))) (fun _ => [])) := by
  obtain ⟨gv, qt, tt, gt, bp, tp, gp, br, cc⟩ := p
  have i1 := One.of hp.gv.2; have i2 := One.of hp.qt.2; have i3 := One.of hp.tt.2; have i4 := One.of hp.gt.2; have i5 := One.of hp.bp.2; have i6 := One.of hp.tp.2; have i7 := One.of hp.gp.2; have i8 := One.of hp.br.2; have i9 := One.of hp.cc.2
  have l1 := Len.of hp.gv.1; have l2 := Len.of hp.qt.1; have l3 := Len.of hp.tt.1; have l4 := Len.of hp.gt.1; have l5 := Len.of hp.bp.1; have l6 := Len.of hp.tp.1; have l7 := Len.of hp.gp.1; have l8 := Len.of hp.br.1; have l9 := Len.of hp.cc.1
  simp only [] at i1 i2 i3 i4 i5 i6 i7 i8 i9 l1 l2 l3 l4 l5 l6 l7 l8 l9
  subst hcs
  exact plain_ok h
section
variable {P : Program} {w0 : World} {F0 : Nat → Prop} {L : List Res} {Q : Exit → Act → World → Prop} {n : Nat} {env : Env} {ops : Array Oper} {rest : List Oper}
theorem gl_open {ι : Type} {r : Res} {ρ : ι → Res} {φ : ι → Prop} {L' : List Res} (hp : Pick L r L') (h : ∀ w F, r.on w F → ∃ i, φ i ∧ (ρ i).on w F) (k : ∀ i, φ i → Gl P w0 F0 (ρ i :: L') ops Q rest n env) : Gl P w0 F0 L ops Q rest n env := fun w hw => by
  obtain ⟨F, hF, hst⟩ := hw
  obtain ⟨F1, F2, h1, h2, hd⟩ := hp.stars hF
  obtain ⟨i, hi, hr⟩ := h _ _ h1
  exact k i hi w ⟨F, ⟨F1, F2, hr, h2, hd⟩, hst⟩
end
theorem msg_open {q : List Value} {m : Msg} (w : World) (F : Nat → Prop) (h : (VlR RdMsg q m).on w F) : ∃ i : List Value × MP, (q = .int .i64 m.kind :: i.1 ∧ q = i.2.cs m ∧ i.2.ok m) ∧ (PartsR m i.2).on w F := by
  obtain ⟨h1, hl⟩ := h
  obtain ⟨rest, hr⟩ := h1.head
  obtain ⟨p, hp, hd⟩ := MP.of h1
  exact ⟨(rest, p), ⟨hr, hp, hd.ok⟩, hd, hl⟩
theorem parts_rd {L L' : List Res} {w : World} {F1 F2 : Nat → Prop} {x : Msg} {p : MP} (h2 : stars L w F2) (hd : ∀ k, F1 k → ¬ F2 k) (hp : Pick L (PartsR x p) L') : p.rd w (fun k => ¬ F1 k) x := by
  obtain ⟨G1, G2, ⟨h, _⟩, _, hF, _⟩ := hp.stars h2
  exact h.mv fun k _ hk => ⟨rfl, fun h1 => hd k h1 ((hF k).2 (.inl hk))⟩
theorem RdMsg.cast {w : World} {A : Nat → Prop} {cs cs' : List Value} {x y : Msg} (h : RdMsg w A cs x) (e : cs = cs') (e2 : x = y) : RdMsg w A cs' y := by subst e; subst e2; exact h

attribute [local irreducible] Gl Gc Gx Gs Runs Wt

attribute [local irreducible] voteC tmoC propC blkC chgC sgnC tcC qcC dc msgC

attribute [local irreducible] MP.pc MP.cs plainM

set_option maxHeartbeats 400000 in
theorem codecKinds_ok {w : World} {F : Nat → Prop} {TE : Nat} {ea : Nat → Addr} {cs : List Value} {x : Msg} (h : stars [] w F) {es : List Nat} [Has es 1] [Has es 2] [Has es 3] [Has es 4] (hE : GErr es w (fun k => ¬ F k) TE ea) (hx : RdMsg w (fun k => ¬ F k) cs x) :
    Calls Tryd.prog 5 #[.agg cs.toArray] w (Post w F (fun _ : Unit => .bool true) (fun _ => [])) := by
  obtain ⟨rest, rfl⟩ := hx.head
  have lr : rest.length = 303 := by have := hx.len; simpa using this
  obtain ⟨p0, hp0, hr0⟩ := MP.of hx
  have on0 := hr0.ok.one
  rw [← hp0] at on0
  have ir := Len.of lr
  have jr := One.of (fun v hv => on0 v (List.mem_cons_of_mem _ hv))
  refine g_enter (env := [(0, .agg (List.toArray (.int .i64 x.kind :: rest)))]) Tryd.func5 rfl h Tryd.ntmps5 rfl rfl ?_
  refine gsr ?_
  refine zbN fun b1 => ?_
  refine gp zas ?_
  refine gnt ?_
  refine gc_seq ?_
  refine gsr ?_
  refine zc (fun _ => ?_) (c := fun w1 F1 F2 h1 h2 hd hst => alive09_ok h1 (hE.mv hst.still))
  refine gp znt ?_
  refine gnt ?_
  refine gc_condF rfl rfl ?_
  refine gc_skip ?_
  refine gx_then ?_
  refine gc_seq ?_
  refine gsr ?_
  refine gp zL ?_
  refine zc (fun r10 => ?_) (c := fun w1 F1 F2 h1 h2 hd hst => big_ok h1 (hx.mv hst.still))
  refine gnt ?_
  refine gif rfl (fun hc10 => ?_) (fun hc10 => ?_)
  · refine gsr ?_
    refine gp zas ?_
    refine gnt ?_
    refine gc_ret ?_
    refine gx_then_ret ?_
    refine gx_ret1 rfl (by conv => lhs; whnf) ?_
    exact ze ()
  · refine gc_skip ?_
    refine gx_then ?_
    refine gsr ?_
    refine gp zL ?_
    refine zc ?_ (c := fun w1 F1 F2 h1 h2 hd hst => encode_ok h1 (hE.mv hst.still) (hx.mv hst.still))
    rintro ⟨a13, c13⟩
    refine gp zmv ?_
    refine gp zex ?_
    refine gp zex ?_
    refine gp zas ?_
    refine gp zas ?_
    refine gnt ?_
    refine gc_seq ?_
    refine gsr ?_
    refine gp zmv ?_
    refine gp (r_bool (c := decide (¬ (wEnc x).err = 0)) (r_nenil rfl (by kernel_rfl)) (by simp)) ?_
    refine gnt ?_
    refine gif rfl (fun hc17 => ?_) (fun hc17 => ?_)
    · refine gsr ?_
      refine gp zas ?_
      refine gnt ?_
      refine gc_ret ?_
      refine gx_then_ret ?_
      refine gx_ret1 rfl (by conv => lhs; whnf) ?_
      exact ze ()
    · try simp only at hc17
      have he : (wEnc x).err = 0 := by omega
      obtain ⟨hall, hpp, c, t, hbt, hkc⟩ := kinds_law hx.three he
      have hpk := plainM_kind x
      have hcl := c.toNat_lt
      have hlen : 0 < (wOut (wEnc x)).length := by rw [hbt]; simp
      have hmx := wOut_max hx.three
      refine gc_fact (p := ∃ g o, a13 = some ⟨g, o, none⟩) (fun w hw => (by obtain ⟨g, o, e, _⟩ := (hw.row (a := a13) (m := (wOut (wEnc x)).length) (c := c13) (xs := (wOut (wEnc x)).map B8) (by repeat (first | exact Pick.here | apply Pick.there))).2.2 hlen; exact ⟨g, o, e⟩)) (fun ha => ?_)
      obtain ⟨g7, o7, rfl⟩ := ha
      refine gc_skip ?_
      refine gx_then ?_
      refine gsr ?_
      refine gp zmv ?_
      refine zc (fun q20 => ?_) (c := fun w1 F1 F2 h1 h2 hd hst => decode_ok (b := (wOut (wEnc x))) h1 (hE.mv hst.still) (rd_row h2 hd (by repeat (first | exact Pick.here | apply Pick.there))) hmx)
      rw [hall]
      refine gl_pureR (fun hq => ?_)
      obtain ⟨hql, hqo⟩ := hq
      replace hql : q20.length = 304 := hql
      refine gl_open (by repeat (first | exact Pick.here | apply Pick.there)) msg_open ?_
      rintro ⟨rest2, p⟩ ⟨hq1, hq2, hok⟩
      replace hq1 : q20 = .int .i64 (plainM x).kind :: rest2 := hq1
      replace hq2 : q20 = p.cs (plainM x) := hq2
      subst hq1
      have l2 : rest2.length = 303 := by simpa using hql
      have ir2 := Len.of l2
      have jr2 := One.of (fun v hv => hqo v (List.mem_cons_of_mem _ hv))
      have ir3 := Len.of hok.pl
      have jr3 := One.of hok.onep
      refine gp zmv ?_
      refine gp zex ?_
      refine gp zex ?_
      refine zal fun b5 => ?_
      refine zsN ?_
      refine gp zas ?_
      refine gnt ?_
      refine gc_seq ?_
      refine gc_seq ?_
      refine gc_regionS (by kernel_rfl) (by kernel_rfl) ?_
      refine sp zmv ?_
      refine sp (r_bool (c := false) (r_nenil (k := 0) rfl (by kernel_rfl)) rfl) ?_
      refine sp zmv ?_
      refine sq zmv ?_
      refine sq zia ?_
      refine sq (r_ld1r (i := 0) (v := B8 c) rfl Ty.row_5 (by repeat (first | exact Pick.here | apply Pick.there)) (by rw [hbt]; rfl)) ?_
      refine sq (r_int zci (wrap_i64 (by omega) (by omega))) ?_
      refine sq zfa ?_
      refine sq zl ?_
      refine sq (r_bool (c := false) zni (by simp [hkc])) ?_
      refine sp zpk ?_
      refine sp zmv ?_
      refine sq zfa ?_
      refine sq zl ?_
      refine sq zfa ?_
      refine sq zl ?_
      refine sq (r_bool (c := false) zni (by simp [hpk])) ?_
      refine sp zpk ?_
      refine gs_nil ?_
      refine gx_then ?_
      refine gc_condF rfl rfl ?_
      refine gc_skip ?_
      refine gx_then ?_
      refine gsr ?_
      refine gp zL ?_
      refine zc (fun _ => ?_) (c := fun w1 F1 F2 h1 h2 hd hst => plain_ok' (x := plainM x) (p := p) h1 hq2 hok)
      refine zal fun b6 => ?_
      refine zsN ?_
      refine gnt ?_
      refine gsr ?_
      refine gp zL ?_
      refine gp zL ?_
      refine zc (fun _ => ?_) (c := fun w1 F1 F2 h1 h2 hd hst => sameMsg_ok (x := plainM x) h1 ((MP.msg (parts_rd h2 hd (by repeat (first | exact Pick.here | apply Pick.there)))).cast hq2.symm rfl) ((MP.plain (parts_rd h2 hd (by repeat (first | exact Pick.here | apply Pick.there)))).cast rfl hpp))
      refine gp zas ?_
      refine gnt ?_
      refine gc_ret ?_
      refine gx_ret1 rfl (by conv => lhs; whnf) ?_
      exact ze ()

end Go.Proofs.YtkgbbnhdioghmaaDoor
