/- Part 5. What is proved: see the last part: for every input the law returns true, and the input reads as it did. -/
import Derived.Test.YtobjojeliibinaaGreatDoorCl4
/- Walks, by program (wg.py) out of a spec. -/
namespace Go.Proofs.YtobjojeliibinaaGreatDoor
open Go
set_option linter.unusedVariables false
set_option linter.unusedSimpArgs false


/-- A record's cells. -/
def RdRec (w : World) (A : Nat → Prop) (cs : List Value) (r : LRec) : Prop :=
  ∃ a1 n1 c1 a2 n2 c2, cs = dc (idOf r.b) ++ [.slice a1 n1 c1, .slice a2 n2 c2] ∧ n1 ≤ c1 ∧ n2 ≤ c2 ∧ RdRow w A 1 a1 n1 (r.bs.map B8) ∧ RdRow w A 1 a2 n2 (r.cs.map B8)
theorem RdRec.mv {w w' : World} {A A' : Nat → Prop} {cs : List Value} {r : LRec} (h : RdRec w A cs r) (hk : Still w A w' A') : RdRec w' A' cs r := by
  obtain ⟨a1, n1, c1, a2, n2, c2, h1, h2, h3, h4, h5⟩ := h; exact ⟨a1, n1, c1, a2, n2, c2, h1, h2, h3, h4.mv hk, h5.mv hk⟩
instance : RdK RdRec := ⟨fun h k => h.mv k⟩
theorem RdRec.len {w : World} {A : Nat → Prop} {cs : List Value} {r : LRec} (h : RdRec w A cs r) : cs.length = 18 := by obtain ⟨_, _, _, _, _, _, h, _⟩ := h; subst h; simp [dc_length]
theorem RdRec.one {w : World} {A : Nat → Prop} {cs : List Value} {r : LRec} (h : RdRec w A cs r) : ∀ v ∈ cs, v.oneCell' = true := by
  obtain ⟨_, _, _, _, _, _, h, _⟩ := h; subst h; exact all_app' (dc_one _) (all_cons' rfl (all_cons' rfl all_nil'))
theorem zD_one : ∀ v ∈ zD, v.oneCell' = true := fun v hv => by rw [List.eq_of_mem_replicate hv]; rfl
/-- What made hands out: a record, or nothing. -/
def recZ : List Value := zD ++ [.slice none 0 0, .slice none 0 0]
def RdMade (w : World) (A : Nat → Prop) (cs : List Value) (x : Block × QC) : Prop := if madeE x.1 x.2 = 0 then RdRec w A cs ⟨x.1, x.2⟩ else cs = recZ
instance : RdK RdMade := ⟨fun {w w' A A' cs x} h k => by unfold RdMade at *; split at h <;> rename_i hh; rw [if_pos hh]; exact RdRec.mv h k; rw [if_neg hh]; exact h⟩
theorem RdMade.len {w : World} {A : Nat → Prop} {cs : List Value} {x : Block × QC} (h : RdMade w A cs x) : cs.length = 18 := by
  unfold RdMade at h; split at h
  · exact h.len
  · subst h; rfl
theorem RdMade.one {w : World} {A : Nat → Prop} {cs : List Value} {x : Block × QC} (h : RdMade w A cs x) : ∀ v ∈ cs, v.oneCell' = true := by
  unfold RdMade at h; split at h
  · exact h.one
  · subst h; exact all_app' zD_one (all_cons' rfl (all_cons' rfl all_nil'))
theorem made_none {b : Block} {c : QC} (h : madeE b c ≠ 0) {w : World} {A : Nat → Prop} : RdMade w A recZ (b, c) := by unfold RdMade; rw [if_neg h]
theorem rd_cert {w : World} {A : Nat → Prop} {q : List Value} {c : QC} (h : RdQC w A q c) {cs : List Value} (hc : cs = .int .i64 0 :: .int .i64 0 :: (zD ++ (q ++ [.slice none 0 0, .slice none 0 0]))) : RdBlock w A cs (certB c) :=
  ⟨q, none, 0, 0, none, 0, 0, hc.trans (by rw [show zD = dc dig0 from rfl]; rfl), h, Nat.le_refl 0, RdList.nil, Nat.le_refl 0, RdList.nil⟩
theorem vl_rec {b : Block} {c : QC} {w : World} {F : Nat → Prop} {a1 a2 : Option Addr} {c1 c2 e1 e2 n1 n2 : Nat} {l1 l2 : List UInt8} {cs : List Value} (hm : madeE b c = 0) (h : stars [rowR e1 1 a1 n1 c1 (l1.map B8), rowR e2 1 a2 n2 c2 (l2.map B8)] w F)
    (hb : l1 = (⟨b, c⟩ : LRec).bs) (hc : l2 = (⟨b, c⟩ : LRec).cs) (hcs : cs = dc (idOf b) ++ [.slice a1 n1 c1, .slice a2 n2 c2]) : stars [VlR RdMade cs (b, c)] w F := by
  subst hb; subst hc
  obtain ⟨F1, F2, h1, h2, hF⟩ := stars_two h
  refine rdR_mk ?_ h
  unfold RdMade
  rw [if_pos hm]
  exact ⟨a1, n1, c1, a2, n2, c2, hcs, h1.2.1, h2.2.1, (rowR.rd h1).mv (still_sub fun k hk => (hF k).2 (.inl hk)), (rowR.rd h2).mv (still_sub fun k hk => (hF k).2 (.inr hk))⟩
instance : One recZ := One.of (all_app' zD_one (all_cons' rfl (all_cons' rfl all_nil')))
instance : Len recZ 18 := ⟨rfl⟩

attribute [local irreducible] Gl Gc Gx Gs Runs Wt

attribute [local irreducible] dc

set_option maxHeartbeats 400000 in
theorem sectors_ok {w : World} {F : Nat → Prop} {n : Nat} (h : stars [] w F) (hn : n ≤ 1099511627776) :
    Calls Tryz.prog 134 #[.int .i64 (n : Int)] w (Post w F (fun _ : Unit => .int .i64 (nsec n : Int)) (fun _ => [])) := by
  refine g_enter (env := [(0, .int .i64 (n : Int))]) Tryz.func134 rfl h Tryz.ntmps134 rfl rfl ?_
  refine gsr ?_
  refine gp zas ?_
  refine gnt ?_
  refine gsr ?_
  refine gp zmv ?_
  refine gp zad ?_
  refine gp zsb ?_
  refine gp (r_int (j := (nsec n : Int)) (zqu (i := (n : Int) + 64 - 1) (j := 64)) (by rw [Int.tdiv_eq_ediv_of_nonneg (by omega), wrap_i64 (by omega) (by omega)]; unfold nsec; omega)) ?_
  refine gp zas ?_
  refine gnt ?_
  refine gc_ret ?_
  refine gx_ret1 rfl (by conv => lhs; whnf) ?_
  exact ze ()

set_option maxHeartbeats 400000 in
theorem made_ok' {w : World} {F : Nat → Prop} {TE : Nat} {ea : Nat → Addr} {cs qs : List Value} {b : Block} {c : QC} (h : stars [] w F) {es : List Nat} [Has es 1] [Has es 4] [Has es 12] (hE : GErr es w (fun k => ¬ F k) TE ea) (hK : KR w (fun k => ¬ F k)) (hx : RdBlock w (fun k => ¬ F k) cs b) (hq : RdQC w (fun k => ¬ F k) qs c) :
    Calls Tryz.prog 92 #[.agg cs.toArray, .agg qs.toArray] w (Post w F (fun r : List Value => .tuple #[.agg r.toArray, eV TE ea (madeE b c)]) (fun r => [pureR (r.length = 18 ∧ ∀ v ∈ r, v.oneCell' = true), VlR RdMade r (b, c)])) := by
  have hx' := hx
  have hq' := hq
  obtain ⟨av, nv, kv, rfl, hq1, hq2⟩ := hq'
  obtain ⟨q, a1, n1, c1, a2, n2, c2, rfl, hx1, hx2, hx3, hx4, hx5⟩ := hx'
  have hl2 := hx1.len
  have il2 := Len.of hl2
  have jl2 := One.of hx1.one
  refine g_enter (env := [(0, _), (1, _)]) Tryz.func92 rfl h Tryz.ntmps92 rfl rfl ?_
  refine gsr ?_
  refine zbN fun b2 => ?_
  refine zbN fun b3 => ?_
  refine zal fun b4 => ?_
  refine gl_eqc (cs' := recZ) (by repeat (first | exact Pick.here | apply Pick.there)) (by kernel_rfl) ?_
  refine gp zas ?_
  refine gnt ?_
  refine gsr ?_
  refine gp zL ?_
  refine zc (fun _ => ?_) (c := fun w1 F1 F2 h1 h2 hd hst => id_ok h1 (hE.mv hst.still) (hK.mv hst.still) (hx.mv hst.still))
  refine gp zmv ?_
  refine gp zex ?_
  refine gp zex ?_
  refine zal fun b6 => ?_
  refine zsN ?_
  refine gp zas ?_
  refine gnt ?_
  refine gc_seq ?_
  refine gsr ?_
  refine gp zmv ?_
  refine gp (r_nenil rfl (by kernel_rfl)) ?_
  refine gnt ?_
  refine gif rfl (fun hc16 => ?_) (fun hc16 => ?_)
  · try simp only at hc16
    have e1 : (wBlock b ⟨0, []⟩).err ≠ 0 := by simpa using hc16
    refine gc_seq ?_
    refine gc_regionZ 3 [] ?_
    refine yps 0 rfl zbu ?_
    refine yps 1 rfl (r_ld1o rfl Ty.row_38 (hE.c 4 Has.h) (hE.n 4 Has.h)) ?_
    refine yos 2 rfl ?_
    refine zsN ?_
    refine yxs ?_
    refine yzs rfl ?_
    refine gp zas ?_
    refine gnt ?_
    refine gc_ret ?_
    refine gx_then_ret ?_
    refine gx_retct rfl rfl (by conv => lhs; whnf) (ld_aggS Ty.row_181 Ty.sz_181 (by repeat (first | exact Pick.here | apply Pick.there)) (by (simp only [List.drop_succ_cons, List.drop_zero, List.take_succ_cons, List.take_zero, List.cons_append, List.nil_append, List.append_assoc, drop_dc, drop_dc', take_dc, take_dc', drop_L, drop_L', take_L, take_L', len_L, Nat.reduceLeDiff, Nat.reduceSub, Nat.reduceAdd, Nat.le_refl, List.length_cons, List.length_append, List.length_nil, dc_length, List.drop_nil, List.take_nil, List.append_nil, List.length_map, List.length_replicate]; first | done | rfl)) (by first | rfl | (simp only [List.drop_succ_cons, List.drop_zero, List.take_succ_cons, List.take_zero, List.cons_append, List.nil_append, List.append_assoc, drop_dc, drop_dc', take_dc, take_dc', drop_L, drop_L', take_L, take_L', len_L, Nat.reduceLeDiff, Nat.reduceSub, Nat.reduceAdd, Nat.le_refl, List.length_cons, List.length_append, List.length_nil, dc_length, List.drop_nil, List.take_nil, List.append_nil, List.length_map, List.length_replicate]; first | done | omega))) ?_
    intro w' hw
    have he : madeE b c = 4 := by unfold madeE blkW; rw [if_pos e1]
    exact ⟨recZ, by rw [he]; rfl, St.pureI ⟨rfl, One.h⟩ (St.vl (hw.sel (by repeat (first | exact Sel.nil | (apply Sel.cons; · (repeat (first | exact Pick.here | apply Pick.there)))))) (made_none (by rw [he]; decide)))⟩
  · try simp only at hc16
    have e1 : (wBlock b ⟨0, []⟩).err = 0 := by simpa using hc16
    refine gc_skip ?_
    refine gx_then ?_
    refine gsr ?_
    refine gp zL ?_
    refine zc ?_ (c := fun w1 F1 F2 h1 h2 hd hst => bytes_ok h1 (hE.mv hst.still) (hx.mv hst.still))
    rintro ⟨a21, c21⟩
    refine gp zmv ?_
    refine gp zex ?_
    refine gp zex ?_
    refine gp zas ?_
    refine gp zas ?_
    refine gnt ?_
    refine gc_seq ?_
    refine gsr ?_
    refine gp zmv ?_
    refine gp (r_nenil rfl (by kernel_rfl)) ?_
    refine gnt ?_
    refine gif rfl (fun hc25 => ?_) (fun hc25 => ?_)
    · try simp only at hc25
      exfalso; simp [e1] at hc25
    · refine gc_skip ?_
      refine gx_then ?_
      refine gsr ?_
      refine gp zL ?_
      refine gp zbu ?_
      refine zc ?_ (c := fun w1 F1 F2 h1 h2 hd hst => bytes_ok (x := certB c) h1 (hE.mv hst.still) (rd_cert (cs := .int .i64 0 :: .int .i64 0 :: (zD ++ (.int .i64 c.epoch :: .int .i64 c.round :: (dc c.block ++ [.slice av nv kv, .slice none 0 0, .slice none 0 0])))) (hq.mv hst.still) (by simp)))
      rintro ⟨a31, c31⟩
      refine gp zmv ?_
      refine gp zex ?_
      refine gp zex ?_
      refine gp zas ?_
      refine gp zas ?_
      refine gnt ?_
      refine gc_seq ?_
      refine gsr ?_
      refine gp zmv ?_
      refine gp (r_nenil rfl (by kernel_rfl)) ?_
      refine gnt ?_
      refine gif rfl (fun hc35 => ?_) (fun hc35 => ?_)
      · try simp only at hc35
        have e2 : (wBlock (certB c) ⟨0, []⟩).err ≠ 0 := by simpa using hc35
        refine gc_seq ?_
        refine gc_regionZ 3 [] ?_
        refine yps 0 rfl zbu ?_
        refine yps 1 rfl (r_ld1o rfl Ty.row_38 (hE.c 4 Has.h) (hE.n 4 Has.h)) ?_
        refine yos 2 rfl ?_
        refine zsN ?_
        refine yxs ?_
        refine yzs rfl ?_
        refine gp zas ?_
        refine gnt ?_
        refine gc_ret ?_
        refine gx_then_ret ?_
        refine gx_retct rfl rfl (by conv => lhs; whnf) (ld_aggS Ty.row_181 Ty.sz_181 (by repeat (first | exact Pick.here | apply Pick.there)) (by (simp only [List.drop_succ_cons, List.drop_zero, List.take_succ_cons, List.take_zero, List.cons_append, List.nil_append, List.append_assoc, drop_dc, drop_dc', take_dc, take_dc', drop_L, drop_L', take_L, take_L', len_L, Nat.reduceLeDiff, Nat.reduceSub, Nat.reduceAdd, Nat.le_refl, List.length_cons, List.length_append, List.length_nil, dc_length, List.drop_nil, List.take_nil, List.append_nil, List.length_map, List.length_replicate]; first | done | rfl)) (by first | rfl | (simp only [List.drop_succ_cons, List.drop_zero, List.take_succ_cons, List.take_zero, List.cons_append, List.nil_append, List.append_assoc, drop_dc, drop_dc', take_dc, take_dc', drop_L, drop_L', take_L, take_L', len_L, Nat.reduceLeDiff, Nat.reduceSub, Nat.reduceAdd, Nat.le_refl, List.length_cons, List.length_append, List.length_nil, dc_length, List.drop_nil, List.take_nil, List.append_nil, List.length_map, List.length_replicate]; first | done | omega))) ?_
        intro w' hw
        have he : madeE b c = 4 := by unfold madeE blkW; rw [if_neg (by simpa using e1), if_pos e2]
        exact ⟨recZ, by rw [he]; rfl, St.pureI ⟨rfl, One.h⟩ (St.vl (hw.sel (by repeat (first | exact Sel.nil | (apply Sel.cons; · (repeat (first | exact Pick.here | apply Pick.there)))))) (made_none (by rw [he]; decide)))⟩
      · try simp only at hc35
        have e2 : (wBlock (certB c) ⟨0, []⟩).err = 0 := by simpa using hc35
        refine gc_skip ?_
        refine gx_then ?_
        refine gc_seq ?_
        refine gc_seq ?_
        by_cases hS1 : c.block = idOf b
        · by_cases hS2 : c.epoch = b.epoch
          · by_cases hS3 : c.round = b.round
            · refine gc_region ?_
              refine gp zfa ?_
              refine gp zL ?_
              refine gp zL ?_
              refine gp (r_bool (c := false) znd (by simp [hS1])) ?_
              refine gp zmv ?_
              refine gq zfa ?_
              refine gq zl ?_
              refine gq zfa ?_
              refine gq zl ?_
              refine gq (r_bool (c := false) zni (by simp [hS2])) ?_
              refine gp zpk ?_
              refine gp zmv ?_
              refine gq zfa ?_
              refine gq zl ?_
              refine gq zfa ?_
              refine gq zl ?_
              refine gq (r_bool (c := false) zni (by simp [hS3])) ?_
              refine gp zpk ?_
              refine gnt ?_
              refine gc_condF rfl rfl ?_
              refine gc_skip ?_
              refine gx_then ?_
              refine gsr ?_
              refine gp zL ?_
              refine gp zmv ?_
              refine gp zmv ?_
              refine gp zbu ?_
              refine zsN ?_
              refine gp zas ?_
              refine gnt ?_
              refine gc_ret ?_
              refine gx_retct rfl rfl (by conv => lhs; whnf) (ld_aggS Ty.row_181 Ty.sz_181 (by repeat (first | exact Pick.here | apply Pick.there)) (by (simp only [List.drop_succ_cons, List.drop_zero, List.take_succ_cons, List.take_zero, List.cons_append, List.nil_append, List.append_assoc, drop_dc, drop_dc', take_dc, take_dc', drop_L, drop_L', take_L, take_L', len_L, Nat.reduceLeDiff, Nat.reduceSub, Nat.reduceAdd, Nat.le_refl, List.length_cons, List.length_append, List.length_nil, dc_length, List.drop_nil, List.take_nil, List.append_nil, List.length_map, List.length_replicate]; first | done | rfl)) (by first | rfl | (simp only [List.drop_succ_cons, List.drop_zero, List.take_succ_cons, List.take_zero, List.cons_append, List.nil_append, List.append_assoc, drop_dc, drop_dc', take_dc, take_dc', drop_L, drop_L', take_L, take_L', len_L, Nat.reduceLeDiff, Nat.reduceSub, Nat.reduceAdd, Nat.le_refl, List.length_cons, List.length_append, List.length_nil, dc_length, List.drop_nil, List.take_nil, List.append_nil, List.length_map, List.length_replicate]; first | done | omega))) ?_
              intro w' hw
              have he : madeE b c = 0 := by unfold madeE blkW; rw [if_neg (by simpa using e1), if_neg (by simpa using e2), if_pos ⟨hS1, hS2, hS3⟩]
              have hw := hw.conv (M := [rowR 5 1 a21 (wOut (wBlock b ⟨0, []⟩)).length c21 ((wOut (wBlock b ⟨0, []⟩)).map B8), rowR 5 1 a31 (wOut (wBlock (certB c) ⟨0, []⟩)).length c31 ((wOut (wBlock (certB c) ⟨0, []⟩)).map B8)]) (by repeat (first | exact Sel.nil | (apply Sel.cons; · (repeat (first | exact Pick.here | apply Pick.there))))) (fun _ _ h => vl_rec he h (by rw [wOut, if_pos e1]; rfl) (by rw [wOut, if_pos e2]; rfl) rfl)
              exact ⟨_, by rw [he, eV_zero], St.pureI ⟨by simp [dc_length], all_app' (dc_one _) (all_cons' rfl (all_cons' rfl all_nil'))⟩ (hw.sel (by repeat (first | exact Sel.nil | (apply Sel.cons; · (repeat (first | exact Pick.here | apply Pick.there))))))⟩
            · refine gc_region ?_
              refine gp zfa ?_
              refine gp zL ?_
              refine gp zL ?_
              refine gp (r_bool (c := false) znd (by simp [hS1])) ?_
              refine gp zmv ?_
              refine gq zfa ?_
              refine gq zl ?_
              refine gq zfa ?_
              refine gq zl ?_
              refine gq (r_bool (c := false) zni (by simp [hS2])) ?_
              refine gp zpk ?_
              refine gp zmv ?_
              refine gq zfa ?_
              refine gq zl ?_
              refine gq zfa ?_
              refine gq zl ?_
              refine gq (r_bool (c := true) zni (by simp [hS3])) ?_
              refine gp zpk ?_
              refine gnt ?_
              refine gc_condT rfl rfl ?_
              refine gc_seq ?_
              refine gc_regionZ 3 [] ?_
              refine yps 0 rfl zbu ?_
              refine yps 1 rfl (r_ld1o rfl Ty.row_38 (hE.c 12 Has.h) (hE.n 12 Has.h)) ?_
              refine yos 2 rfl ?_
              refine zsN ?_
              refine yxs ?_
              refine yzs rfl ?_
              refine gp zas ?_
              refine gnt ?_
              refine gc_ret ?_
              refine gx_then_ret ?_
              refine gx_retct rfl rfl (by conv => lhs; whnf) (ld_aggS Ty.row_181 Ty.sz_181 (by repeat (first | exact Pick.here | apply Pick.there)) (by (simp only [List.drop_succ_cons, List.drop_zero, List.take_succ_cons, List.take_zero, List.cons_append, List.nil_append, List.append_assoc, drop_dc, drop_dc', take_dc, take_dc', drop_L, drop_L', take_L, take_L', len_L, Nat.reduceLeDiff, Nat.reduceSub, Nat.reduceAdd, Nat.le_refl, List.length_cons, List.length_append, List.length_nil, dc_length, List.drop_nil, List.take_nil, List.append_nil, List.length_map, List.length_replicate]; first | done | rfl)) (by first | rfl | (simp only [List.drop_succ_cons, List.drop_zero, List.take_succ_cons, List.take_zero, List.cons_append, List.nil_append, List.append_assoc, drop_dc, drop_dc', take_dc, take_dc', drop_L, drop_L', take_L, take_L', len_L, Nat.reduceLeDiff, Nat.reduceSub, Nat.reduceAdd, Nat.le_refl, List.length_cons, List.length_append, List.length_nil, dc_length, List.drop_nil, List.take_nil, List.append_nil, List.length_map, List.length_replicate]; first | done | omega))) ?_
              intro w' hw
              have he : madeE b c = 12 := by unfold madeE blkW; rw [if_neg (by simpa using e1), if_neg (by simpa using e2), if_neg (fun h => by simp_all)]
              exact ⟨recZ, by rw [he]; rfl, St.pureI ⟨rfl, One.h⟩ (St.vl (hw.sel (by repeat (first | exact Sel.nil | (apply Sel.cons; · (repeat (first | exact Pick.here | apply Pick.there)))))) (made_none (by rw [he]; decide)))⟩
          · refine gc_region ?_
            refine gp zfa ?_
            refine gp zL ?_
            refine gp zL ?_
            refine gp (r_bool (c := false) znd (by simp [hS1])) ?_
            refine gp zmv ?_
            refine gq zfa ?_
            refine gq zl ?_
            refine gq zfa ?_
            refine gq zl ?_
            refine gq (r_bool (c := true) zni (by simp [hS2])) ?_
            refine gp zpk ?_
            refine gp zmv ?_
            refine gn ?_
            refine gn ?_
            refine gn ?_
            refine gn ?_
            refine gn ?_
            refine gp zpk ?_
            refine gnt ?_
            refine gc_condT rfl rfl ?_
            refine gc_seq ?_
            refine gc_regionZ 3 [] ?_
            refine yps 0 rfl zbu ?_
            refine yps 1 rfl (r_ld1o rfl Ty.row_38 (hE.c 12 Has.h) (hE.n 12 Has.h)) ?_
            refine yos 2 rfl ?_
            refine zsN ?_
            refine yxs ?_
            refine yzs rfl ?_
            refine gp zas ?_
            refine gnt ?_
            refine gc_ret ?_
            refine gx_then_ret ?_
            refine gx_retct rfl rfl (by conv => lhs; whnf) (ld_aggS Ty.row_181 Ty.sz_181 (by repeat (first | exact Pick.here | apply Pick.there)) (by (simp only [List.drop_succ_cons, List.drop_zero, List.take_succ_cons, List.take_zero, List.cons_append, List.nil_append, List.append_assoc, drop_dc, drop_dc', take_dc, take_dc', drop_L, drop_L', take_L, take_L', len_L, Nat.reduceLeDiff, Nat.reduceSub, Nat.reduceAdd, Nat.le_refl, List.length_cons, List.length_append, List.length_nil, dc_length, List.drop_nil, List.take_nil, List.append_nil, List.length_map, List.length_replicate]; first | done | rfl)) (by first | rfl | (simp only [List.drop_succ_cons, List.drop_zero, List.take_succ_cons, List.take_zero, List.cons_append, List.nil_append, List.append_assoc, drop_dc, drop_dc', take_dc, take_dc', drop_L, drop_L', take_L, take_L', len_L, Nat.reduceLeDiff, Nat.reduceSub, Nat.reduceAdd, Nat.le_refl, List.length_cons, List.length_append, List.length_nil, dc_length, List.drop_nil, List.take_nil, List.append_nil, List.length_map, List.length_replicate]; first | done | omega))) ?_
            intro w' hw
            have he : madeE b c = 12 := by unfold madeE blkW; rw [if_neg (by simpa using e1), if_neg (by simpa using e2), if_neg (fun h => by simp_all)]
            exact ⟨recZ, by rw [he]; rfl, St.pureI ⟨rfl, One.h⟩ (St.vl (hw.sel (by repeat (first | exact Sel.nil | (apply Sel.cons; · (repeat (first | exact Pick.here | apply Pick.there)))))) (made_none (by rw [he]; decide)))⟩
        · refine gc_region ?_
          refine gp zfa ?_
          refine gp zL ?_
          refine gp zL ?_
          refine gp (r_bool (c := true) znd (by simp [hS1])) ?_
          refine gp zmv ?_
          refine gn ?_
          refine gn ?_
          refine gn ?_
          refine gn ?_
          refine gn ?_
          refine gp zpk ?_
          refine gp zmv ?_
          refine gn ?_
          refine gn ?_
          refine gn ?_
          refine gn ?_
          refine gn ?_
          refine gp zpk ?_
          refine gnt ?_
          refine gc_condT rfl rfl ?_
          refine gc_seq ?_
          refine gc_regionZ 3 [] ?_
          refine yps 0 rfl zbu ?_
          refine yps 1 rfl (r_ld1o rfl Ty.row_38 (hE.c 12 Has.h) (hE.n 12 Has.h)) ?_
          refine yos 2 rfl ?_
          refine zsN ?_
          refine yxs ?_
          refine yzs rfl ?_
          refine gp zas ?_
          refine gnt ?_
          refine gc_ret ?_
          refine gx_then_ret ?_
          refine gx_retct rfl rfl (by conv => lhs; whnf) (ld_aggS Ty.row_181 Ty.sz_181 (by repeat (first | exact Pick.here | apply Pick.there)) (by (simp only [List.drop_succ_cons, List.drop_zero, List.take_succ_cons, List.take_zero, List.cons_append, List.nil_append, List.append_assoc, drop_dc, drop_dc', take_dc, take_dc', drop_L, drop_L', take_L, take_L', len_L, Nat.reduceLeDiff, Nat.reduceSub, Nat.reduceAdd, Nat.le_refl, List.length_cons, List.length_append, List.length_nil, dc_length, List.drop_nil, List.take_nil, List.append_nil, List.length_map, List.length_replicate]; first | done | rfl)) (by first | rfl | (simp only [List.drop_succ_cons, List.drop_zero, List.take_succ_cons, List.take_zero, List.cons_append, List.nil_append, List.append_assoc, drop_dc, drop_dc', take_dc, take_dc', drop_L, drop_L', take_L, take_L', len_L, Nat.reduceLeDiff, Nat.reduceSub, Nat.reduceAdd, Nat.le_refl, List.length_cons, List.length_append, List.length_nil, dc_length, List.drop_nil, List.take_nil, List.append_nil, List.length_map, List.length_replicate]; first | done | omega))) ?_
          intro w' hw
          have he : madeE b c = 12 := by unfold madeE blkW; rw [if_neg (by simpa using e1), if_neg (by simpa using e2), if_neg (fun h => by simp_all)]
          exact ⟨recZ, by rw [he]; rfl, St.pureI ⟨rfl, One.h⟩ (St.vl (hw.sel (by repeat (first | exact Sel.nil | (apply Sel.cons; · (repeat (first | exact Pick.here | apply Pick.there)))))) (made_none (by rw [he]; decide)))⟩

end Go.Proofs.YtobjojeliibinaaGreatDoor

/- Walks, by program (wg.py) out of a spec. -/
namespace Go.Proofs.YtobjojeliibinaaGreatDoor
open Go
set_option linter.unusedVariables false
set_option linter.unusedSimpArgs false


theorem list_two {w : World} {A : Nat → Prop} {a a1 a2 : Option Addr} {n1 c1 n2 c2 : Nat} {l1 l2 : List UInt8} (hr : RdRow w A 1 a 2 [.slice a1 n1 c1, .slice a2 n2 c2]) (k1 : n1 ≤ c1) (k2 : n2 ≤ c2) (h1 : RdRow w A 1 a1 n1 (l1.map B8)) (h2 : RdRow w A 1 a2 n2 (l2.map B8)) :
    RdList (RdBytes w A) w A 1 a 2 [l1, l2] :=
  ⟨[[.slice a1 n1 c1], [.slice a2 n2 c2]], hr, by simp, rfl, fun i c x hc hx => by
    match i with
    | 0 => simp at hc hx; subst hc; subst hx; exact ⟨_, _, _, rfl, k1, h1⟩
    | 1 => simp at hc hx; subst hc; subst hx; exact ⟨_, _, _, rfl, k2, h2⟩
    | i + 2 => simp at hc⟩
theorem head_cells (k : Nat) (d : List UInt8) : updL (((firstL k d) ++ List.replicate 56 0).map B8) 8 (dc (dOf Kc 10 [firstL k d, d])) = sc (headL k d) := by
  have h8 : (firstL k d).length = 8 := firstL_len k d
  rw [show dc (dOf Kc 10 [firstL k d, d]) = (dOf Kc 10 [firstL k d, d]).l.map B8 from rfl, updL_updY]
  simp only [updY, sc, headL]
  rw [List.take_left' h8, List.drop_append, List.drop_eq_nil_of_le (by rw [h8, Dig.h]; omega), h8, Dig.h]
  simp
theorem first_cells (k : Nat) (d : List UInt8) : updL ((List.replicate 64 (0 : UInt8)).map B8) 0 ((firstL k d).map B8) = ((firstL k d) ++ List.replicate 56 0).map B8 := by
  have h8 : (firstL k d).length = 8 := firstL_len k d
  rw [updL_updY]; simp [updY, h8]
theorem wfirst {k n : Nat} (hk : k < 4294967296) (hn : n < 4294967296) : wNum (k : Int) 4 (wNum (n : Int) 4 ⟨0, []⟩) = ⟨0, beN (n : Int) 4 ++ beN (k : Int) 4⟩ := by
  have p4 : (256 : Nat) ^ 4 = 4294967296 := by decide
  rw [wNum_of (n := n) (by omega) rfl, wNum_of (n := k) (by omega) rfl]; simp
theorem wfirst1 {n : Nat} (hn : n < 4294967296) : (wNum (n : Int) 4 ⟨0, []⟩).bs.length ≤ 4 := by
  have p4 : (256 : Nat) ^ 4 = 4294967296 := by decide
  rw [wNum_of (by omega) rfl]; simp [beN_length]
/-- A ledger that lies in block q, its disk in block g. -/
structure LS where
  base : Int
  rs : List LRec
  e : Nat
def LedR (q g : Nat) (l : LS) : Res := exR fun x : (Option Addr × Nat) × List (List Value) => allR [pureR (∀ c ∈ x.2, c.length = 18), blk q 179 [.pointer (some ⟨g, 0, none⟩), .int .i64 l.base, .int .i64 l.e, .slice x.1.1 l.rs.length x.1.2], rowR 181 18 x.1.1 l.rs.length x.1.2 x.2.flatten, ElR RdRec x.2 l.rs]
section
variable {w0 w : World} {F F0 : Nat → Prop} {q g : Nat} {l : LS} {L : List Res} {Q : Exit → Act → World → Prop} {n : Fm} {env : Env} {ops : Array Oper} {rest : List Oper}
abbrev ledL (q g : Nat) (b e : Int) (a : Option Addr) (m c : Nat) (css : List (List Value)) (rs : List LRec) (L : List Res) : List Res := blk q 179 [.pointer (some ⟨g, 0, none⟩), .int .i64 b, .int .i64 e, .slice a m c] :: rowR 181 18 a m c css.flatten :: ElR RdRec css rs :: L
theorem led_open (h : stars (LedR q g l :: L) w F) : ∃ a c css, (∀ c ∈ css, List.length c = 18) ∧ stars (ledL q g l.base l.e a l.rs.length c css l.rs L) w F := by
  obtain ⟨⟨⟨a, c⟩, css⟩, h⟩ := stars_ex h
  obtain ⟨h1, h2⟩ := stars_pure (stars_all h)
  exact ⟨a, c, css, h1, h2⟩
theorem St.led {b e : Int} {a : Option Addr} {m c : Nat} {css : List (List Value)} {rs : List LRec} (h : St w0 F0 (ledL q g b e a m c css rs L) w) (h18 : ∀ c ∈ css, List.length c = 18) (hb : b = l.base) (he : e = l.e) (hrs : rs = l.rs) (hm : m = l.rs.length) : St w0 F0 (LedR q g l :: L) w := by
  subst hb; subst he; subst hrs; subst hm
  obtain ⟨F, hF, hst⟩ := h
  exact ⟨F, stars_ex_mk ((a, c), css) (stars_all_mk (stars_pure_mk h18 hF)), hst⟩
theorem St.led0 {b e : Int} (h : St w0 F0 (blk q 179 [.pointer (some ⟨g, 0, none⟩), .int .i64 b, .int .i64 e, .slice none 0 0] :: L) w) (hb : b = l.base) (he : e = l.e) (hrs : l.rs = []) : St w0 F0 (LedR q g l :: L) w := by
  have h1 : St w0 F0 (ledL q g b e none 0 0 [] [] L) w := by
    obtain ⟨F, hF, hst⟩ := h
    exact ⟨F, by
      have hr := el_nil (rd := RdRec) hF
      have h2 := stars_row_nil (e := 181) (size := 18) hr
      exact (Pick.there (Pick.there Pick.here)).stars h2 |> fun h3 => h3, hst⟩
  exact h1.led (by simp) hb he hrs.symm (by rw [hrs]; rfl)
theorem gc_led {c : Code} {L' : List Res} (hp : Pick L (LedR q g l) L') (k : ∀ a m css, (∀ c ∈ css, List.length c = 18) → Gc Tryz.prog w0 F0 (ledL q g l.base l.e a l.rs.length m css l.rs L') c Q n env) : Gc Tryz.prog w0 F0 L c Q n env := fun w hw => by
  obtain ⟨F, hF, hst⟩ := hw.pick hp
  obtain ⟨a, m, css, h18, h⟩ := led_open hF
  exact k a m css h18 w ⟨F, h, hst⟩
theorem gl_led {L' : List Res} (hp : Pick L (LedR q g l) L') (k : ∀ a m css, (∀ c ∈ css, List.length c = 18) → Gl Tryz.prog w0 F0 (ledL q g l.base l.e a l.rs.length m css l.rs L') ops Q rest n env) : Gl Tryz.prog w0 F0 L ops Q rest n env := fun w hw => by
  obtain ⟨F, hF, hst⟩ := hw.pick hp
  obtain ⟨a, m, css, h18, h⟩ := led_open hF
  exact k a m css h18 w ⟨F, h, hst⟩
end

attribute [local irreducible] Gl Gc Gx Gs Runs Wt

set_option maxHeartbeats 400000 in
theorem data_ok {w : World} {F : Nat → Prop} {TE : Nat} {ea : Nat → Addr} {cs : List Value} {r : LRec} (h : stars [] w F) {es : List Nat} [Has es 1] (hE : GErr es w (fun k => ¬ F k) TE ea) (hx : RdRec w (fun k => ¬ F k) cs r) :
    Calls Tryz.prog 93 #[.agg cs.toArray] w (Post w F (fun a : Option Addr × Nat => .tuple #[.slice a.1 r.data.length a.2, eV TE ea 0]) (fun a => [rowR 5 1 a.1 r.data.length a.2 (r.data.map B8)])) := by
  have hlb := bs_len r
  have hlc := cs_len r
  have hdl := data_len r
  obtain ⟨a1, n1, c1, a2, n2, c2, rfl, hx2, hx3, hx4, hx5⟩ := hx
  have hw := wRec_ok hlb hlc
  unfold wRec at hw
  have hd : dataL r.bs r.cs = r.data := rfl
  have hb1 : (wBytes r.bs 65535 ⟨0, []⟩).bs.length ≤ 8487 := by rw [wBytes_fit rfl (by omega)]; simp [beN_length]; omega
  refine g_enter (env := [(0, _)]) Tryz.func93 rfl h Tryz.ntmps93 rfl rfl ?_
  refine gsr ?_
  refine zbN fun b1 => ?_
  refine gp zas ?_
  refine gp zas ?_
  refine gnt ?_
  refine gsr ?_
  refine zc (fun g => ?_) (c := fun w1 F1 F2 h1 h2 hd hst => newwriter_ok (TE := TE) (ea := ea) h1)
  refine gp zas ?_
  refine gnt ?_
  refine gsr ?_
  refine gp zmv ?_
  refine gp zfa ?_
  refine gp zl ?_
  refine zc (fun _ => ?_) (c := fun w1 F1 F2 h1 h2 hd hst => wbytes_ok (b := r.bs) (most := 65535) h1 (hE.mv hst.still) (hx4.mv hst.still) (by decide) (by simp))
  refine gnt ?_
  refine gsr ?_
  refine gp zmv ?_
  refine gp zfa ?_
  refine gp zl ?_
  refine zc (fun _ => ?_) (c := fun w1 F1 F2 h1 h2 hd hst => wbytes_ok (b := r.cs) (most := 65535) h1 (hE.mv hst.still) (hx5.mv hst.still) (by decide) (by omega))
  rw [hw, hd]
  refine gnt ?_
  refine gsr ?_
  refine gp zmv ?_
  refine zc ?_ (c := fun w1 F1 F2 h1 h2 hd hst => done_ok (s := ⟨0, r.data⟩) h1 (by show r.data.length ≤ _; omega))
  rintro ⟨a15, c15⟩
  refine gp zex ?_
  refine gp zex ?_
  refine gp zas ?_
  refine gp zas ?_
  refine gnt ?_
  refine gc_ret ?_
  refine gx_ret2 rfl (by conv => lhs; whnf) (by conv => lhs; whnf) ?_
  exact fun w' hw => ⟨(a15, c15), rfl, hw.sel (by repeat (first | exact Sel.nil | (apply Sel.cons; · (repeat (first | exact Pick.here | apply Pick.there)))))⟩

set_option maxHeartbeats 400000 in
theorem head_ok {w : World} {F : Nat → Prop} {TE : Nat} {ea : Nat → Addr} {a : Option Addr} {n cc k : Nat} {d : List UInt8} (h : stars [] w F) {es : List Nat} [Has es 1] (hE : GErr es w (fun k => ¬ F k) TE ea) (hK : KR w (fun k => ¬ F k)) (hx : RdRow w (fun k => ¬ F k) 1 a n (d.map B8)) (hc : n ≤ cc) (hk : k < 4294967296) (hd : d.length < 4294967296) :
    Calls Tryz.prog 95 #[.int .i64 (k : Int), .slice a n cc] w (Post w F (fun _ : Unit => .tuple #[scV (headL k d), eV TE ea 0]) (fun _ => [])) := by
  have hn : n = d.length := by have := hx.1; simp at this; omega
  subst hn
  have hw := wfirst hk hd
  have h8 := firstL_len k d
  have hl1 := wfirst1 hd
  refine g_enter (env := [(0, _), (1, _)]) Tryz.func95 rfl h Tryz.ntmps95 rfl rfl ?_
  refine gsr ?_
  refine zal fun b4 => ?_
  refine gp zas ?_
  refine gnt ?_
  refine gsr ?_
  refine zal fun b6 => ?_
  refine gl_eqc (cs' := (List.replicate 64 (0 : UInt8)).map B8) (by repeat (first | exact Pick.here | apply Pick.there)) (by simp [B8]) ?_
  refine gnt ?_
  refine gsr ?_
  refine zc (fun g => ?_) (c := fun w1 F1 F2 h1 h2 hd hst => newwriter_ok (TE := TE) (ea := ea) h1)
  refine gp zas ?_
  refine gnt ?_
  refine gsr ?_
  refine gp zmv ?_
  refine gp zmv ?_
  refine gp zln ?_
  refine zc (fun _ => ?_) (c := fun w1 F1 F2 h1 h2 hd hst => number_ok (n := (d.length : Int)) (wd := 4) h1 (hE.mv hst.still) (by decide) (by decide) (by simp))
  refine gnt ?_
  refine gsr ?_
  refine gp zmv ?_
  refine gp zmv ?_
  refine zc (fun _ => ?_) (c := fun w1 F1 F2 h1 h2 hd hst => number_ok (n := (k : Int)) (wd := 4) h1 (hE.mv hst.still) (by decide) (by decide) (by omega))
  rw [hw, show beN (d.length : Int) 4 ++ beN (k : Int) 4 = firstL k d from rfl]
  refine gnt ?_
  refine gsr ?_
  refine gp zmv ?_
  refine zc ?_ (c := fun w1 F1 F2 h1 h2 hd hst => done_ok (s := ⟨0, firstL k d⟩) h1 (by show (firstL k d).length ≤ _; omega))
  rintro ⟨a21, c21⟩
  rw [show wOut ⟨0, firstL k d⟩ = firstL k d from rfl]
  refine gp zmv ?_
  refine gp zex ?_
  refine gp zex ?_
  refine gp zas ?_
  refine gp zas ?_
  refine gnt ?_
  refine gc_seq ?_
  refine gsr ?_
  refine gp zmv ?_
  refine gp (r_nenil rfl (by kernel_rfl)) ?_
  refine gnt ?_
  refine gc_condF rfl rfl ?_
  refine gc_skip ?_
  refine gx_then ?_
  refine gsr ?_
  refine gp zmv ?_
  refine gp zmv ?_
  refine gl_bsls (vs := [.slice a21 (firstL k d).length c21, .slice a d.length cc]) (wt0 rfl) Ty.sl_27 Ty.sz_86 Ty.zc_86 rfl rfl (all_cons' rfl (all_cons' rfl all_nil')) rfl rfl rfl (fun b30 => ?_)
  refine zc (fun _ => ?_) (c := fun w1 F1 F2 h1 h2 hd hst => of_ok (dom := 10) (parts := [firstL k d, d]) h1 (hK.mv hst.still) (list_two (rd_row (xs := [.slice a21 (firstL k d).length c21, .slice a d.length cc]) h2 hd (by repeat (first | exact Pick.here | apply Pick.there))) (rd_le (xs := (firstL k d).map B8) h2 (by repeat (first | exact Pick.here | apply Pick.there))) hc (rd_row (xs := (firstL k d).map B8) h2 hd (by repeat (first | exact Pick.here | apply Pick.there))) (hx.mv hst.still)) (by simp only [pcost, List.map_cons, List.map_nil, List.sum_cons, List.sum_nil]; omega))
  refine zal fun b10 => ?_
  refine zsN ?_
  refine gnt ?_
  refine gc_seq ?_
  refine gc_regionH [] ?_
  refine yp 0 rfl (r_slice_arr (l := 0) (h := 64) rfl Ty.arr_108 Ty.sz_5 rfl rfl (by omega) (by omega) (by omega)) ?_
  refine yp 1 rfl zmv ?_
  refine yp 4 rfl (r_slice_arr (l := 0) (h := 16) rfl Ty.arr_23 Ty.sz_5 rfl rfl (by omega) (by omega) (by omega)) ?_
  refine yo 2 rfl ?_
  refine gl_copy (news := (firstL k d).map B8) (hr := fun w' hw => hw.row (by repeat (first | exact Pick.here | apply Pick.there))) (hj := by omega) (h1 := one_B8 _) (hl := by simp; omega) (k := ?_)
  refine gl_eqc (cs' := (firstL k d ++ List.replicate 56 0).map B8) (by repeat (first | exact Pick.here | apply Pick.there)) (first_cells k d) ?_
  refine yx ?_
  refine yp 3 rfl (r_slice_arr (l := (firstL k d).length) (h := 64) rfl Ty.arr_108 Ty.sz_5 ⟨_, rfl⟩ rfl (by omega) (by omega) (by omega)) ?_
  refine yo 5 rfl ?_
  refine gl_copy (news := dc (dOf Kc 10 [firstL k d, d])) (hr := fun w' hw => (by have hx := hw.rdBlkY (l := (dOf Kc 10 [firstL k d, d]).l) (o := 0) (m := 16) (by repeat (first | exact Pick.here | apply Pick.there)) (by rw [Dig.h]; omega) (by decide); rw [List.drop_zero, List.take_of_length_le (by rw [Dig.h]; omega)] at hx; exact hx)) (hj := by omega) (h1 := dc_one _) (hl := by simp [h8]) (k := ?_)
  refine gl_eqc (cs' := sc (headL k d)) (by repeat (first | exact Pick.here | apply Pick.there)) (by simpa [h8] using head_cells k d) ?_
  refine yx ?_
  refine yd ?_
  refine gx_then ?_
  refine gsr ?_
  refine gp (zL (sg := sc (headL k d))) ?_
  refine zsA (new := sc (headL k d)) (sc_length _) (sc_one _) ?_
  refine gp zas ?_
  refine gnt ?_
  refine gc_ret ?_
  refine gx_retct rfl rfl (by conv => lhs; whnf) (ld_aggS Ty.row_108 Ty.sz_108 (by repeat (first | exact Pick.here | apply Pick.there)) (by (simp only [List.drop_succ_cons, List.drop_zero, List.take_succ_cons, List.take_zero, List.cons_append, List.nil_append, List.append_assoc, drop_dc, drop_dc', take_dc, take_dc', drop_L, drop_L', take_L, take_L', len_L, Nat.reduceLeDiff, Nat.reduceSub, Nat.reduceAdd, Nat.le_refl, List.length_cons, List.length_append, List.length_nil, dc_length, List.drop_nil, List.take_nil, List.append_nil, List.length_map, List.length_replicate]; first | done | rfl)) (by first | rfl | (simp only [List.drop_succ_cons, List.drop_zero, List.take_succ_cons, List.take_zero, List.cons_append, List.nil_append, List.append_assoc, drop_dc, drop_dc', take_dc, take_dc', drop_L, drop_L', take_L, take_L', len_L, Nat.reduceLeDiff, Nat.reduceSub, Nat.reduceAdd, Nat.le_refl, List.length_cons, List.length_append, List.length_nil, dc_length, List.drop_nil, List.take_nil, List.append_nil, List.length_map, List.length_replicate]; first | done | omega))) ?_
  exact fun w' hw => ⟨(), by rw [eV_zero]; rfl, hw.sel (by repeat (first | exact Sel.nil | (apply Sel.cons; · (repeat (first | exact Pick.here | apply Pick.there)))))⟩

end Go.Proofs.YtobjojeliibinaaGreatDoor

/- Walks, by program (wg.py) out of a spec. -/
namespace Go.Proofs.YtobjojeliibinaaGreatDoor
open Go
set_option linter.unusedVariables false
set_option linter.unusedSimpArgs false


theorem rd_byte {w : World} {A : Nat → Prop} {a : Option Addr} {n i : Nat} {l : List UInt8} (h : RdRow w A 1 a n (l.map B8)) (hi : i < n) : ∃ g o, a = some ⟨g, o, none⟩ ∧ A g ∧ w.cell? ⟨g, o + i, none⟩ = some (B8 (l.getD i 0)) := by
  have hn : n = l.length := by have := h.1; simp at this; omega
  obtain ⟨g, o, ha, hA, _, hr⟩ := h.elem hi
  refine ⟨g, o, ha, hA, ?_⟩
  have := hr 0 (B8 (l.getD i 0)) (by simp [List.getD, show i < l.length by omega])
  simpa using this
theorem eq_step {l1 l2 : List UInt8} {k : Nat} (h1 : k < l1.length) (h2 : k < l2.length) (h : l1.take k = l2.take k) (he : l1.getD k 0 = l2.getD k 0) : l1.take (k + 1) = l2.take (k + 1) := by
  simp only [List.getD, List.getElem?_eq_getElem h1, List.getElem?_eq_getElem h2, Option.getD_some] at he
  rw [List.take_add_one, List.take_add_one, h, List.getElem?_eq_getElem h1, List.getElem?_eq_getElem h2, he]
theorem neq_at {l1 l2 : List UInt8} {k : Nat} (he : l1.getD k 0 ≠ l2.getD k 0) : l1 ≠ l2 := fun e => he (by rw [e])
def fmtL (d : DS) (b : Int) : Nat × DS := if d.has b = true then (if (d.wr b sec0).1 = 0 then (if (oper (d.wr b sec0).2).off = true then 6 else 0, (d.wr b sec0).2.syncd) else d.wr b sec0) else (1, d)
def bytesE (f : Nat → Sec) (a n : Nat) : Nat × List UInt8 := match bytesAt f a n with | none => (7, []) | some x => (0, x)
theorem bytesE_bad {f : Nat → Sec} {a n j : Nat} (hj : n + j < 64 * nsec n) (h : (catS f a (nsec n)).getD (n + j) 0 ≠ 0) : bytesE f a n = (7, []) := by
  have hl := catS_len f a (nsec n)
  unfold bytesE bytesAt
  rw [if_neg]
  intro hall
  have := List.all_eq_true.1 hall ((catS f a (nsec n)).getD (n + j) 0) (by
    rw [List.mem_iff_getElem?]
    exact ⟨j, by rw [List.getElem?_drop]; simp [List.getD, show n + j < (catS f a (nsec n)).length by omega]⟩)
  simp at this; exact h this
theorem bytesE_good {f : Nat → Sec} {a n : Nat} (h : ∀ j, n + j < 64 * nsec n → (catS f a (nsec n)).getD (n + j) 0 = 0) : bytesE f a n = (0, (catS f a (nsec n)).take n) := by
  have hl := catS_len f a (nsec n)
  unfold bytesE bytesAt
  rw [if_pos]
  refine List.all_eq_true.2 fun x hx => ?_
  obtain ⟨j, hj⟩ := List.mem_iff_getElem?.1 hx
  rw [List.getElem?_drop] at hj
  have hlt := (List.getElem?_eq_some_iff.1 hj).1
  have := h j (by omega)
  simp [List.getD, hj] at this
  simp [this]

attribute [local irreducible] Gl Gc Gx Gs Runs Wt

set_option maxHeartbeats 400000 in
theorem bytesEq_ok {w : World} {F : Nat → Prop} {a b : Option Addr} {n m c c2 : Nat} {l1 l2 : List UInt8} (h : stars [] w F) (hx : RdRow w (fun k => ¬ F k) 1 a n (l1.map B8)) (hy : RdRow w (fun k => ¬ F k) 1 b m (l2.map B8)) :
    Calls Tryz.prog 176 #[.slice a n c, .slice b m c2] w (Post w F (fun _ : Unit => .bool (decide (l1 = l2))) (fun _ => [])) := by
  have hn : n = l1.length := by have := hx.1; simp at this; omega
  have hm : m = l2.length := by have := hy.1; simp at this; omega
  have hmx := hx.2.1
  simp only [maxLen] at hmx
  refine g_enter (env := [(0, .slice a n c), (1, .slice b m c2)]) Tryz.func176 rfl h Tryz.ntmps176 rfl rfl ?_
  refine gsr ?_
  refine gp zas ?_
  refine gnt ?_
  refine gc_seq ?_
  refine gsr ?_
  refine gp zmv ?_
  refine gp zln ?_
  refine gp zmv ?_
  refine gp zln ?_
  refine gp zni ?_
  refine gnt ?_
  refine gif rfl (fun hc10 => ?_) (fun hc10 => ?_)
  · try simp only at hc10
    have hne : l1 ≠ l2 := fun e => hc10 (by rw [hn, hm, e])
    refine gsr ?_
    refine gp zas ?_
    refine gnt ?_
    refine gc_ret ?_
    refine gx_then_ret ?_
    refine gx_ret1 rfl (by conv => lhs; whnf) ?_
    exact fun w' hw => ⟨(), by rw [decide_eq_false hne], hw.sel (by repeat (first | exact Sel.nil | (apply Sel.cons; · (repeat (first | exact Pick.here | apply Pick.there)))))⟩
  · try simp only at hc10
    have hnm : n = m := by omega
    refine gc_skip ?_
    refine gx_then ?_
    refine gc_seq ?_
    refine gsr ?_
    refine gp zmv ?_
    refine gp zln ?_
    refine gp zmv ?_
    refine gnt ?_
    refine gc_block ?_
    refine gc_loop (α := Nat) (fun k => [pureR (k ≤ n ∧ l1.take k = l2.take k)]) (fun k => [(13, .int .i64 (k : Int))]) [4, 5, 14, 15, 16, 17, 18, 19, 20, 21, 22, 23, 24, 25] (fun k => n - k) 0 ?_ ?_ ?_
    · refine env_start (by kernel_rfl)
    · exact zlp ⟨Nat.zero_le _, rfl⟩
    · intro k u
      refine gc_pureR (fun hk => ?_)
      replace hk : k ≤ n ∧ l1.take k = l2.take k := hk
      refine gsr ?_
      refine gp zlt ?_
      refine gnt ?_
      refine gc_seq ?_
      refine gif rfl (fun hc14 => ?_) (fun hc14 => ?_)
      · try simp only at hc14
        have hk' : k < n := by omega
        obtain ⟨ga, oa, ha, hA, hca⟩ := rd_byte hx hk'
        obtain ⟨gb, ob, hb, hB, hcb⟩ := rd_byte hy (i := k) (by omega)
        subst ha
        subst hb
        refine gc_skip ?_
        refine gx_then ?_
        refine gc_seq ?_
        refine gc_block ?_
        refine gsr ?_
        refine gp zmv ?_
        refine gp zas ?_
        refine gnt ?_
        refine gc_seq ?_
        refine gc_regionS (by kernel_rfl) (by kernel_rfl) ?_
        refine sp zmv ?_
        refine sp zmv ?_
        refine sp (r_val (v' := .pointer (some ⟨ga, oa + k, none⟩)) zia (by simp)) ?_
        refine sp (r_ld1o (v := B8 (l1.getD k 0)) rfl Ty.row_5 (by simpa using hca) hA) ?_
        refine sp zmv ?_
        refine sp zmv ?_
        refine sp (r_val (v' := .pointer (some ⟨gb, ob + k, none⟩)) zia (by simp)) ?_
        refine sp (r_ld1o (v := B8 (l2.getD k 0)) rfl Ty.row_5 (by simpa using hcb) hB) ?_
        refine sp (r_bool (c := !decide (l1.getD k 0 = l2.getD k 0)) (r_neq_int rfl rfl) (by rw [Bool.eq_iff_iff]; simp only [Bool.not_eq_true', decide_eq_false_iff_not]; rw [← UInt8.toNat_inj]; omega)) ?_
        refine gs_nil ?_
        refine gx_then ?_
        refine gif rfl (fun hc24 => ?_) (fun hc24 => ?_)
        · try simp only at hc24
          have hne : l1 ≠ l2 := neq_at (by simpa using hc24)
          refine gsr ?_
          refine gp zas ?_
          refine gnt ?_
          refine gc_ret ?_
          refine gx_block_ret ?_
          refine gx_then_ret ?_
          refine gx_round_ret ?_
          refine gx_block_ret ?_
          refine gx_then_ret ?_
          refine gx_ret1 rfl (by conv => lhs; whnf) ?_
          exact fun w' hw => ⟨(), by rw [decide_eq_false hne], hw.sel (by repeat (first | exact Sel.nil | (apply Sel.cons; · (repeat (first | exact Pick.here | apply Pick.there)))))⟩
        · try simp only at hc24
          replace hc24 : l1.getD k 0 = l2.getD k 0 := by simpa using hc24
          refine gc_skip ?_
          refine gx_block_normal ?_
          refine gx_then ?_
          refine gc_region ?_
          refine gp zad ?_
          refine gp zmv ?_
          refine gl_nil ?_
          refine zrd (k + 1) ?_ ?_
          · show n - (k + 1) < n - k
            omega
          · exact zlp (show k + 1 ≤ n ∧ l1.take (k + 1) = l2.take (k + 1) from ⟨by omega, eq_step (by omega) (by omega) hk.2 hc24⟩)
      · try simp only at hc14
        have hk' : k = n := by omega
        have he : l1 = l2 := by have h2 := hk.2; rw [hk', List.take_of_length_le (by omega), List.take_of_length_le (by omega)] at h2; exact h2
        refine gc_exit ?_
        refine gx_then_exit ?_
        refine gx_round_exit ?_
        refine gx_block_hit ?_
        refine gx_then ?_
        refine gsr ?_
        refine gp zas ?_
        refine gnt ?_
        refine gc_ret ?_
        refine gx_ret1 rfl (by conv => lhs; whnf) ?_
        exact fun w' hw => ⟨(), by rw [decide_eq_true he], hw.sel (by repeat (first | exact Sel.nil | (apply Sel.cons; · (repeat (first | exact Pick.here | apply Pick.there)))))⟩

set_option maxHeartbeats 400000 in
theorem lbegin_ok {w : World} {F : Nat → Prop} {g : Nat} {d : DS} (h : stars [DiskR g d] w F) {b : Int} {ea : Nat → Addr} (hk : DOk d) (hb : d.has b = true) :
    Calls Tryz.prog 89 #[.pointer (some ⟨g, 0, none⟩), .int .i64 b] w (Post w F (fun q : Nat => .tuple #[.pointer (some ⟨q, 0, none⟩), eV 340 ea 0]) (fun q => [LedR q g ⟨b, [], b.toNat⟩, DiskR g d])) := by
  obtain ⟨hb0, hb1⟩ := has_iff.1 hb
  have hn4 := hk.n
  refine g_enter (env := [(0, .pointer (some ⟨g, 0, none⟩)), (1, .int .i64 b)]) Tryz.func89 rfl h Tryz.ntmps89 rfl rfl ?_
  refine gsr ?_
  refine gp zas ?_
  refine gp zas ?_
  refine gnt ?_
  refine gc_seq ?_
  refine gsr ?_
  refine gp zmv ?_
  refine gp (r_bool (c := false) zlt (decide_eq_false (by omega))) ?_
  refine gp zmv ?_
  refine gq zmv ?_
  refine gq zmv ?_
  refine zc (fun _ => ?_) (c := fun w1 F1 F2 h1 h2 hd hst => size_ok h1)
  refine gq (r_bool (c := false) zge (decide_eq_false (by omega))) ?_
  refine gp zpk ?_
  refine gnt ?_
  refine gc_condF rfl rfl ?_
  refine gc_skip ?_
  refine gx_then ?_
  refine gsr ?_
  refine gp zmv ?_
  refine gp zmv ?_
  refine gp zmv ?_
  refine gp zbu ?_
  refine zbN fun b19 => ?_
  refine gp zas ?_
  refine gp zas ?_
  refine gnt ?_
  refine gc_ret ?_
  refine gx_ret2 rfl (by conv => lhs; whnf) (by conv => lhs; whnf) ?_
  exact fun w' hw => ⟨b19, by rw [eV_zero], St.led0 (hw.sel (by repeat (first | exact Sel.nil | (apply Sel.cons; · (repeat (first | exact Pick.here | apply Pick.there)))))) rfl (by show b = ((b.toNat : Nat) : Int); omega) rfl⟩

set_option maxHeartbeats 400000 in
theorem lbegin_bad {w : World} {F : Nat → Prop} {g : Nat} {d : DS} (h : stars [DiskR g d] w F) {b : Int} (hk : DOk d) {ea : Nat → Addr} {es : List Nat} [Has es 1] (hE : GErr es w (fun k => ¬ F k) 340 ea) (hb : d.has b = false) :
    Calls Tryz.prog 89 #[.pointer (some ⟨g, 0, none⟩), .int .i64 b] w (Post w F (fun _ : Unit => .tuple #[.pointer none, eV 340 ea 1]) (fun _ => [DiskR g d])) := by
  have hb' : ¬ (0 ≤ b ∧ b < d.n) := fun h => (by rw [has_iff.2 h] at hb; cases hb)
  have hn4 := hk.n
  refine g_enter (env := [(0, .pointer (some ⟨g, 0, none⟩)), (1, .int .i64 b)]) Tryz.func89 rfl h Tryz.ntmps89 rfl rfl ?_
  refine gsr ?_
  refine gp zas ?_
  refine gp zas ?_
  refine gnt ?_
  refine gc_seq ?_
  refine gc_seq ?_
  by_cases hS : b < 0
  · refine gc_region ?_
    refine gp zmv ?_
    refine gp (r_bool (c := true) zlt (decide_eq_true hS)) ?_
    refine gp zmv ?_
    refine gn ?_
    refine gn ?_
    refine gn ?_
    refine gn ?_
    refine gp zpk ?_
    refine gnt ?_
    refine gc_condT rfl rfl ?_
    refine gc_seq ?_
    refine gc_regionS (by kernel_rfl) (by kernel_rfl) ?_
    refine sp (r_ld1o rfl Ty.row_38 (hE.c 1 Has.h) (hE.n 1 Has.h)) ?_
    refine sp zas ?_
    refine sp zas ?_
    refine gs_nil ?_
    refine gx_then ?_
    refine gc_ret ?_
    refine gx_then_ret ?_
    refine gx_ret2 rfl (by conv => lhs; whnf) (by conv => lhs; whnf) ?_
    exact ze ()
  · refine gc_region ?_
    refine gp zmv ?_
    refine gp (r_bool (c := false) zlt (decide_eq_false hS)) ?_
    refine gp zmv ?_
    refine gq zmv ?_
    refine gq zmv ?_
    refine zc (fun _ => ?_) (c := fun w1 F1 F2 h1 h2 hd hst => size_ok h1)
    refine gq (r_bool (c := true) zge (decide_eq_true (by omega))) ?_
    refine gp zpk ?_
    refine gnt ?_
    refine gc_condT rfl rfl ?_
    refine gc_seq ?_
    refine gc_regionS (by kernel_rfl) (by kernel_rfl) ?_
    refine sp (r_ld1o rfl Ty.row_38 (hE.c 1 Has.h) (hE.n 1 Has.h)) ?_
    refine sp zas ?_
    refine sp zas ?_
    refine gs_nil ?_
    refine gx_then ?_
    refine gc_ret ?_
    refine gx_then_ret ?_
    refine gx_ret2 rfl (by conv => lhs; whnf) (by conv => lhs; whnf) ?_
    exact ze ()

set_option maxHeartbeats 400000 in
theorem formatL_ok {w : World} {F : Nat → Prop} {g : Nat} {d : DS} (h : stars [DiskR g d] w F) {b : Int} (hk : DOk d) {ea : Nat → Addr} {es : List Nat} [Has es 1] [Has es 6] (hE : GErr es w (fun k => ¬ F k) 340 ea)  :
    Calls Tryz.prog 42 #[.pointer (some ⟨g, 0, none⟩), .int .i64 b] w (Post w F (fun q : Nat => .tuple #[.pointer (if (fmtL d b).1 = 0 then some ⟨q, 0, none⟩ else none), eV 340 ea (fmtL d b).1]) (fun q => if (fmtL d b).1 = 0 then [LedR q g ⟨b, [], b.toNat⟩, DiskR g (fmtL d b).2] else [DiskR g (fmtL d b).2])) := by
  refine g_enter (env := [(0, .pointer (some ⟨g, 0, none⟩)), (1, .int .i64 b)]) Tryz.func42 rfl h Tryz.ntmps42 rfl rfl ?_
  refine gsr ?_
  refine gp zas ?_
  refine gp zas ?_
  refine gnt ?_
  refine gc_seq ?_
  by_cases hS : d.has b = true
  · refine gc_region ?_
    refine gp zmv ?_
    refine gp zmv ?_
    refine zc (fun q => ?_) (c := fun w1 F1 F2 h1 h2 hd hst => lbegin_ok (ea := ea) h1 hk hS)
    refine gp zmv ?_
    refine gp zex ?_
    refine gp zex ?_
    refine gp zas ?_
    refine gp zas ?_
    refine gnt ?_
    refine gc_seq ?_
    refine gsr ?_
    refine gp zmv ?_
    refine gp (r_nenil rfl (by kernel_rfl)) ?_
    refine gnt ?_
    refine gc_condF rfl rfl ?_
    refine gc_skip ?_
    refine gx_then ?_
    refine gc_seq ?_
    refine gsr ?_
    refine gp zmv ?_
    refine gp zmv ?_
    refine gp (zba (cs := sc sec0) (by exact rfl)) ?_
    refine zc (fun _ => ?_) (c := fun w1 F1 F2 h1 h2 hd hst => write_ok' (i := b) (v := sec0) h1 hk (hE.mv hst.still))
    refine gp zas ?_
    refine gnt ?_
    refine gsr ?_
    refine gp zmv ?_
    refine gp (r_bool (c := decide (¬ (d.wr b sec0).1 = 0)) (r_nenil rfl (by kernel_rfl)) (by simp)) ?_
    refine gnt ?_
    refine gif rfl (fun hc24 => ?_) (fun hc24 => ?_)
    · try simp only at hc24
      have e : fmtL d b = d.wr b sec0 := by rw [fmtL, if_pos hS, if_neg hc24]
      refine gsr ?_
      refine gp zmv ?_
      refine gp zas ?_
      refine gp zas ?_
      refine gnt ?_
      refine gc_ret ?_
      refine gx_then_ret ?_
      refine gx_ret2 rfl (by conv => lhs; whnf) (by conv => lhs; whnf) ?_
      exact fun w' hw => ⟨0, by simp only [e, if_neg hc24], by simp only [e, if_neg hc24]; exact hw.sel (by repeat (first | exact Sel.nil | (apply Sel.cons; · (repeat (first | exact Pick.here | apply Pick.there)))))⟩
    · try simp only at hc24
      have h0 : (d.wr b sec0).1 = 0 := by simpa using hc24
      have hk2 : DOk (d.wr b sec0).2 := wr_ok hk
      have e : fmtL d b = (if (oper (d.wr b sec0).2).off = true then 6 else 0, (d.wr b sec0).2.syncd) := by rw [fmtL, if_pos hS, if_pos h0]
      refine gc_skip ?_
      refine gx_then ?_
      refine gc_seq ?_
      refine gsr ?_
      refine gp zmv ?_
      refine zc (fun _ => ?_) (c := fun w1 F1 F2 h1 h2 hd hst => sync_ok' h1 hk2 (hE.mv hst.still))
      refine gp zas ?_
      refine gnt ?_
      refine gsr ?_
      refine gp zmv ?_
      refine gp (r_bool (c := (oper (d.wr b sec0).2).off) (r_nenil rfl (by kernel_rfl)) (by cases (oper (d.wr b sec0).2).off <;> rfl)) ?_
      refine gnt ?_
      refine gif rfl (fun hc29 => ?_) (fun hc29 => ?_)
      · refine gsr ?_
        refine gp zmv ?_
        refine gp zas ?_
        refine gp zas ?_
        refine gnt ?_
        refine gc_ret ?_
        refine gx_then_ret ?_
        refine gx_ret2 rfl (by conv => lhs; whnf) (by conv => lhs; whnf) ?_
        exact fun w' hw => ⟨0, by simp only [e, if_pos hc29, if_neg (show ¬ (6 : Nat) = 0 by decide)], by simp only [e, if_pos hc29, if_neg (show ¬ (6 : Nat) = 0 by decide)]; exact hw.sel (by repeat (first | exact Sel.nil | (apply Sel.cons; · (repeat (first | exact Pick.here | apply Pick.there)))))⟩
      · refine gc_skip ?_
        refine gx_then ?_
        refine gsr ?_
        refine gp zmv ?_
        refine gp zas ?_
        refine gp zas ?_
        refine gnt ?_
        refine gc_ret ?_
        refine gx_ret2 rfl (by conv => lhs; whnf) (by conv => lhs; whnf) ?_
        have ho : (oper (d.wr b sec0).2).off = false := hc29
        have e2 : fmtL d b = (0, (d.wr b sec0).2.syncd) := by rw [e, if_neg (by rw [ho]; decide)]
        exact fun w' hw => ⟨q, by rw [e2, eV_zero]; rfl, by simp only [e2, if_pos (show (0 : Nat) = 0 from rfl)]; exact hw.sel (by repeat (first | exact Sel.nil | (apply Sel.cons; · (repeat (first | exact Pick.here | apply Pick.there)))))⟩
  · refine gc_region ?_
    refine gp zmv ?_
    refine gp zmv ?_
    refine zc (fun _ => ?_) (c := fun w1 F1 F2 h1 h2 hd hst => lbegin_bad (b := b) h1 hk (hE.mv hst.still) (by simpa using hS))
    refine gp zmv ?_
    refine gp zex ?_
    refine gp zex ?_
    refine gp zas ?_
    refine gp zas ?_
    refine gnt ?_
    refine gc_seq ?_
    refine gsr ?_
    refine gp zmv ?_
    refine gp (r_nenil rfl (by kernel_rfl)) ?_
    refine gnt ?_
    refine gc_condT rfl rfl ?_
    refine gsr ?_
    refine gp zmv ?_
    refine gp zas ?_
    refine gp zas ?_
    refine gnt ?_
    refine gc_ret ?_
    refine gx_then_ret ?_
    refine gx_ret2 rfl (by conv => lhs; whnf) (by conv => lhs; whnf) ?_
    have e : fmtL d b = (1, d) := by rw [fmtL, if_neg hS]
    exact fun w' hw => ⟨0, by rw [e]; rfl, by simp only [e, if_neg (show ¬ (1 : Nat) = 0 by decide)]; exact hw.sel (by repeat (first | exact Sel.nil | (apply Sel.cons; · (repeat (first | exact Pick.here | apply Pick.there)))))⟩

set_option maxHeartbeats 400000 in
theorem lenL_ok {w : World} {F : Nat → Prop} {q g : Nat} {l : LS} (h : stars [LedR q g l] w F) :
    Calls Tryz.prog 47 #[.pointer (some ⟨q, 0, none⟩)] w (Post w F (fun _ : Unit => .int .i64 (l.rs.length : Int)) (fun _ => [LedR q g l])) := by
  obtain ⟨a0, m0, css, h18, h⟩ := led_open h
  refine g_enter (env := [(0, .pointer (some ⟨q, 0, none⟩))]) Tryz.func47 rfl h Tryz.ntmps47 rfl rfl ?_
  refine gsr ?_
  refine gp zas ?_
  refine gnt ?_
  refine gsr ?_
  refine gp zmv ?_
  refine gp znc ?_
  refine gp zfa ?_
  refine gp zl ?_
  refine gp zln ?_
  refine gp zas ?_
  refine gnt ?_
  refine gc_ret ?_
  refine gx_ret1 rfl (by conv => lhs; whnf) ?_
  exact fun w' hw => ⟨(), rfl, St.led (hw.sel (by repeat (first | exact Sel.nil | (apply Sel.cons; · (repeat (first | exact Pick.here | apply Pick.there)))))) h18 rfl rfl rfl rfl⟩

set_option maxHeartbeats 400000 in
theorem free_ok {w : World} {F : Nat → Prop} {q g : Nat} {l : LS} {d : DS} (h : stars [LedR q g l, DiskR g d] w F) (hk : DOk d) (he : l.e ≤ d.n) :
    Calls Tryz.prog 44 #[.pointer (some ⟨q, 0, none⟩)] w (Post w F (fun _ : Unit => .int .i64 ((d.n - l.e : Nat) : Int)) (fun _ => [LedR q g l, DiskR g d])) := by
  obtain ⟨a0, m0, css, h18, h⟩ := led_open h
  have hn4 := hk.n
  refine g_enter (env := [(0, .pointer (some ⟨q, 0, none⟩))]) Tryz.func44 rfl h Tryz.ntmps44 rfl rfl ?_
  refine gsr ?_
  refine gp zas ?_
  refine gnt ?_
  refine gc_seq ?_
  refine gc_regionZ 10 ([blk q 179 [.pointer (some ⟨g, 0, none⟩), .int .i64 l.base, .int .i64 l.e, .slice a0 l.rs.length m0]]) ?_
  refine yps 0 rfl zmv ?_
  refine yps 1 rfl znc ?_
  refine yps 2 rfl zfa ?_
  refine yps 3 rfl zl ?_
  refine yps 5 rfl zmv ?_
  refine yps 6 rfl znc ?_
  refine yps 7 rfl zfa ?_
  refine yps 8 rfl zl ?_
  refine yos 4 rfl ?_
  refine zc (fun _ => ?_) (c := fun w1 F1 F2 h1 h2 hd hst => size_ok h1)
  refine yxs ?_
  refine yps 9 rfl (r_int (j := ((d.n - l.e : Nat) : Int)) zsb (by omega)) ?_
  refine yzs rfl ?_
  refine gp zas ?_
  refine gnt ?_
  refine gc_ret ?_
  refine gx_ret1 rfl (by conv => lhs; whnf) ?_
  exact fun w' hw => ⟨(), rfl, St.led (hw.sel (by repeat (first | exact Sel.nil | (apply Sel.cons; · (repeat (first | exact Pick.here | apply Pick.there)))))) h18 rfl rfl rfl rfl⟩

set_option maxHeartbeats 400000 in
theorem room_ok {w : World} {F : Nat → Prop} {q g : Nat} {l : LS} {d : DS} (h : stars [LedR q g l, DiskR g d] w F) {n : Nat} (hk : DOk d) (he : l.e ≤ d.n) (hn : n ≤ 1099511627776) :
    Calls Tryz.prog 94 #[.pointer (some ⟨q, 0, none⟩), .int .i64 (n : Int)] w (Post w F (fun _ : Unit => .bool (decide (nsec n + 2 ≤ d.n - l.e))) (fun _ => [LedR q g l, DiskR g d])) := by
  obtain ⟨a0, m0, css, h18, h⟩ := led_open h
  have hn4 := hk.n
  have hns : nsec n ≤ 17179869185 := by unfold nsec; omega
  refine g_enter (env := [(0, .pointer (some ⟨q, 0, none⟩)), (1, .int .i64 (n : Int))]) Tryz.func94 rfl h Tryz.ntmps94 rfl rfl ?_
  refine gsr ?_
  refine gp zas ?_
  refine gnt ?_
  refine gc_seq ?_
  refine gc_regionZ 14 ([blk q 179 [.pointer (some ⟨g, 0, none⟩), .int .i64 l.base, .int .i64 l.e, .slice a0 l.rs.length m0]]) ?_
  refine yps 0 rfl zmv ?_
  refine yps 3 rfl zmv ?_
  refine yps 4 rfl znc ?_
  refine yps 5 rfl zfa ?_
  refine yps 6 rfl zl ?_
  refine yps 8 rfl zmv ?_
  refine yps 9 rfl znc ?_
  refine yps 10 rfl zfa ?_
  refine yps 11 rfl zl ?_
  refine yos 1 rfl ?_
  refine zc (fun _ => ?_) (c := fun w1 F1 F2 h1 h2 hd hst => sectors_ok h1 hn)
  refine yxs ?_
  refine yps 2 rfl zad ?_
  refine yos 7 rfl ?_
  refine zc (fun _ => ?_) (c := fun w1 F1 F2 h1 h2 hd hst => size_ok h1)
  refine yxs ?_
  refine yps 12 rfl (r_int (j := ((d.n - l.e : Nat) : Int)) zsb (by omega)) ?_
  refine yps 13 rfl (r_bool (c := decide (nsec n + 2 ≤ d.n - l.e)) zle (by rw [Bool.eq_iff_iff]; simp only [decide_eq_true_eq]; omega)) ?_
  refine yzs rfl ?_
  refine gp zas ?_
  refine gnt ?_
  refine gc_ret ?_
  refine gx_ret1 rfl (by conv => lhs; whnf) ?_
  exact fun w' hw => ⟨(), rfl, St.led (hw.sel (by repeat (first | exact Sel.nil | (apply Sel.cons; · (repeat (first | exact Pick.here | apply Pick.there)))))) h18 rfl rfl rfl rfl⟩

end Go.Proofs.YtobjojeliibinaaGreatDoor

/- Walks, by program (wg.py) out of a spec. -/
namespace Go.Proofs.YtobjojeliibinaaGreatDoor
open Go
set_option linter.unusedVariables false
set_option linter.unusedSimpArgs false


section
variable {w0 w : World} {F F0 : Nat → Prop} {L L' : List Res} {Q : Exit → Act → World → Prop} {n : Fm} {env : Env} {ops : Array Oper} {rest : List Oper} {P : Program}
theorem row_cut {e a c m k} {xs : List Value} (h : stars (rowR e 1 a m c xs :: L) w F) (hk : k ≤ m) : stars (rowR e 1 a k c (xs.take k) :: L) w F := by
  obtain ⟨F1, F2, ⟨h1, h2, h3, h4⟩, hs, hF, hd⟩ := h
  refine ⟨F1, F2, ⟨by rw [List.length_take]; omega, by omega, h3, h4.imp id ?_⟩, hs, hF, hd⟩
  rintro ⟨g, o, cs, fz, ha, hf, hg, hz, hl, hx⟩
  exact ⟨g, o, cs, fz, ha, hf, hg, hz, hl, by rw [← hx, List.take_take]; congr 1; omega⟩
theorem St.rowCut {e a c m k} {xs : List Value} (h : St w0 F0 (rowR e 1 a m c xs :: L) w) (hk : k ≤ m) : St w0 F0 (rowR e 1 a k c (xs.take k) :: L) w := h.mapL fun F hF => row_cut hF hk
theorem St.rowAt {e size a m c} {xs : List Value} (hw : St w0 F0 L w) (hp : Pick L (rowR e size a m c xs) L') (hm : 0 < m) : m ≤ c ∧ ∃ g o, a = some ⟨g, o, none⟩ := by
  obtain ⟨F, hF, _⟩ := hw
  obtain ⟨F1, ⟨h1, h2, h3, h4⟩, _⟩ := stars_pick hp hF
  refine ⟨h2, ?_⟩
  rcases h4 with ⟨_, hc, _⟩ | ⟨g, o, _, _, ha, _⟩
  · omega
  · exact ⟨g, o, ha⟩
end
theorem add_at (g o k : Nat) : (some (⟨g, o, none⟩ : Addr)).map (·.add k) = some ⟨g, o + k, none⟩ := by simp [Addr.add_mid]

attribute [local irreducible] Gl Gc Gx Gs Runs Wt

set_option maxHeartbeats 400000 in
theorem lbytes_ok {w : World} {F : Nat → Prop} {q g : Nat} {l : LS} {d : DS} (h : stars [LedR q g l, DiskR g d] w F) {i0 n : Nat} (hk : DOk d) {ea : Nat → Addr} {es : List Nat} [Has es 1] [Has es 6] [Has es 7] (hE : GErr es w (fun k => ¬ F k) 340 ea) (ho : d.off = false) (hr : i0 + nsec n ≤ d.n) (hn : 1 ≤ n) :
    Calls Tryz.prog 139 #[.pointer (some ⟨q, 0, none⟩), .int .i64 (i0 : Int), .int .i64 (n : Int)] w (Post w F (fun p : Option Addr × Nat => .tuple #[.slice p.1 (bytesE d.at i0 n).2.length p.2, eV 340 ea (bytesE d.at i0 n).1]) (fun p => [rowR 5 1 p.1 (bytesE d.at i0 n).2.length p.2 ((bytesE d.at i0 n).2.map B8), LedR q g l, DiskR g d])) := by
  obtain ⟨a0, m0, css, h18, h⟩ := led_open h
  have hn4 := hk.n
  have hns : n ≤ 64 * nsec n ∧ 64 * nsec n < n + 64 := by unfold nsec; omega
  have hcl := catS_len d.at i0 (nsec n)
  refine g_enter (env := [(0, .pointer (some ⟨q, 0, none⟩)), (1, .int .i64 (i0 : Int)), (2, .int .i64 (n : Int))]) Tryz.func139 rfl h Tryz.ntmps139 rfl rfl ?_
  refine gsr ?_
  refine gp zas ?_
  refine gp zas ?_
  refine gnt ?_
  refine gsr ?_
  refine gp zas ?_
  refine gnt ?_
  refine gc_seq ?_
  refine gsr ?_
  refine gp zmv ?_
  refine zc (fun _ => ?_) (c := fun w1 F1 F2 h1 h2 hd hst => sectors_ok h1 (by omega))
  refine gp zmv ?_
  refine gnt ?_
  refine gc_block ?_
  refine gc_loop (α := Nat × Option Addr × Nat) (fun y => [pureR (y.1 ≤ nsec n), rowR 5 1 y.2.1 (64 * y.1) y.2.2 ((catS d.at i0 y.1).map B8), blk q 179 [.pointer (some ⟨g, 0, none⟩), .int .i64 l.base, .int .i64 l.e, .slice a0 l.rs.length m0], rowR 181 18 a0 l.rs.length m0 css.flatten, ElR RdRec css l.rs, DiskR g d]) (fun y => [(8, .slice y.2.1 (64 * y.1) y.2.2), (16, .int .i64 (y.1 : Int))]) [6, 7, 9, 10, 11, 17, 18, 19, 20, 21, 22, 23, 24, 25, 26, 27, 28, 29, 30, 31, 32, 33, 34, 35, 36] (fun y => nsec n - y.1) (0, none, 0) ?_ ?_ ?_
  · refine env_start (by kernel_rfl)
  · exact fun w' hw => St.pureI (Nat.zero_le _) (hw.rowNil.sel (by repeat (first | exact Sel.nil | (apply Sel.cons; · (repeat (first | exact Pick.here | apply Pick.there))))))
  · intro y u
    obtain ⟨k, a, c⟩ := y
    refine gc_pureR (fun hk' => ?_)
    replace hk' : k ≤ nsec n := hk'
    refine gsr ?_
    refine gp zlt ?_
    refine gnt ?_
    refine gc_seq ?_
    refine gif rfl (fun hc17 => ?_) (fun hc17 => ?_)
    · try simp only at hc17
      have hkn : k < nsec n := by omega
      refine gc_skip ?_
      refine gx_then ?_
      refine gc_seq ?_
      refine gc_block ?_
      refine gsr ?_
      refine gp zmv ?_
      refine gp zas ?_
      refine gnt ?_
      refine gsr ?_
      refine gp zmv ?_
      refine gp znc ?_
      refine gp zfa ?_
      refine gp zl ?_
      refine gp zmv ?_
      refine gp zmv ?_
      refine gp (r_int (j := ((i0 + k : Nat) : Int)) zad (by omega)) ?_
      refine zc (fun _ => ?_) (c := fun w1 F1 F2 h1 h2 hd hst => read_ok (i := ((i0 + k : Nat) : Int)) h1 (hE.mv hst.still))
      rw [show d.rd ((i0 + k : Nat) : Int) = (0, d.at (i0 + k)) from rd_at (has_iff.2 ⟨by omega, by omega⟩) ho]
      refine gp zmv ?_
      refine gp zex ?_
      refine gp zex ?_
      refine zal fun b10 => ?_
      refine zsA (new := sc (d.at (i0 + k))) (sc_length _) (sc_one _) ?_
      refine gp zas ?_
      refine gnt ?_
      refine gc_seq ?_
      refine gsr ?_
      refine gp zmv ?_
      refine gp (r_bool (c := false) (r_nenil rfl (by kernel_rfl)) rfl) ?_
      refine gnt ?_
      refine gc_condF rfl rfl ?_
      refine gc_skip ?_
      refine gx_then ?_
      refine gc_region ?_
      refine gp zmv ?_
      refine gp (r_slice_arr (l := 0) (h := 64) rfl Ty.arr_108 Ty.sz_5 rfl rfl (by omega) (by omega) (by omega)) ?_
      refine gl_append (xs := (catS d.at i0 k).map B8) (news := (d.at (i0 + k)).l.map B8) (wt0 rfl) rfl rfl (by repeat (first | exact Pick.here | apply Pick.there)) Ty.el_86 (fun w' hw => (by have hx := hw.rdBlkY (l := (d.at (i0 + k)).l) (o := 0) (m := 64) (by repeat (first | exact Pick.here | apply Pick.there)) (by rw [Sec.h]; omega) (by decide); rw [List.drop_zero, List.take_of_length_le (by rw [Sec.h]; omega)] at hx; exact hx)) (one_B8 _) (by simp only [maxLen]; omega) (by omega) (fun a35 c35 => ?_)
      rw [show 64 * k + (64 - 0) = 64 * (k + 1) by omega]
      refine gp zas ?_
      refine gl_nil ?_
      refine gx_block_normal ?_
      refine gx_then ?_
      refine gc_region ?_
      refine gp zad ?_
      refine gp zmv ?_
      refine gl_nil ?_
      refine zrd ((k + 1, a35, c35)) ?_ ?_
      · show nsec n - (k + 1) < nsec n - k
        omega
      · simp only [catS_succ, List.map_append]
        exact zlp (show k + 1 ≤ nsec n by omega)
    · try simp only at hc17
      have hkn : k = nsec n := by omega
      subst hkn
      refine gc_fact (fun w' hw => St.rowAt (hw.sel (M := [rowR 5 1 a (64 * nsec n) c ((catS d.at i0 (nsec n)).map B8)]) (by repeat (first | exact Sel.nil | (apply Sel.cons; · (repeat (first | exact Pick.here | apply Pick.there)))))) .here (by omega)) (fun hra => ?_)
      obtain ⟨hnc, ga, oa, ha⟩ := hra
      subst ha
      refine gc_exit ?_
      refine gx_then_exit ?_
      refine gx_round_exit ?_
      refine gx_block_hit ?_
      refine gx_then ?_
      refine gc_seq ?_
      refine gc_seq ?_
      by_cases hS : n < 64 * nsec n
      · refine gc_region ?_
        refine gp zmv ?_
        refine gp zmv ?_
        refine gp (r_val (v' := .slice (some ⟨ga, oa + n * 1, none⟩) (64 * nsec n - n) (c - n)) (r_slice_slice (a := some ⟨ga, oa, none⟩) (m := 64 * nsec n) (c := c) (l := n) (h := 64 * nsec n) rfl Ty.sl_86 Ty.sz_5 ⟨_, rfl⟩ rfl (by omega) (by omega)) (by rw [if_neg (by omega), add_at])) ?_
        refine gp zln ?_
        refine gp zmv ?_
        refine gnt ?_
        refine gc_block ?_
        refine gc_loop (α := Nat) (fun j => [pureR (j ≤ 64 * nsec n - n ∧ ∀ i, i < j → (catS d.at i0 (nsec n)).getD (n + i) 0 = 0), rowR 5 1 (some ⟨ga, oa, none⟩) (64 * nsec n) c ((catS d.at i0 (nsec n)).map B8), blk q 179 [.pointer (some ⟨g, 0, none⟩), .int .i64 l.base, .int .i64 l.e, .slice a0 l.rs.length m0], rowR 181 18 a0 l.rs.length m0 css.flatten, ElR RdRec css l.rs, DiskR g d]) (fun j => [(41, .int .i64 (j : Int))]) [6, 7, 13, 42, 43, 44, 45, 46, 47, 48] (fun j => 64 * nsec n - n - j) 0 ?_ ?_ ?_
        · refine env_start (by kernel_rfl)
        · exact zlp ⟨Nat.zero_le _, fun i hi => absurd hi (Nat.not_lt_zero _)⟩
        · intro j u
          refine gc_pureR (fun hj => ?_)
          replace hj : j ≤ 64 * nsec n - n ∧ ∀ i, i < j → (catS d.at i0 (nsec n)).getD (n + i) 0 = 0 := hj
          refine gsr ?_
          refine gp zlt ?_
          refine gnt ?_
          refine gc_seq ?_
          refine gif rfl (fun hc42 => ?_) (fun hc42 => ?_)
          · try simp only at hc42
            have hjn : j < 64 * nsec n - n := by omega
            refine gc_skip ?_
            refine gx_then ?_
            refine gc_seq ?_
            refine gc_block ?_
            refine gsr ?_
            refine gp (r_val (v' := .pointer (some ⟨ga, oa + (n + j), none⟩)) zia (by first | (simp; done) | (simp; omega))) ?_
            refine gp (r_ld1r (v := B8 ((catS d.at i0 (nsec n)).getD (n + j) 0)) rfl Ty.row_5 (by repeat (first | exact Pick.here | apply Pick.there)) (by simp [List.getD, show n + j < (catS d.at i0 (nsec n)).length by omega])) ?_
            refine gp zas ?_
            refine gnt ?_
            refine gsr ?_
            refine gp zmv ?_
            refine gp (r_bool (c := !decide ((catS d.at i0 (nsec n)).getD (n + j) 0 = 0)) zni (by rw [Bool.eq_iff_iff]; simp only [Bool.not_eq_true', decide_eq_false_iff_not]; rw [← UInt8.toNat_inj]; simp)) ?_
            refine gnt ?_
            refine gif rfl (fun hc46 => ?_) (fun hc46 => ?_)
            · try simp only at hc46
              have hbe : bytesE d.at i0 n = (7, []) := bytesE_bad (j := j) (by omega) (by simpa using hc46)
              refine gc_seq ?_
              refine gc_regionS (by kernel_rfl) (by kernel_rfl) ?_
              refine sp (r_ld1o rfl Ty.row_38 (hE.c 7 Has.h) (hE.n 7 Has.h)) ?_
              refine sp zas ?_
              refine sp zas ?_
              refine gs_nil ?_
              refine gx_then ?_
              refine gc_ret ?_
              refine gx_block_ret ?_
              refine gx_then_ret ?_
              refine gx_round_ret ?_
              refine gx_block_ret ?_
              refine gx_then_ret ?_
              refine gx_ret2 rfl (by conv => lhs; whnf) (by conv => lhs; whnf) ?_
              exact fun w' hw => ⟨(none, 0), by rw [hbe]; rfl, by rw [hbe]; exact (St.led (L := [rowR 5 1 none 0 0 [], DiskR g d]) (hw.rowNil.sel (by repeat (first | exact Sel.nil | (apply Sel.cons; · (repeat (first | exact Pick.here | apply Pick.there)))))) h18 rfl rfl rfl rfl).sel (by repeat (first | exact Sel.nil | (apply Sel.cons; · (repeat (first | exact Pick.here | apply Pick.there)))))⟩
            · try simp only at hc46
              replace hc46 : (catS d.at i0 (nsec n)).getD (n + j) 0 = 0 := by simpa using hc46
              refine gc_skip ?_
              refine gx_block_normal ?_
              refine gx_then ?_
              refine gc_region ?_
              refine gp zad ?_
              refine gp zmv ?_
              refine gl_nil ?_
              refine zrd (j + 1) ?_ ?_
              · show 64 * nsec n - n - (j + 1) < 64 * nsec n - n - j
                omega
              · exact zlp (show j + 1 ≤ 64 * nsec n - n ∧ ∀ i, i < j + 1 → (catS d.at i0 (nsec n)).getD (n + i) 0 = 0 from ⟨by omega, fun i hi => (by by_cases h : i < j; exact hj.2 i h; (obtain rfl : i = j := by omega); exact hc46)⟩)
          · try simp only at hc42
            have hjn : j = 64 * nsec n - n := by omega
            have hbe : bytesE d.at i0 n = (0, (catS d.at i0 (nsec n)).take n) := bytesE_good (fun i hi => hj.2 i (by omega))
            refine gc_exit ?_
            refine gx_then_exit ?_
            refine gx_round_exit ?_
            refine gx_block_hit ?_
            refine gx_then ?_
            refine gsr ?_
            refine gp zmv ?_
            refine gp zmv ?_
            refine gp (r_val (v' := .slice (some ⟨ga, oa, none⟩) n c) (r_slice_slice (a := some ⟨ga, oa, none⟩) (m := 64 * nsec n) (c := c) (l := 0) (h := n) rfl Ty.sl_86 Ty.sz_5 rfl ⟨_, rfl⟩ (Nat.zero_le _) (by omega)) (by rw [if_neg (by omega), add_at]; simp)) ?_
            refine gp zas ?_
            refine gp zas ?_
            refine gnt ?_
            refine gc_ret ?_
            refine gx_ret2 rfl (by conv => lhs; whnf) (by conv => lhs; whnf) ?_
            have hl : ((catS d.at i0 (nsec n)).take n).length = n := by rw [List.length_take]; omega
            intro w' hw
            have h1 := St.rowCut (k := n) (hw.sel (M := [rowR 5 1 (some ⟨ga, oa, none⟩) (64 * nsec n) c ((catS d.at i0 (nsec n)).map B8), blk q 179 [.pointer (some ⟨g, 0, none⟩), .int .i64 l.base, .int .i64 l.e, .slice a0 l.rs.length m0], rowR 181 18 a0 l.rs.length m0 css.flatten, ElR RdRec css l.rs, DiskR g d]) (by repeat (first | exact Sel.nil | (apply Sel.cons; · (repeat (first | exact Pick.here | apply Pick.there)))))) (by omega)
            rw [← List.map_take] at h1
            exact ⟨(some ⟨ga, oa, none⟩, c), by rw [hbe, eV_zero]; simp only [hl], by rw [hbe]; simp only [hl]; exact (St.led (L := [rowR 5 1 (some ⟨ga, oa, none⟩) n c (((catS d.at i0 (nsec n)).take n).map B8), DiskR g d]) (h1.sel (by repeat (first | exact Sel.nil | (apply Sel.cons; · (repeat (first | exact Pick.here | apply Pick.there)))))) h18 rfl rfl rfl rfl).sel (by repeat (first | exact Sel.nil | (apply Sel.cons; · (repeat (first | exact Pick.here | apply Pick.there)))))⟩
      · refine gc_region ?_
        refine gp zmv ?_
        refine gp zmv ?_
        refine gp (r_slice_slice (a := some ⟨ga, oa, none⟩) (m := 64 * nsec n) (c := c) (l := n) (h := 64 * nsec n) rfl Ty.sl_86 Ty.sz_5 ⟨_, rfl⟩ rfl (by omega) (by omega)) ?_
        refine gp zln ?_
        refine gp zmv ?_
        refine gnt ?_
        refine gc_block ?_
        refine gc_loop (α := Nat) (fun j => [pureR (j ≤ 64 * nsec n - n ∧ ∀ i, i < j → (catS d.at i0 (nsec n)).getD (n + i) 0 = 0), rowR 5 1 (some ⟨ga, oa, none⟩) (64 * nsec n) c ((catS d.at i0 (nsec n)).map B8), blk q 179 [.pointer (some ⟨g, 0, none⟩), .int .i64 l.base, .int .i64 l.e, .slice a0 l.rs.length m0], rowR 181 18 a0 l.rs.length m0 css.flatten, ElR RdRec css l.rs, DiskR g d]) (fun j => [(41, .int .i64 (j : Int))]) [6, 7, 13, 42, 43, 44, 45, 46, 47, 48] (fun j => 64 * nsec n - n - j) 0 ?_ ?_ ?_
        · refine env_start (by kernel_rfl)
        · exact zlp ⟨Nat.zero_le _, fun i hi => absurd hi (Nat.not_lt_zero _)⟩
        · intro j u
          refine gc_pureR (fun hj => ?_)
          replace hj : j ≤ 64 * nsec n - n ∧ ∀ i, i < j → (catS d.at i0 (nsec n)).getD (n + i) 0 = 0 := hj
          refine gsr ?_
          refine gp zlt ?_
          refine gnt ?_
          refine gc_seq ?_
          refine gif rfl (fun hc42 => ?_) (fun hc42 => ?_)
          · try simp only at hc42
            exfalso; omega
          · try simp only at hc42
            have hjn : j = 64 * nsec n - n := by omega
            have hbe : bytesE d.at i0 n = (0, (catS d.at i0 (nsec n)).take n) := bytesE_good (fun i hi => hj.2 i (by omega))
            refine gc_exit ?_
            refine gx_then_exit ?_
            refine gx_round_exit ?_
            refine gx_block_hit ?_
            refine gx_then ?_
            refine gsr ?_
            refine gp zmv ?_
            refine gp zmv ?_
            refine gp (r_val (v' := .slice (some ⟨ga, oa, none⟩) n c) (r_slice_slice (a := some ⟨ga, oa, none⟩) (m := 64 * nsec n) (c := c) (l := 0) (h := n) rfl Ty.sl_86 Ty.sz_5 rfl ⟨_, rfl⟩ (Nat.zero_le _) (by omega)) (by rw [if_neg (by omega), add_at]; simp)) ?_
            refine gp zas ?_
            refine gp zas ?_
            refine gnt ?_
            refine gc_ret ?_
            refine gx_ret2 rfl (by conv => lhs; whnf) (by conv => lhs; whnf) ?_
            have hl : ((catS d.at i0 (nsec n)).take n).length = n := by rw [List.length_take]; omega
            intro w' hw
            have h1 := St.rowCut (k := n) (hw.sel (M := [rowR 5 1 (some ⟨ga, oa, none⟩) (64 * nsec n) c ((catS d.at i0 (nsec n)).map B8), blk q 179 [.pointer (some ⟨g, 0, none⟩), .int .i64 l.base, .int .i64 l.e, .slice a0 l.rs.length m0], rowR 181 18 a0 l.rs.length m0 css.flatten, ElR RdRec css l.rs, DiskR g d]) (by repeat (first | exact Sel.nil | (apply Sel.cons; · (repeat (first | exact Pick.here | apply Pick.there)))))) (by omega)
            rw [← List.map_take] at h1
            exact ⟨(some ⟨ga, oa, none⟩, c), by rw [hbe, eV_zero]; simp only [hl], by rw [hbe]; simp only [hl]; exact (St.led (L := [rowR 5 1 (some ⟨ga, oa, none⟩) n c (((catS d.at i0 (nsec n)).take n).map B8), DiskR g d]) (h1.sel (by repeat (first | exact Sel.nil | (apply Sel.cons; · (repeat (first | exact Pick.here | apply Pick.there)))))) h18 rfl rfl rfl rfl).sel (by repeat (first | exact Sel.nil | (apply Sel.cons; · (repeat (first | exact Pick.here | apply Pick.there)))))⟩

end Go.Proofs.YtobjojeliibinaaGreatDoor

/- Walks, by program (wg.py) out of a spec. -/
namespace Go.Proofs.YtobjojeliibinaaGreatDoor
open Go
set_option linter.unusedVariables false
set_option linter.unusedSimpArgs false


theorem allE_good' {α : Type} {p : PR α} {z : α} {b : List UInt8} (hp : NoZ p) (h : (allE p z b).1 = 0) : pAll p b = .ok (allE p z b).2 := by
  unfold allE at h ⊢; split
  · rename_i m hm; exact hm
  · rename_i k hk
    rw [hk] at h
    replace h : k = 0 := h
    subst h
    exfalso
    unfold pAll at hk
    cases hb : p b with
    | error e =>
      rw [hb] at hk
      cases hk
      exact hp b hb
    | ok x => rw [hb] at hk; obtain ⟨y, r⟩ := x; cases r <;> simp at hk
theorem noz_rec : NoZ pRec := noz_bind (noz_bytes _) fun _ => noz_bind (noz_bytes _) fun _ => noz_pure _
theorem rdRec_n1 {x : List UInt8} {z : List UInt8 × List UInt8} (h : (allE pRec z x).1 ≠ 0) : rdRec x = none := by
  unfold rdRec; unfold allE at h; cases hp : pAll pRec x with
  | error e => rfl
  | ok y => rw [hp] at h; exact absurd rfl h
theorem rdRec_n2 {x l1 l2 : List UInt8} {z : Block} (h : pAll pRec x = .ok (l1, l2)) (h1 : (allE pBlock z l1).1 ≠ 0) : rdRec x = none := by
  unfold rdRec; rw [h]; unfold allE at h1; cases hp : pAll pBlock l1 with
  | error e => simp only [hp]
  | ok y => rw [hp] at h1; exact absurd rfl h1
theorem rdRec_n3 {x l1 l2 : List UInt8} {z b : Block} (h : pAll pRec x = .ok (l1, l2)) (hb : pAll pBlock l1 = .ok b) (h1 : (allE pBlock z l2).1 ≠ 0) : rdRec x = none := by
  unfold rdRec; rw [h]; simp only [hb]; unfold allE at h1; cases hp : pAll pBlock l2 with
  | error e => rfl
  | ok y => rw [hp] at h1; exact absurd rfl h1
theorem rdRec_n4 {x l1 l2 : List UInt8} {b c : Block} (h : pAll pRec x = .ok (l1, l2)) (hb : pAll pBlock l1 = .ok b) (hc : pAll pBlock l2 = .ok c) (h1 : madeE b c.justify ≠ 0) : rdRec x = none := by
  unfold rdRec; rw [h]; simp only [hb, hc]; rw [if_neg (fun hh => h1 (made_zero hh.1))]
theorem rdRec_n5 {x l1 l2 : List UInt8} {b c : Block} (h : pAll pRec x = .ok (l1, l2)) (hb : pAll pBlock l1 = .ok b) (hc : pAll pBlock l2 = .ok c) (h1 : (⟨b, c.justify⟩ : LRec).cs ≠ l2) : rdRec x = none := by
  unfold rdRec; rw [h]; simp only [hb, hc]; rw [if_neg (fun hh => h1 hh.2)]
theorem rdRec_y {x l1 l2 : List UInt8} {b c : Block} (h : pAll pRec x = .ok (l1, l2)) (hb : pAll pBlock l1 = .ok b) (hc : pAll pBlock l2 = .ok c) (h0 : madeE b c.justify = 0) (h1 : (⟨b, c.justify⟩ : LRec).cs = l2) : rdRec x = some ⟨b, c.justify⟩ := by
  unfold rdRec; rw [h]; simp only [hb, hc]; rw [if_pos ⟨made_ok h0, h1⟩]
theorem rd_just {w : World} {A : Nat → Prop} {cs : List Value} {b : Block} (h : RdBlock w A cs b) : RdQC w A ((cs.drop 18).take 19) b.justify := by
  obtain ⟨q, a1, n1, c1, a2, n2, c2, rfl, hq, _⟩ := h
  have e : (List.drop 18 (Value.int .i64 b.epoch :: Value.int .i64 b.round :: (dc b.parent ++ (q ++ [Value.slice a1 n1 c1, Value.slice a2 n2 c2])))) = q ++ [Value.slice a1 n1 c1, Value.slice a2 n2 c2] := by
    show List.drop 16 (dc b.parent ++ _) = _
    rw [List.drop_left' (dc_length _)]
  rw [e, List.take_left' hq.len]; exact hq
theorem rd_rows {w : World} {A : Nat → Prop} {r : LRec} {a1 a2 : Option Addr} {n1 c1 n2 c2 : Nat} (h : RdRec w A (dc (idOf r.b) ++ [.slice a1 n1 c1, .slice a2 n2 c2]) r) : RdRow w A 1 a1 n1 (r.bs.map B8) ∧ RdRow w A 1 a2 n2 (r.cs.map B8) ∧ n1 ≤ c1 ∧ n2 ≤ c2 := by
  obtain ⟨b1, m1, d1, b2, m2, d2, he, k1, k2, h1, h2⟩ := h
  have := List.append_cancel_left he
  simp only [List.cons.injEq, Value.slice.injEq, and_true] at this
  obtain ⟨⟨rfl, rfl, rfl⟩, ⟨rfl, rfl, rfl⟩⟩ := this
  exact ⟨h1, h2, k1, k2⟩
theorem RdMade.rec {w : World} {A : Nat → Prop} {cs : List Value} {b : Block} {c : QC} (h0 : madeE b c = 0) (h : RdMade w A cs (b, c)) : RdRec w A cs ⟨b, c⟩ := by unfold RdMade at h; rwa [if_pos h0] at h
def RdOpt (w : World) (A : Nat → Prop) (cs : List Value) (o : Option LRec) : Prop := match o with | none => cs = recZ | some r => RdRec w A cs r
instance : RdK RdOpt := ⟨fun {w w' A A' cs x} h k => by cases x with | none => exact h | some r => exact RdRec.mv h k⟩
theorem rd_optn {w : World} {A : Nat → Prop} : RdOpt w A recZ none := rfl
theorem rd_opts {w : World} {A : Nat → Prop} {b : Block} {c : QC} {cs : List Value} (h0 : madeE b c = 0) (h : RdMade w A cs (b, c)) : RdOpt w A cs (some ⟨b, c⟩) := RdMade.rec h0 h
theorem St.vlOf {α : Type} {rd : World → (Nat → Prop) → List Value → α → Prop} [RdK rd] {w0 w : World} {F0 : Nat → Prop} {L L' : List Res} {cs : List Value} {x : α} (h : St w0 F0 L w) (hp : Pick L (VlR rd cs x) L') : ∃ w A, rd w A cs x := by
  obtain ⟨F, hF, _⟩ := h
  obtain ⟨F1, h1, _⟩ := stars_pick hp hF
  exact ⟨w, F1, h1.1⟩

attribute [local irreducible] Gl Gc Gx Gs Runs Wt

attribute [local irreducible] dc RdMade RdOpt RdRec RdBlock madeE blkC rdRec allE pAll rstep

set_option maxHeartbeats 400000 in
theorem lread_ok {w : World} {F : Nat → Prop} {a : Option Addr} {n cc : Nat} {x : List UInt8} (h : stars [] w F) {TE : Nat} {ea : Nat → Addr} {es : List Nat} [Has es 1] [Has es 2] [Has es 3] [Has es 4] [Has es 7] [Has es 12] (hE : GErr es w (fun k => ¬ F k) TE ea) (hK : KR w (fun k => ¬ F k)) (hx : RdRow w (fun k => ¬ F k) 1 a n (x.map B8)) (hb : n ≤ 1099511627776) :
    Calls Tryz.prog 140 #[.slice a n cc] w (Post w F (fun r : List Value => .tuple #[.agg r.toArray, eV TE ea (if (rdRec x).isSome then 0 else 7)]) (fun r => [pureR (r.length = 18 ∧ ∀ v ∈ r, v.oneCell' = true), VlR RdOpt r (rdRec x)])) := by
  refine g_enter (env := [(0, .slice a n cc)]) Tryz.func140 rfl h Tryz.ntmps140 rfl rfl ?_
  refine gsr ?_
  refine zal fun b2 => ?_
  refine gl_eqc (cs' := recZ) (by repeat (first | exact Pick.here | apply Pick.there)) (by kernel_rfl) ?_
  refine gp zas ?_
  refine gnt ?_
  refine gsr ?_
  refine gp zmv ?_
  refine zc (fun g => ?_) (c := fun w1 F1 F2 h1 h2 hd hst => newReader_ok (TE := TE) (ea := ea) h1 (hx.mv hst.still) hb)
  refine gp zas ?_
  refine gnt ?_
  refine gsr ?_
  refine gp zmv ?_
  refine zc ?_ (c := fun w1 F1 F2 h1 h2 hd hst => rbytes_ok (most := 65535) h1 (hE.mv hst.still) (by decide))
  rintro ⟨a16, c16, l1⟩
  refine gl_pureR (fun hp16 => ?_)
  obtain ⟨g16, k16⟩ := hp16
  replace k16 : l1.length ≤ 65535 := k16
  refine gp zmv ?_
  refine zc ?_ (c := fun w1 F1 F2 h1 h2 hd hst => rbytes_ok (most := 65535) h1 (hE.mv hst.still) (by decide))
  rintro ⟨a18, c18, l2⟩
  refine gl_pureR (fun hp18 => ?_)
  obtain ⟨g18, k18⟩ := hp18
  replace k18 : l2.length ≤ 65535 := k18
  have ha : Ag pRec (.ok x) (l1, l2) := g16.bind (g18.bind (Ag.pure _))
  have hr : rstep pRec (.ok x) = rstep (pBytes 65535) (rstep (pBytes 65535) (.ok x)) := by rw [pRec, rstep_bind g16, rstep_bind g18, rstep_pure]
  have hfin := allE_fin (z := ([], [])) noz_rec ha
  rw [hr] at hfin
  refine gp zas ?_
  refine gp zas ?_
  refine gnt ?_
  refine gc_seq ?_
  refine gsr ?_
  refine gp zmv ?_
  refine zc (fun _ => ?_) (c := fun w1 F1 F2 h1 h2 hd hst => rdone_ok h1 (hE.mv hst.still))
  refine gp (r_bool (c := decide (¬ doneE (rstep (pBytes 65535) (rstep (pBytes 65535) (.ok x))) = 0)) (r_nenil rfl (by kernel_rfl)) (by simp)) ?_
  refine gnt ?_
  refine gif rfl (fun hc21 => ?_) (fun hc21 => ?_)
  · refine gc_seq ?_
    refine gc_regionZ 3 [] ?_
    refine yps 0 rfl zbu ?_
    refine yps 1 rfl (r_ld1o rfl Ty.row_38 (hE.c 7 Has.h) (hE.n 7 Has.h)) ?_
    refine yos 2 rfl ?_
    refine zsN ?_
    refine yxs ?_
    refine yzs rfl ?_
    refine gp zas ?_
    refine gnt ?_
    refine gc_ret ?_
    refine gx_then_ret ?_
    refine gx_retct rfl rfl (by conv => lhs; whnf) (ld_aggS Ty.row_181 Ty.sz_181 (by repeat (first | exact Pick.here | apply Pick.there)) (by (simp only [List.drop_succ_cons, List.drop_zero, List.take_succ_cons, List.take_zero, List.cons_append, List.nil_append, List.append_assoc, drop_dc, drop_dc', take_dc, take_dc', drop_L, drop_L', take_L, take_L', len_L, Nat.reduceLeDiff, Nat.reduceSub, Nat.reduceAdd, Nat.le_refl, List.length_cons, List.length_append, List.length_nil, dc_length, List.drop_nil, List.take_nil, List.append_nil, List.length_map, List.length_replicate]; first | done | rfl)) (by first | rfl | (simp only [List.drop_succ_cons, List.drop_zero, List.take_succ_cons, List.take_zero, List.cons_append, List.nil_append, List.append_assoc, drop_dc, drop_dc', take_dc, take_dc', drop_L, drop_L', take_L, take_L', len_L, Nat.reduceLeDiff, Nat.reduceSub, Nat.reduceAdd, Nat.le_refl, List.length_cons, List.length_append, List.length_nil, dc_length, List.drop_nil, List.take_nil, List.append_nil, List.length_map, List.length_replicate]; first | done | omega))) ?_
    intro w' hw
    have he : rdRec x = none := rdRec_n1 (z := ([], [])) (by rw [← hfin.1]; exact hc21)
    exact ⟨recZ, by rw [he]; rfl, St.pureI ⟨rfl, One.h⟩ (St.vl (hw.sel (by repeat (first | exact Sel.nil | (apply Sel.cons; · (repeat (first | exact Pick.here | apply Pick.there)))))) (by rw [he]; exact rd_optn))⟩
  · try simp only at hc21
    have hd0 : doneE (rstep (pBytes 65535) (rstep (pBytes 65535) (.ok x))) = 0 := by omega
    have hx0 : pAll pRec x = .ok (l1, l2) := by rw [allE_good' (z := ([], [])) noz_rec (by rw [← hfin.1]; exact hd0), hfin.2.1 hd0]
    refine gc_skip ?_
    refine gx_then ?_
    refine gsr ?_
    refine gp zmv ?_
    refine zc (fun q26 => ?_) (c := fun w1 F1 F2 h1 h2 hd hst => readBlock_ok (b := l1) h1 (hE.mv hst.still) (rd_row (xs := l1.map B8) h2 hd (by repeat (first | exact Pick.here | apply Pick.there))) (by show l1.length ≤ _; omega))
    refine gl_pureR (fun hq26 => ?_)
    obtain ⟨hl26, ho26⟩ := hq26
    replace hl26 : q26.length = 39 := hl26
    have i26 := Len.of hl26
    have j26 := One.of (show ∀ v ∈ q26, v.oneCell' = true from ho26)
    refine gp zmv ?_
    refine gp zex ?_
    refine gp zex ?_
    refine zal fun b7 => ?_
    refine zsN ?_
    refine gp zas ?_
    refine gnt ?_
    refine gsr ?_
    refine gp zmv ?_
    refine zc (fun q31 => ?_) (c := fun w1 F1 F2 h1 h2 hd hst => readBlock_ok (b := l2) h1 (hE.mv hst.still) (rd_row (xs := l2.map B8) h2 hd (by repeat (first | exact Pick.here | apply Pick.there))) (by show l2.length ≤ _; omega))
    refine gl_pureR (fun hq31 => ?_)
    obtain ⟨hl31, ho31⟩ := hq31
    replace hl31 : q31.length = 39 := hl31
    have i31 := Len.of hl31
    have j31 := One.of (show ∀ v ∈ q31, v.oneCell' = true from ho31)
    refine gp zmv ?_
    refine gp zex ?_
    refine gp zex ?_
    refine zal fun b9 => ?_
    refine zsN ?_
    refine gp zas ?_
    refine gnt ?_
    refine gc_seq ?_
    refine gc_seq ?_
    by_cases hS1 : (allE pBlock blk0 l1).1 = 0
    · by_cases hS2 : (allE pBlock blk0 l2).1 = 0
      · refine gc_region ?_
        refine gp zmv ?_
        refine gp (r_bool (c := false) (r_nenil rfl (by kernel_rfl)) (by simp [hS1])) ?_
        refine gp zmv ?_
        refine gq zmv ?_
        refine gq (r_bool (c := false) (r_nenil rfl (by kernel_rfl)) (by simp [hS2])) ?_
        refine gp zpk ?_
        refine gnt ?_
        refine gc_condF rfl rfl ?_
        refine gc_skip ?_
        refine gx_then ?_
        refine gsr ?_
        obtain ⟨b, hbk⟩ : ∃ b, pAll pBlock l1 = .ok b := ⟨_, allE_good' noz_block hS1⟩
        obtain ⟨c, hck⟩ : ∃ c, pAll pBlock l2 = .ok c := ⟨_, allE_good' noz_block hS2⟩
        rw [allE_ok (z := blk0) hbk, allE_ok (z := blk0) hck]
        have hbs : (⟨b, c.justify⟩ : LRec).bs = l1 := by rw [LRec.bs, block_dec hbk]
        have i45 := Len.of (show ((q31.drop 18).take 19).length = 19 by rw [List.length_take, List.length_drop]; omega)
        refine gp (zLa (cs := q26)) ?_
        refine gp zfa ?_
        refine gp (zL (sg := (q31.drop 18).take 19) (hg := rfl)) ?_
        refine zc (fun q46 => ?_) (c := fun w1 F1 F2 h1 h2 hd hst => made_ok' (b := b) (c := c.justify) h1 (hE.mv hst.still) (hK.mv hst.still) (vl_rd h2 hd (by repeat (first | exact Pick.here | apply Pick.there))) (rd_just (b := c) (vl_rd h2 hd (by repeat (first | exact Pick.here | apply Pick.there)))))
        refine gl_pureR (fun hq46 => ?_)
        obtain ⟨hl46, ho46⟩ := hq46
        replace hl46 : q46.length = 18 := hl46
        have i46 := Len.of hl46
        have j46 := One.of (show ∀ v ∈ q46, v.oneCell' = true from ho46)
        refine gp zmv ?_
        refine gp zex ?_
        refine gp zex ?_
        refine zal fun b11 => ?_
        refine zsN ?_
        refine gp zas ?_
        refine gnt ?_
        refine gc_seq ?_
        refine gc_seq ?_
        by_cases hS3 : madeE b c.justify = 0
        · refine gc_fact (fun w' hw => St.vlOf (rd := RdMade) (cs := q46) (x := (b, c.justify)) hw (by repeat (first | exact Pick.here | apply Pick.there))) (fun hvl => ?_)
          obtain ⟨wv, A, hvl⟩ := hvl
          have hvl := RdMade.rec hS3 hvl
          unfold RdRec at hvl
          obtain ⟨a1, n1, c1, a2, n2, c2, rfl, _⟩ := hvl
          refine gc_region ?_
          refine gp zmv ?_
          refine gp (r_bool (c := false) (r_nenil rfl (by kernel_rfl)) (by simp [hS3])) ?_
          refine gp zmv ?_
          refine gq zfa ?_
          refine gq zl ?_
          refine gq zmv ?_
          refine zc (fun _ => ?_) (c := fun w1 F1 F2 h1 h2 hd hst => bytesEq_ok (l1 := (⟨b, c.justify⟩ : LRec).bs) (l2 := l1) h1 (rd_rows (r := (⟨b, c.justify⟩ : LRec)) (RdMade.rec hS3 (vl_rd h2 hd (by repeat (first | exact Pick.here | apply Pick.there))))).1 (rd_row (xs := l1.map B8) h2 hd (by repeat (first | exact Pick.here | apply Pick.there))))
          refine gq (r_bool (c := false) znt (by simp [hbs])) ?_
          refine gp zpk ?_
          refine gp zmv ?_
          refine gq zfa ?_
          refine gq zl ?_
          refine gq zmv ?_
          refine zc (fun _ => ?_) (c := fun w1 F1 F2 h1 h2 hd hst => bytesEq_ok (l1 := (⟨b, c.justify⟩ : LRec).cs) (l2 := l2) h1 (rd_rows (r := (⟨b, c.justify⟩ : LRec)) (RdMade.rec hS3 (vl_rd h2 hd (by repeat (first | exact Pick.here | apply Pick.there))))).2.1 (rd_row (xs := l2.map B8) h2 hd (by repeat (first | exact Pick.here | apply Pick.there))))
          refine gq znt ?_
          refine gp zpk ?_
          refine gnt ?_
          refine gif rfl (fun hc64 => ?_) (fun hc64 => ?_)
          · refine gc_seq ?_
            refine gc_regionZ 3 [] ?_
            refine yps 0 rfl zbu ?_
            refine yps 1 rfl (r_ld1o rfl Ty.row_38 (hE.c 7 Has.h) (hE.n 7 Has.h)) ?_
            refine yos 2 rfl ?_
            refine zsN ?_
            refine yxs ?_
            refine yzs rfl ?_
            refine gp zas ?_
            refine gnt ?_
            refine gc_ret ?_
            refine gx_then_ret ?_
            refine gx_retct rfl rfl (by conv => lhs; whnf) (ld_aggS Ty.row_181 Ty.sz_181 (by repeat (first | exact Pick.here | apply Pick.there)) (by (simp only [List.drop_succ_cons, List.drop_zero, List.take_succ_cons, List.take_zero, List.cons_append, List.nil_append, List.append_assoc, drop_dc, drop_dc', take_dc, take_dc', drop_L, drop_L', take_L, take_L', len_L, Nat.reduceLeDiff, Nat.reduceSub, Nat.reduceAdd, Nat.le_refl, List.length_cons, List.length_append, List.length_nil, dc_length, List.drop_nil, List.take_nil, List.append_nil, List.length_map, List.length_replicate]; first | done | rfl)) (by first | rfl | (simp only [List.drop_succ_cons, List.drop_zero, List.take_succ_cons, List.take_zero, List.cons_append, List.nil_append, List.append_assoc, drop_dc, drop_dc', take_dc, take_dc', drop_L, drop_L', take_L, take_L', len_L, Nat.reduceLeDiff, Nat.reduceSub, Nat.reduceAdd, Nat.le_refl, List.length_cons, List.length_append, List.length_nil, dc_length, List.drop_nil, List.take_nil, List.append_nil, List.length_map, List.length_replicate]; first | done | omega))) ?_
            intro w' hw
            have he : rdRec x = none := rdRec_n5 hx0 hbk hck (by simpa using hc64)
            exact ⟨recZ, by rw [he]; rfl, St.pureI ⟨rfl, One.h⟩ (St.vl (hw.sel (by repeat (first | exact Sel.nil | (apply Sel.cons; · (repeat (first | exact Pick.here | apply Pick.there)))))) (by rw [he]; exact rd_optn))⟩
          · refine gc_skip ?_
            refine gx_then ?_
            refine gsr ?_
            refine gp zL ?_
            refine zsN ?_
            refine gp zas ?_
            refine gnt ?_
            refine gc_ret ?_
            refine gx_retct rfl rfl (by conv => lhs; whnf) (ld_aggS Ty.row_181 Ty.sz_181 (by repeat (first | exact Pick.here | apply Pick.there)) (by (simp only [List.drop_succ_cons, List.drop_zero, List.take_succ_cons, List.take_zero, List.cons_append, List.nil_append, List.append_assoc, drop_dc, drop_dc', take_dc, take_dc', drop_L, drop_L', take_L, take_L', len_L, Nat.reduceLeDiff, Nat.reduceSub, Nat.reduceAdd, Nat.le_refl, List.length_cons, List.length_append, List.length_nil, dc_length, List.drop_nil, List.take_nil, List.append_nil, List.length_map, List.length_replicate]; first | done | rfl)) (by first | rfl | (simp only [List.drop_succ_cons, List.drop_zero, List.take_succ_cons, List.take_zero, List.cons_append, List.nil_append, List.append_assoc, drop_dc, drop_dc', take_dc, take_dc', drop_L, drop_L', take_L, take_L', len_L, Nat.reduceLeDiff, Nat.reduceSub, Nat.reduceAdd, Nat.le_refl, List.length_cons, List.length_append, List.length_nil, dc_length, List.drop_nil, List.take_nil, List.append_nil, List.length_map, List.length_replicate]; first | done | omega))) ?_
            have hcs : (⟨b, c.justify⟩ : LRec).cs = l2 := by simpa using hc64
            have he := rdRec_y hx0 hbk hck hS3 hcs
            intro w' hw
            have hw2 := hw.conv (M := [VlR RdMade (dc (idOf b) ++ [.slice a1 n1 c1, .slice a2 n2 c2]) (b, c.justify)]) (N := [VlR RdOpt (dc (idOf b) ++ [.slice a1 n1 c1, .slice a2 n2 c2]) (some (⟨b, c.justify⟩ : LRec))]) (by repeat (first | exact Sel.nil | (apply Sel.cons; · (repeat (first | exact Pick.here | apply Pick.there))))) (fun _ _ h => rdR_mk (rd_opts hS3 (stars_one' h).1) h)
            exact ⟨dc (idOf b) ++ [.slice a1 n1 c1, .slice a2 n2 c2], by rw [he]; simp only [Option.isSome_some, if_true, eV_zero], St.pureI ⟨by simp [dc_length], all_app' (dc_one _) (all_cons' rfl (all_cons' rfl all_nil'))⟩ (by rw [he]; exact hw2.sel (by repeat (first | exact Sel.nil | (apply Sel.cons; · (repeat (first | exact Pick.here | apply Pick.there))))))⟩
        · refine gc_region ?_
          refine gp zmv ?_
          refine gp (r_bool (c := true) (r_nenil rfl (by kernel_rfl)) (by simp [hS3])) ?_
          refine gp zmv ?_
          refine gn ?_
          refine gn ?_
          refine gn ?_
          refine gn ?_
          refine gn ?_
          refine gp zpk ?_
          refine gp zmv ?_
          refine gn ?_
          refine gn ?_
          refine gn ?_
          refine gn ?_
          refine gn ?_
          refine gp zpk ?_
          refine gnt ?_
          refine gc_condT rfl rfl ?_
          refine gc_seq ?_
          refine gc_regionZ 3 [] ?_
          refine yps 0 rfl zbu ?_
          refine yps 1 rfl (r_ld1o rfl Ty.row_38 (hE.c 7 Has.h) (hE.n 7 Has.h)) ?_
          refine yos 2 rfl ?_
          refine zsN ?_
          refine yxs ?_
          refine yzs rfl ?_
          refine gp zas ?_
          refine gnt ?_
          refine gc_ret ?_
          refine gx_then_ret ?_
          refine gx_retct rfl rfl (by conv => lhs; whnf) (ld_aggS Ty.row_181 Ty.sz_181 (by repeat (first | exact Pick.here | apply Pick.there)) (by (simp only [List.drop_succ_cons, List.drop_zero, List.take_succ_cons, List.take_zero, List.cons_append, List.nil_append, List.append_assoc, drop_dc, drop_dc', take_dc, take_dc', drop_L, drop_L', take_L, take_L', len_L, Nat.reduceLeDiff, Nat.reduceSub, Nat.reduceAdd, Nat.le_refl, List.length_cons, List.length_append, List.length_nil, dc_length, List.drop_nil, List.take_nil, List.append_nil, List.length_map, List.length_replicate]; first | done | rfl)) (by first | rfl | (simp only [List.drop_succ_cons, List.drop_zero, List.take_succ_cons, List.take_zero, List.cons_append, List.nil_append, List.append_assoc, drop_dc, drop_dc', take_dc, take_dc', drop_L, drop_L', take_L, take_L', len_L, Nat.reduceLeDiff, Nat.reduceSub, Nat.reduceAdd, Nat.le_refl, List.length_cons, List.length_append, List.length_nil, dc_length, List.drop_nil, List.take_nil, List.append_nil, List.length_map, List.length_replicate]; first | done | omega))) ?_
          intro w' hw
          have he : rdRec x = none := rdRec_n4 hx0 hbk hck hS3
          exact ⟨recZ, by rw [he]; rfl, St.pureI ⟨rfl, One.h⟩ (St.vl (hw.sel (by repeat (first | exact Sel.nil | (apply Sel.cons; · (repeat (first | exact Pick.here | apply Pick.there)))))) (by rw [he]; exact rd_optn))⟩
      · refine gc_region ?_
        refine gp zmv ?_
        refine gp (r_bool (c := false) (r_nenil rfl (by kernel_rfl)) (by simp [hS1])) ?_
        refine gp zmv ?_
        refine gq zmv ?_
        refine gq (r_bool (c := true) (r_nenil rfl (by kernel_rfl)) (by simp [hS2])) ?_
        refine gp zpk ?_
        refine gnt ?_
        refine gc_condT rfl rfl ?_
        refine gc_seq ?_
        refine gc_regionZ 3 [] ?_
        refine yps 0 rfl zbu ?_
        refine yps 1 rfl (r_ld1o rfl Ty.row_38 (hE.c 7 Has.h) (hE.n 7 Has.h)) ?_
        refine yos 2 rfl ?_
        refine zsN ?_
        refine yxs ?_
        refine yzs rfl ?_
        refine gp zas ?_
        refine gnt ?_
        refine gc_ret ?_
        refine gx_then_ret ?_
        refine gx_retct rfl rfl (by conv => lhs; whnf) (ld_aggS Ty.row_181 Ty.sz_181 (by repeat (first | exact Pick.here | apply Pick.there)) (by (simp only [List.drop_succ_cons, List.drop_zero, List.take_succ_cons, List.take_zero, List.cons_append, List.nil_append, List.append_assoc, drop_dc, drop_dc', take_dc, take_dc', drop_L, drop_L', take_L, take_L', len_L, Nat.reduceLeDiff, Nat.reduceSub, Nat.reduceAdd, Nat.le_refl, List.length_cons, List.length_append, List.length_nil, dc_length, List.drop_nil, List.take_nil, List.append_nil, List.length_map, List.length_replicate]; first | done | rfl)) (by first | rfl | (simp only [List.drop_succ_cons, List.drop_zero, List.take_succ_cons, List.take_zero, List.cons_append, List.nil_append, List.append_assoc, drop_dc, drop_dc', take_dc, take_dc', drop_L, drop_L', take_L, take_L', len_L, Nat.reduceLeDiff, Nat.reduceSub, Nat.reduceAdd, Nat.le_refl, List.length_cons, List.length_append, List.length_nil, dc_length, List.drop_nil, List.take_nil, List.append_nil, List.length_map, List.length_replicate]; first | done | omega))) ?_
        intro w' hw
        have he : rdRec x = none := rdRec_n3 hx0 (allE_good' noz_block hS1) hS2
        exact ⟨recZ, by rw [he]; rfl, St.pureI ⟨rfl, One.h⟩ (St.vl (hw.sel (by repeat (first | exact Sel.nil | (apply Sel.cons; · (repeat (first | exact Pick.here | apply Pick.there)))))) (by rw [he]; exact rd_optn))⟩
    · refine gc_region ?_
      refine gp zmv ?_
      refine gp (r_bool (c := true) (r_nenil rfl (by kernel_rfl)) (by simp [hS1])) ?_
      refine gp zmv ?_
      refine gn ?_
      refine gn ?_
      refine gp zpk ?_
      refine gnt ?_
      refine gc_condT rfl rfl ?_
      refine gc_seq ?_
      refine gc_regionZ 3 [] ?_
      refine yps 0 rfl zbu ?_
      refine yps 1 rfl (r_ld1o rfl Ty.row_38 (hE.c 7 Has.h) (hE.n 7 Has.h)) ?_
      refine yos 2 rfl ?_
      refine zsN ?_
      refine yxs ?_
      refine yzs rfl ?_
      refine gp zas ?_
      refine gnt ?_
      refine gc_ret ?_
      refine gx_then_ret ?_
      refine gx_retct rfl rfl (by conv => lhs; whnf) (ld_aggS Ty.row_181 Ty.sz_181 (by repeat (first | exact Pick.here | apply Pick.there)) (by (simp only [List.drop_succ_cons, List.drop_zero, List.take_succ_cons, List.take_zero, List.cons_append, List.nil_append, List.append_assoc, drop_dc, drop_dc', take_dc, take_dc', drop_L, drop_L', take_L, take_L', len_L, Nat.reduceLeDiff, Nat.reduceSub, Nat.reduceAdd, Nat.le_refl, List.length_cons, List.length_append, List.length_nil, dc_length, List.drop_nil, List.take_nil, List.append_nil, List.length_map, List.length_replicate]; first | done | rfl)) (by first | rfl | (simp only [List.drop_succ_cons, List.drop_zero, List.take_succ_cons, List.take_zero, List.cons_append, List.nil_append, List.append_assoc, drop_dc, drop_dc', take_dc, take_dc', drop_L, drop_L', take_L, take_L', len_L, Nat.reduceLeDiff, Nat.reduceSub, Nat.reduceAdd, Nat.le_refl, List.length_cons, List.length_append, List.length_nil, dc_length, List.drop_nil, List.take_nil, List.append_nil, List.length_map, List.length_replicate]; first | done | omega))) ?_
      intro w' hw
      have he : rdRec x = none := rdRec_n2 hx0 hS1
      exact ⟨recZ, by rw [he]; rfl, St.pureI ⟨rfl, One.h⟩ (St.vl (hw.sel (by repeat (first | exact Sel.nil | (apply Sel.cons; · (repeat (first | exact Pick.here | apply Pick.there)))))) (by rw [he]; exact rd_optn))⟩

end Go.Proofs.YtobjojeliibinaaGreatDoor

/- The engine, part U: regions that draw their order, the last operations (one by one behind all others) free of what is kept. -/
namespace Go.Proofs.YtobjojeliibinaaGreatDoor
open Go
set_option linter.unusedVariables false
set_option linter.unusedSimpArgs false
section tail
variable {ro : Option Nat} {P : Program} {ops : Array Oper} {Q : Exit → Act → World → Prop} {md : Region.Mode} {S : World → Prop} {z : Nat}
/-- The operations from z on wait for all ahead of z, and each for the one ahead of it. -/
def tailU (md : Region.Mode) (ops : Array Oper) (z : Nat) : Bool := Nat.blt z ops.size && (List.range ops.size).all fun i => Nat.blt i z || match ops[i]? with
  | some o => ((List.range z).all fun j => o.after.any fun e => Region.binds md e && Nat.beq e.on j) && (Nat.beq i z || o.after.any fun e => Region.binds md e && Nat.beq e.on (i - 1))
  | none => false
def listedU (m z : Nat) : Array Bool := ((List.replicate z true) ++ (List.replicate (m - z) false)).toArray
theorem listedU_lo {m z i : Nat} (h : i < z) : (listedU m z)[i]? = some true := by
  simp only [listedU, List.getElem?_toArray]
  rw [List.getElem?_append_left (by simpa using h), List.getElem?_replicate, if_pos h]
theorem listedU_hi {m z i : Nat} (h : z ≤ i) (hm : i < m) : (listedU m z)[i]? = some false := by
  simp only [listedU, List.getElem?_toArray]
  rw [List.getElem?_append_right (by simpa using h), List.getElem?_replicate, if_pos (by simp; omega)]
theorem tailU_at (h : tailU md ops z = true) {i : Nat} (hi : i < ops.size) (hz : z ≤ i) : ∃ o, ops[i]? = some o ∧ (∀ j, j < z → ∃ e ∈ o.after, Region.binds md e = true ∧ e.on = j) ∧ (i ≠ z → ∃ e ∈ o.after, Region.binds md e = true ∧ e.on = i - 1) := by
  simp only [tailU, Bool.and_eq_true] at h
  have h2 := List.all_eq_true.1 h.2 i (List.mem_range.2 hi)
  cases ho : ops[i]? with
  | none => simp [ho, Nat.not_lt.2 hz] at h2
  | some o =>
    simp only [ho, Bool.or_eq_true, Nat.blt_eq, Bool.and_eq_true] at h2
    rcases h2 with h2 | ⟨h3, h4⟩
    · omega
    · refine ⟨o, rfl, fun j hj => ?_, fun hne => ?_⟩
      · obtain ⟨e, he, hb⟩ := Array.any_eq_true'.1 (List.all_eq_true.1 h3 j (List.mem_range.2 hj))
        simp only [Bool.and_eq_true] at hb
        exact ⟨e, he, hb.1, Nat.eq_of_beq_eq_true hb.2⟩
      · rcases h4 with h4 | h4
        · exact absurd (Nat.eq_of_beq_eq_true h4) hne
        · obtain ⟨e, he, hb⟩ := Array.any_eq_true'.1 h4
          simp only [Bool.and_eq_true] at hb
          exact ⟨e, he, hb.1, Nat.eq_of_beq_eq_true hb.2⟩
def InvU (ops : Array Oper) (z : Nat) (listed : Array Bool) : Prop := listed.size = ops.size ∧ ∀ i, z ≤ i → i < ops.size → listed[i]? = some false
theorem getD_some {listed : Array Bool} {i : Nat} (hi : i < listed.size) (h : listed.getD i false = true) : listed[i]? = some true := by
  rw [Array.getElem?_eq_getElem hi]
  simpa [hi] using h
theorem tailU_ready (h : tailU md ops z = true) {listed : Array Bool} (hi : InvU ops z listed) (hz : z ∈ Region.ready md ops listed) : listed = listedU ops.size z := by
  have hlt : z < ops.size := ready_lt hz
  obtain ⟨o, ho, h1, _⟩ := tailU_at h hlt (Nat.le_refl z)
  obtain ⟨_, o', ho', hall⟩ := mem_ready.1 hz
  rw [ho] at ho'
  cases ho'
  apply Array.ext_getElem?
  intro i
  have hs : (listedU ops.size z).size = ops.size := by simp [listedU]; omega
  by_cases hm : i < ops.size
  · by_cases hiz : i < z
    · obtain ⟨e, he, hb, hon⟩ := h1 i hiz
      have := hall e he hb
      rw [hon] at this
      rw [getD_some (by rw [hi.1]; exact hm) this, listedU_lo hiz]
    · rw [hi.2 i (by omega) hm, listedU_hi (by omega) hm]
  · rw [Array.getElem?_eq_none (by rw [hi.1]; omega), Array.getElem?_eq_none (by rw [hs]; omega)]
theorem tailU_not (h : tailU md ops z = true) {listed : Array Bool} (hi : InvU ops z listed) {i : Nat} (hr : i ∈ Region.ready md ops listed) (hz : z < i) : False := by
  have hlt := ready_lt hr
  obtain ⟨o, ho, _, h2⟩ := tailU_at h hlt (by omega)
  obtain ⟨_, o', ho', hall⟩ := mem_ready.1 hr
  rw [ho] at ho'
  cases ho'
  obtain ⟨e, he, hb, hon⟩ := h2 (by omega)
  have h3 := hall e he hb
  rw [hon] at h3
  have := getD_some (by rw [hi.1]; omega) h3
  rw [hi.2 (i - 1) (by omega) (by omega)] at this
  cases this
theorem wpAnyIn_of_seqU {Q' : Exit → Act → World → Prop} (x : Nat) : ∀ (l : List Oper) (k : Nat) (listed : Array Bool) (a : Act) (w : World), (∀ j, l[j]? = ops[k + j]?) →
    Region.seqB md ops l.length k listed = true → wpListIn (FR ro) 0 P ops Q' l a w → wpAnyIn (FR ro) 0 P md ops Q' (l.length + x) listed a w
  | [], k, listed, a, w, _, hB, h => wpAnyIn_done' (by simpa [Region.seqB] using hB) h _
  | o :: l, k, listed, a, w, hl, hB, h => by
    have h0 : ops[k]? = some o := by simpa using (hl 0).symm
    simp only [List.length_cons, Region.seqB, Bool.and_eq_true, decide_eq_true_eq] at hB
    rw [show (o :: l).length + x = (l.length + x) + 1 by simp; omega]
    refine ⟨fun h1 => (by rw [hB.1] at h1; cases h1), fun i hi => ?_⟩
    rw [hB.1] at hi
    have hik : i = k := by simpa using hi
    subst hik
    have hw : wpOpIn (FR ro) 0 P ops Q' i (wpListIn (FR ro) 0 P ops Q' l) a w := by unfold wpOpIn; simp only [h0]; exact h
    exact wpOpIn_mono (fun a' w' h' => wpAnyIn_of_seqU x l (i + 1) _ a' w' (fun j => by have := hl (j + 1); simpa [Nat.add_assoc, Nat.add_comm 1 j] using this) hB.2 h') hw
theorem wpAnyIn_of_tailU (h : tailU md ops z = true) (hseq : Region.seqB md ops (ops.size - z) z (listedU ops.size z) = true) : ∀ (fuel : Nat) (listed : Array Bool) (a : Act) (w : World), InvU ops z listed →
    wpAnyT ro P md ops Q S z (wpListIn (FR ro) 0 P ops Q (ops.toList.drop z)) fuel listed a w → wpAnyIn (FR ro) 0 P md ops Q (fuel + (ops.size - z)) listed a w
  | 0, listed, a, w, hi, H => by
    have hz : z ∈ Region.ready md ops listed := by rw [H.1]; simp
    rw [tailU_ready h hi hz, Nat.zero_add]
    have := wpAnyIn_of_seqU (ro := ro) (Q' := Q) 0 (ops.toList.drop z) z (listedU ops.size z) a w (fun j => by simp [List.getElem?_drop]) (by simpa using hseq) H.2
    simpa using this
  | fuel + 1, listed, a, w, hi, H => by
    by_cases hz : z ∈ Region.ready md ops listed
    · have hl := tailU_ready h hi hz
      have hone : Region.ready md ops listed = [z] := by
        have hn := ready_nodup (md := md) (ops := ops) (listed := listed)
        have hall : ∀ i ∈ Region.ready md ops listed, i = z := fun i hr => by
          rcases Nat.lt_trichotomy i z with hlt | he | hgt
          · exfalso
            have h1 := (mem_ready.1 hr).1
            rw [hl] at h1
            have hm := ready_lt hr
            have h2 := listedU_lo (m := ops.size) hlt
            rw [Array.getD_eq_getD_getElem?, h2] at h1
            cases h1
          · exact he
          · exact (tailU_not h hi hr hgt).elim
        generalize Region.ready md ops listed = r at *
        match r with
        | [] => cases hz
        | [y] => rw [hall y (by simp)]
        | y :: y' :: r' =>
          have h1 := hall y (by simp)
          have h2 := hall y' (by simp)
          subst h1; subst h2
          simp at hn
      have hT := H.1 hone
      rw [hl]
      have := wpAnyIn_of_seqU (ro := ro) (Q' := Q) (fuel + 1) (ops.toList.drop z) z (listedU ops.size z) a w (fun j => by simp [List.getElem?_drop]) (by simpa using hseq) hT
      rw [show fuel + 1 + (ops.size - z) = (ops.toList.drop z).length + (fuel + 1) by simp; omega]
      exact this
    · rw [show fuel + 1 + (ops.size - z) = (fuel + (ops.size - z)) + 1 by omega]
      refine ⟨fun h0 => absurd h0 H.2.1, fun i hr => ?_⟩
      have hne : i ≠ z := fun e => hz (e ▸ hr)
      refine wpOpIn_mono (fun a' w' h' => wpAnyIn_of_tailU h hseq fuel _ a' w' ⟨by simpa using hi.1, fun k hk hm => ?_⟩ h'.2) (H.2.2 i hr hne)
      have hik : i ≠ k := fun e => by
        subst e
        rcases Nat.lt_or_ge z i with hgt | hle
        · exact tailU_not h hi hr hgt
        · omega
      rw [Array.getElem?_setIfInBounds_ne hik]
      exact hi.2 k hk hm
end tail
def Gu (P : Program) (w0 : World) (F0 : Nat → Prop) (K L : List Res) (ops : Array Oper) (Q : Exit → Act → World → Prop) (z fuel : Nat) (listed : Array Bool) (n : Fm) (env : Env) : Prop :=
  ∀ w, St w0 F0 L w → wpAnyT n.ro P .any ops Q (St w0 F0 K) z (wpListIn (FR n.ro) 0 P ops Q (ops.toList.drop z)) fuel listed (fr n env) w
def NextU (P : Program) (w0 : World) (F0 : Nat → Prop) (K : List Res) (ops : Array Oper) (Q : Exit → Act → World → Prop) (z fuel : Nat) (listed : Array Bool) (n : Fm) (a : Act) (w : World) : Prop :=
  St w0 F0 K w ∧ wpAnyT n.ro P .any ops Q (St w0 F0 K) z (wpListIn (FR n.ro) 0 P ops Q (ops.toList.drop z)) fuel listed a w
section heldu
variable {P : Program} {w0 : World} {F0 : Nat → Prop} {K L : List Res} {Q : Exit → Act → World → Prop} {n : Fm} {env : Env} {ops : Array Oper} {listed : Array Bool} {fuel z : Nat}
theorem gc_regionU {id : Nat} {l : List Oper} (z : Nat) (K : List Res) (h : Gu P w0 F0 K L l.toArray Q z z (Array.replicate l.length false) n env) (hm : P.follows .mixedOrders = true := by kernel_rfl) (hz : tailU .any l.toArray z = true := by kernel_rfl)
    (hs : Region.seqB .any l.toArray (l.length - z) z (listedU l.length z) = true := by kernel_rfl) : Gc P w0 F0 L (.region id l.toArray true) Q n env := fun w hw =>
  wpIn_region_any hm (by
    have hlt : z < l.length := by
      have := hz
      simp only [tailU, Bool.and_eq_true, Nat.blt_eq, List.size_toArray] at this
      exact this.1
    have := wpAnyIn_of_tailU (ops := l.toArray) hz (by simpa using hs) _ (Array.replicate l.length false) _ _ ⟨by simp, fun i _ hi => by simp at hi; simp [hi]⟩ (h _ (hw.drawn (w.drawn + 1)))
    rw [show z + (l.toArray.size - z) = l.toArray.size by simp; omega] at this
    simpa using this)
theorem ypu (i : Nat) {t : Tmp} {op : Op} {ty : TypeId} {pos : String} {af : Array Edge} {gd : Option (Nat × Bool)} {v : Value} {L' : List Res} (hi : ops[i]? = some ⟨some t, op, ty, pos, af, gd⟩) (hR : Runs P w0 F0 K n env ⟨some t, op, ty, pos, af, gd⟩ v)
    (k : Gu P w0 F0 K L ops Q z fuel (listed.setIfInBounds i true) n ((t, v) :: env)) (hw : Wt ops n env ⟨some t, op, ty, pos, af, gd⟩ true := by first | exact wt0 rfl | exact wtgT rfl rfl rfl rfl) (hsel : Sel L K L' := by repeat (first | exact Sel.nil | (apply Sel.cons; · (repeat (first | exact Pick.here | apply Pick.there)))))
    (hs : Region.noSelect ops = true := by kernel_rfl) (hd : noDef ops = true := by kernel_rfl) (hf : Region.free .any ops listed i = true := by kernel_rfl) (hr : (Region.ready .any ops listed).contains i = true := by kernel_rfl) (hz : Nat.beq i z = false := by kernel_rfl)
    (hQ : ∀ c a w, Q (.panic c) (a.put (some t) v) w → Q (.panic c) a w := by exact fun _ _ _ h => h) : Gu P w0 F0 K L ops Q z (fuel + 1) listed n env := fun w hst =>
  wpAnyT_first hi (fun e => by subst e; simp at hz) (Region.noSelect_spec hs) hd hQ fuel listed _ _ (Region.free_spec hi hf) (by simpa using hr) (.inl ⟨hw, fun w' hw' => by rw [fr_eval]; exact hR w' hw'⟩) (hst.sel hsel) (by rw [fr_put]; exact k w hst)
theorem ynu (i : Nat) {t : Tmp} {op : Op} {ty : TypeId} {pos : String} {af : Array Edge} {gd : Option (Nat × Bool)} {L' : List Res} (hi : ops[i]? = some ⟨some t, op, ty, pos, af, gd⟩)
    (k : Gu P w0 F0 K L ops Q z fuel (listed.setIfInBounds i true) n ((t, undef) :: env)) (hw : Wt ops n env ⟨some t, op, ty, pos, af, gd⟩ false := by first | exact wtgF rfl rfl rfl rfl rfl | exact wtu rfl rfl rfl rfl) (hsel : Sel L K L' := by repeat (first | exact Sel.nil | (apply Sel.cons; · (repeat (first | exact Pick.here | apply Pick.there)))))
    (hs : Region.noSelect ops = true := by kernel_rfl) (hd : noDef ops = true := by kernel_rfl) (hf : Region.free .any ops listed i = true := by kernel_rfl) (hr : (Region.ready .any ops listed).contains i = true := by kernel_rfl) (hz : Nat.beq i z = false := by kernel_rfl)
    (hQ : ∀ c a w, Q (.panic c) (a.put (some t) undef) w → Q (.panic c) a w := by exact fun _ _ _ h => h) : Gu P w0 F0 K L ops Q z (fuel + 1) listed n env := fun w hst =>
  wpAnyT_first hi (fun e => by subst e; simp at hz) (Region.noSelect_spec hs) hd hQ fuel listed _ _ (Region.free_spec hi hf) (by simpa using hr) (.inr ⟨hw, rfl⟩) (hst.sel hsel) (by rw [fr_put]; exact k w hst)
theorem you (i : Nat) {o : Oper} (hi : ops[i]? = some o) (k : Gl P w0 F0 L ops (Exit.then (NextU P w0 F0 K ops Q z fuel (listed.setIfInBounds i true) n) Q) [o] n env) (hr : Region.ready .any ops listed = [i] := by kernel_rfl) (hz : Nat.beq i z = false := by kernel_rfl) : Gu P w0 F0 K L ops Q z (fuel + 1) listed n env := fun w hst =>
  ⟨fun h => (by rw [hr] at h; simp only [List.cons.injEq, and_true] at h; subst h; simp at hz), by rw [hr]; simp, fun j hj _ => by
    rw [hr] at hj
    obtain rfl : j = i := by simpa using hj
    exact wpOpIn_of_list hi (k w hst)⟩
theorem you2 (i j : Nat) {o o2 : Oper} (hi : ops[i]? = some o) (hj : ops[j]? = some o2) (k : Gl P w0 F0 L ops (Exit.then (NextU P w0 F0 K ops Q z fuel (listed.setIfInBounds i true) n) Q) [o] n env)
    (k2 : Gl P w0 F0 L ops (Exit.then (NextU P w0 F0 K ops Q z fuel (listed.setIfInBounds j true) n) Q) [o2] n env) (hr : Region.ready .any ops listed = [i, j] := by kernel_rfl) : Gu P w0 F0 K L ops Q z (fuel + 1) listed n env := fun w hst =>
  ⟨fun h => (by rw [hr] at h; simp at h), by rw [hr]; simp, fun x hx _ => by
    rw [hr] at hx
    simp only [List.mem_cons, List.not_mem_nil, or_false] at hx
    rcases hx with rfl | rfl
    · exact wpOpIn_of_list hi (k w hst)
    · exact wpOpIn_of_list hj (k2 w hst)⟩
theorem yxu {L' : List Res} {Q' : Exit → Act → World → Prop} (k : Gu P w0 F0 K L ops Q z fuel listed n env) (hsel : Sel L K L' := by repeat (first | exact Sel.nil | (apply Sel.cons; · (repeat (first | exact Pick.here | apply Pick.there))))) : Gl P w0 F0 L ops (Exit.then (NextU P w0 F0 K ops Q z fuel listed n) Q') [] n env := gl_nil fun w hw => ⟨hw.sel hsel, k w hw⟩
/-- The last ones. -/
theorem yzu {l : List Oper} (k : Gl P w0 F0 L ops Q l n env) (hl : ops.toList.drop z = l := by rfl) (hr : Region.ready .any ops listed = [z] := by kernel_rfl) : Gu P w0 F0 K L ops Q z 0 listed n env := fun w hst => ⟨hr, by rw [hl]; exact k w hst⟩
end heldu
end Go.Proofs.YtobjojeliibinaaGreatDoor

/- Walks, by program (wg.py) out of a spec. -/
namespace Go.Proofs.YtobjojeliibinaaGreatDoor
open Go
set_option linter.unusedVariables false
set_option linter.unusedSimpArgs false


def lstep (d : DS) (l : LS) : LS × Bool × Nat := match lnext d l.e l.rs.length with
  | .error k => (l, false, k)
  | .ok none => (l, false, 0)
  | .ok (some r) => (⟨l.base, l.rs ++ [r], l.e + lenR r⟩, true, 0)
section
variable {d : DS} {l : LS} {x : Nat}
theorem lstep_z (h : d.at l.e = sec0) : lstep d l = (l, false, 0) := by unfold lstep lnext; rw [if_pos h]
theorem lstep_1 (h : d.at l.e ≠ sec0) (hx : x = valN ((d.at l.e).l.take 4)) (h1 : x < 1 ∨ ¬ nsec x + 2 ≤ d.n - l.e) : lstep d l = (l, false, 7) := by unfold lstep lnext; rw [if_neg h, if_pos (by rw [← hx]; exact h1)]
theorem bytesE_err {f : Nat → Sec} {a n : Nat} (h : (bytesE f a n).1 ≠ 0) : bytesAt f a n = none ∧ (bytesE f a n).1 = 7 := by
  unfold bytesE at *; split at h
  · rename_i hb; exact ⟨hb, rfl⟩
  · exact absurd rfl h
theorem bytesE_ok {f : Nat → Sec} {a n : Nat} (h : (bytesE f a n).1 = 0) : bytesAt f a n = some (bytesE f a n).2 := by
  unfold bytesE at *; split at h
  · cases h
  · rename_i hb; exact hb
theorem lstep_2 (h : d.at l.e ≠ sec0) (hx : x = valN ((d.at l.e).l.take 4)) (h1 : ¬ x < 1) (h2 : nsec x + 2 ≤ d.n - l.e) (h3 : (bytesE d.at (l.e + 1) x).1 ≠ 0) : lstep d l = (l, false, 7) := by
  unfold lstep lnext; rw [if_neg h, if_neg (by rw [← hx]; exact fun hh => hh.elim h1 (fun h' => h' h2)), ← hx, (bytesE_err h3).1]
theorem lstep_3 (h : d.at l.e ≠ sec0) (hx : x = valN ((d.at l.e).l.take 4)) (h1 : ¬ x < 1) (h2 : nsec x + 2 ≤ d.n - l.e) (h3 : (bytesE d.at (l.e + 1) x).1 = 0) (h4 : headL l.rs.length (bytesE d.at (l.e + 1) x).2 ≠ d.at l.e) : lstep d l = (l, false, 7) := by
  unfold lstep lnext; rw [if_neg h, if_neg (by rw [← hx]; exact fun hh => hh.elim h1 (fun h' => h' h2)), ← hx, bytesE_ok h3]; simp only [if_neg h4]
theorem lstep_4 (h : d.at l.e ≠ sec0) (hx : x = valN ((d.at l.e).l.take 4)) (h1 : ¬ x < 1) (h2 : nsec x + 2 ≤ d.n - l.e) (h3 : (bytesE d.at (l.e + 1) x).1 = 0) (h4 : headL l.rs.length (bytesE d.at (l.e + 1) x).2 = d.at l.e) (h5 : rdRec (bytesE d.at (l.e + 1) x).2 = none) : lstep d l = (l, false, 7) := by
  unfold lstep lnext; rw [if_neg h, if_neg (by rw [← hx]; exact fun hh => hh.elim h1 (fun h' => h' h2)), ← hx, bytesE_ok h3]; simp only [if_pos h4, h5]
theorem lstep_y {r : LRec} (h : d.at l.e ≠ sec0) (hx : x = valN ((d.at l.e).l.take 4)) (h1 : ¬ x < 1) (h2 : nsec x + 2 ≤ d.n - l.e) (h3 : (bytesE d.at (l.e + 1) x).1 = 0) (h4 : headL l.rs.length (bytesE d.at (l.e + 1) x).2 = d.at l.e) (h5 : rdRec (bytesE d.at (l.e + 1) x).2 = some r) :
    lstep d l = (⟨l.base, l.rs ++ [r], l.e + lenR r⟩, true, 0) ∧ lenR r = 1 + nsec x := by
  refine ⟨by unfold lstep lnext; rw [if_neg h, if_neg (by rw [← hx]; exact fun hh => hh.elim h1 (fun h' => h' h2)), ← hx, bytesE_ok h3]; simp only [if_pos h4, h5], ?_⟩
  rw [lenR, (rdRec_some h5).2, bytesAt_len (bytesE_ok h3)]
theorem num4 {v : List UInt8} (h : Ag (pNum 4) (.ok v) (x : Int)) (h4 : 4 ≤ v.length) : x = valN (v.take 4) := by
  have e : pNum 4 v = .ok ((valN (v.take 4) : Int), v.drop 4) := by unfold pNum pBind pTake; rw [if_neg (by omega)]; rfl
  have := h v _ _ rfl e
  omega
theorem vl_opt {cs : List Value} {r : LRec} {w : World} {F : Nat → Prop} (h : stars [VlR RdOpt cs (some r)] w F) : stars [VlR RdRec cs r] w F := rdR_mk (show RdRec w F cs r from (stars_one' h).1) h
end

attribute [local irreducible] Gl Gc Gx Gs Runs Wt

attribute [local irreducible] dc RdMade RdOpt RdRec RdBlock madeE blkC rdRec allE pAll rstep lstep bytesE headL valN

set_option maxHeartbeats 400000 in
theorem lnext_ok' {w : World} {F : Nat → Prop} {q g : Nat} {l : LS} {d : DS} (h : stars [LedR q g l, DiskR g d] w F) (hk : DOk d) {ea : Nat → Addr} {es : List Nat} [Has es 1] [Has es 2] [Has es 3] [Has es 4] [Has es 6] [Has es 7] [Has es 12] (hE : GErr es w (fun k => ¬ F k) 340 ea) (hK : KR w (fun k => ¬ F k)) (ho : d.off = false) (he : l.e < d.n) (hln : l.rs.length < 4294967296) :
    Calls Tryz.prog 97 #[.pointer (some ⟨q, 0, none⟩)] w (Post w F (fun _ : Unit => .tuple #[.bool (lstep d l).2.1, eV 340 ea (lstep d l).2.2]) (fun _ => [LedR q g (lstep d l).1, DiskR g d])) := by
  obtain ⟨a0, m0, css, h18, h⟩ := led_open h
  have hn4 := hk.n
  have hsl := (d.at l.e).h
  refine g_enter (env := [(0, .pointer (some ⟨q, 0, none⟩))]) Tryz.func97 rfl h Tryz.ntmps97 rfl rfl ?_
  refine gsr ?_
  refine gp zas ?_
  refine gp zas ?_
  refine gnt ?_
  refine gc_join (α := Nat) (fun b => [blk b 108 (sc (d.at l.e)), blk q 179 [.pointer (some ⟨g, 0, none⟩), .int .i64 l.base, .int .i64 l.e, .slice a0 l.rs.length m0], rowR 181 18 a0 l.rs.length m0 css.flatten, ElR RdRec css l.rs, DiskR g d]) (fun b => [(4, .pointer (some ⟨b, 0, none⟩)), (5, eV 340 ea 0), (2, .bool false), (3, .nilIface)]) [11, 12, 13, 14, 15, 16, 17, 18, 19, 20, 21, 22] ?_ ?_
  · refine gc_regionZ 14 ([blk q 179 [.pointer (some ⟨g, 0, none⟩), .int .i64 l.base, .int .i64 l.e, .slice a0 l.rs.length m0]]) ?_
    refine yps 0 rfl zmv ?_
    refine yps 1 rfl znc ?_
    refine yps 2 rfl zfa ?_
    refine yps 3 rfl zl ?_
    refine yps 4 rfl zmv ?_
    refine yps 5 rfl znc ?_
    refine yps 6 rfl zfa ?_
    refine yps 7 rfl zl ?_
    refine yo2s 8 12 rfl rfl ?_ ?_
    · refine zc (fun _ => ?_) (c := fun w1 F1 F2 h1 h2 hd hst => read_ok (i := (l.e : Int)) h1 (hE.mv hst.still))
      rw [show d.rd (l.e : Int) = (0, (d.at l.e)) from rd_at (has_iff.2 ⟨by omega, by omega⟩) ho]
      refine yxs ?_
      refine yps 9 rfl zmv ?_
      refine yps 10 rfl zex ?_
      refine yps 11 rfl zex ?_
      refine yos 12 rfl ?_
      refine zal fun b4 => ?_
      refine yxs ?_
      refine yos 13 rfl ?_
      refine zsA (new := sc ((d.at l.e))) (sc_length _) (sc_one _) ?_
      refine yxs ?_
      refine yzs rfl ?_
      refine gp zas ?_
      refine gl_nil ?_
      refine zjn (b4) ?_
      · exact zsel
    · refine zal fun b4 => ?_
      refine yxs ?_
      refine yos 8 rfl ?_
      refine zc (fun _ => ?_) (c := fun w1 F1 F2 h1 h2 hd hst => read_ok (i := (l.e : Int)) h1 (hE.mv hst.still))
      rw [show d.rd (l.e : Int) = (0, (d.at l.e)) from rd_at (has_iff.2 ⟨by omega, by omega⟩) ho]
      refine yxs ?_
      refine yps 9 rfl zmv ?_
      refine yps 10 rfl zex ?_
      refine yps 11 rfl zex ?_
      refine yos 13 rfl ?_
      refine zsA (new := sc ((d.at l.e))) (sc_length _) (sc_one _) ?_
      refine yxs ?_
      refine yzs rfl ?_
      refine gp zas ?_
      refine gl_nil ?_
      refine zjn (b4) ?_
      · exact zsel
  · intro b u
    refine gc_seq ?_
    refine gsr ?_
    refine gp zmv ?_
    refine gp (r_bool (c := false) (r_nenil rfl (by kernel_rfl)) rfl) ?_
    refine gp zmv ?_
    refine gq (zL (sg := sc (d.at l.e))) ?_
    refine gq (zba (cs := sc sec0) (by exact rfl)) ?_
    refine gq (r_bool (c := decide ((d.at l.e) = sec0)) (r_eql_sec (a := (d.at l.e)) (b := sec0) Ty.arr_108 Ty.un_5 Ty.sz_5 (by kernel_rfl)) rfl) ?_
    refine gp zpk ?_
    refine gnt ?_
    refine gif rfl (fun hc29 => ?_) (fun hc29 => ?_)
    · try simp only at hc29
      have hz : (d.at l.e) = sec0 := by simpa using hc29
      refine gsr ?_
      refine gp zmv ?_
      refine gp zas ?_
      refine gp zas ?_
      refine gnt ?_
      refine gc_ret ?_
      refine gx_then_ret ?_
      refine gx_ret2 rfl (by conv => lhs; whnf) (by conv => lhs; whnf) ?_
      have e := lstep_z hz
      exact fun w' hw => ⟨(), by rw [e], by rw [e]; exact St.led (hw.sel (by repeat (first | exact Sel.nil | (apply Sel.cons; · (repeat (first | exact Pick.here | apply Pick.there)))))) h18 rfl rfl rfl rfl⟩
    · try simp only at hc29
      have hz : (d.at l.e) ≠ sec0 := by simpa using hc29
      refine gc_skip ?_
      refine gx_then ?_
      refine gsr ?_
      refine gp (r_slice_arr (l := 0) (h := 64) rfl Ty.arr_108 Ty.sz_5 rfl rfl (by omega) (by omega) (by omega)) ?_
      refine zc (fun gr => ?_) (c := fun w1 F1 F2 h1 h2 hd hst => newReader_ok (TE := 340) (ea := ea) (b := (d.at l.e).l) h1 (by have hx := rd_blkY (l := (d.at l.e).l) (o := 0) (m := 64) h2 hd (by repeat (first | exact Pick.here | apply Pick.there)) (by omega) (by decide); rw [List.drop_zero, List.take_of_length_le (by omega)] at hx; exact hx) (by omega))
      refine zc (fun x => ?_) (c := fun w1 F1 F2 h1 h2 hd hst => rnum_ok (wd := 4) h1 (hE.mv hst.still) (by decide) (by decide))
      refine gl_pureR (fun hx => ?_)
      obtain ⟨hxa, hxb⟩ := hx
      have hx := num4 hxa (by omega)
      have hx32 : x < 4294967296 := by simpa using hxb
      refine gp zas ?_
      refine gnt ?_
      refine gc_seq ?_
      refine gc_seq ?_
      by_cases hx1 : x < 1
      · refine gc_region ?_
        refine gp zmv ?_
        refine gp (r_bool (c := true) zlt (decide_eq_true (by omega))) ?_
        refine gp zmv ?_
        refine gn ?_
        refine gn ?_
        refine gn ?_
        refine gn ?_
        refine gp zpk ?_
        refine gnt ?_
        refine gc_condT rfl rfl ?_
        refine gc_seq ?_
        refine gc_regionS (by kernel_rfl) (by kernel_rfl) ?_
        refine sp (r_ld1o rfl Ty.row_38 (hE.c 7 Has.h) (hE.n 7 Has.h)) ?_
        refine sp zas ?_
        refine sp zas ?_
        refine gs_nil ?_
        refine gx_then ?_
        refine gc_ret ?_
        refine gx_then_ret ?_
        refine gx_ret2 rfl (by conv => lhs; whnf) (by conv => lhs; whnf) ?_
        have e : lstep d l = (l, false, 7) := lstep_1 hz hx (.inl hx1)
        exact fun w' hw => ⟨(), by rw [e], by rw [e]; exact St.led (hw.sel (by repeat (first | exact Sel.nil | (apply Sel.cons; · (repeat (first | exact Pick.here | apply Pick.there)))))) h18 rfl rfl rfl rfl⟩
      · refine gc_region ?_
        refine gp zmv ?_
        refine gp (r_bool (c := false) zlt (decide_eq_false (by omega))) ?_
        refine gp zmv ?_
        refine gq zmv ?_
        refine gq zmv ?_
        refine gl_conv (M := [blk q 179 [.pointer (some ⟨g, 0, none⟩), .int .i64 l.base, .int .i64 l.e, .slice a0 l.rs.length m0], rowR 181 18 a0 l.rs.length m0 css.flatten, ElR RdRec css l.rs]) (N := [LedR q g l]) (by repeat (first | exact Sel.nil | (apply Sel.cons; · (repeat (first | exact Pick.here | apply Pick.there))))) (fun w' F' hh => ?_) ?_
        · exact stars_ex_mk ((a0, m0), css) (stars_all_mk (stars_pure_mk h18 hh))
        refine zc (fun _ => ?_) (c := fun w1 F1 F2 h1 h2 hd hst => room_ok (n := x) h1 hk (by omega) (by omega))
        refine gl_led (by repeat (first | exact Pick.here | apply Pick.there)) (fun a0 m0 css h18 => ?_)
        refine gq znt ?_
        refine gp zpk ?_
        refine gnt ?_
        refine gif rfl (fun hc41 => ?_) (fun hc41 => ?_)
        · try simp only at hc41
          have hx2 : ¬ nsec x + 2 ≤ d.n - l.e := by simpa using hc41
          refine gc_seq ?_
          refine gc_regionS (by kernel_rfl) (by kernel_rfl) ?_
          refine sp (r_ld1o rfl Ty.row_38 (hE.c 7 Has.h) (hE.n 7 Has.h)) ?_
          refine sp zas ?_
          refine sp zas ?_
          refine gs_nil ?_
          refine gx_then ?_
          refine gc_ret ?_
          refine gx_then_ret ?_
          refine gx_ret2 rfl (by conv => lhs; whnf) (by conv => lhs; whnf) ?_
          have e : lstep d l = (l, false, 7) := lstep_1 hz hx (.inr hx2)
          exact fun w' hw => ⟨(), by rw [e], by rw [e]; exact St.led (hw.sel (by repeat (first | exact Sel.nil | (apply Sel.cons; · (repeat (first | exact Pick.here | apply Pick.there)))))) h18 rfl rfl rfl rfl⟩
        · try simp only at hc41
          have hx2 : nsec x + 2 ≤ d.n - l.e := by simpa using hc41
          have hx64 : x ≤ 64 * nsec x := by unfold nsec; omega
          refine gc_skip ?_
          refine gx_then ?_
          refine gsr ?_
          refine gp zmv ?_
          refine gp zmv ?_
          refine gp znc ?_
          refine gp zfa ?_
          refine gp zl ?_
          refine gp (r_int (j := ((l.e + 1 : Nat) : Int)) zad (by omega)) ?_
          refine gp zmv ?_
          refine gl_conv (M := [blk q 179 [.pointer (some ⟨g, 0, none⟩), .int .i64 l.base, .int .i64 l.e, .slice a0 l.rs.length m0], rowR 181 18 a0 l.rs.length m0 css.flatten, ElR RdRec css l.rs]) (N := [LedR q g l]) (by repeat (first | exact Sel.nil | (apply Sel.cons; · (repeat (first | exact Pick.here | apply Pick.there))))) (fun w' F' hh => ?_) ?_
          · exact stars_ex_mk ((a0, m0), css) (stars_all_mk (stars_pure_mk h18 hh))
          refine zc ?_ (c := fun w1 F1 F2 h1 h2 hd hst => lbytes_ok (i0 := l.e + 1) (n := x) h1 hk (hE.mv hst.still) ho (by omega) (by omega))
          rintro ⟨a51, c51⟩
          refine gl_led (by repeat (first | exact Pick.here | apply Pick.there)) (fun a0 m0 css h18 => ?_)
          refine gp zmv ?_
          refine gp zex ?_
          refine gp zex ?_
          refine gp zas ?_
          refine gp zas ?_
          refine gnt ?_
          refine gc_seq ?_
          refine gsr ?_
          refine gp zmv ?_
          refine gp (r_bool (c := decide (¬ (bytesE d.at (l.e + 1) x).1 = 0)) (r_nenil rfl (by kernel_rfl)) (by simp)) ?_
          refine gnt ?_
          refine gif rfl (fun hc55 => ?_) (fun hc55 => ?_)
          · try simp only at hc55
            have he7 := (bytesE_err hc55).2
            refine gsr ?_
            refine gp zmv ?_
            refine gp zas ?_
            refine gp zas ?_
            refine gnt ?_
            refine gc_ret ?_
            refine gx_then_ret ?_
            refine gx_ret2 rfl (by conv => lhs; whnf) (by conv => lhs; whnf) ?_
            have e : lstep d l = (l, false, 7) := lstep_2 hz hx hx1 hx2 hc55
            exact fun w' hw => ⟨(), by rw [e, he7], by rw [e]; exact St.led (hw.sel (by repeat (first | exact Sel.nil | (apply Sel.cons; · (repeat (first | exact Pick.here | apply Pick.there)))))) h18 rfl rfl rfl rfl⟩
          · try simp only at hc55
            have hb0 : (bytesE d.at (l.e + 1) x).1 = 0 := by simpa using hc55
            have hbl := bytesAt_len (bytesE_ok hb0)
            refine gc_skip ?_
            refine gx_then ?_
            refine gc_seq ?_
            refine gsr ?_
            refine gp zmv ?_
            refine gp znc ?_
            refine gp zfa ?_
            refine gp zl ?_
            refine gp zln ?_
            refine gp zmv ?_
            refine zc (fun _ => ?_) (c := fun w1 F1 F2 h1 h2 hd hst => head_ok (k := l.rs.length) (d := (bytesE d.at (l.e + 1) x).2) h1 (hE.mv hst.still) (hK.mv hst.still) (rd_row (xs := (bytesE d.at (l.e + 1) x).2.map B8) h2 hd (by repeat (first | exact Pick.here | apply Pick.there))) (rd_le (xs := (bytesE d.at (l.e + 1) x).2.map B8) h2 (by repeat (first | exact Pick.here | apply Pick.there))) hln (by omega))
            refine gp zmv ?_
            refine gp zex ?_
            refine gp zex ?_
            refine zal fun b8 => ?_
            refine zsA (new := sc (headL l.rs.length (bytesE d.at (l.e + 1) x).2)) (sc_length _) (sc_one _) ?_
            refine gp zas ?_
            refine gnt ?_
            refine gsr ?_
            refine gp zmv ?_
            refine gp (r_bool (c := false) (r_nenil rfl (by kernel_rfl)) rfl) ?_
            refine gp zmv ?_
            refine gq (zL (sg := sc (headL l.rs.length (bytesE d.at (l.e + 1) x).2))) ?_
            refine gq (zL (sg := sc (d.at l.e))) ?_
            refine gq (r_bool (c := !decide (headL l.rs.length (bytesE d.at (l.e + 1) x).2 = (d.at l.e))) (r_neq_sec (a := headL l.rs.length (bytesE d.at (l.e + 1) x).2) (b := (d.at l.e)) Ty.arr_108 Ty.un_5 Ty.sz_5 (by kernel_rfl)) rfl) ?_
            refine gp zpk ?_
            refine gnt ?_
            refine gif rfl (fun hc73 => ?_) (fun hc73 => ?_)
            · try simp only at hc73
              have hh : headL l.rs.length (bytesE d.at (l.e + 1) x).2 ≠ (d.at l.e) := by simpa using hc73
              refine gc_seq ?_
              refine gc_regionS (by kernel_rfl) (by kernel_rfl) ?_
              refine sp (r_ld1o rfl Ty.row_38 (hE.c 7 Has.h) (hE.n 7 Has.h)) ?_
              refine sp zas ?_
              refine sp zas ?_
              refine gs_nil ?_
              refine gx_then ?_
              refine gc_ret ?_
              refine gx_then_ret ?_
              refine gx_ret2 rfl (by conv => lhs; whnf) (by conv => lhs; whnf) ?_
              have e : lstep d l = (l, false, 7) := lstep_3 hz hx hx1 hx2 hb0 hh
              exact fun w' hw => ⟨(), by rw [e], by rw [e]; exact St.led (hw.sel (by repeat (first | exact Sel.nil | (apply Sel.cons; · (repeat (first | exact Pick.here | apply Pick.there)))))) h18 rfl rfl rfl rfl⟩
            · try simp only at hc73
              have hh : headL l.rs.length (bytesE d.at (l.e + 1) x).2 = (d.at l.e) := by simpa using hc73
              refine gc_skip ?_
              refine gx_then ?_
              refine gsr ?_
              refine gp zmv ?_
              refine zc (fun q77 => ?_) (c := fun w1 F1 F2 h1 h2 hd hst => lread_ok (x := (bytesE d.at (l.e + 1) x).2) h1 (hE.mv hst.still) (hK.mv hst.still) (rd_row (xs := (bytesE d.at (l.e + 1) x).2.map B8) h2 hd (by repeat (first | exact Pick.here | apply Pick.there))) (by omega))
              refine gl_pureR (fun hq77 => ?_)
              obtain ⟨hl77, ho77⟩ := hq77
              replace hl77 : q77.length = 18 := hl77
              have i77 := Len.of hl77
              have j77 := One.of (show ∀ v ∈ q77, v.oneCell' = true from ho77)
              refine gp zmv ?_
              refine gp zex ?_
              refine gp zex ?_
              refine zal fun b10 => ?_
              refine zsN ?_
              refine gp zas ?_
              refine gnt ?_
              refine gc_seq ?_
              refine gsr ?_
              refine gp zmv ?_
              refine gp (r_bool (c := !(rdRec (bytesE d.at (l.e + 1) x).2).isSome) (r_nenil rfl (by kernel_rfl)) (by cases rdRec (bytesE d.at (l.e + 1) x).2 <;> rfl)) ?_
              refine gnt ?_
              refine gif rfl (fun hc81 => ?_) (fun hc81 => ?_)
              · try simp only at hc81
                have hr : rdRec (bytesE d.at (l.e + 1) x).2 = none := by simpa using hc81
                refine gsr ?_
                refine gp zmv ?_
                refine gp zas ?_
                refine gp zas ?_
                refine gnt ?_
                refine gc_ret ?_
                refine gx_then_ret ?_
                refine gx_ret2 rfl (by conv => lhs; whnf) (by conv => lhs; whnf) ?_
                have e := lstep_4 hz hx hx1 hx2 hb0 hh hr
                exact fun w' hw => ⟨(), by rw [e, hr]; rfl, by rw [e]; exact St.led (hw.sel (by repeat (first | exact Sel.nil | (apply Sel.cons; · (repeat (first | exact Pick.here | apply Pick.there)))))) h18 rfl rfl rfl rfl⟩
              · try simp only at hc81
                obtain ⟨r, hr⟩ : ∃ r, rdRec (bytesE d.at (l.e + 1) x).2 = some r := Option.isSome_iff_exists.1 (by simpa using hc81)
                obtain ⟨e, hlr⟩ := lstep_y hz hx hx1 hx2 hb0 hh hr
                rw [hr]
                refine gc_skip ?_
                refine gx_then ?_
                refine gc_seq ?_
                refine gc_regionU 8 ([blk q 179 [.pointer (some ⟨g, 0, none⟩), .int .i64 l.base, .int .i64 l.e, .slice a0 l.rs.length m0], blk b10 181 q77]) ?_
                refine ypu 0 rfl zmv ?_
                refine ypu 1 rfl zmv ?_
                refine ypu 2 rfl znc ?_
                refine ypu 3 rfl zfa ?_
                refine ypu 4 rfl zl ?_
                refine ypu 5 rfl (zLa (cs := q77)) ?_
                refine you 6 rfl ?_
                refine zeN fun b89 => ?_
                refine yxu ?_
                refine you 7 rfl ?_
                refine zapo fun a90 c90 => ?_
                refine yxu ?_
                refine yzu ?_
                refine gp znc ?_
                refine gp zfa ?_
                refine zs1 ?_
                refine gnt ?_
                refine gc_seq ?_
                refine gc_regionU 8 ([blk q 179 [.pointer (some ⟨g, 0, none⟩), .int .i64 l.base, .int .i64 l.e, .slice a90 (l.rs.length + 1) c90]]) ?_
                refine ypu 0 rfl zmv ?_
                refine ypu 1 rfl znc ?_
                refine ypu 2 rfl zfa ?_
                refine ypu 3 rfl zl ?_
                refine ypu 4 rfl zmv ?_
                refine you 5 rfl ?_
                refine zc (fun _ => ?_) (c := fun w1 F1 F2 h1 h2 hd hst => sectors_ok (n := x) h1 (by omega))
                refine yxu ?_
                refine ypu 6 rfl (r_int (j := ((1 + nsec x : Nat) : Int)) zad (by omega)) ?_
                refine ypu 7 rfl (r_int (j := ((l.e + (1 + nsec x) : Nat) : Int)) zad (by omega)) ?_
                refine yzu ?_
                refine gp znc ?_
                refine gp zfa ?_
                refine zs1 ?_
                refine gnt ?_
                refine gsr ?_
                refine gp zas ?_
                refine gp zas ?_
                refine gnt ?_
                refine gc_ret ?_
                refine gx_ret2 rfl (by conv => lhs; whnf) (by conv => lhs; whnf) ?_
                intro w' hw
                have hw2 := hw.conv (M := [VlR RdOpt q77 (some r)]) (by repeat (first | exact Sel.nil | (apply Sel.cons; · (repeat (first | exact Pick.here | apply Pick.there))))) (fun _ _ => vl_opt)
                have hw3 := hw2.conv (M := [ElR RdRec css l.rs, VlR RdRec q77 r]) (by repeat (first | exact Sel.nil | (apply Sel.cons; · (repeat (first | exact Pick.here | apply Pick.there))))) (fun _ _ => el_snoc)
                rw [e]
                refine ⟨(), by rw [eV_zero], St.led (l := ⟨l.base, l.rs ++ [r], l.e + lenR r⟩) (b := l.base) (e := ((l.e + (1 + nsec x) : Nat) : Int)) (a := a90) (m := l.rs.length + 1) (c := c90) (css := css ++ [q77]) (hw3.sel (M := ledL q g l.base ((l.e + (1 + nsec x) : Nat) : Int) a90 (l.rs.length + 1) c90 (css ++ [q77]) (l.rs ++ [r]) [DiskR g d]) (by rw [ledL, show (css ++ [q77]).flatten = css.flatten ++ q77 by simp]; exact by repeat (first | exact Sel.nil | (apply Sel.cons; · (repeat (first | exact Pick.here | apply Pick.there)))))) (fun c hc => by rcases List.mem_append.1 hc with h | h; exact h18 c h; (simp at h; subst h; exact hl77)) rfl (by rw [hlr]) rfl (by simp)⟩

end Go.Proofs.YtobjojeliibinaaGreatDoor

/- Walks, by program (wg.py) out of a spec. -/
namespace Go.Proofs.YtobjojeliibinaaGreatDoor
open Go
set_option linter.unusedVariables false
set_option linter.unusedSimpArgs false


theorem lnext_err {d : DS} {e h k : Nat} (hh : lnext d e h = .error k) : k = 7 := by
  unfold lnext at hh
  split at hh
  · cases hh
  · split at hh
    · cases hh; rfl
    · split at hh
      · cases hh; rfl
      · split at hh
        · split at hh
          · cases hh; rfl
          · cases hh
        · cases hh; rfl
def openE (d : DS) (b : Int) : Nat × LS := if d.has b = true then (match lopen d b.toNat [] with | .error k => (k, ⟨b, [], 0⟩) | .ok (rs, e) => (0, ⟨b, rs, e⟩)) else (1, ⟨b, [], 0⟩)
structure OpenInv (d : DS) (b : Int) (l : LS) (m : Bool) : Prop where
  lt : l.e < d.n
  ba : l.base = b
  ln : l.rs.length ≤ l.e
  eq : lopen d b.toNat [] = if m = true then lopen d l.e l.rs else .ok (l.rs, l.e)
section
variable {d : DS} {b : Int} {l : LS}
theorem OpenInv.start (h : d.has b = true) : OpenInv d b ⟨b, [], b.toNat⟩ true := by
  obtain ⟨h0, h1⟩ := has_iff.1 h
  exact ⟨by show b.toNat < d.n; omega, rfl, Nat.zero_le _, by rw [if_pos rfl]⟩
theorem OpenInv.bad (h : OpenInv d b l true) (he : (lstep d l).2.2 ≠ 0) : lopen d b.toNat [] = .error (lstep d l).2.2 := by
  rw [h.eq, if_pos rfl]
  unfold lstep at he ⊢
  cases hn : lnext d l.e l.rs.length with
  | error k => rw [lopen_err hn]
  | ok o => cases o with
    | none => rw [hn] at he; exact absurd rfl he
    | some r => rw [hn] at he; exact absurd rfl he
theorem OpenInv.step (h : OpenInv d b l true) (he : (lstep d l).2.2 = 0) : OpenInv d b (lstep d l).1 (lstep d l).2.1 ∧ 2 * (d.n - (lstep d l).1.e) + (lstep d l).2.1.toNat < 2 * (d.n - l.e) + 1 := by
  have hq := h.eq
  rw [if_pos rfl] at hq
  unfold lstep at he ⊢
  cases hn : lnext d l.e l.rs.length with
  | error k => rw [hn] at he; have := lnext_err hn; simp only at he; omega
  | ok o => cases o with
    | none => exact ⟨⟨h.lt, h.ba, h.ln, by show lopen d b.toNat [] = .ok (l.rs, l.e); rw [hq, lopen_done hn]⟩, by simp⟩
    | some r =>
      obtain ⟨hr, hl⟩ := lnext_some hn
      have h1 : 1 ≤ lenR r := by unfold lenR; omega
      have h2 := h.lt
      have h3 := h.ln
      refine ⟨⟨by show l.e + lenR r < d.n; omega, h.ba, by show (l.rs ++ [r]).length ≤ l.e + lenR r; rw [List.length_append]; simp; omega, by show lopen d b.toNat [] = lopen d (l.e + lenR r) (l.rs ++ [r]); rw [hq, lopen_more hn]⟩, ?_⟩
      show 2 * (d.n - (l.e + lenR r)) + true.toNat < _
      simp; omega
theorem openE_bad {k : Nat} (h : d.has b = true) (hb : lopen d b.toNat [] = .error k) : openE d b = (k, ⟨b, [], 0⟩) := by rw [openE, if_pos h, hb]
theorem OpenInv.done (h : OpenInv d b l false) (hb : d.has b = true) : openE d b = (0, l) := by
  have hq := h.eq
  rw [if_neg (by decide)] at hq
  rw [openE, if_pos hb, hq]
  simp only
  rw [← h.ba]
theorem openE_out (h : ¬ d.has b = true) : openE d b = (1, ⟨b, [], 0⟩) := by rw [openE, if_neg h]
end

attribute [local irreducible] Gl Gc Gx Gs Runs Wt

attribute [local irreducible] lstep

set_option maxHeartbeats 400000 in
theorem lopen_ok' {w : World} {F : Nat → Prop} {g : Nat} {d : DS} (h : stars [DiskR g d] w F) {b : Int} (hk : DOk d) {ea : Nat → Addr} {es : List Nat} [Has es 1] [Has es 2] [Has es 3] [Has es 4] [Has es 6] [Has es 7] [Has es 12] (hE : GErr es w (fun k => ¬ F k) 340 ea) (hK : KR w (fun k => ¬ F k)) (ho : d.off = false) :
    Calls Tryz.prog 46 #[.pointer (some ⟨g, 0, none⟩), .int .i64 b] w (Post w F (fun q : Nat => .tuple #[.pointer (if (openE d b).1 = 0 then some ⟨q, 0, none⟩ else none), eV 340 ea (openE d b).1]) (fun q => if (openE d b).1 = 0 then [LedR q g (openE d b).2, DiskR g d] else [DiskR g d])) := by
  have hn4 := hk.n
  refine g_enter (env := [(0, .pointer (some ⟨g, 0, none⟩)), (1, .int .i64 b)]) Tryz.func46 rfl h Tryz.ntmps46 rfl rfl ?_
  refine gsr ?_
  refine gp zas ?_
  refine gp zas ?_
  refine gnt ?_
  refine gc_seq ?_
  by_cases hS : d.has b = true
  · refine gc_region ?_
    refine gp zmv ?_
    refine gp zmv ?_
    refine zc (fun q => ?_) (c := fun w1 F1 F2 h1 h2 hd hst => lbegin_ok (ea := ea) h1 hk hS)
    refine gp zmv ?_
    refine gp zex ?_
    refine gp zex ?_
    refine gp zas ?_
    refine gp zas ?_
    refine gnt ?_
    refine gc_seq ?_
    refine gsr ?_
    refine gp zmv ?_
    refine gp (r_bool (c := false) (r_nenil rfl (by kernel_rfl)) rfl) ?_
    refine gnt ?_
    refine gc_condF rfl rfl ?_
    refine gc_skip ?_
    refine gx_then ?_
    refine gc_seq ?_
    refine gsr ?_
    refine gp zas ?_
    refine gnt ?_
    refine gc_block ?_
    refine gc_loop (α := LS × Bool) (fun y => [pureR (OpenInv d b y.1 y.2), LedR q g y.1, DiskR g d]) (fun y => [(8, .bool y.2), (7, eV 340 ea 0)]) [4, 5, 18, 19, 20, 21, 22, 23, 24, 25, 26] (fun y => 2 * (d.n - y.1.e) + y.2.toNat) (⟨b, [], b.toNat⟩, true) ?_ ?_ ?_
    · refine env_start (by kernel_rfl)
    · exact zlp (OpenInv.start hS)
    · intro y u
      obtain ⟨l, m⟩ := y
      refine gc_pureR (fun hi => ?_)
      replace hi : OpenInv d b l m := hi
      refine gc_seq ?_
      refine gsr ?_
      refine gp zmv ?_
      refine gnt ?_
      refine gif rfl (fun hc18 => ?_) (fun hc18 => ?_)
      · try simp only at hc18
        obtain rfl : m = true := by simpa using hc18
        have hlt := hi.lt
        have hln := hi.ln
        refine gc_skip ?_
        refine gx_then ?_
        refine gc_block ?_
        refine gsr ?_
        refine gp zmv ?_
        refine zc (fun _ => ?_) (c := fun w1 F1 F2 h1 h2 hd hst => lnext_ok' (l := l) h1 hk (hE.mv hst.still) (hK.mv hst.still) ho hlt (by omega))
        refine gp zmv ?_
        refine gp zex ?_
        refine gp zex ?_
        refine gp zas ?_
        refine gp zas ?_
        refine gnt ?_
        refine gsr ?_
        refine gp zmv ?_
        refine gp (r_bool (c := decide (¬ (lstep d l).2.2 = 0)) (r_nenil rfl (by kernel_rfl)) (by simp)) ?_
        refine gnt ?_
        refine gif rfl (fun hc25 => ?_) (fun hc25 => ?_)
        · try simp only at hc25
          have hbad := openE_bad hS (hi.bad hc25)
          refine gsr ?_
          refine gp zmv ?_
          refine gp zas ?_
          refine gp zas ?_
          refine gnt ?_
          refine gc_ret ?_
          refine gx_block_ret ?_
          refine gx_round_ret ?_
          refine gx_block_ret ?_
          refine gx_then_ret ?_
          refine gx_ret2 rfl (by conv => lhs; whnf) (by conv => lhs; whnf) ?_
          exact fun w' hw => ⟨0, by rw [hbad]; simp only [if_neg hc25], by rw [hbad]; simp only [if_neg hc25]; exact hw.sel (by repeat (first | exact Sel.nil | (apply Sel.cons; · (repeat (first | exact Pick.here | apply Pick.there)))))⟩
        · try simp only at hc25
          have he0 : (lstep d l).2.2 = 0 := by simpa using hc25
          have hstp := hi.step he0
          rw [he0]
          refine gc_skip ?_
          refine gx_block_normal ?_
          refine zrd (((lstep d l).1, (lstep d l).2.1)) ?_ ?_
          · exact hstp.2
          · exact zlp hstp.1
      · try simp only at hc18
        obtain rfl : m = false := by simpa using hc18
        refine gc_exit ?_
        refine gx_then_exit ?_
        refine gx_round_exit ?_
        refine gx_block_hit ?_
        refine gx_then ?_
        refine gsr ?_
        refine gp zmv ?_
        refine gp zas ?_
        refine gp zas ?_
        refine gnt ?_
        refine gc_ret ?_
        refine gx_ret2 rfl (by conv => lhs; whnf) (by conv => lhs; whnf) ?_
        have e := hi.done hS
        exact fun w' hw => ⟨q, by rw [e, eV_zero]; rfl, by simp only [e, if_pos (show (0 : Nat) = 0 from rfl)]; exact hw.sel (by repeat (first | exact Sel.nil | (apply Sel.cons; · (repeat (first | exact Pick.here | apply Pick.there)))))⟩
  · refine gc_region ?_
    refine gp zmv ?_
    refine gp zmv ?_
    refine zc (fun _ => ?_) (c := fun w1 F1 F2 h1 h2 hd hst => lbegin_bad (b := b) h1 hk (hE.mv hst.still) (by simpa using hS))
    refine gp zmv ?_
    refine gp zex ?_
    refine gp zex ?_
    refine gp zas ?_
    refine gp zas ?_
    refine gnt ?_
    refine gc_seq ?_
    refine gsr ?_
    refine gp zmv ?_
    refine gp (r_bool (c := true) (r_nenil rfl (by kernel_rfl)) rfl) ?_
    refine gnt ?_
    refine gc_condT rfl rfl ?_
    refine gsr ?_
    refine gp zmv ?_
    refine gp zas ?_
    refine gp zas ?_
    refine gnt ?_
    refine gc_ret ?_
    refine gx_then_ret ?_
    refine gx_ret2 rfl (by conv => lhs; whnf) (by conv => lhs; whnf) ?_
    have e := openE_out hS
    exact fun w' hw => ⟨0, by rw [e]; rfl, by simp only [e, if_neg (show ¬ (1 : Nat) = 0 by decide)]; exact hw.sel (by repeat (first | exact Sel.nil | (apply Sel.cons; · (repeat (first | exact Pick.here | apply Pick.there)))))⟩

end Go.Proofs.YtobjojeliibinaaGreatDoor

/- Walks, by program (wg.py) out of a spec. -/
namespace Go.Proofs.YtobjojeliibinaaGreatDoor
open Go
set_option linter.unusedVariables false
set_option linter.unusedSimpArgs false


def pieceE (g o n : Nat) (i : Nat) (_ : Unit) : Array Value := #[.slice (some ⟨g, o + 64 * i, none⟩) (min 64 (n - 64 * i)) (min 64 (n - 64 * i))]
def pieceG (n : Nat) (i : Nat) (_ : Unit) : List Res := [pureR (64 * i < n)]
def allOr (n : Nat) (y : Bool) : Option Nat := if y = true then some n else none
theorem rounds_base {P : Program} {l : Nat} {α : Type} {enc : Nat → α → Array Value} {G : Nat → α → List Res} {J : Nat → Res} {Jx : Res} {w : World} {F : Nat → Prop} (h : RoundsAt P l enc G J Jx w F) : RoundsAt P l enc G J Jx w F := h

attribute [local irreducible] Gl Gc Gx Gs Runs Wt

set_option maxHeartbeats 400000 in
theorem chunk_ok {w : World} {F : Nat → Prop} {a : Option Addr} {n c : Nat} (h : stars [] w F) :
    Calls Tryz.prog 96 #[.slice a n c, .int .i64 64] w (Post w F (fun p : Nat × Nat => .func (.func 136) #[] #[.pointer (some ⟨p.1, 0, none⟩), .pointer (some ⟨p.2, 0, none⟩)]) (fun p => [blk p.1 86 [.slice a n c], blk p.2 3 [.int .i64 64]])) := by
  refine g_enter (env := [(0, .slice a n c), (1, .int .i64 64)]) Tryz.func96 rfl h Tryz.ntmps96 rfl rfl ?_
  refine gsr ?_
  refine zb1 fun b2 => ?_
  refine zb1 fun b3 => ?_
  refine gp zas ?_
  refine gnt ?_
  refine gc_seq ?_
  refine gsr ?_
  refine gp zl ?_
  refine gp (r_bool (c := false) zlt rfl) ?_
  refine gnt ?_
  refine gc_condF rfl rfl ?_
  refine gc_skip ?_
  refine gx_then ?_
  refine gsr ?_
  refine gp zmf ?_
  refine gp zas ?_
  refine gnt ?_
  refine gc_ret ?_
  refine gx_ret1 rfl (by conv => lhs; whnf) ?_
  exact ze (b2, b3)

set_option maxHeartbeats 400000 in
theorem chunk1_ok {w : World} {F : Nat → Prop} {b1 b2 g o n c lp : Nat} {J : Nat → Res} {Jx : Res} (h : stars [blk b1 86 [.slice (some ⟨g, o, none⟩) n c], blk b2 3 [.int .i64 64], J 0] w F) (hc : n ≤ c) (hn : n ≤ 1099511627776) (hy : RoundsAt Tryz.prog lp (pieceE g o n) (pieceG n) J Jx w F) :
    Calls Tryz.prog 136 #[.func (.yield lp) #[] #[], .pointer (some ⟨b1, 0, none⟩), .pointer (some ⟨b2, 0, none⟩)] w (Post w F (fun _ : Bool => .tuple #[]) (fun y => (match allOr (nsec n) y with | some m => J m | none => Jx) :: [])) := by
  have hns : n ≤ 64 * nsec n ∧ 64 * nsec n < n + 64 := by unfold nsec; omega
  refine g_enter (env := [(0, .func (.yield lp) #[] #[]), (1, .pointer (some ⟨b1, 0, none⟩)), (2, .pointer (some ⟨b2, 0, none⟩))]) Tryz.func136 rfl h Tryz.ntmps136 rfl rfl ?_
  refine gsr ?_
  refine gp zas ?_
  refine gnt ?_
  refine gc_block ?_
  refine gc_loop (α := Nat) (fun k => [pureR (k ≤ nsec n), blk b1 86 [.slice (some ⟨g, o, none⟩) n c], blk b2 3 [.int .i64 64], J k]) (fun k => [(4, .int .i64 ((64 * k : Nat) : Int))]) [5, 6, 7, 8, 9, 10, 11, 12, 13, 14, 15, 16, 17, 18, 19, 20, 21, 22, 23, 24, 25, 26, 27, 28, 29, 30] (fun k => nsec n - k) 0 ?_ ?_ ?_
  · refine env_start (by kernel_rfl)
  · exact zlp (Nat.zero_le _)
  · intro k u
    refine gc_pureR (fun hk => ?_)
    replace hk : k ≤ nsec n := hk
    refine gc_seq ?_
    refine gsr ?_
    refine gp zmv ?_
    refine gp zl ?_
    refine gp zln ?_
    refine gp zlt ?_
    refine gnt ?_
    refine gif rfl (fun hc9 => ?_) (fun hc9 => ?_)
    · try simp only at hc9
      have hk' : 64 * k < n := by omega
      have hks : k < nsec n := by omega
      refine gc_skip ?_
      refine gx_then ?_
      refine gc_seq ?_
      refine gc_block ?_
      refine gc_seq ?_
      refine gc_regionS (by kernel_rfl) (by kernel_rfl) ?_
      refine sp zl ?_
      refine sp zl ?_
      refine sp zmv ?_
      refine sp (r_slice_slice (a := some ⟨g, o, none⟩) (m := n) (c := c) (l := 64 * k) (h := n) rfl Ty.sl_86 Ty.sz_5 ⟨_, rfl⟩ rfl (by omega) (by omega)) ?_
      refine sp zln ?_
      refine sp (r_int (j := ((min 64 (n - 64 * k) : Nat) : Int)) r_min (by split <;> omega)) ?_
      refine sp zas ?_
      refine gs_nil ?_
      refine gx_then ?_
      refine gsr ?_
      refine gp zmv ?_
      refine gp zl ?_
      refine gp zmv ?_
      refine gp zmv ?_
      refine gp zmv ?_
      refine gp (r_int (j := ((64 * k + min 64 (n - 64 * k) : Nat) : Int)) zad (by omega)) ?_
      refine gp zmv ?_
      refine gp zmv ?_
      refine gp (r_int (j := ((64 * k + min 64 (n - 64 * k) : Nat) : Int)) zad (by omega)) ?_
      refine gp (r_val (v' := .slice (some ⟨g, o + 64 * k, none⟩) (min 64 (n - 64 * k)) (min 64 (n - 64 * k))) (r_slice3 (a := some ⟨g, o, none⟩) (m := n) (c := c) (l := 64 * k) (h := 64 * k + min 64 (n - 64 * k)) (u := 64 * k + min 64 (n - 64 * k)) rfl Ty.sl_86 Ty.sz_5 rfl rfl rfl (by omega) (Nat.le_refl _) (by omega)) (by rw [if_neg (by omega), add_at, Nat.mul_one, Nat.add_sub_cancel_left])) ?_
      refine gl_pI (p := 64 * k < n) hk' ?_
      refine gyd hy k () rfl (by repeat (first | exact Sel.nil | (apply Sel.cons; · (repeat (first | exact Pick.here | apply Pick.there))))) (fun x29 => ?_)
      rcases x29 with _ | _
      · refine gp znt ?_
        refine gnt ?_
        refine gc_condT rfl rfl ?_
        refine gc_ret ?_
        refine gx_block_ret ?_
        refine gx_then_ret ?_
        refine gx_round_ret ?_
        refine gx_block_ret ?_
        refine gx_ret0 rfl ?_
        exact ze false
      · refine gp znt ?_
        refine gnt ?_
        refine gc_condF rfl rfl ?_
        refine gc_skip ?_
        refine gx_block_normal ?_
        refine gx_then ?_
        refine gc_region ?_
        refine gp zmv ?_
        refine gp zl ?_
        refine gp (r_int (j := ((64 * (k + 1) : Nat) : Int)) zad (by omega)) ?_
        refine gp zas ?_
        refine gl_nil ?_
        refine zrd (k + 1) ?_ ?_
        · show nsec n - (k + 1) < nsec n - k
          omega
        · exact zlp (show k + 1 ≤ nsec n by omega)
    · try simp only at hc9
      have hk' : k = nsec n := by omega
      subst hk'
      refine gc_exit ?_
      refine gx_then_exit ?_
      refine gx_round_exit ?_
      refine gx_block_hit ?_
      refine gx_ret0' rfl ?_
      exact ze true


theorem chunk1_it {w : World} {F : Nat → Prop} {b1 b2 g o n c lp : Nat} {J : Nat → Res} {Jx : Res} (h : stars [blk b1 86 [.slice (some ⟨g, o, none⟩) n c], blk b2 3 [.int .i64 64], J 0] w F) (hc : n ≤ c) (hn : n ≤ 1099511627776) :
    IterAt Tryz.prog 136 #[.pointer (some ⟨b1, 0, none⟩), .pointer (some ⟨b2, 0, none⟩)] (pieceE g o n) (pieceG n) (allOr (nsec n)) (fun _ => []) (fun _ : Bool => .tuple #[]) lp J Jx w F := fun hy => by
  have h2 := chunk1_ok h hc hn hy
  exact h2

end Go.Proofs.YtobjojeliibinaaGreatDoor

/- Walks, by program (wg.py) out of a spec. -/
namespace Go.Proofs.YtobjojeliibinaaGreatDoor
open Go
set_option linter.unusedVariables false
set_option linter.unusedSimpArgs false


def wseq (d : DS) : List (Int × Sec) → Nat × DS
  | [] => (0, d)
  | p :: l => if (d.wr p.1 p.2).1 = 0 then wseq (d.wr p.1 p.2).2 l else d.wr p.1 p.2
theorem wseq_snoc (p : Int × Sec) : ∀ (l : List (Int × Sec)) (d : DS), wseq d (l ++ [p]) = if (wseq d l).1 = 0 then (wseq d l).2.wr p.1 p.2 else wseq d l
  | [], d => by
    simp only [List.nil_append, wseq, if_true]
    split
    · rename_i h; exact Prod.ext h.symm rfl
    · rfl
  | q :: l, d => by
    rw [List.cons_append]
    by_cases h : (d.wr q.1 q.2).1 = 0
    · have e1 : ∀ m, wseq d (q :: m) = wseq (d.wr q.1 q.2).2 m := fun m => by rw [wseq, if_pos h]
      rw [e1, e1, wseq_snoc p l]
    · have e1 : ∀ m, wseq d (q :: m) = d.wr q.1 q.2 := fun m => by rw [wseq, if_neg h]
      rw [e1, e1, if_neg h]
theorem wseq_ok : ∀ (l : List (Int × Sec)) {d : DS}, DOk d → DOk (wseq d l).2
  | [], d, h => h
  | q :: l, d, h => by
    simp only [wseq]; split
    · exact wseq_ok l (wr_ok h)
    · exact wr_ok h
def dataW (e : Nat) (x : List UInt8) (i : Nat) : List (Int × Sec) := (List.range i).map fun j => (((e + 1 + j : Nat) : Int), secData x j)
theorem dataW_succ (e : Nat) (x : List UInt8) (i : Nat) : dataW e x (i + 1) = dataW e x i ++ [(((e + 1 + i : Nat) : Int), secData x i)] := by simp [dataW, List.range_succ]
/-- The data's i sectors are written. -/
def wdat (d : DS) (e : Nat) (x : List UInt8) (i : Nat) : Nat × DS := wseq d (dataW e x i)
theorem wdat_zero (d : DS) (e : Nat) (x : List UInt8) : wdat d e x 0 = (0, d) := rfl
theorem wdat_step {d : DS} {e i : Nat} {x : List UInt8} (h : (wdat d e x i).1 = 0) : wdat d e x (i + 1) = (wdat d e x i).2.wr ((e + 1 + i : Nat) : Int) (secData x i) := by
  unfold wdat at *; rw [dataW_succ, wseq_snoc, if_pos h]
theorem wdat_ok {d : DS} {e i : Nat} {x : List UInt8} (h : DOk d) : DOk (wdat d e x i).2 := wseq_ok _ h
/-- Once it failed it goes no further. -/
theorem wdat_stop {d : DS} {e i : Nat} {x : List UInt8} (h : (wdat d e x i).1 ≠ 0) : ∀ m, wdat d e x (i + m) = wdat d e x i
  | 0 => rfl
  | m + 1 => by
    have ih := wdat_stop h m
    rw [show i + (m + 1) = (i + m) + 1 by omega]
    unfold wdat at *
    rw [dataW_succ, wseq_snoc, if_neg (by rw [ih]; exact h), ih]
def appS (d : DS) (l : LS) (r : LRec) : Nat × DS × LS := if (oper d).off = true then (6, d.syncd, l) else (0, d.syncd, ⟨l.base, l.rs ++ [r], l.e + lenR r⟩)
def appH (d : DS) (l : LS) (r : LRec) : Nat × DS × LS := if (d.wr l.e (headL l.rs.length r.data)).1 = 0 then appS (d.wr l.e (headL l.rs.length r.data)).2 l r else ((d.wr l.e (headL l.rs.length r.data)).1, (d.wr l.e (headL l.rs.length r.data)).2, l)
def appM (d : DS) (l : LS) (r : LRec) : Nat × DS × LS := if (oper d).off = true then (6, d.syncd, l) else appH d.syncd l r
def appE (d : DS) (l : LS) (r : LRec) : Nat × DS × LS := if (d.wr ((l.e + lenR r : Nat) : Int) sec0).1 = 0 then appM (d.wr ((l.e + lenR r : Nat) : Int) sec0).2 l r else ((d.wr ((l.e + lenR r : Nat) : Int) sec0).1, (d.wr ((l.e + lenR r : Nat) : Int) sec0).2, l)
def appD (d : DS) (l : LS) (r : LRec) : Nat × DS × LS := if (wdat d l.e r.data (nsec r.data.length)).1 = 0 then appE (wdat d l.e r.data (nsec r.data.length)).2 l r else ((wdat d l.e r.data (nsec r.data.length)).1, (wdat d l.e r.data (nsec r.data.length)).2, l)
def appL (d : DS) (l : LS) (b : Block) (c : QC) : Nat × DS × LS := if madeE b c = 0 then (if 200 ≤ l.rs.length ∨ ¬ nsec (⟨b, c⟩ : LRec).data.length + 2 ≤ d.n - l.e then (8, d, l) else appD d l ⟨b, c⟩) else (madeE b c, d, l)
theorem sec_cells (x : List UInt8) (i : Nat) : updL ((List.replicate 64 (0 : UInt8)).map B8) 0 (((x.drop (64 * i)).take (min 64 (x.length - 64 * i))).map B8) = sc (secData x i) := by
  have e : (x.drop (64 * i)).take (min 64 (x.length - 64 * i)) = (x.drop (64 * i)).take 64 := by
    by_cases h : 64 ≤ x.length - 64 * i
    · rw [Nat.min_eq_left h]
    · rw [List.take_of_length_le (by simp; omega), List.take_of_length_le (by simp; omega)]
  have hl : ((x.drop (64 * i)).take 64).length ≤ 64 := by simp; omega
  rw [e, updL_updY]
  simp only [updY, sc, secData, List.take_zero, List.nil_append, Nat.zero_add, List.drop_replicate]
theorem vl_mrec {b : Block} {c : QC} {cs : List Value} {w : World} {F : Nat → Prop} (h0 : madeE b c = 0) (h : stars [VlR RdMade cs (b, c)] w F) : stars [VlR RdRec cs ⟨b, c⟩] w F := rdR_mk (show RdRec w F cs ⟨b, c⟩ from RdMade.rec h0 (stars_one' h).1) h
theorem lenR_eq (r : LRec) : lenR r = 1 + nsec r.data.length := rfl

attribute [local irreducible] Gl Gc Gx Gs Runs Wt

attribute [local irreducible] dc RdMade RdOpt RdRec RdBlock RdQC madeE blkC lstep headL wdat secData appL nsec

set_option maxHeartbeats 400000 in
theorem append_ok {w : World} {F : Nat → Prop} {q g : Nat} {l : LS} {d : DS} (h : stars [LedR q g l, DiskR g d] w F) {cs qs : List Value} {b : Block} {c : QC} (hk : DOk d) {ea : Nat → Addr} {es : List Nat} [Has es 1] [Has es 4] [Has es 6] [Has es 8] [Has es 12] (hE : GErr es w (fun k => ¬ F k) 340 ea) (hK : KR w (fun k => ¬ F k)) (hx : RdBlock w (fun k => ¬ F k) cs b) (hq : RdQC w (fun k => ¬ F k) qs c) (he : l.e < d.n) (hln : l.rs.length < 4294967296) :
    Calls Tryz.prog 45 #[.pointer (some ⟨q, 0, none⟩), .agg cs.toArray, .agg qs.toArray] w (Post w F (fun _ : Unit => eV 340 ea (appL d l b c).1) (fun _ => [LedR q g (appL d l b c).2.2, DiskR g (appL d l b c).2.1])) := by
  have hl := hx.len
  have il := Len.of hl
  have jl := One.of hx.one
  have hl2 := hq.len
  have il2 := Len.of hl2
  have jl2 := One.of hq.one
  have hn4 := hk.n
  have hdl := data_len (⟨b, c⟩ : LRec)
  refine g_enterM (env := [(0, .pointer (some ⟨q, 0, none⟩)), (1, .agg cs.toArray), (2, .agg qs.toArray)]) Tryz.func45 rfl h Tryz.ntmps45 rfl rfl ?_
  refine gsr ?_
  refine zb1 fun b3 => ?_
  refine zbN fun b4 => ?_
  refine zbN fun b5 => ?_
  refine zal fun b6 => ?_
  refine gnt ?_
  refine gsr ?_
  refine gp (zLa (cs := cs)) ?_
  refine gp (zLa (cs := qs)) ?_
  refine zc (fun q22 => ?_) (c := fun w1 F1 F2 h1 h2 hd hst => made_ok' h1 (hE.mv hst.still) (hK.mv hst.still) (hx.mv hst.still) (hq.mv hst.still))
  refine gl_pureR (fun hq22 => ?_)
  obtain ⟨hl22, ho22⟩ := hq22
  replace hl22 : q22.length = 18 := hl22
  have i22 := Len.of hl22
  have j22 := One.of (show ∀ v ∈ q22, v.oneCell' = true from ho22)
  refine gl_led (by repeat (first | exact Pick.here | apply Pick.there)) (fun a0 m0 css h18 => ?_)
  refine gp zmv ?_
  refine gp zex ?_
  refine gp zex ?_
  refine zal fun b7 => ?_
  refine zsN ?_
  refine gp zas ?_
  refine gnt ?_
  refine gc_seq ?_
  refine gsr ?_
  refine gp zmv ?_
  refine gp (r_bool (c := decide (¬ madeE b c = 0)) (r_nenil rfl (by kernel_rfl)) (by simp)) ?_
  refine gnt ?_
  refine gif rfl (fun hc26 => ?_) (fun hc26 => ?_)
  · refine gsr ?_
    refine gp zmv ?_
    refine zs1 ?_
    refine gnt ?_
    refine gc_ret ?_
    refine gx_then_ret ?_
    refine gx_mark0 ?_
    refine gx_retc rfl rfl (ld_oneS Ty.row_38 (by repeat (first | exact Pick.here | apply Pick.there)) (by first | rfl | (simp only [List.getElem?_cons_succ, List.getElem?_cons_zero, List.cons_append, List.append_assoc, get_dc, get_L, Nat.reduceLeDiff, Nat.reduceSub, Nat.reduceAdd, Nat.le_refl]; rfl))) ?_
    have e : appL d l b c = (madeE b c, d, l) := by unfold appL; rw [if_neg hc26]
    exact fun w' hw => ⟨(), by rw [e], by rw [e]; exact St.led (hw.sel (by repeat (first | exact Sel.nil | (apply Sel.cons; · (repeat (first | exact Pick.here | apply Pick.there)))))) h18 rfl rfl rfl rfl⟩
  · try simp only at hc26
    have hm : madeE b c = 0 := by simpa using hc26
    refine gc_conv (M := [VlR RdMade q22 (b, c)]) (N := [VlR RdRec q22 ⟨b, c⟩]) (by repeat (first | exact Sel.nil | (apply Sel.cons; · (repeat (first | exact Pick.here | apply Pick.there))))) (fun _ _ h => vl_mrec hm h) ?_
    refine gc_skip ?_
    refine gx_then ?_
    refine gsr ?_
    refine gp (zLa (cs := q22)) ?_
    refine zc ?_ (c := fun w1 F1 F2 h1 h2 hd hst => data_ok (r := ⟨b, c⟩) h1 (hE.mv hst.still) (vl_rd h2 hd (by repeat (first | exact Pick.here | apply Pick.there))))
    rintro ⟨a30, c30⟩
    refine gp zmv ?_
    refine gp zex ?_
    refine gp zex ?_
    refine gp zas ?_
    refine gp zas ?_
    refine gnt ?_
    refine gc_seq ?_
    refine gsr ?_
    refine gp zmv ?_
    refine gp (r_bool (c := false) (r_nenil rfl (by kernel_rfl)) rfl) ?_
    refine gnt ?_
    refine gc_condF rfl rfl ?_
    refine gc_skip ?_
    refine gx_then ?_
    refine gc_seq ?_
    refine gc_seq ?_
    by_cases hfl : 200 ≤ l.rs.length
    · refine gc_region ?_
      refine gp zl ?_
      refine gp znc ?_
      refine gp zfa ?_
      refine gp zl ?_
      refine gp zln ?_
      refine gp (r_bool (c := true) zge (decide_eq_true (by omega))) ?_
      refine gp zmv ?_
      refine gn ?_
      refine gn ?_
      refine gn ?_
      refine gn ?_
      refine gn ?_
      refine gp zpk ?_
      refine gnt ?_
      refine gc_condT rfl rfl ?_
      refine gsr ?_
      refine gp (r_ld1o rfl Ty.row_38 (hE.c 8 Has.h) (hE.n 8 Has.h)) ?_
      refine zs1 ?_
      refine gnt ?_
      refine gc_ret ?_
      refine gx_then_ret ?_
      refine gx_mark0 ?_
      refine gx_retc rfl rfl (ld_oneS Ty.row_38 (by repeat (first | exact Pick.here | apply Pick.there)) (by first | rfl | (simp only [List.getElem?_cons_succ, List.getElem?_cons_zero, List.cons_append, List.append_assoc, get_dc, get_L, Nat.reduceLeDiff, Nat.reduceSub, Nat.reduceAdd, Nat.le_refl]; rfl))) ?_
      have e : appL d l b c = (8, d, l) := by unfold appL; rw [if_pos hm, if_pos (.inl hfl)]
      exact fun w' hw => ⟨(), by rw [e], by rw [e]; exact St.led (hw.sel (by repeat (first | exact Sel.nil | (apply Sel.cons; · (repeat (first | exact Pick.here | apply Pick.there)))))) h18 rfl rfl rfl rfl⟩
    · refine gc_region ?_
      refine gp zl ?_
      refine gp znc ?_
      refine gp zfa ?_
      refine gp zl ?_
      refine gp zln ?_
      refine gp (r_bool (c := false) zge (decide_eq_false (by omega))) ?_
      refine gp zmv ?_
      refine gq zl ?_
      refine gq zmv ?_
      refine gq zln ?_
      refine gl_conv (M := [blk q 179 [.pointer (some ⟨g, 0, none⟩), .int .i64 l.base, .int .i64 l.e, .slice a0 l.rs.length m0], rowR 181 18 a0 l.rs.length m0 css.flatten, ElR RdRec css l.rs]) (N := [LedR q g l]) (by repeat (first | exact Sel.nil | (apply Sel.cons; · (repeat (first | exact Pick.here | apply Pick.there))))) (fun w' F' hh => ?_) ?_
      · exact stars_ex_mk ((a0, m0), css) (stars_all_mk (stars_pure_mk h18 hh))
      refine zc (fun _ => ?_) (c := fun w1 F1 F2 h1 h2 hd hst => room_ok (n := (⟨b, c⟩ : LRec).data.length) h1 hk (by omega) (by omega))
      refine gl_led (by repeat (first | exact Pick.here | apply Pick.there)) (fun a0 m0 css h18 => ?_)
      refine gq znt ?_
      refine gp zpk ?_
      refine gnt ?_
      refine gif rfl (fun hc48 => ?_) (fun hc48 => ?_)
      · try simp only at hc48
        have hrm : ¬ nsec (⟨b, c⟩ : LRec).data.length + 2 ≤ d.n - l.e := by simpa using hc48
        refine gsr ?_
        refine gp (r_ld1o rfl Ty.row_38 (hE.c 8 Has.h) (hE.n 8 Has.h)) ?_
        refine zs1 ?_
        refine gnt ?_
        refine gc_ret ?_
        refine gx_then_ret ?_
        refine gx_mark0 ?_
        refine gx_retc rfl rfl (ld_oneS Ty.row_38 (by repeat (first | exact Pick.here | apply Pick.there)) (by first | rfl | (simp only [List.getElem?_cons_succ, List.getElem?_cons_zero, List.cons_append, List.append_assoc, get_dc, get_L, Nat.reduceLeDiff, Nat.reduceSub, Nat.reduceAdd, Nat.le_refl]; rfl))) ?_
        have e : appL d l b c = (8, d, l) := by unfold appL; rw [if_pos hm, if_pos (.inr hrm)]
        exact fun w' hw => ⟨(), by rw [e], by rw [e]; exact St.led (hw.sel (by repeat (first | exact Sel.nil | (apply Sel.cons; · (repeat (first | exact Pick.here | apply Pick.there)))))) h18 rfl rfl rfl rfl⟩
      · try simp only at hc48
        have hrm : nsec (⟨b, c⟩ : LRec).data.length + 2 ≤ d.n - l.e := by simpa using hc48
        have hfit : ¬ (200 ≤ l.rs.length ∨ ¬ nsec (⟨b, c⟩ : LRec).data.length + 2 ≤ d.n - l.e) := fun hh => hh.elim hfl (fun h' => h' hrm)
        refine gc_fact (fun w' hw => St.rowAt (hw.sel (M := [rowR 5 1 a30 (⟨b, c⟩ : LRec).data.length c30 ((⟨b, c⟩ : LRec).data.map B8)]) (by repeat (first | exact Sel.nil | (apply Sel.cons; · (repeat (first | exact Pick.here | apply Pick.there)))))) .here (by omega)) (fun hra => ?_)
        obtain ⟨hnc, ga, oa, ha⟩ := hra
        subst ha
        refine gc_skip ?_
        refine gx_then ?_
        refine gsr ?_
        refine gp zl ?_
        refine gp znc ?_
        refine gp zfa ?_
        refine gp zl ?_
        refine gp zln ?_
        refine gp zmv ?_
        refine zc (fun _ => ?_) (c := fun w1 F1 F2 h1 h2 hd hst => head_ok (k := l.rs.length) (d := (⟨b, c⟩ : LRec).data) h1 (hE.mv hst.still) (hK.mv hst.still) (rd_row (xs := (⟨b, c⟩ : LRec).data.map B8) h2 hd (by repeat (first | exact Pick.here | apply Pick.there))) (rd_le (xs := (⟨b, c⟩ : LRec).data.map B8) h2 (by repeat (first | exact Pick.here | apply Pick.there))) hln (by omega))
        refine gp zmv ?_
        refine gp zex ?_
        refine gp zex ?_
        refine zal fun b10 => ?_
        refine zsA (new := sc (headL l.rs.length (⟨b, c⟩ : LRec).data)) (sc_length _) (sc_one _) ?_
        refine gp zas ?_
        refine gnt ?_
        refine gc_seq ?_
        refine gsr ?_
        refine gp zmv ?_
        refine gp (r_bool (c := false) (r_nenil rfl (by kernel_rfl)) rfl) ?_
        refine gnt ?_
        refine gc_condF rfl rfl ?_
        refine gc_skip ?_
        refine gx_then ?_
        refine gsr ?_
        refine gp zl ?_
        refine gp znc ?_
        refine gp zfa ?_
        refine gp zl ?_
        refine gp (r_int (j := ((l.e + 1 + 0 : Nat) : Int)) zad (by omega)) ?_
        refine zal fun b11 => ?_
        refine zs1 ?_
        refine gnt ?_
        refine gc_seq ?_
        refine gsr ?_
        refine gp zmv ?_
        refine zc ?_ (c := fun w1 F1 F2 h1 h2 hd hst => chunk_ok h1)
        rintro ⟨b69, c69⟩
        refine gnt ?_
        refine gc_block ?_
        refine gc_conv (M := [DiskR g d]) (N := [DiskR g (wdat d l.e (⟨b, c⟩ : LRec).data 0).2]) (by repeat (first | exact Sel.nil | (apply Sel.cons; · (repeat (first | exact Pick.here | apply Pick.there))))) (fun _ _ h => by rw [wdat_zero]; exact h) ?_
        refine gc_pI (p := 0 ≤ (nsec (⟨b, c⟩ : LRec).data.length) ∧ (wdat d l.e (⟨b, c⟩ : LRec).data 0).1 = 0) ⟨Nat.zero_le _, by rw [wdat_zero]⟩ ?_
        refine gc_range (own := [blk b69 86 [.slice (some ⟨ga, oa, none⟩) (⟨b, c⟩ : LRec).data.length c30], blk c69 3 [.int .i64 64]]) (fun i => [pureR (i ≤ (nsec (⟨b, c⟩ : LRec).data.length) ∧ (wdat d l.e (⟨b, c⟩ : LRec).data i).1 = 0), blk b3 59 [.pointer (some ⟨q, 0, none⟩)], blk b11 3 [.int .i64 ((l.e + 1 + i : Nat) : Int)], blk b6 38 [.nilIface], blk q 179 [.pointer (some ⟨g, 0, none⟩), .int .i64 l.base, .int .i64 l.e, .slice a0 l.rs.length m0], DiskR g (wdat d l.e (⟨b, c⟩ : LRec).data i).2]) (fun i cd => [pureR (cd = Code.ret ∧ i < (nsec (⟨b, c⟩ : LRec).data.length) ∧ (wdat d l.e (⟨b, c⟩ : LRec).data (i + 1)).1 ≠ 0), blk b6 38 [eV 340 ea (wdat d l.e (⟨b, c⟩ : LRec).data (i + 1)).1], blk q 179 [.pointer (some ⟨g, 0, none⟩), .int .i64 l.base, .int .i64 l.e, .slice a0 l.rs.length m0], DiskR g (wdat d l.e (⟨b, c⟩ : LRec).data (i + 1)).2]) (by exact rfl) Ty.call_136 (by repeat (first | exact Sel.nil | (apply Sel.cons; · (repeat (first | exact Pick.here | apply Pick.there))))) (by intros; rfl) (fun lp J Jx w1 F1 F2 h1 h2 hd hst => chunk1_it h1 (by omega) (by omega)) ?_ ?_ ?_
        · intro lp rc rc' i _ w1 F1 F2 h1 h2 hd hst
          try dsimp only [List.cons_append, List.nil_append, zipE]
          have hdat := rd_row (xs := (⟨b, c⟩ : LRec).data.map B8) h2 hd (by repeat (first | exact Pick.here | apply Pick.there))
          have hE := hE.mv hst.still
          refine gc_pure1 (p := 64 * i < (⟨b, c⟩ : LRec).data.length) (by repeat (first | exact Pick.here | apply Pick.there)) (fun hi64 => ?_)
          refine gc_pure1 (p := i ≤ (nsec (⟨b, c⟩ : LRec).data.length) ∧ (wdat d l.e (⟨b, c⟩ : LRec).data i).1 = 0) (by repeat (first | exact Pick.here | apply Pick.there)) (fun hi => ?_)
          have hin : i < (nsec (⟨b, c⟩ : LRec).data.length) := by unfold nsec; omega
          have hkk : DOk (wdat d l.e (⟨b, c⟩ : LRec).data i).2 := wdat_ok hk
          have hws := wdat_step hi.2
          refine gc_region ?_
          refine gp zas ?_
          refine gl_nil ?_
          refine gx_begin ?_
          refine gc_block ?_
          refine gsr ?_
          refine zal fun b13 => ?_
          refine gl_eqc (cs' := (List.replicate 64 (0 : UInt8)).map B8) (by repeat (first | exact Pick.here | apply Pick.there)) (by simp [B8]) ?_
          refine gnt ?_
          refine gsr ?_
          refine gp (r_slice_arr (l := 0) (h := 64) rfl Ty.arr_108 Ty.sz_5 rfl rfl (by omega) (by omega) (by omega)) ?_
          refine gp zmv ?_
          have hcut := hdat.cut8 (l := 64 * i) (h := 64 * i + min 64 ((⟨b, c⟩ : LRec).data.length - 64 * i)) (by omega) (by omega) hnc
          rw [if_neg (by omega), add_at, Nat.mul_one, Nat.add_sub_cancel_left] at hcut
          refine gl_copy (news := (((⟨b, c⟩ : LRec).data.drop (64 * i)).take (min 64 ((⟨b, c⟩ : LRec).data.length - 64 * i))).map B8) (hr := fun w' hw => hw.rdOld hcut) (hj := by omega) (h1 := one_B8 _) (hl := by simp; omega) (k := ?_)
          refine gl_eqc (cs' := sc (secData (⟨b, c⟩ : LRec).data i)) (by repeat (first | exact Pick.here | apply Pick.there)) (sec_cells _ i) ?_
          refine gnt ?_
          refine gc_seq ?_
          refine gc_seq ?_
          refine gc_regionT 6 (by kernel_rfl) (by kernel_rfl) ?_
          refine sp zl ?_
          refine sp znc ?_
          refine sp zfa ?_
          refine sp zl ?_
          refine sp zl ?_
          refine sp (zL (sg := sc (secData (⟨b, c⟩ : LRec).data i))) ?_
          refine gs_nil ?_
          refine zc (fun _ => ?_) (c := fun w1 F1 F2 h1 h2 hd hst => write_ok' (i := ((l.e + 1 + i : Nat) : Int)) (v := secData (⟨b, c⟩ : LRec).data i) h1 hkk (hE.mv hst.still))
          rw [← hws]
          refine gp zas ?_
          refine gnt ?_
          refine gsr ?_
          refine gp zmv ?_
          refine gp (r_bool (c := decide (¬ (wdat d l.e (⟨b, c⟩ : LRec).data (i + 1)).1 = 0)) (r_nenil rfl (by kernel_rfl)) (by simp)) ?_
          refine gnt ?_
          refine gif rfl (fun hc82 => ?_) (fun hc82 => ?_)
          · try simp only at hc82
            rw [hws] at hc82
            refine gsr ?_
            refine gp zmv ?_
            refine zs1 ?_
            refine gnt ?_
            refine gc_ret ?_
            refine gx_then_ret ?_
            refine gx_block_ret ?_
            refine gx_rdr ?_
            exact fun w' hw => (St.pureI (p := Code.ret = Code.ret ∧ i < (nsec (⟨b, c⟩ : LRec).data.length) ∧ (wdat d l.e (⟨b, c⟩ : LRec).data (i + 1)).1 ≠ 0) ⟨rfl, hin, by rw [hws]; exact hc82⟩ (hw.sel (M := [lpR lp rc', blk b6 38 [eV 340 ea (wdat d l.e (⟨b, c⟩ : LRec).data (i + 1)).1], blk q 179 [.pointer (some ⟨g, 0, none⟩), .int .i64 l.base, .int .i64 l.e, .slice a0 l.rs.length m0], DiskR g (wdat d l.e (⟨b, c⟩ : LRec).data (i + 1)).2]) (by rw [hws]; exact by repeat (first | exact Sel.nil | (apply Sel.cons; · (repeat (first | exact Pick.here | apply Pick.there))))))).sel (by repeat (first | exact Sel.nil | (apply Sel.cons; · (repeat (first | exact Pick.here | apply Pick.there)))))
          · try simp only at hc82
            have hw0 : (wdat d l.e (⟨b, c⟩ : LRec).data (i + 1)).1 = 0 := by simpa using hc82
            rw [hws] at hw0
            refine gc_skip ?_
            refine gx_then ?_
            refine gc_region ?_
            refine gp zl ?_
            refine gp (r_int (j := ((l.e + 1 + (i + 1) : Nat) : Int)) zad (by omega)) ?_
            refine zs1 ?_
            refine gl_nil ?_
            refine gx_block_normal ?_
            refine gx_rdn ?_
            exact fun w' hw => (St.pureI (p := i + 1 ≤ (nsec (⟨b, c⟩ : LRec).data.length) ∧ (wdat d l.e (⟨b, c⟩ : LRec).data (i + 1)).1 = 0) ⟨by omega, by rw [hws]; exact hw0⟩ (hw.sel (M := [lpR lp rc', blk b3 59 [.pointer (some ⟨q, 0, none⟩)], blk b11 3 [.int .i64 ((l.e + 1 + (i + 1) : Nat) : Int)], blk b6 38 [.nilIface], blk q 179 [.pointer (some ⟨g, 0, none⟩), .int .i64 l.base, .int .i64 l.e, .slice a0 l.rs.length m0], DiskR g (wdat d l.e (⟨b, c⟩ : LRec).data (i + 1)).2]) (by rw [hws]; exact by repeat (first | exact Sel.nil | (apply Sel.cons; · (repeat (first | exact Pick.here | apply Pick.there))))))).sel (by repeat (first | exact Sel.nil | (apply Sel.cons; · (repeat (first | exact Pick.here | apply Pick.there)))))
        · intro bU14 y m hy
          try dsimp only [List.cons_append, List.nil_append]
          obtain rfl : m = (nsec (⟨b, c⟩ : LRec).data.length) := by cases y <;> simp_all [allOr]
          refine gx_pure1 (p := (nsec (⟨b, c⟩ : LRec).data.length) ≤ (nsec (⟨b, c⟩ : LRec).data.length) ∧ (wdat d l.e (⟨b, c⟩ : LRec).data (nsec (⟨b, c⟩ : LRec).data.length)).1 = 0) (by repeat (first | exact Pick.here | apply Pick.there)) (fun hI => ?_)
          have hk1 : DOk (wdat d l.e (⟨b, c⟩ : LRec).data (nsec (⟨b, c⟩ : LRec).data.length)).2 := wdat_ok hk
          obtain ⟨d1, hd1⟩ : ∃ d1, d1 = (wdat d l.e (⟨b, c⟩ : LRec).data (nsec (⟨b, c⟩ : LRec).data.length)).2 := ⟨_, rfl⟩
          rw [← hd1] at hk1 ⊢
          have e1 : appL d l b c = appE d1 l (⟨b, c⟩ : LRec) := by unfold appL; rw [if_pos hm, if_neg hfit]; unfold appD; rw [if_pos hI.2, hd1]
          refine gx_block_normal ?_
          refine gx_thenM ?_
          refine gc_seq ?_
          refine gc_seq ?_
          refine gc_regionT 6 (by kernel_rfl) (by kernel_rfl) ?_
          refine sp zl ?_
          refine sp znc ?_
          refine sp zfa ?_
          refine sp zl ?_
          refine sp zl ?_
          refine sp (zba (cs := sc sec0) (by exact rfl)) ?_
          refine gs_nil ?_
          refine zc (fun _ => ?_) (c := fun w1 F1 F2 h1 h2 hd hst => write_ok' (i := ((l.e + 1 + (nsec (⟨b, c⟩ : LRec).data.length) : Nat) : Int)) (v := sec0) h1 hk1 (hE.mv hst.still))
          obtain ⟨x2, hx2⟩ : ∃ x2, x2 = d1.wr ((l.e + 1 + (nsec (⟨b, c⟩ : LRec).data.length) : Nat) : Int) sec0 := ⟨_, rfl⟩
          rw [← hx2]
          have hk2 : DOk x2.2 := by rw [hx2]; exact wr_ok hk1
          have hll : l.e + 1 + (nsec (⟨b, c⟩ : LRec).data.length) = l.e + lenR (⟨b, c⟩ : LRec) := by rw [lenR_eq]; omega
          refine gp zas ?_
          refine gnt ?_
          refine gsr ?_
          refine gp zmv ?_
          refine gp (r_bool (c := decide (¬ x2.1 = 0)) (r_nenil rfl (by kernel_rfl)) (by simp)) ?_
          refine gnt ?_
          refine gif rfl (fun hc94 => ?_) (fun hc94 => ?_)
          · try simp only at hc94
            have e : appL d l b c = (x2.1, x2.2, l) := by rw [e1]; unfold appE; rw [← hll, ← hx2, if_neg hc94]
            refine gsr ?_
            refine gp zmv ?_
            refine zs1 ?_
            refine gnt ?_
            refine gc_ret ?_
            refine gx_then_ret ?_
            refine gx_mark (by repeat (first | exact Pick.here | apply Pick.there)) ?_
            refine gx_mark0 ?_
            refine gx_retc rfl rfl (ld_oneS Ty.row_38 (by repeat (first | exact Pick.here | apply Pick.there)) (by first | rfl | (simp only [List.getElem?_cons_succ, List.getElem?_cons_zero, List.cons_append, List.append_assoc, get_dc, get_L, Nat.reduceLeDiff, Nat.reduceSub, Nat.reduceAdd, Nat.le_refl]; rfl))) ?_
            exact fun w' hw => ⟨(), by rw [e], by rw [e]; exact St.led (hw.sel (by repeat (first | exact Sel.nil | (apply Sel.cons; · (repeat (first | exact Pick.here | apply Pick.there)))))) h18 rfl rfl rfl rfl⟩
          · try simp only at hc94
            have h20 : x2.1 = 0 := by simpa using hc94
            have e2 : appL d l b c = appM x2.2 l (⟨b, c⟩ : LRec) := by rw [e1]; unfold appE; rw [← hll, ← hx2, if_pos h20]
            refine gc_skip ?_
            refine gx_then ?_
            refine gc_seq ?_
            refine gsr ?_
            refine gp zl ?_
            refine gp znc ?_
            refine gp zfa ?_
            refine gp zl ?_
            refine zc (fun _ => ?_) (c := fun w1 F1 F2 h1 h2 hd hst => sync_ok' h1 hk2 (hE.mv hst.still))
            refine gp zas ?_
            refine gnt ?_
            refine gsr ?_
            refine gp zmv ?_
            refine gp (r_bool (c := (oper x2.2).off) (r_nenil rfl (by kernel_rfl)) (by cases (oper x2.2).off <;> rfl)) ?_
            refine gnt ?_
            refine gif rfl (fun hc102 => ?_) (fun hc102 => ?_)
            · try simp only at hc102
              have e : appL d l b c = (6, x2.2.syncd, l) := by rw [e2]; unfold appM; rw [if_pos hc102]
              refine gsr ?_
              refine gp zmv ?_
              refine zs1 ?_
              refine gnt ?_
              refine gc_ret ?_
              refine gx_then_ret ?_
              refine gx_mark (by repeat (first | exact Pick.here | apply Pick.there)) ?_
              refine gx_mark0 ?_
              refine gx_retc rfl rfl (ld_oneS Ty.row_38 (by repeat (first | exact Pick.here | apply Pick.there)) (by first | rfl | (simp only [List.getElem?_cons_succ, List.getElem?_cons_zero, List.cons_append, List.append_assoc, get_dc, get_L, Nat.reduceLeDiff, Nat.reduceSub, Nat.reduceAdd, Nat.le_refl]; rfl))) ?_
              exact fun w' hw => ⟨(), by rw [e]; simp [hc102], by rw [e]; exact St.led (hw.sel (by repeat (first | exact Sel.nil | (apply Sel.cons; · (repeat (first | exact Pick.here | apply Pick.there)))))) h18 rfl rfl rfl rfl⟩
            · try simp only at hc102
              have e3 : appL d l b c = appH x2.2.syncd l (⟨b, c⟩ : LRec) := by rw [e2]; unfold appM; rw [if_neg (by rw [hc102]; decide)]
              have hk3 : DOk x2.2.syncd := syncd_ok hk2
              obtain ⟨d3, hd3⟩ : ∃ d3, d3 = x2.2.syncd := ⟨_, rfl⟩
              rw [← hd3] at hk3 e3 ⊢
              refine gc_skip ?_
              refine gx_then ?_
              refine gc_seq ?_
              refine gc_seq ?_
              refine gc_regionT 9 (by kernel_rfl) (by kernel_rfl) ?_
              refine sp zl ?_
              refine sp znc ?_
              refine sp zfa ?_
              refine sp zl ?_
              refine sp zl ?_
              refine sp znc ?_
              refine sp zfa ?_
              refine sp zl ?_
              refine sp (zL (sg := sc (headL l.rs.length (⟨b, c⟩ : LRec).data))) ?_
              refine gs_nil ?_
              refine zc (fun _ => ?_) (c := fun w1 F1 F2 h1 h2 hd hst => write_ok' (i := (l.e : Int)) (v := headL l.rs.length (⟨b, c⟩ : LRec).data) h1 hk3 (hE.mv hst.still))
              obtain ⟨x4, hx4⟩ : ∃ x4, x4 = d3.wr (l.e : Int) (headL l.rs.length (⟨b, c⟩ : LRec).data) := ⟨_, rfl⟩
              rw [← hx4]
              have hk4 : DOk x4.2 := by rw [hx4]; exact wr_ok hk3
              refine gp zas ?_
              refine gnt ?_
              refine gsr ?_
              refine gp zmv ?_
              refine gp (r_bool (c := decide (¬ x4.1 = 0)) (r_nenil rfl (by kernel_rfl)) (by simp)) ?_
              refine gnt ?_
              refine gif rfl (fun hc115 => ?_) (fun hc115 => ?_)
              · try simp only at hc115
                have e : appL d l b c = (x4.1, x4.2, l) := by rw [e3]; unfold appH; rw [← hx4, if_neg hc115]
                refine gsr ?_
                refine gp zmv ?_
                refine zs1 ?_
                refine gnt ?_
                refine gc_ret ?_
                refine gx_then_ret ?_
                refine gx_mark (by repeat (first | exact Pick.here | apply Pick.there)) ?_
                refine gx_mark0 ?_
                refine gx_retc rfl rfl (ld_oneS Ty.row_38 (by repeat (first | exact Pick.here | apply Pick.there)) (by first | rfl | (simp only [List.getElem?_cons_succ, List.getElem?_cons_zero, List.cons_append, List.append_assoc, get_dc, get_L, Nat.reduceLeDiff, Nat.reduceSub, Nat.reduceAdd, Nat.le_refl]; rfl))) ?_
                exact fun w' hw => ⟨(), by rw [e], by rw [e]; exact St.led (hw.sel (by repeat (first | exact Sel.nil | (apply Sel.cons; · (repeat (first | exact Pick.here | apply Pick.there)))))) h18 rfl rfl rfl rfl⟩
              · try simp only at hc115
                have h40 : x4.1 = 0 := by simpa using hc115
                have e4 : appL d l b c = appS x4.2 l (⟨b, c⟩ : LRec) := by rw [e3]; unfold appH; rw [← hx4, if_pos h40]
                refine gc_skip ?_
                refine gx_then ?_
                refine gc_seq ?_
                refine gsr ?_
                refine gp zl ?_
                refine gp znc ?_
                refine gp zfa ?_
                refine gp zl ?_
                refine zc (fun _ => ?_) (c := fun w1 F1 F2 h1 h2 hd hst => sync_ok' h1 hk4 (hE.mv hst.still))
                refine gp zas ?_
                refine gnt ?_
                refine gsr ?_
                refine gp zmv ?_
                refine gp (r_bool (c := (oper x4.2).off) (r_nenil rfl (by kernel_rfl)) (by cases (oper x4.2).off <;> rfl)) ?_
                refine gnt ?_
                refine gif rfl (fun hc123 => ?_) (fun hc123 => ?_)
                · try simp only at hc123
                  have e : appL d l b c = (6, x4.2.syncd, l) := by rw [e4]; unfold appS; rw [if_pos hc123]
                  refine gsr ?_
                  refine gp zmv ?_
                  refine zs1 ?_
                  refine gnt ?_
                  refine gc_ret ?_
                  refine gx_then_ret ?_
                  refine gx_mark (by repeat (first | exact Pick.here | apply Pick.there)) ?_
                  refine gx_mark0 ?_
                  refine gx_retc rfl rfl (ld_oneS Ty.row_38 (by repeat (first | exact Pick.here | apply Pick.there)) (by first | rfl | (simp only [List.getElem?_cons_succ, List.getElem?_cons_zero, List.cons_append, List.append_assoc, get_dc, get_L, Nat.reduceLeDiff, Nat.reduceSub, Nat.reduceAdd, Nat.le_refl]; rfl))) ?_
                  exact fun w' hw => ⟨(), by rw [e]; simp [hc123], by rw [e]; exact St.led (hw.sel (by repeat (first | exact Sel.nil | (apply Sel.cons; · (repeat (first | exact Pick.here | apply Pick.there)))))) h18 rfl rfl rfl rfl⟩
                · try simp only at hc123
                  have e : appL d l b c = (0, x4.2.syncd, ⟨l.base, l.rs ++ [(⟨b, c⟩ : LRec)], l.e + lenR (⟨b, c⟩ : LRec)⟩) := by rw [e4]; unfold appS; rw [if_neg (by rw [hc123]; decide)]
                  refine gc_skip ?_
                  refine gx_then ?_
                  refine gc_seq ?_
                  refine gc_regionU 8 ([blk q 179 [.pointer (some ⟨g, 0, none⟩), .int .i64 l.base, .int .i64 l.e, .slice a0 l.rs.length m0], blk b3 59 [.pointer (some ⟨q, 0, none⟩)], blk b7 181 q22]) ?_
                  refine ypu 0 rfl zl ?_
                  refine ypu 1 rfl zl ?_
                  refine ypu 2 rfl znc ?_
                  refine ypu 3 rfl zfa ?_
                  refine ypu 4 rfl zl ?_
                  refine ypu 5 rfl (zLa (cs := q22)) ?_
                  refine you 6 rfl ?_
                  refine zeN fun b131 => ?_
                  refine yxu ?_
                  refine you 7 rfl ?_
                  refine zapo fun a132 c132 => ?_
                  refine yxu ?_
                  refine yzu ?_
                  refine gp znc ?_
                  refine gp zfa ?_
                  refine zs1 ?_
                  refine gnt ?_
                  refine gsr ?_
                  refine gp zl ?_
                  refine gp zl ?_
                  refine gp znc ?_
                  refine gp zfa ?_
                  refine zs1 ?_
                  refine gnt ?_
                  refine gsr ?_
                  refine zs1 ?_
                  refine gnt ?_
                  refine gc_ret ?_
                  refine gx_mark (by repeat (first | exact Pick.here | apply Pick.there)) ?_
                  refine gx_mark0 ?_
                  refine gx_retc rfl rfl (ld_oneS Ty.row_38 (by repeat (first | exact Pick.here | apply Pick.there)) (by first | rfl | (simp only [List.getElem?_cons_succ, List.getElem?_cons_zero, List.cons_append, List.append_assoc, get_dc, get_L, Nat.reduceLeDiff, Nat.reduceSub, Nat.reduceAdd, Nat.le_refl]; rfl))) ?_
                  intro w' hw
                  have hw2 := hw.conv (M := [ElR RdRec css l.rs, VlR RdRec q22 (⟨b, c⟩ : LRec)]) (by repeat (first | exact Sel.nil | (apply Sel.cons; · (repeat (first | exact Pick.here | apply Pick.there))))) (fun _ _ => el_snoc)
                  rw [e]
                  refine ⟨(), by rw [eV_zero], St.led (l := ⟨l.base, l.rs ++ [(⟨b, c⟩ : LRec)], l.e + lenR (⟨b, c⟩ : LRec)⟩) (b := l.base) (e := ((l.e + 1 + (nsec (⟨b, c⟩ : LRec).data.length) : Nat) : Int)) (a := a132) (m := l.rs.length + 1) (c := c132) (css := css ++ [q22]) (hw2.sel (M := ledL q g l.base ((l.e + 1 + (nsec (⟨b, c⟩ : LRec).data.length) : Nat) : Int) a132 (l.rs.length + 1) c132 (css ++ [q22]) (l.rs ++ [(⟨b, c⟩ : LRec)]) [DiskR g x4.2.syncd]) (by rw [ledL, show (css ++ [q22]).flatten = css.flatten ++ q22 by simp]; exact (by repeat (first | exact Sel.nil | (apply Sel.cons; · (repeat (first | exact Pick.here | apply Pick.there))))))) (fun x hc => by rcases List.mem_append.1 hc with h | h; exact h18 x h; (simp at h; subst h; exact hl22)) rfl (by rw [← hll]) rfl (by simp)⟩
        · intro bU14 y i cd hy
          try dsimp only [List.cons_append, List.nil_append]
          refine gc_pure1 (p := cd = Code.ret ∧ i < (nsec (⟨b, c⟩ : LRec).data.length) ∧ (wdat d l.e (⟨b, c⟩ : LRec).data (i + 1)).1 ≠ 0) (by repeat (first | exact Pick.here | apply Pick.there)) (fun hX => ?_)
          obtain ⟨rfl, hin, hw0⟩ := hX
          refine gc_ret ?_
          refine gx_block_ret ?_
          refine gx_then_ret ?_
          refine gx_mark (by repeat (first | exact Pick.here | apply Pick.there)) ?_
          refine gx_mark0 ?_
          refine gx_retc rfl rfl (ld_oneS Ty.row_38 (by repeat (first | exact Pick.here | apply Pick.there)) (by first | rfl | (simp only [List.getElem?_cons_succ, List.getElem?_cons_zero, List.cons_append, List.append_assoc, get_dc, get_L, Nat.reduceLeDiff, Nat.reduceSub, Nat.reduceAdd, Nat.le_refl]; rfl))) ?_
          have e : appL d l b c = ((wdat d l.e (⟨b, c⟩ : LRec).data (i + 1)).1, (wdat d l.e (⟨b, c⟩ : LRec).data (i + 1)).2, l) := by unfold appL; rw [if_pos hm, if_neg hfit]; unfold appD; rw [if_neg (by rw [show (nsec (⟨b, c⟩ : LRec).data.length) = (i + 1) + ((nsec (⟨b, c⟩ : LRec).data.length) - (i + 1)) by omega, wdat_stop hw0]; exact hw0), show (nsec (⟨b, c⟩ : LRec).data.length) = (i + 1) + ((nsec (⟨b, c⟩ : LRec).data.length) - (i + 1)) by omega, wdat_stop hw0]
          exact fun w' hw => ⟨(), by rw [e], by rw [e]; exact St.led (hw.sel (by repeat (first | exact Sel.nil | (apply Sel.cons; · (repeat (first | exact Pick.here | apply Pick.there)))))) h18 rfl rfl rfl rfl⟩

end Go.Proofs.YtobjojeliibinaaGreatDoor

/- Walks, by program (wg.py) out of a spec. -/
namespace Go.Proofs.YtobjojeliibinaaGreatDoor
open Go
set_option linter.unusedVariables false
set_option linter.unusedSimpArgs false


section
variable {P : Program} {w0 : World} {F0 : Nat → Prop} {L : List Res} {Q : Exit → Act → World → Prop} {n : Fm} {env : Env}
theorem gx_retcct {fn : Func} {R : Ending → World → Prop} {t u s : Tmp} {T U : TypeId} {a b : Addr} {v x y : Value} (hr : fn.results = #[.cell t T, .cell u U, .tmp s]) (ht : ev n env (.tmp t) = .pointer (some a)) (hx : ev n env (.tmp u) = .pointer (some b)) (hy : ev n env (.tmp s) = y)
    (hl : ∀ w, St w0 F0 L w → (loadVar T a).run P w = .ok v w) (hl2 : ∀ w, St w0 F0 L w → (loadVar U b).run P w = .ok x w) (hR : ∀ w, St w0 F0 L w → R (.returned (.tuple #[v, x, y])) w) (hd : n.ds = [] := by rfl) : Gx w0 F0 L (bodyPost P fn R) .ret n env :=
  gx_end (fun w hw => by simp [results, hr, fr_tmp' ht, fr_tmp' hx, fr_tmp' hy, asAddr, hl w hw, hl2 w hw]) hR hd
/-- One element of a row of one's own. -/
theorem r_ldRow {d : Option Tmp} {ty : TypeId} {pos : String} {af : Array Edge} {gd : Option (Nat × Bool)} {x : Operand} {T e g o m c s i : Nat} {css : List (List Value)} {cs : List Value} {L' : List Res} (hx : ev n env x = .pointer (some ⟨g, o + i * s, none⟩)) (hr : rowT P T = some true) (hs : szT P T = some s)
    (hp : Pick L (rowR e s (some ⟨g, o, none⟩) m c css.flatten) L') (hcs : ∀ c ∈ css, c.length = s) (hi : css[i]? = some cs) (him : i < m) : Runs P w0 F0 L n env ⟨d, .load T x, ty, pos, af, gd⟩ (.agg cs.toArray) := r_load hx fun w hw => by
  obtain ⟨g', o', ha, _, _, hra⟩ := (hw.row hp).elem him
  cases ha
  rw [flatten_at hcs hi] at hra
  exact run_loadVar_agg hr hs (hcs cs (List.mem_of_getElem? hi)) fun j v hj => hra j v hj
end
theorem el_rd {α : Type} {rd : World → (Nat → Prop) → List Value → α → Prop} [RdK rd] {L L' : List Res} {w : World} {F1 F2 : Nat → Prop} {css : List (List Value)} {l : List α} {i : Nat} {c : List Value} {x : α} (h2 : stars L w F2) (hd : ∀ k, F1 k → ¬ F2 k) (hp : Pick L (ElR rd css l) L') (hc : css[i]? = some c) (hx : l[i]? = some x) : rd w (fun k => ¬ F1 k) c x := by
  obtain ⟨G1, G2, ⟨⟨_, h⟩, _⟩, _, hF, _⟩ := hp.stars h2
  exact RdK.mv (h i c x hc hx) fun k _ hk => ⟨rfl, fun h1 => hd k h1 ((hF k).2 (.inl hk))⟩
theorem St.el {α : Type} {rd : World → (Nat → Prop) → List Value → α → Prop} [RdK rd] {w0 w : World} {F0 : Nat → Prop} {L L' : List Res} {css : List (List Value)} {l : List α} (h : St w0 F0 L w) (hp : Pick L (ElR rd css l) L') : css.length = l.length ∧ ∀ (i : Nat) (c : List Value) (x : α), css[i]? = some c → l[i]? = some x → ∃ w A, rd w A c x := by
  obtain ⟨F, hF, _⟩ := h
  obtain ⟨F1, ⟨⟨h1, h2⟩, _⟩, _⟩ := stars_pick hp hF
  exact ⟨h1, fun i c x hc hx => ⟨w, F1, h2 i c x hc hx⟩⟩
theorem rec_bs {r : LRec} (h : r.Ok) : allE pBlock blk0 r.bs = (0, r.b) := allE_ok (block_enc h.eb)
theorem rec_cs {r : LRec} (h : r.Ok) : allE pBlock blk0 r.cs = (0, certB r.c) := allE_ok (block_enc h.ec)
theorem vl_just {cs : List Value} {c : QC} {w : World} {F : Nat → Prop} (h : stars [VlR RdBlock cs (certB c)] w F) : stars [VlR RdQC ((cs.drop 18).take 19) c] w F := rdR_mk (show RdQC w F _ c from rd_just (stars_one' h).1) h
def blkAt (rs : List LRec) (i : Nat) : Block := (rs[i]?.map (·.b)).getD blk0
theorem blkAt_eq {rs : List LRec} {i : Nat} {r : LRec} (h : rs[i]? = some r) : blkAt rs i = r.b := by rw [blkAt, h]; rfl
def findL (id : Dig) : Nat → List LRec → Int
  | _, [] => -1
  | k, r :: l => if idOf r.b = id then (k : Int) else findL id (k + 1) l
theorem findL_at {id : Dig} : ∀ (rs : List LRec) (k j : Nat), (∀ i, i < j → ∀ r, rs[i]? = some r → idOf r.b ≠ id) → j ≤ rs.length → findL id k rs = findL id (k + j) (rs.drop j)
  | [], k, j, _, hj => by have : j = 0 := by simpa using hj
                          subst this; rfl
  | r :: l, k, 0, _, _ => rfl
  | r :: l, k, j + 1, h, hj => by
    have h0 := h 0 (by omega) r rfl
    rw [findL, if_neg h0, List.drop_succ_cons, findL_at l (k + 1) j (fun i hi r' hr => h (i + 1) (by omega) r' (by simpa using hr)) (by simpa using hj), show k + 1 + j = k + (j + 1) by omega]
theorem findL_hit {id : Dig} {rs : List LRec} {j : Nat} {r : LRec} (h : ∀ i, i < j → ∀ r, rs[i]? = some r → idOf r.b ≠ id) (hr : rs[j]? = some r) (he : idOf r.b = id) : findL id 0 rs = (j : Int) := by
  have hlt := (List.getElem?_eq_some_iff.1 hr).1
  rw [findL_at rs 0 j h (by omega), Nat.zero_add]
  have : rs.drop j = r :: rs.drop (j + 1) := by rw [List.drop_eq_getElem_cons hlt, (List.getElem?_eq_some_iff.1 hr).2]
  rw [this, findL, if_pos he]
theorem findL_miss {id : Dig} {rs : List LRec} (h : ∀ i, i < rs.length → ∀ r, rs[i]? = some r → idOf r.b ≠ id) : findL id 0 rs = -1 := by
  rw [findL_at rs 0 rs.length h (Nat.le_refl _), List.drop_length]; rfl

attribute [local irreducible] Gl Gc Gx Gs Runs Wt

attribute [local irreducible] dc RdRec RdBlock RdQC blkC qcC allE

set_option maxHeartbeats 400000 in
theorem get_some {w : World} {F : Nat → Prop} {q g : Nat} {l : LS} (h : stars [LedR q g l] w F) {ea : Nat → Addr} {es : List Nat} [Has es 1] [Has es 2] [Has es 3] [Has es 4] (hE : GErr es w (fun k => ¬ F k) 340 ea) {i : Nat} {r : LRec} (hr : l.rs[i]? = some r) (hok : r.Ok) :
    Calls Tryz.prog 53 #[.pointer (some ⟨q, 0, none⟩), .int .i64 (i : Int)] w (Post w F (fun x : List Value × List Value => .tuple #[.agg x.1.toArray, .agg x.2.toArray, eV 340 ea 0]) (fun x => [pureR ((x.1.length = 39 ∧ ∀ v ∈ x.1, v.oneCell' = true) ∧ x.2.length = 19 ∧ ∀ v ∈ x.2, v.oneCell' = true), VlR RdBlock x.1 r.b, VlR RdQC x.2 r.c, LedR q g l])) := by
  obtain ⟨a0, m0, css, h18, h⟩ := led_open h
  have hil : i < l.rs.length := (List.getElem?_eq_some_iff.1 hr).1
  have hbl := bs_len r
  have hcl := cs_len r
  refine g_enter (env := [(0, .pointer (some ⟨q, 0, none⟩)), (1, .int .i64 (i : Int))]) Tryz.func53 rfl h Tryz.ntmps53 rfl rfl ?_
  refine gsr ?_
  refine zal fun b4 => ?_
  refine zal fun b5 => ?_
  refine gp zas ?_
  refine gnt ?_
  refine gc_seq ?_
  refine gsr ?_
  refine gp zmv ?_
  refine gp (r_bool (c := false) zlt (decide_eq_false (by omega))) ?_
  refine gp zmv ?_
  refine gq zmv ?_
  refine gq zmv ?_
  refine gq znc ?_
  refine gq zfa ?_
  refine gq zl ?_
  refine gq zln ?_
  refine gq (r_bool (c := false) zge (decide_eq_false (by omega))) ?_
  refine gp zpk ?_
  refine gnt ?_
  refine gc_condF rfl rfl ?_
  refine gc_skip ?_
  refine gx_then ?_
  refine gsr ?_
  refine gl_fact (fun w' hw => St.el (rd := RdRec) hw (by repeat (first | exact Pick.here | apply Pick.there))) (fun hel => ?_)
  obtain ⟨hlen, hel⟩ := hel
  have hci : css[i]? = some (css[i]'(by omega)) := List.getElem?_eq_getElem (by omega)
  generalize hcse : css[i]'(by omega) = ce at hci
  have hl18 := h18 ce (List.mem_of_getElem? hci)
  obtain ⟨wv, A, hrd⟩ := hel i ce r hci hr
  unfold RdRec at hrd
  obtain ⟨a1, n1, c1, a2, n2, c2, rfl, k1, k2, hb1, hb2⟩ := hrd
  have hn1 : n1 = r.bs.length := by have := hb1.1; simp at this; omega
  have hn2 : n2 = r.cs.length := by have := hb2.1; simp at this; omega
  refine gl_fact (fun w' hw => St.rowAt (hw.sel (M := [rowR 181 18 a0 l.rs.length m0 css.flatten]) (by repeat (first | exact Sel.nil | (apply Sel.cons; · (repeat (first | exact Pick.here | apply Pick.there)))))) .here (by omega)) (fun hra => ?_)
  obtain ⟨_, gr, or_, ha⟩ := hra
  subst ha
  refine gp zmv ?_
  refine gp znc ?_
  refine gp zfa ?_
  refine gp zl ?_
  refine gp zmv ?_
  refine gp (r_val (v' := .pointer (some ⟨gr, or_ + i * 18, none⟩)) zia (by simp)) ?_
  refine gp (r_ldRow (i := i) rfl Ty.row_181 Ty.sz_181 (by repeat (first | exact Pick.here | apply Pick.there)) h18 hci hil) ?_
  refine zal fun b7 => ?_
  refine zsN ?_
  refine gnt ?_
  refine gsr ?_
  refine gp zfa ?_
  refine gp zl ?_
  refine zc (fun q35 => ?_) (c := fun w1 F1 F2 h1 h2 hd hst => readBlock_ok (b := r.bs) h1 (hE.mv hst.still) (rd_rows (el_rd h2 hd (by repeat (first | exact Pick.here | apply Pick.there)) hci hr)).1 (by omega))
  refine gl_pureR (fun hq35 => ?_)
  obtain ⟨hl35, ho35⟩ := hq35
  replace hl35 : q35.length = 39 := hl35
  have i35 := Len.of hl35
  have j35 := One.of (show ∀ v ∈ q35, v.oneCell' = true from ho35)
  rw [rec_bs hok]
  refine gp zmv ?_
  refine gp zex ?_
  refine gp zex ?_
  refine zal fun b8 => ?_
  refine zsN ?_
  refine gp zas ?_
  refine gnt ?_
  refine gc_seq ?_
  refine gsr ?_
  refine gp zmv ?_
  refine gp (r_bool (c := false) (r_nenil rfl (by kernel_rfl)) rfl) ?_
  refine gnt ?_
  refine gc_condF rfl rfl ?_
  refine gc_skip ?_
  refine gx_then ?_
  refine gsr ?_
  refine gp zfa ?_
  refine gp zl ?_
  refine zc (fun q46 => ?_) (c := fun w1 F1 F2 h1 h2 hd hst => readBlock_ok (b := r.cs) h1 (hE.mv hst.still) (rd_rows (el_rd h2 hd (by repeat (first | exact Pick.here | apply Pick.there)) hci hr)).2.1 (by omega))
  refine gl_pureR (fun hq46 => ?_)
  obtain ⟨hl46, ho46⟩ := hq46
  replace hl46 : q46.length = 39 := hl46
  have i46 := Len.of hl46
  have j46 := One.of (show ∀ v ∈ q46, v.oneCell' = true from ho46)
  rw [rec_cs hok]
  have i51 := Len.of (show ((q46.drop 18).take 19).length = 19 by rw [List.length_take, List.length_drop]; omega)
  have j51 := One.of (show ∀ v ∈ (q46.drop 18).take 19, v.oneCell' = true from fun v hv => ho46 v (List.mem_of_mem_drop (List.mem_of_mem_take hv)))
  refine gp zmv ?_
  refine gp zex ?_
  refine gp zex ?_
  refine zal fun b10 => ?_
  refine zsN ?_
  refine gp zas ?_
  refine gnt ?_
  refine gc_seq ?_
  refine gc_regionZ 6 ([blk b8 30 q35, blk b10 30 q46]) ?_
  refine yps 0 rfl (zLa (cs := q35)) ?_
  refine yps 1 rfl zfa ?_
  refine yps 2 rfl (zL (sg := (q46.drop 18).take 19) (hg := rfl)) ?_
  refine yps 3 rfl zmv ?_
  refine yos 4 rfl ?_
  refine zsN ?_
  refine yxs ?_
  refine yos 5 rfl ?_
  refine zsN ?_
  refine yxs ?_
  refine yzs rfl ?_
  refine gp zas ?_
  refine gnt ?_
  refine gc_ret ?_
  refine gx_retcct rfl rfl rfl (by conv => lhs; whnf) (ld_aggS Ty.row_30 Ty.sz_30 (by repeat (first | exact Pick.here | apply Pick.there)) (by (simp only [List.drop_succ_cons, List.drop_zero, List.take_succ_cons, List.take_zero, List.cons_append, List.nil_append, List.append_assoc, drop_dc, drop_dc', take_dc, take_dc', drop_L, drop_L', take_L, take_L', len_L, Nat.reduceLeDiff, Nat.reduceSub, Nat.reduceAdd, Nat.le_refl, List.length_cons, List.length_append, List.length_nil, dc_length, List.drop_nil, List.take_nil, List.append_nil, List.length_map, List.length_replicate]; first | done | rfl)) (by first | rfl | (simp only [List.drop_succ_cons, List.drop_zero, List.take_succ_cons, List.take_zero, List.cons_append, List.nil_append, List.append_assoc, drop_dc, drop_dc', take_dc, take_dc', drop_L, drop_L', take_L, take_L', len_L, Nat.reduceLeDiff, Nat.reduceSub, Nat.reduceAdd, Nat.le_refl, List.length_cons, List.length_append, List.length_nil, dc_length, List.drop_nil, List.take_nil, List.append_nil, List.length_map, List.length_replicate]; first | done | omega))) (ld_aggS Ty.row_26 Ty.sz_26 (by repeat (first | exact Pick.here | apply Pick.there)) (by (simp only [List.drop_succ_cons, List.drop_zero, List.take_succ_cons, List.take_zero, List.cons_append, List.nil_append, List.append_assoc, drop_dc, drop_dc', take_dc, take_dc', drop_L, drop_L', take_L, take_L', len_L, Nat.reduceLeDiff, Nat.reduceSub, Nat.reduceAdd, Nat.le_refl, List.length_cons, List.length_append, List.length_nil, dc_length, List.drop_nil, List.take_nil, List.append_nil, List.length_map, List.length_replicate]; first | done | rfl)) (by first | rfl | (simp only [List.drop_succ_cons, List.drop_zero, List.take_succ_cons, List.take_zero, List.cons_append, List.nil_append, List.append_assoc, drop_dc, drop_dc', take_dc, take_dc', drop_L, drop_L', take_L, take_L', len_L, Nat.reduceLeDiff, Nat.reduceSub, Nat.reduceAdd, Nat.le_refl, List.length_cons, List.length_append, List.length_nil, dc_length, List.drop_nil, List.take_nil, List.append_nil, List.length_map, List.length_replicate]; first | done | omega))) ?_
  intro w' hw
  have hw2 := hw.conv (M := [VlR RdBlock q46 (certB r.c)]) (by repeat (first | exact Sel.nil | (apply Sel.cons; · (repeat (first | exact Pick.here | apply Pick.there))))) (fun _ _ => vl_just)
  exact ⟨(q35, (q46.drop 18).take 19), rfl, (St.led (L := [pureR ((q35.length = 39 ∧ ∀ v ∈ q35, v.oneCell' = true) ∧ ((q46.drop 18).take 19).length = 19 ∧ ∀ v ∈ (q46.drop 18).take 19, v.oneCell' = true), VlR RdBlock q35 r.b, VlR RdQC ((q46.drop 18).take 19) r.c]) ((St.pureI (p := ((q35.length = 39 ∧ ∀ v ∈ q35, v.oneCell' = true) ∧ ((q46.drop 18).take 19).length = 19 ∧ ∀ v ∈ (q46.drop 18).take 19, v.oneCell' = true)) ⟨⟨hl35, ho35⟩, Len.h, One.h⟩ hw2).sel (M := ledL q g l.base l.e _ l.rs.length m0 css l.rs [pureR ((q35.length = 39 ∧ ∀ v ∈ q35, v.oneCell' = true) ∧ ((q46.drop 18).take 19).length = 19 ∧ ∀ v ∈ (q46.drop 18).take 19, v.oneCell' = true), VlR RdBlock q35 r.b, VlR RdQC ((q46.drop 18).take 19) r.c]) (by repeat (first | exact Sel.nil | (apply Sel.cons; · (repeat (first | exact Pick.here | apply Pick.there)))))) h18 rfl rfl rfl rfl).sel (by repeat (first | exact Sel.nil | (apply Sel.cons; · (repeat (first | exact Pick.here | apply Pick.there)))))⟩

set_option maxHeartbeats 400000 in
theorem get_none {w : World} {F : Nat → Prop} {q g : Nat} {l : LS} (h : stars [LedR q g l] w F) {ea : Nat → Addr} {es : List Nat} [Has es 9] (hE : GErr es w (fun k => ¬ F k) 340 ea) {i : Int} (hr : i < 0 ∨ (l.rs.length : Int) ≤ i) :
    Calls Tryz.prog 53 #[.pointer (some ⟨q, 0, none⟩), .int .i64 i] w (Post w F (fun _ : Unit => .tuple #[.agg blkC.toArray, .agg qcC.toArray, eV 340 ea 9]) (fun _ => [LedR q g l])) := by
  obtain ⟨a0, m0, css, h18, h⟩ := led_open h
  refine g_enter (env := [(0, .pointer (some ⟨q, 0, none⟩)), (1, .int .i64 i)]) Tryz.func53 rfl h Tryz.ntmps53 rfl rfl ?_
  refine gsr ?_
  refine zal fun b4 => ?_
  refine gl_eqc (cs' := blkC) (by repeat (first | exact Pick.here | apply Pick.there)) (by kernel_rfl) ?_
  refine zal fun b5 => ?_
  refine gl_eqc (cs' := qcC) (by repeat (first | exact Pick.here | apply Pick.there)) (by kernel_rfl) ?_
  refine gp zas ?_
  refine gnt ?_
  refine gc_seq ?_
  refine gc_seq ?_
  by_cases hi0 : i < 0
  · refine gc_region ?_
    refine gp zmv ?_
    refine gp (r_bool (c := true) zlt (decide_eq_true hi0)) ?_
    refine gp zmv ?_
    refine gn ?_
    refine gn ?_
    refine gn ?_
    refine gn ?_
    refine gn ?_
    refine gn ?_
    refine gn ?_
    refine gp zpk ?_
    refine gnt ?_
    refine gc_condT rfl rfl ?_
    refine gc_seq ?_
    refine gc_regionZ 5 [] ?_
    refine yps 0 rfl zbu ?_
    refine yps 1 rfl zbu ?_
    refine yps 2 rfl (r_ld1o rfl Ty.row_38 (hE.c 9 Has.h) (hE.n 9 Has.h)) ?_
    refine yos 3 rfl ?_
    refine zsN ?_
    refine yxs ?_
    refine yos 4 rfl ?_
    refine zsN ?_
    refine yxs ?_
    refine yzs rfl ?_
    refine gp zas ?_
    refine gnt ?_
    refine gc_ret ?_
    refine gx_then_ret ?_
    refine gx_retcct rfl rfl rfl (by conv => lhs; whnf) (ld_aggS Ty.row_30 Ty.sz_30 (by repeat (first | exact Pick.here | apply Pick.there)) (by (simp only [List.drop_succ_cons, List.drop_zero, List.take_succ_cons, List.take_zero, List.cons_append, List.nil_append, List.append_assoc, drop_dc, drop_dc', take_dc, take_dc', drop_L, drop_L', take_L, take_L', len_L, Nat.reduceLeDiff, Nat.reduceSub, Nat.reduceAdd, Nat.le_refl, List.length_cons, List.length_append, List.length_nil, dc_length, List.drop_nil, List.take_nil, List.append_nil, List.length_map, List.length_replicate]; first | done | rfl)) (by first | rfl | (simp only [List.drop_succ_cons, List.drop_zero, List.take_succ_cons, List.take_zero, List.cons_append, List.nil_append, List.append_assoc, drop_dc, drop_dc', take_dc, take_dc', drop_L, drop_L', take_L, take_L', len_L, Nat.reduceLeDiff, Nat.reduceSub, Nat.reduceAdd, Nat.le_refl, List.length_cons, List.length_append, List.length_nil, dc_length, List.drop_nil, List.take_nil, List.append_nil, List.length_map, List.length_replicate]; first | done | omega))) (ld_aggS Ty.row_26 Ty.sz_26 (by repeat (first | exact Pick.here | apply Pick.there)) (by (simp only [List.drop_succ_cons, List.drop_zero, List.take_succ_cons, List.take_zero, List.cons_append, List.nil_append, List.append_assoc, drop_dc, drop_dc', take_dc, take_dc', drop_L, drop_L', take_L, take_L', len_L, Nat.reduceLeDiff, Nat.reduceSub, Nat.reduceAdd, Nat.le_refl, List.length_cons, List.length_append, List.length_nil, dc_length, List.drop_nil, List.take_nil, List.append_nil, List.length_map, List.length_replicate]; first | done | rfl)) (by first | rfl | (simp only [List.drop_succ_cons, List.drop_zero, List.take_succ_cons, List.take_zero, List.cons_append, List.nil_append, List.append_assoc, drop_dc, drop_dc', take_dc, take_dc', drop_L, drop_L', take_L, take_L', len_L, Nat.reduceLeDiff, Nat.reduceSub, Nat.reduceAdd, Nat.le_refl, List.length_cons, List.length_append, List.length_nil, dc_length, List.drop_nil, List.take_nil, List.append_nil, List.length_map, List.length_replicate]; first | done | omega))) ?_
    exact fun w' hw => ⟨(), by kernel_rfl, St.led (hw.sel (by repeat (first | exact Sel.nil | (apply Sel.cons; · (repeat (first | exact Pick.here | apply Pick.there)))))) h18 rfl rfl rfl rfl⟩
  · refine gc_region ?_
    refine gp zmv ?_
    refine gp (r_bool (c := false) zlt (decide_eq_false hi0)) ?_
    refine gp zmv ?_
    refine gq zmv ?_
    refine gq zmv ?_
    refine gq znc ?_
    refine gq zfa ?_
    refine gq zl ?_
    refine gq zln ?_
    refine gq (r_bool (c := true) zge (decide_eq_true (by omega))) ?_
    refine gp zpk ?_
    refine gnt ?_
    refine gc_condT rfl rfl ?_
    refine gc_seq ?_
    refine gc_regionZ 5 [] ?_
    refine yps 0 rfl zbu ?_
    refine yps 1 rfl zbu ?_
    refine yps 2 rfl (r_ld1o rfl Ty.row_38 (hE.c 9 Has.h) (hE.n 9 Has.h)) ?_
    refine yos 3 rfl ?_
    refine zsN ?_
    refine yxs ?_
    refine yos 4 rfl ?_
    refine zsN ?_
    refine yxs ?_
    refine yzs rfl ?_
    refine gp zas ?_
    refine gnt ?_
    refine gc_ret ?_
    refine gx_then_ret ?_
    refine gx_retcct rfl rfl rfl (by conv => lhs; whnf) (ld_aggS Ty.row_30 Ty.sz_30 (by repeat (first | exact Pick.here | apply Pick.there)) (by (simp only [List.drop_succ_cons, List.drop_zero, List.take_succ_cons, List.take_zero, List.cons_append, List.nil_append, List.append_assoc, drop_dc, drop_dc', take_dc, take_dc', drop_L, drop_L', take_L, take_L', len_L, Nat.reduceLeDiff, Nat.reduceSub, Nat.reduceAdd, Nat.le_refl, List.length_cons, List.length_append, List.length_nil, dc_length, List.drop_nil, List.take_nil, List.append_nil, List.length_map, List.length_replicate]; first | done | rfl)) (by first | rfl | (simp only [List.drop_succ_cons, List.drop_zero, List.take_succ_cons, List.take_zero, List.cons_append, List.nil_append, List.append_assoc, drop_dc, drop_dc', take_dc, take_dc', drop_L, drop_L', take_L, take_L', len_L, Nat.reduceLeDiff, Nat.reduceSub, Nat.reduceAdd, Nat.le_refl, List.length_cons, List.length_append, List.length_nil, dc_length, List.drop_nil, List.take_nil, List.append_nil, List.length_map, List.length_replicate]; first | done | omega))) (ld_aggS Ty.row_26 Ty.sz_26 (by repeat (first | exact Pick.here | apply Pick.there)) (by (simp only [List.drop_succ_cons, List.drop_zero, List.take_succ_cons, List.take_zero, List.cons_append, List.nil_append, List.append_assoc, drop_dc, drop_dc', take_dc, take_dc', drop_L, drop_L', take_L, take_L', len_L, Nat.reduceLeDiff, Nat.reduceSub, Nat.reduceAdd, Nat.le_refl, List.length_cons, List.length_append, List.length_nil, dc_length, List.drop_nil, List.take_nil, List.append_nil, List.length_map, List.length_replicate]; first | done | rfl)) (by first | rfl | (simp only [List.drop_succ_cons, List.drop_zero, List.take_succ_cons, List.take_zero, List.cons_append, List.nil_append, List.append_assoc, drop_dc, drop_dc', take_dc, take_dc', drop_L, drop_L', take_L, take_L', len_L, Nat.reduceLeDiff, Nat.reduceSub, Nat.reduceAdd, Nat.le_refl, List.length_cons, List.length_append, List.length_nil, dc_length, List.drop_nil, List.take_nil, List.append_nil, List.length_map, List.length_replicate]; first | done | omega))) ?_
    exact fun w' hw => ⟨(), by kernel_rfl, St.led (hw.sel (by repeat (first | exact Sel.nil | (apply Sel.cons; · (repeat (first | exact Pick.here | apply Pick.there)))))) h18 rfl rfl rfl rfl⟩

set_option maxHeartbeats 400000 in
theorem find1_ok {w : World} {F : Nat → Prop} {cs : List Value} {a id : Dig} {t : List Value} {bi : Nat} (h : stars [blk bi 23 (dc id)] w F) (hc : cs = dc a ++ t) (hl : cs.length = 18) (ho : ∀ v ∈ cs, v.oneCell' = true) :
    Calls Tryz.prog 107 #[.agg cs.toArray, .pointer (some ⟨bi, 0, none⟩)] w (Post w F (fun _ : Unit => .bool (decide (a = id))) (fun _ => [blk bi 23 (dc id)])) := by
  have il := Len.of hl
  have jl := One.of ho
  refine g_enter (env := [(0, .agg cs.toArray), (1, .pointer (some ⟨bi, 0, none⟩))]) Tryz.func107 rfl h Tryz.ntmps107 rfl rfl ?_
  refine gsr ?_
  refine zbN fun b2 => ?_
  refine gp zas ?_
  refine gnt ?_
  refine gsr ?_
  subst hc
  have hlt : t.length = 2 := by simp [dc_length] at hl; omega
  have ilt := Len.of hlt
  refine gp zfa ?_
  refine gp zL ?_
  refine gp zL ?_
  refine gp zed ?_
  refine gp zas ?_
  refine gnt ?_
  refine gc_ret ?_
  refine gx_ret1 rfl (by conv => lhs; whnf) ?_
  exact ze ()

set_option maxHeartbeats 400000 in
theorem indexFunc_ok {w : World} {F : Nat → Prop} {a : Option Addr} {n c bi : Nat} {id : Dig} {rs : List LRec} (h : stars [blk bi 23 (dc id)] w F) (hx : RdList (RdRec w (fun k => ¬ F k)) w (fun k => ¬ F k) 18 a n rs) :
    Calls Tryz.prog 106 #[.slice a n c, .func (.func 107) #[] #[.pointer (some ⟨bi, 0, none⟩)]] w (Post w F (fun _ : Unit => .int .i64 (findL id 0 rs)) (fun _ => [blk bi 23 (dc id)])) := by
  have hn := hx.len (by decide)
  have hmx := hx.max
  simp only [maxLen] at hmx
  refine g_enter (env := [(0, .slice a n c), (1, .func (.func 107) #[] #[.pointer (some ⟨bi, 0, none⟩)])]) Tryz.func106 rfl h Tryz.ntmps106 rfl rfl ?_
  refine gsr ?_
  refine gp zas ?_
  refine gnt ?_
  refine gc_seq ?_
  refine gsr ?_
  refine gp zmv ?_
  refine gp zln ?_
  refine gp zmv ?_
  refine gnt ?_
  refine gc_block ?_
  refine gc_loop (α := Nat) (fun k => [pureR (k ≤ n ∧ ∀ i, i < k → ∀ r, rs[i]? = some r → idOf r.b ≠ id), blk bi 23 (dc id)]) (fun k => [(8, .int .i64 (k : Int))]) [4, 5, 9, 10, 11, 12, 13, 14, 15, 16, 17, 18] (fun k => n - k) 0 ?_ ?_ ?_
  · refine env_start (by kernel_rfl)
  · exact zlp ⟨Nat.zero_le _, fun i hi => absurd hi (Nat.not_lt_zero _)⟩
  · intro k u
    refine gc_pureR (fun hk => ?_)
    replace hk : k ≤ n ∧ ∀ i, i < k → ∀ r, rs[i]? = some r → idOf r.b ≠ id := hk
    refine gsr ?_
    refine gp zlt ?_
    refine gnt ?_
    refine gc_seq ?_
    refine gif rfl (fun hc9 => ?_) (fun hc9 => ?_)
    · try simp only at hc9
      have hk' : k < n := by omega
      obtain ⟨ga, oa, ce, r, ha, hA, _, hra, hl18, hr, hrd⟩ := hx.elem (i := k) (by decide) hk'
      subst ha
      have ho18 := hrd.one
      have hrd2 := hrd
      unfold RdRec at hrd2
      obtain ⟨a1, n1, c1, a2, n2, c2, hce, _⟩ := hrd2
      refine gc_skip ?_
      refine gx_then ?_
      refine gc_seq ?_
      refine gc_block ?_
      refine gsr ?_
      refine gp zmv ?_
      refine gp zas ?_
      refine gnt ?_
      refine gsr ?_
      refine gp zmv ?_
      refine gp zmv ?_
      refine gp zmv ?_
      refine gp (r_val (v' := .pointer (some ⟨ga, oa + k * 18, none⟩)) zia (by simp)) ?_
      refine gp (r_ldNo (seg := ce) rfl Ty.row_181 Ty.sz_181 hra hl18 (by decide) hA) ?_
      refine gl_call (wt0 rfl) (e_callv (us := [.pointer (some ⟨bi, 0, none⟩)]) rfl Ty.call_107 rfl) (by repeat (first | exact Sel.nil | (apply Sel.cons; · (repeat (first | exact Pick.here | apply Pick.there))))) (fun w1 F1 F2 h1 h2 hd hst => find1_ok (a := idOf r.b) (id := id) h1 hce hl18 ho18) ?_
      intro _
      refine gnt ?_
      refine gif rfl (fun hc16 => ?_) (fun hc16 => ?_)
      · try simp only at hc16
        have hf := findL_hit hk.2 hr (by simpa using hc16)
        refine gsr ?_
        refine gp zmv ?_
        refine gp zas ?_
        refine gnt ?_
        refine gc_ret ?_
        refine gx_block_ret ?_
        refine gx_then_ret ?_
        refine gx_round_ret ?_
        refine gx_block_ret ?_
        refine gx_then_ret ?_
        refine gx_ret1 rfl (by conv => lhs; whnf) ?_
        exact fun w' hw => ⟨(), by rw [hf], hw.sel (by repeat (first | exact Sel.nil | (apply Sel.cons; · (repeat (first | exact Pick.here | apply Pick.there)))))⟩
      · refine gc_skip ?_
        refine gx_block_normal ?_
        refine gx_then ?_
        refine gc_region ?_
        refine gp zad ?_
        refine gp zmv ?_
        refine gl_nil ?_
        refine zrd (k + 1) ?_ ?_
        · show n - (k + 1) < n - k
          omega
        · exact zlp (show k + 1 ≤ n ∧ ∀ i, i < k + 1 → ∀ r, rs[i]? = some r → idOf r.b ≠ id from ⟨by omega, fun i hi r' hr' => (by by_cases h' : i < k; exact hk.2 i h' r' hr'; (obtain rfl : i = k := by omega); rw [hr] at hr'; cases hr'; simpa using hc16)⟩)
    · try simp only at hc9
      have hk' : k = n := by omega
      have hf := findL_miss (id := id) (rs := rs) (fun i hi => hk.2 i (by omega))
      refine gc_exit ?_
      refine gx_then_exit ?_
      refine gx_round_exit ?_
      refine gx_block_hit ?_
      refine gx_then ?_
      refine gsr ?_
      refine gp zas ?_
      refine gnt ?_
      refine gc_ret ?_
      refine gx_ret1 rfl (by conv => lhs; whnf) ?_
      exact fun w' hw => ⟨(), by rw [hf], hw.sel (by repeat (first | exact Sel.nil | (apply Sel.cons; · (repeat (first | exact Pick.here | apply Pick.there)))))⟩

end Go.Proofs.YtobjojeliibinaaGreatDoor

/- Walks, by program (wg.py) out of a spec. -/
namespace Go.Proofs.YtobjojeliibinaaGreatDoor
open Go
set_option linter.unusedVariables false
set_option linter.unusedSimpArgs false


def allE_ (i : Nat) (x : List Value) : Array Value := #[.int .i64 (i : Int), .agg x.toArray]
def allG (rs : List LRec) (i : Nat) (x : List Value) : List Res := [pureR (i < rs.length ∧ x.length = 39 ∧ ∀ v ∈ x, v.oneCell' = true), VlR RdBlock x (blkAt rs i)]

attribute [local irreducible] Gl Gc Gx Gs Runs Wt

attribute [local irreducible] dc RdRec RdBlock RdQC blkC qcC allE

set_option maxHeartbeats 400000 in
theorem find_ok {w : World} {F : Nat → Prop} {q g : Nat} {l : LS} {id : Dig} (h : stars [LedR q g l] w F) :
    Calls Tryz.prog 56 #[.pointer (some ⟨q, 0, none⟩), .agg (dc id).toArray] w (Post w F (fun _ : Unit => .int .i64 (findL id 0 l.rs)) (fun _ => [LedR q g l])) := by
  obtain ⟨a0, m0, css, h18, h⟩ := led_open h
  refine g_enter (env := [(0, .pointer (some ⟨q, 0, none⟩)), (1, .agg (dc id).toArray)]) Tryz.func56 rfl h Tryz.ntmps56 rfl rfl ?_
  refine gsr ?_
  refine zbN fun b3 => ?_
  refine gp zas ?_
  refine gnt ?_
  refine gsr ?_
  refine gp zmv ?_
  refine gp znc ?_
  refine gp zfa ?_
  refine gp zl ?_
  refine gp zmf ?_
  refine gl_fact (fun w' hw => (St.el (rd := RdRec) hw (by repeat (first | exact Pick.here | apply Pick.there))).1) (fun hlen => ?_)
  refine zc (fun _ => ?_) (c := fun w1 F1 F2 h1 h2 hd hst => indexFunc_ok (id := id) (rs := l.rs) h1 ⟨css, rd_row h2 hd (by repeat (first | exact Pick.here | apply Pick.there)), h18, hlen, fun i c x hc hx => el_rd (rd := RdRec) h2 hd (by repeat (first | exact Pick.here | apply Pick.there)) hc hx⟩)
  refine gp zas ?_
  refine gnt ?_
  refine gc_ret ?_
  refine gx_ret1 rfl (by conv => lhs; whnf) ?_
  exact fun w' hw => ⟨(), rfl, St.led (hw.sel (by repeat (first | exact Sel.nil | (apply Sel.cons; · (repeat (first | exact Pick.here | apply Pick.there)))))) h18 rfl rfl rfl rfl⟩

set_option maxHeartbeats 400000 in
theorem all_ok {w : World} {F : Nat → Prop} {q : Nat} (h : stars [] w F) :
    Calls Tryz.prog 55 #[.pointer (some ⟨q, 0, none⟩)] w (Post w F (fun b : Nat => .func (.func 105) #[] #[.pointer (some ⟨b, 0, none⟩)]) (fun b => [blk b 59 [.pointer (some ⟨q, 0, none⟩)]])) := by
  refine g_enter (env := [(0, .pointer (some ⟨q, 0, none⟩))]) Tryz.func55 rfl h Tryz.ntmps55 rfl rfl ?_
  refine gsr ?_
  refine zb1 fun b1 => ?_
  refine gp zas ?_
  refine gnt ?_
  refine gsr ?_
  refine gp zmf ?_
  refine gp zas ?_
  refine gnt ?_
  refine gc_ret ?_
  refine gx_ret1 rfl (by conv => lhs; whnf) ?_
  exact ze b1

set_option maxHeartbeats 400000 in
theorem all1_ok {w : World} {F : Nat → Prop} {q g : Nat} {l : LS} {bx lp : Nat} {J : Nat → Res} {Jx : Res} (h : stars [blk bx 59 [.pointer (some ⟨q, 0, none⟩)], LedR q g l, J 0] w F) {ea : Nat → Addr} {es : List Nat} [Has es 1] [Has es 2] [Has es 3] [Has es 4] (hE : GErr es w (fun k => ¬ F k) 340 ea) (hok : ∀ r ∈ l.rs, r.Ok) (hln : l.rs.length < 4294967296) (hy : RoundsAt Tryz.prog lp allE_ (allG l.rs) J Jx w F) :
    Calls Tryz.prog 105 #[.func (.yield lp) #[] #[], .pointer (some ⟨bx, 0, none⟩)] w (Post w F (fun _ : Bool => .tuple #[]) (fun y => (match allOr l.rs.length y with | some m => J m | none => Jx) :: [blk bx 59 [.pointer (some ⟨q, 0, none⟩)], LedR q g l])) := by
  refine g_enter (env := [(0, .func (.yield lp) #[] #[]), (1, .pointer (some ⟨bx, 0, none⟩))]) Tryz.func105 rfl h Tryz.ntmps105 rfl rfl ?_
  refine gsr ?_
  refine gl_led (by repeat (first | exact Pick.here | apply Pick.there)) (fun a0 m0 css h18 => ?_)
  refine gp zl ?_
  refine gp znc ?_
  refine gp zfa ?_
  refine gp zl ?_
  refine gp zln ?_
  refine gl_conv (M := [blk q 179 [.pointer (some ⟨g, 0, none⟩), .int .i64 l.base, .int .i64 l.e, .slice a0 l.rs.length m0], rowR 181 18 a0 l.rs.length m0 css.flatten, ElR RdRec css l.rs]) (N := [LedR q g l]) (by repeat (first | exact Sel.nil | (apply Sel.cons; · (repeat (first | exact Pick.here | apply Pick.there))))) (fun w' F' hh => ?_) ?_
  · exact stars_ex_mk ((a0, m0), css) (stars_all_mk (stars_pure_mk h18 hh))
  refine gp zmv ?_
  refine gnt ?_
  refine gc_block ?_
  refine gc_loop (α := Nat) (fun k => [pureR (k ≤ l.rs.length), blk bx 59 [.pointer (some ⟨q, 0, none⟩)], LedR q g l, J k]) (fun k => [(12, .int .i64 (k : Int))]) [3, 4, 5, 6, 13, 14, 15, 16, 17, 18, 19, 20, 21, 22, 23, 24, 25, 26, 27, 28, 29, 30, 31] (fun k => l.rs.length - k) 0 ?_ ?_ ?_
  · refine env_start (by kernel_rfl)
  · exact zlp (Nat.zero_le _)
  · intro k u
    refine gc_pureR (fun hk => ?_)
    replace hk : k ≤ l.rs.length := hk
    refine gsr ?_
    refine gp zlt ?_
    refine gnt ?_
    refine gc_seq ?_
    refine gif rfl (fun hc13 => ?_) (fun hc13 => ?_)
    · try simp only at hc13
      have hk' : k < l.rs.length := by omega
      have hr : l.rs[k]? = some (l.rs[k]'hk') := List.getElem?_eq_getElem hk'
      have hrk := hok _ (List.mem_of_getElem? hr)
      refine gc_skip ?_
      refine gx_then ?_
      refine gc_seq ?_
      refine gc_block ?_
      refine gsr ?_
      refine gp zmv ?_
      refine gp zas ?_
      refine gnt ?_
      refine gsr ?_
      refine gp zl ?_
      refine gp zmv ?_
      refine zc ?_ (c := fun w1 F1 F2 h1 h2 hd hst => get_some (i := k) h1 (hE.mv hst.still) hr hrk)
      rintro ⟨x, y⟩
      refine gl_pureR (fun hxy => ?_)
      obtain ⟨⟨hlx, hox⟩, hly, hoy⟩ := hxy
      replace hlx : x.length = 39 := hlx
      replace hly : y.length = 19 := hly
      have ix := Len.of hlx
      have jx := One.of (show ∀ v ∈ x, v.oneCell' = true from hox)
      have iy := Len.of hly
      have jy := One.of (show ∀ v ∈ y, v.oneCell' = true from hoy)
      rw [← blkAt_eq hr]
      refine gp zmv ?_
      refine gp zex ?_
      refine gp zex ?_
      refine gp zex ?_
      refine zal fun b4 => ?_
      refine zal fun b5 => ?_
      refine zsN ?_
      refine zsN ?_
      refine gp zas ?_
      refine gnt ?_
      refine gsr ?_
      refine gp zmv ?_
      refine gp (r_bool (c := false) (r_nenil rfl (by kernel_rfl)) rfl) ?_
      refine gp zmv ?_
      refine gq zmv ?_
      refine gq zmv ?_
      refine gq (zLa (cs := x)) ?_
      refine gl_pI (p := k < l.rs.length ∧ x.length = 39 ∧ ∀ v ∈ x, v.oneCell' = true) ⟨hk', hlx, hox⟩ ?_
      refine gyd hy k x rfl (by repeat (first | exact Sel.nil | (apply Sel.cons; · (repeat (first | exact Pick.here | apply Pick.there))))) (fun x28 => ?_) (hw := wtgT rfl rfl rfl rfl)
      rcases x28 with _ | _
      · refine gq znt ?_
        refine gp zpk ?_
        refine gnt ?_
        refine gc_condT rfl rfl ?_
        refine gc_ret ?_
        refine gx_block_ret ?_
        refine gx_then_ret ?_
        refine gx_round_ret ?_
        refine gx_block_ret ?_
        refine gx_ret0 rfl ?_
        exact ze false
      · refine gq znt ?_
        refine gp zpk ?_
        refine gnt ?_
        refine gc_condF rfl rfl ?_
        refine gc_skip ?_
        refine gx_block_normal ?_
        refine gx_then ?_
        refine gc_region ?_
        refine gp zad ?_
        refine gp zmv ?_
        refine gl_nil ?_
        refine zrd (k + 1) ?_ ?_
        · show l.rs.length - (k + 1) < l.rs.length - k
          omega
        · exact zlp (show k + 1 ≤ l.rs.length by omega)
    · try simp only at hc13
      have hk' : k = l.rs.length := by omega
      subst hk'
      refine gc_exit ?_
      refine gx_then_exit ?_
      refine gx_round_exit ?_
      refine gx_block_hit ?_
      refine gx_ret0' rfl ?_
      exact ze true


theorem all1_it {w : World} {F : Nat → Prop} {q g : Nat} {l : LS} {bx lp : Nat} {J : Nat → Res} {Jx : Res} (h : stars [blk bx 59 [.pointer (some ⟨q, 0, none⟩)], LedR q g l, J 0] w F) {ea : Nat → Addr} {es : List Nat} [Has es 1] [Has es 2] [Has es 3] [Has es 4] (hE : GErr es w (fun k => ¬ F k) 340 ea) (hok : ∀ r ∈ l.rs, r.Ok) (hln : l.rs.length < 4294967296) :
    IterAt Tryz.prog 105 #[.pointer (some ⟨bx, 0, none⟩)] allE_ (allG l.rs) (allOr l.rs.length) (fun _ => [blk bx 59 [.pointer (some ⟨q, 0, none⟩)], LedR q g l]) (fun _ : Bool => .tuple #[]) lp J Jx w F := fun hy => by
  have h2 := all1_ok h hE hok hln hy
  exact h2

end Go.Proofs.YtobjojeliibinaaGreatDoor

/- Plain words on ledgers, part 2: a calm disk's appends, small records. -/
namespace Go.Proofs.YtobjojeliibinaaGreatDoor
open Go
set_option linter.unusedVariables false
set_option linter.unusedSimpArgs false
structure Calm (d : DS) : Prop where
  ar : d.armed = false
  on : d.off = false
  ok : DOk d
theorem at_write {d : DS} {i j : Nat} {v : Sec} : (d.write (i : Int) v).at j = if j = i then v else d.at j := by
  simp only [DS.at, DS.write, lookW_put]
  by_cases h : j = i
  · subst h; simp
  · rw [if_neg h, if_neg (by omega)]
theorem at_sync {d : DS} {j : Nat} : d.sync.at j = d.at j := rfl
theorem Calm.wr {d : DS} (h : Calm d) {i : Nat} {v : Sec} (hi : i < d.n) : d.wr (i : Int) v = (0, d.write (i : Int) v) ∧ Calm (d.write (i : Int) v) :=
  ⟨wr_calm h.ar h.on (has_iff.2 ⟨by omega, by omega⟩), h.ar, h.on, write_ok h.ok (by omega) (by omega)⟩
theorem Calm.sync {d : DS} (h : Calm d) : d.syncd = d.sync ∧ Calm d.sync ∧ (oper d).off = false := ⟨syncd_calm h.ar h.on, ⟨h.ar, h.on, sync_ok h.ok⟩, by rw [oper_calm h.ar]; exact h.on⟩
theorem wdat_calm {d : DS} (h : Calm d) (e : Nat) (x : List UInt8) : ∀ i, e + 1 + i ≤ d.n → (wdat d e x i).1 = 0 ∧ Calm (wdat d e x i).2 ∧ (wdat d e x i).2.n = d.n ∧ ∀ j, (wdat d e x i).2.at j = if e + 1 ≤ j ∧ j < e + 1 + i then secData x (j - (e + 1)) else d.at j
  | 0, _ => ⟨rfl, h, rfl, fun j => by rw [if_neg (by omega), wdat_zero]⟩
  | i + 1, hi => by
    obtain ⟨h0, hc, hn, ha⟩ := wdat_calm h e x i (by omega)
    obtain ⟨hw, hc2⟩ := hc.wr (i := e + 1 + i) (v := secData x i) (by omega)
    rw [wdat_step h0, hw]
    refine ⟨rfl, hc2, hn, fun j => ?_⟩
    show ((wdat d e x i).2.write ((e + 1 + i : Nat) : Int) (secData x i)).at j = _
    rw [at_write, ha]
    by_cases h1 : j = e + 1 + i
    · subst h1; rw [if_pos rfl, if_pos (by omega), Nat.add_sub_cancel_left]
    · rw [if_neg h1]
      by_cases h2 : e + 1 ≤ j ∧ j < e + 1 + i
      · rw [if_pos h2, if_pos (by omega)]
      · rw [if_neg h2, if_neg (by omega)]
/-- What lies there once a record is appended. -/
def appF (d : DS) (l : LS) (r : LRec) (j : Nat) : Sec :=
  if j = l.e then headL l.rs.length r.data else if j = l.e + lenR r then sec0 else if l.e + 1 ≤ j ∧ j < l.e + lenR r then secData r.data (j - (l.e + 1)) else d.at j
def LS.add (l : LS) (r : LRec) : LS := ⟨l.base, l.rs ++ [r], l.e + lenR r⟩
theorem appD_calm {d : DS} {l : LS} {r : LRec} (h : Calm d) (hf : nsec r.data.length + 2 ≤ d.n - l.e) : ∃ d', appD d l r = (0, d', l.add r) ∧ Calm d' ∧ d'.n = d.n ∧ d'.ws = [] ∧ ∀ j, d'.at j = appF d l r j := by
  have hl : lenR r = 1 + nsec r.data.length := rfl
  obtain ⟨h0, hc, hn, ha⟩ := wdat_calm h l.e r.data (nsec r.data.length) (by omega)
  obtain ⟨d1, hd1⟩ : ∃ d1, d1 = (wdat d l.e r.data (nsec r.data.length)).2 := ⟨_, rfl⟩
  rw [← hd1] at hc hn ha
  obtain ⟨hw2, hc2⟩ := hc.wr (i := l.e + lenR r) (v := sec0) (by omega)
  obtain ⟨hs3, hc3, ho3⟩ := hc2.sync
  obtain ⟨hw4, hc4⟩ := hc3.wr (i := l.e) (v := headL l.rs.length r.data) (by show l.e < d1.n; omega)
  obtain ⟨hs5, hc5, ho5⟩ := hc4.sync
  refine ⟨_, ?_, hc5, hn, rfl, fun j => ?_⟩
  · unfold appD
    rw [if_pos h0, ← hd1]
    unfold appE
    rw [hw2, if_pos rfl]
    unfold appM
    rw [if_neg (by rw [ho3]; decide), hs3]
    unfold appH
    rw [hw4, if_pos rfl]
    unfold appS
    rw [if_neg (by rw [ho5]; decide), hs5]
    rfl
  · rw [at_sync, at_write, at_sync, at_write, ha]
    unfold appF
    by_cases h1 : j = l.e
    · rw [if_pos h1, if_pos h1]
    · rw [if_neg h1, if_neg h1]
      by_cases h2 : j = l.e + lenR r
      · rw [if_pos h2, if_pos h2]
      · rw [if_neg h2, if_neg h2, hl, show l.e + (1 + nsec r.data.length) = l.e + 1 + nsec r.data.length by omega]
/-- A ledger on its disk. -/
structure LInv (d : DS) (l : LS) (bs : Nat) : Prop where
  ba : l.base = (bs : Int)
  lo : LOk d.at bs l.rs
  e : l.e = bs + tot l.rs
  lt : l.e < d.n
theorem tot_snoc (rs : List LRec) (r : LRec) : tot (rs ++ [r]) = tot rs + lenR r := by simp [tot]
theorem secsR_at {h i : Nat} {r : LRec} (hi : i < nsec r.data.length) : (secsR h r).getD (i + 1) sec0 = secData r.data i := by
  simp [secsR, List.getD, hi]
theorem LInv.add {d d' : DS} {l : LS} {bs : Nat} {r : LRec} (h : LInv d l bs) (hr : r.Ok) (hf : nsec r.data.length + 2 ≤ d.n - l.e) (hn : d'.n = d.n) (ha : ∀ j, d'.at j = appF d l r j) : LInv d' (l.add r) bs := by
  have hl : lenR r = 1 + nsec r.data.length := rfl
  have he := h.e
  refine ⟨h.ba, ⟨fun x hx => ?_, fun i hi => ?_, ?_⟩, by show l.e + lenR r = bs + tot (l.rs ++ [r]); rw [tot_snoc]; omega, by show l.e + lenR r < d'.n; omega⟩
  · rcases List.mem_append.1 hx with hx | hx
    · exact h.lo.ok x hx
    · simp at hx; subst hx; exact hr
  · replace hi : i < tot (l.rs ++ [r]) := hi
    rw [tot_snoc] at hi
    show d'.at (bs + i) = (secsOf 0 (l.rs ++ [r])).getD i sec0
    rw [ha, secsOf_app, Nat.zero_add]
    by_cases h1 : i < tot l.rs
    · rw [appF, if_neg (by omega), if_neg (by omega), if_neg (by omega), h.lo.at' i h1]
      simp only [List.getD]
      rw [List.getElem?_append_left (by rw [secsOf_len]; exact h1)]
    · obtain ⟨k, rfl⟩ : ∃ k, i = tot l.rs + k := ⟨i - tot l.rs, by omega⟩
      have e1 : (secsOf 0 l.rs ++ secsOf l.rs.length [r]).getD (tot l.rs + k) sec0 = (secsR l.rs.length r).getD k sec0 := by
        simp only [List.getD]
        rw [List.getElem?_append_right (by rw [secsOf_len]; omega), secsOf_len, Nat.add_sub_cancel_left]
        simp [secsOf]
      rw [e1, appF]
      cases k with
      | zero => rw [if_pos (by omega)]; rfl
      | succ k => rw [if_neg (by omega), if_neg (by omega), if_pos (by omega), secsR_at (by omega)]; congr 1; omega
  · show d'.at (bs + tot (l.rs ++ [r])) = sec0
    rw [ha, tot_snoc, appF, if_neg (by omega), if_pos (by omega)]
theorem tot_ge : ∀ (rs : List LRec), 2 * rs.length ≤ tot rs
  | [] => Nat.le_refl _
  | r :: l => by
    have := tot_ge l
    have hd := data_len r
    have : 1 ≤ nsec r.data.length := by unfold nsec; omega
    show 2 * (l.length + 1) ≤ lenR r + tot l
    unfold lenR; omega
theorem LInv.ln {d : DS} {l : LS} {bs : Nat} (h : LInv d l bs) (hk : DOk d) : l.rs.length ≤ 2048 := by
  have := tot_ge l.rs; have := h.lt; have := h.e; have := hk.n; omega
theorem LInv.op {d : DS} {l : LS} {bs : Nat} (h : LInv d l bs) : openE d (bs : Int) = (0, l) := by
  have hlt := h.lt
  have he := h.e
  have hh := lopen_ok h.lo (by omega)
  rw [openE, if_pos (has_iff.2 ⟨by omega, by omega⟩), Int.toNat_natCast, hh]
  simp only [Prod.mk.injEq, true_and]
  rw [← he, ← h.ba]
theorem fmt_calm {d : DS} {bs : Nat} (h : Calm d) (hb : bs < d.n) : ∃ d', fmtL d (bs : Int) = (0, d') ∧ Calm d' ∧ d'.n = d.n ∧ d'.ws = [] ∧ LInv d' ⟨bs, [], bs⟩ bs := by
  obtain ⟨hw, hc⟩ := h.wr (i := bs) (v := sec0) hb
  obtain ⟨hs, hc2, ho⟩ := hc.sync
  refine ⟨(d.write (bs : Int) sec0).sync, ?_, hc2, rfl, rfl, rfl, ⟨by simp, fun i hi => absurd hi (Nat.not_lt_zero _), ?_⟩, rfl, hb⟩
  · rw [fmtL, if_pos (has_iff.2 ⟨by omega, by omega⟩), hw, if_pos rfl, if_neg (by rw [ho]; decide), hs]
  · show ((d.write (bs : Int) sec0).sync).at (bs + 0) = sec0
    rw [at_sync, at_write, if_pos (by omega)]
/-! ### Small records -/
def Wr (f : WS → WS) (n : Nat) : Prop := ∀ s, s.err = 0 → (f s).err = 0 ∧ (f s).bs.length = s.bs.length + n
theorem Wr.fix (b : List UInt8) : Wr (wFix b) b.length := fun s h => by rw [wFix_of h]; simp
theorem Wr.num {v : Int} {wd : Nat} (h0 : 0 ≤ v) (h : v < 2 ^ (8 * wd)) : Wr (wNum v wd) wd := fun s hs => by
  unfold wNum
  rw [if_neg (by omega)]
  have := Wr.fix (beN v wd) s hs
  rwa [beN_length] at this
theorem Wr.then {f g : WS → WS} {n m : Nat} (hf : Wr f n) (hg : Wr g m) : Wr (fun s => g (f s)) (n + m) := fun s hs => by
  obtain ⟨h1, h2⟩ := hf s hs
  obtain ⟨h3, h4⟩ := hg (f s) h1
  exact ⟨h3, by rw [h4, h2, Nat.add_assoc]⟩
theorem Wr.dig (d : Dig) : Wr (wDig d) 16 := fun s hs => by have := Wr.fix d.l s hs; rwa [d.h] at this
theorem Wr.fold {α : Type} {wX : α → WS → WS} {c : Nat} : ∀ {l : List α}, (∀ x ∈ l, Wr (wX x) c) → Wr (fun s => l.foldl (fun s x => wX x s) s) (l.length * c)
  | [], _ => fun s hs => ⟨hs, by simp⟩
  | x :: l, h => by
    have h1 := (h x (by simp)).then (Wr.fold (l := l) fun y hy => h y (by simp [hy]))
    rw [show (x :: l).length * c = c + l.length * c by rw [List.length_cons, Nat.add_mul, Nat.one_mul, Nat.add_comm]]
    exact h1
theorem Wr.put {α : Type} {wX : α → WS → WS} {c most : Nat} {l : List α} (hl : l.length ≤ most) (h2 : l.length ≤ 255) (h : ∀ x ∈ l, Wr (wX x) c) : Wr (wPut wX l most) (1 + l.length * c) := fun s hs => by
  unfold wPut
  rw [if_neg (by omega)]
  exact (Wr.num (v := (l.length : Int)) (wd := 1) (by omega) (by show (l.length : Int) < 256; omega)).then (Wr.fold h) s hs
theorem Wr.bytes {b : List UInt8} {most : Nat} (h : b.length ≤ most) (hm : most ≤ 65535) : Wr (wBytes b most) (2 + b.length) := fun s hs => by
  unfold wBytes
  rw [if_neg (by omega)]
  exact (Wr.num (v := (b.length : Int)) (wd := 2) (by omega) (by show (b.length : Int) < 65536; omega)).then (Wr.fix b) s hs
def sgE : Signed := ⟨0, 0, List.replicate 5 dig0, []⟩
def rndU (i : Int) : Nat := ((IntKind.u64.wrap i).tmod 1000).toNat
def vts (i : Int) : Nat := ((IntKind.u64.wrap i).tmod 4).toNat
theorem u64_rem (a : Int) {m : Nat} (hm : 0 < m) : (IntKind.u64.wrap a).tmod (m : Int) = ((((IntKind.u64.wrap a).tmod (m : Int)).toNat : Nat) : Int) ∧ ((IntKind.u64.wrap a).tmod (m : Int)).toNat < m := by
  have h0 : 0 ≤ IntKind.u64.wrap a := by simp [IntKind.wrap, IntKind.bits, IntKind.signed]; omega
  have h1 := Int.tmod_lt_of_pos (IntKind.u64.wrap a) (show (0 : Int) < (m : Int) by omega)
  have h2 := Int.tmod_nonneg (m : Int) h0
  omega
theorem rndU_eq (i : Int) : (IntKind.u64.wrap i).tmod 1000 = (rndU i : Int) := (u64_rem i (m := 1000) (by decide)).1
theorem vts_eq (i : Int) : (IntKind.u64.wrap i).tmod 4 = (vts i : Int) := (u64_rem i (m := 4) (by decide)).1
def smB (n : Nat) (tx : UInt8) : Block := ⟨1, n, dig0, qc0, [[tx]], []⟩
def smC (n : Nat) (tx : UInt8) (v : Nat) : QC := ⟨1, n, idOf (smB n tx), List.replicate v sgE⟩
def smR (n : Nat) (tx : UInt8) (v : Nat) : LRec := ⟨smB n tx, smC n tx v⟩
theorem wr_at {n : Nat} (h : n < 1000) : Wr (wAt 1 n) 10 :=
  (Wr.num (v := 1) (wd := 4) (by decide) (by decide)).then (Wr.num (v := (n : Int)) (wd := 6) (by omega) (by show (n : Int) < 281474976710656; omega))
theorem wr_at0 : Wr (wAt 0 0) 10 := (Wr.num (v := 0) (wd := 4) (by decide) (by decide)).then (Wr.num (v := 0) (wd := 6) (by decide) (by decide))
theorem wr_qc0 : Wr (wQC qc0) 27 := (wr_at0.then (Wr.dig dig0)).then (Wr.put (l := ([] : List Signed)) (c := 0) (by simp) (by simp) (by simp))
theorem wr_smB {n : Nat} {tx : UInt8} (h : n < 1000) : Wr (wBlock (smB n tx)) 58 :=
  ((((wr_at h).then (Wr.dig dig0)).then wr_qc0).then (Wr.put (l := [[tx]]) (most := 4) (c := 3) (by simp) (by simp) (fun x hx => by simp at hx; subst hx; exact Wr.bytes (by simp) (by decide)))).then
    (Wr.put (l := ([] : List Vdr)) (c := 0) (by simp) (by simp) (by simp))
theorem wr_sgE : Wr (wSigned sgE) 84 := fun s hs => by
  have h1 := Wr.num (v := 0) (wd := 1) (by decide) (by decide) s hs
  have h2 := Wr.num (v := 0) (wd := 1) (by decide) (by decide) _ h1.1
  have h3 := Wr.put (wX := wDig) (l := List.replicate 5 dig0) (most := 68) (c := 16) (by simp) (by simp) (fun x _ => Wr.dig x) _ h2.1
  have h4 := Wr.put (wX := wDig) (l := ([] : List Dig)) (most := 5) (c := 0) (by simp) (by simp) (by simp) _ h3.1
  show (wPut wDig [] 5 (wPut wDig (List.replicate 5 dig0) 68 (wNum 0 1 (wNum 0 1 s)))).err = 0 ∧ (wPut wDig [] 5 (wPut wDig (List.replicate 5 dig0) 68 (wNum 0 1 (wNum 0 1 s)))).bs.length = _
  refine ⟨h4.1, h4.2.trans ?_⟩
  rw [h3.2, h2.2, h1.2]; simp
theorem wr_votes (v : Nat) (hv : v < 4) : Wr (wPut wSigned (List.replicate v sgE) 7) (1 + v * 84) := fun s hs => by
  have h := Wr.put (wX := wSigned) (l := List.replicate v sgE) (most := 7) (c := 84) (by simp; omega) (by simp; omega) (fun x hx => by rw [List.eq_of_mem_replicate hx]; exact wr_sgE) s hs
  rwa [List.length_replicate] at h
attribute [local irreducible] wAt wDig wPut wSigned wBytes wVdr in
theorem wr_smC {n v : Nat} {tx : UInt8} (h : n < 1000) (hv : v < 4) : Wr (wBlock (certB (smC n tx v))) (55 + 84 * v) := fun s hs => by
  have h1 := wr_at0 s hs
  have h2 := Wr.dig dig0 _ h1.1
  have h3 := wr_at h _ h2.1
  have h4 := Wr.dig (idOf (smB n tx)) _ h3.1
  have h5 := wr_votes v hv _ h4.1
  have h6 := Wr.put (wX := fun t => wBytes t 16) (l := ([] : List (List UInt8))) (most := 4) (c := 0) (by simp) (by simp) (by simp) _ h5.1
  have h7 := Wr.put (wX := wVdr) (l := ([] : List Vdr)) (most := 7) (c := 0) (by simp) (by simp) (by simp) _ h6.1
  refine ⟨h7.1, h7.2.trans ?_⟩
  rw [h6.2, h5.2, h4.2, h3.2, h2.2, h1.2]; simp; omega
theorem sm_ok {n v : Nat} {tx : UInt8} (h : n < 1000) (hv : v < 4) : (smR n tx v).Ok := ⟨(wr_smB h ⟨0, []⟩ rfl).1, (wr_smC h hv ⟨0, []⟩ rfl).1, by simp only [smR, smC], by simp only [smR, smC, smB], by simp only [smR, smC, smB]⟩
theorem sm_len {n v : Nat} {tx : UInt8} (h : n < 1000) (hv : v < 4) : (smR n tx v).data.length = 117 + 84 * v := by
  have h1 := (wr_smB (tx := tx) h ⟨0, []⟩ rfl).2
  have h2 := (wr_smC (tx := tx) h hv ⟨0, []⟩ rfl).2
  rw [LRec.data, dataL_len]
  show 4 + (wBlock (smB n tx) ⟨0, []⟩).bs.length + (wBlock (certB (smC n tx v)) ⟨0, []⟩).bs.length = _
  rw [h1, h2]; simp; omega
theorem sm_sec {n v : Nat} {tx : UInt8} (h : n < 1000) (hv : v < 4) : nsec (smR n tx v).data.length ≤ 6 := by rw [sm_len h hv]; unfold nsec; omega
theorem rnd_lt (i : Int) : rndU i < 1000 := (u64_rem i (m := 1000) (by decide)).2
theorem vts_lt (i : Int) : vts i < 4 := (u64_rem i (m := 4) (by decide)).2
theorem app_ok {d : DS} {l : LS} {b : Block} {c : QC} (hm : madeE b c = 0) (h2 : l.rs.length < 200) (hf : nsec (⟨b, c⟩ : LRec).data.length + 2 ≤ d.n - l.e) : appL d l b c = appD d l ⟨b, c⟩ := by
  unfold appL; rw [if_pos hm, if_neg (fun h => h.elim (fun h' => by omega) (fun h' => h' hf))]
end Go.Proofs.YtobjojeliibinaaGreatDoor

/- A ledger and its calm disk, as one. -/
namespace Go.Proofs.YtobjojeliibinaaGreatDoor
open Go
set_option linter.unusedVariables false
set_option linter.unusedSimpArgs false
abbrev lsOf (bs : Nat) (rs : List LRec) : LS := ⟨(bs : Int), rs, bs + tot rs⟩
structure LdOk (d : DS) (n bs : Nat) (rs : List LRec) : Prop where
  c : Calm d
  n : d.n = n
  ws : d.ws = []
  i : LInv d (lsOf bs rs) bs
def LdR (q g n bs : Nat) (rs : List LRec) : Res := exR fun d : DS => allR [pureR (LdOk d n bs rs), LedR q g (lsOf bs rs), DiskR g d]
section
variable {w w0 : World} {F F0 : Nat → Prop} {q g n bs : Nat} {rs : List LRec} {L : List Res} {ea : Nat → Addr} {es : List Nat}
theorem ld_open (h : stars (LdR q g n bs rs :: L) w F) : ∃ d, LdOk d n bs rs ∧ stars (LedR q g (lsOf bs rs) :: DiskR g d :: L) w F := by
  obtain ⟨d, h⟩ := stars_ex h
  obtain ⟨h1, h2⟩ := stars_pure (stars_all h)
  exact ⟨d, h1, h2⟩
theorem ld_shut {d : DS} (hd : LdOk d n bs rs) (h : stars (LedR q g (lsOf bs rs) :: DiskR g d :: L) w F) : stars (LdR q g n bs rs :: L) w F := stars_ex_mk d (stars_all_mk (stars_pure_mk hd h))
theorem St.ld {d : DS} (h : St w0 F0 (LedR q g (lsOf bs rs) :: DiskR g d :: L) w) (hd : LdOk d n bs rs) : St w0 F0 (LdR q g n bs rs :: L) w := h.mapL fun F hF => ld_shut hd hF
theorem tot_lt {d : DS} (h : LdOk d n bs rs) : bs + tot rs < n := by have := h.i.lt; rw [h.n] at this; exact this
theorem disk0_calm {n : Nat} (h : n ≤ 4096) : Calm ⟨n, fun _ => sec0, [], false, false, 0⟩ := ⟨rfl, rfl, h, by simp [keysW], by simp [keysW], (fun h => by cases h), by show (-9223372036854775808 : Int) ≤ 0 ∧ (0 : Int) ≤ 9223372036854775807; decide⟩
theorem fmtC (h : stars [DiskR g ⟨n, fun _ => sec0, [], false, false, 0⟩] w F) (hn : n ≤ 4096) (hb : bs < n) [Has es 1] [Has es 6] (hE : GErr es w (fun k => ¬ F k) 340 ea) :
    Calls Tryz.prog 42 #[.pointer (some ⟨g, 0, none⟩), .int .i64 (bs : Int)] w (Post w F (fun q : Nat => .tuple #[.pointer (some ⟨q, 0, none⟩), eV 340 ea 0]) (fun q => [LdR q g n bs []])) := by
  have hc := disk0_calm hn
  obtain ⟨d', e, h1, h2, h3, h4⟩ := fmt_calm hc hb
  refine Calls.mono (formatL_ok (b := (bs : Int)) h hc.ok hE) ?_
  rintro o w' ⟨q, ho, hs⟩
  simp only [e, if_true] at ho hs
  exact ⟨q, ho, St.ld (rs := []) (n := n) (L := []) (show St w F [LedR q g (lsOf bs []), DiskR g d'] w' from hs) ⟨h1, h2, h3, h4⟩⟩
theorem appC {cs qs : List Value} {b : Block} {c : QC} (h : stars [LdR q g n bs rs] w F) [Has es 1] [Has es 4] [Has es 6] [Has es 8] [Has es 12] (hE : GErr es w (fun k => ¬ F k) 340 ea) (hK : KR w (fun k => ¬ F k)) (hx : RdBlock w (fun k => ¬ F k) cs b) (hq : RdQC w (fun k => ¬ F k) qs c)
    (hr : (⟨b, c⟩ : LRec).Ok) (h2 : rs.length < 200) (hf : bs + tot rs + nsec (⟨b, c⟩ : LRec).data.length + 2 ≤ n) :
    Calls Tryz.prog 45 #[.pointer (some ⟨q, 0, none⟩), .agg cs.toArray, .agg qs.toArray] w (Post w F (fun _ : Unit => eV 340 ea 0) (fun _ => [LdR q g n bs (rs ++ [⟨b, c⟩])])) := by
  obtain ⟨d, hd, h⟩ := ld_open h
  have hfit : nsec (⟨b, c⟩ : LRec).data.length + 2 ≤ d.n - (lsOf bs rs).e := by rw [hd.n]; show _ ≤ n - (bs + tot rs); omega
  obtain ⟨d', e, h1, h3, h4, h5⟩ := appD_calm (l := lsOf bs rs) hd.c hfit
  have e2 := (app_ok (d := d) (l := lsOf bs rs) (made_zero hr) h2 hfit).trans e
  refine Calls.mono (append_ok (l := lsOf bs rs) h hd.c.ok hE hK hx hq hd.i.lt (by show rs.length < _; omega)) ?_
  rintro o w' ⟨x, ho, hs⟩
  simp only [e2] at ho hs
  have hi := hd.i.add (d' := d') hr hfit h3 h5
  have el : (lsOf bs rs).add ⟨b, c⟩ = lsOf bs (rs ++ [⟨b, c⟩]) := by simp only [LS.add, lsOf, tot_snoc, Nat.add_assoc]
  rw [el] at hi hs
  exact ⟨(), ho, St.ld hs ⟨h1, by rw [h3, hd.n], h4, hi⟩⟩
theorem appX {cs qs : List Value} {b : Block} {c : QC} (h : stars [LdR q g n bs rs] w F) [Has es 1] [Has es 4] [Has es 6] [Has es 8] [Has es 12] (hE : GErr es w (fun k => ¬ F k) 340 ea) (hK : KR w (fun k => ¬ F k)) (hx : RdBlock w (fun k => ¬ F k) cs b) (hq : RdQC w (fun k => ¬ F k) qs c) (hln : rs.length < 4294967296)
    (k : Nat) (hr : madeE b c = k ∧ k ≠ 0 ∨ madeE b c = 0 ∧ k = 8 ∧ (200 ≤ rs.length ∨ n < bs + tot rs + nsec (⟨b, c⟩ : LRec).data.length + 2)) :
    Calls Tryz.prog 45 #[.pointer (some ⟨q, 0, none⟩), .agg cs.toArray, .agg qs.toArray] w (Post w F (fun _ : Unit => eV 340 ea k) (fun _ => [LdR q g n bs rs])) := by
  obtain ⟨d, hd, h⟩ := ld_open h
  have e2 : appL d (lsOf bs rs) b c = (k, d, lsOf bs rs) := by
    rcases hr with ⟨h1, h2⟩ | ⟨h1, h2, h3⟩
    · unfold appL; rw [if_neg (by rw [h1]; exact h2), h1]
    · have hlt := tot_lt hd
      unfold appL; rw [if_pos h1, if_pos (h3.imp id (fun h4 => by rw [hd.n]; show ¬ _ ≤ n - (bs + tot rs); omega)), h2]
  refine Calls.mono (append_ok (l := lsOf bs rs) h hd.c.ok hE hK hx hq hd.i.lt hln) ?_
  rintro o w' ⟨x, ho, hs⟩
  simp only [e2] at ho hs
  exact ⟨(), ho, St.ld hs hd⟩
theorem openC (h : stars [LdR q g n bs rs] w F) [Has es 1] [Has es 2] [Has es 3] [Has es 4] [Has es 6] [Has es 7] [Has es 12] (hE : GErr es w (fun k => ¬ F k) 340 ea) (hK : KR w (fun k => ¬ F k)) :
    Calls Tryz.prog 46 #[.pointer (some ⟨g, 0, none⟩), .int .i64 (bs : Int)] w (Post w F (fun p : Nat => .tuple #[.pointer (some ⟨p, 0, none⟩), eV 340 ea 0]) (fun p => [LdR p g n bs rs, LedR q g (lsOf bs rs)])) := by
  obtain ⟨d, hd, h⟩ := ld_open h
  obtain ⟨F1, F2, h1, h2, hF, hdj⟩ := (Pick.there (x := LedR q g (lsOf bs rs)) (Pick.here (r := DiskR g d) (L := []))).stars h
  have hst : Still w (fun k => ¬ F k) w (fun k => ¬ F1 k) := fun k _ hk => ⟨rfl, fun h' => hk ((hF k).2 (.inl h'))⟩
  have hc := calls_frame (lopen_ok' (b := (bs : Int)) (stars_one h1) hd.c.ok (hE.mv hst) (hK.mv hst) hd.c.on) h2 hF hdj
  refine Calls.mono hc ?_
  rintro o w' ⟨p, ho, hs⟩
  have e := hd.i.op
  simp only [e, if_true] at ho hs
  exact ⟨p, ho, St.ld hs hd⟩
theorem lenC (h : stars [LdR q g n bs rs] w F) : Calls Tryz.prog 47 #[.pointer (some ⟨q, 0, none⟩)] w (Post w F (fun _ : Unit => .int .i64 (rs.length : Int)) (fun _ => [LdR q g n bs rs])) := by
  obtain ⟨d, hd, h⟩ := ld_open h
  obtain ⟨F1, F2, h1, h2, hF, hdj⟩ := h
  refine Calls.mono (calls_frame (lenL_ok (stars_one h1)) h2 hF hdj) ?_
  rintro o w' ⟨x, ho, hs⟩
  exact ⟨(), ho, St.ld hs hd⟩
theorem freeC (h : stars [LdR q g n bs rs] w F) : Calls Tryz.prog 44 #[.pointer (some ⟨q, 0, none⟩)] w (Post w F (fun _ : Unit => .int .i64 ((n - (bs + tot rs) : Nat) : Int)) (fun _ => [LdR q g n bs rs])) := by
  obtain ⟨d, hd, h⟩ := ld_open h
  have hlt := tot_lt hd
  refine Calls.mono (free_ok h hd.c.ok (by rw [hd.n]; show bs + tot rs ≤ n; omega)) ?_
  rintro o w' ⟨x, ho, hs⟩
  rw [hd.n] at ho
  exact ⟨(), ho, St.ld hs hd⟩
/-- The elder one of two on one disk. -/
theorem freeC2 {p : Nat} (h : stars [LedR q g (lsOf bs rs), LdR p g n bs rs] w F) : Calls Tryz.prog 44 #[.pointer (some ⟨q, 0, none⟩)] w (Post w F (fun _ : Unit => .int .i64 ((n - (bs + tot rs) : Nat) : Int)) (fun _ => [LedR q g (lsOf bs rs), LdR p g n bs rs])) := by
  obtain ⟨d, hd, h⟩ := ld_open ((Pick.there (x := LedR q g (lsOf bs rs)) (Pick.here (r := LdR p g n bs rs) (L := []))).stars h)
  have hlt := tot_lt hd
  obtain ⟨F1, F2, h1, h2, hF, hdj⟩ := h
  have h2' : stars [LedR q g (lsOf bs rs), DiskR g d] w F2 := (Pick.there (x := DiskR g d) (Pick.here (r := LedR q g (lsOf bs rs)) (L := []))).stars h2
  refine Calls.mono (calls_frame (free_ok h2' hd.c.ok (by rw [hd.n]; show bs + tot rs ≤ n; omega)) (stars_one h1) (fun k => (hF k).trans Or.comm) (fun k hk h' => hdj k h' hk)) ?_
  rintro o w' ⟨x, ho, hs⟩
  rw [hd.n] at ho
  have hs2 : St w F [LedR p g (lsOf bs rs), DiskR g d, LedR q g (lsOf bs rs)] w' := hs.sel (.cons (.there (.there .here)) (.cons (.there .here) (.cons .here .nil)))
  exact ⟨(), ho, (St.ld hs2 hd).sel (.cons (.there .here) (.cons .here .nil))⟩
theorem getC {i : Nat} {r : LRec} (h : stars [LdR q g n bs rs] w F) [Has es 1] [Has es 2] [Has es 3] [Has es 4] (hE : GErr es w (fun k => ¬ F k) 340 ea) (hr : rs[i]? = some r) (hok : r.Ok) :
    Calls Tryz.prog 53 #[.pointer (some ⟨q, 0, none⟩), .int .i64 (i : Int)] w (Post w F (fun x : List Value × List Value => .tuple #[.agg x.1.toArray, .agg x.2.toArray, eV 340 ea 0]) (fun x => [pureR ((x.1.length = 39 ∧ ∀ v ∈ x.1, v.oneCell' = true) ∧ x.2.length = 19 ∧ ∀ v ∈ x.2, v.oneCell' = true), VlR RdBlock x.1 r.b, VlR RdQC x.2 r.c, LdR q g n bs rs])) := by
  obtain ⟨d, hd, h⟩ := ld_open h
  obtain ⟨F1, F2, h1, h2, hF, hdj⟩ := h
  have hst : Still w (fun k => ¬ F k) w (fun k => ¬ F1 k) := fun k _ hk => ⟨rfl, fun h' => hk ((hF k).2 (.inl h'))⟩
  refine Calls.mono (calls_frame (get_some (l := lsOf bs rs) (stars_one h1) (hE.mv hst) hr hok) h2 hF hdj) ?_
  rintro o w' ⟨x, ho, hs⟩
  have hs2 : St w F [LedR q g (lsOf bs rs), DiskR g d, pureR ((x.1.length = 39 ∧ ∀ v ∈ x.1, v.oneCell' = true) ∧ x.2.length = 19 ∧ ∀ v ∈ x.2, v.oneCell' = true), VlR RdBlock x.1 r.b, VlR RdQC x.2 r.c] w' :=
    hs.sel (.cons (.there (.there (.there .here))) (.cons (.there (.there (.there .here))) (.cons .here (.cons .here (.cons .here .nil)))))
  exact ⟨x, ho, (St.ld hs2 hd).sel (.cons (.there .here) (.cons (.there .here) (.cons (.there .here) (.cons .here .nil))))⟩
theorem crashC (h : stars [LdR q g n bs rs] w F) : Calls Tryz.prog 88 #[.pointer (some ⟨g, 0, none⟩), .slice none 0 0] w (Post w F (fun _ : Unit => .tuple #[]) (fun _ => [LdR q g n bs rs])) := by
  obtain ⟨d, hd, h⟩ := ld_open h
  obtain ⟨F1, F2, h1, h2, hF, hdj⟩ := (Pick.there (x := LedR q g (lsOf bs rs)) (Pick.here (r := DiskR g d) (L := []))).stars h
  refine Calls.mono (calls_frame (crash_ok' (kb := []) (stars_one h1) hd.c.ok RdRow.nil) h2 hF hdj) ?_
  rintro o w' ⟨x, ho, hs⟩
  have e : d.crash [] = d := by
    rw [crash_idle hd.ws]
    have := hd.c.ar; have := hd.c.on
    cases d; simp_all
  rw [e] at hs
  exact ⟨(), ho, St.ld (hs.sel (.cons (.there .here) (.cons .here .nil))) hd⟩
end
end Go.Proofs.YtobjojeliibinaaGreatDoor

/- Walks, by program (wg.py) out of a spec. -/
namespace Go.Proofs.YtobjojeliibinaaGreatDoor
open Go
set_option linter.unusedVariables false
set_option linter.unusedSimpArgs false


def smL (b : Nat) (n : Nat) : List Value := .int .i64 1 :: .int .i64 (n : Int) :: (dc dig0 ++ (qcC ++ [.slice (some ⟨b, 0, none⟩) 1 1, .slice none 0 0]))
theorem smL_len (b n : Nat) : (smL b n).length = 39 := by simp [smL, dc_length, qcC, dc_length]
theorem smL_one (b n : Nat) : ∀ v ∈ smL b n, v.oneCell' = true := all_cons' rfl (all_cons' rfl (all_app' (dc_one _) (all_app' (rdQC0 (w := default) (A := fun _ => True)).one (all_cons' rfl (all_cons' rfl all_nil')))))
theorem rd_smL {w : World} {A : Nat → Prop} {b c n : Nat} {tx : UInt8} (h1 : RdRow w A 1 (some ⟨b, 0, none⟩) 1 [.slice (some ⟨c, 0, none⟩) 1 1]) (h2 : RdRow w A 1 (some ⟨c, 0, none⟩) 1 [B8 tx]) : RdBlock w A (smL b n) (smB n tx) :=
  ⟨qcC, some ⟨b, 0, none⟩, 1, 1, none, 0, 0, rfl, rdQC0, Nat.le_refl _, ⟨[[.slice (some ⟨c, 0, none⟩) 1 1]], h1, by simp, rfl, fun i x y hx hy => by
    match i with
    | 0 => simp at hx; subst hx; cases hy; exact ⟨_, _, _, rfl, Nat.le_refl _, h2⟩
    | i + 1 => simp at hx⟩, Nat.le_refl _, RdList.nil⟩
theorem smL_at (b n : Nat) : (smL b n)[0 + 1]? = some (.int .i64 (n : Int)) := rfl
theorem vl_smL {w : World} {F : Nat → Prop} {b c n e1 e2 : Nat} {tx : UInt8} (h : stars [rowR e1 1 (some ⟨b, 0, none⟩) 1 1 [.slice (some ⟨c, 0, none⟩) 1 1], rowR e2 1 (some ⟨c, 0, none⟩) 1 1 [B8 tx]] w F) : stars [VlR RdBlock (smL b n) (smB n tx)] w F := by
  obtain ⟨F1, F2, h1, h2, hF⟩ := stars_two h
  exact rdR_mk (rd_smL ((rowR.rd h1).mv (still_sub fun k hk => (hF k).2 (.inl hk))) ((rowR.rd h2).mv (still_sub fun k hk => (hF k).2 (.inr hk)))) h
def smQ (id : Dig) (n : Nat) (a : Option Addr) (k c : Nat) : List Value := .int .i64 1 :: .int .i64 (n : Int) :: (dc id ++ [.slice a k c])
theorem smQ_len (id : Dig) (n : Nat) (a : Option Addr) (k c : Nat) : (smQ id n a k c).length = 19 := by simp [smQ, dc_length]
theorem smQ_one (id : Dig) (n : Nat) (a : Option Addr) (k c : Nat) : ∀ v ∈ smQ id n a k c, v.oneCell' = true := all_cons' rfl (all_cons' rfl (all_app' (dc_one _) (all_cons' rfl all_nil')))
theorem smQ_at (id : Dig) (n : Nat) (a : Option Addr) (k c : Nat) : (smQ id n a k c)[0 + 18]? = some (.slice a k c) := by simp [smQ, get_dc]
theorem smQ_upd (id : Dig) (n : Nat) (a a' : Option Addr) (k c k' c' : Nat) : List.take 18 (smQ id n a k c) ++ [.slice a' k' c'] = smQ id n a' k' c' := by
  have h1 : List.take 16 (dc id ++ [Value.slice a k c]) = dc id := List.take_left' (dc_length id)
  simp [smQ, h1]
def rec0 : List Value := blkC ++ qcC
instance : Len rec0 58 := ⟨by simp [rec0, blkC, qcC, dc_length]⟩
def sgL (b : Nat) : List Value := [.int .i64 0, .int .i64 0, .slice (some ⟨b, 0, none⟩) 5 5, .slice none 0 0]
theorem vl_sgL {w : World} {F : Nat → Prop} {b T : Nat} (h : stars [blk b T (List.replicate 5 (dc dig0)).flatten] w F) : stars [VlR RdSigned (sgL b) sgE] w F := by
  have h1 := stars_one' h
  have hl : (List.replicate 5 (dc dig0)).flatten.length = 80 := by decide
  have hr : RdRow w F 16 (some ⟨b, 0, none⟩) 5 (List.replicate 5 (dc dig0)).flatten := RdRow.of_blk h1 (n := 5) (size := 16) (o := 0) (by rw [List.drop_zero, List.take_of_length_le (by omega)]) (by omega) (by decide)
  refine rdR_mk ⟨[.int .i64 0, .slice (some ⟨b, 0, none⟩) 5 5, .slice none 0 0], rfl, some ⟨b, 0, none⟩, 5, 5, none, 0, 0, rfl, Nat.le_refl _, Nat.le_refl _, ?_, RdList.nil⟩ h
  exact ⟨List.replicate 5 (dc dig0), hr, fun c hc => by rw [List.eq_of_mem_replicate hc]; exact dc_length _, by simp [sgE], fun i c x hc hx => by
    have h3 := List.eq_of_mem_replicate (List.mem_of_getElem? hc)
    have h4 : x = dig0 := List.eq_of_mem_replicate (n := 5) (List.mem_of_getElem? hx)
    rw [h3, h4]; rfl⟩
theorem vl_smQ {w : World} {F : Nat → Prop} {e k c n : Nat} {id : Dig} {a : Option Addr} {css : List (List Value)} (h4 : ∀ x ∈ css, List.length x = 4) (h : stars [rowR e 4 a k c css.flatten, ElR RdSigned css (List.replicate k sgE)] w F) :
    stars [VlR RdQC (smQ id n a k c) ⟨1, n, id, List.replicate k sgE⟩] w F := by
  have hk : k ≤ c := by obtain ⟨_, _, h1, _⟩ := h; exact h1.2.1
  exact vl_qc hk (ls_of h4 h)
theorem rep_snoc (k : Nat) : List.replicate k sgE ++ [sgE] = List.replicate (k + 1) sgE := by rw [List.replicate_succ']

attribute [local irreducible] Gl Gc Gx Gs Runs Wt

attribute [local irreducible] dc RdRec RdBlock RdQC RdSigned blkC qcC allE smL smQ idOf

set_option maxHeartbeats 400000 in
theorem small_ok {w : World} {F : Nat → Prop} {i v : Int} {tx : UInt8} (h : stars [] w F) {ea : Nat → Addr} {es : List Nat} [Has es 1] (hE : GErr es w (fun k => ¬ F k) 340 ea) (hK : KR w (fun k => ¬ F k))  :
    Calls Tryz.prog 43 #[.int .i64 i, B8 tx, .int .i64 v] w (Post w F (fun x : List Value × List Value => .agg (x.1 ++ x.2).toArray) (fun x => [pureR ((x.1.length = 39 ∧ ∀ v ∈ x.1, v.oneCell' = true) ∧ x.2.length = 19 ∧ ∀ v ∈ x.2, v.oneCell' = true), VlR RdBlock x.1 (smR (rndU i) tx (vts v)).b, VlR RdQC x.2 (smR (rndU i) tx (vts v)).c])) := by
  have hrn := rnd_lt i
  have hvt := vts_lt v
  refine g_enter (env := [(0, .int .i64 i), (1, B8 tx), (2, .int .i64 v)]) Tryz.func43 rfl h Tryz.ntmps43 rfl rfl ?_
  refine gsr ?_
  refine zal fun b6 => ?_
  refine gl_eqc (cs' := rec0) (by repeat (first | exact Pick.here | apply Pick.there)) (by kernel_rfl) ?_
  refine gnt ?_
  refine gsr ?_
  refine gp zmv ?_
  refine gp zci ?_
  refine gp (r_int (j := (rndU i : Int)) zrm (rndU_eq i)) ?_
  refine gp (r_int (j := (rndU i : Int)) zci (wrap_i64 (by omega) (by omega))) ?_
  refine gp zmv ?_
  refine ze1 fun b16 => ?_
  refine ze1 fun b17 => ?_
  refine gp zbu ?_
  refine zal fun b7 => ?_
  refine zsN ?_
  refine gl_eqc (cs' := smL b17 (rndU i)) (by repeat (first | exact Pick.here | apply Pick.there)) (by kernel_rfl) ?_
  have i7 := Len.of (smL_len b17 (rndU i))
  have j7 := One.of (smL_one b17 (rndU i))
  refine gnt ?_
  refine gsr ?_
  refine gp (zLa (cs := smL b17 (rndU i))) ?_
  refine zc (fun _ => ?_) (c := fun w1 F1 F2 h1 h2 hd hst => id_ok (x := smB (rndU i) tx) h1 (hE.mv hst.still) (hK.mv hst.still) (rd_smL (rd_row h2 hd (by repeat (first | exact Pick.here | apply Pick.there))) (rd_row h2 hd (by repeat (first | exact Pick.here | apply Pick.there)))))
  refine gp zmv ?_
  refine gp zex ?_
  refine gp zex ?_
  refine zal fun b8 => ?_
  refine zsN ?_
  refine gp zas ?_
  refine gnt ?_
  refine gsr ?_
  refine gp zfa ?_
  refine gp (zl (v := .int .i64 (rndU i : Int)) (hv := smL_at _ _)) ?_
  refine gp zL ?_
  refine gp zbu ?_
  refine zal fun b10 => ?_
  refine zsN ?_
  refine gl_eqc (cs' := smQ (idOf (smB (rndU i) tx)) (rndU i) none 0 0) (by repeat (first | exact Pick.here | apply Pick.there)) (by kernel_rfl) ?_
  refine gnt ?_
  refine gc_seq ?_
  refine gsr ?_
  refine gp zmv ?_
  refine gp zci ?_
  refine gp (r_int (j := (vts v : Int)) zrm (vts_eq v)) ?_
  refine gp (r_int (j := (vts v : Int)) zci (wrap_i64 (by omega) (by omega))) ?_
  refine gp zmv ?_
  refine gnt ?_
  refine gc_block ?_
  refine gc_loop (α := Nat × Option Addr × Nat × List (List Value)) (fun y => [pureR (y.1 ≤ vts v ∧ ∀ c ∈ y.2.2.2, List.length c = 4), blk b10 26 (smQ (idOf (smB (rndU i) tx)) (rndU i) y.2.1 y.1 y.2.2.1), rowR 140 4 y.2.1 y.1 y.2.2.1 y.2.2.2.flatten, ElR RdSigned y.2.2.2 (List.replicate y.1 sgE), blk b7 30 (smL b17 (rndU i)), rowR 86 1 (some ⟨b17, 0, none⟩) 1 1 [.slice (some ⟨b16, 0, none⟩) 1 1], rowR 5 1 (some ⟨b16, 0, none⟩) 1 1 [B8 tx], blk b6 97 rec0]) (fun y => [(32, .int .i64 (y.1 : Int))]) [33, 34, 35, 36, 37, 38, 39, 40, 41, 42] (fun y => vts v - y.1) (0, none, 0, []) ?_ ?_ ?_
  · refine env_start (by kernel_rfl)
  · intro w' hw
    have hw := St.mapL hw (fun F' hF' => el_nil (rd := RdSigned) hF')
    exact St.pureI ⟨Nat.zero_le _, by simp⟩ ((hw.rowNil (e := 140) (size := 4)).sel (by repeat (first | exact Sel.nil | (apply Sel.cons; · (repeat (first | exact Pick.here | apply Pick.there))))))
  · intro y u
    obtain ⟨k, a, c, css⟩ := y
    refine gc_pureR (fun hk => ?_)
    obtain ⟨hk, hcs⟩ := hk
    replace hk : k ≤ vts v := hk
    replace hcs : ∀ x ∈ css, List.length x = 4 := hcs
    refine gsr ?_
    refine gp zlt ?_
    refine gnt ?_
    refine gc_seq ?_
    refine gif rfl (fun hc33 => ?_) (fun hc33 => ?_)
    · try simp only at hc33
      have hk' : k < vts v := by omega
      have i10 := Len.of (smQ_len (idOf (smB (rndU i) tx)) (rndU i) a k c)
      refine gc_skip ?_
      refine gx_then ?_
      refine gc_seq ?_
      refine gc_block ?_
      refine gc_regionU 7 ([blk b10 26 (smQ (idOf (smB (rndU i) tx)) (rndU i) a k c)]) ?_
      refine ypu 0 rfl zfa ?_
      refine ypu 1 rfl (zl (v := .slice a k c) (hv := smQ_at _ _ _ _ _)) ?_
      refine you 2 rfl ?_
      refine gl_mkN (m := 5) (z := .agg (List.replicate 16 (Value.int .u8 0)).toArray) (wt0 rfl) ELT.h (by kernel_rfl) rfl rfl (by omega) (by omega) (by omega) (fun b36 => ?_)
      refine gl_eqc (cs' := (List.replicate 5 (dc dig0)).flatten) (by repeat (first | exact Pick.here | apply Pick.there)) (by kernel_rfl) ?_
      refine yxu ?_
      refine ypu 3 rfl zbu ?_
      refine ypu 4 rfl zbu ?_
      refine you 5 rfl ?_
      refine zeN fun b39 => ?_
      refine yxu ?_
      refine you 6 rfl ?_
      refine zapo (news := sgL b36) (h1 := all_cons' rfl (all_cons' rfl (all_cons' rfl (all_cons' rfl all_nil')))) (fun a40 c40 => ?_)
      refine yxu ?_
      refine yzu ?_
      refine gp zfa ?_
      refine zs1 ?_
      refine gl_eqc (g := b10) (cs' := smQ (idOf (smB (rndU i) tx)) (rndU i) a40 (k + 1) c40) (by repeat (first | exact Pick.here | apply Pick.there)) (by exact smQ_upd _ _ a a40 k c (k + 1) c40) ?_
      refine gl_nil ?_
      refine gx_block_normal ?_
      refine gx_then ?_
      refine gc_region ?_
      refine gp zad ?_
      refine gp zmv ?_
      refine gl_nil ?_
      refine zrd ((k + 1, a40, c40, css ++ [sgL b36])) ?_ ?_
      · show vts v - (k + 1) < vts v - k
        omega
      · intro w' hw
        have h1 := hw.conv (M := [blk b36 23 (List.replicate 5 (dc dig0)).flatten]) (by repeat (first | exact Sel.nil | (apply Sel.cons; · (repeat (first | exact Pick.here | apply Pick.there))))) (fun _ _ => vl_sgL)
        have h2 := h1.conv (M := [ElR RdSigned css (List.replicate k sgE), VlR RdSigned (sgL b36) sgE]) (by repeat (first | exact Sel.nil | (apply Sel.cons; · (repeat (first | exact Pick.here | apply Pick.there))))) (fun _ _ => el_snoc)
        rw [rep_snoc] at h2
        refine St.pureI ⟨show k + 1 ≤ vts v by omega, fun x hx => (by rcases List.mem_append.1 hx with h | h; exact hcs x h; (simp at h; subst h; rfl))⟩ ?_
        rw [show (css ++ [sgL b36]).flatten = css.flatten ++ sgL b36 by simp]
        exact h2.sel (by repeat (first | exact Sel.nil | (apply Sel.cons; · (repeat (first | exact Pick.here | apply Pick.there)))))
    · try simp only at hc33
      have hk' : k = vts v := by omega
      subst hk'
      refine gc_exit ?_
      refine gx_then_exit ?_
      refine gx_round_exit ?_
      refine gx_block_hit ?_
      refine gx_then ?_
      refine gsr ?_
      have i10 := Len.of (smQ_len (idOf (smB (rndU i) tx)) (rndU i) a (vts v) c)
      have j10 := One.of (smQ_one (idOf (smB (rndU i) tx)) (rndU i) a (vts v) c)
      refine gp (zLa (cs := smL b17 (rndU i))) ?_
      refine gp (zLa (cs := smQ (idOf (smB (rndU i) tx)) (rndU i) a (vts v) c)) ?_
      refine gp zbu ?_
      refine zsN ?_
      refine gnt ?_
      refine gc_ret ?_
      refine gx_retc rfl rfl (ld_aggS Ty.row_97 Ty.sz_97 (by repeat (first | exact Pick.here | apply Pick.there)) (by (simp only [List.drop_succ_cons, List.drop_zero, List.take_succ_cons, List.take_zero, List.cons_append, List.nil_append, List.append_assoc, drop_dc, drop_dc', take_dc, take_dc', drop_L, drop_L', take_L, take_L', len_L, Nat.reduceLeDiff, Nat.reduceSub, Nat.reduceAdd, Nat.le_refl, List.length_cons, List.length_append, List.length_nil, dc_length, List.drop_nil, List.take_nil, List.append_nil, List.length_map, List.length_replicate]; first | done | rfl)) (by first | rfl | (simp only [List.drop_succ_cons, List.drop_zero, List.take_succ_cons, List.take_zero, List.cons_append, List.nil_append, List.append_assoc, drop_dc, drop_dc', take_dc, take_dc', drop_L, drop_L', take_L, take_L', len_L, Nat.reduceLeDiff, Nat.reduceSub, Nat.reduceAdd, Nat.le_refl, List.length_cons, List.length_append, List.length_nil, dc_length, List.drop_nil, List.take_nil, List.append_nil, List.length_map, List.length_replicate]; first | done | omega))) ?_
      intro w' hw
      have h1 := hw.conv (M := [rowR 86 1 (some ⟨b17, 0, none⟩) 1 1 [.slice (some ⟨b16, 0, none⟩) 1 1], rowR 5 1 (some ⟨b16, 0, none⟩) 1 1 [B8 tx]]) (by repeat (first | exact Sel.nil | (apply Sel.cons; · (repeat (first | exact Pick.here | apply Pick.there))))) (fun _ _ => vl_smL (n := rndU i))
      have h2 := h1.conv (M := [rowR 140 4 a (vts v) c css.flatten, ElR RdSigned css (List.replicate (vts v) sgE)]) (by repeat (first | exact Sel.nil | (apply Sel.cons; · (repeat (first | exact Pick.here | apply Pick.there))))) (fun _ _ => vl_smQ (id := idOf (smB (rndU i) tx)) (n := rndU i) hcs)
      exact ⟨(smL b17 (rndU i), smQ (idOf (smB (rndU i) tx)) (rndU i) a (vts v) c), rfl, St.pureI ⟨⟨smL_len _ _, smL_one _ _⟩, smQ_len _ _ _ _ _, smQ_one _ _ _ _ _⟩ (h2.sel (by repeat (first | exact Sel.nil | (apply Sel.cons; · (repeat (first | exact Pick.here | apply Pick.there))))))⟩

end Go.Proofs.YtobjojeliibinaaGreatDoor

/- Walks, by program (wg.py) out of a spec. -/
namespace Go.Proofs.YtobjojeliibinaaGreatDoor
open Go
set_option linter.unusedVariables false
set_option linter.unusedSimpArgs false


theorem take_eq_succ {α : Type} {l m : List α} {k : Nat} {x : α} (h : l.take k = m.take k) (h1 : l[k]? = some x) (h2 : m[k]? = some x) : l.take (k + 1) = m.take (k + 1) := by
  rw [List.take_add_one, List.take_add_one, h, h1, h2]
theorem range_left {w : World} {g o : Nat} {xs ys : List Value} (h : w.rangeAt g o (xs ++ ys)) : w.rangeAt g o xs := fun j v hj => h j v (by
  rw [List.getElem?_append_left (List.getElem?_eq_some_iff.1 hj).1]; exact hj)
theorem range_right {w : World} {g o : Nat} {xs ys : List Value} (h : w.rangeAt g o (xs ++ ys)) : w.rangeAt g (o + xs.length) ys := fun j v hj => by
  have := h (xs.length + j) v (by rw [List.getElem?_append_right (by omega)]; simpa using hj)
  rwa [← Nat.add_assoc] at this
theorem range_at {w : World} {g o : Nat} {xs : List Value} (h : w.rangeAt g o xs) {j : Nat} {v : Value} (hj : xs[j]? = some v) : w.cell? ⟨g, o + j, none⟩ = some v := h j v hj

attribute [local irreducible] Gl Gc Gx Gs Runs Wt

set_option maxHeartbeats 400000 in
theorem sameDigs_ok {w : World} {F : Nat → Prop} {n1 c1 n2 c2 : Nat} {a1 a2 : Option Addr} {l1 l2 : List Dig} (h : stars [] w F) (hx : RdList (RdDig) w (fun k => ¬ F k) 16 a1 n1 l1) (hy : RdList (RdDig) w (fun k => ¬ F k) 16 a2 n2 l2) :
    Calls Tryz.prog 65 #[.slice a1 n1 c1, .slice a2 n2 c2] w (Post w F (fun _ : Unit => .bool (decide (l1 = l2))) (fun _ => [])) := by
  have hn1 := hx.len (by decide)
  have hn2 := hy.len (by decide)
  have hm1 := hx.max
  simp only [maxLen] at hm1
  refine g_enter (env := [(0, .slice a1 n1 c1), (1, .slice a2 n2 c2)]) Tryz.func65 rfl h Tryz.ntmps65 rfl rfl ?_
  refine gsr ?_
  refine gp zas ?_
  refine gnt ?_
  refine gc_seq ?_
  refine gsr ?_
  refine gp zmv ?_
  refine gp zln ?_
  refine gp zmv ?_
  refine gp zln ?_
  refine gp zni ?_
  refine gnt ?_
  refine gif rfl (fun hc10 => ?_) (fun hc10 => ?_)
  · refine gsr ?_
    refine gp zas ?_
    refine gnt ?_
    refine gc_ret ?_
    refine gx_then_ret ?_
    refine gx_ret1 rfl (by conv => lhs; whnf) ?_
    have e : decide (l1 = l2) = false := decide_eq_false (fun h => by rw [h] at hn1; (try simp only at hc10); omega)
    rw [e]
    exact ze ()
  · have hnn : n1 = n2 := by (try simp only at hc10); omega
    refine gc_skip ?_
    refine gx_then ?_
    refine gc_seq ?_
    refine gsr ?_
    refine gp zmv ?_
    refine gp zln ?_
    refine gp zmv ?_
    refine gnt ?_
    refine gc_block ?_
    refine gc_loop (α := Nat) (fun k => [pureR (k ≤ n1 ∧ l1.take k = l2.take k)]) (fun k => [(13, .int .i64 (k : Int))]) [4, 5, 14, 15, 16, 17, 18, 19, 20, 21, 22, 23, 24, 25] (fun k => n1 - k) 0 ?_ ?_ ?_
    · refine env_start (by kernel_rfl)
    · rintro w' hw
      obtain ⟨F', hF', hst'⟩ := hw.sel (M := []) (by repeat (first | exact Sel.nil | (apply Sel.cons; · (repeat (first | exact Pick.here | apply Pick.there)))))
      exact ⟨F', stars_pure_mk ⟨Nat.zero_le _, rfl⟩ hF', hst'⟩
    · intro k u
      refine gc_pureR (fun hk => ?_)
      replace hk : k ≤ n1 ∧ l1.take k = l2.take k := hk
      refine gsr ?_
      refine gp zlt ?_
      refine gnt ?_
      refine gc_seq ?_
      refine gif rfl (fun hc14 => ?_) (fun hc14 => ?_)
      · have hk' : k < n1 := by (try simp only at hc14); omega
        obtain ⟨g1, o1, cs1, x, ha1, hA1, hg1, hra1, hcl1, hl1, hrd1⟩ := hx.elem (by decide) hk'
        obtain ⟨g2, o2, cs2, y, ha2, hA2, hg2, hra2, hcl2, hl2, hrd2⟩ := hy.elem (i := k) (by decide) (by omega)
        subst ha1
        subst ha2
        unfold RdDig at hrd1 hrd2
        subst hrd1
        subst hrd2
        refine gc_skip ?_
        refine gx_then ?_
        refine gc_seq ?_
        refine gc_block ?_
        refine gsr ?_
        refine gp zmv ?_
        refine gp zas ?_
        refine gnt ?_
        refine gc_seq ?_
        refine gc_regionS (by kernel_rfl) (by kernel_rfl) ?_
        refine sp zmv ?_
        refine sp zmv ?_
        refine sp (r_indexAddr_slice rfl rfl Ty.sl_52 Ty.sz_23 (by omega) (by omega)) ?_
        refine sp (r_ldNo rfl Ty.row_23 Ty.sz_23 hra1 hcl1 (by decide) hA1) ?_
        refine sp zmv ?_
        refine sp zmv ?_
        refine sp (r_indexAddr_slice rfl rfl Ty.sl_52 Ty.sz_23 (by omega) (by omega)) ?_
        refine sp (r_ldNo rfl Ty.row_23 Ty.sz_23 hra2 hcl2 (by decide) hA2) ?_
        refine sp znd ?_
        refine gs_nil ?_
        refine gx_then ?_
        refine gif rfl (fun hc24 => ?_) (fun hc24 => ?_)
        · refine gsr ?_
          refine gp zas ?_
          refine gnt ?_
          refine gc_ret ?_
          refine gx_block_ret ?_
          refine gx_then_ret ?_
          refine gx_round_ret ?_
          refine gx_block_ret ?_
          refine gx_then_ret ?_
          refine gx_ret1 rfl (by conv => lhs; whnf) ?_
          have e : decide (l1 = l2) = false := decide_eq_false (fun h => by rw [h, hl2] at hl1; exact hc24 (Option.some.inj hl1).symm)
          rw [e]
          exact ze ()
        · refine gc_skip ?_
          refine gx_block_normal ?_
          refine gx_then ?_
          refine gc_region ?_
          refine gp zad ?_
          refine gp zmv ?_
          refine gl_nil ?_
          refine zrd (k + 1) ?_ ?_
          · show n1 - (k + 1) < n1 - k
            omega
          · rintro w' hw
            obtain ⟨F', hF', hst'⟩ := hw.sel (M := []) (by repeat (first | exact Sel.nil | (apply Sel.cons; · (repeat (first | exact Pick.here | apply Pick.there)))))
            refine ⟨F', stars_pure_mk ⟨show k + 1 ≤ n1 by omega, ?_⟩ hF', hst'⟩
            have hxy : x = y := hc24
            subst hxy
            exact take_eq_succ hk.2 hl1 hl2
      · refine gc_exit ?_
        refine gx_then_exit ?_
        refine gx_round_exit ?_
        refine gx_block_hit ?_
        refine gx_then ?_
        refine gsr ?_
        refine gp zas ?_
        refine gnt ?_
        refine gc_ret ?_
        refine gx_ret1 rfl (by conv => lhs; whnf) ?_
        have e : decide (l1 = l2) = true := decide_eq_true (by have h1 := hk.2; have hk' : k = n1 := (by (try simp only at hc14); omega); rw [List.take_of_length_le (by omega), List.take_of_length_le (by omega)] at h1; exact h1)
        rw [e]
        exact ze ()

set_option maxHeartbeats 400000 in
theorem sameLists_ok {w : World} {F : Nat → Prop} {n1 c1 n2 c2 : Nat} {a1 a2 : Option Addr} {l1 l2 : List (List UInt8)} (h : stars [] w F) (hx : RdList (RdBytes w (fun k => ¬ F k)) w (fun k => ¬ F k) 1 a1 n1 l1) (hy : RdList (RdBytes w (fun k => ¬ F k)) w (fun k => ¬ F k) 1 a2 n2 l2) :
    Calls Tryz.prog 121 #[.slice a1 n1 c1, .slice a2 n2 c2] w (Post w F (fun _ : Unit => .bool (decide (l1 = l2))) (fun _ => [])) := by
  have hn1 := hx.len (by decide)
  have hn2 := hy.len (by decide)
  have hm1 := hx.max
  simp only [maxLen] at hm1
  refine g_enter (env := [(0, .slice a1 n1 c1), (1, .slice a2 n2 c2)]) Tryz.func121 rfl h Tryz.ntmps121 rfl rfl ?_
  refine gsr ?_
  refine gp zas ?_
  refine gnt ?_
  refine gc_seq ?_
  refine gsr ?_
  refine gp zmv ?_
  refine gp zln ?_
  refine gp zmv ?_
  refine gp zln ?_
  refine gp zni ?_
  refine gnt ?_
  refine gif rfl (fun hc10 => ?_) (fun hc10 => ?_)
  · refine gsr ?_
    refine gp zas ?_
    refine gnt ?_
    refine gc_ret ?_
    refine gx_then_ret ?_
    refine gx_ret1 rfl (by conv => lhs; whnf) ?_
    have e : decide (l1 = l2) = false := decide_eq_false (fun h => by rw [h] at hn1; (try simp only at hc10); omega)
    rw [e]
    exact ze ()
  · have hnn : n1 = n2 := by (try simp only at hc10); omega
    refine gc_skip ?_
    refine gx_then ?_
    refine gc_seq ?_
    refine gsr ?_
    refine gp zmv ?_
    refine gp zln ?_
    refine gp zmv ?_
    refine gnt ?_
    refine gc_block ?_
    refine gc_loop (α := Nat) (fun k => [pureR (k ≤ n1 ∧ l1.take k = l2.take k)]) (fun k => [(13, .int .i64 (k : Int))]) [4, 5, 14, 15, 16, 17, 18, 19, 20, 21, 22, 23, 24, 25, 26, 27] (fun k => n1 - k) 0 ?_ ?_ ?_
    · refine env_start (by kernel_rfl)
    · rintro w' hw
      obtain ⟨F', hF', hst'⟩ := hw.sel (M := []) (by repeat (first | exact Sel.nil | (apply Sel.cons; · (repeat (first | exact Pick.here | apply Pick.there)))))
      exact ⟨F', stars_pure_mk ⟨Nat.zero_le _, rfl⟩ hF', hst'⟩
    · intro k u
      refine gc_pureR (fun hk => ?_)
      replace hk : k ≤ n1 ∧ l1.take k = l2.take k := hk
      refine gsr ?_
      refine gp zlt ?_
      refine gnt ?_
      refine gc_seq ?_
      refine gif rfl (fun hc14 => ?_) (fun hc14 => ?_)
      · have hk' : k < n1 := by (try simp only at hc14); omega
        obtain ⟨g1, o1, cs1, x, ha1, hA1, hg1, hra1, hcl1, hl1, hrd1⟩ := hx.elem (by decide) hk'
        obtain ⟨g2, o2, cs2, y, ha2, hA2, hg2, hra2, hcl2, hl2, hrd2⟩ := hy.elem (i := k) (by decide) (by omega)
        subst ha1
        subst ha2
        obtain ⟨a1', n1', c1', rfl, hn1', hb1⟩ := hrd1
        obtain ⟨a2', n2', c2', rfl, hn2', hb2⟩ := hrd2
        refine gc_skip ?_
        refine gx_then ?_
        refine gc_seq ?_
        refine gc_block ?_
        refine gsr ?_
        refine gp zmv ?_
        refine gp zas ?_
        refine gnt ?_
        refine gc_seq ?_
        refine gc_regionS (by kernel_rfl) (by kernel_rfl) ?_
        refine sp zmv ?_
        refine sp zmv ?_
        refine sp (r_indexAddr_slice rfl rfl Ty.sl_27 Ty.sz_86 (by omega) (by omega)) ?_
        refine sp (r_ld1o rfl Ty.row_86 (hra1 0 _ rfl) hA1) ?_
        refine sp (r_str rfl Ty.sl_86 Ty.un_5 (by kernel_rfl) (fun w hw => hw.rdOld hb1)) ?_
        refine sp zmv ?_
        refine sp zmv ?_
        refine sp (r_indexAddr_slice rfl rfl Ty.sl_27 Ty.sz_86 (by omega) (by omega)) ?_
        refine sp (r_ld1o rfl Ty.row_86 (hra2 0 _ rfl) hA2) ?_
        refine sp (r_str rfl Ty.sl_86 Ty.un_5 (by kernel_rfl) (fun w hw => hw.rdOld hb2)) ?_
        refine sp zns ?_
        refine gs_nil ?_
        refine gx_then ?_
        refine gif rfl (fun hc26 => ?_) (fun hc26 => ?_)
        · refine gsr ?_
          refine gp zas ?_
          refine gnt ?_
          refine gc_ret ?_
          refine gx_block_ret ?_
          refine gx_then_ret ?_
          refine gx_round_ret ?_
          refine gx_block_ret ?_
          refine gx_then_ret ?_
          refine gx_ret1 rfl (by conv => lhs; whnf) ?_
          have e : decide (l1 = l2) = false := decide_eq_false (fun h => by rw [h, hl2] at hl1; exact hc26 (Option.some.inj hl1).symm)
          rw [e]
          exact ze ()
        · refine gc_skip ?_
          refine gx_block_normal ?_
          refine gx_then ?_
          refine gc_region ?_
          refine gp zad ?_
          refine gp zmv ?_
          refine gl_nil ?_
          refine zrd (k + 1) ?_ ?_
          · show n1 - (k + 1) < n1 - k
            omega
          · rintro w' hw
            obtain ⟨F', hF', hst'⟩ := hw.sel (M := []) (by repeat (first | exact Sel.nil | (apply Sel.cons; · (repeat (first | exact Pick.here | apply Pick.there)))))
            refine ⟨F', stars_pure_mk ⟨show k + 1 ≤ n1 by omega, ?_⟩ hF', hst'⟩
            have hxy : x = y := hc26
            subst hxy
            exact take_eq_succ hk.2 hl1 hl2
      · refine gc_exit ?_
        refine gx_then_exit ?_
        refine gx_round_exit ?_
        refine gx_block_hit ?_
        refine gx_then ?_
        refine gsr ?_
        refine gp zas ?_
        refine gnt ?_
        refine gc_ret ?_
        refine gx_ret1 rfl (by conv => lhs; whnf) ?_
        have e : decide (l1 = l2) = true := decide_eq_true (by have h1 := hk.2; have hk' : k = n1 := (by (try simp only at hc14); omega); rw [List.take_of_length_le (by omega), List.take_of_length_le (by omega)] at h1; exact h1)
        rw [e]
        exact ze ()

set_option maxHeartbeats 400000 in
theorem sameVdrs_ok {w : World} {F : Nat → Prop} {n1 c1 n2 c2 : Nat} {a1 a2 : Option Addr} {l1 l2 : List Vdr} (h : stars [] w F) (hx : RdList (RdVdr) w (fun k => ¬ F k) 17 a1 n1 l1) (hy : RdList (RdVdr) w (fun k => ¬ F k) 17 a2 n2 l2) :
    Calls Tryz.prog 122 #[.slice a1 n1 c1, .slice a2 n2 c2] w (Post w F (fun _ : Unit => .bool (decide (l1 = l2))) (fun _ => [])) := by
  have hn1 := hx.len (by decide)
  have hn2 := hy.len (by decide)
  have hm1 := hx.max
  simp only [maxLen] at hm1
  refine g_enter (env := [(0, .slice a1 n1 c1), (1, .slice a2 n2 c2)]) Tryz.func122 rfl h Tryz.ntmps122 rfl rfl ?_
  refine gsr ?_
  refine gp zas ?_
  refine gnt ?_
  refine gc_seq ?_
  refine gsr ?_
  refine gp zmv ?_
  refine gp zln ?_
  refine gp zmv ?_
  refine gp zln ?_
  refine gp zni ?_
  refine gnt ?_
  refine gif rfl (fun hc10 => ?_) (fun hc10 => ?_)
  · refine gsr ?_
    refine gp zas ?_
    refine gnt ?_
    refine gc_ret ?_
    refine gx_then_ret ?_
    refine gx_ret1 rfl (by conv => lhs; whnf) ?_
    have e : decide (l1 = l2) = false := decide_eq_false (fun h => by rw [h] at hn1; (try simp only at hc10); omega)
    rw [e]
    exact ze ()
  · have hnn : n1 = n2 := by (try simp only at hc10); omega
    refine gc_skip ?_
    refine gx_then ?_
    refine gc_seq ?_
    refine gsr ?_
    refine gp zmv ?_
    refine gp zln ?_
    refine gp zmv ?_
    refine gnt ?_
    refine gc_block ?_
    refine gc_loop (α := Nat) (fun k => [pureR (k ≤ n1 ∧ l1.take k = l2.take k)]) (fun k => [(13, .int .i64 (k : Int))]) [4, 5, 14, 15, 16, 17, 18, 19, 20, 21, 22, 23, 24, 25, 26, 27, 28, 29, 30, 31, 32, 33, 34, 35, 36, 37, 38, 39, 40] (fun k => n1 - k) 0 ?_ ?_ ?_
    · refine env_start (by kernel_rfl)
    · rintro w' hw
      obtain ⟨F', hF', hst'⟩ := hw.sel (M := []) (by repeat (first | exact Sel.nil | (apply Sel.cons; · (repeat (first | exact Pick.here | apply Pick.there)))))
      exact ⟨F', stars_pure_mk ⟨Nat.zero_le _, rfl⟩ hF', hst'⟩
    · intro k u
      refine gc_pureR (fun hk => ?_)
      replace hk : k ≤ n1 ∧ l1.take k = l2.take k := hk
      refine gsr ?_
      refine gp zlt ?_
      refine gnt ?_
      refine gc_seq ?_
      refine gif rfl (fun hc14 => ?_) (fun hc14 => ?_)
      · have hk' : k < n1 := by (try simp only at hc14); omega
        obtain ⟨g1, o1, cs1, x, ha1, hA1, hg1, hra1, hcl1, hl1, hrd1⟩ := hx.elem (by decide) hk'
        obtain ⟨g2, o2, cs2, y, ha2, hA2, hg2, hra2, hcl2, hl2, hrd2⟩ := hy.elem (i := k) (by decide) (by omega)
        subst ha1
        subst ha2
        unfold RdVdr at hrd1 hrd2
        subst hrd1
        subst hrd2
        refine gc_skip ?_
        refine gx_then ?_
        refine gc_seq ?_
        refine gc_block ?_
        refine gsr ?_
        refine gp zmv ?_
        refine gp zas ?_
        refine gnt ?_
        refine gc_seq ?_
        by_cases hsp6 : x.key = y.key
        · refine gc_regionS (by kernel_rfl) (by kernel_rfl) ?_
          refine sp zmv ?_
          refine sp zmv ?_
          refine sp (r_indexAddr_slice rfl rfl Ty.sl_28 Ty.sz_159 (by omega) (by omega)) ?_
          refine sp zfa ?_
          refine sp (r_ldNo rfl Ty.row_23 Ty.sz_23 (range_left hra1) (dc_length _) (by decide) hA1) ?_
          refine sp zmv ?_
          refine sp zmv ?_
          refine sp (r_indexAddr_slice rfl rfl Ty.sl_28 Ty.sz_159 (by omega) (by omega)) ?_
          refine sp zfa ?_
          refine sp (r_ldNo rfl Ty.row_23 Ty.sz_23 (range_left hra2) (dc_length _) (by decide) hA2) ?_
          refine sp (r_bool (b := !decide (x.key = y.key)) (c := false) (r_neq_dig rfl rfl Ty.arr_23 Ty.un_5 Ty.sz_5 (by kernel_rfl)) (by simp [hsp6])) ?_
          refine sp zmv ?_
          refine sq zmv ?_
          refine sq zmv ?_
          refine sq (r_indexAddr_slice rfl rfl Ty.sl_28 Ty.sz_159 (by omega) (by omega)) ?_
          refine sq zfa ?_
          refine sq (r_ld1o rfl Ty.row_3 (range_at hra1 (j := 16) (by first | rfl | (simp only [List.getElem?_cons_succ, List.getElem?_cons_zero, List.cons_append, List.append_assoc, get_dc, get_L, Nat.reduceLeDiff, Nat.reduceSub, Nat.reduceAdd, Nat.le_refl]; rfl))) hA1) ?_
          refine sq zmv ?_
          refine sq zmv ?_
          refine sq (r_indexAddr_slice rfl rfl Ty.sl_28 Ty.sz_159 (by omega) (by omega)) ?_
          refine sq zfa ?_
          refine sq (r_ld1o rfl Ty.row_3 (range_at hra2 (j := 16) (by first | rfl | (simp only [List.getElem?_cons_succ, List.getElem?_cons_zero, List.cons_append, List.append_assoc, get_dc, get_L, Nat.reduceLeDiff, Nat.reduceSub, Nat.reduceAdd, Nat.le_refl]; rfl))) hA2) ?_
          refine sq zni ?_
          refine sp zpk ?_
          refine gs_nil ?_
          refine gx_then ?_
          refine gif rfl (fun hc39 => ?_) (fun hc39 => ?_)
          · refine gsr ?_
            refine gp zas ?_
            refine gnt ?_
            refine gc_ret ?_
            refine gx_block_ret ?_
            refine gx_then_ret ?_
            refine gx_round_ret ?_
            refine gx_block_ret ?_
            refine gx_then_ret ?_
            refine gx_ret1 rfl (by conv => lhs; whnf) ?_
            have e : decide (l1 = l2) = false := decide_eq_false (fun h => by rw [h, hl2] at hl1; exact hc39 (by rw [Option.some.inj hl1]))
            rw [e]
            exact ze ()
          · refine gc_skip ?_
            refine gx_block_normal ?_
            refine gx_then ?_
            refine gc_region ?_
            refine gp zad ?_
            refine gp zmv ?_
            refine gl_nil ?_
            refine zrd (k + 1) ?_ ?_
            · show n1 - (k + 1) < n1 - k
              omega
            · rintro w' hw
              obtain ⟨F', hF', hst'⟩ := hw.sel (M := []) (by repeat (first | exact Sel.nil | (apply Sel.cons; · (repeat (first | exact Pick.here | apply Pick.there)))))
              refine ⟨F', stars_pure_mk ⟨show k + 1 ≤ n1 by omega, ?_⟩ hF', hst'⟩
              have hxy : x = y := by (try simp only at hc39); cases x; cases y; simp_all
              subst hxy
              exact take_eq_succ hk.2 hl1 hl2
        · refine gc_regionS (by kernel_rfl) (by kernel_rfl) ?_
          refine sp zmv ?_
          refine sp zmv ?_
          refine sp (r_indexAddr_slice rfl rfl Ty.sl_28 Ty.sz_159 (by omega) (by omega)) ?_
          refine sp zfa ?_
          refine sp (r_ldNo rfl Ty.row_23 Ty.sz_23 (range_left hra1) (dc_length _) (by decide) hA1) ?_
          refine sp zmv ?_
          refine sp zmv ?_
          refine sp (r_indexAddr_slice rfl rfl Ty.sl_28 Ty.sz_159 (by omega) (by omega)) ?_
          refine sp zfa ?_
          refine sp (r_ldNo rfl Ty.row_23 Ty.sz_23 (range_left hra2) (dc_length _) (by decide) hA2) ?_
          refine sp (r_bool (b := !decide (x.key = y.key)) (c := true) (r_neq_dig rfl rfl Ty.arr_23 Ty.un_5 Ty.sz_5 (by kernel_rfl)) (by simp [hsp6])) ?_
          refine sp zmv ?_
          refine sn ?_
          refine sn ?_
          refine sn ?_
          refine sn ?_
          refine sn ?_
          refine sn ?_
          refine sn ?_
          refine sn ?_
          refine sn ?_
          refine sn ?_
          refine sn ?_
          refine sp zpk ?_
          refine gs_nil ?_
          refine gx_then ?_
          refine gc_condT rfl rfl ?_
          refine gsr ?_
          refine gp zas ?_
          refine gnt ?_
          refine gc_ret ?_
          refine gx_block_ret ?_
          refine gx_then_ret ?_
          refine gx_round_ret ?_
          refine gx_block_ret ?_
          refine gx_then_ret ?_
          refine gx_ret1 rfl (by conv => lhs; whnf) ?_
          have e : decide (l1 = l2) = false := decide_eq_false (fun h => by rw [h, hl2] at hl1; exact hsp6 (by rw [Option.some.inj hl1]))
          rw [e]
          exact ze ()
      · refine gc_exit ?_
        refine gx_then_exit ?_
        refine gx_round_exit ?_
        refine gx_block_hit ?_
        refine gx_then ?_
        refine gsr ?_
        refine gp zas ?_
        refine gnt ?_
        refine gc_ret ?_
        refine gx_ret1 rfl (by conv => lhs; whnf) ?_
        have e : decide (l1 = l2) = true := decide_eq_true (by have h1 := hk.2; have hk' : k = n1 := (by (try simp only at hc14); omega); rw [List.take_of_length_le (by omega), List.take_of_length_le (by omega)] at h1; exact h1)
        rw [e]
        exact ze ()

end Go.Proofs.YtobjojeliibinaaGreatDoor

