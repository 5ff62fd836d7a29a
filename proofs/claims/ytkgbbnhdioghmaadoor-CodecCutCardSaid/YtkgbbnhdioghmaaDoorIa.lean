/- Walks, by program (wg.py) out of a spec. -/
import Derived.Test.YtkgbbnhdioghmaaDoorWg
import Derived.Test.YtkgbbnhdioghmaaDoorSc
import Derived.Test.YtkgbbnhdioghmaaDoorRz
namespace Go.Proofs.YtkgbbnhdioghmaaDoor
open Go
set_option linter.unusedVariables false
set_option linter.unusedSimpArgs false


def d3 : Dig := ⟨3 :: List.replicate 15 0, rfl⟩
def aliveB : List UInt8 := 4 :: 3 :: List.replicate 31 0
theorem alive_enc : wEnc (msgOf 4 d3 dig0) = ⟨0, aliveB⟩ := by kernel_rfl
theorem alive_out : wOut ⟨0, aliveB⟩ = aliveB := rfl
theorem inj_block {x y : Block} (hx : (wBlock x ⟨0, []⟩).err = 0) (hy : (wBlock y ⟨0, []⟩).err = 0) (he : (wBlock x ⟨0, []⟩).bs = (wBlock y ⟨0, []⟩).bs) : x = y := by
  have a := pAll_enc (f := wBlock x) (enc_block x) hx
  have b := pAll_enc (f := wBlock y) (enc_block y) hy
  rw [he, b] at a
  simpa using a.symm
theorem ids_law {x y : Block} (hx : (wBlock x ⟨0, []⟩).err = 0) (hy : (wBlock y ⟨0, []⟩).err = 0) : (decide (x = y) == decide (wOut (wBlock x ⟨0, []⟩) = wOut (wBlock y ⟨0, []⟩))) = true := by
  rw [wOut, if_pos hx, wOut, if_pos hy]
  by_cases h : x = y
  · subst h; simp
  · have : ¬ (wBlock x ⟨0, []⟩).bs = (wBlock y ⟨0, []⟩).bs := fun he => h (inj_block hx hy he)
    simp [h, this]

attribute [local irreducible] Gl Gc Gx Gs Runs Wt

set_option maxHeartbeats 400000 in
theorem alive09_ok {w : World} {F : Nat → Prop} {TE : Nat} {ea : Nat → Addr} (h : stars [] w F) {es : List Nat} [Has es 1] [Has es 4] (hE : GErr es w (fun k => ¬ F k) TE ea) :
    Calls Tryd.prog 11 #[] w (Post w F (fun _ : Unit => .bool true) (fun _ => [])) := by
  refine g_enter (env := []) Tryd.func11 rfl h Tryd.ntmps11 rfl rfl ?_
  refine gsr ?_
  refine gp zas ?_
  refine gnt ?_
  refine gsr ?_
  refine gp (r_buildA (cs := dc d3) Ty.zc_23 Ty.arr_23 Ty.sz_5 (by kernel_rfl)) ?_
  refine gp (r_build (cs := dc d3 ++ dc dig0) Ty.zc_60 Ty.pl_60 (by kernel_rfl)) ?_
  refine gp (r_build (cs := msgC 4 d3 dig0) Ty.zc_67 Ty.pl_67 (by kernel_rfl)) ?_
  refine zc ?_ (c := fun w1 F1 F2 h1 h2 hd hst => encode_ok h1 (hE.mv hst.still) (rdMsgOf 4 d3 dig0))
  rintro ⟨a7, c7⟩
  rw [alive_enc, alive_out]
  refine gl_fact (p := ∃ g o, a7 = some ⟨g, o, none⟩) (fun w hw => (by obtain ⟨g, o, e, _⟩ := (hw.row (a := a7) (m := aliveB.length) (c := c7) (xs := aliveB.map B8) (by repeat (first | exact Pick.here | apply Pick.there))).2.2 (by decide); exact ⟨g, o, e⟩)) (fun ha => ?_)
  obtain ⟨g7, o7, rfl⟩ := ha
  refine gp zmv ?_
  refine gp zex ?_
  refine gp zex ?_
  refine gp zas ?_
  refine gp zas ?_
  refine gnt ?_
  refine gsr ?_
  refine gp zmv ?_
  refine gp (r_bool (c := true) (r_eqnil rfl (by kernel_rfl)) rfl) ?_
  refine gp zmv ?_
  refine gq zmv ?_
  refine gq zln ?_
  refine gq (r_bool (c := true) (r_eql_int rfl rfl) rfl) ?_
  refine gp zpk ?_
  refine gp zmv ?_
  refine gq zmv ?_
  refine gq (r_indexAddr_slice (m := aliveB.length) rfl rfl Ty.sl_33 Ty.sz_5 (by decide) (by decide)) ?_
  refine gq (r_ld1r (i := 0) (v := B8 4) rfl Ty.row_5 (by repeat (first | exact Pick.here | apply Pick.there)) rfl) ?_
  refine gq (r_bool (c := true) (r_eql_int rfl rfl) rfl) ?_
  refine gp zpk ?_
  refine gp zmv ?_
  refine gq zmv ?_
  refine gq (r_indexAddr_slice (m := aliveB.length) rfl rfl Ty.sl_33 Ty.sz_5 (by decide) (by decide)) ?_
  refine gq (r_ld1r (i := 1) (v := B8 3) rfl Ty.row_5 (by repeat (first | exact Pick.here | apply Pick.there)) rfl) ?_
  refine gq (r_bool (c := true) (r_eql_int rfl rfl) rfl) ?_
  refine gp zpk ?_
  refine gp zas ?_
  refine gnt ?_
  refine gc_ret ?_
  refine gx_ret1 rfl (by conv => lhs; whnf) ?_
  exact ze ()

set_option maxHeartbeats 400000 in
theorem codecIds_ok {w : World} {F : Nat → Prop} {TE : Nat} {ea : Nat → Addr} {cs1 cs2 : List Value} {x y : Block} (h : stars [] w F) {es : List Nat} [Has es 1] [Has es 4] (hE : GErr es w (fun k => ¬ F k) TE ea) (hK : KR w (fun k => ¬ F k)) (hx : RdBlock w (fun k => ¬ F k) cs1 x) (hy : RdBlock w (fun k => ¬ F k) cs2 y) :
    Calls Tryd.prog 3 #[.agg cs1.toArray, .agg cs2.toArray] w (Post w F (fun _ : Unit => .bool true) (fun _ => [])) := by
  have lx := hx.len
  have ly := hy.len
  refine g_enter (env := [(0, .agg cs1.toArray), (1, .agg cs2.toArray)]) Tryd.func3 rfl h Tryd.ntmps3 rfl rfl ?_
  refine gsr ?_
  refine zbN fun b2 => ?_
  refine zbN fun b3 => ?_
  refine gp zas ?_
  refine gnt ?_
  refine gc_seq ?_
  refine gsr ?_
  refine zc (fun _ => ?_) (c := fun w1 F1 F2 h1 h2 hd hst => alive09_ok h1 (hE.mv hst.still))
  refine gp znt ?_
  refine gnt ?_
  refine gc_condF rfl rfl ?_
  refine gc_skip ?_
  refine gx_then ?_
  refine gc_seq ?_
  refine gsr ?_
  refine gp (r_ldN rfl Ty.row_30 Ty.sz_30 (by repeat (first | exact Pick.here | apply Pick.there)) (seg_all lx) lx) ?_
  refine zc (fun r17 => ?_) (c := fun w1 F1 F2 h1 h2 hd hst => bigBlock_ok h1 (hx.mv hst.still))
  rcases r17 with _ | _
  · refine gp zmv ?_
    refine gq (r_ldN rfl Ty.row_30 Ty.sz_30 (by repeat (first | exact Pick.here | apply Pick.there)) (seg_all ly) ly) ?_
    refine zc (fun r20 => ?_) (c := fun w1 F1 F2 h1 h2 hd hst => bigBlock_ok h1 (hy.mv hst.still))
    refine gp zpk ?_
    refine gnt ?_
    refine gif rfl (fun hc21 => ?_) (fun hc21 => ?_)
    · refine gsr ?_
      refine gp zas ?_
      refine gnt ?_
      refine gc_ret ?_
      refine gx_then_ret ?_
      refine gx_ret1 rfl (by conv => lhs; whnf) ?_
      exact ze ()
    · refine gc_skip ?_
      refine gx_then ?_
      refine gsr ?_
      refine gp (r_ldN rfl Ty.row_30 Ty.sz_30 (by repeat (first | exact Pick.here | apply Pick.there)) (seg_all lx) lx) ?_
      refine zc (fun r24 => ?_) (c := fun w1 F1 F2 h1 h2 hd hst => bytes_ok h1 (hE.mv hst.still) (hx.mv hst.still))
      refine gp zmv ?_
      refine gp zex ?_
      refine gp zex ?_
      refine gp zas ?_
      refine gp zas ?_
      refine gnt ?_
      refine gsr ?_
      refine gp (r_ldN rfl Ty.row_30 Ty.sz_30 (by repeat (first | exact Pick.here | apply Pick.there)) (seg_all ly) ly) ?_
      refine zc (fun r29 => ?_) (c := fun w1 F1 F2 h1 h2 hd hst => bytes_ok h1 (hE.mv hst.still) (hy.mv hst.still))
      refine gp zmv ?_
      refine gp zex ?_
      refine gp zex ?_
      refine gp zas ?_
      refine gp zas ?_
      refine gnt ?_
      refine gsr ?_
      refine gp (r_ldN rfl Ty.row_30 Ty.sz_30 (by repeat (first | exact Pick.here | apply Pick.there)) (seg_all lx) lx) ?_
      refine zc (fun _ => ?_) (c := fun w1 F1 F2 h1 h2 hd hst => id_ok h1 (hE.mv hst.still) (hK.mv hst.still) (hx.mv hst.still))
      refine gp zmv ?_
      refine gp zex ?_
      refine gp zex ?_
      refine zal fun b9 => ?_
      refine gl_storeN (wt0 rfl) rfl rfl Ty.sz_23 (dc_length _) (by repeat (first | exact Pick.here | apply Pick.there)) (by decide) (dc_one _) (updL_all (by rw [dc_length]; rfl)) ?_
      refine gp zas ?_
      refine gnt ?_
      refine gsr ?_
      refine gp (r_ldN rfl Ty.row_30 Ty.sz_30 (by repeat (first | exact Pick.here | apply Pick.there)) (seg_all ly) ly) ?_
      refine zc (fun _ => ?_) (c := fun w1 F1 F2 h1 h2 hd hst => id_ok h1 (hE.mv hst.still) (hK.mv hst.still) (hy.mv hst.still))
      refine gp zmv ?_
      refine gp zex ?_
      refine gp zex ?_
      refine zal fun b11 => ?_
      refine gl_storeN (wt0 rfl) rfl rfl Ty.sz_23 (dc_length _) (by repeat (first | exact Pick.here | apply Pick.there)) (by decide) (dc_one _) (updL_all (by rw [dc_length]; rfl)) ?_
      refine gp zas ?_
      refine gnt ?_
      refine gc_seq ?_
      refine gc_seq ?_
      by_cases ex0 : (wBlock x ⟨0, []⟩).err = 0
      · refine gc_region ?_
        refine gp zmv ?_
        refine gp (r_bool (c := false) (r_nenil rfl (by kernel_rfl)) (by rw [ex0]; rfl)) ?_
        refine gp zmv ?_
        refine gq zmv ?_
        refine gq (r_nenil rfl (by kernel_rfl)) ?_
        refine gp zpk ?_
        refine gnt ?_
        refine gif rfl (fun hc47 => ?_) (fun hc47 => ?_)
        · refine gsr ?_
          refine gp zmv ?_
          refine gp (r_bool (c := true) (r_eqnil rfl (by kernel_rfl)) (by rw [ex0]; rfl)) ?_
          refine gp zmv ?_
          refine gn ?_
          refine gn ?_
          refine gp zpk ?_
          refine gp zas ?_
          refine gnt ?_
          refine gc_ret ?_
          refine gx_then_ret ?_
          refine gx_ret1 rfl (by conv => lhs; whnf) ?_
          exact ze ()
        · try simp only at hc47
          have ey0 : (wBlock y ⟨0, []⟩).err = 0 := by simpa using hc47
          refine gc_skip ?_
          refine gx_then ?_
          refine gsr ?_
          refine gp (r_ldN rfl Ty.row_30 Ty.sz_30 (by repeat (first | exact Pick.here | apply Pick.there)) (seg_all lx) lx) ?_
          refine gp (r_ldN rfl Ty.row_30 Ty.sz_30 (by repeat (first | exact Pick.here | apply Pick.there)) (seg_all ly) ly) ?_
          refine zc (fun _ => ?_) (c := fun w1 F1 F2 h1 h2 hd hst => sameBlock_ok h1 (hx.mv hst.still) (hy.mv hst.still))
          refine gp zas ?_
          refine gnt ?_
          refine gc_seq ?_
          by_cases hxy : x = y
          · refine gc_region ?_
            refine gp zmv ?_
            refine gp (r_bool (c := true) (r_eqnil rfl (by kernel_rfl)) (by rw [ex0]; rfl)) ?_
            refine gp zmv ?_
            refine gq zmv ?_
            refine gq (r_bool (c := true) (r_eqnil rfl (by kernel_rfl)) (by rw [ey0]; rfl)) ?_
            refine gp zpk ?_
            refine gp zmv ?_
            refine gq zmv ?_
            refine gq zmv ?_
            refine gq (r_str rfl Ty.sl_33 Ty.un_5 (by kernel_rfl) (fun w hw => hw.row (a := r24.1) (c := r24.2) (xs := (wOut (wBlock x ⟨0, []⟩)).map B8) (by repeat (first | exact Pick.here | apply Pick.there)))) ?_
            refine gq zmv ?_
            refine gq (r_str rfl Ty.sl_33 Ty.un_5 (by kernel_rfl) (fun w hw => hw.row (a := r29.1) (c := r29.2) (xs := (wOut (wBlock y ⟨0, []⟩)).map B8) (by repeat (first | exact Pick.here | apply Pick.there)))) ?_
            refine gq zes ?_
            refine gq (r_bool (c := true) (r_eql_bool rfl rfl (by kernel_rfl)) (ids_law ex0 ey0)) ?_
            refine gp zpk ?_
            refine gp zmv ?_
            refine gq zmv ?_
            refine gq (r_bool (c := false) (r_not rfl) (by rw [decide_eq_true hxy]; rfl)) ?_
            refine gq zmv ?_
            refine gq (r_ldN rfl Ty.row_23 Ty.sz_23 (by repeat (first | exact Pick.here | apply Pick.there)) (seg_all (dc_length _)) (dc_length _)) ?_
            refine gq (r_ldN rfl Ty.row_23 Ty.sz_23 (by repeat (first | exact Pick.here | apply Pick.there)) (seg_all (dc_length _)) (dc_length _)) ?_
            refine gq (r_bool (c := true) (r_eql_dig rfl rfl Ty.arr_23 Ty.un_5 Ty.sz_5 (by kernel_rfl)) (by rw [hxy]; exact decide_eq_true rfl)) ?_
            refine gq zpk ?_
            refine gp zpk ?_
            refine gp zas ?_
            refine gnt ?_
            refine gc_ret ?_
            refine gx_ret1 rfl (by conv => lhs; whnf) ?_
            exact ze ()
          · refine gc_region ?_
            refine gp zmv ?_
            refine gp (r_bool (c := true) (r_eqnil rfl (by kernel_rfl)) (by rw [ex0]; rfl)) ?_
            refine gp zmv ?_
            refine gq zmv ?_
            refine gq (r_bool (c := true) (r_eqnil rfl (by kernel_rfl)) (by rw [ey0]; rfl)) ?_
            refine gp zpk ?_
            refine gp zmv ?_
            refine gq zmv ?_
            refine gq zmv ?_
            refine gq (r_str rfl Ty.sl_33 Ty.un_5 (by kernel_rfl) (fun w hw => hw.row (a := r24.1) (c := r24.2) (xs := (wOut (wBlock x ⟨0, []⟩)).map B8) (by repeat (first | exact Pick.here | apply Pick.there)))) ?_
            refine gq zmv ?_
            refine gq (r_str rfl Ty.sl_33 Ty.un_5 (by kernel_rfl) (fun w hw => hw.row (a := r29.1) (c := r29.2) (xs := (wOut (wBlock y ⟨0, []⟩)).map B8) (by repeat (first | exact Pick.here | apply Pick.there)))) ?_
            refine gq zes ?_
            refine gq (r_bool (c := true) (r_eql_bool rfl rfl (by kernel_rfl)) (ids_law ex0 ey0)) ?_
            refine gp zpk ?_
            refine gp zmv ?_
            refine gq zmv ?_
            refine gq (r_bool (c := true) (r_not rfl) (by rw [decide_eq_false hxy]; rfl)) ?_
            refine gq zmv ?_
            refine gn ?_
            refine gn ?_
            refine gn ?_
            refine gq zpk ?_
            refine gp zpk ?_
            refine gp zas ?_
            refine gnt ?_
            refine gc_ret ?_
            refine gx_ret1 rfl (by conv => lhs; whnf) ?_
            exact ze ()
      · refine gc_region ?_
        refine gp zmv ?_
        refine gp (r_bool (c := true) (r_nenil rfl (by kernel_rfl)) (by rw [decide_eq_false ex0]; rfl)) ?_
        refine gp zmv ?_
        refine gn ?_
        refine gn ?_
        refine gp zpk ?_
        refine gnt ?_
        refine gc_condT rfl rfl ?_
        refine gsr ?_
        refine gp zmv ?_
        refine gp (r_bool (c := false) (r_eqnil rfl (by kernel_rfl)) (decide_eq_false ex0)) ?_
        refine gp zmv ?_
        refine gq zmv ?_
        refine gq (r_bool (c := true) (r_nenil rfl (by kernel_rfl)) (by rw [decide_eq_false ex0]; rfl)) ?_
        refine gp zpk ?_
        refine gp zas ?_
        refine gnt ?_
        refine gc_ret ?_
        refine gx_then_ret ?_
        refine gx_ret1 rfl (by conv => lhs; whnf) ?_
        exact ze ()
  · refine gp zmv ?_
    refine gn ?_
    refine gn ?_
    refine gp zpk ?_
    refine gnt ?_
    refine gc_condT rfl rfl ?_
    refine gsr ?_
    refine gp zas ?_
    refine gnt ?_
    refine gc_ret ?_
    refine gx_then_ret ?_
    refine gx_ret1 rfl (by conv => lhs; whnf) ?_
    exact ze ()

end Go.Proofs.YtkgbbnhdioghmaaDoor
