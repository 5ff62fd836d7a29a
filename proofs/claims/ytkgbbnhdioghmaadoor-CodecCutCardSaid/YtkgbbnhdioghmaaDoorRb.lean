/- Walks, by program (wg.py) out of a spec. -/
import Derived.Test.YtkgbbnhdioghmaaDoorRa
import Derived.Test.YtkgbbnhdioghmaaDoorNa
namespace Go.Proofs.YtkgbbnhdioghmaaDoor
open Go
set_option linter.unusedVariables false
set_option linter.unusedSimpArgs false

attribute [local irreducible] Gl Gc Gx Gs Runs Wt

set_option maxHeartbeats 400000 in
theorem rnum_ok {w : World} {F : Nat → Prop} {TE : Nat} {ea : Nat → Addr} {g : Nat} {σ : RSt} (h : stars [RdrR TE ea g σ] w F) {es : List Nat} [Has es 1] [Has es 2] (hE : GErr es w (fun k => ¬ F k) TE ea) {wd : Nat} (h1 : 1 ≤ wd) (h7 : wd ≤ 7) :
    Calls Tryd.prog 63 #[.pointer (some ⟨g, 0, none⟩), .int .i64 (wd : Int)] w (Post w F (fun x : Nat => .int .i64 (x : Int)) (fun x => [pureR (Ag (pNum wd) σ (x : Int) ∧ x < 256 ^ wd), RdrR TE ea g (rstep (pNum wd) σ)])) := by
  refine g_enter (env := [(0, .pointer (some ⟨g, 0, none⟩)), (1, .int .i64 (wd : Int))]) Tryd.func63 rfl h Tryd.ntmps63 rfl rfl ?_
  refine gsr ?_
  refine gp zas ?_
  refine gnt ?_
  refine gc_seq ?_
  refine gsr ?_
  refine gp zmv ?_
  refine gp (r_bool zlt (decide_eq_false (by omega))) ?_
  refine gp zmv ?_
  refine gq zmv ?_
  refine gq (r_bool zgt (decide_eq_false (by omega))) ?_
  refine gp zpk ?_
  refine gnt ?_
  refine gc_condF rfl rfl ?_
  refine gc_skip ?_
  refine gx_then ?_
  refine gc_seq ?_
  refine gc_join (α := Unit) (fun z => [RdrR TE ea g σ]) (fun z => [(45, .bool false)]) [19, 20, 21, 22, 23, 24, 25, 26, 27, 28, 29, 30, 31, 32, 33, 34, 35, 36, 37, 38, 39, 40, 41, 42, 43, 44] ?_ ?_
  · by_cases he : errOf σ = 0
    · refine gc_region ?_
      refine gp zmv ?_
      refine gp znc ?_
      refine gp zfa ?_
      refine gp zfa ?_
      refine gp r_lde ?_
      refine gp (r_bool (c := true) (r_eqnil rfl (by kernel_rfl)) (decide_eq_true he)) ?_
      refine gp zmv ?_
      refine gq zmv ?_
      refine gq (r_bool zei (decide_eq_false (by omega))) ?_
      refine gp zpk ?_
      refine gp zmv ?_
      refine gn ?_
      refine gn ?_
      refine gn ?_
      refine gn ?_
      refine gn ?_
      refine gn ?_
      refine gp zpk ?_
      refine gp zmv ?_
      refine gn ?_
      refine gn ?_
      refine gn ?_
      refine gn ?_
      refine gn ?_
      refine gn ?_
      refine gn ?_
      refine gp zpk ?_
      refine gl_nil ?_
      refine zjn (()) ?_
      · exact zsel
    · refine gc_region ?_
      refine gp zmv ?_
      refine gp znc ?_
      refine gp zfa ?_
      refine gp zfa ?_
      refine gp r_lde ?_
      refine gp (r_bool (c := false) (r_eqnil rfl (by kernel_rfl)) (decide_eq_false he)) ?_
      refine gp zmv ?_
      refine gn ?_
      refine gn ?_
      refine gp zpk ?_
      refine gp zmv ?_
      refine gn ?_
      refine gn ?_
      refine gn ?_
      refine gn ?_
      refine gn ?_
      refine gn ?_
      refine gp zpk ?_
      refine gp zmv ?_
      refine gn ?_
      refine gn ?_
      refine gn ?_
      refine gn ?_
      refine gn ?_
      refine gn ?_
      refine gn ?_
      refine gp zpk ?_
      refine gl_nil ?_
      refine zjn (()) ?_
      · exact zsel
  · intro z u
    refine gc_condF rfl rfl ?_
    refine gc_skip ?_
    refine gx_then ?_
    refine gsr ?_
    refine gp zas ?_
    refine gnt ?_
    refine gc_seq ?_
    refine gsr ?_
    refine gp zmv ?_
    refine gp zmv ?_
    refine zc ?_ (c := fun w1 F1 F2 h1 h2 hd hst => take_ok' (n := wd) h1 (hE.mv hst.still))
    rintro ⟨a53, c53, l⟩
    refine gl_pureR (fun h53 => ?_)
    obtain ⟨hag, hlc, hlw⟩ := h53
    replace hag : Ag (pTake wd) σ l := hag
    replace hlw : l.length ≤ wd := hlw
    refine gp zln ?_
    refine gp zmv ?_
    refine gnt ?_
    refine gc_block ?_
    refine gc_loop (α := Nat) (fun k => [pureR (k ≤ l.length), RdrB TE ea g (rstep (pTake wd) σ) a53 l]) (fun k => [(55, .int .i64 (k : Int)), (5, .int .i64 ((valN (l.take k) : Nat) : Int))]) [7, 56, 57, 58, 59, 60, 61, 62, 63, 64] (fun k => l.length - k) 0 ?_ ?_ ?_
    · refine env_start (by kernel_rfl)
    · exact zlp (by first | exact Nat.zero_le _ | omega)
    · intro k u
      refine gc_pureR (fun hk => ?_)
      replace hk : k ≤ l.length := hk
      refine gsr ?_
      refine gp zlt ?_
      refine gnt ?_
      refine gc_seq ?_
      refine gif rfl (fun hc56 => ?_) (fun hc56 => ?_)
      · try simp only at hc56
        have hk' : k < l.length := by omega
        refine gc_fact (p := ∃ g o, a53 = some ⟨g, o, none⟩) (fun w hw => (by obtain ⟨g, o, e, _⟩ := (hw.rdB (l := l) (a2 := a53) (by repeat (first | exact Pick.here | apply Pick.there))).2.2 (by omega); exact ⟨g, o, e⟩)) (fun ha => ?_)
        obtain ⟨g6, o6, rfl⟩ := ha
        have hv := valN_lt (l.take k)
        have hp : 256 ^ (l.take k).length ≤ 256 ^ 6 := Nat.pow_le_pow_right (by decide) (by rw [List.length_take]; omega)
        have h56 : (256 : Nat) ^ 6 = 281474976710656 := by decide
        have hbl := (l.getD k 0).toNat_lt
        refine gc_skip ?_
        refine gx_then ?_
        refine gc_seq ?_
        refine gc_block ?_
        refine gsr ?_
        refine gp zia ?_
        refine gp (r_ldb (hi := by omega) (hk := hk')) ?_
        refine gp zas ?_
        refine gnt ?_
        refine gc_region ?_
        refine gp zmv ?_
        refine gp (r_int zhl (show IntKind.i64.wrap (((valN (l.take k) : Nat) : Int) * 2 ^ (min (8 : Int).toNat IntKind.i64.bits)) = ((valN (l.take k) * 256 : Nat) : Int) by rw [show (2 : Int) ^ (min (8 : Int).toNat IntKind.i64.bits) = 256 from rfl, wrap_i64 (by omega) (by omega)]; omega)) ?_
        refine gp zmv ?_
        refine gp (r_int zci (wrap_i64 (by omega) (by omega))) ?_
        refine gp (r_int (j := ((valN (l.take (k + 1)) : Nat) : Int)) zbt ((or_byte (by omega)).trans (by rw [take_snoc hk', valN_snoc]))) ?_
        refine gp zas ?_
        refine gl_nil ?_
        refine gx_block_normal ?_
        refine gx_then ?_
        refine gc_region ?_
        refine gp zad ?_
        refine gp zmv ?_
        refine gl_nil ?_
        refine zrd (k + 1) ?_ ?_
        · show l.length - (k + 1) < l.length - k
          omega
        · exact zlp (show k + 1 ≤ l.length by omega)
      · try simp only at hc56
        have hk' : k = l.length := by omega
        subst hk'
        have hv := valN_lt l
        have hp : 256 ^ l.length ≤ 256 ^ wd := Nat.pow_le_pow_right (by decide) hlw
        refine gc_exit ?_
        refine gx_then_exit ?_
        refine gx_round_exit ?_
        refine gx_block_hit ?_
        refine gx_then ?_
        refine gsr ?_
        refine gp zmv ?_
        refine gp zas ?_
        refine gnt ?_
        refine gc_ret ?_
        refine gx_ret1 rfl (by conv => lhs; whnf) ?_
        exact fun w' hw => ⟨valN l, congrArg (fun m : List UInt8 => Ending.returned (.int .i64 (valN m : Int))) List.take_length, St.pureI ⟨ag_num hag, Nat.lt_of_lt_of_le hv hp⟩ (by rw [rstep_num hag]; exact (hw.sel (M := [RdrB TE ea g _ _ l]) (by repeat (first | exact Sel.nil | (apply Sel.cons; · (repeat (first | exact Pick.here | apply Pick.there)))))).rrw)⟩

set_option maxHeartbeats 400000 in
theorem rfixed_ok {w : World} {F : Nat → Prop} {TE : Nat} {ea : Nat → Addr} {g : Nat} {σ : RSt} (h : stars [RdrR TE ea g σ] w F) {es : List Nat} [Has es 1] [Has es 2] (hE : GErr es w (fun k => ¬ F k) TE ea) {n : Nat} (hn : n ≤ 65535) :
    Calls Tryd.prog 134 #[.pointer (some ⟨g, 0, none⟩), .int .i64 (n : Int)] w (Post w F (fun r : Option Addr × Nat × List UInt8 => .slice r.1 r.2.2.length r.2.1) (fun r => [pureR (Ag (pTake n) σ r.2.2 ∧ r.2.2.length ≤ n), rowR 5 1 r.1 r.2.2.length r.2.1 (r.2.2.map B8), RdrR TE ea g (rstep (pTake n) σ)])) := by
  refine g_enter (env := [(0, .pointer (some ⟨g, 0, none⟩)), (1, .int .i64 (n : Int))]) Tryd.func134 rfl h Tryd.ntmps134 rfl rfl ?_
  refine gsr ?_
  refine gp zas ?_
  refine gnt ?_
  refine gc_seq ?_
  refine gsr ?_
  refine gp zmv ?_
  refine gp (r_bool zlt (decide_eq_false (by omega))) ?_
  refine gnt ?_
  refine gc_condF rfl rfl ?_
  refine gc_skip ?_
  refine gx_then ?_
  refine gsr ?_
  refine gp zmv ?_
  refine gp zmv ?_
  refine zc ?_ (c := fun w1 F1 F2 h1 h2 hd hst => take_ok' (n := n) h1 (hE.mv hst.still))
  rintro ⟨a14, c14, l⟩
  refine gl_pureR (fun h14 => ?_)
  obtain ⟨hag, hlc, hlw⟩ := h14
  replace hlw : l.length ≤ n := hlw
  refine zc ?_ (c := fun w1 F1 F2 h1 h2 hd hst => cloneBytes_ok (xs := l.map B8) h1 (rdB_row h2 hd (by repeat (first | exact Pick.here | apply Pick.there))) (one_B8 _) (by omega))
  rintro ⟨a15, c15⟩
  refine gp zas ?_
  refine gnt ?_
  refine gc_ret ?_
  refine gx_ret1 rfl (by conv => lhs; whnf) ?_
  exact fun w' hw => ⟨(a15, c15, l), rfl, St.pureI ⟨hag, hlw⟩ ((hw.sel (M := [RdrB TE ea g _ _ l, rowR 5 1 a15 _ c15 _]) (by repeat (first | exact Sel.nil | (apply Sel.cons; · (repeat (first | exact Pick.here | apply Pick.there)))))).rrw.sel (by repeat (first | exact Sel.nil | (apply Sel.cons; · (repeat (first | exact Pick.here | apply Pick.there))))))⟩

set_option maxHeartbeats 400000 in
theorem rbytes_ok {w : World} {F : Nat → Prop} {TE : Nat} {ea : Nat → Addr} {g : Nat} {σ : RSt} (h : stars [RdrR TE ea g σ] w F) {es : List Nat} [Has es 1] [Has es 2] (hE : GErr es w (fun k => ¬ F k) TE ea) {most : Nat} (hm : most ≤ 65535) :
    Calls Tryd.prog 142 #[.pointer (some ⟨g, 0, none⟩), .int .i64 (most : Int)] w (Post w F (fun r : Option Addr × Nat × List UInt8 => .slice r.1 r.2.2.length r.2.1) (fun r => [pureR (Ag (pBytes most) σ r.2.2 ∧ r.2.2.length ≤ 65535), rowR 5 1 r.1 r.2.2.length r.2.1 (r.2.2.map B8), RdrR TE ea g (rstep (pBytes most) σ)])) := by
  refine g_enter (env := [(0, .pointer (some ⟨g, 0, none⟩)), (1, .int .i64 (most : Int))]) Tryd.func142 rfl h Tryd.ntmps142 rfl rfl ?_
  refine gsr ?_
  refine gp zas ?_
  refine gnt ?_
  refine gsr ?_
  refine gp zmv ?_
  refine zc (fun x => ?_) (c := fun w1 F1 F2 h1 h2 hd hst => rnum_ok (wd := 2) h1 (hE.mv hst.still) (by decide) (by decide))
  refine gl_pureR (fun hx => ?_)
  obtain ⟨hx, hxb⟩ := hx
  have hx256 : x < 65536 := by simpa using hxb
  refine gp zas ?_
  refine gnt ?_
  refine gc_join (α := RSt) (fun σ2 => [pureR ((if errOf (rstep (pNum 2) σ) = 0 ∧ most < x then failE 1 (rstep (pNum 2) σ) else rstep (pNum 2) σ) = σ2), RdrR TE ea g σ2]) (fun σ2 => []) [8, 9, 10, 11, 12, 13, 14, 15, 16, 17, 18, 19, 20, 21, 22, 23] ?_ ?_
  · refine gc_join (α := Bool) (fun z => [pureR (z = (decide (errOf (rstep (pNum 2) σ) = 0) && decide (most < x))), RdrR TE ea g (rstep (pNum 2) σ)]) (fun z => [(18, .bool z)]) [8, 9, 10, 11, 12, 13, 14, 15, 16, 17] ?_ ?_
    · by_cases he : errOf (rstep (pNum 2) σ) = 0
      · refine gc_region ?_
        refine gp zmv ?_
        refine gp znc ?_
        refine gp zfa ?_
        refine gp zfa ?_
        refine gp r_lde ?_
        refine gp (r_bool (c := true) (r_eqnil rfl (by kernel_rfl)) (decide_eq_true he)) ?_
        refine gp zmv ?_
        refine gq zmv ?_
        refine gq zmv ?_
        refine gq (r_bool (b := decide ((most : Int) < (x : Int))) zgt rfl) ?_
        refine gp zpk ?_
        refine gl_nil ?_
        refine zjn (decide ((most : Int) < (x : Int))) ?_
        · exact zlp (by rw [decide_eq_true he, Bool.true_and]; exact decide_eq_decide.2 (by omega))
      · refine gc_region ?_
        refine gp zmv ?_
        refine gp znc ?_
        refine gp zfa ?_
        refine gp zfa ?_
        refine gp r_lde ?_
        refine gp (r_bool (c := false) (r_eqnil rfl (by kernel_rfl)) (decide_eq_false he)) ?_
        refine gp zmv ?_
        refine gn ?_
        refine gn ?_
        refine gn ?_
        refine gp zpk ?_
        refine gl_nil ?_
        refine zjn (false) ?_
        · exact zlp (by rw [decide_eq_false he]; rfl)
    · intro z u
      refine gc_pureR (fun hz => ?_)
      subst hz
      refine gif rfl (fun hc18 => ?_) (fun hc18 => ?_)
      · try simp only at hc18
        have hb : errOf (rstep (pNum 2) σ) = 0 ∧ most < x := by omega
        refine gc_regionT 4 (by kernel_rfl) (by kernel_rfl) ?_
        refine sp zmv ?_
        refine sp znc ?_
        refine sp zfa ?_
        refine sp (r_ld1o rfl Ty.row_35 (hE.c 1 Has.h) (hE.n 1 Has.h)) ?_
        refine gs_nil ?_
        refine zc (fun _ => ?_) (c := fun w1 F1 F2 h1 h2 hd hst => failR_ok (by decide) h1)
        refine gl_nil ?_
        refine zjn (failE 1 (rstep (pNum 2) σ)) ?_
        · exact zlp (if_pos hb)
      · try simp only at hc18
        have hb : ¬ (errOf (rstep (pNum 2) σ) = 0 ∧ most < x) := by omega
        refine gc_skip ?_
        refine zjn ((rstep (pNum 2) σ)) ?_
        · exact zlp (if_neg hb)
  · intro σ2 u
    refine gc_pureR (fun hc2 => ?_)
    refine gsr ?_
    refine gp zmv ?_
    refine gp zmv ?_
    refine zc ?_ (c := fun w1 F1 F2 h1 h2 hd hst => rfixed_ok (n := x) h1 (hE.mv hst.still) (by omega))
    rintro ⟨a26, c26, l⟩
    refine gl_pureR (fun h26 => ?_)
    obtain ⟨hag, hlw⟩ := h26
    replace hlw : l.length ≤ x := hlw
    have hfin := bytes_fin hx hc2 hag
    refine gp zas ?_
    refine gnt ?_
    refine gc_ret ?_
    refine gx_ret1 rfl (by conv => lhs; whnf) ?_
    rw [hfin.1]
    exact fun w' hw => ⟨(a26, c26, l), rfl, St.pureI ⟨hfin.2, by show l.length ≤ 65535; omega⟩ (hw.sel (by repeat (first | exact Sel.nil | (apply Sel.cons; · (repeat (first | exact Pick.here | apply Pick.there))))))⟩

end Go.Proofs.YtkgbbnhdioghmaaDoor
