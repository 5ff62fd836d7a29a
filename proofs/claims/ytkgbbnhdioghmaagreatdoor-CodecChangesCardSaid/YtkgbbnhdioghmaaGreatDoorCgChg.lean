/- Part 6 of 6. What is proved: see the last part: for every input the law returns true, and the input reads as it did. -/
import Derived.Test.YtkgbbnhdioghmaaGreatDoorCg5
import Derived.Test.YtkgbbnhdioghmaaGreatDoorCards
import Derived.Test.YtkgbbnhdioghmaaGreatDoorTie
import Derived.Deep.DeepHandedRow
import Derived.Deep.DeepWitnessRowRef
/- Walks, by program (wg.py) out of a spec. -/
namespace Go.Proofs.YtkgbbnhdioghmaaGreatDoor
open Go
set_option linter.unusedVariables false
set_option linter.unusedSimpArgs false

attribute [local irreducible] Gl Gc Gx Gs Runs Wt

attribute [local irreducible] voteC tmoC propC blkC chgC sgnC tcC qcC dc msgC

set_option maxHeartbeats 400000 in
theorem codecChanges_ok {w : World} {F : Nat → Prop} {ea : Nat → Addr} {cs : List Value} {x : Chg} (h : stars [] w F) (hN : NErr w (fun k => ¬ F k) ea) (hx : RdChg w (fun k => ¬ F k) cs x) (ho : OkChg x) :
    Calls Tryz.prog 3 #[.agg cs.toArray] w (Post w F (fun _ : Unit => .bool true) (fun _ => [])) := by
  have hE := hN.g
  have hl := RdChg.len hx
  have il := Len.of hl
  have jl := One.of (RdChg.one hx)
  have h3 := hx.three
  have hmx := chg_max h3
  have her : (wChg x ⟨0, []⟩).err ≤ 18 := Nat.le_trans (eok_chg x ⟨0, []⟩ (by simp)) (by decide)
  refine g_enter (env := [(0, .agg cs.toArray)]) Tryz.func3 rfl h Tryz.ntmps3 rfl rfl ?_
  refine gsr ?_
  refine zbN fun b1 => ?_
  refine gp zas ?_
  refine gnt ?_
  refine gc_seq ?_
  refine gsr ?_
  refine zc (fun _ => ?_) (c := fun w1 F1 F2 h1 h2 hd hst => alive09_ok h1 (hE.mv hst.still))
  refine gp znt ?_
  refine gnt ?_
  refine gc_condF rfl rfl ?_
  refine gc_skip ?_
  refine gx_then ?_
  refine gc_seq ?_
  refine gsr ?_
  refine gp (zLa (cs := cs)) ?_
  refine zc (fun r11 => ?_) (c := fun w1 F1 F2 h1 h2 hd hst => bigChange_ok h1 (hx.mv hst.still))
  refine gnt ?_
  refine gif rfl (fun hc11 => ?_) (fun hc11 => ?_)
  · refine gsr ?_
    refine gp zas ?_
    refine gnt ?_
    refine gc_ret ?_
    refine gx_then_ret ?_
    refine gx_ret1 rfl (by conv => lhs; whnf) ?_
    exact ze ()
  · refine gc_skip ?_
    refine gx_then ?_
    refine gsr ?_
    refine gp (zLa (cs := cs)) ?_
    refine zc ?_ (c := fun w1 F1 F2 h1 h2 hd hst => cchange_ok h1 (hE.mv hst.still) (hx.mv hst.still))
    rintro ⟨a14, c14⟩
    refine gp zmv ?_
    refine gp zex ?_
    refine gp zex ?_
    refine gp zas ?_
    refine gp zas ?_
    refine gnt ?_
    refine gsr ?_
    refine gp (zLa (cs := cs)) ?_
    refine zc ?_ (c := fun w1 F1 F2 h1 h2 hd hst => ochg_ok h1 (hx.mv hst.still) ho)
    rintro ⟨a19, c19⟩
    refine gp zmv ?_
    refine gp zex ?_
    refine gp zex ?_
    refine gp zas ?_
    refine gp zas ?_
    refine gnt ?_
    refine gc_seq ?_
    refine gsr ?_
    refine gp zmv ?_
    refine gp (zso (b := wOut (wChg x ⟨0, []⟩))) ?_
    refine gp zmv ?_
    refine gp (zso (b := wOut (wChg x ⟨0, []⟩))) ?_
    refine gp (r_bool (c := false) zns (by simp)) ?_
    refine gp zmv ?_
    refine gq zmv ?_
    refine zc (fun _ => ?_) (c := fun w1 F1 F2 h1 h2 hd hst => errNum_ok (n := (wChg x ⟨0, []⟩).err) h1 (hN.mv hst.still) her)
    refine gq zmv ?_
    refine gq (r_bool (c := false) zni (by simp)) ?_
    refine gp zpk ?_
    refine gnt ?_
    refine gc_condF rfl rfl ?_
    refine gc_skip ?_
    refine gx_then ?_
    refine gc_seq ?_
    refine gc_seq ?_
    by_cases he : (wChg x ⟨0, []⟩).err = 0
    · refine gc_region ?_
      refine gp zmv ?_
      refine gp (r_bool (c := false) zni (by simp [he])) ?_
      refine gnt ?_
      refine gc_condF rfl rfl ?_
      refine gc_skip ?_
      refine gx_then ?_
      refine gsr ?_
      refine gp zmv ?_
      refine zc (fun q37 => ?_) (c := fun w1 F1 F2 h1 h2 hd hst => readChange_ok (b := wOut (wChg x ⟨0, []⟩)) h1 (hE.mv hst.still) (rd_row h2 hd (by repeat (first | exact Pick.here | apply Pick.there))) (by omega))
      rw [chg_law h3 he]
      refine gl_pureR (fun hq37 => ?_)
      obtain ⟨hl37, ho37⟩ := hq37
      have i37 := Len.of hl37
      have j37 := One.of ho37
      refine gp zmv ?_
      refine gp zex ?_
      refine gp zex ?_
      refine zal fun b7 => ?_
      refine gl_eqc (cs' := chgC) (by repeat (first | exact Pick.here | apply Pick.there)) (by kernel_rfl) ?_
      refine zsA (by first | exact hl37 | rfl) ho37 ?_
      refine gp zas ?_
      refine gnt ?_
      refine gsr ?_
      refine gp zmv ?_
      refine gp (r_bool (c := true) (r_eqnil (k := 0) rfl (by kernel_rfl)) rfl) ?_
      refine gp zmv ?_
      refine gq (zLa (cs := q37)) ?_
      refine gq (zLa (cs := cs)) ?_
      refine zc (fun _ => ?_) (c := fun w1 F1 F2 h1 h2 hd hst => sameChangex_ok (x := x) h1 (vl_rd h2 hd (by repeat (first | exact Pick.here | apply Pick.there))) (hx.mv hst.still))
      refine gp zpk ?_
      refine gp zas ?_
      refine gnt ?_
      refine gc_ret ?_
      refine gx_ret1 rfl (by conv => lhs; whnf) ?_
      exact ze ()
    · refine gc_region ?_
      refine gp zmv ?_
      refine gp (r_bool (c := true) zni (by simp [he])) ?_
      refine gnt ?_
      refine gc_condT rfl rfl ?_
      refine gsr ?_
      refine gp zas ?_
      refine gnt ?_
      refine gc_ret ?_
      refine gx_then_ret ?_
      refine gx_ret1 rfl (by conv => lhs; whnf) ?_
      exact ze ()

end Go.Proofs.YtkgbbnhdioghmaaGreatDoor

/- CodecChanges: for every input the law returns true, and the input reads as it did: the row and its card. -/
namespace Go.Proofs.YtkgbbnhdioghmaaGreatDoor
open Go
open Go.ChangeShapes Go.WideShapes Go.ChangeAt Go.RowKit
set_option linter.unusedVariables false

/-- One world that fits: the settled one, the listed variables as their initialisers lay them. -/
noncomputable def codecChanges_world (os : Os) : World :=
  let w0 := World.holding Tryz.prog os ⟨#[.cells #[.string ⟨#[113, 117, 111, 114, 97, 116, 101, 58, 32, 114, 97, 110, 103, 101]⟩] 289, .cells #[.string ⟨#[113, 117, 111, 114, 97, 116, 101, 58, 32, 115, 104, 111, 114, 116]⟩] 289, .cells #[.string ⟨#[113, 117, 111, 114, 97, 116, 101, 58, 32, 108, 111, 110, 103]⟩] 289, .cells #[.string ⟨#[113, 117, 111, 114, 97, 116, 101, 58, 32, 102, 111, 114, 109]⟩] 289, .cells #[.string ⟨#[113, 117, 111, 114, 97, 116, 101, 58, 32, 115, 112, 101, 110, 116]⟩] 289, .cells #[.string ⟨#[113, 117, 111, 114, 97, 116, 101, 58, 32, 112, 111, 119, 101, 114]⟩] 289, .cells #[.string ⟨#[113, 117, 111, 114, 97, 116, 101, 58, 32, 100, 105, 115, 107]⟩] 289, .cells #[.string ⟨#[113, 117, 111, 114, 97, 116, 101, 58, 32, 102, 117, 108, 108]⟩] 289, .cells #[.string ⟨#[113, 117, 111, 114, 97, 116, 101, 58, 32, 110, 111, 110, 101]⟩] 289, .cells #[.string ⟨#[113, 117, 111, 114, 97, 116, 101, 58, 32, 111, 108, 100]⟩] 289, .cells #[.string ⟨#[113, 117, 111, 114, 97, 116, 101, 58, 32, 115, 101, 116]⟩] 289, .cells #[.string ⟨#[113, 117, 111, 114, 97, 116, 101, 58, 32, 112, 114, 111, 111, 102]⟩] 289, .cells #[.string ⟨#[113, 117, 111, 114, 97, 116, 101, 58, 32, 108, 101, 97, 100, 101, 114]⟩] 289, .cells #[.string ⟨#[113, 117, 111, 114, 97, 116, 101, 58, 32, 114, 111, 117, 110, 100]⟩] 289, .cells #[.string ⟨#[113, 117, 111, 114, 97, 116, 101, 58, 32, 117, 110, 115, 97, 102, 101]⟩] 289, .cells #[.string ⟨#[113, 117, 111, 114, 97, 116, 101, 58, 32, 112, 97, 114, 101, 110, 116]⟩] 289, .cells #[.string ⟨#[113, 117, 111, 114, 97, 116, 101, 58, 32, 116, 119, 105, 99, 101]⟩] 289, .cells #[.string ⟨#[113, 117, 111, 114, 97, 116, 101, 58, 32, 101, 112, 111, 99, 104]⟩] 289], #[], []⟩
  { w0 with heap := (((((((((((((((((w0.heap.modify 0 fun
      | .cells _ t fz => .cells #[.iface 264 (.pointer (some ⟨lowB + 0, 0, none⟩))] t fz
      | o => o).modify 1 fun
      | .cells _ t fz => .cells #[.iface 264 (.pointer (some ⟨lowB + 1, 0, none⟩))] t fz
      | o => o).modify 2 fun
      | .cells _ t fz => .cells #[.iface 264 (.pointer (some ⟨lowB + 2, 0, none⟩))] t fz
      | o => o).modify 3 fun
      | .cells _ t fz => .cells #[.iface 264 (.pointer (some ⟨lowB + 3, 0, none⟩))] t fz
      | o => o).modify 4 fun
      | .cells _ t fz => .cells #[.iface 264 (.pointer (some ⟨lowB + 4, 0, none⟩))] t fz
      | o => o).modify 5 fun
      | .cells _ t fz => .cells #[.iface 264 (.pointer (some ⟨lowB + 5, 0, none⟩))] t fz
      | o => o).modify 6 fun
      | .cells _ t fz => .cells #[.iface 264 (.pointer (some ⟨lowB + 6, 0, none⟩))] t fz
      | o => o).modify 7 fun
      | .cells _ t fz => .cells #[.iface 264 (.pointer (some ⟨lowB + 7, 0, none⟩))] t fz
      | o => o).modify 8 fun
      | .cells _ t fz => .cells #[.iface 264 (.pointer (some ⟨lowB + 8, 0, none⟩))] t fz
      | o => o).modify 9 fun
      | .cells _ t fz => .cells #[.iface 264 (.pointer (some ⟨lowB + 9, 0, none⟩))] t fz
      | o => o).modify 10 fun
      | .cells _ t fz => .cells #[.iface 264 (.pointer (some ⟨lowB + 10, 0, none⟩))] t fz
      | o => o).modify 11 fun
      | .cells _ t fz => .cells #[.iface 264 (.pointer (some ⟨lowB + 11, 0, none⟩))] t fz
      | o => o).modify 12 fun
      | .cells _ t fz => .cells #[.iface 264 (.pointer (some ⟨lowB + 12, 0, none⟩))] t fz
      | o => o).modify 13 fun
      | .cells _ t fz => .cells #[.iface 264 (.pointer (some ⟨lowB + 13, 0, none⟩))] t fz
      | o => o).modify 14 fun
      | .cells _ t fz => .cells #[.iface 264 (.pointer (some ⟨lowB + 14, 0, none⟩))] t fz
      | o => o).modify 15 fun
      | .cells _ t fz => .cells #[.iface 264 (.pointer (some ⟨lowB + 15, 0, none⟩))] t fz
      | o => o).modify 16 fun
      | .cells _ t fz => .cells #[.iface 264 (.pointer (some ⟨lowB + 16, 0, none⟩))] t fz
      | o => o).modify 17 fun
      | .cells _ t fz => .cells #[.iface 264 (.pointer (some ⟨lowB + 17, 0, none⟩))] t fz
      | o => o }
def codecChanges_args : Array Value := #[.agg chgC.toArray]
theorem codecChanges_laid (os : Os) (args : Array Value) : laidMet Tryz.prog Rows.codecChangesRow.laid ((codecChanges_world os).forCall (fun _ _ => 0) ⟨#[], args, []⟩).memory :=
  laidMet_of_run' 8 (by kernel_rfl) (by kernel_rfl)
theorem codecChanges_reads (os : Os) {H : Type} (enc : TypeId × Value → H) : ∃ places, DataW.whole enc Tryz.prog ((codecChanges_world os).forCall (fun _ _ => 0) ⟨#[], codecChanges_args, []⟩).memory Tryz.f3.params.toList Rows.codecChangesSpec.vars false codecChanges_args.toList 8 = some ([chgD], [], places) :=
  ⟨[], by kernel_rfl⟩
set_option maxRecDepth 20000 in
theorem codecChanges_contract (H : Type) (enc : TypeId × Value → H) (W : World) (base : Nat) (args : Array Value) (ds gs : List (DataW H)) (before : List MemPlace)
    (hval : ∀ (j : Nat) t v, Tryz.f3.params[j]? = some t → args[j]? = some v → Value.okWide Tryz.prog W .any base t v)
    (hW : DataW.Whole enc Tryz.prog Tryz.f3.params.toList Rows.codecChangesSpec.vars false W args.toList ds gs before) (hL : laidMetH Tryz.prog Rows.codecChangesRow.laid W) :
    Calls Tryz.prog 3 args W fun e W' => ∃ v, e = .returned v ∧ Rows.codecChangesSpec.post enc Tryz.prog Tryz.f3 false true false false W args v W' := by
  have hW' := hW
  have hlt : ∀ p ∈ before, p.block < W.heap.size := fun p hp => hW.lt p hp
  obtain ⟨p, q, hA0, hV, rfl, hfz, hnd⟩ := hW
  have hA : DataW.TrodAll enc Tryz.prog W 0 (fun _ => true) true Tryz.f3.params.toList args.toList ds p := hA0
  rw [Tryz.params3] at hA hval
  obtain ⟨v0, vs0, d0, ds0, p0, q0, hargs, rfl, rfl, h0, r0⟩ := trodAll_cons hA
  obtain ⟨rfl, rfl, rfl⟩ := trodAll_nil r0
  obtain rfl : args = #[v0] := by cases args; simp_all
  obtain ⟨rfl, rfl⟩ := trodVars_none hV
  obtain ⟨x0, hx0⟩ : ∃ x, RdChg W TT v0.cells.toList x ∧ OkChg x := by obtain ⟨fuel, hf⟩ := h0; exact p_chg fuel _ _ hf
  have e0 := agg_of_len (n := 136) (RdChg.len hx0.1) (by decide)
  have hL' : laidMet Tryz.prog Rows.codecChangesRow.laid W := hL
  obtain ⟨ea, hN⟩ := laid_nerr (r := []) (show laidMet Tryz.prog (errNames.map errRow ++ []) W from hL')
  have walk := codecChanges_ok no_res hN (hx0.1.mv still_id) hx0.2
  rw [← e0] at walk
  refine Calls.mono (show Calls Tryz.prog 3 #[v0] W _ from walk) fun e W' ⟨_, he, hs⟩ => ?_
  subst he
  have bel := below_of hs
  have eF : Rows.codecChangesSpec.fn H ([d0] ++ []) = { results := [.lit (.bool true)], args := [d0] } := rfl
  have l0 : ∀ z ∈ p0, z.block < W.heap.size := fun z hz => hlt z (by simp [hz])
  refine ⟨_, rfl, _, _, _, [], p0 ++ ([]), [], hW', ?_, ?_, ?_, bel.frame _, fun h => by cases h⟩
  · rw [eF]; exact trodAll_cons_mk (shut_bool Tryz.underlying4 _) trodAll_mk0
  · rw [eF, Tryz.params3]
    exact trodAll_cons_mk (Below.trod laidOut (by kernel_rfl) (of_decide_eq_true (by kernel_rfl)) h0 bel l0) (trodAll_mk0)
  · rw [eF]; rfl

set_option maxRecDepth 100000 in
theorem codecChanges_lifted (os : Os) (started : os.Started) (H : Type) (enc : TypeId × Value → H) (F : Stop.Interp) :
    ReturnsInHanded {} Tryz.checked os 3 .any ((OpenSpec.ofChange Rows.codecChangesSpec).preRow enc Tryz.prog Tryz.f3 Rows.codecChangesRow.domain false Rows.codecChangesRow.laid) (((OpenSpec.ofChange Rows.codecChangesSpec).at F).post enc Tryz.prog Tryz.f3 false true false false) := by
  obtain ⟨places, hx⟩ := codecChanges_reads os enc
  refine returnsInHanded_of_row (C := Tryz.checked) (s := OpenSpec.ofChange Rows.codecChangesSpec) own started (by kernel_rfl) Tryz.func3
    (witness_row_atRef (enc := enc) (C := Tryz.checked) false (codecChanges_world os) codecChanges_args rfl (by kernel_rfl) (by kernel_rfl) (by kernel_rfl)
      (OpenSpec.preRow_of_cond 8 hx (by kernel_rfl) (fun k hk => by cases hk) (by kernel_rfl) (codecChanges_laid os _))) ?_
  intro W base args ds gs before hval hW _ _ _ hL _ _
  exact codecChanges_contract H enc W base args ds gs before hval hW hL

theorem codecChanges_said : Rows.CodecChangesSaid :=
  OpenClaim.holds_of_cond 3 Tryz.f3 rfl rfl rfl rfl rfl rfl rfl ⟨rfl, rfl, rfl, rfl, rfl⟩ rfl rfl rfl rfl rfl (by kernel_rfl) Tryz.func3 (by kernel_rfl)
    (of_decide_eq_true (by kernel_rfl)) (by unfold Func.isWrapper; first | (rw [if_pos (by decide +kernel)]; kernel_rfl) | (rw [if_neg (by decide +kernel)]; exact ⟨rfl, rfl⟩))
    (fun os started H enc _ F => by rw [OpenClaim.pre_eq_preRow]; exact codecChanges_lifted os started H enc F)
theorem codecChanges_plain (f : FuncId) (fn : Func) (hf : Tryz.pinned.checked.prog.funcNamed "quorate/quoratelaw09.CodecChanges" = some f) (hfn : Tryz.pinned.checked.prog.funcs[f]? = some fn) :
    true = Tryz.pinned.checked.prog.looks [] ∧ ∀ (j : Nat) t, fn.params[j]? = some t → Tryz.pinned.checked.prog.wantsStandIn t = false := by
  obtain rfl : f = 3 := Option.some.inj ((show Tryz.prog.funcNamed "quorate/quoratelaw09.CodecChanges" = some 3 by kernel_rfl).symm.trans hf) |>.symm
  obtain rfl : fn = Tryz.f3 := (Option.some.inj (Tryz.func3.symm.trans hfn)).symm
  refine ⟨by kernel_rfl, fun j t ht => ?_⟩
  rw [Tryz.params3] at ht
  have hm := Array.mem_of_getElem? ht
  have h : t = 33 := by simpa using hm
  subst h
  exact (show Tryz.prog.wantsStandIn 33 = false by kernel_rfl)
theorem codecChanges_holds : Rows.CodecChangesCardSaid :=
  Claim7.holds_tied_plain_at .later [] _ _ _ _ codecChanges_said (fun _ h => by cases h) (by kernel_rfl) (fun _ h => by cases h) codecChanges_row_tie rfl ⟨rfl, rfl⟩ (by kernel_rfl) rfl codecChanges_plain (by kernel_rfl)
#print axioms codecChanges_holds
end Go.Proofs.YtkgbbnhdioghmaaGreatDoor

