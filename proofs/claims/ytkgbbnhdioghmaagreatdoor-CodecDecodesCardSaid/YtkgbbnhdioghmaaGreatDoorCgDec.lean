/- Part 7 of 7. What is proved: see the last part: for every input the law returns true, and the input reads as it did. -/
import Derived.Test.YtkgbbnhdioghmaaGreatDoorCg6
import Derived.Test.YtkgbbnhdioghmaaGreatDoorCards
import Derived.Test.YtkgbbnhdioghmaaGreatDoorTie
import Derived.Deep.DeepHandedRow
import Derived.Deep.DeepWitnessRowRef
/- Walks, by program (wg.py) out of a spec. -/
namespace Go.Proofs.YtkgbbnhdioghmaaGreatDoor
open Go
set_option linter.unusedVariables false
set_option linter.unusedSimpArgs false

attribute [local irreducible] Gl Gc Gx Gs Runs Wt

attribute [local irreducible] voteC tmoC propC blkC chgC sgnC tcC qcC dc msgC

set_option maxHeartbeats 400000 in
theorem codecDecodes_ok {w : World} {F : Nat → Prop} {ea : Nat → Addr} {am : Option Addr} {nm cm : Nat} {bm : List UInt8} (h : stars [] w F) (hN : NErr w (fun k => ¬ F k) ea) (hm : RdRow w (fun k => ¬ F k) 1 am nm (bm.map B8)) (hcm : nm ≤ cm) :
    Calls Tryz.prog 5 #[.slice am nm cm] w (Post w F (fun _ : Unit => .bool true) (fun _ => [])) := by
  have hE := hN.g
  have hnm : nm = bm.length := by have := hm.1; simp at this; omega
  subst hnm
  have her : (allE pMsg (msg0 0) bm).1 ≤ 18 := Nat.le_trans (allE_le le4_msg (msg0 0) bm) (by decide)
  refine g_enter (env := [(0, .slice am bm.length cm)]) Tryz.func5 rfl h Tryz.ntmps5 rfl rfl ?_
  refine gsr ?_
  refine gp zas ?_
  refine gnt ?_
  refine gc_seq ?_
  refine gsr ?_
  refine zc (fun _ => ?_) (c := fun w1 F1 F2 h1 h2 hd hst => alive09_ok h1 (hE.mv hst.still))
  refine gp znt ?_
  refine gnt ?_
  refine gc_condF rfl rfl ?_
  refine gc_skip ?_
  refine gx_then ?_
  refine gc_seq ?_
  refine gsr ?_
  refine gp zmv ?_
  refine gp zln ?_
  refine gp zgt ?_
  refine gnt ?_
  refine gif rfl (fun hc13 => ?_) (fun hc13 => ?_)
  · refine gsr ?_
    refine gp zas ?_
    refine gnt ?_
    refine gc_ret ?_
    refine gx_then_ret ?_
    refine gx_ret1 rfl (by conv => lhs; whnf) ?_
    exact ze ()
  · try simp only at hc13
    have hl4 : bm.length ≤ 40000 := by omega
    refine gc_skip ?_
    refine gx_then ?_
    refine gsr ?_
    refine gp zmv ?_
    refine zc ?_ (c := fun w1 F1 F2 h1 h2 hd hst => nbytes_ok h1 (hm.mv hst.still) hl4)
    rintro ⟨a15, c15⟩
    refine gl_pureR (fun hc15 => ?_)
    replace hc15 : bm.length + 6 ≤ c15 := hc15
    refine gl_fact (p := c15 ≤ maxLen) (fun w hw => (hw.rowLe (e := 5) (size := 1) (a := a15) (m := bm.length + 6) (c := c15) (xs := bm.map B8 ++ (marks.map B8)) (by repeat (first | exact Pick.here | apply Pick.there))).2) (fun hc15m => ?_)
    refine gp zas ?_
    refine gnt ?_
    refine gsr ?_
    refine gp zmv ?_
    refine zc (fun q18 => ?_) (c := fun w1 F1 F2 h1 h2 hd hst => decode_ok (b := bm) h1 (hE.mv hst.still) ((rd_row (e := 5) (size := 1) (a := a15) (n := bm.length + 6) (c := c15) (xs := bm.map B8 ++ (marks.map B8)) h2 hd (by repeat (first | exact Pick.here | apply Pick.there))).pre (by omega) (by simp)) (by omega))
    refine gl_pureR (fun hq18 => ?_)
    obtain ⟨hl18, ho18⟩ := hq18
    have i18 := Len.of hl18
    have j18 := One.of ho18
    refine gp zmv ?_
    refine gp zex ?_
    refine gp zex ?_
    refine zal fun b4 => ?_
    refine gl_eqc (cs' := msgC 0 dig0 dig0) (by repeat (first | exact Pick.here | apply Pick.there)) (by kernel_rfl) ?_
    refine zsA (new := q18) hl18 ho18 ?_
    refine gp zas ?_
    refine gnt ?_
    refine gsr ?_
    refine gp zmv ?_
    refine zc (fun q23 => ?_) (c := fun w1 F1 F2 h1 h2 hd hst => idecode_ok h1 (hm.mv hst.still) hcm hl4)
    refine gl_pureR (fun hq23 => ?_)
    obtain ⟨hl23, ho23⟩ := hq23
    have i23 := Len.of hl23
    have j23 := One.of ho23
    refine gp zmv ?_
    refine gp zex ?_
    refine gp zex ?_
    refine zal fun b6 => ?_
    refine gl_eqc (cs' := msgC 0 dig0 dig0) (by repeat (first | exact Pick.here | apply Pick.there)) (by kernel_rfl) ?_
    refine zsA (new := q23) hl23 ho23 ?_
    refine gp zas ?_
    refine gnt ?_
    refine gc_seq ?_
    refine gsr ?_
    refine gp (zLa (cs := q18)) ?_
    refine gp (zLa (cs := q23)) ?_
    refine zc (fun _ => ?_) (c := fun w1 F1 F2 h1 h2 hd hst => sameMsg_ok (x := (allE pMsg (msg0 0) bm).2) h1 (vl_rd (rd := RdMsg) (cs := q18) (x := (allE pMsg (msg0 0) bm).2) h2 hd (by repeat (first | exact Pick.here | apply Pick.there))) (vl_rd (rd := RdMsg) (cs := q23) (x := (allE pMsg (msg0 0) bm).2) h2 hd (by repeat (first | exact Pick.here | apply Pick.there))))
    refine gp znt ?_
    refine gp zmv ?_
    refine gq zmv ?_
    refine zc (fun _ => ?_) (c := fun w1 F1 F2 h1 h2 hd hst => errNum_ok (n := (allE pMsg (msg0 0) bm).1) h1 (hN.mv hst.still) her)
    refine gq zmv ?_
    refine gq (r_bool (c := false) zni (by simp)) ?_
    refine gp zpk ?_
    refine gp zmv ?_
    refine gq zmv ?_
    refine gq zmv ?_
    refine zc (fun _ => ?_) (c := fun w1 F1 F2 h1 h2 hd hst => kept_ok (B := bm) h1 (hm.mv hst.still) hl4 hc15 hc15m)
    refine gq znt ?_
    refine gp zpk ?_
    refine gnt ?_
    refine gc_condF rfl rfl ?_
    refine gc_skip ?_
    refine gx_then ?_
    refine gc_seq ?_
    refine gc_seq ?_
    by_cases he : (allE pMsg (msg0 0) bm).1 = 0
    · refine gc_region ?_
      refine gp zmv ?_
      refine gp (r_bool (c := false) zni (by simp [he])) ?_
      refine gnt ?_
      refine gc_condF rfl rfl ?_
      refine gc_skip ?_
      refine gx_then ?_
      refine gsr ?_
      refine gp (zLa (cs := q18)) ?_
      refine zc ?_ (c := fun w1 F1 F2 h1 h2 hd hst => encode_ok (m := (allE pMsg (msg0 0) bm).2) h1 (hE.mv hst.still) (vl_rd (rd := RdMsg) (cs := q18) (x := (allE pMsg (msg0 0) bm).2) h2 hd (by repeat (first | exact Pick.here | apply Pick.there))))
      rintro ⟨a46, c46⟩
      rw [msg_back he, show wOut ⟨0, bm⟩ = bm from rfl]
      refine gp zmv ?_
      refine gp zex ?_
      refine gp zex ?_
      refine gp zas ?_
      refine gp zas ?_
      refine gnt ?_
      refine gsr ?_
      refine gp zmv ?_
      refine gp (r_bool (c := true) (r_eqnil (k := 0) rfl (by kernel_rfl)) rfl) ?_
      refine gp zmv ?_
      refine gq zmv ?_
      refine gq (zso (b := bm)) ?_
      refine gq zmv ?_
      refine gq (r_str rfl Ty.sl_36 Ty.un_5 (by kernel_rfl) (fun w hw => hw.rdOld hm)) ?_
      refine gq (r_bool (c := true) zes (decide_eq_true rfl)) ?_
      refine gp zpk ?_
      refine gp zas ?_
      refine gnt ?_
      refine gc_ret ?_
      refine gx_ret1 rfl (by conv => lhs; whnf) ?_
      exact ze ()
    · refine gc_region ?_
      refine gp zmv ?_
      refine gp (r_bool (c := true) zni (by simp [he])) ?_
      refine gnt ?_
      refine gc_condT rfl rfl ?_
      refine gsr ?_
      refine gp zas ?_
      refine gnt ?_
      refine gc_ret ?_
      refine gx_then_ret ?_
      refine gx_ret1 rfl (by conv => lhs; whnf) ?_
      exact ze ()

end Go.Proofs.YtkgbbnhdioghmaaGreatDoor

/- CodecDecodes: for every input the law returns true, and the input reads as it did: the row and its card. -/
namespace Go.Proofs.YtkgbbnhdioghmaaGreatDoor
open Go
open Go.ChangeShapes Go.WideShapes Go.ChangeAt Go.RowKit
set_option linter.unusedVariables false

/-- One world that fits: the settled one, the listed variables as their initialisers lay them. -/
noncomputable def codecDecodes_world (os : Os) : World :=
  let w0 := World.holding Tryz.prog os ⟨#[.cells #[.string ⟨#[113, 117, 111, 114, 97, 116, 101, 58, 32, 114, 97, 110, 103, 101]⟩] 289, .cells #[.string ⟨#[113, 117, 111, 114, 97, 116, 101, 58, 32, 115, 104, 111, 114, 116]⟩] 289, .cells #[.string ⟨#[113, 117, 111, 114, 97, 116, 101, 58, 32, 108, 111, 110, 103]⟩] 289, .cells #[.string ⟨#[113, 117, 111, 114, 97, 116, 101, 58, 32, 102, 111, 114, 109]⟩] 289, .cells #[.string ⟨#[113, 117, 111, 114, 97, 116, 101, 58, 32, 115, 112, 101, 110, 116]⟩] 289, .cells #[.string ⟨#[113, 117, 111, 114, 97, 116, 101, 58, 32, 112, 111, 119, 101, 114]⟩] 289, .cells #[.string ⟨#[113, 117, 111, 114, 97, 116, 101, 58, 32, 100, 105, 115, 107]⟩] 289, .cells #[.string ⟨#[113, 117, 111, 114, 97, 116, 101, 58, 32, 102, 117, 108, 108]⟩] 289, .cells #[.string ⟨#[113, 117, 111, 114, 97, 116, 101, 58, 32, 110, 111, 110, 101]⟩] 289, .cells #[.string ⟨#[113, 117, 111, 114, 97, 116, 101, 58, 32, 111, 108, 100]⟩] 289, .cells #[.string ⟨#[113, 117, 111, 114, 97, 116, 101, 58, 32, 115, 101, 116]⟩] 289, .cells #[.string ⟨#[113, 117, 111, 114, 97, 116, 101, 58, 32, 112, 114, 111, 111, 102]⟩] 289, .cells #[.string ⟨#[113, 117, 111, 114, 97, 116, 101, 58, 32, 108, 101, 97, 100, 101, 114]⟩] 289, .cells #[.string ⟨#[113, 117, 111, 114, 97, 116, 101, 58, 32, 114, 111, 117, 110, 100]⟩] 289, .cells #[.string ⟨#[113, 117, 111, 114, 97, 116, 101, 58, 32, 117, 110, 115, 97, 102, 101]⟩] 289, .cells #[.string ⟨#[113, 117, 111, 114, 97, 116, 101, 58, 32, 112, 97, 114, 101, 110, 116]⟩] 289, .cells #[.string ⟨#[113, 117, 111, 114, 97, 116, 101, 58, 32, 116, 119, 105, 99, 101]⟩] 289, .cells #[.string ⟨#[113, 117, 111, 114, 97, 116, 101, 58, 32, 101, 112, 111, 99, 104]⟩] 289], #[], []⟩
  { w0 with heap := (((((((((((((((((w0.heap.modify 0 fun
      | .cells _ t fz => .cells #[.iface 264 (.pointer (some ⟨lowB + 0, 0, none⟩))] t fz
      | o => o).modify 1 fun
      | .cells _ t fz => .cells #[.iface 264 (.pointer (some ⟨lowB + 1, 0, none⟩))] t fz
      | o => o).modify 2 fun
      | .cells _ t fz => .cells #[.iface 264 (.pointer (some ⟨lowB + 2, 0, none⟩))] t fz
      | o => o).modify 3 fun
      | .cells _ t fz => .cells #[.iface 264 (.pointer (some ⟨lowB + 3, 0, none⟩))] t fz
      | o => o).modify 4 fun
      | .cells _ t fz => .cells #[.iface 264 (.pointer (some ⟨lowB + 4, 0, none⟩))] t fz
      | o => o).modify 5 fun
      | .cells _ t fz => .cells #[.iface 264 (.pointer (some ⟨lowB + 5, 0, none⟩))] t fz
      | o => o).modify 6 fun
      | .cells _ t fz => .cells #[.iface 264 (.pointer (some ⟨lowB + 6, 0, none⟩))] t fz
      | o => o).modify 7 fun
      | .cells _ t fz => .cells #[.iface 264 (.pointer (some ⟨lowB + 7, 0, none⟩))] t fz
      | o => o).modify 8 fun
      | .cells _ t fz => .cells #[.iface 264 (.pointer (some ⟨lowB + 8, 0, none⟩))] t fz
      | o => o).modify 9 fun
      | .cells _ t fz => .cells #[.iface 264 (.pointer (some ⟨lowB + 9, 0, none⟩))] t fz
      | o => o).modify 10 fun
      | .cells _ t fz => .cells #[.iface 264 (.pointer (some ⟨lowB + 10, 0, none⟩))] t fz
      | o => o).modify 11 fun
      | .cells _ t fz => .cells #[.iface 264 (.pointer (some ⟨lowB + 11, 0, none⟩))] t fz
      | o => o).modify 12 fun
      | .cells _ t fz => .cells #[.iface 264 (.pointer (some ⟨lowB + 12, 0, none⟩))] t fz
      | o => o).modify 13 fun
      | .cells _ t fz => .cells #[.iface 264 (.pointer (some ⟨lowB + 13, 0, none⟩))] t fz
      | o => o).modify 14 fun
      | .cells _ t fz => .cells #[.iface 264 (.pointer (some ⟨lowB + 14, 0, none⟩))] t fz
      | o => o).modify 15 fun
      | .cells _ t fz => .cells #[.iface 264 (.pointer (some ⟨lowB + 15, 0, none⟩))] t fz
      | o => o).modify 16 fun
      | .cells _ t fz => .cells #[.iface 264 (.pointer (some ⟨lowB + 16, 0, none⟩))] t fz
      | o => o).modify 17 fun
      | .cells _ t fz => .cells #[.iface 264 (.pointer (some ⟨lowB + 17, 0, none⟩))] t fz
      | o => o }
def codecDecodes_args : Array Value := #[.slice none 0 0]
theorem codecDecodes_laid (os : Os) (args : Array Value) : laidMet Tryz.prog Rows.codecDecodesRow.laid ((codecDecodes_world os).forCall (fun _ _ => 0) ⟨#[], args, []⟩).memory :=
  laidMet_of_run' 8 (by kernel_rfl) (by kernel_rfl)
theorem codecDecodes_reads (os : Os) {H : Type} (enc : TypeId × Value → H) : ∃ places, DataW.whole enc Tryz.prog ((codecDecodes_world os).forCall (fun _ _ => 0) ⟨#[], codecDecodes_args, []⟩).memory Tryz.f5.params.toList Rows.codecDecodesSpec.vars false codecDecodes_args.toList 8 = some ([.nil], [], places) :=
  ⟨[], by kernel_rfl⟩
set_option maxRecDepth 20000 in
theorem codecDecodes_contract (H : Type) (enc : TypeId × Value → H) (W : World) (base : Nat) (args : Array Value) (ds gs : List (DataW H)) (before : List MemPlace)
    (hval : ∀ (j : Nat) t v, Tryz.f5.params[j]? = some t → args[j]? = some v → Value.okWide Tryz.prog W .any base t v)
    (hW : DataW.Whole enc Tryz.prog Tryz.f5.params.toList Rows.codecDecodesSpec.vars false W args.toList ds gs before) (hL : laidMetH Tryz.prog Rows.codecDecodesRow.laid W) :
    Calls Tryz.prog 5 args W fun e W' => ∃ v, e = .returned v ∧ Rows.codecDecodesSpec.post enc Tryz.prog Tryz.f5 false true false false W args v W' := by
  have hW' := hW
  have hlt : ∀ p ∈ before, p.block < W.heap.size := fun p hp => hW.lt p hp
  obtain ⟨p, q, hA0, hV, rfl, hfz, hnd⟩ := hW
  have hA : DataW.TrodAll enc Tryz.prog W 0 (fun _ => true) true Tryz.f5.params.toList args.toList ds p := hA0
  rw [Tryz.params5] at hA hval
  obtain ⟨v0, vs0, d0, ds0, p0, q0, hargs, rfl, rfl, h0, r0⟩ := trodAll_cons hA
  obtain ⟨rfl, rfl, rfl⟩ := trodAll_nil r0
  obtain rfl : args = #[v0] := by cases args; simp_all
  obtain ⟨rfl, rfl⟩ := trodVars_none hV
  obtain ⟨a0, m0, c0, rfl⟩ := okWide_slice (run_sliceT Ty.sl_36) (hval 0 36 v0 rfl rfl)
  obtain ⟨x0, hx0⟩ : ∃ x, RdBytes W TT [.slice a0 m0 c0] x := by obtain ⟨fuel, hf⟩ := h0; exact o_bytes fuel _ _ hf
  have hL' : laidMet Tryz.prog Rows.codecDecodesRow.laid W := hL
  obtain ⟨ea, hN⟩ := laid_nerr (r := []) (show laidMet Tryz.prog (errNames.map errRow ++ []) W from hL')
  have walk := codecDecodes_ok (cm := c0) no_res hN ((rdBytes_row hx0).mv still_id) (rdBytes_le hx0)
  refine Calls.mono (show Calls Tryz.prog 5 #[.slice a0 m0 c0] W _ from walk) fun e W' ⟨_, he, hs⟩ => ?_
  subst he
  have bel := below_of hs
  have eF : Rows.codecDecodesSpec.fn H ([d0] ++ []) = { results := [.lit (.bool true)], args := [d0] } := rfl
  have l0 : ∀ z ∈ p0, z.block < W.heap.size := fun z hz => hlt z (by simp [hz])
  refine ⟨_, rfl, _, _, _, [], p0 ++ ([]), [], hW', ?_, ?_, ?_, bel.frame _, fun h => by cases h⟩
  · rw [eF]; exact trodAll_cons_mk (shut_bool Tryz.underlying4 _) trodAll_mk0
  · rw [eF, Tryz.params5]
    exact trodAll_cons_mk (Below.trod laidOut (by kernel_rfl) (of_decide_eq_true (by kernel_rfl)) h0 bel l0) (trodAll_mk0)
  · rw [eF]; rfl

set_option maxRecDepth 100000 in
theorem codecDecodes_lifted (os : Os) (started : os.Started) (H : Type) (enc : TypeId × Value → H) (F : Stop.Interp) :
    ReturnsInHanded {} Tryz.checked os 5 .any ((OpenSpec.ofChange Rows.codecDecodesSpec).preRow enc Tryz.prog Tryz.f5 Rows.codecDecodesRow.domain false Rows.codecDecodesRow.laid) (((OpenSpec.ofChange Rows.codecDecodesSpec).at F).post enc Tryz.prog Tryz.f5 false true false false) := by
  obtain ⟨places, hx⟩ := codecDecodes_reads os enc
  refine returnsInHanded_of_row (C := Tryz.checked) (s := OpenSpec.ofChange Rows.codecDecodesSpec) own started (by kernel_rfl) Tryz.func5
    (witness_row_atRef (enc := enc) (C := Tryz.checked) false (codecDecodes_world os) codecDecodes_args rfl (by kernel_rfl) (by kernel_rfl) (by kernel_rfl)
      (OpenSpec.preRow_of_cond 8 hx (by kernel_rfl) (fun k hk => by cases hk) (by kernel_rfl) (codecDecodes_laid os _))) ?_
  intro W base args ds gs before hval hW _ _ _ hL _ _
  exact codecDecodes_contract H enc W base args ds gs before hval hW hL

theorem codecDecodes_said : Rows.CodecDecodesSaid :=
  OpenClaim.holds_of_cond 5 Tryz.f5 rfl rfl rfl rfl rfl rfl rfl ⟨rfl, rfl, rfl, rfl, rfl⟩ rfl rfl rfl rfl rfl (by kernel_rfl) Tryz.func5 (by kernel_rfl)
    (of_decide_eq_true (by kernel_rfl)) (by unfold Func.isWrapper; first | (rw [if_pos (by decide +kernel)]; kernel_rfl) | (rw [if_neg (by decide +kernel)]; exact ⟨rfl, rfl⟩))
    (fun os started H enc _ F => by rw [OpenClaim.pre_eq_preRow]; exact codecDecodes_lifted os started H enc F)
theorem codecDecodes_plain (f : FuncId) (fn : Func) (hf : Tryz.pinned.checked.prog.funcNamed "quorate/quoratelaw09.CodecDecodes" = some f) (hfn : Tryz.pinned.checked.prog.funcs[f]? = some fn) :
    true = Tryz.pinned.checked.prog.looks [] ∧ ∀ (j : Nat) t, fn.params[j]? = some t → Tryz.pinned.checked.prog.wantsStandIn t = false := by
  obtain rfl : f = 5 := Option.some.inj ((show Tryz.prog.funcNamed "quorate/quoratelaw09.CodecDecodes" = some 5 by kernel_rfl).symm.trans hf) |>.symm
  obtain rfl : fn = Tryz.f5 := (Option.some.inj (Tryz.func5.symm.trans hfn)).symm
  refine ⟨by kernel_rfl, fun j t ht => ?_⟩
  rw [Tryz.params5] at ht
  have hm := Array.mem_of_getElem? ht
  have h : t = 36 := by simpa using hm
  subst h
  exact (show Tryz.prog.wantsStandIn 36 = false by kernel_rfl)
theorem codecDecodes_holds : Rows.CodecDecodesCardSaid :=
  Claim7.holds_tied_plain_at .later [] _ _ _ _ codecDecodes_said (fun _ h => by cases h) (by kernel_rfl) (fun _ h => by cases h) codecDecodes_row_tie rfl ⟨rfl, rfl⟩ (by kernel_rfl) rfl codecDecodes_plain (by kernel_rfl)
#print axioms codecDecodes_holds
end Go.Proofs.YtkgbbnhdioghmaaGreatDoor

