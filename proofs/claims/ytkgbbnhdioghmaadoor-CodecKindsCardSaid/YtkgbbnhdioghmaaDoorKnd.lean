/- CodecKinds: for every input the law returns true, and the input reads as it did: the row and its card. -/
import Derived.Test.YtkgbbnhdioghmaaDoorCards
import Derived.Test.YtkgbbnhdioghmaaDoorTie
import Derived.Test.YtkgbbnhdioghmaaDoorShC
import Derived.Test.YtkgbbnhdioghmaaDoorKd
import Derived.Deep.DeepHandedRow
import Derived.Deep.DeepWitnessRowRef
namespace Go.Proofs.YtkgbbnhdioghmaaDoor
open Go
open Go.ChangeShapes Go.WideShapes Go.ChangeAt Go.RowKit
set_option linter.unusedVariables false

/-- One world that fits: the settled one, the listed variables as their initialisers lay them. -/
noncomputable def codecKinds_world (os : Os) : World :=
  let w0 := World.holding Tryd.prog os ⟨#[.cells #[.string ⟨#[113, 117, 111, 114, 97, 116, 101, 58, 32, 114, 97, 110, 103, 101]⟩] 272, .cells #[.string ⟨#[113, 117, 111, 114, 97, 116, 101, 58, 32, 115, 104, 111, 114, 116]⟩] 272, .cells #[.string ⟨#[113, 117, 111, 114, 97, 116, 101, 58, 32, 108, 111, 110, 103]⟩] 272, .cells #[.string ⟨#[113, 117, 111, 114, 97, 116, 101, 58, 32, 102, 111, 114, 109]⟩] 272], #[], []⟩
  { w0 with heap := (((w0.heap.modify 1 fun
      | .cells _ t fz => .cells #[.iface 246 (.pointer (some ⟨lowB + 0, 0, none⟩))] t fz
      | o => o).modify 2 fun
      | .cells _ t fz => .cells #[.iface 246 (.pointer (some ⟨lowB + 1, 0, none⟩))] t fz
      | o => o).modify 3 fun
      | .cells _ t fz => .cells #[.iface 246 (.pointer (some ⟨lowB + 2, 0, none⟩))] t fz
      | o => o).modify 0 fun
      | .cells _ t fz => .cells #[.iface 246 (.pointer (some ⟨lowB + 3, 0, none⟩))] t fz
      | o => o }
def codecKinds_args : Array Value := #[.agg (msgC 0 dig0 dig0).toArray]
theorem codecKinds_laid (os : Os) (args : Array Value) : laidMet Tryd.prog Rows.codecKindsRow.laid ((codecKinds_world os).forCall (fun _ _ => 0) ⟨#[], args, []⟩).memory :=
  laidMet_of_run' 8 (by kernel_rfl) (by kernel_rfl)
theorem codecKinds_reads (os : Os) {H : Type} (enc : TypeId × Value → H) : ∃ places, DataW.whole enc Tryd.prog ((codecKinds_world os).forCall (fun _ _ => 0) ⟨#[], codecKinds_args, []⟩).memory Tryd.f5.params.toList Rows.codecKindsSpec.vars false codecKinds_args.toList 8 = some ([msgD], [], places) :=
  ⟨[], by kernel_rfl⟩
set_option maxRecDepth 20000 in
theorem codecKinds_contract (H : Type) (enc : TypeId × Value → H) (W : World) (base : Nat) (args : Array Value) (ds gs : List (DataW H)) (before : List MemPlace)
    (hval : ∀ (j : Nat) t v, Tryd.f5.params[j]? = some t → args[j]? = some v → Value.okWide Tryd.prog W .any base t v)
    (hW : DataW.Whole enc Tryd.prog Tryd.f5.params.toList Rows.codecKindsSpec.vars false W args.toList ds gs before) (hL : laidMetH Tryd.prog Rows.codecKindsRow.laid W) :
    Calls Tryd.prog 5 args W fun e W' => ∃ v, e = .returned v ∧ Rows.codecKindsSpec.post enc Tryd.prog Tryd.f5 false true false false W args v W' := by
  have hW' := hW
  have hlt : ∀ p ∈ before, p.block < W.heap.size := fun p hp => hW.lt p hp
  obtain ⟨p, q, hA0, hV, rfl, hfz, hnd⟩ := hW
  have hA : DataW.TrodAll enc Tryd.prog W 0 (fun _ => true) true Tryd.f5.params.toList args.toList ds p := hA0
  rw [Tryd.params5] at hA hval
  obtain ⟨v0, vs0, d0, ds0, p0, q0, hargs, rfl, rfl, h0, r0⟩ := trodAll_cons hA
  obtain ⟨rfl, rfl, rfl⟩ := trodAll_nil r0
  obtain rfl : args = #[v0] := by cases args; simp_all
  obtain ⟨rfl, rfl⟩ := trodVars_none hV
  obtain ⟨x0, hx0⟩ : ∃ x, RdMsg W TT v0.cells.toList x := by obtain ⟨fuel, hf⟩ := h0; exact o_msg fuel _ _ hf
  have e0 := agg_of_len (n := 304) hx0.len (by decide)
  have hL' : laidMet Tryd.prog Rows.codecKindsRow.laid W := hL
  obtain ⟨a_1, s_1, c_1, _, _⟩ := laid_err (g := 1) hL' (by kernel_rfl) (by kernel_rfl)
  obtain ⟨a_2, s_2, c_2, _, _⟩ := laid_err (g := 2) hL'.tail (by kernel_rfl) (by kernel_rfl)
  obtain ⟨a_3, s_3, c_3, _, _⟩ := laid_err (g := 3) hL'.tail.tail (by kernel_rfl) (by kernel_rfl)
  obtain ⟨a_4, s_4, c_4, _, _⟩ := laid_err (g := 0) hL'.tail.tail.tail (by kernel_rfl) (by kernel_rfl)
  have hE : GErr [1, 2, 3, 4] W (fun k => ¬ (fun _ : Nat => False) k) 246 (fun i => if i = 1 then a_1 else if i = 2 then a_2 else if i = 3 then a_3 else a_4) := by
    refine ⟨fun i hi => ?_, fun i _ => id⟩
    simp only [List.mem_cons, List.not_mem_nil, or_false] at hi
    rcases hi with rfl | rfl | rfl | rfl
    · unfold eV; exact c_1
    · unfold eV; exact c_2
    · unfold eV; exact c_3
    · unfold eV; exact c_4
  have walk := codecKinds_ok (TE := 246) no_res hE (hx0.mv still_id)
  rw [← e0] at walk
  refine Calls.mono (show Calls Tryd.prog 5 #[v0] W _ from walk) fun e W' ⟨_, he, hs⟩ => ?_
  subst he
  have bel := below_of hs
  have eF : Rows.codecKindsSpec.fn H ([d0] ++ []) = { results := [.lit (.bool true)], args := [d0] } := rfl
  have l0 : ∀ z ∈ p0, z.block < W.heap.size := fun z hz => hlt z (by simp [hz])
  refine ⟨_, rfl, _, _, _, [], p0 ++ ([]), [], hW', ?_, ?_, ?_, bel.frame _, fun h => by cases h⟩
  · rw [eF]; exact trodAll_cons_mk (shut_bool Tryd.underlying4 _) trodAll_mk0
  · rw [eF, Tryd.params5]
    exact trodAll_cons_mk (Below.trod laidOut (by kernel_rfl) (of_decide_eq_true (by kernel_rfl)) h0 bel l0) (trodAll_mk0)
  · rw [eF]; rfl

set_option maxRecDepth 100000 in
theorem codecKinds_lifted (os : Os) (started : os.Started) (H : Type) (enc : TypeId × Value → H) (F : Stop.Interp) :
    ReturnsInHanded {} Tryd.checked os 5 .any ((OpenSpec.ofChange Rows.codecKindsSpec).preRow enc Tryd.prog Tryd.f5 Rows.codecKindsRow.domain false Rows.codecKindsRow.laid) (((OpenSpec.ofChange Rows.codecKindsSpec).at F).post enc Tryd.prog Tryd.f5 false true false false) := by
  obtain ⟨places, hx⟩ := codecKinds_reads os enc
  refine returnsInHanded_of_row (C := Tryd.checked) (s := OpenSpec.ofChange Rows.codecKindsSpec) own started (by kernel_rfl) Tryd.func5
    (witness_row_atRef (enc := enc) (C := Tryd.checked) false (codecKinds_world os) codecKinds_args rfl (by kernel_rfl) (by kernel_rfl) (by kernel_rfl)
      (OpenSpec.preRow_of_cond 8 hx (by kernel_rfl) (fun k hk => by cases hk) (by kernel_rfl) (codecKinds_laid os _))) ?_
  intro W base args ds gs before hval hW _ _ _ hL _ _
  exact codecKinds_contract H enc W base args ds gs before hval hW hL

theorem codecKinds_said : Rows.CodecKindsSaid :=
  OpenClaim.holds_of_cond 5 Tryd.f5 rfl rfl rfl rfl rfl rfl rfl ⟨rfl, rfl, rfl, rfl, rfl⟩ rfl rfl rfl rfl rfl (by kernel_rfl) Tryd.func5 (by kernel_rfl)
    (of_decide_eq_true (by kernel_rfl)) (by unfold Func.isWrapper; first | (rw [if_pos (by decide +kernel)]; kernel_rfl) | (rw [if_neg (by decide +kernel)]; exact ⟨rfl, rfl⟩))
    (fun os started H enc _ F => by rw [OpenClaim.pre_eq_preRow]; exact codecKinds_lifted os started H enc F)
theorem codecKinds_plain (f : FuncId) (fn : Func) (hf : Tryd.pinned.checked.prog.funcNamed "quorate/quoratelaw09.CodecKinds" = some f) (hfn : Tryd.pinned.checked.prog.funcs[f]? = some fn) :
    true = Tryd.pinned.checked.prog.looks [] ∧ ∀ (j : Nat) t, fn.params[j]? = some t → Tryd.pinned.checked.prog.wantsStandIn t = false := by
  obtain rfl : f = 5 := Option.some.inj ((show Tryd.prog.funcNamed "quorate/quoratelaw09.CodecKinds" = some 5 by kernel_rfl).symm.trans hf) |>.symm
  obtain rfl : fn = Tryd.f5 := (Option.some.inj (Tryd.func5.symm.trans hfn)).symm
  refine ⟨by kernel_rfl, fun j t ht => ?_⟩
  rw [Tryd.params5] at ht
  have hm := Array.mem_of_getElem? ht
  have h : t = 67 := by simpa using hm
  subst h
  exact (show Tryd.prog.wantsStandIn 67 = false by kernel_rfl)
theorem codecKinds_holds : Rows.CodecKindsCardSaid :=
  Claim7.holds_tied_plain_at .later [] _ _ _ _ codecKinds_said (fun _ h => by cases h) (by kernel_rfl) (fun _ h => by cases h) codecKinds_row_tie rfl ⟨rfl, rfl⟩ (by kernel_rfl) rfl codecKinds_plain (by kernel_rfl)
#print axioms codecKinds_holds
end Go.Proofs.YtkgbbnhdioghmaaDoor
