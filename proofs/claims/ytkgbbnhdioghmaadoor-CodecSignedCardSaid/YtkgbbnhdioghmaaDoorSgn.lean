/- CodecSigned: for every input the law returns true, and the input reads as it did: the row and its card. -/
import Derived.Test.YtkgbbnhdioghmaaDoorCards
import Derived.Test.YtkgbbnhdioghmaaDoorTie
import Derived.Test.YtkgbbnhdioghmaaDoorShC
import Derived.Test.YtkgbbnhdioghmaaDoorNd
import Derived.Deep.DeepHandedRow
import Derived.Deep.DeepWitnessRowRef
namespace Go.Proofs.YtkgbbnhdioghmaaDoor
open Go
open Go.ChangeShapes Go.WideShapes Go.ChangeAt Go.RowKit
set_option linter.unusedVariables false

/-- One world that fits: the settled one, the listed variables as their initialisers lay them. -/
noncomputable def codecSigned_world (os : Os) : World :=
  let w0 := World.holding Tryd.prog os ⟨#[.cells #[.string ⟨#[113, 117, 111, 114, 97, 116, 101, 58, 32, 114, 97, 110, 103, 101]⟩] 272, .cells #[.string ⟨#[113, 117, 111, 114, 97, 116, 101, 58, 32, 102, 111, 114, 109]⟩] 272], #[], []⟩
  { w0 with heap := ((w0.heap.modify 1 fun
      | .cells _ t fz => .cells #[.iface 246 (.pointer (some ⟨lowB + 0, 0, none⟩))] t fz
      | o => o).modify 0 fun
      | .cells _ t fz => .cells #[.iface 246 (.pointer (some ⟨lowB + 1, 0, none⟩))] t fz
      | o => o).modify 18 fun
      | .cells _ t fz => .cells (kc.map W32).toArray t fz
      | o => o }
def codecSigned_args : Array Value := #[.int .i64 0, .int .i64 0, .agg (dc dig0).toArray]
theorem codecSigned_laid (os : Os) (args : Array Value) : laidMet Tryd.prog Rows.codecSignedRow.laid ((codecSigned_world os).forCall (fun _ _ => 0) ⟨#[], args, []⟩).memory :=
  laidMet_of_run' 8 (by kernel_rfl) (by kernel_rfl)
theorem codecSigned_reads (os : Os) {H : Type} (enc : TypeId × Value → H) : ∃ places, DataW.whole enc Tryd.prog ((codecSigned_world os).forCall (fun _ _ => 0) ⟨#[], codecSigned_args, []⟩).memory Tryd.f4.params.toList Rows.codecSignedSpec.vars false codecSigned_args.toList 8 = some ([.lit (.int .i64 0), .lit (.int .i64 0), digD], [], places) :=
  ⟨[], by kernel_rfl⟩
set_option maxRecDepth 20000 in
theorem codecSigned_contract (H : Type) (enc : TypeId × Value → H) (W : World) (base : Nat) (args : Array Value) (ds gs : List (DataW H)) (before : List MemPlace)
    (hval : ∀ (j : Nat) t v, Tryd.f4.params[j]? = some t → args[j]? = some v → Value.okWide Tryd.prog W .any base t v)
    (hW : DataW.Whole enc Tryd.prog Tryd.f4.params.toList Rows.codecSignedSpec.vars false W args.toList ds gs before) (hL : laidMetH Tryd.prog Rows.codecSignedRow.laid W) :
    Calls Tryd.prog 4 args W fun e W' => ∃ v, e = .returned v ∧ Rows.codecSignedSpec.post enc Tryd.prog Tryd.f4 false true false false W args v W' := by
  have hW' := hW
  have hlt : ∀ p ∈ before, p.block < W.heap.size := fun p hp => hW.lt p hp
  obtain ⟨p, q, hA0, hV, rfl, hfz, hnd⟩ := hW
  have hA : DataW.TrodAll enc Tryd.prog W 0 (fun _ => true) true Tryd.f4.params.toList args.toList ds p := hA0
  rw [Tryd.params4] at hA hval
  obtain ⟨v0, vs0, d0, ds0, p0, q0, hargs, rfl, rfl, h0, r0⟩ := trodAll_cons hA
  obtain ⟨v1, vs1, d1, ds1, p1, q1, rfl, rfl, rfl, h1, r1⟩ := trodAll_cons r0
  obtain ⟨v2, vs2, d2, ds2, p2, q2, rfl, rfl, rfl, h2, r2⟩ := trodAll_cons r1
  obtain ⟨rfl, rfl, rfl⟩ := trodAll_nil r2
  obtain rfl : args = #[v0, v1, v2] := by cases args; simp_all
  obtain ⟨rfl, rfl⟩ := trodVars_none hV
  obtain ⟨n0, rfl, _, _, wf0⟩ := open_int Ty.un_3 (hval 0 3 v0 rfl rfl) h0
  obtain ⟨n1, rfl, _, _, wf1⟩ := open_int Ty.un_3 (hval 1 3 v1 rfl rfl) h1
  obtain ⟨x2, hx2⟩ : ∃ x, RdDig v2.cells.toList x := by obtain ⟨fuel, hf⟩ := h2; exact o_dig fuel _ _ hf
  have e2 := agg_of_len (n := 16) (by rw [show v2.cells.toList = dc x2 from hx2]; exact dc_length _) (by decide)
  rw [show v2.cells.toList = dc x2 from hx2] at e2
  have hL' : laidMet Tryd.prog Rows.codecSignedRow.laid W := hL
  obtain ⟨a_1, s_1, c_1, _, _⟩ := laid_err (g := 1) hL' (by kernel_rfl) (by kernel_rfl)
  obtain ⟨a_4, s_4, c_4, _, _⟩ := laid_err (g := 0) hL'.tail (by kernel_rfl) (by kernel_rfl)
  have hK := laid_kr hL'.tail.tail
  have hE : GErr [1, 4] W (fun k => ¬ (fun _ : Nat => False) k) 246 (fun i => if i = 1 then a_1 else a_4) := by
    refine ⟨fun i hi => ?_, fun i _ => id⟩
    simp only [List.mem_cons, List.not_mem_nil, or_false] at hi
    rcases hi with rfl | rfl
    · unfold eV; exact c_1
    · unfold eV; exact c_4
  have walk := codecSigned_ok (epoch := n0) (round := n1) (d := x2) (TE := 246) no_res hE hK
  rw [← e2] at walk
  refine Calls.mono (show Calls Tryd.prog 4 #[.int .i64 n0, .int .i64 n1, v2] W _ from walk) fun e W' ⟨_, he, hs⟩ => ?_
  subst he
  have bel := below_of hs
  have eF : Rows.codecSignedSpec.fn H ([d0, d1, d2] ++ []) = { results := [.lit (.bool true)], args := [d0, d1, d2] } := rfl
  have l0 : ∀ z ∈ p0, z.block < W.heap.size := fun z hz => hlt z (by simp [hz])
  have l1 : ∀ z ∈ p1, z.block < W.heap.size := fun z hz => hlt z (by simp [hz])
  have l2 : ∀ z ∈ p2, z.block < W.heap.size := fun z hz => hlt z (by simp [hz])
  refine ⟨_, rfl, _, _, _, [], p0 ++ (p1 ++ (p2 ++ ([]))), [], hW', ?_, ?_, ?_, bel.frame _, fun h => by cases h⟩
  · rw [eF]; exact trodAll_cons_mk (shut_bool Tryd.underlying4 _) trodAll_mk0
  · rw [eF, Tryd.params4]
    exact trodAll_cons_mk (Below.trod laidOut (by kernel_rfl) (of_decide_eq_true (by kernel_rfl)) h0 bel l0) (trodAll_cons_mk (Below.trod laidOut (by kernel_rfl) (of_decide_eq_true (by kernel_rfl)) h1 bel l1) (trodAll_cons_mk (Below.trod laidOut (by kernel_rfl) (of_decide_eq_true (by kernel_rfl)) h2 bel l2) (trodAll_mk0)))
  · rw [eF]; rfl

set_option maxRecDepth 100000 in
theorem codecSigned_lifted (os : Os) (started : os.Started) (H : Type) (enc : TypeId × Value → H) (F : Stop.Interp) :
    ReturnsInHanded {} Tryd.checked os 4 .any ((OpenSpec.ofChange Rows.codecSignedSpec).preRow enc Tryd.prog Tryd.f4 Rows.codecSignedRow.domain false Rows.codecSignedRow.laid) (((OpenSpec.ofChange Rows.codecSignedSpec).at F).post enc Tryd.prog Tryd.f4 false true false false) := by
  obtain ⟨places, hx⟩ := codecSigned_reads os enc
  refine returnsInHanded_of_row (C := Tryd.checked) (s := OpenSpec.ofChange Rows.codecSignedSpec) own started (by kernel_rfl) Tryd.func4
    (witness_row_atRef (enc := enc) (C := Tryd.checked) false (codecSigned_world os) codecSigned_args rfl (by kernel_rfl) (by kernel_rfl) (by kernel_rfl)
      (OpenSpec.preRow_of_cond 8 hx (by kernel_rfl) (fun k hk => by cases hk) (by kernel_rfl) (codecSigned_laid os _))) ?_
  intro W base args ds gs before hval hW _ _ _ hL _ _
  exact codecSigned_contract H enc W base args ds gs before hval hW hL

theorem codecSigned_said : Rows.CodecSignedSaid :=
  OpenClaim.holds_of_cond 4 Tryd.f4 rfl rfl rfl rfl rfl rfl rfl ⟨rfl, rfl, rfl, rfl, rfl⟩ rfl rfl rfl rfl rfl (by kernel_rfl) Tryd.func4 (by kernel_rfl)
    (of_decide_eq_true (by kernel_rfl)) (by unfold Func.isWrapper; first | (rw [if_pos (by decide +kernel)]; kernel_rfl) | (rw [if_neg (by decide +kernel)]; exact ⟨rfl, rfl⟩))
    (fun os started H enc _ F => by rw [OpenClaim.pre_eq_preRow]; exact codecSigned_lifted os started H enc F)
theorem codecSigned_plain (f : FuncId) (fn : Func) (hf : Tryd.pinned.checked.prog.funcNamed "quorate/quoratelaw09.CodecSigned" = some f) (hfn : Tryd.pinned.checked.prog.funcs[f]? = some fn) :
    true = Tryd.pinned.checked.prog.looks [] ∧ ∀ (j : Nat) t, fn.params[j]? = some t → Tryd.pinned.checked.prog.wantsStandIn t = false := by
  obtain rfl : f = 4 := Option.some.inj ((show Tryd.prog.funcNamed "quorate/quoratelaw09.CodecSigned" = some 4 by kernel_rfl).symm.trans hf) |>.symm
  obtain rfl : fn = Tryd.f4 := (Option.some.inj (Tryd.func4.symm.trans hfn)).symm
  refine ⟨by kernel_rfl, fun j t ht => ?_⟩
  rw [Tryd.params4] at ht
  have hm := Array.mem_of_getElem? ht
  have h : t = 3 ∨ t = 3 ∨ t = 23 := by simpa using hm
  rcases h with rfl | rfl | rfl
  · exact (show Tryd.prog.wantsStandIn 3 = false by kernel_rfl)
  · exact (show Tryd.prog.wantsStandIn 3 = false by kernel_rfl)
  · exact (show Tryd.prog.wantsStandIn 23 = false by kernel_rfl)
theorem codecSigned_holds : Rows.CodecSignedCardSaid :=
  Claim7.holds_tied_plain_at .later [] _ _ _ _ codecSigned_said (fun _ h => by cases h) (by kernel_rfl) (fun _ h => by cases h) codecSigned_row_tie rfl ⟨rfl, rfl⟩ (by kernel_rfl) rfl codecSigned_plain (by kernel_rfl)
#print axioms codecSigned_holds
end Go.Proofs.YtkgbbnhdioghmaaDoor
