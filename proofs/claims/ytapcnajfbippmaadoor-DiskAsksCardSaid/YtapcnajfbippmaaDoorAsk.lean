/- DiskAsks: for every input the law returns true, and the input reads as it did: the row and its card. -/
import Derived.Test.YtapcnajfbippmaaDoorCards
import Derived.Test.YtapcnajfbippmaaDoorTie
import Derived.Test.YtapcnajfbippmaaDoorShG
import Derived.Test.YtapcnajfbippmaaDoorDf
import Derived.Deep.DeepHandedRow
import Derived.Deep.DeepWitnessRowRef
namespace Go.Proofs.YtapcnajfbippmaaDoor
open Go
open Go.ChangeShapes Go.WideShapes Go.ChangeAt Go.RowKit
set_option linter.unusedVariables false

/-- One world that fits: the settled one, the listed variables as their initialisers lay them. -/
noncomputable def diskAsks_world (os : Os) : World :=
  let w0 := World.holding Tryd.prog os ⟨#[.cells #[.string ⟨#[113, 117, 111, 114, 97, 116, 101, 58, 32, 114, 97, 110, 103, 101]⟩] 133, .cells #[.string ⟨#[113, 117, 111, 114, 97, 116, 101, 58, 32, 112, 111, 119, 101, 114]⟩] 133], #[], []⟩
  { w0 with heap := (w0.heap.modify 0 fun
      | .cells _ t fz => .cells #[.iface 109 (.pointer (some ⟨lowB + 0, 0, none⟩))] t fz
      | o => o).modify 1 fun
      | .cells _ t fz => .cells #[.iface 109 (.pointer (some ⟨lowB + 1, 0, none⟩))] t fz
      | o => o }
def diskAsks_args : Array Value := #[.int .i64 0, .slice none 0 0]
theorem diskAsks_laid (os : Os) (args : Array Value) : laidMet Tryd.prog Rows.diskAsksRow.laid ((diskAsks_world os).forCall (fun _ _ => 0) ⟨#[], args, []⟩).memory :=
  laidMet_of_run' 8 (by kernel_rfl) (by kernel_rfl)
theorem diskAsks_reads (os : Os) {H : Type} (enc : TypeId × Value → H) : ∃ places, DataW.whole enc Tryd.prog ((diskAsks_world os).forCall (fun _ _ => 0) ⟨#[], diskAsks_args, []⟩).memory Tryd.f5.params.toList Rows.diskAsksSpec.vars false diskAsks_args.toList 8 = some ([.lit (.int .i64 0), .nil], [], places) :=
  ⟨[], by kernel_rfl⟩
set_option maxRecDepth 20000 in
theorem diskAsks_contract (H : Type) (enc : TypeId × Value → H) (W : World) (base : Nat) (args : Array Value) (ds gs : List (DataW H)) (before : List MemPlace)
    (hval : ∀ (j : Nat) t v, Tryd.f5.params[j]? = some t → args[j]? = some v → Value.okWide Tryd.prog W .any base t v)
    (hW : DataW.Whole enc Tryd.prog Tryd.f5.params.toList Rows.diskAsksSpec.vars false W args.toList ds gs before) (hL : laidMetH Tryd.prog Rows.diskAsksRow.laid W) :
    Calls Tryd.prog 5 args W fun e W' => ∃ v, e = .returned v ∧ Rows.diskAsksSpec.post enc Tryd.prog Tryd.f5 false true false false W args v W' := by
  have hW' := hW
  have hlt : ∀ p ∈ before, p.block < W.heap.size := fun p hp => hW.lt p hp
  obtain ⟨p, q, hA0, hV, rfl, hfz, hnd⟩ := hW
  have hA : DataW.TrodAll enc Tryd.prog W 0 (fun _ => true) true Tryd.f5.params.toList args.toList ds p := hA0
  rw [Tryd.params5] at hA hval
  obtain ⟨v0, vs0, d0, ds0, p0, q0, hargs, rfl, rfl, h0, r0⟩ := trodAll_cons hA
  obtain ⟨v1, vs1, d1, ds1, p1, q1, rfl, rfl, rfl, h1, r1⟩ := trodAll_cons r0
  obtain ⟨rfl, rfl, rfl⟩ := trodAll_nil r1
  obtain rfl : args = #[v0, v1] := by cases args; simp_all
  obtain ⟨rfl, rfl⟩ := trodVars_none hV
  obtain ⟨n0, rfl, _, _, wf0⟩ := open_int Ty.un_3 (hval 0 3 v0 rfl rfl) h0
  obtain ⟨a1, m1, c1, rfl⟩ := okWide_slice (run_sliceT Ty.sl_36) (hval 1 36 v1 rfl rfl)
  obtain ⟨x1, hx1⟩ : ∃ x, RdRowC (Value.int .i64) W TT [.slice a1 m1 c1] x := by obtain ⟨fuel, hf⟩ := h1; exact o_rints fuel _ _ hf
  have hL' : laidMet Tryd.prog Rows.diskAsksRow.laid W := hL
  obtain ⟨a_1, s_1, c_1, _, _⟩ := laid_err (g := 0) hL' (by kernel_rfl) (by kernel_rfl)
  obtain ⟨a_6, s_6, c_6, _, _⟩ := laid_err (g := 1) hL'.tail (by kernel_rfl) (by kernel_rfl)
  have hE : GErr [1, 6] W (fun k => ¬ (fun _ : Nat => False) k) 109 (fun i => if i = 1 then a_1 else a_6) := by
    refine ⟨fun i hi => ?_, fun i _ => id⟩
    simp only [List.mem_cons, List.not_mem_nil, or_false] at hi
    rcases hi with rfl | rfl
    · unfold eV; exact c_1
    · unfold eV; exact c_6
  have walk := diskAsks_ok (n0 := n0) (cr := c1) no_res hE (hx1.row.mv still_id)
  refine Calls.mono (show Calls Tryd.prog 5 #[.int .i64 n0, .slice a1 m1 c1] W _ from walk) fun e W' ⟨_, he, hs⟩ => ?_
  subst he
  have bel := below_of hs
  have eF : Rows.diskAsksSpec.fn H ([d0, d1] ++ []) = { results := [.lit (.bool true)], args := [d0, d1] } := rfl
  have l0 : ∀ z ∈ p0, z.block < W.heap.size := fun z hz => hlt z (by simp [hz])
  have l1 : ∀ z ∈ p1, z.block < W.heap.size := fun z hz => hlt z (by simp [hz])
  refine ⟨_, rfl, _, _, _, [], p0 ++ (p1 ++ ([])), [], hW', ?_, ?_, ?_, bel.frame _, fun h => by cases h⟩
  · rw [eF]; exact trodAll_cons_mk (shut_bool Tryd.underlying4 _) trodAll_mk0
  · rw [eF, Tryd.params5]
    exact trodAll_cons_mk (Below.trod laidOut (by kernel_rfl) (of_decide_eq_true (by kernel_rfl)) h0 bel l0) (trodAll_cons_mk (Below.trod laidOut (by kernel_rfl) (of_decide_eq_true (by kernel_rfl)) h1 bel l1) (trodAll_mk0))
  · rw [eF]; rfl

set_option maxRecDepth 100000 in
theorem diskAsks_lifted (os : Os) (started : os.Started) (H : Type) (enc : TypeId × Value → H) (F : Stop.Interp) :
    ReturnsInHanded {} Tryd.checked os 5 .any ((OpenSpec.ofChange Rows.diskAsksSpec).preRow enc Tryd.prog Tryd.f5 Rows.diskAsksRow.domain false Rows.diskAsksRow.laid) (((OpenSpec.ofChange Rows.diskAsksSpec).at F).post enc Tryd.prog Tryd.f5 false true false false) := by
  obtain ⟨places, hx⟩ := diskAsks_reads os enc
  refine returnsInHanded_of_row (C := Tryd.checked) (s := OpenSpec.ofChange Rows.diskAsksSpec) own started (by kernel_rfl) Tryd.func5
    (witness_row_atRef (enc := enc) (C := Tryd.checked) false (diskAsks_world os) diskAsks_args rfl (by kernel_rfl) (by kernel_rfl) (by kernel_rfl)
      (OpenSpec.preRow_of_cond 8 hx (by kernel_rfl) (fun k hk => by cases hk) (by kernel_rfl) (diskAsks_laid os _))) ?_
  intro W base args ds gs before hval hW _ _ _ hL _ _
  exact diskAsks_contract H enc W base args ds gs before hval hW hL

theorem diskAsks_said : Rows.DiskAsksSaid :=
  OpenClaim.holds_of_cond 5 Tryd.f5 rfl rfl rfl rfl rfl rfl rfl ⟨rfl, rfl, rfl, rfl, rfl⟩ rfl rfl rfl rfl rfl (by kernel_rfl) Tryd.func5 (by kernel_rfl)
    (of_decide_eq_true (by kernel_rfl)) (by unfold Func.isWrapper; first | (rw [if_pos (by decide +kernel)]; kernel_rfl) | (rw [if_neg (by decide +kernel)]; exact ⟨rfl, rfl⟩))
    (fun os started H enc _ F => by rw [OpenClaim.pre_eq_preRow]; exact diskAsks_lifted os started H enc F)
theorem diskAsks_plain (f : FuncId) (fn : Func) (hf : Tryd.pinned.checked.prog.funcNamed "quorate/quoratelaw06.DiskAsks" = some f) (hfn : Tryd.pinned.checked.prog.funcs[f]? = some fn) :
    true = Tryd.pinned.checked.prog.looks [] ∧ ∀ (j : Nat) t, fn.params[j]? = some t → Tryd.pinned.checked.prog.wantsStandIn t = false := by
  obtain rfl : f = 5 := Option.some.inj ((show Tryd.prog.funcNamed "quorate/quoratelaw06.DiskAsks" = some 5 by kernel_rfl).symm.trans hf) |>.symm
  obtain rfl : fn = Tryd.f5 := (Option.some.inj (Tryd.func5.symm.trans hfn)).symm
  refine ⟨by kernel_rfl, fun j t ht => ?_⟩
  rw [Tryd.params5] at ht
  have hm := Array.mem_of_getElem? ht
  have h : t = 3 ∨ t = 36 := by simpa using hm
  rcases h with rfl | rfl
  · exact (show Tryd.prog.wantsStandIn 3 = false by kernel_rfl)
  · exact (show Tryd.prog.wantsStandIn 36 = false by kernel_rfl)
theorem diskAsks_holds : Rows.DiskAsksCardSaid :=
  Claim7.holds_tied_plain_at .later [] _ _ _ _ diskAsks_said (fun _ h => by cases h) (by kernel_rfl) (fun _ h => by cases h) diskAsks_row_tie rfl ⟨rfl, rfl⟩ (by kernel_rfl) rfl diskAsks_plain (by kernel_rfl)
#print axioms diskAsks_holds
end Go.Proofs.YtapcnajfbippmaaDoor
