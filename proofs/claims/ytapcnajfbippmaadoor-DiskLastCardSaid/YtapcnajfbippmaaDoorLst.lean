/- DiskLast: for every input the law returns true, and the input reads as it did: the row and its card. -/
import Derived.Test.YtapcnajfbippmaaDoorCards
import Derived.Test.YtapcnajfbippmaaDoorTie
import Derived.Test.YtapcnajfbippmaaDoorShG
import Derived.Test.YtapcnajfbippmaaDoorDd
import Derived.Deep.DeepHandedRow
import Derived.Deep.DeepWitnessRowRef
namespace Go.Proofs.YtapcnajfbippmaaDoor
open Go
open Go.ChangeShapes Go.WideShapes Go.ChangeAt Go.RowKit
set_option linter.unusedVariables false

/-- One world that fits: the settled one, the listed variables as their initialisers lay them. -/
noncomputable def diskLast_world (os : Os) : World :=
  let w0 := World.holding Tryd.prog os ⟨#[.cells #[.string ⟨#[113, 117, 111, 114, 97, 116, 101, 58, 32, 114, 97, 110, 103, 101]⟩] 133, .cells #[.string ⟨#[113, 117, 111, 114, 97, 116, 101, 58, 32, 112, 111, 119, 101, 114]⟩] 133], #[], []⟩
  { w0 with heap := (w0.heap.modify 0 fun
      | .cells _ t fz => .cells #[.iface 109 (.pointer (some ⟨lowB + 0, 0, none⟩))] t fz
      | o => o).modify 1 fun
      | .cells _ t fz => .cells #[.iface 109 (.pointer (some ⟨lowB + 1, 0, none⟩))] t fz
      | o => o }
def diskLast_args : Array Value := #[.slice none 0 0, .bool false, .slice none 0 0]
theorem diskLast_laid (os : Os) (args : Array Value) : laidMet Tryd.prog Rows.diskLastRow.laid ((diskLast_world os).forCall (fun _ _ => 0) ⟨#[], args, []⟩).memory :=
  laidMet_of_run' 8 (by kernel_rfl) (by kernel_rfl)
theorem diskLast_reads (os : Os) {H : Type} (enc : TypeId × Value → H) : ∃ places, DataW.whole enc Tryd.prog ((diskLast_world os).forCall (fun _ _ => 0) ⟨#[], diskLast_args, []⟩).memory Tryd.f4.params.toList Rows.diskLastSpec.vars false diskLast_args.toList 8 = some ([.nil, .lit (.bool false), .nil], [], places) :=
  ⟨[], by kernel_rfl⟩
set_option maxRecDepth 20000 in
theorem diskLast_contract (H : Type) (enc : TypeId × Value → H) (W : World) (base : Nat) (args : Array Value) (ds gs : List (DataW H)) (before : List MemPlace)
    (hval : ∀ (j : Nat) t v, Tryd.f4.params[j]? = some t → args[j]? = some v → Value.okWide Tryd.prog W .any base t v)
    (hW : DataW.Whole enc Tryd.prog Tryd.f4.params.toList Rows.diskLastSpec.vars false W args.toList ds gs before) (hL : laidMetH Tryd.prog Rows.diskLastRow.laid W) :
    Calls Tryd.prog 4 args W fun e W' => ∃ v, e = .returned v ∧ Rows.diskLastSpec.post enc Tryd.prog Tryd.f4 false true false false W args v W' := by
  have hW' := hW
  have hlt : ∀ p ∈ before, p.block < W.heap.size := fun p hp => hW.lt p hp
  obtain ⟨p, q, hA0, hV, rfl, hfz, hnd⟩ := hW
  have hA : DataW.TrodAll enc Tryd.prog W 0 (fun _ => true) true Tryd.f4.params.toList args.toList ds p := hA0
  rw [Tryd.params4] at hA hval
  obtain ⟨v0, vs0, d0, ds0, p0, q0, hargs, rfl, rfl, h0, r0⟩ := trodAll_cons hA
  obtain ⟨v1, vs1, d1, ds1, p1, q1, rfl, rfl, rfl, h1, r1⟩ := trodAll_cons r0
  obtain ⟨v2, vs2, d2, ds2, p2, q2, rfl, rfl, rfl, h2, r2⟩ := trodAll_cons r1
  obtain ⟨rfl, rfl, rfl⟩ := trodAll_nil r2
  obtain rfl : args = #[v0, v1, v2] := by cases args; simp_all
  obtain ⟨rfl, rfl⟩ := trodVars_none hV
  obtain ⟨a0, m0, c0, rfl⟩ := okWide_slice (run_sliceT Ty.sl_22) (hval 0 22 v0 rfl rfl)
  obtain ⟨x0, hx0⟩ : ∃ x, RdRowC B8 W TT [.slice a0 m0 c0] x := by obtain ⟨fuel, hf⟩ := h0; exact o_rbytes fuel _ _ hf
  obtain ⟨n1, rfl, _, _⟩ := open_bool Tryd.underlying4 (hval 1 4 v1 rfl rfl) h1
  obtain ⟨a2, m2, c2, rfl⟩ := okWide_slice (run_sliceT Ty.sl_23) (hval 2 23 v2 rfl rfl)
  obtain ⟨x2, hx2⟩ : ∃ x, RdRowC Value.bool W TT [.slice a2 m2 c2] x := by obtain ⟨fuel, hf⟩ := h2; exact o_rbools fuel _ _ hf
  have hL' : laidMet Tryd.prog Rows.diskLastRow.laid W := hL
  obtain ⟨a_1, s_1, c_1, _, _⟩ := laid_err (g := 0) hL' (by kernel_rfl) (by kernel_rfl)
  obtain ⟨a_6, s_6, c_6, _, _⟩ := laid_err (g := 1) hL'.tail (by kernel_rfl) (by kernel_rfl)
  have hE : GErr [1, 6] W (fun k => ¬ (fun _ : Nat => False) k) 109 (fun i => if i = 1 then a_1 else a_6) := by
    refine ⟨fun i hi => ?_, fun i _ => id⟩
    simp only [List.mem_cons, List.not_mem_nil, or_false] at hi
    rcases hi with rfl | rfl
    · unfold eV; exact c_1
    · unfold eV; exact c_6
  have walk := diskLast_ok (cl := c0) (ck := c2) (sy := n1) no_res hE (hx0.row.mv still_id) (hx2.row.mv still_id)
  refine Calls.mono (show Calls Tryd.prog 4 #[.slice a0 m0 c0, .bool n1, .slice a2 m2 c2] W _ from walk) fun e W' ⟨_, he, hs⟩ => ?_
  subst he
  have bel := below_of hs
  have eF : Rows.diskLastSpec.fn H ([d0, d1, d2] ++ []) = { results := [.lit (.bool true)], args := [d0, d1, d2] } := rfl
  have l0 : ∀ z ∈ p0, z.block < W.heap.size := fun z hz => hlt z (by simp [hz])
  have l1 : ∀ z ∈ p1, z.block < W.heap.size := fun z hz => hlt z (by simp [hz])
  have l2 : ∀ z ∈ p2, z.block < W.heap.size := fun z hz => hlt z (by simp [hz])
  refine ⟨_, rfl, _, _, _, [], p0 ++ (p1 ++ (p2 ++ ([]))), [], hW', ?_, ?_, ?_, bel.frame _, fun h => by cases h⟩
  · rw [eF]; exact trodAll_cons_mk (shut_bool Tryd.underlying4 _) trodAll_mk0
  · rw [eF, Tryd.params4]
    exact trodAll_cons_mk (Below.trod laidOut (by kernel_rfl) (of_decide_eq_true (by kernel_rfl)) h0 bel l0) (trodAll_cons_mk (Below.trod laidOut (by kernel_rfl) (of_decide_eq_true (by kernel_rfl)) h1 bel l1) (trodAll_cons_mk (Below.trod laidOut (by kernel_rfl) (of_decide_eq_true (by kernel_rfl)) h2 bel l2) (trodAll_mk0)))
  · rw [eF]; rfl

set_option maxRecDepth 100000 in
theorem diskLast_lifted (os : Os) (started : os.Started) (H : Type) (enc : TypeId × Value → H) (F : Stop.Interp) :
    ReturnsInHanded {} Tryd.checked os 4 .any ((OpenSpec.ofChange Rows.diskLastSpec).preRow enc Tryd.prog Tryd.f4 Rows.diskLastRow.domain false Rows.diskLastRow.laid) (((OpenSpec.ofChange Rows.diskLastSpec).at F).post enc Tryd.prog Tryd.f4 false true false false) := by
  obtain ⟨places, hx⟩ := diskLast_reads os enc
  refine returnsInHanded_of_row (C := Tryd.checked) (s := OpenSpec.ofChange Rows.diskLastSpec) own started (by kernel_rfl) Tryd.func4
    (witness_row_atRef (enc := enc) (C := Tryd.checked) false (diskLast_world os) diskLast_args rfl (by kernel_rfl) (by kernel_rfl) (by kernel_rfl)
      (OpenSpec.preRow_of_cond 8 hx (by kernel_rfl) (fun k hk => by cases hk) (by kernel_rfl) (diskLast_laid os _))) ?_
  intro W base args ds gs before hval hW _ _ _ hL _ _
  exact diskLast_contract H enc W base args ds gs before hval hW hL

theorem diskLast_said : Rows.DiskLastSaid :=
  OpenClaim.holds_of_cond 4 Tryd.f4 rfl rfl rfl rfl rfl rfl rfl ⟨rfl, rfl, rfl, rfl, rfl⟩ rfl rfl rfl rfl rfl (by kernel_rfl) Tryd.func4 (by kernel_rfl)
    (of_decide_eq_true (by kernel_rfl)) (by unfold Func.isWrapper; first | (rw [if_pos (by decide +kernel)]; kernel_rfl) | (rw [if_neg (by decide +kernel)]; exact ⟨rfl, rfl⟩))
    (fun os started H enc _ F => by rw [OpenClaim.pre_eq_preRow]; exact diskLast_lifted os started H enc F)
theorem diskLast_plain (f : FuncId) (fn : Func) (hf : Tryd.pinned.checked.prog.funcNamed "quorate/quoratelaw06.DiskLast" = some f) (hfn : Tryd.pinned.checked.prog.funcs[f]? = some fn) :
    true = Tryd.pinned.checked.prog.looks [] ∧ ∀ (j : Nat) t, fn.params[j]? = some t → Tryd.pinned.checked.prog.wantsStandIn t = false := by
  obtain rfl : f = 4 := Option.some.inj ((show Tryd.prog.funcNamed "quorate/quoratelaw06.DiskLast" = some 4 by kernel_rfl).symm.trans hf) |>.symm
  obtain rfl : fn = Tryd.f4 := (Option.some.inj (Tryd.func4.symm.trans hfn)).symm
  refine ⟨by kernel_rfl, fun j t ht => ?_⟩
  rw [Tryd.params4] at ht
  have hm := Array.mem_of_getElem? ht
  have h : t = 22 ∨ t = 4 ∨ t = 23 := by simpa using hm
  rcases h with rfl | rfl | rfl
  · exact (show Tryd.prog.wantsStandIn 22 = false by kernel_rfl)
  · exact (show Tryd.prog.wantsStandIn 4 = false by kernel_rfl)
  · exact (show Tryd.prog.wantsStandIn 23 = false by kernel_rfl)
theorem diskLast_holds : Rows.DiskLastCardSaid :=
  Claim7.holds_tied_plain_at .later [] _ _ _ _ diskLast_said (fun _ h => by cases h) (by kernel_rfl) (fun _ h => by cases h) diskLast_row_tie rfl ⟨rfl, rfl⟩ (by kernel_rfl) rfl diskLast_plain (by kernel_rfl)
#print axioms diskLast_holds
end Go.Proofs.YtapcnajfbippmaaDoor
