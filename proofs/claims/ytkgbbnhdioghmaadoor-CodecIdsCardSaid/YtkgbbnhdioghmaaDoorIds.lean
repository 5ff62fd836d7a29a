/- CodecIds: the row and its card. -/
import Derived.Test.YtkgbbnhdioghmaaDoorCards
import Derived.Test.YtkgbbnhdioghmaaDoorTie
import Derived.Test.YtkgbbnhdioghmaaDoorShC
import Derived.Test.YtkgbbnhdioghmaaDoorIa
import Derived.Deep.DeepHandedRow
import Derived.Deep.DeepWitnessRowRef
namespace Go.Proofs.YtkgbbnhdioghmaaDoor
open Go
open Go.ChangeShapes Go.WideShapes Go.ChangeAt Go.RowKit
set_option linter.unusedVariables false

abbrev rangeS : ByteArray := ⟨#[113, 117, 111, 114, 97, 116, 101, 58, 32, 114, 97, 110, 103, 101]⟩
abbrev formS : ByteArray := ⟨#[113, 117, 111, 114, 97, 116, 101, 58, 32, 102, 111, 114, 109]⟩
noncomputable def lowB : Nat := (World.holding Tryd.prog default ⟨#[], #[], []⟩).heap.size
/-- One world that fits: the settled one, the listed variables as their initialisers lay them. -/
noncomputable def idsWorld (os : Os) : World :=
  let w0 := World.holding Tryd.prog os ⟨#[.cells #[.string rangeS] 272, .cells #[.string formS] 272], #[], []⟩
  { w0 with heap := ((w0.heap.modify 1 fun
      | .cells _ t fz => .cells #[.iface 246 (.pointer (some ⟨lowB, 0, none⟩))] t fz
      | o => o).modify 0 fun
      | .cells _ t fz => .cells #[.iface 246 (.pointer (some ⟨lowB + 1, 0, none⟩))] t fz
      | o => o).modify 18 fun
      | .cells _ t fz => .cells (kc.map W32).toArray t fz
      | o => o }
def blkV : Value := .agg blkC.toArray
theorem ids_laid_met (os : Os) (args : Array Value) : laidMet Tryd.prog Rows.codecIdsRow.laid ((idsWorld os).forCall (fun _ _ => 0) ⟨#[], args, []⟩).memory :=
  laidMet_of_run' 8 (by kernel_rfl) (by kernel_rfl)
def digD {H : Type} : DataW H := .agg (List.replicate 16 (.lit (.int .u8 0)))
def zI {H : Type} : DataW H := .lit (.int .i64 0)
def qcD {H : Type} : DataW H := .agg [zI, zI, digD, .nil]
def blkD {H : Type} : DataW H := .agg [zI, zI, digD, qcD, .nil, .nil]
theorem ids_reads (os : Os) {H : Type} (enc : TypeId × Value → H) : ∃ places, DataW.whole enc Tryd.prog ((idsWorld os).forCall (fun _ _ => 0) ⟨#[], #[blkV, blkV], []⟩).memory Tryd.f3.params.toList Rows.codecIdsSpec.vars false #[blkV, blkV].toList 8 = some ([blkD, blkD], [], places) :=
  ⟨[], by kernel_rfl⟩

theorem ids_contract (H : Type) (enc : TypeId × Value → H) (W : World) (base : Nat) (args : Array Value) (ds gs : List (DataW H)) (before : List MemPlace)
    (hval : ∀ (j : Nat) t v, Tryd.f3.params[j]? = some t → args[j]? = some v → Value.okWide Tryd.prog W .any base t v)
    (hW : DataW.Whole enc Tryd.prog Tryd.f3.params.toList Rows.codecIdsSpec.vars false W args.toList ds gs before) (hL : laidMetH Tryd.prog Rows.codecIdsRow.laid W) :
    Calls Tryd.prog 3 args W fun e W' => ∃ v, e = .returned v ∧ Rows.codecIdsSpec.post enc Tryd.prog Tryd.f3 false true false false W args v W' := by
  have hW' := hW
  have hlt : ∀ p ∈ before, p.block < W.heap.size := fun p hp => hW.lt p hp
  obtain ⟨p, q, hA0, hV, rfl, hfz, hnd⟩ := hW
  have hA : DataW.TrodAll enc Tryd.prog W 0 (fun _ => true) true Tryd.f3.params.toList args.toList ds p := hA0
  rw [Tryd.params3] at hA hval
  obtain ⟨v0, vs0, d0, ds0, p0, q0, hargs, rfl, rfl, h0, r0⟩ := trodAll_cons hA
  obtain ⟨v1, vs1, d1, ds1, p1, q1, rfl, rfl, rfl, h1, r1⟩ := trodAll_cons r0
  obtain ⟨rfl, rfl, rfl⟩ := trodAll_nil r1
  obtain rfl : args = #[v0, v1] := by cases args; simp_all
  obtain ⟨rfl, rfl⟩ := trodVars_none hV
  obtain ⟨x, hx⟩ : ∃ x, RdBlock W TT v0.cells.toList x := by obtain ⟨fuel, hf⟩ := h0; exact o_block fuel _ _ hf
  obtain ⟨y, hy⟩ : ∃ x, RdBlock W TT v1.cells.toList x := by obtain ⟨fuel, hf⟩ := h1; exact o_block fuel _ _ hf
  have hL' : laidMet Tryd.prog Rows.codecIdsRow.laid W := hL
  obtain ⟨a1, s1, c1, _, _⟩ := laid_err (g := 1) hL' (by kernel_rfl) (by kernel_rfl)
  obtain ⟨a4, s4, c4, _, _⟩ := laid_err (g := 0) hL'.tail (by kernel_rfl) (by kernel_rfl)
  have hK := laid_kr hL'.tail.tail
  have hE : GErr [1, 4] W (fun k => ¬ (fun _ : Nat => False) k) 246 (fun i => if i = 1 then a1 else a4) := by
    refine ⟨fun i hi => ?_, fun i _ => id⟩
    simp only [List.mem_cons, List.not_mem_nil, or_false] at hi
    rcases hi with rfl | rfl
    · unfold eV; exact c1
    · unfold eV; exact c4
  have e0 := agg_of_len (n := 39) hx.len (by decide)
  have e1 := agg_of_len (n := 39) hy.len (by decide)
  have walk := codecIds_ok (TE := 246) no_res hE hK (hx.mv still_id) (hy.mv still_id)
  rw [← e0, ← e1] at walk
  refine Calls.mono (show Calls Tryd.prog 3 #[v0, v1] W _ from walk) fun e W' ⟨_, he, hs⟩ => ?_
  subst he
  have bel := below_of hs
  have eF : Rows.codecIdsSpec.fn H ([d0, d1] ++ []) = { results := [.lit (.bool true)], args := [d0, d1] } := rfl
  have l0 : ∀ z ∈ p0, z.block < W.heap.size := fun z hz => hlt z (by simp [hz])
  have l1 : ∀ z ∈ p1, z.block < W.heap.size := fun z hz => hlt z (by simp [hz])
  refine ⟨_, rfl, _, _, _, [], p0 ++ (p1 ++ []), [], hW', ?_, ?_, ?_, bel.frame _, fun h => by cases h⟩
  · rw [eF]; exact trodAll_cons_mk (shut_bool Tryd.underlying4 _) trodAll_mk0
  · rw [eF, Tryd.params3]
    exact trodAll_cons_mk (Below.trod laidOut (by kernel_rfl) (of_decide_eq_true (by kernel_rfl)) h0 bel l0) (trodAll_cons_mk (Below.trod laidOut (by kernel_rfl) (of_decide_eq_true (by kernel_rfl)) h1 bel l1) trodAll_mk0)
  · rw [eF]; rfl

set_option maxRecDepth 100000 in
theorem ids_lifted (os : Os) (started : os.Started) (H : Type) (enc : TypeId × Value → H) (F : Stop.Interp) :
    ReturnsInHanded {} Tryd.checked os 3 .any ((OpenSpec.ofChange Rows.codecIdsSpec).preRow enc Tryd.prog Tryd.f3 Rows.codecIdsRow.domain false Rows.codecIdsRow.laid) (((OpenSpec.ofChange Rows.codecIdsSpec).at F).post enc Tryd.prog Tryd.f3 false true false false) := by
  obtain ⟨places, hx⟩ := ids_reads os enc
  refine returnsInHanded_of_row (C := Tryd.checked) (s := OpenSpec.ofChange Rows.codecIdsSpec) own started (by kernel_rfl) Tryd.func3
    (witness_row_atRef (enc := enc) (C := Tryd.checked) false (idsWorld os) #[blkV, blkV] rfl (by kernel_rfl) (by kernel_rfl) (by kernel_rfl)
      (OpenSpec.preRow_of_cond 8 hx (by kernel_rfl) (fun k hk => by cases hk) (by kernel_rfl) (ids_laid_met os _))) ?_
  intro W base args ds gs before hval hW _ _ _ hL _ _
  exact ids_contract H enc W base args ds gs before hval hW hL

theorem ids_said : Rows.CodecIdsSaid :=
  OpenClaim.holds_of_cond 3 Tryd.f3 rfl rfl rfl rfl rfl rfl rfl ⟨rfl, rfl, rfl, rfl, rfl⟩ rfl rfl rfl rfl rfl (by kernel_rfl) Tryd.func3 (by kernel_rfl)
    (of_decide_eq_true (by kernel_rfl)) (by unfold Func.isWrapper; first | (rw [if_pos (by decide +kernel)]; kernel_rfl) | (rw [if_neg (by decide +kernel)]; exact ⟨rfl, rfl⟩))
    (fun os started H enc _ F => by rw [OpenClaim.pre_eq_preRow]; exact ids_lifted os started H enc F)
theorem ids_plain (f : FuncId) (fn : Func) (hf : Tryd.pinned.checked.prog.funcNamed "quorate/quoratelaw09.CodecIds" = some f) (hfn : Tryd.pinned.checked.prog.funcs[f]? = some fn) :
    true = Tryd.pinned.checked.prog.looks [] ∧ ∀ (j : Nat) t, fn.params[j]? = some t → Tryd.pinned.checked.prog.wantsStandIn t = false := by
  obtain rfl : f = 3 := Option.some.inj ((show Tryd.prog.funcNamed "quorate/quoratelaw09.CodecIds" = some 3 by kernel_rfl).symm.trans hf) |>.symm
  obtain rfl : fn = Tryd.f3 := (Option.some.inj (Tryd.func3.symm.trans hfn)).symm
  refine ⟨by kernel_rfl, fun j t ht => ?_⟩
  rw [Tryd.params3] at ht
  have : t = 30 := by
    have := Array.mem_of_getElem? ht
    simpa using this
  subst this
  exact (show Tryd.prog.wantsStandIn 30 = false by kernel_rfl)
theorem codecIds_holds : Rows.CodecIdsCardSaid :=
  Claim7.holds_tied_plain_at .later [] _ _ _ _ ids_said (fun _ h => by cases h) (by kernel_rfl) (fun _ h => by cases h) codecIds_row_tie rfl ⟨rfl, rfl⟩ (by kernel_rfl) rfl ids_plain (by kernel_rfl)
#print axioms codecIds_holds
end Go.Proofs.YtkgbbnhdioghmaaDoor
