/- Part 4. What is proved: see the last part: for every input the law returns true, and the input reads as it did. -/
import Derived.Test.YthicckleihbomaaDoorCq3
import Derived.Lib.LaidTab
import Derived.ChangeMaps5
import Derived.Test.YthicckleihbomaaDoorCards
import Derived.Test.YthicckleihbomaaDoorTie
import Derived.Deep.DeepHandedRow
import Derived.Deep.DeepWitnessRowRef
/- The shell, part S: the table of powers of ten; a script's ops. -/
namespace Go.Proofs.YthicckleihbomaaDoor
open Go
open Go.ChangeShapes Go.WideShapes Go.ChangeAt Go.RowKit
set_option linter.unusedVariables false
theorem laid_ten {W : World} {r : List (String × DataW Unit)} (h : laidMet Tryd.prog (("internal/strconv.uint64pow10", Rows.laid_internal_strconv_uint64pow10) :: r) W) : TenR W :=
  Lib.tabIs_of_head (k := .u64) (zs := Lib.pow10Tab) (g := 21) (by kernel_rfl) (by kernel_rfl) (run_arrT Ty.arr_147) Ty.un_133 (by kernel_rfl) (by kernel_rfl) h
end Go.Proofs.YthicckleihbomaaDoor

/- Walks, by program (wg.py) out of a spec. -/
namespace Go.Proofs.YthicckleihbomaaDoor
open Go
set_option linter.unusedVariables false
set_option linter.unusedSimpArgs false


/-- An op as Line and Text want it. -/
def OkS (o : OpS) : Prop := o.data.length ≤ 65535 ∧ WfO o
theorem okS0 (k : Nat) : OkS (op0 k) := ⟨Nat.zero_le _, show R64 0 from ⟨by decide, by decide⟩, show R64 0 from ⟨by decide, by decide⟩, fun x hx => by cases hx⟩
theorem r64_nat {k : Nat} (h : k ≤ 999999) : R64 (k : Int) := ⟨by omega, by omega⟩
theorem setP_ok {o o' : OpS} {c : UInt8} {s : Bs} (h : OkS o) (hs : s.length ≤ 65535) (e : setP o c s = some o') : OkS o' := by
  obtain ⟨h1, h2, h3, h4⟩ := h
  unfold setP at e
  split at e
  · obtain ⟨k, hk, rfl⟩ := Option.map_eq_some_iff.1 e; exact ⟨h1, r64_nat (numP_some hk).2.1, h3, h4⟩
  · split at e
    · obtain ⟨k, hk, rfl⟩ := Option.map_eq_some_iff.1 e; exact ⟨h1, h2, r64_nat (numP_some hk).2.1, h4⟩
    · split at e
      · obtain ⟨k, hk, rfl⟩ := Option.map_eq_some_iff.1 e; exact ⟨by have := (hexW_P hk).2; show k.length ≤ 65535; omega, h2, h3, h4⟩
      · split at e
        · obtain ⟨k, hk, rfl⟩ := Option.map_eq_some_iff.1 e
          exact ⟨h1, h2, h3, fun x hx => by obtain ⟨m, hm, rfl⟩ := List.mem_map.1 hx; exact r64_nat ((powW_P hk).2.2 m hm)⟩
        · split at e
          · obtain ⟨k, hk, rfl⟩ := Option.map_eq_some_iff.1 e; exact ⟨h1, h2, h3, h4⟩
          · cases e
theorem setsP_ok : ∀ {cs : Bs} {ss : List Bs} {o o' : OpS}, OkS o → (∀ s ∈ ss, s.length ≤ 65535) → setsP o cs ss = some o' → OkS o'
  | [], _, o, o', h, _, e => by rw [setsP] at e; injection e with e; exact e ▸ h
  | c :: cs, [], _, _, _, _, e => by rw [setsP] at e; cases e
  | c :: cs, s :: ss, o, o', h, hs, e => by
    rw [setsP] at e
    split at e
    · rename_i o1 h1
      exact setsP_ok (setP_ok h (hs s (by simp)) h1) (fun x hx => hs x (List.mem_cons_of_mem _ hx)) e
    · cases e
theorem opP_ok {s : Bs} {o : OpS} (hs : s.length ≤ 65535) (h : opP s = some o) : OkS o := by
  unfold opP at h
  split at h
  · exact setsP_ok (okS0 _) (fun x hx => by have := pieces_len (List.mem_of_mem_tail hx); omega) h
  · cases h
theorem allL_mem {α β : Type} {f : α → Option β} {y : β} : ∀ {l : List α} {t : List β}, allL f l = some t → y ∈ t → ∃ x ∈ l, f x = some y
  | [], t, h, hy => by rw [allL] at h; injection h with h; subst h; cases hy
  | x :: r, t, h, hy => by
    rw [allL] at h
    split at h
    · rename_i y' t' hx ht
      injection h with h; subst h
      rcases List.mem_cons.1 hy with rfl | hy
      · exact ⟨x, by simp, hx⟩
      · obtain ⟨z, hz, hf⟩ := allL_mem ht hy; exact ⟨z, List.mem_cons_of_mem _ hz, hf⟩
    · cases h
theorem parP_ok {s : Bs} {l : List OpS} (hs : s.length ≤ 65535) (h : parP s = some l) : ∀ o ∈ l, OkS o := fun o ho => by
  rw [parP_lines] at h
  obtain ⟨x, hx, hf⟩ := allL_mem h ho
  have hl := line_len hx
  have ht := trim_len x [10]
  unfold ln1 at hf
  split at hf
  · exact opP_ok (by omega) hf
  · cases hf
theorem again_tex {s : Bs} {l : List OpS} (hs : s.length ≤ 65535) (h : parP s = some l) : texE l = 0 ∧ texO l = s := by
  obtain ⟨ls, h1, h2, _⟩ := parse_text hs h
  have ht := textB_len ls
  rw [h2] at ht
  have h3 := tex_is h1 (by omega)
  exact ⟨h3.1, h3.2.trans h2⟩
attribute [local irreducible] Gl Gc Gx Gs Runs Wt

set_option maxHeartbeats 1000000 in
set_option maxRecDepth 20000 in
theorem scriptAgain_ok {w : World} {F : Nat → Prop} {s : List UInt8} (h : stars [] w F) (hT : TenG w (fun k => ¬ F k)) {ea : Nat → Addr} {es : List Nat} [Has es 3] [Has es 4] (hE : GErr es w (fun k => ¬ F k) 153 ea)  :
    Calls Tryd.prog 5 #[.string (str s)] w (Post w F (fun _ : Unit => .bool true) (fun _ => [])) := by
  refine g_enter (env := [(0, .string (str s))]) Tryd.func5 rfl h Tryd.ntmps5 rfl rfl ?_
  refine gsr ?_
  refine gp zas ?_
  refine gnt ?_
  refine gc_seq ?_
  refine gsr ?_
  refine zc (fun _ => ?_) (c := fun w1 F1 F2 h1 h2 hd hst => alive23_ok h1 (hE.mv hst.still))
  refine gp (r_bool (c := false) znt (rfl)) ?_
  refine gnt ?_
  refine gc_condF rfl rfl ?_
  refine gc_skip ?_
  refine gx_then ?_
  refine gc_seq ?_
  refine gsr ?_
  refine gp zmv ?_
  refine gp zlS ?_
  refine gp zgt ?_
  refine gnt ?_
  refine gif rfl (fun hc10 => ?_) (fun hc10 => ?_)
  · refine gsr ?_
    refine gp zas ?_
    refine gnt ?_
    refine gc_ret ?_
    refine gx_then_ret ?_
    refine gx_ret1 rfl (by conv => lhs; whnf) ?_
    exact ze ()
  · try simp only at hc10
    have hs : s.length ≤ 65535 := by omega
    refine gc_skip ?_
    refine gx_then ?_
    refine gc_seq ?_
    by_cases g1 : (parP s).isSome = true
    · obtain ⟨l, hl⟩ := Option.isSome_iff_exists.1 g1
      obtain ⟨hpe, hpo⟩ := par_some (by omega) hl
      obtain ⟨hte, hto⟩ := again_tex hs hl
      have hok := parP_ok hs hl
      refine gc_region ?_
      refine gp zmv ?_
      refine zc ?_ (c := fun w1 F1 F2 h1 h2 hd hst => sparse_ok (s := s) h1 (hE.mv hst.still))
      rintro ⟨a13, c13⟩
      rw [hpe, hpo]
      refine gp zmv ?_
      refine gp zex ?_
      refine gp zex ?_
      refine gp zas ?_
      refine gp zas ?_
      refine gnt ?_
      refine gc_seq ?_
      refine gsr ?_
      refine gp zmv ?_
      refine gp (r_bool (c := false) (r_nenil (k := 0) rfl (by kernel_rfl)) rfl) ?_
      refine gnt ?_
      refine gc_condF rfl rfl ?_
      refine gc_skip ?_
      refine gx_then ?_
      refine gsr ?_
      refine gp zmv ?_
      refine zc (fun _ => ?_) (c := fun w1 F1 F2 h1 h2 hd hst => stext_ok (l := l) h1 (ls_rd h2 hd (by repeat (first | exact Pick.here | apply Pick.there))) hok (hT.mv hst.still) (hE.mv hst.still))
      rw [hte, hto]
      refine gp zmv ?_
      refine gp zex ?_
      refine gp zex ?_
      refine gp zas ?_
      refine gp zas ?_
      refine gnt ?_
      refine gsr ?_
      refine gp zmv ?_
      refine gp (r_bool (c := true) (r_eqnil (k := 0) rfl (by kernel_rfl)) rfl) ?_
      refine gp zmv ?_
      refine gq zmv ?_
      refine gq zmv ?_
      refine gq (r_bool (c := true) zes (by simp)) ?_
      refine gp zpk ?_
      refine gp zas ?_
      refine gnt ?_
      refine gc_ret ?_
      refine gx_ret1 rfl (by conv => lhs; whnf) ?_
      exact ze ()
    · have hz : parP s = none := by simpa using g1
      obtain ⟨hpe, hpo⟩ := par_none (by omega) hz
      refine gc_region ?_
      refine gp zmv ?_
      refine zc ?_ (c := fun w1 F1 F2 h1 h2 hd hst => sparse_ok (s := s) h1 (hE.mv hst.still))
      rintro ⟨a13, c13⟩
      rw [hpe, hpo]
      refine gp zmv ?_
      refine gp zex ?_
      refine gp zex ?_
      refine gp zas ?_
      refine gp zas ?_
      refine gnt ?_
      refine gc_seq ?_
      refine gsr ?_
      refine gp zmv ?_
      refine gp (r_bool (c := true) (r_nenil (k := 4) rfl (by kernel_rfl)) rfl) ?_
      refine gnt ?_
      refine gc_condT rfl rfl ?_
      refine gsr ?_
      refine gp zmv ?_
      refine gp zln ?_
      refine gp (r_bool (c := true) zei (rfl)) ?_
      refine gp zas ?_
      refine gnt ?_
      refine gc_ret ?_
      refine gx_then_ret ?_
      refine gx_ret1 rfl (by conv => lhs; whnf) ?_
      exact ze ()

end Go.Proofs.YthicckleihbomaaDoor

/- ScriptAgain: for every input the law returns true, and the input reads as it did: the row and its card. -/
namespace Go.Proofs.YthicckleihbomaaDoor
open Go
open Go.ChangeShapes Go.WideShapes Go.ChangeAt Go.RowKit
set_option linter.unusedVariables false

/-- One world that fits: the settled one, the listed variables as their initialisers lay them. -/
noncomputable def scriptAgain_world (os : Os) : World :=
  let w0 := World.holding Tryd.prog os ⟨#[.cells #[.string ⟨#[113, 117, 111, 114, 97, 116, 101, 58, 32, 108, 111, 110, 103]⟩] 175, .cells #[.string ⟨#[113, 117, 111, 114, 97, 116, 101, 58, 32, 102, 111, 114, 109]⟩] 175], #[], []⟩
  { w0 with heap := ((((((w0.heap.modify 0 fun
      | .cells _ t fz => .cells #[.iface 153 (.pointer (some ⟨lowB + 0, 0, none⟩))] t fz
      | o => o).modify 1 fun
      | .cells _ t fz => .cells #[.iface 153 (.pointer (some ⟨lowB + 1, 0, none⟩))] t fz
      | o => o).modify 22 fun
      | .cells _ t fz => .cells #[.int .u8 0, .int .u8 1, .int .u8 28, .int .u8 2, .int .u8 29, .int .u8 14, .int .u8 24, .int .u8 3, .int .u8 30, .int .u8 22, .int .u8 20, .int .u8 15, .int .u8 25, .int .u8 17, .int .u8 4, .int .u8 8, .int .u8 31, .int .u8 27, .int .u8 13, .int .u8 23, .int .u8 21, .int .u8 19, .int .u8 16, .int .u8 7, .int .u8 26, .int .u8 12, .int .u8 18, .int .u8 6, .int .u8 11, .int .u8 5, .int .u8 10, .int .u8 9] t fz
      | o => o).modify 23 fun
      | .cells _ t fz => .cells #[.int .u8 0, .int .u8 1, .int .u8 56, .int .u8 2, .int .u8 57, .int .u8 49, .int .u8 28, .int .u8 3, .int .u8 61, .int .u8 58, .int .u8 42, .int .u8 50, .int .u8 38, .int .u8 29, .int .u8 17, .int .u8 4, .int .u8 62, .int .u8 47, .int .u8 59, .int .u8 36, .int .u8 45, .int .u8 43, .int .u8 51, .int .u8 22, .int .u8 53, .int .u8 39, .int .u8 33, .int .u8 30, .int .u8 24, .int .u8 18, .int .u8 12, .int .u8 5, .int .u8 63, .int .u8 55, .int .u8 48, .int .u8 27, .int .u8 60, .int .u8 41, .int .u8 37, .int .u8 16, .int .u8 46, .int .u8 35, .int .u8 44, .int .u8 21, .int .u8 52, .int .u8 32, .int .u8 23, .int .u8 11, .int .u8 54, .int .u8 26, .int .u8 40, .int .u8 15, .int .u8 34, .int .u8 20, .int .u8 31, .int .u8 10, .int .u8 25, .int .u8 14, .int .u8 19, .int .u8 9, .int .u8 13, .int .u8 8, .int .u8 7, .int .u8 6] t fz
      | o => o).modify 21 fun
      | .cells _ t fz => .cells #[.int .u64 1, .int .u64 10, .int .u64 100, .int .u64 1000, .int .u64 10000, .int .u64 100000, .int .u64 1000000, .int .u64 10000000, .int .u64 100000000, .int .u64 1000000000, .int .u64 10000000000, .int .u64 100000000000, .int .u64 1000000000000, .int .u64 10000000000000, .int .u64 100000000000000, .int .u64 1000000000000000, .int .u64 10000000000000000, .int .u64 100000000000000000, .int .u64 1000000000000000000, .int .u64 10000000000000000000] t fz
      | o => o).modify 20 fun
      | .cells _ t fz => .cells #[.int .u8 128, .int .u8 191, .int .u8 160, .int .u8 191, .int .u8 128, .int .u8 159, .int .u8 144, .int .u8 191, .int .u8 128, .int .u8 143, .int .u8 0, .int .u8 0, .int .u8 0, .int .u8 0, .int .u8 0, .int .u8 0, .int .u8 0, .int .u8 0, .int .u8 0, .int .u8 0, .int .u8 0, .int .u8 0, .int .u8 0, .int .u8 0, .int .u8 0, .int .u8 0, .int .u8 0, .int .u8 0, .int .u8 0, .int .u8 0, .int .u8 0, .int .u8 0] t fz
      | o => o).modify 19 fun
      | .cells _ t fz => .cells (Pinned.utf8FirstZ.map fun z : Nat => Value.int .u8 (z : Int)).toArray t fz
      | o => o }
def scriptAgain_args : Array Value := #[.string ByteArray.empty]
theorem scriptAgain_laid (os : Os) (args : Array Value) : laidMet Tryd.prog Rows.scriptAgainRow.laid ((scriptAgain_world os).forCall (fun _ _ => 0) ⟨#[], args, []⟩).memory :=
  laidMet_of_run' 8 (by kernel_rfl) (by kernel_rfl)
theorem scriptAgain_reads (os : Os) {H : Type} (enc : TypeId × Value → H) : ∃ places, DataW.whole enc Tryd.prog ((scriptAgain_world os).forCall (fun _ _ => 0) ⟨#[], scriptAgain_args, []⟩).memory Tryd.f5.params.toList Rows.scriptAgainSpec.vars false scriptAgain_args.toList 8 = some ([.lit (.string [])], [], places) :=
  ⟨[], by kernel_rfl⟩
set_option maxRecDepth 20000 in
theorem scriptAgain_contract (H : Type) (enc : TypeId × Value → H) (W : World) (base : Nat) (args : Array Value) (ds gs : List (DataW H)) (before : List MemPlace)
    (hval : ∀ (j : Nat) t v, Tryd.f5.params[j]? = some t → args[j]? = some v → Value.okWide Tryd.prog W .any base t v)
    (hW : DataW.Whole enc Tryd.prog Tryd.f5.params.toList Rows.scriptAgainSpec.vars false W args.toList ds gs before) (hL : laidMetH Tryd.prog Rows.scriptAgainRow.laid W) :
    Calls Tryd.prog 5 args W fun e W' => ∃ v, e = .returned v ∧ Rows.scriptAgainSpec.post enc Tryd.prog Tryd.f5 false true false false W args v W' := by
  have hW' := hW
  have hlt : ∀ p ∈ before, p.block < W.heap.size := fun p hp => hW.lt p hp
  obtain ⟨p, q, hA0, hV, rfl, hfz, hnd⟩ := hW
  have hA : DataW.TrodAll enc Tryd.prog W 0 (fun _ => true) true Tryd.f5.params.toList args.toList ds p := hA0
  rw [Tryd.params5] at hA hval
  obtain ⟨v0, vs0, d0, ds0, p0, q0, hargs, rfl, rfl, h0, r0⟩ := trodAll_cons hA
  obtain ⟨rfl, rfl, rfl⟩ := trodAll_nil r0
  obtain rfl : args = #[v0] := by cases args; simp_all
  obtain ⟨rfl, rfl⟩ := trodVars_none hV
  obtain ⟨n0, rfl, _, _, wf0⟩ := Go.ChangeMaps.open_string Tryd.underlying9 (hval 0 9 v0 rfl rfl) h0
  have hL' : laidMet Tryd.prog Rows.scriptAgainRow.laid W := hL
  obtain ⟨a_3, s_3, c_3, _, _⟩ := laid_err (g := 0) hL'.tail.tail.tail.tail (by kernel_rfl) (by kernel_rfl)
  obtain ⟨a_4, s_4, c_4, _, _⟩ := laid_err (g := 1) hL'.tail.tail.tail.tail.tail (by kernel_rfl) (by kernel_rfl)
  have hE : GErr [3, 4] W (fun k => ¬ (fun _ : Nat => False) k) 153 (fun i => if i = 3 then a_3 else a_4) := by
    refine ⟨fun i hi => ?_, fun i _ => id⟩
    simp only [List.mem_cons, List.not_mem_nil, or_false] at hi
    rcases hi with rfl | rfl
    · unfold eV; exact c_3
    · unfold eV; exact c_4
  have hT : TenR W := laid_ten (r := [("unicode/utf8.acceptRanges", Rows.laid_unicode_utf8_acceptRanges), ("quorate/api.ErrLong", Rows.laid_quorate_api_ErrLong), ("quorate/api.ErrForm", Rows.laid_quorate_api_ErrForm), ("unicode/utf8.first", Rows.laid_unicode_utf8_first)]) hL'.tail.tail
  have walk := scriptAgain_ok (s := n0.data.toList) no_res ⟨hT, id⟩ hE
  refine Calls.mono (show Calls Tryd.prog 5 #[.string n0] W _ from walk) fun e W' ⟨_, he, hs⟩ => ?_
  subst he
  have bel := below_of hs
  have eF : Rows.scriptAgainSpec.fn H ([d0] ++ []) = { results := [.lit (.bool true)], args := [d0] } := rfl
  have l0 : ∀ z ∈ p0, z.block < W.heap.size := fun z hz => hlt z (by simp [hz])
  refine ⟨_, rfl, _, _, _, [], p0 ++ ([]), [], hW', ?_, ?_, ?_, bel.frame _, fun h => by cases h⟩
  · rw [eF]; exact trodAll_cons_mk (shut_bool Tryd.underlying4 _) trodAll_mk0
  · rw [eF, Tryd.params5]
    exact trodAll_cons_mk (Below.trod laidOut (by kernel_rfl) (of_decide_eq_true (by kernel_rfl)) h0 bel l0) (trodAll_mk0)
  · rw [eF]; rfl

set_option maxRecDepth 100000 in
theorem scriptAgain_lifted (os : Os) (started : os.Started) (H : Type) (enc : TypeId × Value → H) (F : Stop.Interp) :
    ReturnsInHanded {} Tryd.checked os 5 .any ((OpenSpec.ofChange Rows.scriptAgainSpec).preRow enc Tryd.prog Tryd.f5 Rows.scriptAgainRow.domain false Rows.scriptAgainRow.laid) (((OpenSpec.ofChange Rows.scriptAgainSpec).at F).post enc Tryd.prog Tryd.f5 false true false false) := by
  obtain ⟨places, hx⟩ := scriptAgain_reads os enc
  refine returnsInHanded_of_row (C := Tryd.checked) (s := OpenSpec.ofChange Rows.scriptAgainSpec) own started (by kernel_rfl) Tryd.func5
    (witness_row_atRef (enc := enc) (C := Tryd.checked) false (scriptAgain_world os) scriptAgain_args rfl (by kernel_rfl) (by kernel_rfl) (by kernel_rfl)
      (OpenSpec.preRow_of_cond 8 hx (by kernel_rfl) (fun k hk => by cases hk) (by kernel_rfl) (scriptAgain_laid os _))) ?_
  intro W base args ds gs before hval hW _ _ _ hL _ _
  exact scriptAgain_contract H enc W base args ds gs before hval hW hL

theorem scriptAgain_said : Rows.ScriptAgainSaid :=
  OpenClaim.holds_of_cond 5 Tryd.f5 rfl rfl rfl rfl rfl rfl rfl ⟨rfl, rfl, rfl, rfl, rfl⟩ rfl rfl rfl rfl rfl (by kernel_rfl) Tryd.func5 (by kernel_rfl)
    (of_decide_eq_true (by kernel_rfl)) (by unfold Func.isWrapper; first | (rw [if_pos (by decide +kernel)]; kernel_rfl) | (rw [if_neg (by decide +kernel)]; exact ⟨rfl, rfl⟩))
    (fun os started H enc _ F => by rw [OpenClaim.pre_eq_preRow]; exact scriptAgain_lifted os started H enc F)
theorem scriptAgain_plain (f : FuncId) (fn : Func) (hf : Tryd.pinned.checked.prog.funcNamed "quorate/quoratelaw23.ScriptAgain" = some f) (hfn : Tryd.pinned.checked.prog.funcs[f]? = some fn) :
    true = Tryd.pinned.checked.prog.looks [] ∧ ∀ (j : Nat) t, fn.params[j]? = some t → Tryd.pinned.checked.prog.wantsStandIn t = false := by
  obtain rfl : f = 5 := Option.some.inj ((show Tryd.prog.funcNamed "quorate/quoratelaw23.ScriptAgain" = some 5 by kernel_rfl).symm.trans hf) |>.symm
  obtain rfl : fn = Tryd.f5 := (Option.some.inj (Tryd.func5.symm.trans hfn)).symm
  refine ⟨by kernel_rfl, fun j t ht => ?_⟩
  rw [Tryd.params5] at ht
  have hm := Array.mem_of_getElem? ht
  have h : t = 9 := by simpa using hm
  subst h
  exact (show Tryd.prog.wantsStandIn 9 = false by kernel_rfl)
theorem scriptAgain_holds : Rows.ScriptAgainCardSaid :=
  Claim7.holds_tied_plain_at .later [] _ _ _ _ scriptAgain_said (fun _ h => by cases h) (by kernel_rfl) (fun _ h => by cases h) scriptAgain_row_tie rfl ⟨rfl, rfl⟩ (by kernel_rfl) rfl scriptAgain_plain (by kernel_rfl)
#print axioms scriptAgain_holds
end Go.Proofs.YthicckleihbomaaDoor

