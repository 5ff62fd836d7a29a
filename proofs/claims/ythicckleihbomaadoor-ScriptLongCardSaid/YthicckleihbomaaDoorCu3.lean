/- Part 3. What is proved: see the last part: for every input the law returns true, and the input reads as it did. -/
import Derived.Test.YthicckleihbomaaDoorCu2
/- Walks, by program (wg.py) out of a spec. -/
namespace Go.Proofs.YthicckleihbomaaDoor
open Go
set_option linter.unusedVariables false
set_option linter.unusedSimpArgs false

attribute [local irreducible] Gl Gc Gx Gs Runs Wt

set_option maxHeartbeats 400000 in
set_option maxRecDepth 20000 in
theorem sunpowered_ok {w : World} {F : Nat → Prop} {a : Option Addr} {n c : Nat} {l : List Int} (h : stars [] w F) (hr : RdRow w (fun k => ¬ F k) 1 a n (l.map (Value.int .i64))) (hc : n ≤ c) (hT : TenG w (fun k => ¬ F k)) (h64 : ∀ x ∈ l, R64 x) :
    Calls Tryd.prog 44 #[.slice a n c] w (Post w F (fun x : Bs => .tuple #[.string (str x), .bool (powsW l).isSome]) (fun x => [pureR (∀ s, powsW l = some s → x = s ∧ s.length ≤ 49)])) := by
  have hn : n = l.length := by have := hr.1; simp at this; omega
  subst hn
  have hmx := hr.2.1
  simp only [maxLen] at hmx
  refine g_enter (env := [(0, .slice a l.length c)]) Tryd.func44 rfl h Tryd.ntmps44 rfl rfl ?_
  refine gsr ?_
  refine gp zas ?_
  refine gp zas ?_
  refine gnt ?_
  refine gc_seq ?_
  refine gsr ?_
  refine gp zmv ?_
  refine gp zln ?_
  refine gp zei ?_
  refine gnt ?_
  refine gif rfl (fun hc11 => ?_) (fun hc11 => ?_)
  · try simp only at hc11
    have g0 : l = [] := List.eq_nil_of_length_eq_zero (by omega)
    refine gsr ?_
    refine gp zas ?_
    refine gp zas ?_
    refine gnt ?_
    refine gc_ret ?_
    refine gx_then_ret ?_
    refine gx_ret2 rfl (by conv => lhs; whnf) (by conv => lhs; whnf) ?_
    have hz : powsW l = some [45] := by rw [g0]; rfl
    exact fun w' hw => ⟨[45], by rw [hz]; rfl, St.pureI (fun s hs => by rw [hz] at hs; injection hs with hs; subst hs; exact ⟨rfl, by simp⟩) (hw.sel (by repeat (first | exact Sel.nil | (apply Sel.cons; · (repeat (first | exact Pick.here | apply Pick.there))))))⟩
  · try simp only at hc11
    have g0 : ¬ l = [] := fun e => hc11 (by rw [e]; rfl)
    have hpos : 0 < l.length := List.length_pos_iff.2 g0
    refine gc_skip ?_
    refine gx_then ?_
    refine gc_seq ?_
    refine gsr ?_
    refine gp zmv ?_
    refine gp zln ?_
    refine gp zgt ?_
    refine gnt ?_
    refine gif rfl (fun hc14 => ?_) (fun hc14 => ?_)
    · try simp only at hc14
      have g7 : 7 < l.length := by omega
      refine gsr ?_
      refine gp zas ?_
      refine gp zas ?_
      refine gnt ?_
      refine gc_ret ?_
      refine gx_then_ret ?_
      refine gx_ret2 rfl (by conv => lhs; whnf) (by conv => lhs; whnf) ?_
      have hz : powsW l = none := powsW_big g0 g7
      exact fun w' hw => ⟨[], by rw [hz]; rfl, St.pureI (fun s hs => by rw [hz] at hs; cases hs) (hw.sel (by repeat (first | exact Sel.nil | (apply Sel.cons; · (repeat (first | exact Pick.here | apply Pick.there))))))⟩
    · try simp only at hc14
      have g7 : ¬ 7 < l.length := by omega
      obtain ⟨g1, o1, ha1, hA1, _, _⟩ := hr.2.2 hpos
      subst ha1
      refine gc_skip ?_
      refine gx_then ?_
      refine gsr ?_
      refine gp zas ?_
      refine gnt ?_
      refine gc_seq ?_
      refine gsr ?_
      refine gp zmv ?_
      refine gp zln ?_
      refine gp zmv ?_
      refine gnt ?_
      refine gc_block ?_
      refine gc_loop (α := Nat × (Option Addr × Nat) × List Bs) (fun y => [pureR (y.1 ≤ l.length ∧ allL numW (l.take y.1) = some y.2.2), rowR 9 1 y.2.1.1 y.1 y.2.1.2 (y.2.2.map (fun p : List UInt8 => Value.string (str p)))]) (fun y => [(17, .int .i64 (y.1 : Int)), (4, .slice y.2.1.1 y.1 y.2.1.2)]) [2, 3, 6, 7, 8, 18, 19, 20, 21, 22, 23, 24, 25, 26, 27, 28, 29, 30, 31, 32] (fun y => l.length - y.1) (0, (none, 0), []) ?_ ?_ ?_
      · refine env_start (by kernel_rfl)
      · exact fun w' hw => zlp ⟨Nat.zero_le _, rfl⟩ (by repeat (first | exact Sel.nil | (apply Sel.cons; · (repeat (first | exact Pick.here | apply Pick.there))))) w' (hw.rowNil (e := 9) (size := 1))
      · intro y u
        obtain ⟨k, ⟨ao, co⟩, ps⟩ := y
        refine gc_pureR (fun hq => ?_)
        obtain ⟨hk, hl⟩ := hq
        replace hk : k ≤ l.length := hk
        replace hl : allL numW (l.take k) = some ps := hl
        have hll : ps.length = k := by have := allL_len hl; rw [List.length_take] at this; omega
        refine gsr ?_
        refine gp zlt ?_
        refine gnt ?_
        refine gc_seq ?_
        refine gif rfl (fun hc18 => ?_) (fun hc18 => ?_)
        · try simp only at hc18
          have hk' : k < l.length := by omega
          obtain ⟨x, _, _, hget, _, hmem, htk⟩ := drop_at hk'
          refine gc_skip ?_
          refine gx_then ?_
          refine gc_seq ?_
          refine gc_block ?_
          refine gsr ?_
          refine gp (r_val (v' := .pointer (some ⟨g1, o1 + k * 1, none⟩)) zia (by simp)) ?_
          refine gp (r_int (j := x) (r_ld1o rfl Ty.row_3 (hr.cellV hk' 0).1 hA1) (by rw [List.getD_eq_getElem?_getD, hget]; rfl)) ?_
          refine gp zas ?_
          refine gnt ?_
          refine gsr ?_
          refine gp zmv ?_
          refine zc (fun _ => ?_) (c := fun w1 F1 F2 h1 h2 hd hst => sdigits_ok (n := x) h1 (hT.mv hst.still) (h64 x hmem))
          refine gp zmv ?_
          refine gp zex ?_
          refine gp zex ?_
          refine gp zas ?_
          refine gp zas ?_
          refine gnt ?_
          refine gc_seq ?_
          refine gc_seq ?_
          by_cases g4 : okN x = true
          · have hnx : numW x = some (Lib.itoa x) := by rw [numW_eq, if_pos g4]
            refine gc_region ?_
            refine gp zmv ?_
            refine gp (r_bool (c := false) znt (by rw [g4]; rfl)) ?_
            refine gnt ?_
            refine gc_condF rfl rfl ?_
            refine gc_skip ?_
            refine gx_then ?_
            refine gc_region ?_
            refine gp zmv ?_
            refine gp zmv ?_
            refine ze1 fun b30 => ?_
            refine zapo (m := k) (j := 1) (fun a31 c31 => ?_)
            refine gp zas ?_
            refine gl_nil ?_
            refine gx_block_normal ?_
            refine gx_then ?_
            refine gc_region ?_
            refine gp zad ?_
            refine gp zmv ?_
            refine gl_nil ?_
            refine zrd ((k + 1, (a31, c31), ps ++ [Lib.itoa x])) ?_ ?_
            · show l.length - (k + 1) < l.length - k
              omega
            · have hl2 := allL_snoc hl hnx
              rw [← htk] at hl2
              simp only [List.length_append, List.map_append, List.length_singleton, List.map_cons, List.map_nil]
              exact zlp (show k + 1 ≤ l.length ∧ allL numW (l.take (k + 1)) = some (ps ++ [Lib.itoa x]) from ⟨by omega, hl2⟩)
          · have hnx : numW x = none := by rw [numW_eq, if_neg g4]
            refine gc_region ?_
            refine gp zmv ?_
            refine gp (r_bool (c := true) znt (by rw [show okN x = false by simpa using g4]; rfl)) ?_
            refine gnt ?_
            refine gc_condT rfl rfl ?_
            refine gsr ?_
            refine gp zas ?_
            refine gp zas ?_
            refine gnt ?_
            refine gc_ret ?_
            refine gx_then_ret ?_
            refine gx_block_ret ?_
            refine gx_then_ret ?_
            refine gx_round_ret ?_
            refine gx_block_ret ?_
            refine gx_then_ret ?_
            refine gx_ret2 rfl (by conv => lhs; whnf) (by conv => lhs; whnf) ?_
            have hz : powsW l = none := powsW_bad g0 g7 (by rw [numsW_allL]; exact allL_none hnx hmem)
            exact fun w' hw => ⟨[], by rw [hz]; rfl, St.pureI (fun s hs => by rw [hz] at hs; cases hs) (hw.sel (by repeat (first | exact Sel.nil | (apply Sel.cons; · (repeat (first | exact Pick.here | apply Pick.there))))))⟩
        · try simp only at hc18
          have hk' : k = l.length := by omega
          subst hk'
          rw [List.take_of_length_le (Nat.le_refl _), ← numsW_allL] at hl
          have hpl := numsW_len hl
          refine gc_exit ?_
          refine gx_then_exit ?_
          refine gx_round_exit ?_
          refine gx_block_hit ?_
          refine gx_then ?_
          refine gc_seq ?_
          refine gc_fact (fun w' hw => St.rowAt (hw.sel (M := [rowR 9 1 ao l.length co (ps.map (fun p : List UInt8 => Value.string (str p)))]) (by repeat (first | exact Sel.nil | (apply Sel.cons; · (repeat (first | exact Pick.here | apply Pick.there)))))) .here (by omega)) (fun hra => ?_)
          obtain ⟨hcap, gb, ob, ha⟩ := hra
          subst ha
          have hjl := joinB_len (c := 44) hpl.2
          have h49 : (joinB 44 ps).length ≤ 49 := by have : ps.length ≤ 7 := (by omega); have := Nat.mul_le_mul_right 7 this; omega
          refine gc_region ?_
          refine gp zmv ?_
          refine zc (fun _ => ?_) (c := fun w1 F1 F2 h1 h2 hd hst => joi_ok (c := co) (s := 44) (ps := ps) h1 (rd_row h2 hd (by repeat (first | exact Pick.here | apply Pick.there))) (by omega) (by omega) (by omega) (by omega) (by omega))
          refine gp zas ?_
          refine gp zas ?_
          refine gnt ?_
          refine gc_ret ?_
          refine gx_ret2 rfl (by conv => lhs; whnf) (by conv => lhs; whnf) ?_
          have hz : powsW l = some (joinB 44 ps) := powsW_go g0 g7 hl
          exact fun w' hw => ⟨(joinB 44 ps), by rw [hz]; rfl, St.pureI (fun s hs => by rw [hz] at hs; injection hs with hs; subst hs; exact ⟨rfl, h49⟩) (hw.sel (by repeat (first | exact Sel.nil | (apply Sel.cons; · (repeat (first | exact Pick.here | apply Pick.there))))))⟩

end Go.Proofs.YthicckleihbomaaDoor

/- Walks, by program (wg.py) out of a spec. -/
namespace Go.Proofs.YthicckleihbomaaDoor
open Go
set_option linter.unusedVariables false
set_option linter.unusedSimpArgs false

attribute [local irreducible] Gl Gc Gx Gs Runs Wt

set_option maxHeartbeats 400000 in
set_option maxRecDepth 20000 in
theorem sget_ok {w : World} {F : Nat → Prop} {csa : List Value} {o : OpS} {c : UInt8} (h : stars [] w F) (hx : RdOpS w (fun k => ¬ F k) csa o) (hg : Good c) (hdl : o.data.length ≤ 65535) (hwf : WfO o) (hT : TenG w (fun k => ¬ F k))  :
    Calls Tryd.prog 28 #[.agg csa.toArray, .int .u8 c.toNat] w (Post w F (fun x : Bs => .tuple #[.string (str x), .bool (getP o c).isSome]) (fun x => [pureR ((∀ s, getP o c = some s → x = s) ∧ ((getP o c).isSome = true → x.length ≤ 131071))])) := by
  obtain ⟨aa1, aa2, aa3, ca1, ca2, ca3, rfl, ⟨hsa, hsca⟩, ⟨hka, hkca⟩, hda, hdca⟩ := hx
  refine g_enter (env := [(0, .agg (List.toArray ([.int .i64 o.kind, .int .i64 o.node, .int .i64 o.n, .slice aa1 o.set.length ca1, .slice aa2 o.keep.length ca2, .slice aa3 o.data.length ca3]))), (1, .int .u8 c.toNat)]) Tryd.func28 rfl h Tryd.ntmps28 rfl rfl ?_
  refine gsr ?_
  refine zbN fun b2 => ?_
  refine gp zas ?_
  refine gp zas ?_
  refine gnt ?_
  refine gc_seq ?_
  refine gsr ?_
  refine gp zmv ?_
  refine gnt ?_
  refine gc_block ?_
  refine gsr ?_
  refine gp zei ?_
  refine gp zas ?_
  refine gnt ?_
  refine gif rfl (fun hc7 => ?_) (fun hc7 => ?_)
  · try simp only at hc7
    obtain rfl := u8c (n := 110) hc7 (by decide)
    refine gsr ?_
    refine gp zfa ?_
    refine gp zl ?_
    refine zc (fun _ => ?_) (c := fun w1 F1 F2 h1 h2 hd hst => sdigits_ok (n := o.n) h1 (hT.mv hst.still) hwf.1)
    refine gp zex ?_
    refine gp zex ?_
    refine gp zas ?_
    refine gp zas ?_
    refine gnt ?_
    refine gc_ret ?_
    refine gx_block_ret ?_
    refine gx_then_ret ?_
    refine gx_ret2 rfl (by conv => lhs; whnf) (by conv => lhs; whnf) ?_
    exact fun w' hw => ⟨(Lib.itoa o.n), by rw [show (getP o (UInt8.ofNat 110)).isSome = okN o.n from get_n o], St.pureI ⟨fun s hs => numW_is hs, fun hi => by have := itoa_len hwf.1; omega⟩ (hw.sel (by repeat (first | exact Sel.nil | (apply Sel.cons; · (repeat (first | exact Pick.here | apply Pick.there))))))⟩
  · refine gsr ?_
    refine gp zei ?_
    refine gp zas ?_
    refine gnt ?_
    refine gif rfl (fun hc14 => ?_) (fun hc14 => ?_)
    · try simp only at hc14
      obtain rfl := u8c (n := 105) hc14 (by decide)
      refine gsr ?_
      refine gp zfa ?_
      refine gp zl ?_
      refine zc (fun _ => ?_) (c := fun w1 F1 F2 h1 h2 hd hst => sdigits_ok (n := o.node) h1 (hT.mv hst.still) hwf.2.1)
      refine gp zex ?_
      refine gp zex ?_
      refine gp zas ?_
      refine gp zas ?_
      refine gnt ?_
      refine gc_ret ?_
      refine gx_block_ret ?_
      refine gx_then_ret ?_
      refine gx_ret2 rfl (by conv => lhs; whnf) (by conv => lhs; whnf) ?_
      exact fun w' hw => ⟨(Lib.itoa o.node), by rw [show (getP o (UInt8.ofNat 105)).isSome = okN o.node from get_i o], St.pureI ⟨fun s hs => numW_is hs, fun hi => by have := itoa_len hwf.2.1; omega⟩ (hw.sel (by repeat (first | exact Sel.nil | (apply Sel.cons; · (repeat (first | exact Pick.here | apply Pick.there))))))⟩
    · refine gsr ?_
      refine gp zei ?_
      refine gp zas ?_
      refine gnt ?_
      refine gif rfl (fun hc21 => ?_) (fun hc21 => ?_)
      · try simp only at hc21
        obtain rfl := u8c (n := 104) hc21 (by decide)
        refine gc_seq ?_
        refine gc_regionZ 8 ([blk b2 38 [.int .i64 o.kind, .int .i64 o.node, .int .i64 o.n, .slice aa1 o.set.length ca1, .slice aa2 o.keep.length ca2, .slice aa3 o.data.length ca3]]) ?_
        refine yps 0 rfl zfa ?_
        refine yps 1 rfl zl ?_
        refine yps 3 rfl zfa ?_
        refine yps 4 rfl zl ?_
        refine yps 5 rfl zln ?_
        refine yps 6 rfl (r_bool (c := true) zle (decide_eq_true (by omega))) ?_
        refine yos 2 rfl ?_
        refine zc (fun _ => ?_) (c := fun w1 F1 F2 h1 h2 hd hst => sunhexed_ok (d := o.data) h1 (hda.mv hst.still) hdca hdl)
        refine yxs ?_
        refine yps 7 rfl zas ?_
        refine yzs rfl ?_
        refine gp zas ?_
        refine gnt ?_
        refine gc_ret ?_
        refine gx_block_ret ?_
        refine gx_then_ret ?_
        refine gx_ret2 rfl (by conv => lhs; whnf) (by conv => lhs; whnf) ?_
        have hz : getP o (UInt8.ofNat 104) = some (hexW o.data) := by show (if o.data.length ≤ 65535 then some (hexW o.data) else none) = _; rw [if_pos hdl]
        exact fun w' hw => ⟨hexW o.data, by rw [hz]; rfl, St.pureI ⟨fun s hs => by rw [hz] at hs; injection hs, fun _ => hexW_len hdl⟩ (hw.sel (by repeat (first | exact Sel.nil | (apply Sel.cons; · (repeat (first | exact Pick.here | apply Pick.there))))))⟩
      · refine gsr ?_
        refine gp zei ?_
        refine gp zas ?_
        refine gnt ?_
        refine gif rfl (fun hc30 => ?_) (fun hc30 => ?_)
        · try simp only at hc30
          obtain rfl := u8c (n := 112) hc30 (by decide)
          refine gsr ?_
          refine gp zfa ?_
          refine gp zl ?_
          refine zc (fun x34 => ?_) (c := fun w1 F1 F2 h1 h2 hd hst => sunpowered_ok (l := o.set) h1 (hsa.mv hst.still) hsca (hT.mv hst.still) hwf.2.2)
          refine gl_pureR (fun hx34 => ?_)
          refine gp zex ?_
          refine gp zex ?_
          refine gp zas ?_
          refine gp zas ?_
          refine gnt ?_
          refine gc_ret ?_
          refine gx_block_ret ?_
          refine gx_then_ret ?_
          refine gx_ret2 rfl (by conv => lhs; whnf) (by conv => lhs; whnf) ?_
          exact fun w' hw => ⟨x34, rfl, St.pureI ⟨fun s hs => (hx34 s hs).1, fun hi => by obtain ⟨s, hs⟩ := Option.isSome_iff_exists.1 hi; have := hx34 s hs; rw [this.1]; omega⟩ (hw.sel (by repeat (first | exact Sel.nil | (apply Sel.cons; · (repeat (first | exact Pick.here | apply Pick.there))))))⟩
        · try simp only at hc30
          obtain rfl : c = 98 := by
            rcases hg with rfl | rfl | rfl | rfl | rfl
            · exact absurd rfl hc7
            · exact absurd rfl hc14
            · exact absurd rfl hc21
            · exact absurd rfl hc30
            · rfl
          refine gc_skip ?_
          refine gx_block_normal ?_
          refine gx_then ?_
          refine gc_seq ?_
          refine gc_regionZ 8 ([blk b2 38 [.int .i64 o.kind, .int .i64 o.node, .int .i64 o.n, .slice aa1 o.set.length ca1, .slice aa2 o.keep.length ca2, .slice aa3 o.data.length ca3]]) ?_
          refine yps 0 rfl zfa ?_
          refine yps 1 rfl zl ?_
          refine yps 3 rfl zfa ?_
          refine yps 4 rfl zl ?_
          refine yps 5 rfl zln ?_
          refine yps 6 rfl (r_bool (c := decide (o.keep.length ≤ 64)) zle (by rw [decide_eq_decide]; omega)) ?_
          refine yos 2 rfl ?_
          refine zc (fun _ => ?_) (c := fun w1 F1 F2 h1 h2 hd hst => sunbitted_ok (l := o.keep) h1 (hka.mv hst.still) hkca)
          refine yxs ?_
          refine yps 7 rfl zas ?_
          refine yzs rfl ?_
          refine gp zas ?_
          refine gnt ?_
          refine gc_ret ?_
          refine gx_ret2 rfl (by conv => lhs; whnf) (by conv => lhs; whnf) ?_
          have hz : getP o 98 = if o.keep.length ≤ 64 then some (bitW o.keep) else none := rfl
          have hq : ∀ s, getP o 98 = some s → bitW (o.keep.take 64) = s := fun s hs => by
            rw [hz] at hs
            split at hs
            · rw [List.take_of_length_le (by assumption)]; injection hs
            · cases hs
          exact fun w' hw => ⟨bitW (o.keep.take 64), by rw [get_b o], St.pureI ⟨hq, fun _ => bitW_len _⟩ (hw.sel (by repeat (first | exact Sel.nil | (apply Sel.cons; · (repeat (first | exact Pick.here | apply Pick.there))))))⟩

end Go.Proofs.YthicckleihbomaaDoor

/- Walks, by program (wg.py) out of a spec. -/
namespace Go.Proofs.YthicckleihbomaaDoor
open Go
set_option linter.unusedVariables false
set_option linter.unusedSimpArgs false

attribute [local irreducible] Gl Gc Gx Gs Runs Wt

set_option maxHeartbeats 400000 in
theorem line1_ok {w : World} {F : Nat → Prop} {f : FormS} {b1 : Nat} {k : Int} {t : List Value} (h : stars [blk b1 38 (.int .i64 k :: t)] w F) :
    Calls Tryd.prog 27 #[.agg (foC f).toArray, .pointer (some ⟨b1, 0, none⟩)] w (Post w F (fun _ : Unit => .bool (decide ((f.kind : Int) = k))) (fun _ => [blk b1 38 (.int .i64 k :: t)])) := by
  refine g_enter (env := [(0, .agg (foC f).toArray), (1, .pointer (some ⟨b1, 0, none⟩))]) Tryd.func27 rfl h Tryd.ntmps27 rfl rfl ?_
  refine gsr ?_
  refine zbN fun b2 => ?_
  refine gp zas ?_
  refine gnt ?_
  refine gsr ?_
  refine gp zfa ?_
  refine gp zl ?_
  refine gp zfa ?_
  refine gp zl ?_
  refine gp zei ?_
  refine gp zas ?_
  refine gnt ?_
  refine gc_ret ?_
  refine gx_ret1 rfl (by conv => lhs; whnf) ?_
  exact ze ()

set_option maxHeartbeats 400000 in
set_option maxRecDepth 20000 in
theorem fidx_ok {w : World} {F : Nat → Prop} {g b1 : Nat} {k : Int} {t : List Value} (h : stars [blk b1 38 (.int .i64 k :: t)] w F) (hr : RdRow w (fun k => ¬ F k) 3 (some ⟨g, 0, none⟩) 10 (forms.map foC).flatten) :
    Calls Tryd.prog 25 #[.slice (some ⟨g, 0, none⟩) 10 10, .func (.func 27) #[] #[.pointer (some ⟨b1, 0, none⟩)]] w (Post w F (fun _ : Unit => .int .i64 (fixI k)) (fun _ => [blk b1 38 (.int .i64 k :: t)])) := by
  refine g_enter (env := [(0, .slice (some ⟨g, 0, none⟩) 10 10), (1, .func (.func 27) #[] #[.pointer (some ⟨b1, 0, none⟩)])]) Tryd.func25 rfl h Tryd.ntmps25 rfl rfl ?_
  refine gsr ?_
  refine gp zas ?_
  refine gnt ?_
  refine gc_seq ?_
  refine gsr ?_
  refine gp zmv ?_
  refine gp zln ?_
  refine gp zmv ?_
  refine gnt ?_
  refine gc_block ?_
  refine gc_loop (α := Nat) (fun i => [pureR (i ≤ 10 ∧ ∀ j, j < i → ¬ ((j + 1 : Nat) : Int) = k), blk b1 38 (.int .i64 k :: t)]) (fun i => [(8, .int .i64 (i : Int))]) [4, 5, 9, 10, 11, 12, 13, 14, 15, 16, 17, 18] (fun i => 10 - i) 0 ?_ ?_ ?_
  · refine env_start (by kernel_rfl)
  · exact zlp ⟨Nat.zero_le _, fun i hi => absurd hi (Nat.not_lt_zero _)⟩
  · intro i u
    refine gc_pureR (fun hk => ?_)
    obtain ⟨hi, hm⟩ := hk
    replace hi : i ≤ 10 := hi
    refine gsr ?_
    refine gp zlt ?_
    refine gnt ?_
    refine gc_seq ?_
    refine gif rfl (fun hc9 => ?_) (fun hc9 => ?_)
    · try simp only at hc9
      have hi' : i < 10 := by omega
      obtain ⟨f, _, _, hfg, _, _, _⟩ := drop_at (l := forms) (k := i) hi'
      obtain ⟨g', o', ha, hA, _, hra⟩ := hr.elem hi'
      injection ha with ha
      injection ha with e1 e2
      subst e1
      subst e2
      rw [flatten_at (c := foC f) foCs_len (by rw [List.getElem?_map, hfg]; rfl)] at hra
      have hfk := forms_kind hfg
      refine gc_skip ?_
      refine gx_then ?_
      refine gc_seq ?_
      refine gc_block ?_
      refine gsr ?_
      refine gp zmv ?_
      refine gp zas ?_
      refine gnt ?_
      refine gsr ?_
      refine gp zmv ?_
      refine gp zmv ?_
      refine gp zmv ?_
      refine gp (r_val (v' := .pointer (some ⟨g, 0 + i * 3, none⟩)) zia (by simp)) ?_
      refine gp (r_ldNo (seg := foC f) rfl Ty.row_67 Ty.sz_67 hra (foC_len f) (by decide) hA) ?_
      refine gl_call (wt0 rfl) (e_callv (us := [.pointer (some ⟨b1, 0, none⟩)]) rfl Ty.call_27 rfl) (by repeat (first | exact Sel.nil | (apply Sel.cons; · (repeat (first | exact Pick.here | apply Pick.there))))) (fun w1 F1 F2 h1 h2 hd hst => line1_ok (f := f) (k := k) (t := t) h1) ?_
      intro _
      refine gnt ?_
      refine gif rfl (fun hc16 => ?_) (fun hc16 => ?_)
      · try simp only at hc16
        have hhit : ((i + 1 : Nat) : Int) = k := by have : (f.kind : Int) = k := (by simpa using hc16); rw [← hfk]; exact this
        have hz := fixI_hit hi' hhit
        refine gsr ?_
        refine gp zmv ?_
        refine gp zas ?_
        refine gnt ?_
        refine gc_ret ?_
        refine gx_block_ret ?_
        refine gx_then_ret ?_
        refine gx_round_ret ?_
        refine gx_block_ret ?_
        refine gx_then_ret ?_
        refine gx_ret1 rfl (by conv => lhs; whnf) ?_
        exact fun w' hw => ⟨(), by rw [hz], hw.sel (by repeat (first | exact Sel.nil | (apply Sel.cons; · (repeat (first | exact Pick.here | apply Pick.there)))))⟩
      · try simp only at hc16
        have hne : ¬ ((i + 1 : Nat) : Int) = k := by have : ¬ (f.kind : Int) = k := (by simpa using hc16); rw [← hfk]; exact this
        refine gc_skip ?_
        refine gx_block_normal ?_
        refine gx_then ?_
        refine gc_region ?_
        refine gp zad ?_
        refine gp zmv ?_
        refine gl_nil ?_
        refine zrd (i + 1) ?_ ?_
        · show 10 - (i + 1) < 10 - i
          omega
        · exact zlp (show i + 1 ≤ 10 ∧ ∀ j, j < i + 1 → ¬ ((j + 1 : Nat) : Int) = k from ⟨by omega, fun j hj => (by by_cases h' : j < i; exact hm j h'; (obtain rfl : j = i := by omega); exact hne)⟩)
    · try simp only at hc9
      have hi' : i = 10 := by omega
      subst hi'
      have hz := fixI_miss hm
      refine gc_exit ?_
      refine gx_then_exit ?_
      refine gx_round_exit ?_
      refine gx_block_hit ?_
      refine gx_then ?_
      refine gsr ?_
      refine gp zas ?_
      refine gnt ?_
      refine gc_ret ?_
      refine gx_ret1 rfl (by conv => lhs; whnf) ?_
      exact fun w' hw => ⟨(), by rw [hz], hw.sel (by repeat (first | exact Sel.nil | (apply Sel.cons; · (repeat (first | exact Pick.here | apply Pick.there)))))⟩

set_option maxHeartbeats 1000000 in
set_option maxRecDepth 20000 in
theorem sline_ok {w : World} {F : Nat → Prop} {csa : List Value} {o : OpS} (h : stars [] w F) (hx : RdOpS w (fun k => ¬ F k) csa o) (hdl : o.data.length ≤ 65535) (hwf : WfO o) (hT : TenG w (fun k => ¬ F k)) {ea : Nat → Addr} {es : List Nat} [Has es 4] (hE : GErr es w (fun k => ¬ F k) 153 ea)  :
    Calls Tryd.prog 13 #[.agg csa.toArray] w (Post w F (fun _ : Unit => .tuple #[.string (str (linO o)), eV 153 ea (linE o)]) (fun _ => [])) := by
  have hx0 := hx
  obtain ⟨aa1, aa2, aa3, ca1, ca2, ca3, rfl, ⟨hsa, hsca⟩, ⟨hka, hkca⟩, hda, hdca⟩ := hx
  refine g_enter (env := [(0, .agg (List.toArray ([.int .i64 o.kind, .int .i64 o.node, .int .i64 o.n, .slice aa1 o.set.length ca1, .slice aa2 o.keep.length ca2, .slice aa3 o.data.length ca3])))]) Tryd.func13 rfl h Tryd.ntmps13 rfl rfl ?_
  refine gsr ?_
  refine zbN fun b1 => ?_
  refine gp zas ?_
  refine gp zas ?_
  refine gnt ?_
  refine gsr ?_
  refine zc (fun g10 => ?_) (c := fun w1 F1 F2 h1 h2 hd hst => sforms_ok h1)
  refine gp zmf ?_
  refine zc (fun _ => ?_) (c := fun w1 F1 F2 h1 h2 hd hst => fidx_ok (k := o.kind) h1 (rd_row h2 hd (by repeat (first | exact Pick.here | apply Pick.there))))
  refine gp zas ?_
  refine gnt ?_
  refine gc_seq ?_
  refine gc_seq ?_
  by_cases g0 : 1 ≤ o.kind ∧ o.kind ≤ 10
  · obtain ⟨f, hfg, hfk, hfm⟩ := formK_at g0
    obtain ⟨i, hi⟩ : ∃ i : Nat, i = (o.kind - 1).toNat := ⟨_, rfl⟩
    rw [← hi] at hfg
    have hfi : fixI o.kind = (i : Int) := by unfold fixI; rw [if_pos g0]; omega
    have hi10 : i < 10 := by omega
    have hgd := forms_good f hfm
    have hfs := forms_small f hfm
    have hlin : linP o = (getsP o f.parts).map (f.word ++ ·) := by unfold linP; rw [hfk]
    refine gc_region ?_
    refine gp (r_int (j := (i : Int)) zmv hfi) ?_
    refine gp (r_bool (c := false) zlt (decide_eq_false (by omega))) ?_
    refine gnt ?_
    refine gc_condF rfl rfl ?_
    refine gc_skip ?_
    refine gx_then ?_
    refine gsr ?_
    refine zc (fun g16 => ?_) (c := fun w1 F1 F2 h1 h2 hd hst => sforms_ok h1)
    refine gp (r_int (j := (i : Int)) zmv hfi) ?_
    refine gp zia ?_
    refine gp (r_ldRow (css := forms.map foC) (cs := foC f) (i := i) rfl Ty.row_67 Ty.sz_67 (by repeat (first | exact Pick.here | apply Pick.there)) foCs_len (by rw [List.getElem?_map, hfg]; rfl) hi10) ?_
    refine zal fun b5 => ?_
    refine zsA (foC_len f) (foC_one f) ?_
    refine gl_eqc (cs' := [.int .i64 (f.kind : Int), .string (str f.word), .string (str f.parts)]) (by repeat (first | exact Pick.here | apply Pick.there)) rfl ?_
    refine gnt ?_
    refine gsr ?_
    refine gp zfa ?_
    refine gp zl ?_
    refine gp zas ?_
    refine gnt ?_
    refine gc_seq ?_
    refine gsr ?_
    refine gp zfa ?_
    refine gp zl ?_
    refine gp zlS ?_
    refine gp zmv ?_
    refine gnt ?_
    refine gc_block ?_
    refine gc_loop (α := Nat × Bs) (fun y => [pureR (y.1 ≤ f.parts.length ∧ (getsP o (f.parts.take y.1)).map (f.word ++ ·) = some y.2 ∧ y.2.length ≤ 131073 * (y.1 + 1)), blk b5 67 [.int .i64 (f.kind : Int), .string (str f.word), .string (str f.parts)], blk b1 38 [.int .i64 o.kind, .int .i64 o.node, .int .i64 o.n, .slice aa1 o.set.length ca1, .slice aa2 o.keep.length ca2, .slice aa3 o.data.length ca3]]) (fun y => [(25, .int .i64 (y.1 : Int)), (6, .string (str y.2))]) [2, 3, 7, 8, 9, 26, 27, 28, 29, 30, 31, 32, 33, 34, 35, 36, 37, 38, 39, 40, 41, 42, 43, 44] (fun y => f.parts.length - y.1) (0, f.word) ?_ ?_ ?_
    · refine env_start (by kernel_rfl)
    · exact zlp ⟨Nat.zero_le _, by simp [getsP], by have := forms_wl f hfm; show f.word.length ≤ 131073 * (0 + 1); omega⟩
    · intro y u
      obtain ⟨k, tx⟩ := y
      refine gc_pureR (fun hq => ?_)
      obtain ⟨hk, hu, hul⟩ := hq
      replace hk : k ≤ f.parts.length := hk
      replace hu : (getsP o (f.parts.take k)).map (f.word ++ ·) = some tx := hu
      replace hul : tx.length ≤ 131073 * (k + 1) := hul
      refine gsr ?_
      refine gp zlt ?_
      refine gnt ?_
      refine gc_seq ?_
      refine gif rfl (fun hc26 => ?_) (fun hc26 => ?_)
      · try simp only at hc26
        have hk' : k < f.parts.length := by omega
        obtain ⟨pc, _, _, hpg, _, hpm, hpt⟩ := drop_at hk'
        refine gc_skip ?_
        refine gx_then ?_
        refine gc_seq ?_
        refine gc_block ?_
        refine gsr ?_
        refine gp zmv ?_
        refine gp zas ?_
        refine gnt ?_
        refine gc_seq ?_
        refine gc_regionZ 10 ([blk b1 38 [.int .i64 o.kind, .int .i64 o.node, .int .i64 o.n, .slice aa1 o.set.length ca1, .slice aa2 o.keep.length ca2, .slice aa3 o.data.length ca3], blk b5 67 [.int .i64 (f.kind : Int), .string (str f.word), .string (str f.parts)]]) ?_
        refine yps 0 rfl zL ?_
        refine yps 1 rfl zfa ?_
        refine yps 2 rfl zl ?_
        refine yps 3 rfl zmv ?_
        refine yps 4 rfl (r_ixs (b := f.parts) (j := k) (c := pc) hpg) ?_
        refine yos 5 rfl ?_
        refine zc (fun x34 => ?_) (c := fun w1 F1 F2 h1 h2 hd hst => sget_ok (o := o) (c := pc) h1 (RdK.mv hx0 hst.still) (hgd.2.1 pc hpm) hdl hwf (hT.mv hst.still))
        refine gl_pureR (fun hx34 => ?_)
        obtain ⟨hx34, hxl34⟩ := hx34
        refine yxs ?_
        refine yps 6 rfl zmv ?_
        refine yps 7 rfl zex ?_
        refine yps 8 rfl zex ?_
        refine yps 9 rfl zas ?_
        refine yzs rfl ?_
        refine gp zas ?_
        refine gnt ?_
        refine gc_seq ?_
        refine gsr ?_
        refine gp zmv ?_
        refine gp znt ?_
        refine gnt ?_
        refine gif rfl (fun hc38 => ?_) (fun hc38 => ?_)
        · try simp only at hc38
          have hn : getP o pc = none := by simpa using hc38
          refine gc_seq ?_
          refine gc_regionS (by kernel_rfl) (by kernel_rfl) ?_
          refine sp (r_ld1o rfl Ty.row_25 (hE.c 4 Has.h) (hE.n 4 Has.h)) ?_
          refine sp zas ?_
          refine sp zas ?_
          refine gs_nil ?_
          refine gx_then ?_
          refine gc_ret ?_
          refine gx_then_ret ?_
          refine gx_block_ret ?_
          refine gx_then_ret ?_
          refine gx_round_ret ?_
          refine gx_block_ret ?_
          refine gx_then_ret ?_
          refine gx_ret2 rfl (by conv => lhs; whnf) (by conv => lhs; whnf) ?_
          have hz : linP o = none := by rw [hlin, gets_none hn hpm]; rfl
          exact fun w' hw => ⟨(), by rw [(lin_none hz).1, (lin_none hz).2]; rfl, hw.sel (by repeat (first | exact Sel.nil | (apply Sel.cons; · (repeat (first | exact Pick.here | apply Pick.there)))))⟩
        · try simp only at hc38
          have hn : (getP o pc).isSome = true := by simpa using hc38
          obtain ⟨sg, hsg⟩ := Option.isSome_iff_exists.1 hn
          have hxs := hx34 sg hsg
          subst hxs
          have hxl := hxl34 hn
          obtain ⟨tt, htt, htx⟩ := Option.map_eq_some_iff.1 hu
          have hu2 : (getsP o (f.parts.take (k + 1))).map (f.word ++ ·) = some (tx ++ ([32] ++ x34)) := by rw [hpt, gets_snoc htt hsg, ← htx]; simp
          refine gc_skip ?_
          refine gx_then ?_
          refine gc_region ?_
          refine gp zmv ?_
          refine gp zmv ?_
          refine gp (zcat (a := [32]) (b := x34) (hl := by simp; omega)) ?_
          refine gp (zcat (b := [32] ++ x34) (hl := by simp; omega)) ?_
          refine gp zas ?_
          refine gl_nil ?_
          refine gx_block_normal ?_
          refine gx_then ?_
          refine gc_region ?_
          refine gp zad ?_
          refine gp zmv ?_
          refine gl_nil ?_
          refine zrd ((k + 1, tx ++ ([32] ++ x34))) ?_ ?_
          · show f.parts.length - (k + 1) < f.parts.length - k
            omega
          · exact zlp (show k + 1 ≤ f.parts.length ∧ (getsP o (f.parts.take (k + 1))).map (f.word ++ ·) = some (tx ++ ([32] ++ x34)) ∧ (tx ++ ([32] ++ x34)).length ≤ 131073 * (k + 1 + 1) from ⟨by omega, hu2, by simp; omega⟩)
      · try simp only at hc26
        have hk' : k = f.parts.length := by omega
        subst hk'
        rw [List.take_of_length_le (Nat.le_refl _), ← hlin] at hu
        refine gc_exit ?_
        refine gx_then_exit ?_
        refine gx_round_exit ?_
        refine gx_block_hit ?_
        refine gx_then ?_
        refine gsr ?_
        refine gp zmv ?_
        refine gp zas ?_
        refine gp zas ?_
        refine gnt ?_
        refine gc_ret ?_
        refine gx_ret2 rfl (by conv => lhs; whnf) (by conv => lhs; whnf) ?_
        exact fun w' hw => ⟨(), by rw [(lin_is hu).1, (lin_is hu).2, eV_zero], hw.sel (by repeat (first | exact Sel.nil | (apply Sel.cons; · (repeat (first | exact Pick.here | apply Pick.there)))))⟩
  · have hfi : fixI o.kind = -1 := by unfold fixI; rw [if_neg g0]
    refine gc_region ?_
    refine gp (r_int (j := -1) zmv hfi) ?_
    refine gp (r_bool (c := true) zlt (rfl)) ?_
    refine gnt ?_
    refine gc_condT rfl rfl ?_
    refine gc_seq ?_
    refine gc_regionS (by kernel_rfl) (by kernel_rfl) ?_
    refine sp (r_ld1o rfl Ty.row_25 (hE.c 4 Has.h) (hE.n 4 Has.h)) ?_
    refine sp zas ?_
    refine sp zas ?_
    refine gs_nil ?_
    refine gx_then ?_
    refine gc_ret ?_
    refine gx_then_ret ?_
    refine gx_ret2 rfl (by conv => lhs; whnf) (by conv => lhs; whnf) ?_
    have hz : linP o = none := by unfold linP; rw [formK_none g0]
    exact fun w' hw => ⟨(), by rw [(lin_none hz).1, (lin_none hz).2]; rfl, hw.sel (by repeat (first | exact Sel.nil | (apply Sel.cons; · (repeat (first | exact Pick.here | apply Pick.there)))))⟩

end Go.Proofs.YthicckleihbomaaDoor

/- Walks, by program (wg.py) out of a spec. -/
namespace Go.Proofs.YthicckleihbomaaDoor
open Go
set_option linter.unusedVariables false
set_option linter.unusedSimpArgs false

attribute [local irreducible] Gl Gc Gx Gs Runs Wt

set_option maxHeartbeats 1000000 in
set_option maxRecDepth 20000 in
theorem stext_ok {w : World} {F : Nat → Prop} {a : Option Addr} {n c : Nat} {l : List OpS} (h : stars [] w F) (hl : RdList (RdOpS w (fun k => ¬ F k)) w (fun k => ¬ F k) 6 a n l) (hok : ∀ o ∈ l, o.data.length ≤ 65535 ∧ WfO o) (hT : TenG w (fun k => ¬ F k)) {ea : Nat → Addr} {es : List Nat} [Has es 3] [Has es 4] (hE : GErr es w (fun k => ¬ F k) 153 ea)  :
    Calls Tryd.prog 14 #[.slice a n c] w (Post w F (fun _ : Unit => .tuple #[.string (str (texO l)), eV 153 ea (texE l)]) (fun _ => [])) := by
  have hn := hl.len (by decide)
  have hmx := hl.max
  simp only [maxLen] at hmx
  refine g_enter (env := [(0, .slice a n c)]) Tryd.func14 rfl h Tryd.ntmps14 rfl rfl ?_
  refine gsr ?_
  refine gp zas ?_
  refine gp zas ?_
  refine gnt ?_
  refine gsr ?_
  refine zal fun b4 => ?_
  refine gnt ?_
  refine gsr ?_
  refine gp zas ?_
  refine gnt ?_
  refine gc_seq ?_
  refine gsr ?_
  refine gp zmv ?_
  refine gp zln ?_
  refine gp zmv ?_
  refine gnt ?_
  refine gc_block ?_
  refine gc_loop (α := Nat × (Bool × (List Bs × Bs))) (fun y => [pureR (y.1 ≤ n ∧ linsP (l.take y.1) = some y.2.2.1 ∧ (y.2.1 = false → y.2.2.2 = textB y.2.2.1 ∧ totB y.2.2.1 ≤ 65535) ∧ (y.2.1 = true → 65535 < totB y.2.2.1) ∧ List.length y.2.2.2 ≤ 65535), BldR b4 y.2.2.2]) (fun y => [(12, .int .i64 (y.1 : Int)), (5, .bool y.2.1)]) [2, 3, 7, 8, 9, 13, 14, 15, 16, 17, 18, 19, 20, 21, 22, 23, 24, 25, 26, 27, 28, 29, 30, 31, 32, 33, 34, 35, 36, 37] (fun y => n - y.1) (0, (false, ([], []))) ?_ ?_ ?_
  · refine env_start (by kernel_rfl)
  · exact fun w' hw => St.pureI ⟨Nat.zero_le _, rfl, fun _ => ⟨rfl, Nat.zero_le _⟩, fun e => (by cases e), Nat.zero_le _⟩ (St.bld (u := false) (bs := []) ((hw.rowNil (e := 5) (size := 1)).sel (M := [blk b4 73 [.pointer none, .slice none 0 0], rowR 5 1 none 0 0 []]) (by repeat (first | exact Sel.nil | (apply Sel.cons; · (repeat (first | exact Pick.here | apply Pick.there)))))) rfl rfl (fun _ => rfl))
  · intro y u
    obtain ⟨k, lg, ls, out⟩ := y
    refine gc_pureR (fun hq => ?_)
    obtain ⟨hk, hls, hf, ht, ho⟩ := hq
    replace hk : k ≤ n := hk
    replace hls : linsP (l.take k) = some ls := hls
    replace hf : lg = false → out = textB ls ∧ totB ls ≤ 65535 := hf
    replace ht : lg = true → 65535 < totB ls := ht
    replace ho : out.length ≤ 65535 := ho
    refine gsr ?_
    refine gp zlt ?_
    refine gnt ?_
    refine gc_seq ?_
    refine gif rfl (fun hc13 => ?_) (fun hc13 => ?_)
    · try simp only at hc13
      have hk' : k < n := by omega
      obtain ⟨g1, o1, d1, x1, ha1, hA1, _, hra1, hcl1, hx1, hrd1⟩ := hl.elem (i := k) (by decide) hk'
      subst ha1
      have hrk := hrd1
      obtain ⟨ax1, ax2, ax3, cx1, cx2, cx3, rfl, ⟨hsx, hscx⟩, ⟨hkx, hkcx⟩, hdx, hdcx⟩ := hrd1
      obtain ⟨hil, hie⟩ := List.getElem?_eq_some_iff.1 hx1
      obtain ⟨x2, _, _, hg2, _, hmem, htk⟩ := drop_at hil
      obtain rfl : x2 = x1 := by rw [hx1] at hg2; injection hg2 with hg2; exact hg2.symm
      obtain ⟨hxd, hxw⟩ := hok x2 hmem
      refine gc_skip ?_
      refine gx_then ?_
      refine gc_seq ?_
      refine gc_block ?_
      refine gsr ?_
      refine gp (r_val (v' := .pointer (some ⟨g1, o1 + k * 6, none⟩)) zia (by simp)) ?_
      refine gp (r_ldNo (seg := [.int .i64 x2.kind, .int .i64 x2.node, .int .i64 x2.n, .slice ax1 x2.set.length cx1, .slice ax2 x2.keep.length cx2, .slice ax3 x2.data.length cx3]) rfl Ty.row_38 Ty.sz_38 hra1 rfl (by decide) hA1) ?_
      refine zal fun b7 => ?_
      refine zsN ?_
      refine gnt ?_
      refine gc_seq ?_
      by_cases g1 : (linP x2).isSome = true
      · obtain ⟨s, hs⟩ := Option.isSome_iff_exists.1 g1
        have hls2 : linsP (l.take (k + 1)) = some (ls ++ [s]) := by rw [linsP_allL] at hls ⊢; rw [htk]; exact allL_snoc hls hs
        have htb := totB_snoc ls s
        have htx := textB_len ls
        have hsl := lin_len hs hxd
        refine gc_region ?_
        refine gp zL ?_
        refine zc (fun _ => ?_) (c := fun w1 F1 F2 h1 h2 hd hst => sline_ok (o := x2) h1 (RdK.mv hrk hst.still) hxd hxw (hT.mv hst.still) (hE.mv hst.still))
        rw [(lin_is hs).1, (lin_is hs).2]
        refine gp zmv ?_
        refine gp zex ?_
        refine gp zex ?_
        refine gp zas ?_
        refine gp zas ?_
        refine gnt ?_
        refine gc_seq ?_
        refine gsr ?_
        refine gp zmv ?_
        refine gp (r_bool (c := false) (r_nenil (k := 0) rfl (by kernel_rfl)) rfl) ?_
        refine gnt ?_
        refine gc_condF rfl rfl ?_
        refine gc_skip ?_
        refine gx_then ?_
        refine gc_seq ?_
        by_cases g5 : lg = true
        · subst g5
          have htl : 65535 < totB (ls ++ [s]) := by have := ht rfl; omega
          refine gc_region ?_
          refine gp zmv ?_
          refine gp zmv ?_
          refine gn ?_
          refine gn ?_
          refine gn ?_
          refine gn ?_
          refine gn ?_
          refine gp zpk ?_
          refine gp zas ?_
          refine gnt ?_
          refine gsr ?_
          refine gp zmv ?_
          refine gp (r_bool (c := false) znt (rfl)) ?_
          refine gnt ?_
          refine gc_condF rfl rfl ?_
          refine gc_skip ?_
          refine gx_block_normal ?_
          refine gx_then ?_
          refine gc_region ?_
          refine gp zad ?_
          refine gp zmv ?_
          refine gl_nil ?_
          refine zrd ((k + 1, (true, (ls ++ [s], out)))) ?_ ?_
          · show n - (k + 1) < n - k
            omega
          · exact zlp (show k + 1 ≤ n ∧ linsP (l.take (k + 1)) = some (ls ++ [s]) ∧ (true = false → out = textB (ls ++ [s]) ∧ totB (ls ++ [s]) ≤ 65535) ∧ (true = true → 65535 < totB (ls ++ [s])) ∧ List.length out ≤ 65535 from ⟨by omega, hls2, fun e => (by cases e), fun _ => htl, ho⟩)
        · obtain rfl : lg = false := by simpa using g5
          obtain ⟨hfo, hft⟩ := hf rfl
          have hole : out.length = totB ls := by rw [hfo, htx]
          by_cases g6 : 65535 < out.length + s.length + 1
          · have htl : 65535 < totB (ls ++ [s]) := by omega
            refine gc_region ?_
            refine gp zmv ?_
            refine gp zmv ?_
            refine gq zmv ?_
            refine gq zlS ?_
            refine zc (fun _ => ?_) (c := fun w1 F1 F2 h1 h2 hd hst => blen_ok (bs := out) h1)
            refine gq (r_int (j := ((65535 - out.length : Nat) : Int)) zsb (by omega)) ?_
            refine gq (r_bool (c := true) zge (decide_eq_true (by omega))) ?_
            refine gp zpk ?_
            refine gp zas ?_
            refine gnt ?_
            refine gsr ?_
            refine gp zmv ?_
            refine gp (r_bool (c := false) znt (rfl)) ?_
            refine gnt ?_
            refine gc_condF rfl rfl ?_
            refine gc_skip ?_
            refine gx_block_normal ?_
            refine gx_then ?_
            refine gc_region ?_
            refine gp zad ?_
            refine gp zmv ?_
            refine gl_nil ?_
            refine zrd ((k + 1, (true, (ls ++ [s], out)))) ?_ ?_
            · show n - (k + 1) < n - k
              omega
            · exact zlp (show k + 1 ≤ n ∧ linsP (l.take (k + 1)) = some (ls ++ [s]) ∧ (true = false → out = textB (ls ++ [s]) ∧ totB (ls ++ [s]) ≤ 65535) ∧ (true = true → 65535 < totB (ls ++ [s])) ∧ List.length out ≤ 65535 from ⟨by omega, hls2, fun e => (by cases e), fun _ => htl, ho⟩)
          · have htl : totB (ls ++ [s]) ≤ 65535 := by omega
            have hol : (out ++ (s ++ [10])).length ≤ 65535 := by simp; omega
            refine gc_region ?_
            refine gp zmv ?_
            refine gp zmv ?_
            refine gq zmv ?_
            refine gq zlS ?_
            refine zc (fun _ => ?_) (c := fun w1 F1 F2 h1 h2 hd hst => blen_ok (bs := out) h1)
            refine gq (r_int (j := ((65535 - out.length : Nat) : Int)) zsb (by omega)) ?_
            refine gq (r_bool (c := false) zge (decide_eq_false (by omega))) ?_
            refine gp zpk ?_
            refine gp zas ?_
            refine gnt ?_
            refine gsr ?_
            refine gp zmv ?_
            refine gp (r_bool (c := true) znt (rfl)) ?_
            refine gnt ?_
            refine gc_condT rfl rfl ?_
            refine gc_region ?_
            refine gp zmv ?_
            refine gp (zcat (a := s) (b := [10]) (hl := by simp; omega)) ?_
            refine zc (fun _ => ?_) (c := fun w1 F1 F2 h1 h2 hd hst => bws_ok (bs := out) (s := s ++ [10]) h1 (by simp at hol ⊢; omega) (by simp))
            refine gl_nil ?_
            refine gx_block_normal ?_
            refine gx_then ?_
            refine gc_region ?_
            refine gp zad ?_
            refine gp zmv ?_
            refine gl_nil ?_
            refine zrd ((k + 1, (false, (ls ++ [s], out ++ (s ++ [10]))))) ?_ ?_
            · show n - (k + 1) < n - k
              omega
            · exact zlp (show k + 1 ≤ n ∧ linsP (l.take (k + 1)) = some (ls ++ [s]) ∧ (false = false → (out ++ (s ++ [10])) = textB (ls ++ [s]) ∧ totB (ls ++ [s]) ≤ 65535) ∧ (false = true → 65535 < totB (ls ++ [s])) ∧ List.length (out ++ (s ++ [10])) ≤ 65535 from ⟨by omega, hls2, fun _ => ⟨by rw [textB_snoc, (hf rfl).1], htl⟩, fun e => (by cases e), hol⟩)
      · have hz : linP x2 = none := by simpa using g1
        refine gc_region ?_
        refine gp zL ?_
        refine zc (fun _ => ?_) (c := fun w1 F1 F2 h1 h2 hd hst => sline_ok (o := x2) h1 (RdK.mv hrk hst.still) hxd hxw (hT.mv hst.still) (hE.mv hst.still))
        rw [(lin_none hz).1, (lin_none hz).2]
        refine gp zmv ?_
        refine gp zex ?_
        refine gp zex ?_
        refine gp zas ?_
        refine gp zas ?_
        refine gnt ?_
        refine gc_seq ?_
        refine gsr ?_
        refine gp zmv ?_
        refine gp (r_bool (c := true) (r_nenil (k := 4) rfl (by kernel_rfl)) rfl) ?_
        refine gnt ?_
        refine gc_condT rfl rfl ?_
        refine gsr ?_
        refine gp zmv ?_
        refine gp zas ?_
        refine gp zas ?_
        refine gnt ?_
        refine gc_ret ?_
        refine gx_then_ret ?_
        refine gx_block_ret ?_
        refine gx_then_ret ?_
        refine gx_round_ret ?_
        refine gx_block_ret ?_
        refine gx_then_ret ?_
        refine gx_ret2 rfl (by conv => lhs; whnf) (by conv => lhs; whnf) ?_
        have hzz : linsP l = none := by rw [linsP_allL]; exact allL_none hz hmem
        exact fun w' hw => ⟨(), by rw [(tex_none hzz).1, (tex_none hzz).2]; rfl, hw.sel (by repeat (first | exact Sel.nil | (apply Sel.cons; · (repeat (first | exact Pick.here | apply Pick.there)))))⟩
    · try simp only at hc13
      have hk' : k = n := by omega
      rw [hk', hn, List.take_of_length_le (Nat.le_refl _)] at hls
      refine gc_exit ?_
      refine gx_then_exit ?_
      refine gx_round_exit ?_
      refine gx_block_hit ?_
      refine gx_then ?_
      refine gc_seq ?_
      refine gc_seq ?_
      by_cases g7 : lg = true
      · subst g7
        have htl := ht rfl
        refine gc_region ?_
        refine gp zmv ?_
        refine gnt ?_
        refine gc_condT rfl rfl ?_
        refine gc_seq ?_
        refine gc_regionS (by kernel_rfl) (by kernel_rfl) ?_
        refine sp (r_ld1o rfl Ty.row_25 (hE.c 3 Has.h) (hE.n 3 Has.h)) ?_
        refine sp zas ?_
        refine sp zas ?_
        refine gs_nil ?_
        refine gx_then ?_
        refine gc_ret ?_
        refine gx_then_ret ?_
        refine gx_ret2 rfl (by conv => lhs; whnf) (by conv => lhs; whnf) ?_
        exact fun w' hw => ⟨(), by rw [(tex_long hls htl).1, (tex_long hls htl).2]; rfl, hw.sel (by repeat (first | exact Sel.nil | (apply Sel.cons; · (repeat (first | exact Pick.here | apply Pick.there)))))⟩
      · obtain rfl : lg = false := by simpa using g7
        obtain ⟨hfo, hft⟩ := hf rfl
        refine gc_region ?_
        refine gp zmv ?_
        refine gnt ?_
        refine gc_condF rfl rfl ?_
        refine gc_skip ?_
        refine gx_then ?_
        refine gsr ?_
        refine zc (fun _ => ?_) (c := fun w1 F1 F2 h1 h2 hd hst => bstr_ok (bs := out) h1)
        refine gp zas ?_
        refine gp zas ?_
        refine gnt ?_
        refine gc_ret ?_
        refine gx_ret2 rfl (by conv => lhs; whnf) (by conv => lhs; whnf) ?_
        exact fun w' hw => ⟨(), by rw [(tex_is hls (by omega)).1, (tex_is hls (by omega)).2, eV_zero, hfo], hw.sel (by repeat (first | exact Sel.nil | (apply Sel.cons; · (repeat (first | exact Pick.here | apply Pick.there)))))⟩

end Go.Proofs.YthicckleihbomaaDoor

/- Walks, by program (wg.py) out of a spec. -/
namespace Go.Proofs.YthicckleihbomaaDoor
open Go
set_option linter.unusedVariables false
set_option linter.unusedSimpArgs false


/-- An op as Line and Text want it. -/
def OkS (o : OpS) : Prop := o.data.length ≤ 65535 ∧ WfO o
theorem okS0 (k : Nat) : OkS (op0 k) := ⟨Nat.zero_le _, show R64 0 from ⟨by decide, by decide⟩, show R64 0 from ⟨by decide, by decide⟩, fun x hx => by cases hx⟩
theorem r64_nat {k : Nat} (h : k ≤ 999999) : R64 (k : Int) := ⟨by omega, by omega⟩
attribute [local irreducible] Gl Gc Gx Gs Runs Wt

end Go.Proofs.YthicckleihbomaaDoor

/- Walks, by program (wg.py) out of a spec. -/
namespace Go.Proofs.YthicckleihbomaaDoor
open Go
set_option linter.unusedVariables false
set_option linter.unusedSimpArgs false


/-- the ops that are wanted: their cells, read in memory that was there -/
def WantR (w : World) (A : Nat → Prop) (css : List (List Value)) (l : List OpS) : Prop := css.length = l.length ∧ (∀ c ∈ css, List.length c = 6) ∧ ∀ (i : Nat) c x, css[i]? = some c → l[i]? = some x → RdOpS w A c x
theorem WantR.nil {w : World} {A : Nat → Prop} : WantR w A [] [] := ⟨rfl, by simp, fun i c x h => by simp at h⟩
theorem WantR.list {w w' : World} {A A' : Nat → Prop} {css : List (List Value)} {l : List OpS} {a : Option Addr} {n : Nat} (h : WantR w A css l) (k : Still w A w' A') (hr : RdRow w' A' 6 a n css.flatten) : RdList (RdOpS w' A') w' A' 6 a n l :=
  ⟨css, hr, h.2.1, h.1, fun i c x hc hx => RdK.mv (h.2.2 i c x hc hx) k⟩
theorem RdList.and {α : Type} {rd : List Value → α → Prop} {p : α → Prop} {w : World} {A : Nat → Prop} {size n : Nat} {a : Option Addr} {l : List α} (h : RdList (fun c x => rd c x ∧ p x) w A size a n l) : RdList rd w A size a n l ∧ ∀ x ∈ l, p x := by
  obtain ⟨css, h1, h2, h3, h4⟩ := h
  refine ⟨⟨css, h1, h2, h3, fun i c x hc hx => (h4 i c x hc hx).1⟩, fun x hx => ?_⟩
  obtain ⟨i, hi, e⟩ := List.mem_iff_getElem.1 hx
  exact (h4 i (css[i]'(by omega)) x (List.getElem?_eq_getElem (by omega)) (by rw [List.getElem?_eq_getElem hi, e])).2

attribute [local irreducible] Gl Gc Gx Gs Runs Wt

end Go.Proofs.YthicckleihbomaaDoor

