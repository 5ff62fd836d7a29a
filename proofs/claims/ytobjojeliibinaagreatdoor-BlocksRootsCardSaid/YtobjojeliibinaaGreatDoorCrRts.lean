/- Part 6. What is proved: see the last part: for every input the law returns true, and the input reads as it did. -/
import Derived.Test.YtobjojeliibinaaGreatDoorCr5
import Derived.Test.YtobjojeliibinaaGreatDoorCards
import Derived.Test.YtobjojeliibinaaGreatDoorTie
import Derived.Deep.DeepHandedRow
import Derived.Deep.DeepWitnessRowRef
/- Walks, by program (wg.py) out of a spec. -/
namespace Go.Proofs.YtobjojeliibinaaGreatDoor
open Go
set_option linter.unusedVariables false
set_option linter.unusedSimpArgs false


theorem sm_at {l : List Signed} {n : Nat} (hn : l.length = n) (h : ∀ i y, i < n → l[i]? = some y → smSig y.sig) : ∀ s ∈ l, smSig s.sig := fun s hs => by
  obtain ⟨i, hi, he⟩ := List.mem_iff_getElem.1 hs
  exact h i s (by omega) (by rw [List.getElem?_eq_getElem hi, he])
theorem sm_at8 {l : List (List UInt8)} {n : Nat} (hn : l.length = n) (h : ∀ i y, i < n → l[i]? = some y → List.length y ≤ 1099511627776) : ∀ s ∈ l, List.length s ≤ 1099511627776 := fun s hs => by
  obtain ⟨i, hi, he⟩ := List.mem_iff_getElem.1 hs
  exact h i s (by omega) (by rw [List.getElem?_eq_getElem hi, he])
theorem sm_next {α : Type} {l : List α} {k : Nat} {p : α → Prop} {y : α} (h : ∀ i y, i < k → l[i]? = some y → p y) (hy : l[k]? = some y) (hp : p y) : ∀ i y, i < k + 1 → l[i]? = some y → p y := fun i z hi hz => by
  by_cases h' : i < k
  · exact h i z h' hz
  · obtain rfl : i = k := by omega
    rw [hy] at hz; cases hz; exact hp

attribute [local irreducible] Gl Gc Gx Gs Runs Wt

attribute [local irreducible] dc qcC blkC

set_option maxHeartbeats 400000 in
theorem bigSigE_ok {w : World} {F : Nat → Prop} {cs : List Value} {x : Sig} (h : stars [] w F) (hx : RdSig w (fun k => ¬ F k) cs x) :
    Calls Tryz.prog 67 #[.agg cs.toArray] w (Post w F (fun b : Bool => .bool b) (fun b => [pureR (b = false → smSig x)])) := by
  obtain ⟨a1, n1, c1, a2, n2, c2, rfl, hk1, hk2, hd1, hd2⟩ := hx
  have hn1 := hd1.len (by decide)
  have hn2 := hd2.len (by decide)
  refine g_enter (env := [(0, .agg (List.toArray [.int .i64 x.leaf, .slice a1 n1 c1, .slice a2 n2 c2]))]) Tryz.func67 rfl h Tryz.ntmps67 rfl rfl ?_
  refine gsr ?_
  refine zbN fun b1 => ?_
  refine gp zas ?_
  refine gnt ?_
  refine gc_seq ?_
  by_cases hsp1 : (100 : Int) < (n1 : Int)
  · refine gc_region ?_
    refine gp zfa ?_
    refine gp zl ?_
    refine gp zln ?_
    refine gp (r_bool (r_gtr rfl rfl) (decide_eq_true hsp1)) ?_
    refine gp zmv ?_
    refine gn ?_
    refine gn ?_
    refine gn ?_
    refine gn ?_
    refine gp zpk ?_
    refine gp zas ?_
    refine gnt ?_
    refine gc_ret ?_
    refine gx_ret1 rfl (by conv => lhs; whnf) ?_
    exact fun w' hw => ⟨true, rfl, St.pureI (fun e => by cases e) (hw.sel (by repeat (first | exact Sel.nil | (apply Sel.cons; · (repeat (first | exact Pick.here | apply Pick.there))))))⟩
  · refine gc_region ?_
    refine gp zfa ?_
    refine gp zl ?_
    refine gp zln ?_
    refine gp (r_bool (r_gtr rfl rfl) (decide_eq_false hsp1)) ?_
    refine gp zmv ?_
    refine gq zfa ?_
    refine gq zl ?_
    refine gq zln ?_
    refine gq zgt ?_
    refine gp zpk ?_
    refine gp zas ?_
    refine gnt ?_
    refine gc_ret ?_
    refine gx_ret1 rfl (by conv => lhs; whnf) ?_
    exact fun w' hw => ⟨decide ((20 : Int) < (n2 : Int)), rfl, St.pureI (fun e => ⟨by omega, by have e2 := of_decide_eq_false e; omega⟩) (hw.sel (by repeat (first | exact Sel.nil | (apply Sel.cons; · (repeat (first | exact Pick.here | apply Pick.there))))))⟩

set_option maxHeartbeats 400000 in
theorem bigQCE_ok {w : World} {F : Nat → Prop} {cs : List Value} {x : QC} (h : stars [] w F) (hx : RdQC w (fun k => ¬ F k) cs x) :
    Calls Tryz.prog 16 #[.agg cs.toArray] w (Post w F (fun b : Bool => .bool b) (fun b => [pureR (b = false → smQC x)])) := by
  obtain ⟨a1, n1, c1, rfl, hk1, hd1⟩ := hx
  have hm1 := hd1.max
  simp only [maxLen] at hm1
  have hn1 := hd1.len (by decide)
  refine g_enter (env := [(0, .agg (List.toArray (.int .i64 x.epoch :: .int .i64 x.round :: (dc x.block ++ [.slice a1 n1 c1]))))]) Tryz.func16 rfl h Tryz.ntmps16 rfl rfl ?_
  refine gsr ?_
  refine zbN fun b1 => ?_
  refine gp zas ?_
  refine gnt ?_
  refine gc_seq ?_
  refine gsr ?_
  refine gp zfa ?_
  refine gp zl ?_
  refine gp zln ?_
  refine gp zgt ?_
  refine gnt ?_
  refine gif rfl (fun hc8 => ?_) (fun hc8 => ?_)
  · refine gsr ?_
    refine gp zas ?_
    refine gnt ?_
    refine gc_ret ?_
    refine gx_then_ret ?_
    refine gx_ret1 rfl (by conv => lhs; whnf) ?_
    exact fun w' hw => ⟨true, rfl, St.pureI (fun e => by cases e) (hw.sel (by repeat (first | exact Sel.nil | (apply Sel.cons; · (repeat (first | exact Pick.here | apply Pick.there))))))⟩
  · refine gc_skip ?_
    refine gx_then ?_
    refine gc_seq ?_
    refine gsr ?_
    refine gp zfa ?_
    refine gp zl ?_
    refine gp zln ?_
    refine gp zmv ?_
    refine gnt ?_
    refine gc_block ?_
    refine gc_loop (α := Nat) (fun k => [pureR (k ≤ n1 ∧ ∀ i y, i < k → x.votes[i]? = some y → smSig y.sig)]) (fun k => [(12, .int .i64 (k : Int))]) [2, 4, 13, 14, 15, 16, 17, 18, 19] (fun k => n1 - k) 0 ?_ ?_ ?_
    · refine env_start (by kernel_rfl)
    · exact zlp ⟨Nat.zero_le _, fun i y hi => absurd hi (Nat.not_lt_zero _)⟩
    · intro k u
      refine gc_pureR (fun hk => ?_)
      replace hk : k ≤ n1 ∧ ∀ i y, i < k → x.votes[i]? = some y → smSig y.sig := hk
      refine gsr ?_
      refine gp zlt ?_
      refine gnt ?_
      refine gc_seq ?_
      refine gif rfl (fun hc13 => ?_) (fun hc13 => ?_)
      · have hk' : k < n1 := by (try simp only at hc13); omega
        obtain ⟨g1, o1, cs1, y, ha1, hA1, hg1, hra1, hcl1, hl1, hrd1⟩ := hd1.elem (by decide) hk'
        subst ha1
        obtain ⟨s1, rfl, hs1⟩ := hrd1
        have ls := hs1.len
        refine gc_skip ?_
        refine gx_then ?_
        refine gc_seq ?_
        refine gc_block ?_
        refine gsr ?_
        refine gp (r_indexAddr_slice rfl rfl Ty.sl_24 Ty.sz_140 (by omega) (by omega)) ?_
        refine gp (r_ldNo rfl Ty.row_140 Ty.sz_140 hra1 hcl1 (by decide) hA1) ?_
        refine zal fun b4 => ?_
        refine gl_storeN (wt0 rfl) rfl rfl Ty.sz_140 hcl1 (by repeat (first | exact Pick.here | apply Pick.there)) (by decide) (all_cons' rfl hs1.one) (updL_all (by rw [hcl1]; rfl)) ?_
        refine gnt ?_
        refine gsr ?_
        refine gp zfa ?_
        refine gp (r_ldN (seg := s1) rfl Ty.row_138 Ty.sz_138 (by repeat (first | exact Pick.here | apply Pick.there)) (by show s1.take 3 = s1; exact List.take_of_length_le (by omega)) ls) ?_
        refine zc (fun r18 => ?_) (c := fun w1 F1 F2 h1 h2 hd hst => bigSigE_ok h1 (hs1.mv hst.still))
        refine gl_pureR (fun hp18 => ?_)
        refine gnt ?_
        refine gif rfl (fun hc18 => ?_) (fun hc18 => ?_)
        · refine gsr ?_
          refine gp zas ?_
          refine gnt ?_
          refine gc_ret ?_
          refine gx_block_ret ?_
          refine gx_then_ret ?_
          refine gx_round_ret ?_
          refine gx_block_ret ?_
          refine gx_then_ret ?_
          refine gx_ret1 rfl (by conv => lhs; whnf) ?_
          exact fun w' hw => ⟨true, rfl, St.pureI (fun e => by cases e) (hw.sel (by repeat (first | exact Sel.nil | (apply Sel.cons; · (repeat (first | exact Pick.here | apply Pick.there))))))⟩
        · refine gc_skip ?_
          refine gx_block_normal ?_
          refine gx_then ?_
          refine gc_region ?_
          refine gp zad ?_
          refine gp zmv ?_
          refine gl_nil ?_
          refine zrd (k + 1) ?_ ?_
          · show n1 - (k + 1) < n1 - k
            omega
          · exact zlp (show k + 1 ≤ n1 ∧ ∀ i y, i < k + 1 → x.votes[i]? = some y → smSig y.sig from ⟨by omega, sm_next hk.2 hl1 (hp18 (by simpa using hc18))⟩)
      · have hk' : k = n1 := by (try simp only at hc13); omega
        subst hk'
        refine gc_exit ?_
        refine gx_then_exit ?_
        refine gx_round_exit ?_
        refine gx_block_hit ?_
        refine gx_then ?_
        refine gsr ?_
        refine gp zas ?_
        refine gnt ?_
        refine gc_ret ?_
        refine gx_ret1 rfl (by conv => lhs; whnf) ?_
        exact fun w' hw => ⟨false, rfl, St.pureI (fun e => ⟨by omega, sm_at (by omega) hk.2⟩) (hw.sel (by repeat (first | exact Sel.nil | (apply Sel.cons; · (repeat (first | exact Pick.here | apply Pick.there))))))⟩

set_option maxHeartbeats 400000 in
theorem bigBlockE_ok {w : World} {F : Nat → Prop} {cs : List Value} {x : Block} (h : stars [] w F) (hx : RdBlock w (fun k => ¬ F k) cs x) :
    Calls Tryz.prog 15 #[.agg cs.toArray] w (Post w F (fun b : Bool => .bool b) (fun b => [pureR (b = false → smBlk x)])) := by
  obtain ⟨q, a1, n1, c1, a2, n2, c2, rfl, hq, hk1, hd1, hk2, hd2⟩ := hx
  have lq := hq.len
  have hm1 := hd1.max
  simp only [maxLen] at hm1
  have hn1 := hd1.len (by decide)
  have hn2 := hd2.len (by decide)
  have z_lq := Len.of lq
  refine g_enter (env := [(0, .agg (List.toArray (.int .i64 x.epoch :: .int .i64 x.round :: (dc x.parent ++ (q ++ [.slice a1 n1 c1, .slice a2 n2 c2])))))]) Tryz.func15 rfl h Tryz.ntmps15 rfl rfl ?_
  refine gsr ?_
  refine zbN fun b1 => ?_
  refine gp zas ?_
  refine gnt ?_
  refine gc_seq ?_
  refine gc_seq ?_
  by_cases hsp1 : (12 : Int) < (n1 : Int)
  · refine gc_region ?_
    refine gp zfa ?_
    refine gp zl ?_
    refine gp zln ?_
    refine gp (r_bool (r_gtr rfl rfl) (decide_eq_true hsp1)) ?_
    refine gp zmv ?_
    refine gn ?_
    refine gn ?_
    refine gn ?_
    refine gn ?_
    refine gp zpk ?_
    refine gnt ?_
    refine gc_condT rfl rfl ?_
    refine gsr ?_
    refine gp zas ?_
    refine gnt ?_
    refine gc_ret ?_
    refine gx_then_ret ?_
    refine gx_ret1 rfl (by conv => lhs; whnf) ?_
    exact fun w' hw => ⟨true, rfl, St.pureI (fun e => by cases e) (hw.sel (by repeat (first | exact Sel.nil | (apply Sel.cons; · (repeat (first | exact Pick.here | apply Pick.there))))))⟩
  · refine gc_region ?_
    refine gp zfa ?_
    refine gp zl ?_
    refine gp zln ?_
    refine gp (r_bool (r_gtr rfl rfl) (decide_eq_false hsp1)) ?_
    refine gp zmv ?_
    refine gq zfa ?_
    refine gq zl ?_
    refine gq zln ?_
    refine gq zgt ?_
    refine gp zpk ?_
    refine gnt ?_
    refine gif rfl (fun hc14 => ?_) (fun hc14 => ?_)
    · refine gsr ?_
      refine gp zas ?_
      refine gnt ?_
      refine gc_ret ?_
      refine gx_then_ret ?_
      refine gx_ret1 rfl (by conv => lhs; whnf) ?_
      exact fun w' hw => ⟨true, rfl, St.pureI (fun e => by cases e) (hw.sel (by repeat (first | exact Sel.nil | (apply Sel.cons; · (repeat (first | exact Pick.here | apply Pick.there))))))⟩
    · refine gc_skip ?_
      refine gx_then ?_
      refine gc_seq ?_
      refine gsr ?_
      refine gp zfa ?_
      refine gp zl ?_
      refine gp zln ?_
      refine gp zmv ?_
      refine gnt ?_
      refine gc_block ?_
      refine gc_loop (α := Nat) (fun k => [pureR (k ≤ n1 ∧ ∀ i y, i < k → x.payload[i]? = some y → List.length y ≤ 1099511627776), blk b1 30 (.int .i64 x.epoch :: .int .i64 x.round :: (dc x.parent ++ (q ++ [.slice a1 n1 c1, .slice a2 n2 c2])))]) (fun k => [(18, .int .i64 (k : Int))]) [2, 4, 19, 20, 21, 22, 23, 24, 25] (fun k => n1 - k) 0 ?_ ?_ ?_
      · refine env_start (by kernel_rfl)
      · exact zlp ⟨Nat.zero_le _, fun i y hi => absurd hi (Nat.not_lt_zero _)⟩
      · intro k u
        refine gc_pureR (fun hk => ?_)
        replace hk : k ≤ n1 ∧ ∀ i y, i < k → x.payload[i]? = some y → List.length y ≤ 1099511627776 := hk
        refine gsr ?_
        refine gp zlt ?_
        refine gnt ?_
        refine gc_seq ?_
        refine gif rfl (fun hc19 => ?_) (fun hc19 => ?_)
        · have hk' : k < n1 := by (try simp only at hc19); omega
          obtain ⟨g1, o1, cs1, y, ha1, hA1, hg1, hra1, hcl1, hl1, hrd1⟩ := hd1.elem (by decide) hk'
          subst ha1
          obtain ⟨a', n', c', rfl, hn', hrb⟩ := hrd1
          have hny : n' = y.length := by have e := hrb.1; simp at e; omega
          refine gc_skip ?_
          refine gx_then ?_
          refine gc_seq ?_
          refine gc_block ?_
          refine gsr ?_
          refine gp (r_indexAddr_slice rfl rfl Ty.sl_27 Ty.sz_86 (by omega) (by omega)) ?_
          refine gp (r_ld1o rfl Ty.row_86 (hra1 0 _ rfl) hA1) ?_
          refine gp zas ?_
          refine gnt ?_
          refine gsr ?_
          refine gp zmv ?_
          refine gp zln ?_
          refine gp zgt ?_
          refine gnt ?_
          refine gif rfl (fun hc24 => ?_) (fun hc24 => ?_)
          · refine gsr ?_
            refine gp zas ?_
            refine gnt ?_
            refine gc_ret ?_
            refine gx_block_ret ?_
            refine gx_then_ret ?_
            refine gx_round_ret ?_
            refine gx_block_ret ?_
            refine gx_then_ret ?_
            refine gx_ret1 rfl (by conv => lhs; whnf) ?_
            exact fun w' hw => ⟨true, rfl, St.pureI (fun e => by cases e) (hw.sel (by repeat (first | exact Sel.nil | (apply Sel.cons; · (repeat (first | exact Pick.here | apply Pick.there))))))⟩
          · refine gc_skip ?_
            refine gx_block_normal ?_
            refine gx_then ?_
            refine gc_region ?_
            refine gp zad ?_
            refine gp zmv ?_
            refine gl_nil ?_
            refine zrd (k + 1) ?_ ?_
            · show n1 - (k + 1) < n1 - k
              omega
            · exact zlp (show k + 1 ≤ n1 ∧ ∀ i y, i < k + 1 → x.payload[i]? = some y → List.length y ≤ 1099511627776 from ⟨by omega, sm_next hk.2 hl1 (by omega)⟩)
        · have hk' : k = n1 := by (try simp only at hc19); omega
          subst hk'
          have hn2' : (n2 : Int) ≤ 12 := by have e2 := hc14; (try simp at e2); omega
          refine gc_exit ?_
          refine gx_then_exit ?_
          refine gx_round_exit ?_
          refine gx_block_hit ?_
          refine gx_then ?_
          refine gsr ?_
          refine gp zfa ?_
          refine gp zL ?_
          refine zc (fun r28 => ?_) (c := fun w1 F1 F2 h1 h2 hd hst => bigQCE_ok h1 (hq.mv hst.still))
          refine gl_pureR (fun hp28 => ?_)
          refine gp zas ?_
          refine gnt ?_
          refine gc_ret ?_
          refine gx_ret1 rfl (by conv => lhs; whnf) ?_
          exact fun w' hw => ⟨r28, rfl, St.pureI (fun e => ⟨hp28 e, by omega, by omega, sm_at8 (by omega) hk.2⟩) (hw.sel (by repeat (first | exact Sel.nil | (apply Sel.cons; · (repeat (first | exact Pick.here | apply Pick.there))))))⟩

set_option maxHeartbeats 400000 in
theorem rfits_ok {w : World} {F : Nat → Prop} {w' w2 : World} {A A2 : Nat → Prop} {qs cs : List Value} {q : QC} {b : Block} {d : Dig} (h : stars [] w F) (hq : RdQC w' A qs q) (hx : RdBlock w2 A2 cs b) :
    Calls Tryz.prog 73 #[.agg qs.toArray, .agg (List.toArray (dc d ++ cs))] w (Post w F (fun _ : Unit => .bool (fitsQ q d b)) (fun _ => [])) := by
  obtain ⟨av, nv, kv, rfl, hq1, hq2⟩ := hq
  obtain ⟨j, a1, n1, c1, a2, n2, c2, rfl, hx1, hx2, hx3, hx4, hx5⟩ := hx
  have ilq := Len.of hx1.len
  have jlq := One.of hx1.one
  refine g_enter (env := [(0, _), (1, _)]) Tryz.func73 rfl h Tryz.ntmps73 rfl rfl ?_
  refine gsr ?_
  refine zbN fun b2 => ?_
  refine zbN fun b3 => ?_
  refine gp zas ?_
  refine gnt ?_
  refine gc_seq ?_
  by_cases hS1 : q.block = d
  · by_cases hS2 : q.epoch = b.epoch
    · by_cases hS3 : q.round = b.round
      · refine gc_region ?_
        refine gp zfa ?_
        refine gp zL ?_
        refine gp zfa ?_
        refine gp zL ?_
        refine gp (r_bool (c := true) zed (by simp [hS1])) ?_
        refine gp zmv ?_
        refine gq zfa ?_
        refine gq zl ?_
        refine gq zfa ?_
        refine gq zfa ?_
        refine gq zl ?_
        refine gq (r_bool (c := true) zei (by simp [hS2])) ?_
        refine gp zpk ?_
        refine gp zmv ?_
        refine gq zfa ?_
        refine gq zl ?_
        refine gq zfa ?_
        refine gq zfa ?_
        refine gq zl ?_
        refine gq (r_bool (c := true) zei (by simp [hS3])) ?_
        refine gp zpk ?_
        refine gp zas ?_
        refine gnt ?_
        refine gc_ret ?_
        refine gx_ret1 rfl (by conv => lhs; whnf) ?_
        exact fun w' hw => ⟨(), by simp [fitsQ, *], hw.sel (by repeat (first | exact Sel.nil | (apply Sel.cons; · (repeat (first | exact Pick.here | apply Pick.there)))))⟩
      · refine gc_region ?_
        refine gp zfa ?_
        refine gp zL ?_
        refine gp zfa ?_
        refine gp zL ?_
        refine gp (r_bool (c := true) zed (by simp [hS1])) ?_
        refine gp zmv ?_
        refine gq zfa ?_
        refine gq zl ?_
        refine gq zfa ?_
        refine gq zfa ?_
        refine gq zl ?_
        refine gq (r_bool (c := true) zei (by simp [hS2])) ?_
        refine gp zpk ?_
        refine gp zmv ?_
        refine gq zfa ?_
        refine gq zl ?_
        refine gq zfa ?_
        refine gq zfa ?_
        refine gq zl ?_
        refine gq (r_bool (c := false) zei (by simp [hS3])) ?_
        refine gp zpk ?_
        refine gp zas ?_
        refine gnt ?_
        refine gc_ret ?_
        refine gx_ret1 rfl (by conv => lhs; whnf) ?_
        exact fun w' hw => ⟨(), by simp [fitsQ, *], hw.sel (by repeat (first | exact Sel.nil | (apply Sel.cons; · (repeat (first | exact Pick.here | apply Pick.there)))))⟩
    · refine gc_region ?_
      refine gp zfa ?_
      refine gp zL ?_
      refine gp zfa ?_
      refine gp zL ?_
      refine gp (r_bool (c := true) zed (by simp [hS1])) ?_
      refine gp zmv ?_
      refine gq zfa ?_
      refine gq zl ?_
      refine gq zfa ?_
      refine gq zfa ?_
      refine gq zl ?_
      refine gq (r_bool (c := false) zei (by simp [hS2])) ?_
      refine gp zpk ?_
      refine gp zmv ?_
      refine gn ?_
      refine gn ?_
      refine gn ?_
      refine gn ?_
      refine gn ?_
      refine gn ?_
      refine gp zpk ?_
      refine gp zas ?_
      refine gnt ?_
      refine gc_ret ?_
      refine gx_ret1 rfl (by conv => lhs; whnf) ?_
      exact fun w' hw => ⟨(), by simp [fitsQ, *], hw.sel (by repeat (first | exact Sel.nil | (apply Sel.cons; · (repeat (first | exact Pick.here | apply Pick.there)))))⟩
  · refine gc_region ?_
    refine gp zfa ?_
    refine gp zL ?_
    refine gp zfa ?_
    refine gp zL ?_
    refine gp (r_bool (c := false) zed (by simp [hS1])) ?_
    refine gp zmv ?_
    refine gn ?_
    refine gn ?_
    refine gn ?_
    refine gn ?_
    refine gn ?_
    refine gn ?_
    refine gp zpk ?_
    refine gp zmv ?_
    refine gn ?_
    refine gn ?_
    refine gn ?_
    refine gn ?_
    refine gn ?_
    refine gn ?_
    refine gp zpk ?_
    refine gp zas ?_
    refine gnt ?_
    refine gc_ret ?_
    refine gx_ret1 rfl (by conv => lhs; whnf) ?_
    exact fun w' hw => ⟨(), by simp [fitsQ, *], hw.sel (by repeat (first | exact Sel.nil | (apply Sel.cons; · (repeat (first | exact Pick.here | apply Pick.there)))))⟩

end Go.Proofs.YtobjojeliibinaaGreatDoor

/- Walks, by program (wg.py) out of a spec. -/
namespace Go.Proofs.YtobjojeliibinaaGreatDoor
open Go
set_option linter.unusedVariables false
set_option linter.unusedSimpArgs false

attribute [local irreducible] Gl Gc Gx Gs Runs Wt

attribute [local irreducible] dc qcC blkC

set_option maxHeartbeats 400000 in
theorem rid_ok {w : World} {F : Nat → Prop} {cs : List Value} {x : Block} (h : stars [] w F) (hx : RdBlock w (fun k => ¬ F k) cs x) (ho : OkBlock x) :
    Calls Tryz.prog 17 #[.agg cs.toArray] w (Post w F (fun _ : Unit => .tuple #[.agg (dc (idOf x)).toArray, .int .i64 ((wBlock x ⟨0, []⟩).err : Int)]) (fun _ => [])) := by
  have hl := hx.len
  have il := Len.of hl
  have jl := One.of hx.one
  have hmx := block_max x
  refine g_enter (env := [(0, .agg cs.toArray)]) Tryz.func17 rfl h Tryz.ntmps17 rfl rfl ?_
  refine gsr ?_
  refine zbN fun b1 => ?_
  refine zal fun b2 => ?_
  refine gp zas ?_
  refine gnt ?_
  refine gsr ?_
  refine gp (zLa (cs := cs)) ?_
  refine zc ?_ (c := fun w1 F1 F2 h1 h2 hd hst => obytes_ok h1 (hx.mv hst.still) ho)
  rintro ⟨a8, c8⟩
  refine gp zmv ?_
  refine gp zex ?_
  refine gp zex ?_
  refine gp zas ?_
  refine gp zas ?_
  refine gnt ?_
  refine gc_seq ?_
  refine gc_seq ?_
  by_cases he : (wBlock x ⟨0, []⟩).err = 0
  · refine gc_region ?_
    refine gp zmv ?_
    refine gp (r_bool (c := false) zni (by simp [he])) ?_
    refine gnt ?_
    refine gc_condF rfl rfl ?_
    refine gc_skip ?_
    refine gx_then ?_
    refine gsr ?_
    refine gp zmv ?_
    refine gp (zso (b := wOut (wBlock x ⟨0, []⟩))) ?_
    refine ze1 fun b17 => ?_
    refine zc (fun _ => ?_) (c := fun w1 F1 F2 h1 h2 hd hst => of2_ok (parts := [wOut (wBlock x ⟨0, []⟩)]) h1 (.of1 (rd_row (xs := [.string (str (wOut (wBlock x ⟨0, []⟩)))]) h2 hd (by repeat (first | exact Pick.here | apply Pick.there))) (.cons rfl .nil)) (by simp only [pcost, List.map_cons, List.map_nil, List.sum_cons, List.sum_nil]; omega))
    refine zsA (dc_length _) (dc_one _) ?_
    refine gp zas ?_
    refine gnt ?_
    refine gc_ret ?_
    refine gx_retct rfl rfl (by conv => lhs; whnf) (ld_aggS Ty.row_23 Ty.sz_23 (by repeat (first | exact Pick.here | apply Pick.there)) (by (simp only [List.drop_succ_cons, List.drop_zero, List.take_succ_cons, List.take_zero, List.cons_append, List.nil_append, List.append_assoc, drop_dc, drop_dc', take_dc, take_dc', drop_L, drop_L', take_L, take_L', len_L, Nat.reduceLeDiff, Nat.reduceSub, Nat.reduceAdd, Nat.le_refl, List.length_cons, List.length_append, List.length_nil, dc_length, List.drop_nil, List.take_nil, List.append_nil, List.length_map, List.length_replicate]; first | done | rfl)) (by first | rfl | (simp only [List.drop_succ_cons, List.drop_zero, List.take_succ_cons, List.take_zero, List.cons_append, List.nil_append, List.append_assoc, drop_dc, drop_dc', take_dc, take_dc', drop_L, drop_L', take_L, take_L', len_L, Nat.reduceLeDiff, Nat.reduceSub, Nat.reduceAdd, Nat.le_refl, List.length_cons, List.length_append, List.length_nil, dc_length, List.drop_nil, List.take_nil, List.append_nil, List.length_map, List.length_replicate]; first | done | omega))) ?_
    have e : idOf x = dOf Kc 6 [wOut (wBlock x ⟨0, []⟩)] := by rw [idOf, if_pos he, wOut, if_pos he]
    rw [e]
    exact fun w' hw => ⟨(), by rw [he]; rfl, hw.sel (by repeat (first | exact Sel.nil | (apply Sel.cons; · (repeat (first | exact Pick.here | apply Pick.there)))))⟩
  · refine gc_region ?_
    refine gp zmv ?_
    refine gp (r_bool (c := true) zni (by simp [he])) ?_
    refine gnt ?_
    refine gc_condT rfl rfl ?_
    refine gsr ?_
    refine gp (r_buildA (cs := dc dig0) Ty.zc_23 Ty.arr_23 Ty.sz_5 (by kernel_rfl)) ?_
    refine gp zmv ?_
    refine zsA (dc_length _) (dc_one _) ?_
    refine gp zas ?_
    refine gnt ?_
    refine gc_ret ?_
    refine gx_then_ret ?_
    refine gx_retct rfl rfl (by conv => lhs; whnf) (ld_aggS Ty.row_23 Ty.sz_23 (by repeat (first | exact Pick.here | apply Pick.there)) (by (simp only [List.drop_succ_cons, List.drop_zero, List.take_succ_cons, List.take_zero, List.cons_append, List.nil_append, List.append_assoc, drop_dc, drop_dc', take_dc, take_dc', drop_L, drop_L', take_L, take_L', len_L, Nat.reduceLeDiff, Nat.reduceSub, Nat.reduceAdd, Nat.le_refl, List.length_cons, List.length_append, List.length_nil, dc_length, List.drop_nil, List.take_nil, List.append_nil, List.length_map, List.length_replicate]; first | done | rfl)) (by first | rfl | (simp only [List.drop_succ_cons, List.drop_zero, List.take_succ_cons, List.take_zero, List.cons_append, List.nil_append, List.append_assoc, drop_dc, drop_dc', take_dc, take_dc', drop_L, drop_L', take_L, take_L', len_L, Nat.reduceLeDiff, Nat.reduceSub, Nat.reduceAdd, Nat.le_refl, List.length_cons, List.length_append, List.length_nil, dc_length, List.drop_nil, List.take_nil, List.append_nil, List.length_map, List.length_replicate]; first | done | omega))) ?_
    have e : idOf x = dig0 := by rw [idOf, if_neg he]
    rw [e]
    exact ze ()

attribute [local irreducible] idOf

set_option maxHeartbeats 400000 in
theorem rnew15_ok {w : World} {F : Nat → Prop} {cs qs : List Value} {b : Block} {q : QC} (h : stars [] w F) (hb : RdBlock w (fun k => ¬ F k) cs b) (ho : OkBlock b) (hq : RdQC w (fun k => ¬ F k) qs q) :
    Calls Tryz.prog 19 #[.agg cs.toArray, .agg qs.toArray] w (Post w F (fun x : Nat × Nat × Nat => .tuple #[if (newE b q (wBlock b ⟨0, []⟩).err (idOf b)) = 0 then .pointer (some ⟨x.1, 0, none⟩) else .pointer none, .int .i64 ((newE b q (wBlock b ⟨0, []⟩).err (idOf b)) : Int)]) (fun x => if (newE b q (wBlock b ⟨0, []⟩).err (idOf b)) = 0 then [blk x.1 49 (dc (idOf b) ++ [.slice (some ⟨x.2.1, 0, none⟩) 1 1, .slice (some ⟨x.2.2, 0, none⟩) 1 1])] else [])) := by
  have il := Len.of hb.len
  have jl := One.of hb.one
  have il2 := Len.of hq.len
  have jl2 := One.of hq.one
  have ilx : Len (dc (idOf b) ++ cs) 55 := Len.of (by rw [List.length_append, dc_length, hb.len])
  have jlx : One (dc (idOf b) ++ cs) := One.of (all_app' (dc_one _) hb.one)
  refine g_enter (env := [(0, .agg cs.toArray), (1, .agg qs.toArray)]) Tryz.func19 rfl h Tryz.ntmps19 rfl rfl ?_
  refine gsr ?_
  refine zbN fun b2 => ?_
  refine zbN fun b3 => ?_
  refine gp zas ?_
  refine gp zas ?_
  refine gnt ?_
  refine gsr ?_
  refine gp (zLa (cs := cs)) ?_
  refine zc (fun _ => ?_) (c := fun w1 F1 F2 h1 h2 hd hst => rid_ok h1 (hb.mv hst.still) ho)
  refine gp zmv ?_
  refine gp zex ?_
  refine gp zex ?_
  refine zal fun b6 => ?_
  refine zsA (dc_length _) (dc_one _) ?_
  refine gp zas ?_
  refine gnt ?_
  refine gc_seq ?_
  refine gsr ?_
  refine gp zmv ?_
  refine gp (r_bool (c := decide (¬ (wBlock b ⟨0, []⟩).err = 0)) zni (by simp)) ?_
  refine gnt ?_
  refine gif rfl (fun hc15 => ?_) (fun hc15 => ?_)
  · try simp only at hc15
    have he0 : ¬ (wBlock b ⟨0, []⟩).err = 0 := by simpa using hc15
    refine gsr ?_
    refine gp zas ?_
    refine gp zas ?_
    refine gnt ?_
    refine gc_ret ?_
    refine gx_then_ret ?_
    refine gx_ret2 rfl (by conv => lhs; whnf) (by conv => lhs; whnf) ?_
    have hn : (newE b q (wBlock b ⟨0, []⟩).err (idOf b)) = 4 := by unfold newE; rw [if_neg he0]
    exact fun w' hw => ⟨(0, 0, 0), by rw [hn]; exact rfl, by rw [hn]; show St _ _ [] w'; exact hw.sel Sel.nil⟩
  · try simp only at hc15
    have he0 : (wBlock b ⟨0, []⟩).err = 0 := by simpa using hc15
    refine gc_skip ?_
    refine gx_then ?_
    refine gsr ?_
    refine gp (zLa (cs := dc (idOf b))) ?_
    refine gp (zLa (cs := cs)) ?_
    refine gp (zbu (cs := dc (idOf b) ++ cs)) ?_
    refine zal fun b8 => ?_
    refine zsA Len.h One.h ?_
    refine gnt ?_
    refine gc_seq ?_
    refine gsr ?_
    refine gp (zLa (cs := qs)) ?_
    refine gp (zLa (cs := dc (idOf b) ++ cs)) ?_
    refine zc (fun _ => ?_) (c := fun w1 F1 F2 h1 h2 hd hst => rfits_ok h1 hq hb)
    refine gp znt ?_
    refine gnt ?_
    refine gif rfl (fun hc22 => ?_) (fun hc22 => ?_)
    · try simp only at hc22
      have hf : ¬ fitsQ q (idOf b) b = true := by simpa using hc22
      refine gsr ?_
      refine gp zas ?_
      refine gp zas ?_
      refine gnt ?_
      refine gc_ret ?_
      refine gx_then_ret ?_
      refine gx_ret2 rfl (by conv => lhs; whnf) (by conv => lhs; whnf) ?_
      have hn : (newE b q (wBlock b ⟨0, []⟩).err (idOf b)) = 12 := by unfold newE; rw [if_pos he0, if_neg hf]
      exact fun w' hw => ⟨(0, 0, 0), by rw [hn]; exact rfl, by rw [hn]; show St _ _ [] w'; exact hw.sel Sel.nil⟩
    · try simp only at hc22
      have hf : fitsQ q (idOf b) b = true := by simpa using hc22
      refine gc_skip ?_
      refine gx_then ?_
      refine gsr ?_
      refine gp (zLa (cs := dc (idOf b))) ?_
      refine gp (zLa (cs := dc (idOf b) ++ cs)) ?_
      refine zeN fun b25 => ?_
      refine gp (zLa (cs := qs)) ?_
      refine zeN fun b27 => ?_
      refine gp (zbu (cs := dc (idOf b) ++ [.slice (some ⟨b25, 0, none⟩) 1 1, .slice (some ⟨b27, 0, none⟩) 1 1])) ?_
      refine zbN fun b29 => ?_
      refine gp zas ?_
      refine gp zas ?_
      refine gnt ?_
      refine gc_ret ?_
      refine gx_ret2 rfl (by conv => lhs; whnf) (by conv => lhs; whnf) ?_
      have hn : (newE b q (wBlock b ⟨0, []⟩).err (idOf b)) = 0 := by unfold newE; rw [if_pos he0, if_pos hf]
      exact fun w' hw => ⟨(b29, b25, b27), by rw [hn]; exact rfl, by rw [hn]; exact hw.sel (by repeat (first | exact Sel.nil | (apply Sel.cons; · (repeat (first | exact Pick.here | apply Pick.there)))))⟩

end Go.Proofs.YtobjojeliibinaaGreatDoor

/- Walks, by program (wg.py) out of a spec. -/
namespace Go.Proofs.YtobjojeliibinaaGreatDoor
open Go
set_option linter.unusedVariables false
set_option linter.unusedSimpArgs false


section
variable {w : World} {F : Nat → Prop} {ea : Nat → Addr} {es : List Nat} {cs qs : List Value} {b : Block} {q : QC}
theorem newE_le (b : Block) (q : QC) (e : Nat) (d : Dig) : newE b q e d ≤ 18 := by unfold newE; split <;> (try split) <;> decide
theorem tnew_okT [Has es 1] [Has es 4] [Has es 12] (hE : GErr es w (fun k => ¬ F k) 340 ea) (hK : KR w (fun k => ¬ F k)) (h : stars [] w F) (hb : RdBlock w (fun k => ¬ F k) cs b) (hq : RdQC w (fun k => ¬ F k) qs q) (hsb : smBlk b) (hsq : smQC q) (h0 : newE b q (wBlock b ⟨0, []⟩).err (idOf b) = 0) :
    Calls Tryz.prog 18 #[.agg cs.toArray, .agg qs.toArray] w (Post w F (fun x : Nat => .tuple #[.pointer (some ⟨x, 0, none⟩), eV 340 ea 0]) (fun x => [TreeR x (newT b q (idOf b))])) := by
  have h1 := tnew_ok (b := b) (q := q) hE hK h hb hq (fun _ => hsb) hsq
  rw [h0] at h1
  exact h1
theorem tnew_okF [Has es 1] [Has es 4] [Has es 12] (hE : GErr es w (fun k => ¬ F k) 340 ea) (hK : KR w (fun k => ¬ F k)) (h : stars [] w F) (hb : RdBlock w (fun k => ¬ F k) cs b) (hq : RdQC w (fun k => ¬ F k) qs q) (hsb : smBlk b) (hsq : smQC q) (h0 : ¬ newE b q (wBlock b ⟨0, []⟩).err (idOf b) = 0) :
    Calls Tryz.prog 18 #[.agg cs.toArray, .agg qs.toArray] w (Post w F (fun _ : Nat => .tuple #[.pointer none, eV 340 ea (newE b q (wBlock b ⟨0, []⟩).err (idOf b))]) (fun _ => [])) := by
  have h1 := tnew_ok (b := b) (q := q) hE hK h hb hq (fun _ => hsb) hsq
  simp only [if_neg h0] at h1
  exact h1
theorem rnew_okT (h : stars [] w F) (hb : RdBlock w (fun k => ¬ F k) cs b) (ho : OkBlock b) (hq : RdQC w (fun k => ¬ F k) qs q) (h0 : newE b q (wBlock b ⟨0, []⟩).err (idOf b) = 0) :
    Calls Tryz.prog 19 #[.agg cs.toArray, .agg qs.toArray] w (Post w F (fun x : Nat × Nat × Nat => .tuple #[.pointer (some ⟨x.1, 0, none⟩), .int .i64 0]) (fun x => [blk x.1 49 (dc (idOf b) ++ [.slice (some ⟨x.2.1, 0, none⟩) 1 1, .slice (some ⟨x.2.2, 0, none⟩) 1 1])])) := by
  have h1 := rnew15_ok (b := b) (q := q) h hb ho hq
  rw [h0] at h1
  exact h1
theorem rnew_okF (h : stars [] w F) (hb : RdBlock w (fun k => ¬ F k) cs b) (ho : OkBlock b) (hq : RdQC w (fun k => ¬ F k) qs q) (h0 : ¬ newE b q (wBlock b ⟨0, []⟩).err (idOf b) = 0) :
    Calls Tryz.prog 19 #[.agg cs.toArray, .agg qs.toArray] w (Post w F (fun x : Nat × Nat × Nat => .tuple #[.pointer none, .int .i64 (newE b q (wBlock b ⟨0, []⟩).err (idOf b) : Int)]) (fun x => [])) := by
  have h1 := rnew15_ok (b := b) (q := q) h hb ho hq
  simp only [if_neg h0] at h1
  exact h1
theorem newE_tok {e : Nat} {d : Dig} (hb : smBlk b) (hs : smQC q) (h : newE b q e d = 0) : TOk (newT b q d) := by
  unfold newE at h
  split at h
  · split at h
    · rename_i hf; exact newT_ok (of_decide_eq_true hf).1 hb hs
    · cases h
  · cases h
theorem highQ_one (q : QC) : highQ [q] = q := by simp [highQ, gtQ]
end

attribute [local irreducible] Gl Gc Gx Gs Runs Wt

attribute [local irreducible] dc qcC blkC idOf TreeR gid fkT newE

set_option maxHeartbeats 400000 in
theorem blocksRoots_ok {w : World} {F : Nat → Prop} {ea : Nat → Addr} {cs qs : List Value} {b : Block} {q : QC} {own : Bool} (h : stars [] w F) (hN : NErr w (fun k => ¬ F k) ea) (hK : KR w (fun k => ¬ F k)) (hb : RdBlock w (fun k => ¬ F k) cs b) (ho : OkBlock b) (hq : RdQC w (fun k => ¬ F k) qs q) :
    Calls Tryz.prog 3 #[.agg cs.toArray, .agg qs.toArray, .bool own] w (Post w F (fun _ : Unit => .bool true) (fun _ => [])) := by
  have hE := hN.g
  obtain ⟨cr, rfl⟩ : ∃ cr, cs = .int .i64 b.epoch :: .int .i64 b.round :: cr := by obtain ⟨qj, ab1, nb1, cb1, ab2, nb2, cb2, rfl, _⟩ := hb; exact ⟨_, rfl⟩
  have il := Len.of hb.len
  have jl := One.of hb.one
  have icr : Len cr 37 := Len.of (by have e := hb.len; simpa using e)
  have hq0 := hq
  obtain ⟨av, nv, kv, rfl, hq1, hq2⟩ := hq
  have ilq0 := Len.of hq0.len
  have jlq0 := One.of hq0.one
  have her := newE_le b
  refine g_enter (env := [(0, _), (1, _), (2, .bool own)]) Tryz.func3 rfl h Tryz.ntmps3 rfl rfl ?_
  refine gsr ?_
  refine zbN fun b3 => ?_
  refine zbN fun b4 => ?_
  refine gp zas ?_
  refine gnt ?_
  refine gc_seq ?_
  refine gsr ?_
  refine zc (fun _ => ?_) (c := fun w1 F1 F2 h1 h2 hd hst => alive15_ok h1 (hE.mv hst.still) (hK.mv hst.still))
  refine gp znt ?_
  refine gnt ?_
  refine gc_condF rfl rfl ?_
  refine gc_skip ?_
  refine gx_then ?_
  refine gc_seq ?_
  refine gsr ?_
  refine gp (zLa (cs := .int .i64 b.epoch :: .int .i64 b.round :: cr)) ?_
  refine zc (fun r14 => ?_) (c := fun w1 F1 F2 h1 h2 hd hst => bigBlockE_ok h1 (hb.mv hst.still))
  refine gl_pureR (fun hp14 => ?_)
  rcases r14 with _ | _
  · refine gp zmv ?_
    refine gq (zLa (cs := .int .i64 q.epoch :: .int .i64 q.round :: (dc q.block ++ [.slice av nv kv]))) ?_
    refine zc (fun r17 => ?_) (c := fun w1 F1 F2 h1 h2 hd hst => bigQCE_ok h1 (hq0.mv hst.still))
    refine gl_pureR (fun hp17 => ?_)
    refine gp zpk ?_
    refine gnt ?_
    refine gif rfl (fun hc18 => ?_) (fun hc18 => ?_)
    · refine gsr ?_
      refine gp zas ?_
      refine gnt ?_
      refine gc_ret ?_
      refine gx_then_ret ?_
      refine gx_ret1 rfl (by conv => lhs; whnf) ?_
      exact fun w' hw => ⟨(), by simp, hw.sel (by repeat (first | exact Sel.nil | (apply Sel.cons; · (repeat (first | exact Pick.here | apply Pick.there)))))⟩
    · try simp only at hc18
      have hsb := hp14 rfl
      have hsm : smQC q := hp17 (by simpa using hc18)
      refine gc_skip ?_
      refine gx_then ?_
      refine gc_seq ?_
      refine gsr ?_
      refine gp zmv ?_
      refine gnt ?_
      refine gif rfl (fun hc19 => ?_) (fun hc19 => ?_)
      · try simp only at hc19
        obtain ⟨q2, hqn, hsq⟩ : ∃ q2 : QC, RdQC w (fun k => ¬ F k) (.int .i64 b.epoch :: .int .i64 b.round :: (dc (idOf b) ++ [.slice av nv kv])) q2 ∧ smQC q2 := ⟨⟨b.epoch, b.round, idOf b, q.votes⟩, ⟨av, nv, kv, rfl, hq1, hq2⟩, hsm⟩
        have hlqn := hqn.len
        have ilq := Len.of hlqn
        have jlq := One.of hqn.one
        refine gsr ?_
        refine gp (zLa (cs := .int .i64 b.epoch :: .int .i64 b.round :: cr)) ?_
        refine zc (fun _ => ?_) (c := fun w1 F1 F2 h1 h2 hd hst => rid_ok h1 (hb.mv hst.still) ho)
        refine gp zmv ?_
        refine gp zex ?_
        refine gp zex ?_
        refine gp zfa ?_
        refine zsN ?_
        refine gnt ?_
        refine gc_regionZ 7 ([blk b3 30 (.int .i64 b.epoch :: .int .i64 b.round :: cr)]) ?_
        refine yps 0 rfl zfa ?_
        refine yps 1 rfl zl ?_
        refine yps 2 rfl zfa ?_
        refine yps 3 rfl zl ?_
        refine yps 4 rfl zfa ?_
        refine yos 5 rfl ?_
        refine zs1 ?_
        refine yxs ?_
        refine yps 6 rfl zfa ?_
        refine yzs rfl ?_
        refine zs1 ?_
        refine gnt ?_
        refine gc_seq ?_
        by_cases hE0 : (newE b q2 (wBlock b ⟨0, []⟩).err (idOf b)) = 0
        · refine gc_region ?_
          refine gp (zLa (cs := .int .i64 b.epoch :: .int .i64 b.round :: cr)) ?_
          refine gp (zLa (cs := .int .i64 b.epoch :: .int .i64 b.round :: (dc (idOf b) ++ [.slice av nv kv]))) ?_
          refine zc (fun x35 => ?_) (c := fun w1 F1 F2 h1 h2 hd hst => tnew_okT (q := q2) (hE.mv hst.still) (hK.mv hst.still) h1 (hb.mv hst.still) (hqn.mv hst.still) hsb hsq hE0)
          refine gp zmv ?_
          refine gp zex ?_
          refine gp zex ?_
          refine gp zas ?_
          refine gp zas ?_
          refine gnt ?_
          refine gsr ?_
          refine gp (zLa (cs := .int .i64 b.epoch :: .int .i64 b.round :: cr)) ?_
          refine gp (zLa (cs := .int .i64 b.epoch :: .int .i64 b.round :: (dc (idOf b) ++ [.slice av nv kv]))) ?_
          refine zc ?_ (c := fun w1 F1 F2 h1 h2 hd hst => rnew_okT (q := q2) h1 (hb.mv hst.still) ho (hqn.mv hst.still) hE0)
          rintro ⟨x41, y41, z41⟩
          refine gp zmv ?_
          refine gp zex ?_
          refine gp zex ?_
          refine gp zas ?_
          refine gp zas ?_
          refine gnt ?_
          refine gc_seq ?_
          refine gsr ?_
          refine gp zmv ?_
          refine gp (r_bool (c := false) zni (by simp)) ?_
          refine gnt ?_
          refine gc_condF rfl rfl ?_
          refine gc_skip ?_
          refine gx_then ?_
          refine gc_seq ?_
          refine gc_regionZ 27 ([blk b4 26 (.int .i64 b.epoch :: .int .i64 b.round :: (dc (idOf b) ++ [.slice av nv kv])), blk x41 49 (dc (idOf b) ++ [.slice (some ⟨y41, 0, none⟩) 1 1, .slice (some ⟨z41, 0, none⟩) 1 1])]) ?_
          refine yps 0 rfl zmv ?_
          refine yps 1 rfl (r_bool (c := true) (r_eqnil (k := 0) rfl (by kernel_rfl)) rfl) ?_
          refine yps 2 rfl zmv ?_
          refine yps 3 rfl zmv ?_
          refine yps 4 rfl (r_bool (c := true) (r_nepn rfl Ty.un_36) rfl) ?_
          refine yps 5 rfl zpk ?_
          refine yps 6 rfl zmv ?_
          refine yps 7 rfl zmv ?_
          refine yps 9 rfl zmv ?_
          refine yps 10 rfl znc ?_
          refine yps 11 rfl zfa ?_
          refine yps 12 rfl zL ?_
          refine yos 8 rfl ?_
          refine zc (fun _ => ?_) (c := fun w1 F1 F2 h1 h2 hd hst => troot_ok (tr_rd h2 hd (by repeat (first | exact Pick.here | apply Pick.there))) (newE_tok hsb hsq hE0) h1)
          refine yxs ?_
          refine yps 13 rfl (r_bool (c := true) zed (by simp [newT])) ?_
          refine yps 14 rfl zpk ?_
          refine yps 15 rfl zmv ?_
          refine yps 16 rfl zmv ?_
          refine yps 18 rfl (zLa (cs := .int .i64 b.epoch :: .int .i64 b.round :: (dc (idOf b) ++ [.slice av nv kv]))) ?_
          refine yos 17 rfl ?_
          refine zc (fun x71 => ?_) (c := fun w1 F1 F2 h1 h2 hd hst => thigh_ok (tr_rd h2 hd (by repeat (first | exact Pick.here | apply Pick.there))) (newE_tok hsb hsq hE0) h1)
          refine gl_pureR (fun hx71 => ?_)
          obtain ⟨hl71, ho71⟩ := hx71
          refine yxs ?_
          refine yos 19 rfl ?_
          refine zc (fun _ => ?_) (c := fun w1 F1 F2 h1 h2 hd hst => sameQC_ok (x := highQ (newT b q2 (idOf b)).certs) (y := q2) h1 (vl_rd h2 hd (by repeat (first | exact Pick.here | apply Pick.there))) (hqn.mv hst.still))
          rw [show highQ (newT b q2 (idOf b)).certs = q2 from highQ_one q2, decide_eq_true rfl]
          refine yxs ?_
          refine yps 20 rfl zpk ?_
          refine yps 21 rfl zmv ?_
          refine yps 22 rfl zmv ?_
          refine yos 23 rfl ?_
          refine zc ?_ (c := fun w1 F1 F2 h1 h2 hd hst => tids_ok (tr_rd h2 hd (by repeat (first | exact Pick.here | apply Pick.there))) (newE_tok hsb hsq hE0) h1)
          rintro ⟨a77, c77⟩
          refine yxs ?_
          refine yps 24 rfl zln ?_
          refine yps 25 rfl (r_bool (c := true) zei (by simp [newT])) ?_
          refine yps 26 rfl zpk ?_
          refine yzs rfl ?_
          refine gp zas ?_
          refine gnt ?_
          refine gc_ret ?_
          refine gx_ret1 rfl (by conv => lhs; whnf) ?_
          exact fun w' hw => ⟨(), by simp, hw.sel (by repeat (first | exact Sel.nil | (apply Sel.cons; · (repeat (first | exact Pick.here | apply Pick.there)))))⟩
        · refine gc_region ?_
          refine gp (zLa (cs := .int .i64 b.epoch :: .int .i64 b.round :: cr)) ?_
          refine gp (zLa (cs := .int .i64 b.epoch :: .int .i64 b.round :: (dc (idOf b) ++ [.slice av nv kv]))) ?_
          refine zc (fun _ => ?_) (c := fun w1 F1 F2 h1 h2 hd hst => tnew_okF (q := q2) (hE.mv hst.still) (hK.mv hst.still) h1 (hb.mv hst.still) (hqn.mv hst.still) hsb hsq hE0)
          refine gp zmv ?_
          refine gp zex ?_
          refine gp zex ?_
          refine gp zas ?_
          refine gp zas ?_
          refine gnt ?_
          refine gsr ?_
          refine gp (zLa (cs := .int .i64 b.epoch :: .int .i64 b.round :: cr)) ?_
          refine gp (zLa (cs := .int .i64 b.epoch :: .int .i64 b.round :: (dc (idOf b) ++ [.slice av nv kv]))) ?_
          refine zc (fun _ => ?_) (c := fun w1 F1 F2 h1 h2 hd hst => rnew_okF (q := q2) h1 (hb.mv hst.still) ho (hqn.mv hst.still) hE0)
          refine gp zmv ?_
          refine gp zex ?_
          refine gp zex ?_
          refine gp zas ?_
          refine gp zas ?_
          refine gnt ?_
          refine gc_seq ?_
          refine gsr ?_
          refine gp zmv ?_
          refine gp (r_bool (c := true) zni (by simp; omega)) ?_
          refine gnt ?_
          refine gc_condT rfl rfl ?_
          refine gsr ?_
          refine gp zmv ?_
          refine gp (r_bool (c := true) (r_eqpn rfl Ty.un_36) rfl) ?_
          refine gp zmv ?_
          refine gq zmv ?_
          refine zc (fun _ => ?_) (c := fun w1 F1 F2 h1 h2 hd hst => errNum_ok (n := (newE b q2 (wBlock b ⟨0, []⟩).err (idOf b))) h1 (hN.mv hst.still) (newE_le _ _ _ _))
          refine gq zmv ?_
          refine gq (r_bool (c := true) zei (by simp)) ?_
          refine gp zpk ?_
          refine gp zas ?_
          refine gnt ?_
          refine gc_ret ?_
          refine gx_then_ret ?_
          refine gx_ret1 rfl (by conv => lhs; whnf) ?_
          exact fun w' hw => ⟨(), by simp, hw.sel (by repeat (first | exact Sel.nil | (apply Sel.cons; · (repeat (first | exact Pick.here | apply Pick.there)))))⟩
      · try simp only at hc19
        obtain ⟨q2, hqn, hsq⟩ : ∃ q2 : QC, RdQC w (fun k => ¬ F k) (.int .i64 q.epoch :: .int .i64 q.round :: (dc q.block ++ [.slice av nv kv])) q2 ∧ smQC q2 := ⟨q, ⟨av, nv, kv, rfl, hq1, hq2⟩, hsm⟩
        have hlqn := hqn.len
        have ilq := Len.of hlqn
        have jlq := One.of hqn.one
        refine gc_skip ?_
        refine gx_then ?_
        refine gc_seq ?_
        by_cases hE0 : (newE b q2 (wBlock b ⟨0, []⟩).err (idOf b)) = 0
        · refine gc_region ?_
          refine gp (zLa (cs := .int .i64 b.epoch :: .int .i64 b.round :: cr)) ?_
          refine gp (zLa (cs := .int .i64 q.epoch :: .int .i64 q.round :: (dc q.block ++ [.slice av nv kv]))) ?_
          refine zc (fun x35 => ?_) (c := fun w1 F1 F2 h1 h2 hd hst => tnew_okT (q := q2) (hE.mv hst.still) (hK.mv hst.still) h1 (hb.mv hst.still) (hqn.mv hst.still) hsb hsq hE0)
          refine gp zmv ?_
          refine gp zex ?_
          refine gp zex ?_
          refine gp zas ?_
          refine gp zas ?_
          refine gnt ?_
          refine gsr ?_
          refine gp (zLa (cs := .int .i64 b.epoch :: .int .i64 b.round :: cr)) ?_
          refine gp (zLa (cs := .int .i64 q.epoch :: .int .i64 q.round :: (dc q.block ++ [.slice av nv kv]))) ?_
          refine zc ?_ (c := fun w1 F1 F2 h1 h2 hd hst => rnew_okT (q := q2) h1 (hb.mv hst.still) ho (hqn.mv hst.still) hE0)
          rintro ⟨x41, y41, z41⟩
          refine gp zmv ?_
          refine gp zex ?_
          refine gp zex ?_
          refine gp zas ?_
          refine gp zas ?_
          refine gnt ?_
          refine gc_seq ?_
          refine gsr ?_
          refine gp zmv ?_
          refine gp (r_bool (c := false) zni (by simp)) ?_
          refine gnt ?_
          refine gc_condF rfl rfl ?_
          refine gc_skip ?_
          refine gx_then ?_
          refine gc_seq ?_
          refine gc_regionZ 27 ([blk b4 26 (.int .i64 q.epoch :: .int .i64 q.round :: (dc q.block ++ [.slice av nv kv])), blk x41 49 (dc (idOf b) ++ [.slice (some ⟨y41, 0, none⟩) 1 1, .slice (some ⟨z41, 0, none⟩) 1 1])]) ?_
          refine yps 0 rfl zmv ?_
          refine yps 1 rfl (r_bool (c := true) (r_eqnil (k := 0) rfl (by kernel_rfl)) rfl) ?_
          refine yps 2 rfl zmv ?_
          refine yps 3 rfl zmv ?_
          refine yps 4 rfl (r_bool (c := true) (r_nepn rfl Ty.un_36) rfl) ?_
          refine yps 5 rfl zpk ?_
          refine yps 6 rfl zmv ?_
          refine yps 7 rfl zmv ?_
          refine yps 9 rfl zmv ?_
          refine yps 10 rfl znc ?_
          refine yps 11 rfl zfa ?_
          refine yps 12 rfl zL ?_
          refine yos 8 rfl ?_
          refine zc (fun _ => ?_) (c := fun w1 F1 F2 h1 h2 hd hst => troot_ok (tr_rd h2 hd (by repeat (first | exact Pick.here | apply Pick.there))) (newE_tok hsb hsq hE0) h1)
          refine yxs ?_
          refine yps 13 rfl (r_bool (c := true) zed (by simp [newT])) ?_
          refine yps 14 rfl zpk ?_
          refine yps 15 rfl zmv ?_
          refine yps 16 rfl zmv ?_
          refine yps 18 rfl (zLa (cs := .int .i64 q.epoch :: .int .i64 q.round :: (dc q.block ++ [.slice av nv kv]))) ?_
          refine yos 17 rfl ?_
          refine zc (fun x71 => ?_) (c := fun w1 F1 F2 h1 h2 hd hst => thigh_ok (tr_rd h2 hd (by repeat (first | exact Pick.here | apply Pick.there))) (newE_tok hsb hsq hE0) h1)
          refine gl_pureR (fun hx71 => ?_)
          obtain ⟨hl71, ho71⟩ := hx71
          refine yxs ?_
          refine yos 19 rfl ?_
          refine zc (fun _ => ?_) (c := fun w1 F1 F2 h1 h2 hd hst => sameQC_ok (x := highQ (newT b q2 (idOf b)).certs) (y := q2) h1 (vl_rd h2 hd (by repeat (first | exact Pick.here | apply Pick.there))) (hqn.mv hst.still))
          rw [show highQ (newT b q2 (idOf b)).certs = q2 from highQ_one q2, decide_eq_true rfl]
          refine yxs ?_
          refine yps 20 rfl zpk ?_
          refine yps 21 rfl zmv ?_
          refine yps 22 rfl zmv ?_
          refine yos 23 rfl ?_
          refine zc ?_ (c := fun w1 F1 F2 h1 h2 hd hst => tids_ok (tr_rd h2 hd (by repeat (first | exact Pick.here | apply Pick.there))) (newE_tok hsb hsq hE0) h1)
          rintro ⟨a77, c77⟩
          refine yxs ?_
          refine yps 24 rfl zln ?_
          refine yps 25 rfl (r_bool (c := true) zei (by simp [newT])) ?_
          refine yps 26 rfl zpk ?_
          refine yzs rfl ?_
          refine gp zas ?_
          refine gnt ?_
          refine gc_ret ?_
          refine gx_ret1 rfl (by conv => lhs; whnf) ?_
          exact fun w' hw => ⟨(), by simp, hw.sel (by repeat (first | exact Sel.nil | (apply Sel.cons; · (repeat (first | exact Pick.here | apply Pick.there)))))⟩
        · refine gc_region ?_
          refine gp (zLa (cs := .int .i64 b.epoch :: .int .i64 b.round :: cr)) ?_
          refine gp (zLa (cs := .int .i64 q.epoch :: .int .i64 q.round :: (dc q.block ++ [.slice av nv kv]))) ?_
          refine zc (fun _ => ?_) (c := fun w1 F1 F2 h1 h2 hd hst => tnew_okF (q := q2) (hE.mv hst.still) (hK.mv hst.still) h1 (hb.mv hst.still) (hqn.mv hst.still) hsb hsq hE0)
          refine gp zmv ?_
          refine gp zex ?_
          refine gp zex ?_
          refine gp zas ?_
          refine gp zas ?_
          refine gnt ?_
          refine gsr ?_
          refine gp (zLa (cs := .int .i64 b.epoch :: .int .i64 b.round :: cr)) ?_
          refine gp (zLa (cs := .int .i64 q.epoch :: .int .i64 q.round :: (dc q.block ++ [.slice av nv kv]))) ?_
          refine zc (fun _ => ?_) (c := fun w1 F1 F2 h1 h2 hd hst => rnew_okF (q := q2) h1 (hb.mv hst.still) ho (hqn.mv hst.still) hE0)
          refine gp zmv ?_
          refine gp zex ?_
          refine gp zex ?_
          refine gp zas ?_
          refine gp zas ?_
          refine gnt ?_
          refine gc_seq ?_
          refine gsr ?_
          refine gp zmv ?_
          refine gp (r_bool (c := true) zni (by simp; omega)) ?_
          refine gnt ?_
          refine gc_condT rfl rfl ?_
          refine gsr ?_
          refine gp zmv ?_
          refine gp (r_bool (c := true) (r_eqpn rfl Ty.un_36) rfl) ?_
          refine gp zmv ?_
          refine gq zmv ?_
          refine zc (fun _ => ?_) (c := fun w1 F1 F2 h1 h2 hd hst => errNum_ok (n := (newE b q2 (wBlock b ⟨0, []⟩).err (idOf b))) h1 (hN.mv hst.still) (newE_le _ _ _ _))
          refine gq zmv ?_
          refine gq (r_bool (c := true) zei (by simp)) ?_
          refine gp zpk ?_
          refine gp zas ?_
          refine gnt ?_
          refine gc_ret ?_
          refine gx_then_ret ?_
          refine gx_ret1 rfl (by conv => lhs; whnf) ?_
          exact fun w' hw => ⟨(), by simp, hw.sel (by repeat (first | exact Sel.nil | (apply Sel.cons; · (repeat (first | exact Pick.here | apply Pick.there)))))⟩
  · refine gp zmv ?_
    refine gn ?_
    refine gn ?_
    refine gp zpk ?_
    refine gnt ?_
    refine gc_condT rfl rfl ?_
    refine gsr ?_
    refine gp zas ?_
    refine gnt ?_
    refine gc_ret ?_
    refine gx_then_ret ?_
    refine gx_ret1 rfl (by conv => lhs; whnf) ?_
    exact fun w' hw => ⟨(), by simp, hw.sel (by repeat (first | exact Sel.nil | (apply Sel.cons; · (repeat (first | exact Pick.here | apply Pick.there)))))⟩

end Go.Proofs.YtobjojeliibinaaGreatDoor

/- BlocksRoots: for every input the law returns true, and the input reads as it did: the row and its card. -/
namespace Go.Proofs.YtobjojeliibinaaGreatDoor
open Go
open Go.ChangeShapes Go.WideShapes Go.ChangeAt Go.RowKit
set_option linter.unusedVariables false

/-- One world that fits: the settled one, the listed variables as their initialisers lay them. -/
noncomputable def blocksRoots_world (os : Os) : World :=
  let w0 := World.holding Tryz.prog os ⟨#[.cells #[.string ⟨#[113, 117, 111, 114, 97, 116, 101, 58, 32, 114, 97, 110, 103, 101]⟩] 365, .cells #[.string ⟨#[113, 117, 111, 114, 97, 116, 101, 58, 32, 115, 104, 111, 114, 116]⟩] 365, .cells #[.string ⟨#[113, 117, 111, 114, 97, 116, 101, 58, 32, 108, 111, 110, 103]⟩] 365, .cells #[.string ⟨#[113, 117, 111, 114, 97, 116, 101, 58, 32, 102, 111, 114, 109]⟩] 365, .cells #[.string ⟨#[113, 117, 111, 114, 97, 116, 101, 58, 32, 115, 112, 101, 110, 116]⟩] 365, .cells #[.string ⟨#[113, 117, 111, 114, 97, 116, 101, 58, 32, 112, 111, 119, 101, 114]⟩] 365, .cells #[.string ⟨#[113, 117, 111, 114, 97, 116, 101, 58, 32, 100, 105, 115, 107]⟩] 365, .cells #[.string ⟨#[113, 117, 111, 114, 97, 116, 101, 58, 32, 102, 117, 108, 108]⟩] 365, .cells #[.string ⟨#[113, 117, 111, 114, 97, 116, 101, 58, 32, 110, 111, 110, 101]⟩] 365, .cells #[.string ⟨#[113, 117, 111, 114, 97, 116, 101, 58, 32, 111, 108, 100]⟩] 365, .cells #[.string ⟨#[113, 117, 111, 114, 97, 116, 101, 58, 32, 115, 101, 116]⟩] 365, .cells #[.string ⟨#[113, 117, 111, 114, 97, 116, 101, 58, 32, 112, 114, 111, 111, 102]⟩] 365, .cells #[.string ⟨#[113, 117, 111, 114, 97, 116, 101, 58, 32, 108, 101, 97, 100, 101, 114]⟩] 365, .cells #[.string ⟨#[113, 117, 111, 114, 97, 116, 101, 58, 32, 114, 111, 117, 110, 100]⟩] 365, .cells #[.string ⟨#[113, 117, 111, 114, 97, 116, 101, 58, 32, 117, 110, 115, 97, 102, 101]⟩] 365, .cells #[.string ⟨#[113, 117, 111, 114, 97, 116, 101, 58, 32, 112, 97, 114, 101, 110, 116]⟩] 365, .cells #[.string ⟨#[113, 117, 111, 114, 97, 116, 101, 58, 32, 116, 119, 105, 99, 101]⟩] 365, .cells #[.string ⟨#[113, 117, 111, 114, 97, 116, 101, 58, 32, 101, 112, 111, 99, 104]⟩] 365], #[], []⟩
  { w0 with heap := ((((((((((((((((((w0.heap.modify 2 fun
      | .cells _ t fz => .cells #[.iface 340 (.pointer (some ⟨lowB + 0, 0, none⟩))] t fz
      | o => o).modify 3 fun
      | .cells _ t fz => .cells #[.iface 340 (.pointer (some ⟨lowB + 1, 0, none⟩))] t fz
      | o => o).modify 4 fun
      | .cells _ t fz => .cells #[.iface 340 (.pointer (some ⟨lowB + 2, 0, none⟩))] t fz
      | o => o).modify 0 fun
      | .cells _ t fz => .cells #[.iface 340 (.pointer (some ⟨lowB + 3, 0, none⟩))] t fz
      | o => o).modify 5 fun
      | .cells _ t fz => .cells #[.iface 340 (.pointer (some ⟨lowB + 4, 0, none⟩))] t fz
      | o => o).modify 6 fun
      | .cells _ t fz => .cells #[.iface 340 (.pointer (some ⟨lowB + 5, 0, none⟩))] t fz
      | o => o).modify 7 fun
      | .cells _ t fz => .cells #[.iface 340 (.pointer (some ⟨lowB + 6, 0, none⟩))] t fz
      | o => o).modify 8 fun
      | .cells _ t fz => .cells #[.iface 340 (.pointer (some ⟨lowB + 7, 0, none⟩))] t fz
      | o => o).modify 9 fun
      | .cells _ t fz => .cells #[.iface 340 (.pointer (some ⟨lowB + 8, 0, none⟩))] t fz
      | o => o).modify 10 fun
      | .cells _ t fz => .cells #[.iface 340 (.pointer (some ⟨lowB + 9, 0, none⟩))] t fz
      | o => o).modify 11 fun
      | .cells _ t fz => .cells #[.iface 340 (.pointer (some ⟨lowB + 10, 0, none⟩))] t fz
      | o => o).modify 1 fun
      | .cells _ t fz => .cells #[.iface 340 (.pointer (some ⟨lowB + 11, 0, none⟩))] t fz
      | o => o).modify 12 fun
      | .cells _ t fz => .cells #[.iface 340 (.pointer (some ⟨lowB + 12, 0, none⟩))] t fz
      | o => o).modify 13 fun
      | .cells _ t fz => .cells #[.iface 340 (.pointer (some ⟨lowB + 13, 0, none⟩))] t fz
      | o => o).modify 14 fun
      | .cells _ t fz => .cells #[.iface 340 (.pointer (some ⟨lowB + 14, 0, none⟩))] t fz
      | o => o).modify 15 fun
      | .cells _ t fz => .cells #[.iface 340 (.pointer (some ⟨lowB + 15, 0, none⟩))] t fz
      | o => o).modify 16 fun
      | .cells _ t fz => .cells #[.iface 340 (.pointer (some ⟨lowB + 16, 0, none⟩))] t fz
      | o => o).modify 17 fun
      | .cells _ t fz => .cells #[.iface 340 (.pointer (some ⟨lowB + 17, 0, none⟩))] t fz
      | o => o).modify 18 fun
      | .cells _ t fz => .cells (kc.map W32).toArray t fz
      | o => o }
def blocksRoots_args : Array Value := #[.agg blkC.toArray, .agg qcC.toArray, .bool false]
theorem blocksRoots_laid (os : Os) (args : Array Value) : laidMet Tryz.prog Rows.blocksRootsRow.laid ((blocksRoots_world os).forCall (fun _ _ => 0) ⟨#[], args, []⟩).memory :=
  laidMet_of_run' 8 (by kernel_rfl) (by kernel_rfl)
theorem blocksRoots_reads (os : Os) {H : Type} (enc : TypeId × Value → H) : ∃ places, DataW.whole enc Tryz.prog ((blocksRoots_world os).forCall (fun _ _ => 0) ⟨#[], blocksRoots_args, []⟩).memory Tryz.f3.params.toList Rows.blocksRootsSpec.vars false blocksRoots_args.toList 8 = some ([blkD, qcD, .lit (.bool false)], [], places) :=
  ⟨[], by kernel_rfl⟩
set_option maxRecDepth 20000 in
theorem blocksRoots_contract (H : Type) (enc : TypeId × Value → H) (W : World) (base : Nat) (args : Array Value) (ds gs : List (DataW H)) (before : List MemPlace)
    (hval : ∀ (j : Nat) t v, Tryz.f3.params[j]? = some t → args[j]? = some v → Value.okWide Tryz.prog W .any base t v)
    (hW : DataW.Whole enc Tryz.prog Tryz.f3.params.toList Rows.blocksRootsSpec.vars false W args.toList ds gs before) (hL : laidMetH Tryz.prog Rows.blocksRootsRow.laid W) :
    Calls Tryz.prog 3 args W fun e W' => ∃ v, e = .returned v ∧ Rows.blocksRootsSpec.post enc Tryz.prog Tryz.f3 false true false false W args v W' := by
  have hW' := hW
  have hlt : ∀ p ∈ before, p.block < W.heap.size := fun p hp => hW.lt p hp
  obtain ⟨p, q, hA0, hV, rfl, hfz, hnd⟩ := hW
  have hA : DataW.TrodAll enc Tryz.prog W 0 (fun _ => true) true Tryz.f3.params.toList args.toList ds p := hA0
  rw [Tryz.params3] at hA hval
  obtain ⟨v0, vs0, d0, ds0, p0, q0, hargs, rfl, rfl, h0, r0⟩ := trodAll_cons hA
  obtain ⟨v1, vs1, d1, ds1, p1, q1, rfl, rfl, rfl, h1, r1⟩ := trodAll_cons r0
  obtain ⟨v2, vs2, d2, ds2, p2, q2, rfl, rfl, rfl, h2, r2⟩ := trodAll_cons r1
  obtain ⟨rfl, rfl, rfl⟩ := trodAll_nil r2
  obtain rfl : args = #[v0, v1, v2] := by cases args; simp_all
  obtain ⟨rfl, rfl⟩ := trodVars_none hV
  obtain ⟨x0, hx0⟩ : ∃ x, RdBlock W TT v0.cells.toList x ∧ OkBlock x := by obtain ⟨fuel, hf⟩ := h0; exact p_block fuel _ _ hf
  have e0 := agg_of_len (n := 39) hx0.1.len (by decide)
  obtain ⟨x1, hx1⟩ : ∃ x, RdQC W TT v1.cells.toList x := by obtain ⟨fuel, hf⟩ := h1; exact o_qc fuel _ _ hf
  have e1 := agg_of_len (n := 19) hx1.len (by decide)
  obtain ⟨n2, rfl, _, _⟩ := open_bool Tryz.underlying4 (hval 2 4 v2 rfl rfl) h2
  have hL' : laidMet Tryz.prog Rows.blocksRootsRow.laid W := hL
  obtain ⟨ea, hN⟩ := laid_nerr (r := [("quorate/hash.constants", Rows.laid_quorate_hash_constants)]) (show laidMet Tryz.prog (errNames.map errRow ++ [("quorate/hash.constants", Rows.laid_quorate_hash_constants)]) W from hL')
  have hK := laid_kr hL'.tail.tail.tail.tail.tail.tail.tail.tail.tail.tail.tail.tail.tail.tail.tail.tail.tail.tail
  have walk := blocksRoots_ok (own := n2) no_res hN hK (hx0.1.mv still_id) hx0.2 (hx1.mv still_id)
  rw [← e0, ← e1] at walk
  refine Calls.mono (show Calls Tryz.prog 3 #[v0, v1, .bool n2] W _ from walk) fun e W' ⟨_, he, hs⟩ => ?_
  subst he
  have bel := below_of hs
  have eF : Rows.blocksRootsSpec.fn H ([d0, d1, d2] ++ []) = { results := [.lit (.bool true)], args := [d0, d1, d2] } := rfl
  have l0 : ∀ z ∈ p0, z.block < W.heap.size := fun z hz => hlt z (by simp [hz])
  have l1 : ∀ z ∈ p1, z.block < W.heap.size := fun z hz => hlt z (by simp [hz])
  have l2 : ∀ z ∈ p2, z.block < W.heap.size := fun z hz => hlt z (by simp [hz])
  refine ⟨_, rfl, _, _, _, [], p0 ++ (p1 ++ (p2 ++ ([]))), [], hW', ?_, ?_, ?_, bel.frame _, fun h => by cases h⟩
  · rw [eF]; exact trodAll_cons_mk (shut_bool Tryz.underlying4 _) trodAll_mk0
  · rw [eF, Tryz.params3]
    exact trodAll_cons_mk (Below.trod laidOut (by kernel_rfl) (of_decide_eq_true (by kernel_rfl)) h0 bel l0) (trodAll_cons_mk (Below.trod laidOut (by kernel_rfl) (of_decide_eq_true (by kernel_rfl)) h1 bel l1) (trodAll_cons_mk (Below.trod laidOut (by kernel_rfl) (of_decide_eq_true (by kernel_rfl)) h2 bel l2) (trodAll_mk0)))
  · rw [eF]; rfl

set_option maxRecDepth 100000 in
theorem blocksRoots_lifted (os : Os) (started : os.Started) (H : Type) (enc : TypeId × Value → H) (F : Stop.Interp) :
    ReturnsInHanded {} Tryz.checked os 3 .any ((OpenSpec.ofChange Rows.blocksRootsSpec).preRow enc Tryz.prog Tryz.f3 Rows.blocksRootsRow.domain false Rows.blocksRootsRow.laid) (((OpenSpec.ofChange Rows.blocksRootsSpec).at F).post enc Tryz.prog Tryz.f3 false true false false) := by
  obtain ⟨places, hx⟩ := blocksRoots_reads os enc
  refine returnsInHanded_of_row (C := Tryz.checked) (s := OpenSpec.ofChange Rows.blocksRootsSpec) own started (by kernel_rfl) Tryz.func3
    (witness_row_atRef (enc := enc) (C := Tryz.checked) false (blocksRoots_world os) blocksRoots_args rfl (by kernel_rfl) (by kernel_rfl) (by kernel_rfl)
      (OpenSpec.preRow_of_cond 8 hx (by kernel_rfl) (fun k hk => by cases hk) (by kernel_rfl) (blocksRoots_laid os _))) ?_
  intro W base args ds gs before hval hW _ _ _ hL _ _
  exact blocksRoots_contract H enc W base args ds gs before hval hW hL

theorem and_tt {a b : Bool} (h : a = true) (k : b = true) : (a && b) = true := by rw [h, k]; rfl
theorem blocksRoots_k0 : (Rows.blocksRootsRow.wf (OpenSpec.ofChange (OpenSpec.ofChange Rows.blocksRootsSpec).bare)) = true := by kernel_rfl
theorem blocksRoots_k1 : (laidOutB Tryz.pinned.checked.prog) = true := by kernel_rfl
theorem blocksRoots_k2 : (mapsRowed Tryz.pinned.checked.prog) = true := by kernel_rfl
theorem blocksRoots_k3 : (Tryz.f3.params.all (Tryz.pinned.checked.prog.readableRec ·)) = true := by kernel_rfl
theorem blocksRoots_k4 : (namedTie Tryz.pinned.checked.prog Rows.blocksRootsRow.named (OpenSpec.ofChange Rows.blocksRootsSpec).bare.vars) = true := by kernel_rfl
theorem blocksRoots_k5 : ((Rows.blocksRootsRow.stops == [])) = true := by kernel_rfl
theorem blocksRoots_k6 : ((Tryz.pinned.checked.prog.stops == [])) = true := by kernel_rfl
theorem blocksRoots_k7 : ((Rows.blocksRootsRow.knobs == [])) = true := by kernel_rfl
theorem blocksRoots_k8 : ((Tryz.pinned.checked.prog.stopKnobs == [])) = true := by kernel_rfl
theorem blocksRoots_k9 : ((Rows.blocksRootsRow.inPlace == Tryz.pinned.checked.prog.inPlace 3)) = true := by kernel_rfl
theorem blocksRoots_k10 : ((Rows.blocksRootsRow.unfollowed == Tryz.pinned.checked.prog.unfollowed 3)) = true := by kernel_rfl
theorem blocksRoots_k11 : ((Rows.blocksRootsRow.recurses == Tryz.pinned.checked.prog.recurses 3)) = true := by kernel_rfl
theorem blocksRoots_k12 : ((Rows.blocksRootsRow.named == Tryz.pinned.checked.prog.varsNamed 3)) = true := by kernel_rfl
theorem blocksRoots_k13 : ((Rows.blocksRootsRow.maps == (Tryz.f3.params.toList ++ (OpenSpec.ofChange Rows.blocksRootsSpec).bare.plain.varTypes Tryz.pinned.checked.prog).any (Tryz.pinned.checked.prog.mapsRec ·))) = true := by kernel_rfl
theorem blocksRoots_k14 : ((Rows.blocksRootsRow.ifaces == (Tryz.f3.params.toList ++ (OpenSpec.ofChange Rows.blocksRootsSpec).bare.plain.varTypes Tryz.pinned.checked.prog).any (Tryz.pinned.checked.prog.ifacesRec ·))) = true := by kernel_rfl
theorem blocksRoots_k15 : ((Rows.blocksRootsRow.mapsOut == Tryz.pinned.checked.prog.mapsAmong Tryz.f3.resultTypes.toList)) = true := by kernel_rfl
theorem blocksRoots_k16 : ((Rows.blocksRootsRow.loops == (Tryz.f3.params.toList ++ (OpenSpec.ofChange Rows.blocksRootsSpec).bare.plain.varTypes Tryz.pinned.checked.prog).any (Tryz.pinned.checked.prog.loopsFrom ·))) = true := by kernel_rfl
theorem blocksRoots_k17 : ((Rows.blocksRootsRow.wideKeys == (Tryz.f3.params.toList ++ (OpenSpec.ofChange Rows.blocksRootsSpec).bare.plain.varTypes Tryz.pinned.checked.prog ++ Tryz.f3.resultTypes.toList).any (Tryz.pinned.checked.prog.wideKeysFrom ·))) = true := by kernel_rfl
theorem blocksRoots_k18 : ((OpenSpec.ofChange Rows.blocksRootsSpec).bare.vars.all (Tryz.pinned.checked.prog.varReadable ·)) = true := by kernel_rfl
theorem blocksRoots_k19 : (Tryz.f3.resultTypes.all (fun t => Tryz.pinned.checked.prog.readableRec t && decide (t < Tryz.pinned.checked.prog.types.size))) = true := by kernel_rfl
theorem blocksRoots_k20 : ((Rows.blocksRootsRow.ifacesOut == Tryz.f3.resultTypes.toList.any (Tryz.pinned.checked.prog.ifacesRec ·))) = true := by kernel_rfl
theorem blocksRoots_k21 : ((Rows.blocksRootsRow.loopsOut == Tryz.f3.resultTypes.toList.any (Tryz.pinned.checked.prog.loopsFrom ·))) = true := by kernel_rfl
theorem blocksRoots_k22 : ((Rows.blocksRootsRow.plainKeys == Tryz.pinned.checked.prog.plainKeys)) = true := by kernel_rfl
theorem blocksRoots_k23 : (Rows.blocksRootsRow.shortTexts.isNone) = true := by kernel_rfl
theorem blocksRoots_k24 : (Tryz.pinned.checked.prog.stopsHeard) = true := by kernel_rfl
theorem blocksRoots_k25 : (Tryz.pinned.checked.prog.mayEnter) = true := by kernel_rfl
theorem blocksRoots_k26 : ((Rows.blocksRootsRow.lifted == Tryz.pinned.checked.prog.liftsFinal)) = true := by kernel_rfl
theorem blocksRoots_k27 : ((Tryz.pinned.checked.prog.make == some Rows.blocksRootsRow.make)) = true := by kernel_rfl
theorem blocksRoots_k28 : ((Rows.blocksRootsRow.kinds == (if Rows.blocksRootsRow.domain.isEmpty then [] else Tryz.f3.params.toList.map fun t => match Tryz.pinned.checked.prog.underlying t with | some (.int k) => some k | _ => none))) = true := by kernel_rfl
theorem blocksRoots_k29 : ((Rows.blocksRootsRow.pinned == Rows.blocksRootsRow.pinnedBy)) = true := by kernel_rfl
theorem blocksRoots_k30 : ((Rows.blocksRootsRow.veiled == (Tryz.f3.params.toList ++ (OpenSpec.ofChange Rows.blocksRootsSpec).bare.plain.varTypes Tryz.pinned.checked.prog ++ Tryz.f3.resultTypes.toList).any (Tryz.pinned.checked.prog.veiledRec ·))) = true := by kernel_rfl
theorem blocksRoots_k31 : (Rows.blocksRootsRow.veiledFits Tryz.pinned.checked.prog Tryz.f3.params.toList (Tryz.f3.params.toList ++ (OpenSpec.ofChange Rows.blocksRootsSpec).bare.plain.varTypes Tryz.pinned.checked.prog ++ Tryz.f3.resultTypes.toList)) = true := by kernel_rfl
set_option maxRecDepth 100000 in
theorem blocksRoots_facts : joinedFacts Tryz.pinned.checked.prog 3 Tryz.f3 (OpenSpec.ofChange Rows.blocksRootsSpec).bare Rows.blocksRootsRow = true := (and_tt (and_tt (and_tt (and_tt (and_tt (and_tt (and_tt (and_tt (and_tt (and_tt (and_tt (and_tt (and_tt (and_tt (and_tt (and_tt (and_tt (and_tt (and_tt (and_tt (and_tt (and_tt (and_tt (and_tt (and_tt (and_tt (and_tt (and_tt (and_tt (and_tt (and_tt blocksRoots_k0 blocksRoots_k1) blocksRoots_k2) blocksRoots_k3) blocksRoots_k4) blocksRoots_k5) blocksRoots_k6) blocksRoots_k7) blocksRoots_k8) blocksRoots_k9) blocksRoots_k10) blocksRoots_k11) blocksRoots_k12) blocksRoots_k13) blocksRoots_k14) blocksRoots_k15) blocksRoots_k16) blocksRoots_k17) blocksRoots_k18) blocksRoots_k19) blocksRoots_k20) blocksRoots_k21) blocksRoots_k22) blocksRoots_k23) blocksRoots_k24) blocksRoots_k25) blocksRoots_k26) blocksRoots_k27) blocksRoots_k28) blocksRoots_k29) blocksRoots_k30) blocksRoots_k31)
theorem blocksRoots_said : Rows.BlocksRootsSaid :=
  OpenClaim.holds_of_cond 3 Tryz.f3 rfl rfl rfl rfl rfl rfl rfl ⟨rfl, rfl, rfl, rfl, rfl⟩ rfl rfl rfl rfl rfl (by kernel_rfl) Tryz.func3 blocksRoots_facts
    (of_decide_eq_true (by kernel_rfl)) (by unfold Func.isWrapper; first | (rw [if_pos (by decide +kernel)]; kernel_rfl) | (rw [if_neg (by decide +kernel)]; exact ⟨rfl, rfl⟩))
    (fun os started H enc _ F => by rw [OpenClaim.pre_eq_preRow]; exact blocksRoots_lifted os started H enc F)
theorem blocksRoots_plain (f : FuncId) (fn : Func) (hf : Tryz.pinned.checked.prog.funcNamed "quorate/quoratelaw15.BlocksRoots" = some f) (hfn : Tryz.pinned.checked.prog.funcs[f]? = some fn) :
    true = Tryz.pinned.checked.prog.looks [] ∧ ∀ (j : Nat) t, fn.params[j]? = some t → Tryz.pinned.checked.prog.wantsStandIn t = false := by
  obtain rfl : f = 3 := Option.some.inj ((show Tryz.prog.funcNamed "quorate/quoratelaw15.BlocksRoots" = some 3 by kernel_rfl).symm.trans hf) |>.symm
  obtain rfl : fn = Tryz.f3 := (Option.some.inj (Tryz.func3.symm.trans hfn)).symm
  refine ⟨by kernel_rfl, fun j t ht => ?_⟩
  rw [Tryz.params3] at ht
  have hm := Array.mem_of_getElem? ht
  have h : t = 30 ∨ t = 26 ∨ t = 4 := by simpa using hm
  rcases h with rfl | rfl | rfl
  · exact (show Tryz.prog.wantsStandIn 30 = false by kernel_rfl)
  · exact (show Tryz.prog.wantsStandIn 26 = false by kernel_rfl)
  · exact (show Tryz.prog.wantsStandIn 4 = false by kernel_rfl)
theorem blocksRoots_holds : Rows.BlocksRootsCardSaid :=
  Claim7.holds_tied_plain_at .later [] _ _ _ _ blocksRoots_said (fun _ h => by cases h) (by kernel_rfl) (fun _ h => by cases h) blocksRoots_row_tie rfl ⟨rfl, rfl⟩ (by kernel_rfl) rfl blocksRoots_plain (by kernel_rfl)
#print axioms blocksRoots_holds
end Go.Proofs.YtobjojeliibinaaGreatDoor

