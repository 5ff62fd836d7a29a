/- Part 5. What is proved: see the last part: for every input the law returns true, and the input reads as it did. -/
import Derived.Test.YtheonhgffglegaaDoorCr4
import Derived.Test.YtheonhgffglegaaDoorCards
import Derived.Test.YtheonhgffglegaaDoorTie
import Derived.Deep.DeepHandedRow
import Derived.Deep.DeepWitnessRowRef
/- Walks, by program (wg.py) out of a spec. -/
namespace Go.Proofs.YtheonhgffglegaaDoor
open Go
set_option linter.unusedVariables false
set_option linter.unusedSimpArgs false


attribute [local irreducible] idOf gid lnB lnI
section
variable {st : Nat → Int}
def lnPN (st : Nat → Int) (p k : Nat) : List (Dig × Block) := (List.range' p (k + 1 - p)).map fun i => (lnI st i, lnB st i)
theorem ln_pnodes {k : Nat} (hn : (lnD st k).Nodup) (hk : k < 16) {p : Nat} (hp : p ≤ k) : (prunedT (lnT st k) (lnI st p)).nodes = lnPN st p k := by
  show (lnN st k).filter _ = _
  rw [lnN, List.filter_map, lnPN, ← range_ge (n := k + 1)]
  congr 1
  exact List.filter_congr fun i hi => decide_eq_decide.2 (ln_stays hn hk (by have := List.mem_range.1 hi; omega) hp)
theorem ln_pcerts {k : Nat} (hn : (lnD st k).Nodup) (hk : k < 16) {p : Nat} (hp : p ≤ k) (h1 : 1 ≤ k) : (prunedT (lnT st k) (lnI st p)).certs = (List.range' p (k - p)).map (lnQ st) := by
  show (lnC st k).filter _ = _
  rw [lnC, show max 1 k = k by omega, List.filter_map, ← range_ge (n := k)]
  congr 1
  exact List.filter_congr fun i hi => decide_eq_decide.2 (ln_stays hn hk (by have := List.mem_range.1 hi; omega) hp)
theorem lnPN_at {p k i : Nat} (h : p + i ≤ k) : (lnPN st p k)[i]? = some (lnI st (p + i), lnB st (p + i)) := by
  unfold lnPN
  rw [List.getElem?_map, List.getElem?_range' (by omega)]; simp
theorem ln_ptok {k : Nat} (hn : (lnD st k).Nodup) (hk : k < 16) {p : Nat} (hp : p < k) : TOk (prunedT (lnT st k) (lnI st p)) := by
  have hl : (lnPN st p k).length = k + 1 - p := by simp [lnPN]
  refine pruned_ok (lnT_ok hn hk) ?_ ?_ ?_
  · rw [ln_pnodes hn hk (by omega), List.head?_eq_getElem?, lnPN_at (by omega)]; rfl
  · rw [ln_pnodes hn hk (by omega)]
    unfold parB
    refine List.all_eq_true.2 fun i hi => ?_
    have := List.mem_range.1 hi
    rw [hl] at this
    by_cases hik : p + (i + 1) ≤ k
    · rw [lnPN_at hik]
      refine List.any_eq_true.2 ⟨i, List.mem_range.2 (by omega), ?_⟩
      rw [lnPN_at (by omega)]
      exact decide_eq_true (by show lnI st (p + i) = (lnB st (p + (i + 1))).parent; rw [← Nat.add_assoc, ln_parent])
    · rw [List.getElem?_eq_none (by rw [hl]; omega)]
  · rw [ln_pcerts hn hk (by omega) (by omega), List.length_map, List.length_range']; omega
theorem lnD_sub (st : Nat → Int) {k a b : Nat} (hab : a ≤ b) (hb : b ≤ k + 1) : ((lnD st k).drop a).take (b - a) = lnR st a b := by
  unfold lnD lnR
  rw [← List.map_drop, ← List.map_take]
  congr 1
  apply List.ext_getElem?
  intro i
  rw [List.getElem?_take]
  split
  · rw [List.getElem?_drop, List.getElem?_range (by omega), List.getElem?_range' (by omega)]; simp
  · rw [List.getElem?_eq_none (by rw [List.length_range']; omega)]
theorem flatten_sub {size : Nat} : ∀ {css : List (List Value)} {a n : Nat}, (∀ c ∈ css, c.length = size) → ((css.drop a).take n).flatten = (css.flatten.drop (a * size)).take (n * size)
  | [], a, n, _ => by simp
  | c :: css, 0, 0, _ => by simp
  | c :: css, 0, n + 1, h => by
    have hc := h c (by simp)
    have ih := flatten_sub (css := css) (a := 0) (n := n) (fun d hd => h d (by simp [hd]))
    simp only [List.drop_zero, Nat.zero_mul] at ih ⊢
    rw [List.take_succ_cons, List.flatten_cons, List.flatten_cons, ih, Nat.add_mul, Nat.one_mul, Nat.add_comm, ← hc, List.take_length_add_append]
  | c :: css, a + 1, n, h => by
    have hc := h c (by simp)
    have ih := flatten_sub (css := css) (a := a) (n := n) (fun d hd => h d (by simp [hd]))
    rw [List.drop_succ_cons, ih, List.flatten_cons, Nat.add_mul, Nat.one_mul, Nat.add_comm, ← List.drop_drop, ← hc, List.drop_left]
/-- A slice of a row of digests. -/
theorem row_sub {w : World} {A : Nat → Prop} {g o m c lo hi : Nat} {l : List Dig} (h : RdRow w A 16 (some ⟨g, o, none⟩) m (l.map dc).flatten) (h1 : lo ≤ hi) (h2 : hi ≤ m) (h3 : m ≤ c) : RdRow w A 16 (if c = lo then some ⟨g, o, none⟩ else (some (⟨g, o, none⟩ : Addr)).map (·.add (lo * 16))) (hi - lo) (((l.drop lo).take (hi - lo)).map dc).flatten := by
  obtain ⟨e1, e2, e3⟩ := h
  have hd : ∀ c ∈ l.map dc, List.length c = 16 := fun c hc => by obtain ⟨x, _, rfl⟩ := List.mem_map.1 hc; exact dc_length x
  have hl : l.length = m := by rw [flatten_len hd, List.length_map] at e1; omega
  have hf : (((l.drop lo).take (hi - lo)).map dc).flatten = (((l.map dc).flatten).drop (lo * 16)).take ((hi - lo) * 16) := by rw [List.map_take, List.map_drop]; exact flatten_sub hd
  refine ⟨?_, by omega, fun hn => ?_⟩
  · rw [flatten_len (size := 16) (fun c hc => by obtain ⟨x, _, rfl⟩ := List.mem_map.1 hc; exact dc_length x), List.length_map, List.length_take, List.length_drop]; congr 1; omega
  · obtain ⟨g', o', ha, hA, hlt, hr⟩ := e3 (by omega)
    cases ha
    rw [if_neg (by omega)]
    refine ⟨g, o + lo * 16, by simp [Addr.add_mid], hA, hlt, fun j v hj => ?_⟩
    rw [hf, List.getElem?_take] at hj
    split at hj
    · rw [List.getElem?_drop] at hj
      have := hr _ v hj
      rw [← Nat.add_assoc] at this
      exact this
    · cases hj
theorem fold_gt (hs : StOk st) : ∀ (n a : Nat) (h : QC), (n = 0 ∨ h.round ≤ (lnB st a).round) → 0 < n → (((List.range' a n).map (lnQ st)).foldl gtQ h).round = (lnB st (a + n - 1)).round
  | 0, _, _, _, h0 => absurd h0 (Nat.lt_irrefl _)
  | 1, a, h, hle, _ => by
    have hr : h.round ≤ (lnB st a).round := by rcases hle with h | h; cases h; exact h
    simp only [List.range'_one, List.map_cons, List.map_nil, List.foldl_cons, List.foldl_nil, gtQ]
    split
    · rfl
    · rename_i hn
      have e : (lnQ st a).round = (lnB st a).round := rfl
      rw [e] at hn
      show h.round = (lnB st (a + 1 - 1)).round
      rw [Nat.add_sub_cancel]; omega
  | n + 2, a, h, hle, _ => by
    have hr : h.round ≤ (lnB st a).round := by rcases hle with h | h; cases h; exact h
    have hm := ln_mono hs (show a < a + 1 by omega)
    rw [List.range'_succ, List.map_cons, List.foldl_cons]
    have hq : (gtQ h (lnQ st a)).round ≤ (lnB st (a + 1)).round := by
      have e : (lnQ st a).round = (lnB st a).round := rfl
      unfold gtQ; split
      · omega
      · omega
    have := fold_gt hs (n + 1) (a + 1) (gtQ h (lnQ st a)) (.inr hq) (by omega)
    rw [this]
    congr 2; omega
theorem ln_phigh (hs : StOk st) {k : Nat} (hn : (lnD st k).Nodup) (hk : k < 16) {p : Nat} (hp : p < k) : (highQ (prunedT (lnT st k) (lnI st p)).certs).round = (lnB st (k - 1)).round := by
  rw [ln_pcerts hn hk (by omega) (by omega)]
  obtain ⟨m, hm⟩ : ∃ m, k - p = m + 1 := ⟨k - p - 1, by omega⟩
  have h1 := fold_gt hs (k - p) p (lnQ st p) (.inr (Int.le_refl _)) (by omega)
  rw [hm, List.range'_succ, List.map_cons] at h1 ⊢
  show (List.foldl gtQ (lnQ st p) (lnQ st p :: (List.range' (p + 1) m).map (lnQ st))).round = _
  rw [h1]
  congr 2; omega
end

end Go.Proofs.YtheonhgffglegaaDoor

/- Walks, by program (wg.py) out of a spec. -/
namespace Go.Proofs.YtheonhgffglegaaDoor
open Go
set_option linter.unusedVariables false
set_option linter.unusedSimpArgs false


def on2 (x : Int) : Nat := 1 + ((IntKind.u64.wrap x).tmod 2).toNat
theorem on2_eq (x : Int) : (IntKind.u64.wrap x).tmod 2 = ((on2 x - 1 : Nat) : Int) ∧ 1 ≤ on2 x ∧ on2 x ≤ 2 := by
  have := u64_rem x (m := 2) (by decide)
  unfold on2
  refine ⟨by rw [Nat.add_sub_cancel_left]; exact this.1, by omega, by have h2 : ((IntKind.u64.wrap x).tmod 2).toNat < 2 := this.2; omega⟩
def st2 (l : List Int) (i : Nat) : Int := (on2 (l.getD i 0) : Int)
theorem st2_at (l : List Int) (k : Nat) : st2 l k = ((on2 (l.getD k 0) : Nat) : Int) := rfl
theorem st2_ok (l : List Int) : StOk (st2 l) := ⟨fun i => by have := on2_eq (l.getD i 0); unfold st2; omega, fun i => by have := on2_eq (l.getD i 0); unfold st2; omega⟩
/-- The rounds of a row. -/
def lnRd (st : Nat → Int) (k : Nat) : List Int := (List.range (k + 1)).map fun i => (lnB st i).round
theorem lnRd_succ (st : Nat → Int) (k : Nat) : (lnRd st (k + 1)).map (Value.int .i64) = (lnRd st k).map (Value.int .i64) ++ [.int .i64 (lnB st (k + 1)).round] := by simp [lnRd, List.range_succ]
theorem St.vlOfQ {w0 w : World} {F0 : Nat → Prop} {L L' : List Res} {cs : List Value} {x : QC} (h : St w0 F0 L w) (hp : Pick L (VlR RdQC cs x) L') : ∃ w A, RdQC w A cs x := by
  obtain ⟨F, hF, _⟩ := h
  obtain ⟨F1, h1, _⟩ := stars_pick hp hF
  exact ⟨w, F1, h1.1⟩
theorem lnRd_at (st : Nat → Int) {k i : Nat} (h : i ≤ k) : ((lnRd st k).map (Value.int .i64))[i]? = some (.int .i64 (lnB st i).round) := by simp [lnRd, show i < k + 1 by omega]
theorem lnD_at (st : Nat → Int) {k i : Nat} (h : i ≤ k) : ((lnD st k).map dc)[i]? = some (dc (lnI st i)) := by simp [lnD, show i < k + 1 by omega]
theorem lnC_at (st : Nat → Int) {k i : Nat} (h : i < k) : (lnC st k)[i]? = some (lnQ st i) := by simp [lnC, show i < max 1 k by omega]
attribute [local irreducible] Gl Gc Gx Gs Runs Wt

attribute [local irreducible] dc qcC blkC idOf TreeR gid fkT genC

set_option maxHeartbeats 400000 in
theorem blocksRipe_ok {w : World} {F : Nat → Prop} {a : Option Addr} {n c : Nat} {l : List Int} (h : stars [] w F) {ea : Nat → Addr} {es : List Nat} [Has es 1] [Has es 4] [Has es 8] [Has es 9] [Has es 12] [Has es 14] [Has es 16] [Has es 17] (hE : GErr es w (fun k => ¬ F k) 139 ea) (hK : KR w (fun k => ¬ F k)) (hx : RdRow w (fun k => ¬ F k) 1 a n (l.map (Value.int .i64))) :
    Calls Tryd.prog 3 #[.slice a n c] w (Post w F (fun _ : Unit => .bool true) (fun _ => [])) := by
  have hnl : n = l.length := by have := hx.1; simp at this; omega
  have hmx := hx.2.1
  simp only [maxLen] at hmx
  have hso := st2_ok l
  refine g_enter (env := [(0, .slice a n c)]) Tryd.func3 rfl h Tryd.ntmps3 rfl rfl ?_
  refine gsr ?_
  refine gp zas ?_
  refine gnt ?_
  refine gc_seq ?_
  refine gsr ?_
  refine zc (fun _ => ?_) (c := fun w1 F1 F2 h1 h2 hd hst => alive15_ok h1 (hE.mv hst.still) (hK.mv hst.still))
  refine gp znt ?_
  refine gnt ?_
  refine gc_condF rfl rfl ?_
  refine gc_skip ?_
  refine gx_then ?_
  refine gc_seq ?_
  refine gsr ?_
  refine gp zmv ?_
  refine gp zln ?_
  refine gp zgt ?_
  refine gnt ?_
  refine gif rfl (fun hc21 => ?_) (fun hc21 => ?_)
  · refine gsr ?_
    refine gp zas ?_
    refine gnt ?_
    refine gc_ret ?_
    refine gx_then_ret ?_
    refine gx_ret1 rfl (by conv => lhs; whnf) ?_
    exact ze ()
  · try simp only at hc21
    have hn14 : n ≤ 14 := by omega
    refine gc_skip ?_
    refine gx_then ?_
    refine gsr ?_
    refine zc (fun q => ?_) (c := fun w1 F1 F2 h1 h2 hd hst => genesis15_ok h1 (hE.mv hst.still) (hK.mv hst.still))
    have igen := Len.of genC_len
    have jgen := One.of (rdGen (w := w) (A := fun _ => True)).one
    refine gp zmv ?_
    refine gp zex ?_
    refine gp zex ?_
    refine gp zex ?_
    refine gp zex ?_
    refine zal fun b4 => ?_
    refine gl_eqc (cs' := blkC) (by repeat (first | exact Pick.here | apply Pick.there)) (by kernel_rfl) ?_
    refine zal fun b5 => ?_
    refine gp zas ?_
    refine zsA genC_len One.h ?_
    refine zsN ?_
    refine gp zas ?_
    refine gnt ?_
    refine gc_seq ?_
    refine gsr ?_
    refine gp zmv ?_
    refine gp (r_bool (c := false) znt rfl) ?_
    refine gnt ?_
    refine gc_condF rfl rfl ?_
    refine gc_skip ?_
    refine gx_then ?_
    refine gsr ?_
    refine gp zL ?_
    refine zeN fun b31 => ?_
    refine ze1 fun b32 => ?_
    refine gp zas ?_
    refine gp zas ?_
    refine gnt ?_
    refine gc_seq ?_
    refine gsr ?_
    refine gp zmv ?_
    refine gp zln ?_
    refine gp zmv ?_
    refine gnt ?_
    refine gc_block ?_
    refine gc_loop (α := Nat × (Option Addr × Nat) × (Option Addr × Nat) × List Value) (fun y => [pureR (y.1 ≤ n ∧ (y.2.2.2.length = 39 ∧ ∀ v ∈ y.2.2.2, v.oneCell' = true) ∧ (lnD (st2 l) y.1).Nodup ∧ ∃ w A, RdBlock w A y.2.2.2 (lnB (st2 l) y.1)), TreeR q (lnT (st2 l) y.1), blk b4 33 y.2.2.2, blk b5 26 (dc (lnI (st2 l) y.1)), rowR 26 16 y.2.1.1 (y.1 + 1) y.2.1.2 ((lnD (st2 l) y.1).map dc).flatten, rowR 3 1 y.2.2.1.1 (y.1 + 1) y.2.2.1.2 ((lnRd (st2 l) y.1).map (Value.int .i64))]) (fun y => [(35, .int .i64 (y.1 : Int)), (7, .slice y.2.1.1 (y.1 + 1) y.2.1.2), (8, .slice y.2.2.1.1 (y.1 + 1) y.2.2.1.2)]) [2, 9, 10, 11, 12, 36, 37, 38, 39, 40, 41, 42, 43, 44, 45, 46, 47, 48, 49, 50, 51, 52, 53, 54, 55, 56, 57, 58, 59, 60, 61, 62, 63, 64, 65, 66, 67, 68, 69, 70, 71, 72, 73, 74, 75, 76, 77, 78, 79, 80, 81, 82, 83, 84, 85, 86] (fun y => n - y.1) (0, (some ⟨b31, 0, none⟩, 1), (some ⟨b32, 0, none⟩, 1), genC) ?_ ?_ ?_
    · refine env_start (by kernel_rfl)
    · intro w' hw
      refine St.pureI (p := 0 ≤ n ∧ (genC.length = 39 ∧ ∀ v ∈ genC, v.oneCell' = true) ∧ (lnD (st2 l) 0).Nodup ∧ ∃ w A, RdBlock w A genC (lnB (st2 l) 0)) ⟨Nat.zero_le _, ⟨genC_len, One.h⟩, by simp [lnD, List.range_succ], w, fun _ => True, by rw [lnB_zero]; exact rdGen⟩ ?_
      have e1 : lnT (st2 l) 0 = fkT 0 0 := lnT_zero
      have e2 : lnI (st2 l) 0 = gid := lnI_zero
      have e3 : ((lnD (st2 l) 0).map dc).flatten = dc gid := by simp [lnD, List.range_succ, e2]
      have e4 : (lnRd (st2 l) 0).map (Value.int .i64) = [.int .i64 0] := rfl
      show St w F [TreeR q (lnT (st2 l) 0), blk b4 33 genC, blk b5 26 (dc (lnI (st2 l) 0)), rowR 26 16 (some ⟨b31, 0, none⟩) (0 + 1) 1 ((lnD (st2 l) 0).map dc).flatten, rowR 3 1 (some ⟨b32, 0, none⟩) (0 + 1) 1 ((lnRd (st2 l) 0).map (Value.int .i64))] w'
      rw [e1, e2, e3, e4]
      exact hw.sel (by repeat (first | exact Sel.nil | (apply Sel.cons; · (repeat (first | exact Pick.here | apply Pick.there)))))
    · intro y u
      obtain ⟨k, ⟨a7, c7⟩, ⟨a8, c8⟩, cs⟩ := y
      refine gc_pureR (fun hk => ?_)
      obtain ⟨hk, ⟨hlc, hoc⟩, hnd, wq, Aq, hrd⟩ := hk
      replace hk : k ≤ n := hk
      replace hlc : cs.length = 39 := hlc
      replace hnd : (lnD (st2 l) k).Nodup := hnd
      replace hrd : RdBlock wq Aq cs (lnB (st2 l) k) := hrd
      have ic := Len.of hlc
      have jc := One.of (show ∀ v ∈ cs, v.oneCell' = true from hoc)
      have hrn := ln_round hso k
      refine gsr ?_
      refine gp zlt ?_
      refine gnt ?_
      refine gc_seq ?_
      refine gif rfl (fun hc36 => ?_) (fun hc36 => ?_)
      · try simp only at hc36
        have hk' : k < n := by omega
        obtain ⟨ga, oa, ha, hA, _, hra⟩ := hx.elem hk'
        subst ha
        have hce := hra 0 (.int .i64 (l.getD k 0)) (by simp [List.getElem?_take, List.getD, show k < l.length by omega])
        obtain ⟨hs1, hs2, hs3⟩ := on2_eq (l.getD k 0)
        have hstk := st2_at l k
        refine gc_skip ?_
        refine gx_then ?_
        refine gc_seq ?_
        refine gc_block ?_
        refine gsr ?_
        refine gp zmv ?_
        refine gp (r_val (v' := .pointer (some ⟨ga, oa + k * 1, none⟩)) zia (by simp)) ?_
        refine gp (r_ld1o rfl Ty.row_3 hce hA) ?_
        refine gp zas ?_
        refine gp zas ?_
        refine gnt ?_
        refine gsr ?_
        refine gp (zLa (cs := cs)) ?_
        refine gp zL ?_
        refine gp zmv ?_
        refine gp zci ?_
        refine gp (r_int (j := ((on2 (l.getD k 0) - 1 : Nat) : Int)) zrm hs1) ?_
        refine gp (r_int (j := ((on2 (l.getD k 0) - 1 : Nat) : Int)) zci (wrap_i64 (by omega) (by omega))) ?_
        refine gp (r_int (j := st2 l k) zad (by rw [hstk]; omega)) ?_
        refine gp zmv ?_
        refine gp (r_val zci (txN_eq k)) ?_
        refine zc ?_ (c := fun w1 F1 F2 h1 h2 hd hst => child15_ok (b := lnB (st2 l) k) (id := lnI (st2 l) k) (on := st2 l k) (tx := txN k) h1 hrd (by omega) (by rw [hstk]; omega))
        rintro ⟨b23, b24⟩
        have ich := Len.of (chC_len (lnB (st2 l) k) (lnI (st2 l) k) (st2 l k) b24)
        have jch := One.of (chC_one (lnB (st2 l) k) (lnI (st2 l) k) (st2 l k) b24)
        refine gl_conv (M := [rowR 53 1 (some ⟨b24, 0, none⟩) 1 1 [.slice (some ⟨b23, 0, none⟩) 1 1], rowR 5 1 (some ⟨b23, 0, none⟩) 1 1 [B8 (txN k)]]) (N := [VlR RdBlock (chC (lnB (st2 l) k) (lnI (st2 l) k) ((st2 l) k) b24) (lnB (st2 l) (k + 1))]) (by repeat (first | exact Sel.nil | (apply Sel.cons; · (repeat (first | exact Pick.here | apply Pick.there))))) (fun _ _ => vl_ln) ?_
        refine zsA (chC_len _ _ _ _) (chC_one _ _ _ _) ?_
        refine gnt ?_
        refine gsr ?_
        refine gp (zLa (cs := (chC (lnB (st2 l) k) (lnI (st2 l) k) ((st2 l) k) b24))) ?_
        refine zc (fun _ => ?_) (c := fun w1 F1 F2 h1 h2 hd hst => id_ok (x := lnB (st2 l) (k + 1)) h1 (hE.mv hst.still) (hK.mv hst.still) (vl_rd h2 hd (by repeat (first | exact Pick.here | apply Pick.there))))
        rw [ln_err hso (k + 1) (by omega), lnI_def]
        refine gp zmv ?_
        refine gp zex ?_
        refine gp zex ?_
        refine zal fun b11 => ?_
        refine zsN ?_
        refine gp zas ?_
        refine gnt ?_
        refine gc_seq ?_
        refine gsr ?_
        refine gp zmv ?_
        refine gp (r_bool (c := false) (r_nenil rfl (by kernel_rfl)) rfl) ?_
        refine gp zmv ?_
        refine gq zmv ?_
        refine gq zL ?_
        refine zc (fun _ => ?_) (c := fun w1 F1 F2 h1 h2 hd hst => has15_ok (d := lnI (st2 l) (k + 1)) (l := lnD (st2 l) k) h1 (digs_of_row (rd_row h2 hd (by repeat (first | exact Pick.here | apply Pick.there)))))
        refine gp zpk ?_
        refine gnt ?_
        refine gif rfl (fun hc61 => ?_) (fun hc61 => ?_)
        · refine gsr ?_
          refine gp zmv ?_
          refine gp (r_bool (c := true) (r_eqnil (k := 0) rfl (by kernel_rfl)) rfl) ?_
          refine gp zas ?_
          refine gnt ?_
          refine gc_ret ?_
          refine gx_then_ret ?_
          refine gx_block_ret ?_
          refine gx_then_ret ?_
          refine gx_round_ret ?_
          refine gx_block_ret ?_
          refine gx_then_ret ?_
          refine gx_ret1 rfl (by conv => lhs; whnf) ?_
          exact ze ()
        · try simp only at hc61
          have hnew : ¬ lnI (st2 l) (k + 1) ∈ lnD (st2 l) k := by simpa using hc61
          refine gc_skip ?_
          refine gx_then ?_
          refine gc_seq ?_
          refine gsr ?_
          refine gp zmv ?_
          refine gp (zLa (cs := (chC (lnB (st2 l) k) (lnI (st2 l) k) ((st2 l) k) b24))) ?_
          refine zc (fun _ => ?_) (c := fun w1 F1 F2 h1 h2 hd hst => tadd_eq (b := lnB (st2 l) (k + 1)) (hE.mv hst.still) (hK.mv hst.still) h1 (lnT_ok hnd (by omega)) (vl_rd h2 hd (by repeat (first | exact Pick.here | apply Pick.there))) (ln_sm _) (ln_err hso (k + 1) (by omega)) (lnI_def _ _) (ln_add hso hnd (by omega) hnew))
          refine gp zmv ?_
          refine gp zex ?_
          refine gp zex ?_
          refine zsN ?_
          refine gp zas ?_
          refine gnt ?_
          refine gsr ?_
          refine gp zmv ?_
          refine gp (r_bool (c := false) (r_nenil rfl (by kernel_rfl)) rfl) ?_
          refine gp zmv ?_
          refine gq zL ?_
          refine gq zL ?_
          refine gq (r_bool (c := false) znd (by simp)) ?_
          refine gp zpk ?_
          refine gnt ?_
          refine gc_condF rfl rfl ?_
          refine gc_skip ?_
          refine gx_then ?_
          refine gc_regionZ 10 ([blk b4 33 (chC (lnB (st2 l) k) (lnI (st2 l) k) ((st2 l) k) b24), blk b5 26 (dc (lnI (st2 l) (k + 1)))]) ?_
          refine yps 0 rfl zmv ?_
          refine yps 1 rfl zL ?_
          refine yps 4 rfl zmv ?_
          refine yps 5 rfl zfa ?_
          refine yps 6 rfl zl ?_
          refine yo2s 2 7 rfl rfl ?_ ?_
          · refine zeN fun b79 => ?_
            refine yxs ?_
            refine yo2s 3 7 rfl rfl ?_ ?_
            · refine zapo (fun a80 c80 => ?_)
              refine yxs ?_
              refine yos 7 rfl ?_
              refine ze1 fun b84 => ?_
              refine yxs ?_
              refine yos 8 rfl ?_
              refine zapo (fun a85 c85 => ?_)
              refine yxs ?_
              refine yps 9 rfl zas ?_
              refine yzs rfl ?_
              refine gp zas ?_
              refine gl_nil ?_
              refine gx_block_normal ?_
              refine gx_then ?_
              refine gc_region ?_
              refine gp zad ?_
              refine gp zmv ?_
              refine gl_nil ?_
              refine zrd ((k + 1, (a80, c80), (a85, c85), (chC (lnB (st2 l) k) (lnI (st2 l) k) ((st2 l) k) b24))) ?_ ?_
              · show n - (k + 1) < n - k
                omega
              · intro w' hw
                obtain ⟨wv, Av, hvr⟩ := St.vlOfB (cs := (chC (lnB (st2 l) k) (lnI (st2 l) k) ((st2 l) k) b24)) (x := lnB (st2 l) (k + 1)) hw (by repeat (first | exact Pick.here | apply Pick.there))
                refine St.pureI (p := k + 1 ≤ n ∧ _ ∧ _ ∧ _) ⟨by omega, ⟨chC_len _ _ _ _, chC_one _ _ _ _⟩, ln_nodup hnd hnew, wv, Av, hvr⟩ ?_
                have e2 : ((lnD (st2 l) (k + 1)).map dc).flatten = ((lnD (st2 l) k).map dc).flatten ++ dc (lnI (st2 l) (k + 1)) := by rw [lnD_succ]; simp
                show St w F [TreeR q (lnT (st2 l) (k + 1)), blk b4 33 (chC (lnB (st2 l) k) (lnI (st2 l) k) ((st2 l) k) b24), blk b5 26 (dc (lnI (st2 l) (k + 1))), rowR 26 16 a80 ((k + 1) + 1) c80 ((lnD (st2 l) (k + 1)).map dc).flatten, rowR 3 1 a85 ((k + 1) + 1) c85 ((lnRd (st2 l) (k + 1)).map (Value.int .i64))] w'
                rw [e2, lnRd_succ]
                exact hw.sel (by repeat (first | exact Sel.nil | (apply Sel.cons; · (repeat (first | exact Pick.here | apply Pick.there)))))
            · refine ze1 fun b84 => ?_
              refine yxs ?_
              refine yos 3 rfl ?_
              refine zapo (fun a80 c80 => ?_)
              refine yxs ?_
              refine yos 8 rfl ?_
              refine zapo (fun a85 c85 => ?_)
              refine yxs ?_
              refine yps 9 rfl zas ?_
              refine yzs rfl ?_
              refine gp zas ?_
              refine gl_nil ?_
              refine gx_block_normal ?_
              refine gx_then ?_
              refine gc_region ?_
              refine gp zad ?_
              refine gp zmv ?_
              refine gl_nil ?_
              refine zrd ((k + 1, (a80, c80), (a85, c85), (chC (lnB (st2 l) k) (lnI (st2 l) k) ((st2 l) k) b24))) ?_ ?_
              · show n - (k + 1) < n - k
                omega
              · intro w' hw
                obtain ⟨wv, Av, hvr⟩ := St.vlOfB (cs := (chC (lnB (st2 l) k) (lnI (st2 l) k) ((st2 l) k) b24)) (x := lnB (st2 l) (k + 1)) hw (by repeat (first | exact Pick.here | apply Pick.there))
                refine St.pureI (p := k + 1 ≤ n ∧ _ ∧ _ ∧ _) ⟨by omega, ⟨chC_len _ _ _ _, chC_one _ _ _ _⟩, ln_nodup hnd hnew, wv, Av, hvr⟩ ?_
                have e2 : ((lnD (st2 l) (k + 1)).map dc).flatten = ((lnD (st2 l) k).map dc).flatten ++ dc (lnI (st2 l) (k + 1)) := by rw [lnD_succ]; simp
                show St w F [TreeR q (lnT (st2 l) (k + 1)), blk b4 33 (chC (lnB (st2 l) k) (lnI (st2 l) k) ((st2 l) k) b24), blk b5 26 (dc (lnI (st2 l) (k + 1))), rowR 26 16 a80 ((k + 1) + 1) c80 ((lnD (st2 l) (k + 1)).map dc).flatten, rowR 3 1 a85 ((k + 1) + 1) c85 ((lnRd (st2 l) (k + 1)).map (Value.int .i64))] w'
                rw [e2, lnRd_succ]
                exact hw.sel (by repeat (first | exact Sel.nil | (apply Sel.cons; · (repeat (first | exact Pick.here | apply Pick.there)))))
          · refine ze1 fun b84 => ?_
            refine yxs ?_
            refine yos 2 rfl ?_
            refine zeN fun b79 => ?_
            refine yxs ?_
            refine yos 3 rfl ?_
            refine zapo (fun a80 c80 => ?_)
            refine yxs ?_
            refine yos 8 rfl ?_
            refine zapo (fun a85 c85 => ?_)
            refine yxs ?_
            refine yps 9 rfl zas ?_
            refine yzs rfl ?_
            refine gp zas ?_
            refine gl_nil ?_
            refine gx_block_normal ?_
            refine gx_then ?_
            refine gc_region ?_
            refine gp zad ?_
            refine gp zmv ?_
            refine gl_nil ?_
            refine zrd ((k + 1, (a80, c80), (a85, c85), (chC (lnB (st2 l) k) (lnI (st2 l) k) ((st2 l) k) b24))) ?_ ?_
            · show n - (k + 1) < n - k
              omega
            · intro w' hw
              obtain ⟨wv, Av, hvr⟩ := St.vlOfB (cs := (chC (lnB (st2 l) k) (lnI (st2 l) k) ((st2 l) k) b24)) (x := lnB (st2 l) (k + 1)) hw (by repeat (first | exact Pick.here | apply Pick.there))
              refine St.pureI (p := k + 1 ≤ n ∧ _ ∧ _ ∧ _) ⟨by omega, ⟨chC_len _ _ _ _, chC_one _ _ _ _⟩, ln_nodup hnd hnew, wv, Av, hvr⟩ ?_
              have e2 : ((lnD (st2 l) (k + 1)).map dc).flatten = ((lnD (st2 l) k).map dc).flatten ++ dc (lnI (st2 l) (k + 1)) := by rw [lnD_succ]; simp
              show St w F [TreeR q (lnT (st2 l) (k + 1)), blk b4 33 (chC (lnB (st2 l) k) (lnI (st2 l) k) ((st2 l) k) b24), blk b5 26 (dc (lnI (st2 l) (k + 1))), rowR 26 16 a80 ((k + 1) + 1) c80 ((lnD (st2 l) (k + 1)).map dc).flatten, rowR 3 1 a85 ((k + 1) + 1) c85 ((lnRd (st2 l) (k + 1)).map (Value.int .i64))] w'
              rw [e2, lnRd_succ]
              exact hw.sel (by repeat (first | exact Sel.nil | (apply Sel.cons; · (repeat (first | exact Pick.here | apply Pick.there)))))
      · try simp only at hc36
        obtain rfl : k = n := by omega
        obtain ⟨qj, xa1, xn1, xc1, xa2, xn2, xc2, rfl, hqj, _⟩ := hrd
        have iqj := Len.of hqj.len
        have jqj := One.of hqj.one
        have hd16 : ∀ c ∈ (lnD (st2 l) k).map dc, List.length c = 16 := fun c hc => by obtain ⟨x, _, rfl⟩ := List.mem_map.1 hc; exact dc_length x
        refine gc_fact (fun w' hw => St.rowAt (hw.sel (M := [rowR 3 1 a8 (k + 1) c8 ((lnRd (st2 l) k).map (Value.int .i64))]) (by repeat (first | exact Sel.nil | (apply Sel.cons; · (repeat (first | exact Pick.here | apply Pick.there)))))) .here (by omega)) (fun hra8 => ?_)
        obtain ⟨hm8, g8, o8, ha8⟩ := hra8
        subst ha8
        refine gc_fact (fun w' hw => St.rowAt (hw.sel (M := [rowR 26 16 a7 (k + 1) c7 ((lnD (st2 l) k).map dc).flatten]) (by repeat (first | exact Sel.nil | (apply Sel.cons; · (repeat (first | exact Pick.here | apply Pick.there)))))) .here (by omega)) (fun hra7 => ?_)
        obtain ⟨hm7, g7, o7, ha7⟩ := hra7
        subst ha7
        refine gc_exit ?_
        refine gx_then_exit ?_
        refine gx_round_exit ?_
        refine gx_block_hit ?_
        refine gx_then ?_
        refine gsr ?_
        refine gp zmv ?_
        refine gp zln ?_
        refine gp zas ?_
        refine gnt ?_
        refine gsr ?_
        refine gp zmv ?_
        refine gp zfa ?_
        refine gp zl ?_
        refine gp zL ?_
        refine gp (zbu (cs := .int .i64 1 :: .int .i64 (lnB (st2 l) k).round :: (dc (lnI (st2 l) k) ++ [.slice none 0 0]))) ?_
        refine zc ?_ (c := fun w1 F1 F2 h1 h2 hd hst => tripe_ok (x := ⟨1, (lnB (st2 l) k).round, lnI (st2 l) k, []⟩) (tr_rd h2 hd (by repeat (first | exact Pick.here | apply Pick.there))) (lnT_ok hnd (by omega)) h1 (rdQ1 1 _ _) ⟨by show _ ≤ (lnB (st2 l) k).round; omega, by show (lnB (st2 l) k).round ≤ _; omega⟩)
        rintro ⟨a94, c94⟩
        refine gp zas ?_
        refine gnt ?_
        refine gc_seq ?_
        refine gc_seq ?_
        by_cases hk3 : k < 3
        · have hun : ¬ ripeOk (st2 l) k := fun h => by have := h.1; omega
          refine gc_regionS (by kernel_rfl) (by kernel_rfl) ?_
          have hrk1 := ln_round hso (k - 1)
          have hrk2 := ln_round hso (k - 2)
          refine sp zmv ?_
          refine sp (r_bool (c := true) zlt (decide_eq_true (by omega))) ?_
          refine sp zmv ?_
          refine sn ?_
          refine sn ?_
          refine sn ?_
          refine sn ?_
          refine sn ?_
          refine sn ?_
          refine sn ?_
          refine sn ?_
          refine sn ?_
          refine sn ?_
          refine sn ?_
          refine sn ?_
          refine sp zpk ?_
          refine sp zmv ?_
          refine sn ?_
          refine sn ?_
          refine sn ?_
          refine sn ?_
          refine sn ?_
          refine sn ?_
          refine sn ?_
          refine sn ?_
          refine sn ?_
          refine sn ?_
          refine sn ?_
          refine sn ?_
          refine sp zpk ?_
          refine gs_nil ?_
          refine gx_then ?_
          refine gc_condT rfl rfl ?_
          refine gsr ?_
          refine gp zmv ?_
          refine gp zln ?_
          refine gp (r_bool (c := true) zei (by rw [ln_unripe hnd (by omega) hun]; simp)) ?_
          refine gp zas ?_
          refine gnt ?_
          refine gc_ret ?_
          refine gx_then_ret ?_
          refine gx_ret1 rfl (by conv => lhs; whnf) ?_
          exact ze ()
        · by_cases hA : (lnB (st2 l) k).round = (lnB (st2 l) (k - 1)).round + 1
          · by_cases hB : (lnB (st2 l) (k - 1)).round = (lnB (st2 l) (k - 2)).round + 1
            · have hrp : ripeOk (st2 l) k := ⟨by omega, hA, hB⟩
              have hrl := ln_ripe hnd (by omega) hrp
              have hS : (lkN (lnI (st2 l) (k - 2)) (lnT (st2 l) k).nodes).isSome = true := by rw [show lkN (lnI (st2 l) (k - 2)) (lnT (st2 l) k).nodes = some _ from ln_lk hnd (by omega)]; rfl
              have hC : (certF (lnI (st2 l) (k - 2)) (lnT (st2 l) k).certs).isSome = true := by rw [show certF (lnI (st2 l) (k - 2)) (lnT (st2 l) k).certs = some _ from certF_at (lnT_ok hnd (by omega)).cn (lnC_at (st2 l) (show k - 2 < k by omega)) rfl]; rfl
              have hTP : TOk (prunedT (lnT (st2 l) k) (lnI (st2 l) (k - 2))) := ln_ptok hnd (by omega) (by omega)
              have hpo : pruneOut (lnT (st2 l) k) (lnI (st2 l) (k - 2)) = _ := ln_pout hnd (by omega) (by omega)
              have hpk : keysT (prunedT (lnT (st2 l) k) (lnI (st2 l) (k - 2))) = _ := ln_pkeys hnd (by omega) (by omega)
              have hph : (highQ (prunedT (lnT (st2 l) k) (lnI (st2 l) (k - 2))).certs).round = (lnB (st2 l) (k - 1)).round := ln_phigh hso hnd (by omega) (by omega)
              refine gc_regionS (by kernel_rfl) (by kernel_rfl) ?_
              have hrk1 := ln_round hso (k - 1)
              have hrk2 := ln_round hso (k - 2)
              refine sp zmv ?_
              refine sp (r_bool (c := false) zlt (decide_eq_false (by omega))) ?_
              refine sp zmv ?_
              refine sq zmv ?_
              refine sq zmv ?_
              refine sq (r_int (j := ((k : Nat) : Int)) zsb (by omega)) ?_
              refine sq (r_val (v' := .pointer (some ⟨g8, o8 + (k), none⟩)) zia (by rw [Int.toNat_natCast, Nat.mul_one])) ?_
              refine sq (zr (i := k) (hv := lnRd_at (st2 l) (by omega))) ?_
              refine sq zmv ?_
              refine sq zmv ?_
              refine sq (r_int (j := ((k - 1 : Nat) : Int)) zsb (by omega)) ?_
              refine sq (r_val (v' := .pointer (some ⟨g8, o8 + (k - 1), none⟩)) zia (by rw [Int.toNat_natCast, Nat.mul_one])) ?_
              refine sq (zr (i := k - 1) (hv := lnRd_at (st2 l) (by omega))) ?_
              refine sq (r_int (j := (lnB (st2 l) (k - 1)).round + 1) zad rfl) ?_
              refine sq (r_bool (c := false) zni (by simp [hA])) ?_
              refine sp zpk ?_
              refine sp zmv ?_
              refine sq zmv ?_
              refine sq zmv ?_
              refine sq (r_int (j := ((k - 1 : Nat) : Int)) zsb (by omega)) ?_
              refine sq (r_val (v' := .pointer (some ⟨g8, o8 + (k - 1), none⟩)) zia (by rw [Int.toNat_natCast, Nat.mul_one])) ?_
              refine sq (zr (i := k - 1) (hv := lnRd_at (st2 l) (by omega))) ?_
              refine sq zmv ?_
              refine sq zmv ?_
              refine sq (r_int (j := ((k - 2 : Nat) : Int)) zsb (by omega)) ?_
              refine sq (r_val (v' := .pointer (some ⟨g8, o8 + (k - 2), none⟩)) zia (by rw [Int.toNat_natCast, Nat.mul_one])) ?_
              refine sq (zr (i := k - 2) (hv := lnRd_at (st2 l) (by omega))) ?_
              refine sq (r_int (j := (lnB (st2 l) (k - 2)).round + 1) zad rfl) ?_
              refine sq (r_bool (c := false) zni (by simp [hB])) ?_
              refine sp zpk ?_
              refine gs_nil ?_
              refine gx_then ?_
              refine gc_condF rfl rfl ?_
              refine gc_skip ?_
              refine gx_then ?_
              refine gc_seq ?_
              refine gsr ?_
              refine gp zmv ?_
              refine gp zmv ?_
              refine gp zmv ?_
              refine gp (r_int (j := ((k - 1 : Nat) : Int)) zsb (by omega)) ?_
              refine gp (r_slice_slice (a := some ⟨g7, o7, none⟩) (m := k + 1) (c := c7) (l := 1) (h := k - 1) rfl Ty.sl_36 Ty.sz_26 ⟨_, rfl⟩ ⟨_, rfl⟩ (by omega) (by omega)) ?_
              refine zc (fun _ => ?_) (c := fun w1 F1 F2 h1 h2 hd hst => same03_ok (l1 := lnR (st2 l) 1 (k - 1)) (l2 := lnR (st2 l) 1 (k - 1)) h1 (digs_of_row (by rw [← hrl]; exact rd_row h2 hd (by repeat (first | exact Pick.here | apply Pick.there)))) (digs_of_row (by rw [← lnD_sub (st2 l) (k := k) (by omega) (by omega)]; exact row_sub (rd_row h2 hd (by repeat (first | exact Pick.here | apply Pick.there))) (by omega) (by omega) (by omega))))
              rw [decide_eq_true rfl]
              refine gp (r_bool (c := false) znt (by simp)) ?_
              refine gnt ?_
              refine gc_condF rfl rfl ?_
              refine gc_skip ?_
              refine gx_then ?_
              refine gsr ?_
              refine gp zmv ?_
              refine gp zmv ?_
              refine gp zmv ?_
              refine gp (r_int (j := ((k - 2 : Nat) : Int)) zsb (by omega)) ?_
              refine gp (r_val (v' := .pointer (some ⟨g7, o7 + (k - 2) * 16, none⟩)) zia (by rw [Int.toNat_natCast])) ?_
              refine gp (r_ldRow (i := k - 2) (g := g7) (o := o7) rfl Ty.row_26 Ty.sz_26 (by repeat (first | exact Pick.here | apply Pick.there)) hd16 (lnD_at (st2 l) (by omega)) (by omega)) ?_
              refine zc ?_ (c := fun w1 F1 F2 h1 h2 hd hst => tprune_ok (d := lnI (st2 l) (k - 2)) (hE.mv hst.still) h1 (lnT_ok hnd (by omega)) hS hC)
              rintro ⟨a142, c142⟩
              refine gp zmv ?_
              refine gp zex ?_
              refine gp zex ?_
              refine gp zas ?_
              refine gp zas ?_
              refine gnt ?_
              refine gc_seq ?_
              refine gc_regionZ 30 ([rowR 3 1 (some ⟨g8, o8, none⟩) (k + 1) c8 ((lnRd (st2 l) k).map (Value.int .i64))]) ?_
              refine yps 0 rfl zmv ?_
              refine yps 1 rfl (r_bool (c := true) (r_eqnil (k := 0) rfl (by kernel_rfl)) rfl) ?_
              refine yps 2 rfl zmv ?_
              refine yps 3 rfl zmv ?_
              refine yps 4 rfl zmv ?_
              refine yps 5 rfl zmv ?_
              refine yps 6 rfl (r_int (j := ((k - 2 : Nat) : Int)) zsb (by omega)) ?_
              refine yps 7 rfl (r_slice_slice (a := some ⟨g7, o7, none⟩) (m := k + 1) (c := c7) (l := 0) (h := k - 2) rfl Ty.sl_36 Ty.sz_26 rfl ⟨_, rfl⟩ (by omega) (by omega)) ?_
              refine yos 8 rfl ?_
              refine zc (fun _ => ?_) (c := fun w1 F1 F2 h1 h2 hd hst => same03_ok (l1 := lnR (st2 l) 0 (k - 2)) (l2 := lnR (st2 l) 0 (k - 2)) h1 (digs_of_row (by rw [← hpo]; exact rd_row h2 hd (by repeat (first | exact Pick.here | apply Pick.there)))) (digs_of_row (by rw [← lnD_sub (st2 l) (k := k) (by omega) (by omega)]; exact row_sub (rd_row h2 hd (by repeat (first | exact Pick.here | apply Pick.there))) (by omega) (by omega) (by omega))))
              rw [decide_eq_true rfl]
              refine yxs ?_
              refine yps 9 rfl zpk ?_
              refine yps 10 rfl zmv ?_
              refine yps 11 rfl zmv ?_
              refine yps 13 rfl zmv ?_
              refine yps 14 rfl zmv ?_
              refine yps 15 rfl (r_int (j := ((k - 2 : Nat) : Int)) zsb (by omega)) ?_
              refine yps 16 rfl (r_slice_slice (a := some ⟨g7, o7, none⟩) (m := k + 1) (c := c7) (l := k - 2) (h := k + 1) rfl Ty.sl_36 Ty.sz_26 ⟨_, rfl⟩ rfl (by omega) (by omega)) ?_
              refine yos 12 rfl ?_
              refine zc ?_ (c := fun w1 F1 F2 h1 h2 hd hst => tids_ok (tr_rd h2 hd (by repeat (first | exact Pick.here | apply Pick.there))) hTP h1)
              rintro ⟨a157, c157⟩
              refine yxs ?_
              refine yos 17 rfl ?_
              refine zc (fun _ => ?_) (c := fun w1 F1 F2 h1 h2 hd hst => same03_ok (l1 := lnR (st2 l) (k - 2) (k + 1)) (l2 := lnR (st2 l) (k - 2) (k + 1)) h1 (digs_of_row (by rw [← hpk]; exact rd_row h2 hd (by repeat (first | exact Pick.here | apply Pick.there)))) (digs_of_row (by rw [← lnD_sub (st2 l) (k := k) (by omega) (by omega)]; exact row_sub (rd_row h2 hd (by repeat (first | exact Pick.here | apply Pick.there))) (by omega) (by omega) (by omega))))
              rw [decide_eq_true rfl]
              refine yxs ?_
              refine yps 18 rfl zpk ?_
              refine yps 19 rfl zmv ?_
              refine yps 20 rfl zmv ?_
              refine yps 23 rfl zmv ?_
              refine yps 24 rfl zmv ?_
              refine yps 25 rfl (r_int (j := ((k - 1 : Nat) : Int)) zsb (by omega)) ?_
              refine yps 26 rfl (r_val (v' := .pointer (some ⟨g8, o8 + (k - 1), none⟩)) zia (by rw [Int.toNat_natCast, Nat.mul_one])) ?_
              refine yps 27 rfl (zr (i := k - 1) (hv := lnRd_at (st2 l) (by omega))) ?_
              refine yos 21 rfl ?_
              refine zc (fun x166 => ?_) (c := fun w1 F1 F2 h1 h2 hd hst => thigh_ok (tr_rd h2 hd (by repeat (first | exact Pick.here | apply Pick.there))) hTP h1)
              refine gl_pureR (fun hx6 => ?_)
              refine gl_fact (fun w' hw => St.vlOfQ hw (by repeat (first | exact Pick.here | apply Pick.there))) (fun hq6 => ?_)
              obtain ⟨wq6, Aq6, qa6, qn6, qc6, rfl, _⟩ := hq6
              refine yxs ?_
              refine yps 22 rfl (r_field1 (k := 1) (v := .int .i64 (highQ (prunedT (lnT (st2 l) k) (lnI (st2 l) (k - 2))).certs).round) rfl (by kernel_rfl) Ty.row_3 rfl) ?_
              refine yps 28 rfl (r_bool (c := true) zei (decide_eq_true hph)) ?_
              refine yps 29 rfl zpk ?_
              refine yzs rfl ?_
              refine gp zas ?_
              refine gnt ?_
              refine gc_ret ?_
              refine gx_ret1 rfl (by conv => lhs; whnf) ?_
              exact ze ()
            · have hun : ¬ ripeOk (st2 l) k := fun h => hB h.2.2
              refine gc_regionS (by kernel_rfl) (by kernel_rfl) ?_
              have hrk1 := ln_round hso (k - 1)
              have hrk2 := ln_round hso (k - 2)
              refine sp zmv ?_
              refine sp (r_bool (c := false) zlt (decide_eq_false (by omega))) ?_
              refine sp zmv ?_
              refine sq zmv ?_
              refine sq zmv ?_
              refine sq (r_int (j := ((k : Nat) : Int)) zsb (by omega)) ?_
              refine sq (r_val (v' := .pointer (some ⟨g8, o8 + (k), none⟩)) zia (by rw [Int.toNat_natCast, Nat.mul_one])) ?_
              refine sq (zr (i := k) (hv := lnRd_at (st2 l) (by omega))) ?_
              refine sq zmv ?_
              refine sq zmv ?_
              refine sq (r_int (j := ((k - 1 : Nat) : Int)) zsb (by omega)) ?_
              refine sq (r_val (v' := .pointer (some ⟨g8, o8 + (k - 1), none⟩)) zia (by rw [Int.toNat_natCast, Nat.mul_one])) ?_
              refine sq (zr (i := k - 1) (hv := lnRd_at (st2 l) (by omega))) ?_
              refine sq (r_int (j := (lnB (st2 l) (k - 1)).round + 1) zad rfl) ?_
              refine sq (r_bool (c := false) zni (by simp [hA])) ?_
              refine sp zpk ?_
              refine sp zmv ?_
              refine sq zmv ?_
              refine sq zmv ?_
              refine sq (r_int (j := ((k - 1 : Nat) : Int)) zsb (by omega)) ?_
              refine sq (r_val (v' := .pointer (some ⟨g8, o8 + (k - 1), none⟩)) zia (by rw [Int.toNat_natCast, Nat.mul_one])) ?_
              refine sq (zr (i := k - 1) (hv := lnRd_at (st2 l) (by omega))) ?_
              refine sq zmv ?_
              refine sq zmv ?_
              refine sq (r_int (j := ((k - 2 : Nat) : Int)) zsb (by omega)) ?_
              refine sq (r_val (v' := .pointer (some ⟨g8, o8 + (k - 2), none⟩)) zia (by rw [Int.toNat_natCast, Nat.mul_one])) ?_
              refine sq (zr (i := k - 2) (hv := lnRd_at (st2 l) (by omega))) ?_
              refine sq (r_int (j := (lnB (st2 l) (k - 2)).round + 1) zad rfl) ?_
              refine sq (r_bool (c := true) zni (by simp [hB])) ?_
              refine sp zpk ?_
              refine gs_nil ?_
              refine gx_then ?_
              refine gc_condT rfl rfl ?_
              refine gsr ?_
              refine gp zmv ?_
              refine gp zln ?_
              refine gp (r_bool (c := true) zei (by rw [ln_unripe hnd (by omega) hun]; simp)) ?_
              refine gp zas ?_
              refine gnt ?_
              refine gc_ret ?_
              refine gx_then_ret ?_
              refine gx_ret1 rfl (by conv => lhs; whnf) ?_
              exact ze ()
          · have hun : ¬ ripeOk (st2 l) k := fun h => hA h.2.1
            refine gc_regionS (by kernel_rfl) (by kernel_rfl) ?_
            have hrk1 := ln_round hso (k - 1)
            have hrk2 := ln_round hso (k - 2)
            refine sp zmv ?_
            refine sp (r_bool (c := false) zlt (decide_eq_false (by omega))) ?_
            refine sp zmv ?_
            refine sq zmv ?_
            refine sq zmv ?_
            refine sq (r_int (j := ((k : Nat) : Int)) zsb (by omega)) ?_
            refine sq (r_val (v' := .pointer (some ⟨g8, o8 + (k), none⟩)) zia (by rw [Int.toNat_natCast, Nat.mul_one])) ?_
            refine sq (zr (i := k) (hv := lnRd_at (st2 l) (by omega))) ?_
            refine sq zmv ?_
            refine sq zmv ?_
            refine sq (r_int (j := ((k - 1 : Nat) : Int)) zsb (by omega)) ?_
            refine sq (r_val (v' := .pointer (some ⟨g8, o8 + (k - 1), none⟩)) zia (by rw [Int.toNat_natCast, Nat.mul_one])) ?_
            refine sq (zr (i := k - 1) (hv := lnRd_at (st2 l) (by omega))) ?_
            refine sq (r_int (j := (lnB (st2 l) (k - 1)).round + 1) zad rfl) ?_
            refine sq (r_bool (c := true) zni (by simp [hA])) ?_
            refine sp zpk ?_
            refine sp zmv ?_
            refine sn ?_
            refine sn ?_
            refine sn ?_
            refine sn ?_
            refine sn ?_
            refine sn ?_
            refine sn ?_
            refine sn ?_
            refine sn ?_
            refine sn ?_
            refine sn ?_
            refine sn ?_
            refine sp zpk ?_
            refine gs_nil ?_
            refine gx_then ?_
            refine gc_condT rfl rfl ?_
            refine gsr ?_
            refine gp zmv ?_
            refine gp zln ?_
            refine gp (r_bool (c := true) zei (by rw [ln_unripe hnd (by omega) hun]; simp)) ?_
            refine gp zas ?_
            refine gnt ?_
            refine gc_ret ?_
            refine gx_then_ret ?_
            refine gx_ret1 rfl (by conv => lhs; whnf) ?_
            exact ze ()

end Go.Proofs.YtheonhgffglegaaDoor

/- BlocksRipe: for every input the law returns true, and the input reads as it did: the row and its card. -/
namespace Go.Proofs.YtheonhgffglegaaDoor
open Go
open Go.ChangeShapes Go.WideShapes Go.ChangeAt Go.RowKit
set_option linter.unusedVariables false

/-- One world that fits: the settled one, the listed variables as their initialisers lay them. -/
noncomputable def blocksRipe_world (os : Os) : World :=
  let w0 := World.holding Tryd.prog os ⟨#[.cells #[.string ⟨#[113, 117, 111, 114, 97, 116, 101, 58, 32, 114, 97, 110, 103, 101]⟩] 158, .cells #[.string ⟨#[113, 117, 111, 114, 97, 116, 101, 58, 32, 102, 111, 114, 109]⟩] 158, .cells #[.string ⟨#[113, 117, 111, 114, 97, 116, 101, 58, 32, 102, 117, 108, 108]⟩] 158, .cells #[.string ⟨#[113, 117, 111, 114, 97, 116, 101, 58, 32, 110, 111, 110, 101]⟩] 158, .cells #[.string ⟨#[113, 117, 111, 114, 97, 116, 101, 58, 32, 112, 114, 111, 111, 102]⟩] 158, .cells #[.string ⟨#[113, 117, 111, 114, 97, 116, 101, 58, 32, 114, 111, 117, 110, 100]⟩] 158, .cells #[.string ⟨#[113, 117, 111, 114, 97, 116, 101, 58, 32, 112, 97, 114, 101, 110, 116]⟩] 158, .cells #[.string ⟨#[113, 117, 111, 114, 97, 116, 101, 58, 32, 116, 119, 105, 99, 101]⟩] 158], #[], []⟩
  { w0 with heap := ((((((((w0.heap.modify 7 fun
      | .cells _ t fz => .cells #[.iface 139 (.pointer (some ⟨lowB + 0, 0, none⟩))] t fz
      | o => o).modify 2 fun
      | .cells _ t fz => .cells #[.iface 139 (.pointer (some ⟨lowB + 1, 0, none⟩))] t fz
      | o => o).modify 6 fun
      | .cells _ t fz => .cells #[.iface 139 (.pointer (some ⟨lowB + 2, 0, none⟩))] t fz
      | o => o).modify 0 fun
      | .cells _ t fz => .cells #[.iface 139 (.pointer (some ⟨lowB + 3, 0, none⟩))] t fz
      | o => o).modify 1 fun
      | .cells _ t fz => .cells #[.iface 139 (.pointer (some ⟨lowB + 4, 0, none⟩))] t fz
      | o => o).modify 5 fun
      | .cells _ t fz => .cells #[.iface 139 (.pointer (some ⟨lowB + 5, 0, none⟩))] t fz
      | o => o).modify 4 fun
      | .cells _ t fz => .cells #[.iface 139 (.pointer (some ⟨lowB + 6, 0, none⟩))] t fz
      | o => o).modify 3 fun
      | .cells _ t fz => .cells #[.iface 139 (.pointer (some ⟨lowB + 7, 0, none⟩))] t fz
      | o => o).modify 8 fun
      | .cells _ t fz => .cells (kc.map W32).toArray t fz
      | o => o }
def blocksRipe_args : Array Value := #[.slice none 0 0]
theorem blocksRipe_laid (os : Os) (args : Array Value) : laidMet Tryd.prog Rows.blocksRipeRow.laid ((blocksRipe_world os).forCall (fun _ _ => 0) ⟨#[], args, []⟩).memory :=
  laidMet_of_run' 8 (by kernel_rfl) (by kernel_rfl)
theorem blocksRipe_reads (os : Os) {H : Type} (enc : TypeId × Value → H) : ∃ places, DataW.whole enc Tryd.prog ((blocksRipe_world os).forCall (fun _ _ => 0) ⟨#[], blocksRipe_args, []⟩).memory Tryd.f3.params.toList Rows.blocksRipeSpec.vars false blocksRipe_args.toList 8 = some ([.nil], [], places) :=
  ⟨[], by kernel_rfl⟩
set_option maxRecDepth 20000 in
theorem blocksRipe_contract (H : Type) (enc : TypeId × Value → H) (W : World) (base : Nat) (args : Array Value) (ds gs : List (DataW H)) (before : List MemPlace)
    (hval : ∀ (j : Nat) t v, Tryd.f3.params[j]? = some t → args[j]? = some v → Value.okWide Tryd.prog W .any base t v)
    (hW : DataW.Whole enc Tryd.prog Tryd.f3.params.toList Rows.blocksRipeSpec.vars false W args.toList ds gs before) (hL : laidMetH Tryd.prog Rows.blocksRipeRow.laid W) :
    Calls Tryd.prog 3 args W fun e W' => ∃ v, e = .returned v ∧ Rows.blocksRipeSpec.post enc Tryd.prog Tryd.f3 false true false false W args v W' := by
  have hW' := hW
  have hlt : ∀ p ∈ before, p.block < W.heap.size := fun p hp => hW.lt p hp
  obtain ⟨p, q, hA0, hV, rfl, hfz, hnd⟩ := hW
  have hA : DataW.TrodAll enc Tryd.prog W 0 (fun _ => true) true Tryd.f3.params.toList args.toList ds p := hA0
  rw [Tryd.params3] at hA hval
  obtain ⟨v0, vs0, d0, ds0, p0, q0, hargs, rfl, rfl, h0, r0⟩ := trodAll_cons hA
  obtain ⟨rfl, rfl, rfl⟩ := trodAll_nil r0
  obtain rfl : args = #[v0] := by cases args; simp_all
  obtain ⟨rfl, rfl⟩ := trodVars_none hV
  obtain ⟨a0, m0, c0, rfl⟩ := okWide_slice (run_sliceT Ty.sl_22) (hval 0 22 v0 rfl rfl)
  obtain ⟨x0, hx0⟩ : ∃ x, RdRowC (Value.int .i64) W TT [.slice a0 m0 c0] x := by obtain ⟨fuel, hf⟩ := h0; exact o_rints fuel _ _ hf
  have hL' : laidMet Tryd.prog Rows.blocksRipeRow.laid W := hL
  obtain ⟨a_1, s_1, c_1, _, _⟩ := laid_err (g := 7) hL' (by kernel_rfl) (by kernel_rfl)
  obtain ⟨a_4, s_4, c_4, _, _⟩ := laid_err (g := 2) hL'.tail (by kernel_rfl) (by kernel_rfl)
  obtain ⟨a_8, s_8, c_8, _, _⟩ := laid_err (g := 6) hL'.tail.tail (by kernel_rfl) (by kernel_rfl)
  obtain ⟨a_9, s_9, c_9, _, _⟩ := laid_err (g := 0) hL'.tail.tail.tail (by kernel_rfl) (by kernel_rfl)
  obtain ⟨a_12, s_12, c_12, _, _⟩ := laid_err (g := 1) hL'.tail.tail.tail.tail (by kernel_rfl) (by kernel_rfl)
  obtain ⟨a_14, s_14, c_14, _, _⟩ := laid_err (g := 5) hL'.tail.tail.tail.tail.tail (by kernel_rfl) (by kernel_rfl)
  obtain ⟨a_16, s_16, c_16, _, _⟩ := laid_err (g := 4) hL'.tail.tail.tail.tail.tail.tail (by kernel_rfl) (by kernel_rfl)
  obtain ⟨a_17, s_17, c_17, _, _⟩ := laid_err (g := 3) hL'.tail.tail.tail.tail.tail.tail.tail (by kernel_rfl) (by kernel_rfl)
  have hK := laid_kr hL'.tail.tail.tail.tail.tail.tail.tail.tail
  have hE : GErr [1, 4, 8, 9, 12, 14, 16, 17] W (fun k => ¬ (fun _ : Nat => False) k) 139 (fun i => if i = 1 then a_1 else if i = 4 then a_4 else if i = 8 then a_8 else if i = 9 then a_9 else if i = 12 then a_12 else if i = 14 then a_14 else if i = 16 then a_16 else a_17) := by
    refine ⟨fun i hi => ?_, fun i _ => id⟩
    simp only [List.mem_cons, List.not_mem_nil, or_false] at hi
    rcases hi with rfl | rfl | rfl | rfl | rfl | rfl | rfl | rfl
    · unfold eV; exact c_1
    · unfold eV; exact c_4
    · unfold eV; exact c_8
    · unfold eV; exact c_9
    · unfold eV; exact c_12
    · unfold eV; exact c_14
    · unfold eV; exact c_16
    · unfold eV; exact c_17
  have walk := blocksRipe_ok (c := c0) no_res hE hK (hx0.row.mv still_id)
  refine Calls.mono (show Calls Tryd.prog 3 #[.slice a0 m0 c0] W _ from walk) fun e W' ⟨_, he, hs⟩ => ?_
  subst he
  have bel := below_of hs
  have eF : Rows.blocksRipeSpec.fn H ([d0] ++ []) = { results := [.lit (.bool true)], args := [d0] } := rfl
  have l0 : ∀ z ∈ p0, z.block < W.heap.size := fun z hz => hlt z (by simp [hz])
  refine ⟨_, rfl, _, _, _, [], p0 ++ ([]), [], hW', ?_, ?_, ?_, bel.frame _, fun h => by cases h⟩
  · rw [eF]; exact trodAll_cons_mk (shut_bool Tryd.underlying4 _) trodAll_mk0
  · rw [eF, Tryd.params3]
    exact trodAll_cons_mk (Below.trod laidOut (by kernel_rfl) (of_decide_eq_true (by kernel_rfl)) h0 bel l0) (trodAll_mk0)
  · rw [eF]; rfl

set_option maxRecDepth 100000 in
theorem blocksRipe_lifted (os : Os) (started : os.Started) (H : Type) (enc : TypeId × Value → H) (F : Stop.Interp) :
    ReturnsInHanded {} Tryd.checked os 3 .any ((OpenSpec.ofChange Rows.blocksRipeSpec).preRow enc Tryd.prog Tryd.f3 Rows.blocksRipeRow.domain false Rows.blocksRipeRow.laid) (((OpenSpec.ofChange Rows.blocksRipeSpec).at F).post enc Tryd.prog Tryd.f3 false true false false) := by
  obtain ⟨places, hx⟩ := blocksRipe_reads os enc
  refine returnsInHanded_of_row (C := Tryd.checked) (s := OpenSpec.ofChange Rows.blocksRipeSpec) own started (by kernel_rfl) Tryd.func3
    (witness_row_atRef (enc := enc) (C := Tryd.checked) false (blocksRipe_world os) blocksRipe_args rfl (by kernel_rfl) (by kernel_rfl) (by kernel_rfl)
      (OpenSpec.preRow_of_cond 8 hx (by kernel_rfl) (fun k hk => by cases hk) (by kernel_rfl) (blocksRipe_laid os _))) ?_
  intro W base args ds gs before hval hW _ _ _ hL _ _
  exact blocksRipe_contract H enc W base args ds gs before hval hW hL

theorem blocksRipe_said : Rows.BlocksRipeSaid :=
  OpenClaim.holds_of_cond 3 Tryd.f3 rfl rfl rfl rfl rfl rfl rfl ⟨rfl, rfl, rfl, rfl, rfl⟩ rfl rfl rfl rfl rfl (by kernel_rfl) Tryd.func3 (by kernel_rfl)
    (of_decide_eq_true (by kernel_rfl)) (by unfold Func.isWrapper; first | (rw [if_pos (by decide +kernel)]; kernel_rfl) | (rw [if_neg (by decide +kernel)]; exact ⟨rfl, rfl⟩))
    (fun os started H enc _ F => by rw [OpenClaim.pre_eq_preRow]; exact blocksRipe_lifted os started H enc F)
theorem blocksRipe_plain (f : FuncId) (fn : Func) (hf : Tryd.pinned.checked.prog.funcNamed "quorate/quoratelaw15.BlocksRipe" = some f) (hfn : Tryd.pinned.checked.prog.funcs[f]? = some fn) :
    false = Tryd.pinned.checked.prog.looks [] ∧ ∀ (j : Nat) t, fn.params[j]? = some t → Tryd.pinned.checked.prog.wantsStandIn t = false := by
  obtain rfl : f = 3 := Option.some.inj ((show Tryd.prog.funcNamed "quorate/quoratelaw15.BlocksRipe" = some 3 by kernel_rfl).symm.trans hf) |>.symm
  obtain rfl : fn = Tryd.f3 := (Option.some.inj (Tryd.func3.symm.trans hfn)).symm
  refine ⟨by kernel_rfl, fun j t ht => ?_⟩
  rw [Tryd.params3] at ht
  have hm := Array.mem_of_getElem? ht
  have h : t = 22 := by simpa using hm
  subst h
  exact (show Tryd.prog.wantsStandIn 22 = false by kernel_rfl)
theorem blocksRipe_holds : Rows.BlocksRipeCardSaid :=
  Claim7.holds_tied_plain_at .later [] _ _ _ _ blocksRipe_said (fun _ h => by cases h) (by kernel_rfl) (fun _ h => by cases h) blocksRipe_row_tie rfl ⟨rfl, rfl⟩ (by kernel_rfl) rfl blocksRipe_plain (by kernel_rfl)
#print axioms blocksRipe_holds
end Go.Proofs.YtheonhgffglegaaDoor

