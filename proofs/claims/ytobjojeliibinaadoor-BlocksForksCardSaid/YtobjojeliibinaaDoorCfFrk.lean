/- Part 5. What is proved: see the last part: for every input the law returns true, and the input reads as it did. -/
import Derived.Test.YtobjojeliibinaaDoorCf4
import Derived.Test.YtobjojeliibinaaDoorCards
import Derived.Test.YtobjojeliibinaaDoorTie
import Derived.Deep.DeepHandedRow
import Derived.Deep.DeepWitnessRowRef
/- Walks, by program (wg.py) out of a spec. -/
namespace Go.Proofs.YtobjojeliibinaaDoor
open Go
set_option linter.unusedVariables false
set_option linter.unusedSimpArgs false


theorem tx_eq (tx : UInt8) : Value.int .u8 (IntKind.u8.wrap ((tx.toNat : Nat) : Int)) = B8 tx := (txN_eq tx.toNat).trans (by simp [txN]; have := tx.toNat_lt; omega)
def upI (id : Nat → Dig) (k : Nat) : List Dig := (List.range k).map fun i => id (i + 1)
theorem upI_succ (id : Nat → Dig) (k : Nat) : ((upI id (k + 1)).map dc).flatten = ((upI id k).map dc).flatten ++ dc (id (k + 1)) := by simp [upI, List.range_succ]
/-- A branch: its blocks, their ids, the trees. -/
structure Brn (tx : UInt8) (bl : Nat → Block) (id : Nat → Dig) (T : Nat → Tr) : Prop where
  b0 : bl 0 = g0
  i0 : id 0 = gid
  bs : ∀ k, bl (k + 1) = chB (bl k) (id k) 1 tx
  rd : ∀ k, (bl k).round = (k : Int)
  er : ∀ k, k ≤ 5 → (wBlock (bl k) ⟨0, []⟩).err = 0
  ii : ∀ k, k ≤ 5 → idOf (bl k) = id k
  ok : ∀ k, k ≤ 5 → TOk (T k)
  ad : ∀ k, k < 5 → addE (T k) (bl (k + 1)) 0 (id (k + 1)) = (0, id (k + 1), T (k + 1))

attribute [local irreducible] Gl Gc Gx Gs Runs Wt

attribute [local irreducible] dc qcC blkC idOf TreeR gid fkT genC

set_option maxHeartbeats 400000 in
theorem grow_ok {w : World} {F : Nat → Prop} {m b5 b6 b7 q : Nat} {tx : UInt8} {bl : Nat → Block} {id : Nat → Dig} {T : Nat → Tr} (h : stars [blk b6 33 genC, blk b7 26 (dc gid), blk b5 24 [.pointer (some ⟨q, 0, none⟩)], TreeR q (T 0)] w F) {ea : Nat → Addr} {es : List Nat} [Has es 1] [Has es 4] [Has es 8] [Has es 9] [Has es 12] [Has es 14] [Has es 16] [Has es 17] (hE : GErr es w (fun k => ¬ F k) 146 ea) (hK : KR w (fun k => ¬ F k)) (hm : m ≤ 5) (hB : Brn tx bl id T) :
    Calls Tryd.prog 16 #[.int .i64 (m : Int), .int .i64 ((tx.toNat : Nat) : Int), .pointer (some ⟨b6, 0, none⟩), .pointer (some ⟨b7, 0, none⟩), .pointer (some ⟨b5, 0, none⟩)] w (Post w F (fun r : Option Addr × Nat => .slice r.1 m r.2) (fun r => [blk b6 33 genC, blk b7 26 (dc gid), blk b5 24 [.pointer (some ⟨q, 0, none⟩)], TreeR q (T m), rowR 26 16 r.1 m r.2 ((upI id m).map dc).flatten])) := by
  have igen := Len.of genC_len
  have jgen := One.of (rdGen (w := w) (A := fun _ => True)).one
  refine g_enter (env := [(0, .int .i64 (m : Int)), (1, .int .i64 ((tx.toNat : Nat) : Int)), (2, .pointer (some ⟨b6, 0, none⟩)), (3, .pointer (some ⟨b7, 0, none⟩)), (4, .pointer (some ⟨b5, 0, none⟩))]) Tryd.func16 rfl h Tryd.ntmps16 rfl rfl ?_
  refine gsr ?_
  refine gp zas ?_
  refine gnt ?_
  refine gc_seq ?_
  refine gc_regionZ 5 ([blk b6 33 genC, blk b7 26 (dc gid)]) ?_
  refine yps 0 rfl (zLa (cs := genC)) ?_
  refine yps 1 rfl zL ?_
  refine yas2 2 3 rfl rfl (fun b8 b9 => ?_)
  refine yos 4 rfl ?_
  refine zsA genC_len One.h ?_
  refine yxs ?_
  refine yzs rfl ?_
  refine zsA (dc_length _) (dc_one _) ?_
  refine gnt ?_
  refine gsr ?_
  refine ze0 fun b13 => ?_
  refine gp zas ?_
  refine gnt ?_
  refine gc_seq ?_
  refine gsr ?_
  refine gp zmv ?_
  refine gp zmv ?_
  refine gnt ?_
  refine gc_block ?_
  refine gc_loop (α := Nat × (Option Addr × Nat) × List Value) (fun y => [pureR (y.1 ≤ m ∧ (y.2.2.length = 39 ∧ ∀ v ∈ y.2.2, v.oneCell' = true) ∧ ∃ w A, RdBlock w A y.2.2 (bl y.1)), TreeR q (T y.1), blk b8 33 y.2.2, blk b9 26 (dc (id y.1)), rowR 26 16 y.2.1.1 y.1 y.2.1.2 ((upI id y.1).map dc).flatten, blk b6 33 genC, blk b7 26 (dc gid), blk b5 24 [.pointer (some ⟨q, 0, none⟩)]]) (fun y => [(15, .int .i64 (y.1 : Int)), (10, .slice y.2.1.1 y.1 y.2.1.2)]) [16, 17, 18, 19, 20, 21, 22, 23, 24, 25, 26, 27, 28, 29, 30, 31, 32] (fun y => m - y.1) (0, (some ⟨b13, 0, none⟩, 0), genC) ?_ ?_ ?_
  · refine env_start (by kernel_rfl)
  · intro w' hw
    refine St.pureI (p := 0 ≤ m ∧ (genC.length = 39 ∧ ∀ v ∈ genC, v.oneCell' = true) ∧ ∃ w A, RdBlock w A genC (bl 0)) ⟨Nat.zero_le _, ⟨genC_len, One.h⟩, w, fun _ => True, by rw [hB.b0]; exact rdGen⟩ ?_
    show St w F [TreeR q (T 0), blk b8 33 genC, blk b9 26 (dc (id 0)), rowR 26 16 (some ⟨b13, 0, none⟩) 0 0 [], blk b6 33 genC, blk b7 26 (dc gid), blk b5 24 [.pointer (some ⟨q, 0, none⟩)]] w'
    rw [hB.i0]
    exact hw.sel (by repeat (first | exact Sel.nil | (apply Sel.cons; · (repeat (first | exact Pick.here | apply Pick.there)))))
  · intro y u
    obtain ⟨k, ⟨a10, c10⟩, cs⟩ := y
    refine gc_pureR (fun hk => ?_)
    obtain ⟨hk, ⟨hlc, hoc⟩, wq, Aq, hrd⟩ := hk
    replace hk : k ≤ m := hk
    replace hlc : cs.length = 39 := hlc
    replace hrd : RdBlock wq Aq cs (bl k) := hrd
    have ic := Len.of hlc
    have jc := One.of (show ∀ v ∈ cs, v.oneCell' = true from hoc)
    have hrn := hB.rd k
    refine gsr ?_
    refine gp zlt ?_
    refine gnt ?_
    refine gc_seq ?_
    refine gif rfl (fun hc16 => ?_) (fun hc16 => ?_)
    · try simp only at hc16
      have hk' : k < m := by omega
      refine gc_skip ?_
      refine gx_then ?_
      refine gc_seq ?_
      refine gc_block ?_
      refine gsr ?_
      refine gp (zLa (cs := cs)) ?_
      refine gp zL ?_
      refine gp zmv ?_
      refine gp (r_val (v' := B8 tx) zci (tx_eq tx)) ?_
      refine zc ?_ (c := fun w1 F1 F2 h1 h2 hd hst => child15_ok (b := bl k) (id := id k) (on := 1) (tx := tx) h1 hrd (by omega) (by decide))
      rintro ⟨b23, b24⟩
      have ich := Len.of (chC_len (bl k) (id k) 1 b24)
      have jch := One.of (chC_one (bl k) (id k) 1 b24)
      refine gl_conv (M := [rowR 54 1 (some ⟨b24, 0, none⟩) 1 1 [.slice (some ⟨b23, 0, none⟩) 1 1], rowR 5 1 (some ⟨b23, 0, none⟩) 1 1 [B8 tx]]) (N := [VlR RdBlock (chC (bl k) (id k) 1 b24) (bl (k + 1))]) (by repeat (first | exact Sel.nil | (apply Sel.cons; · (repeat (first | exact Pick.here | apply Pick.there))))) (fun _ _ h => by rw [hB.bs k]; exact vl_chC h) ?_
      refine zsA (chC_len _ _ _ _) (chC_one _ _ _ _) ?_
      refine gnt ?_
      refine gsr ?_
      refine gp zl ?_
      refine gp (zLa (cs := (chC (bl k) (id k) 1 b24))) ?_
      refine zc (fun _ => ?_) (c := fun w1 F1 F2 h1 h2 hd hst => tadd_eq (b := bl (k + 1)) (hE.mv hst.still) (hK.mv hst.still) h1 (hB.ok k (by omega)) (vl_rd h2 hd (by repeat (first | exact Pick.here | apply Pick.there))) (by rw [hB.bs k]; exact smB_ch) (hB.er (k + 1) (by omega)) (hB.ii (k + 1) (by omega)) (hB.ad k (by omega)))
      refine gp zmv ?_
      refine gp zex ?_
      refine gp zex ?_
      refine zsN ?_
      refine gnt ?_
      refine gc_region ?_
      refine gp zmv ?_
      refine gp zL ?_
      refine zeN fun b30 => ?_
      refine zapo (fun a31 c31 => ?_)
      refine gp zas ?_
      refine gl_nil ?_
      refine gx_block_normal ?_
      refine gx_then ?_
      refine gc_region ?_
      refine gp zad ?_
      refine gp zmv ?_
      refine gl_nil ?_
      refine zrd ((k + 1, (a31, c31), (chC (bl k) (id k) 1 b24))) ?_ ?_
      · show m - (k + 1) < m - k
        omega
      · intro w' hw
        obtain ⟨wv, Av, hvr⟩ := St.vlOfB (cs := (chC (bl k) (id k) 1 b24)) (x := bl (k + 1)) hw (by repeat (first | exact Pick.here | apply Pick.there))
        refine St.pureI (p := k + 1 ≤ m ∧ _ ∧ _) ⟨by omega, ⟨chC_len _ _ _ _, chC_one _ _ _ _⟩, wv, Av, hvr⟩ ?_
        show St w F [TreeR q (T (k + 1)), blk b8 33 (chC (bl k) (id k) 1 b24), blk b9 26 (dc (id (k + 1))), rowR 26 16 a31 (k + 1) c31 ((upI id (k + 1)).map dc).flatten, blk b6 33 genC, blk b7 26 (dc gid), blk b5 24 [.pointer (some ⟨q, 0, none⟩)]] w'
        rw [upI_succ]
        exact hw.sel (by repeat (first | exact Sel.nil | (apply Sel.cons; · (repeat (first | exact Pick.here | apply Pick.there)))))
    · try simp only at hc16
      obtain rfl : k = m := by omega
      refine gc_exit ?_
      refine gx_then_exit ?_
      refine gx_round_exit ?_
      refine gx_block_hit ?_
      refine gx_then ?_
      refine gsr ?_
      refine gp zmv ?_
      refine gp zas ?_
      refine gnt ?_
      refine gc_ret ?_
      refine gx_ret1 rfl (by conv => lhs; whnf) ?_
      exact ze (a10, c10)

end Go.Proofs.YtobjojeliibinaaDoor

/- Walks, by program (wg.py) out of a spec. -/
namespace Go.Proofs.YtobjojeliibinaaDoor
open Go
set_option linter.unusedVariables false
set_option linter.unusedSimpArgs false


def tA (k : Nat) : Tr := fkT k 0
def tB (m k : Nat) : Tr := fkT m k
theorem fkT_okB {m : Nat} (hm : 1 ≤ m) (hm5 : m ≤ 5) : ∀ {n : Nat}, n ≤ 5 → TOk (fkT m n)
  | 0, _ => fkT_ok hm5
  | n + 1, h => by
    have h1 := addE_ok (fkT_okB hm hm5 (n := n) (by omega)) (b := blB (n + 1)) (err := 0) (id := idB (n + 1)) smB_ch
    rw [fkB hm hm5 (by omega)] at h1; exact h1
theorem brA : Brn 1 blA idA tA := ⟨rfl, rfl, fun _ => rfl, blA_round, fun _ h => blA_err h, fun _ h => blA_id h, fun _ h => fkT_ok h, fun _ h => fkA h⟩
theorem brB {m : Nat} (hm : 1 ≤ m) (hm5 : m ≤ 5) : Brn 2 blB idB (tB m) := ⟨rfl, rfl, fun _ => rfl, blB_round, fun _ h => blB_err h, fun _ h => blB_id h, fun _ h => fkT_okB hm hm5 h, fun _ h => fkB hm hm5 h⟩
def lf5 (x : Int) : Nat := 1 + ((IntKind.u64.wrap x).tmod 5).toNat
theorem lf5_eq (x : Int) : (IntKind.u64.wrap x).tmod 5 = ((lf5 x - 1 : Nat) : Int) ∧ 1 ≤ lf5 x ∧ lf5 x ≤ 5 := by
  have := u64_rem x (m := 5) (by decide)
  unfold lf5
  refine ⟨by rw [Nat.add_sub_cancel_left]; exact this.1, by omega, by have h2 : ((IntKind.u64.wrap x).tmod 5).toNat < 5 := this.2; omega⟩
theorem upI_len (id : Nat → Dig) (m : Nat) : (upI id m).length = m := by simp [upI]
theorem fk_facts {m n : Nat} (hm : 1 ≤ m ∧ m ≤ 5) (hn : 1 ≤ n ∧ n ≤ 5) : belowL (fkT m n) (idA 1) = (upI idA m).tail ∧ keysT (prunedT (fkT m n) (idA 1)) = upI idA m ∧ (pruneOut (fkT m n) (idA 1)).length = 1 + n ∧ (keysT (fkT m n)).length = 1 + m + n ∧ (certF (idA 1) (fkT m n).certs).isSome = decide (2 ≤ m) ∧ (lkN (idA 1) (fkT m n).nodes).isSome = true := by
  have h := fkQ hm hn
  simp only [fkAsk, Bool.and_eq_true, decide_eq_true_eq] at h
  exact ⟨h.1.1.1.1.1, h.1.1.1.1.2, h.1.1.1.2, h.1.1.2, h.1.2, h.2⟩
def parB (l : List (Dig × Block)) : Bool := (List.range l.length).all fun i => match l[i + 1]? with
  | none => true
  | some x => (List.range (i + 1)).any fun j => match l[j]? with
    | some y => decide (y.1 = x.2.parent)
    | none => false
theorem parB_ok {l : List (Dig × Block)} (h : parB l = true) : ∀ (i : Nat) (d : Dig) (b : Block), l[i + 1]? = some (d, b) → ∃ (j : Nat) (p : Block), j ≤ i ∧ l[j]? = some (b.parent, p) := fun i d b hi => by
  have hlt := (List.getElem?_eq_some_iff.1 hi).1
  have h1 := List.all_eq_true.1 h i (List.mem_range.2 (by omega))
  rw [hi] at h1
  obtain ⟨j, hj, h2⟩ := List.any_eq_true.1 h1
  split at h2
  · rename_i y hy
    have he : y.1 = b.parent := of_decide_eq_true h2
    exact ⟨j, y.2, by have := List.mem_range.1 hj; omega, by rw [hy, ← he]⟩
  · cases h2
theorem lkN_in {d : Dig} {b : Block} : ∀ {l : List (Dig × Block)}, lkN d l = some b → (d, b) ∈ l
  | p :: l, h => by
    unfold lkN at h
    split at h
    · rename_i he; cases h; obtain ⟨x, y⟩ := p; simp at he; subst he; exact List.mem_cons_self
    · exact List.mem_cons_of_mem _ (lkN_in h)
theorem lkN_of {d : Dig} {b : Block} : ∀ {l : List (Dig × Block)}, (l.map (fun p => p.1)).Nodup → (d, b) ∈ l → lkN d l = some b
  | p :: l, hn, h => by
    unfold lkN
    simp only [List.map_cons, List.nodup_cons] at hn
    rcases List.mem_cons.1 h with h | h
    · subst h; simp
    · rw [if_neg]
      · exact lkN_of hn.2 h
      · intro he; exact hn.1 (List.mem_map.2 ⟨_, h, by simp [he]⟩)
theorem pruned_ok {t : Tr} (h : TOk t) {d : Dig} (hh : ((prunedT t d).nodes.head?.map (fun p => p.1)) = some d) (hp : parB (prunedT t d).nodes = true) (hc : 0 < (prunedT t d).certs.length) : TOk (prunedT t d) where
  nd := by rw [show keysT (prunedT t d) = (keysT t).filter (fun e => decide (e ∈ staysL t d)) from keys_filter t (staysL t d)]; exact h.nd.filter _
  hd := by
    cases hn : (prunedT t d).nodes with
    | nil => rw [hn] at hh; cases hh
    | cons p r => rw [hn] at hh; obtain ⟨x, y⟩ := p; simp at hh; subst hh; exact ⟨y, r, rfl⟩
  par := parB_ok hp
  le := Nat.le_trans (List.length_filter_le _ _) h.le
  ce := hc
  cn := (List.filter_sublist.map _).nodup h.cn
  ck := fun q hq => by
    have h1 := List.mem_filter.1 hq
    rw [show keysT (prunedT t d) = (keysT t).filter (fun e => decide (e ∈ staysL t d)) from keys_filter t (staysL t d)]
    exact List.mem_filter.2 ⟨h.ck q h1.1, h1.2⟩
  sb := fun e b he => h.sb e b (lkN_of h.nd (List.mem_filter.1 (lkN_in he)).1)
  sq := fun q hq => h.sq q (List.mem_filter.1 hq).1
def fkP (m n : Nat) : Bool := decide (((prunedT (fkT m n) (idA 1)).nodes.head?.map (fun p => p.1)) = some (idA 1)) && parB (prunedT (fkT m n) (idA 1)).nodes && decide (0 < (prunedT (fkT m n) (idA 1)).certs.length)
theorem fkP_2 : ((List.range 5).all fun n => fkP 2 (n + 1)) = true := by kernel_rfl
theorem fkP_3 : ((List.range 5).all fun n => fkP 3 (n + 1)) = true := by kernel_rfl
theorem fkP_4 : ((List.range 5).all fun n => fkP 4 (n + 1)) = true := by kernel_rfl
theorem fkP_5 : ((List.range 5).all fun n => fkP 5 (n + 1)) = true := by kernel_rfl
theorem fk_ptok {m n : Nat} (hm : 2 ≤ m ∧ m ≤ 5) (hn : 1 ≤ n ∧ n ≤ 5) : TOk (prunedT (fkT m n) (idA 1)) := by
  have h : ((List.range 5).all fun n => fkP m (n + 1)) = true := by
    obtain ⟨h1, h2⟩ := hm
    match m, h1, h2 with
    | 2, _, _ => exact fkP_2
    | 3, _, _ => exact fkP_3
    | 4, _, _ => exact fkP_4
    | 5, _, _ => exact fkP_5
  have h := List.all_eq_true.1 h (n - 1) (List.mem_range.2 (by omega))
  rw [show n - 1 + 1 = n by omega] at h
  simp only [fkP, Bool.and_eq_true, decide_eq_true_eq] at h
  exact pruned_ok (fkT_okB (by omega) hm.2 hn.2) h.1.1 h.1.2 h.2
theorem up_at0 {id : Nat → Dig} {m : Nat} (h : 1 ≤ m) : ((upI id m).map dc)[0]? = some (dc (id 1)) := by
  simp [upI, show 0 < m by omega]
theorem take_row {l : List Dig} {i : Nat} {y : Dig} (h : l[i]? = some y) : ((l.take (i + 1)).map dc).flatten = ((l.take i).map dc).flatten ++ dc y := by rw [takeB_snoc h]; simp
theorem tail_len (id : Nat → Dig) (m : Nat) : (upI id m).tail.length = m - 1 := by rw [List.length_tail, upI_len]
theorem row_tail {w : World} {A : Nat → Prop} {gl ol m c : Nat} {id : Nat → Dig} (h : RdRow w A 16 (some ⟨gl, ol, none⟩) m ((upI id m).map dc).flatten) (hm : 1 ≤ m) (hc : m ≤ c) : RdRow w A 16 (if c = 1 then some ⟨gl, ol, none⟩ else (some (⟨gl, ol, none⟩ : Addr)).map (·.add (1 * 16))) (m - 1) ((upI id m).tail.map dc).flatten := by
  obtain ⟨h1, h2, h3⟩ := h
  have hl : ((upI id m).tail.map dc).flatten.length = (m - 1) * 16 := by
    rw [flatten_len (size := 16) (fun c hc => by obtain ⟨x, _, rfl⟩ := List.mem_map.1 hc; exact dc_length x), List.length_map, tail_len]
  refine ⟨hl, by omega, fun hn => ?_⟩
  obtain ⟨g, o, ha, hA, hlt, hr⟩ := h3 (by omega)
  cases ha
  rw [if_neg (by omega)]
  refine ⟨gl, ol + 16, by simp [Addr.add_mid], hA, hlt, fun j v hj => ?_⟩
  have e : ((upI id m).map dc).flatten = dc (id 1) ++ ((upI id m).tail.map dc).flatten := by
    have : upI id m = id 1 :: (upI id m).tail := by
      obtain ⟨k, rfl⟩ : ∃ k, m = k + 1 := ⟨m - 1, by omega⟩
      simp [upI, List.range_succ_eq_map]
    conv => lhs; rw [this]
    simp
  have := hr (16 + j) v (by rw [e, List.getElem?_append_right (by rw [dc_length]; omega), dc_length, Nat.add_sub_cancel_left]; exact hj)
  rw [← Nat.add_assoc] at this
  exact this
theorem up_16 (id : Nat → Dig) (m : Nat) : ∀ c ∈ (upI id m).map dc, List.length c = 16 := fun c hc => by obtain ⟨x, _, rfl⟩ := List.mem_map.1 hc; exact dc_length x

end Go.Proofs.YtobjojeliibinaaDoor

/- Walks, by program (wg.py) out of a spec. -/
namespace Go.Proofs.YtobjojeliibinaaDoor
open Go
set_option linter.unusedVariables false
set_option linter.unusedSimpArgs false

attribute [local irreducible] Gl Gc Gx Gs Runs Wt

attribute [local irreducible] dc qcC blkC idOf TreeR gid fkT genC upI

set_option maxHeartbeats 400000 in
theorem blocksForks_ok {w : World} {F : Nat → Prop} {lft rgt : Int} (h : stars [] w F) {ea : Nat → Addr} {es : List Nat} [Has es 1] [Has es 4] [Has es 8] [Has es 9] [Has es 12] [Has es 14] [Has es 16] [Has es 17] (hE : GErr es w (fun k => ¬ F k) 146 ea) (hK : KR w (fun k => ¬ F k))  :
    Calls Tryd.prog 5 #[.int .i64 lft, .int .i64 rgt] w (Post w F (fun _ : Unit => .bool true) (fun _ => [])) := by
  obtain ⟨hl1, hl2, hl3⟩ := lf5_eq lft
  obtain ⟨hr1, hr2, hr3⟩ := lf5_eq rgt
  obtain ⟨hbe, hke, hou, hle, hce, hlk⟩ := fk_facts ⟨hl2, hl3⟩ ⟨hr2, hr3⟩
  have hTB : TOk (fkT (lf5 lft) (lf5 rgt)) := fkT_okB hl2 hl3 hr3
  refine g_enterM (env := [(0, .int .i64 lft), (1, .int .i64 rgt)]) Tryd.func5 rfl h Tryd.ntmps5 rfl rfl ?_
  refine gsr ?_
  refine gp zas ?_
  refine gnt ?_
  refine gc_seq ?_
  refine gsr ?_
  refine zc (fun _ => ?_) (c := fun w1 F1 F2 h1 h2 hd hst => alive15_ok h1 (hE.mv hst.still) (hK.mv hst.still))
  refine gp znt ?_
  refine gnt ?_
  refine gc_condF rfl rfl ?_
  refine gc_skip ?_
  refine gx_then ?_
  refine gsr ?_
  refine gp zmv ?_
  refine gp zci ?_
  refine gp (r_int (j := ((lf5 lft - 1 : Nat) : Int)) zrm hl1) ?_
  refine gp (r_int (j := ((lf5 lft - 1 : Nat) : Int)) zci (wrap_i64 (by omega) (by omega))) ?_
  refine gp (r_int (j := ((lf5 lft : Nat) : Int)) zad (by omega)) ?_
  refine gp zmv ?_
  refine gp zci ?_
  refine gp (r_int (j := ((lf5 rgt - 1 : Nat) : Int)) zrm hr1) ?_
  refine gp (r_int (j := ((lf5 rgt - 1 : Nat) : Int)) zci (wrap_i64 (by omega) (by omega))) ?_
  refine gp (r_int (j := ((lf5 rgt : Nat) : Int)) zad (by omega)) ?_
  refine gp zas ?_
  refine gp zas ?_
  refine gnt ?_
  refine gsr ?_
  refine zc (fun q => ?_) (c := fun w1 F1 F2 h1 h2 hd hst => genesis15_ok h1 (hE.mv hst.still) (hK.mv hst.still))
  have igen := Len.of genC_len
  have jgen := One.of (rdGen (w := w) (A := fun _ => True)).one
  refine gp zmv ?_
  refine gp zex ?_
  refine gp zex ?_
  refine gp zex ?_
  refine gp zex ?_
  refine zal fun b5 => ?_
  refine zal fun b6 => ?_
  refine gl_eqc (cs' := blkC) (by repeat (first | exact Pick.here | apply Pick.there)) (by kernel_rfl) ?_
  refine zal fun b7 => ?_
  refine zs1 ?_
  refine zsA genC_len One.h ?_
  refine zsN ?_
  refine gp zas ?_
  refine gnt ?_
  refine gc_seq ?_
  refine gsr ?_
  refine gp zmv ?_
  refine gp (r_bool (c := false) znt rfl) ?_
  refine gnt ?_
  refine gc_condF rfl rfl ?_
  refine gc_skip ?_
  refine gx_then ?_
  refine gsr ?_
  refine gp zmf ?_
  refine gp zas ?_
  refine gnt ?_
  refine gc_seq ?_
  refine gc_conv (M := [TreeR q (fkT 0 0)]) (N := [TreeR q (tA 0)]) (by repeat (first | exact Sel.nil | (apply Sel.cons; · (repeat (first | exact Pick.here | apply Pick.there))))) (fun _ _ h => h) ?_
  refine gc_region ?_
  refine gp zmv ?_
  refine gp zmv ?_
  refine gl_call (wt0 rfl) (e_callv (us := [.pointer (some ⟨b6, 0, none⟩), .pointer (some ⟨b7, 0, none⟩), .pointer (some ⟨b5, 0, none⟩)]) rfl Ty.call_16 rfl) (by repeat (first | exact Sel.nil | (apply Sel.cons; · (repeat (first | exact Pick.here | apply Pick.there))))) (fun w1 F1 F2 h1 h2 hd hst => grow_ok (m := lf5 lft) (b5 := b5) (b6 := b6) (b7 := b7) (q := q) (tx := 1) (bl := blA) (id := idA) (T := tA) h1 (hE.mv hst.still) (hK.mv hst.still) (by omega) brA) ?_
  rintro ⟨a41, c41⟩
  refine gl_conv (M := [TreeR q (tA (lf5 lft))]) (N := [TreeR q (tB (lf5 lft) 0)]) (by repeat (first | exact Sel.nil | (apply Sel.cons; · (repeat (first | exact Pick.here | apply Pick.there))))) (fun _ _ h => h) ?_
  refine gp zmv ?_
  refine gp zmv ?_
  refine gl_call (wt0 rfl) (e_callv (us := [.pointer (some ⟨b6, 0, none⟩), .pointer (some ⟨b7, 0, none⟩), .pointer (some ⟨b5, 0, none⟩)]) rfl Ty.call_16 rfl) (by repeat (first | exact Sel.nil | (apply Sel.cons; · (repeat (first | exact Pick.here | apply Pick.there))))) (fun w1 F1 F2 h1 h2 hd hst => grow_ok (m := lf5 rgt) (b5 := b5) (b6 := b6) (b7 := b7) (q := q) (tx := 2) (bl := blB) (id := idB) (T := (tB (lf5 lft))) h1 (hE.mv hst.still) (hK.mv hst.still) (by omega) (brB hl2 hl3)) ?_
  rintro ⟨a44, c44⟩
  refine gl_conv (M := [TreeR q (tB (lf5 lft) (lf5 rgt))]) (N := [TreeR q (fkT (lf5 lft) (lf5 rgt))]) (by repeat (first | exact Sel.nil | (apply Sel.cons; · (repeat (first | exact Pick.here | apply Pick.there))))) (fun _ _ h => h) ?_
  refine gp zas ?_
  refine gp zas ?_
  refine gnt ?_
  refine gc_seq ?_
  refine gsr ?_
  refine gp zl ?_
  refine zc ?_ (c := fun w1 F1 F2 h1 h2 hd hst => tids_ok (tr_rd h2 hd (by repeat (first | exact Pick.here | apply Pick.there))) hTB h1)
  rintro ⟨a46, c46⟩
  refine gp zln ?_
  refine gp zmv ?_
  refine gp (r_int (j := ((1 + lf5 lft : Nat) : Int)) zad (by omega)) ?_
  refine gp zmv ?_
  refine gp (r_int (j := ((1 + lf5 lft + lf5 rgt : Nat) : Int)) zad (by omega)) ?_
  refine gp (r_bool (c := false) zni (by have e : (fkT (lf5 lft) (lf5 rgt)).nodes.length = 1 + lf5 lft + lf5 rgt := (by simpa [keysT] using hle); simp [e])) ?_
  refine gnt ?_
  refine gc_condF rfl rfl ?_
  refine gc_skip ?_
  refine gx_then ?_
  refine gc_seq ?_
  refine gc_fact (fun w' hw => St.rowAt (hw.sel (M := [rowR 26 16 a41 (lf5 lft) c41 ((upI idA (lf5 lft)).map dc).flatten]) (by repeat (first | exact Sel.nil | (apply Sel.cons; · (repeat (first | exact Pick.here | apply Pick.there)))))) .here (by omega)) (fun hra => ?_)
  obtain ⟨hmc, gl, ol, ha⟩ := hra
  subst ha
  refine gc_region ?_
  refine ze0 fun b72 => ?_
  refine zal fun b12 => ?_
  refine zs1 ?_
  refine gnt ?_
  refine gc_seq ?_
  refine gc_seq ?_
  refine gc_regionH ([blk b5 24 [.pointer (some ⟨q, 0, none⟩)], rowR 26 16 (some ⟨gl, ol, none⟩) (lf5 lft) c41 ((upI idA (lf5 lft)).map dc).flatten]) ?_
  refine yp 0 rfl zl ?_
  refine yp 1 rfl zmv ?_
  refine yp 2 rfl (r_val (v' := .pointer (some ⟨gl, ol + 0 * 16, none⟩)) zia (by simp)) ?_
  refine yp 3 rfl (r_ldRow (i := 0) rfl Ty.row_26 Ty.sz_26 (by repeat (first | exact Pick.here | apply Pick.there)) (up_16 _ _) (up_at0 (by omega)) (by omega)) ?_
  refine yo 4 rfl ?_
  refine zc ?_ (c := fun w1 F1 F2 h1 h2 hd hst => tBelow_ok (d := idA 1) h1)
  rintro ⟨bx, by_⟩
  refine yx ?_
  refine yd ?_
  refine gx_then ?_
  refine gc_block ?_
  refine gc_conv (M := [blk b12 37 [.slice (some ⟨b72, 0, none⟩) 0 0], rowR 26 16 (some ⟨b72, 0, none⟩) 0 0 []]) (N := [exR fun x : Option Addr × Nat => allR [blk b12 37 [.slice x.1 0 x.2], rowR 26 16 x.1 0 x.2 (((belowL (fkT (lf5 lft) (lf5 rgt)) (idA 1)).take 0).map dc).flatten]]) (by repeat (first | exact Sel.nil | (apply Sel.cons; · (repeat (first | exact Pick.here | apply Pick.there))))) (fun _ _ h => stars_ex_mk (some ⟨b72, 0, none⟩, 0) (stars_all_mk h)) ?_
  refine gc_range (own := [blk bx 24 [.pointer (some ⟨q, 0, none⟩)], blk by_ 26 (dc (idA 1))]) (fun i => [exR fun x : Option Addr × Nat => allR [blk b12 37 [.slice x.1 i x.2], rowR 26 16 x.1 i x.2 (((belowL (fkT (lf5 lft) (lf5 rgt)) (idA 1)).take i).map dc).flatten]]) (fun _ _ => [pureR False]) (by exact rfl) Ty.call_29 (by repeat (first | exact Sel.nil | (apply Sel.cons; · (repeat (first | exact Pick.here | apply Pick.there))))) (by intros; rfl) (fun lp J Jx w1 F1 F2 h1 h2 hd hst => below1_it (tr_rd h2 hd (by repeat (first | exact Pick.here | apply Pick.there))) hTB h1) ?_ ?_ ?_
  · intro lp rc rc' i y w1 F1 F2 h1 h2 hd hst
    try dsimp only [List.cons_append, List.nil_append, zipE]
    refine gc_pure1 (p := (belowL (fkT (lf5 lft) (lf5 rgt)) (idA 1))[i]? = some y) (by repeat (first | exact Pick.here | apply Pick.there)) (fun hy => ?_)
    have hib : i < lf5 lft - 1 := by have := (List.getElem?_eq_some_iff.1 hy).1; rw [hbe, tail_len] at this; exact this
    refine gc_conv (M := [exR fun x : Option Addr × Nat => allR [blk b12 37 [.slice x.1 i x.2], rowR 26 16 x.1 i x.2 (((belowL (fkT (lf5 lft) (lf5 rgt)) (idA 1)).take i).map dc).flatten]]) (N := [exR fun x : Option Addr × Nat => allR [blk b12 37 [.slice x.1 i x.2], rowR 26 16 x.1 i x.2 (((belowL (fkT (lf5 lft) (lf5 rgt)) (idA 1)).take i).map dc).flatten]]) (by repeat (first | exact Sel.nil | (apply Sel.cons; · (repeat (first | exact Pick.here | apply Pick.there))))) (fun _ _ h => h) ?_
    refine gc_exR (fun xx => ?_)
    obtain ⟨a12, c12⟩ := xx
    refine gc_conv (M := [allR [blk b12 37 [.slice a12 i c12], rowR 26 16 a12 i c12 (((belowL (fkT (lf5 lft) (lf5 rgt)) (idA 1)).take i).map dc).flatten]]) (N := [blk b12 37 [.slice a12 i c12], rowR 26 16 a12 i c12 (((belowL (fkT (lf5 lft) (lf5 rgt)) (idA 1)).take i).map dc).flatten]) (by repeat (first | exact Sel.nil | (apply Sel.cons; · (repeat (first | exact Pick.here | apply Pick.there))))) (fun _ _ h => stars_all h) ?_
    refine gc_region ?_
    refine zal fun b13 => ?_
    refine zsN ?_
    refine gl_nil ?_
    refine gx_lp (by repeat (first | exact Pick.here | apply Pick.there)) ?_
    refine gx_begin ?_
    refine gc_block ?_
    refine gc_region ?_
    refine gp zl ?_
    refine gp zL ?_
    refine zeN fun b81 => ?_
    refine zapo (fun a82 c82 => ?_)
    refine zs1 ?_
    refine gl_nil ?_
    refine gx_block_normal ?_
    refine gx_rdn ?_
    intro w' hw
    have h3 := hw.conv (M := [blk b12 37 [.slice a82 (i + 1) c82], rowR 26 16 a82 (i + 1) c82 ((((belowL (fkT (lf5 lft) (lf5 rgt)) (idA 1)).take i).map dc).flatten ++ dc y)]) (N := [exR fun x : Option Addr × Nat => allR [blk b12 37 [.slice x.1 (i + 1) x.2], rowR 26 16 x.1 (i + 1) x.2 (((belowL (fkT (lf5 lft) (lf5 rgt)) (idA 1)).take (i + 1)).map dc).flatten]]) (by repeat (first | exact Sel.nil | (apply Sel.cons; · (repeat (first | exact Pick.here | apply Pick.there))))) (fun _ _ h => stars_ex_mk (a82, c82) (stars_all_mk (by rw [take_row hy]; exact h)))
    exact h3.sel (by repeat (first | exact Sel.nil | (apply Sel.cons; · (repeat (first | exact Pick.here | apply Pick.there)))))
  · intro bU13 y m hy
    try dsimp only [List.cons_append, List.nil_append]
    obtain rfl : m = (belowL (fkT (lf5 lft) (lf5 rgt)) (idA 1)).length := by cases y <;> simp_all [allOr]
    refine gx_block_normal ?_
    refine gx_thenM ?_
    refine gc_seq ?_
    refine gc_seq ?_
    refine gc_conv (M := [exR fun x : Option Addr × Nat => allR [blk b12 37 [.slice x.1 (belowL (fkT (lf5 lft) (lf5 rgt)) (idA 1)).length x.2], rowR 26 16 x.1 (belowL (fkT (lf5 lft) (lf5 rgt)) (idA 1)).length x.2 (((belowL (fkT (lf5 lft) (lf5 rgt)) (idA 1)).take (belowL (fkT (lf5 lft) (lf5 rgt)) (idA 1)).length).map dc).flatten]]) (N := [exR fun x : Option Addr × Nat => allR [blk b12 37 [.slice x.1 (lf5 lft - 1) x.2], rowR 26 16 x.1 (lf5 lft - 1) x.2 ((upI idA (lf5 lft)).tail.map dc).flatten]]) (by repeat (first | exact Sel.nil | (apply Sel.cons; · (repeat (first | exact Pick.here | apply Pick.there))))) (fun _ _ h => by rw [List.take_length, hbe, tail_len] at h; exact h) ?_
    refine gc_exR (fun xx => ?_)
    obtain ⟨a12, c12⟩ := xx
    refine gc_conv (M := [allR [blk b12 37 [.slice a12 (lf5 lft - 1) c12], rowR 26 16 a12 (lf5 lft - 1) c12 ((upI idA (lf5 lft)).tail.map dc).flatten]]) (N := [blk b12 37 [.slice a12 (lf5 lft - 1) c12], rowR 26 16 a12 (lf5 lft - 1) c12 ((upI idA (lf5 lft)).tail.map dc).flatten]) (by repeat (first | exact Sel.nil | (apply Sel.cons; · (repeat (first | exact Pick.here | apply Pick.there))))) (fun _ _ h => stars_all h) ?_
    refine gc_regionH ([blk b12 37 [.slice a12 (lf5 lft - 1) c12]]) ?_
    refine yp 0 rfl zl ?_
    refine yp 1 rfl zmv ?_
    refine yp 2 rfl (r_slice_slice (a := some ⟨gl, ol, none⟩) (m := lf5 lft) (c := c41) (l := 1) (h := lf5 lft) rfl Ty.sl_37 Ty.sz_26 ⟨_, rfl⟩ rfl (by omega) (by omega)) ?_
    refine yo 3 rfl ?_
    refine zc (fun _ => ?_) (c := fun w1 F1 F2 h1 h2 hd hst => same03_ok (l1 := (upI idA (lf5 lft)).tail) (l2 := (upI idA (lf5 lft)).tail) h1 (digs_of_row (rd_row h2 hd (by repeat (first | exact Pick.here | apply Pick.there)))) (digs_of_row (row_tail (rd_row h2 hd (by repeat (first | exact Pick.here | apply Pick.there))) (by omega) (by omega))))
    refine yx ?_
    refine yp 4 rfl (r_bool (c := false) znt (by simp)) ?_
    refine yd ?_
    refine gx_then ?_
    refine gc_condF rfl rfl ?_
    refine gc_skip ?_
    refine gx_then ?_
    refine gc_seq ?_
    refine gsr ?_
    refine gp zmv ?_
    refine gp zlt ?_
    refine gnt ?_
    refine gif rfl (fun hc89 => ?_) (fun hc89 => ?_)
    · try simp only at hc89
      have hl1' : lf5 lft = 1 := by omega
      have hcn : (certF (idA 1) (fkT (lf5 lft) (lf5 rgt)).certs).isSome = false := by rw [hce]; simp; omega
      refine gc_seq ?_
      refine gc_regionZ 9 ([blk b5 24 [.pointer (some ⟨q, 0, none⟩)], rowR 26 16 (some ⟨gl, ol, none⟩) (lf5 lft) c41 ((upI idA (lf5 lft)).map dc).flatten]) ?_
      refine yps 0 rfl zl ?_
      refine yps 1 rfl zmv ?_
      refine yps 2 rfl (r_val (v' := .pointer (some ⟨gl, ol + 0 * 16, none⟩)) zia (by simp)) ?_
      refine yps 3 rfl (r_ldRow (i := 0) rfl Ty.row_26 Ty.sz_26 (by repeat (first | exact Pick.here | apply Pick.there)) (up_16 _ _) (up_at0 (by omega)) (by omega)) ?_
      refine yos 4 rfl ?_
      refine zc (fun _ => ?_) (c := fun w1 F1 F2 h1 h2 hd hst => tprunex_ok (d := idA 1) (hE.mv hst.still) h1 hTB hlk hcn)
      refine yxs ?_
      refine yps 5 rfl zmv ?_
      refine yps 6 rfl zex ?_
      refine yps 7 rfl zex ?_
      refine yps 8 rfl zas ?_
      refine yzs rfl ?_
      refine gp zas ?_
      refine gnt ?_
      refine gsr ?_
      refine gp zmv ?_
      refine gp (r_bool (c := true) (r_nenil rfl (by kernel_rfl)) rfl) ?_
      refine gp zas ?_
      refine gnt ?_
      refine gc_ret ?_
      refine gx_then_ret ?_
      refine gx_mark (by repeat (first | exact Pick.here | apply Pick.there)) ?_
      refine gx_mark0 ?_
      refine gx_ret1 rfl (by conv => lhs; whnf) ?_
      exact ze ()
    · try simp only at hc89
      have hl2' : 2 ≤ lf5 lft := by omega
      have hTP : TOk (prunedT (fkT (lf5 lft) (lf5 rgt)) (idA 1)) := fk_ptok ⟨hl2', hl3⟩ ⟨hr2, hr3⟩
      have hcy : (certF (idA 1) (fkT (lf5 lft) (lf5 rgt)).certs).isSome = true := by rw [hce]; simp; omega
      refine gc_skip ?_
      refine gx_then ?_
      refine gc_seq ?_
      refine gc_regionZ 9 ([blk b5 24 [.pointer (some ⟨q, 0, none⟩)], rowR 26 16 (some ⟨gl, ol, none⟩) (lf5 lft) c41 ((upI idA (lf5 lft)).map dc).flatten]) ?_
      refine yps 0 rfl zl ?_
      refine yps 1 rfl zmv ?_
      refine yps 2 rfl (r_val (v' := .pointer (some ⟨gl, ol + 0 * 16, none⟩)) zia (by simp)) ?_
      refine yps 3 rfl (r_ldRow (i := 0) rfl Ty.row_26 Ty.sz_26 (by repeat (first | exact Pick.here | apply Pick.there)) (up_16 _ _) (up_at0 (by omega)) (by omega)) ?_
      refine yos 4 rfl ?_
      refine zc ?_ (c := fun w1 F1 F2 h1 h2 hd hst => tprune_ok (d := idA 1) (hE.mv hst.still) h1 hTB hlk hcy)
      rintro ⟨a105, c105⟩
      rw [hou]
      refine yxs ?_
      refine yps 5 rfl zmv ?_
      refine yps 6 rfl zex ?_
      refine yps 7 rfl zex ?_
      refine yps 8 rfl zas ?_
      refine yzs rfl ?_
      refine gp zas ?_
      refine gnt ?_
      refine gc_seq ?_
      refine gc_regionZ 23 ([blk b5 24 [.pointer (some ⟨q, 0, none⟩)], rowR 26 16 (some ⟨gl, ol, none⟩) (lf5 lft) c41 ((upI idA (lf5 lft)).map dc).flatten]) ?_
      refine yps 0 rfl zmv ?_
      refine yps 1 rfl (r_bool (c := true) (r_eqnil (k := 0) rfl (by kernel_rfl)) rfl) ?_
      refine yps 2 rfl zmv ?_
      refine yps 3 rfl zmv ?_
      refine yps 4 rfl zln ?_
      refine yps 5 rfl zmv ?_
      refine yps 6 rfl (r_int (j := ((1 + lf5 rgt : Nat) : Int)) zad (by omega)) ?_
      refine yps 7 rfl (r_bool (c := true) zei (by simp)) ?_
      refine yps 8 rfl zpk ?_
      refine yps 9 rfl zmv ?_
      refine yps 10 rfl zl ?_
      refine yps 12 rfl zmv ?_
      refine yos 11 rfl ?_
      refine zc ?_ (c := fun w1 F1 F2 h1 h2 hd hst => tids_ok (tr_rd h2 hd (by repeat (first | exact Pick.here | apply Pick.there))) hTP h1)
      rintro ⟨a119, c119⟩
      refine yxs ?_
      refine yos 13 rfl ?_
      refine zc (fun _ => ?_) (c := fun w1 F1 F2 h1 h2 hd hst => same03_ok (l1 := upI idA (lf5 lft)) (l2 := upI idA (lf5 lft)) h1 (digs_of_row (by rw [← hke]; exact rd_row h2 hd (by repeat (first | exact Pick.here | apply Pick.there)))) (digs_of_row (rd_row h2 hd (by repeat (first | exact Pick.here | apply Pick.there)))))
      rw [decide_eq_true rfl]
      refine yxs ?_
      refine yps 14 rfl zpk ?_
      refine yps 15 rfl zmv ?_
      refine yps 16 rfl zl ?_
      refine yps 18 rfl zmv ?_
      refine yps 19 rfl (r_val (v' := .pointer (some ⟨gl, ol + 0 * 16, none⟩)) zia (by simp)) ?_
      refine yps 20 rfl (r_ldRow (i := 0) rfl Ty.row_26 Ty.sz_26 (by repeat (first | exact Pick.here | apply Pick.there)) (up_16 _ _) (up_at0 (by omega)) (by omega)) ?_
      refine yos 17 rfl ?_
      refine zc (fun _ => ?_) (c := fun w1 F1 F2 h1 h2 hd hst => troot_ok (tr_rd h2 hd (by repeat (first | exact Pick.here | apply Pick.there))) hTP h1)
      refine yxs ?_
      refine yps 21 rfl (r_bool (c := true) zed (by simp [prunedT])) ?_
      refine yps 22 rfl zpk ?_
      refine yzs rfl ?_
      refine gp zas ?_
      refine gnt ?_
      refine gc_ret ?_
      refine gx_mark (by repeat (first | exact Pick.here | apply Pick.there)) ?_
      refine gx_mark0 ?_
      refine gx_ret1 rfl (by conv => lhs; whnf) ?_
      exact ze ()
  · exact fun _ _ _ _ _ => gc_noway

end Go.Proofs.YtobjojeliibinaaDoor

/- BlocksForks: for every input the law returns true, and the input reads as it did: the row and its card. -/
namespace Go.Proofs.YtobjojeliibinaaDoor
open Go
open Go.ChangeShapes Go.WideShapes Go.ChangeAt Go.RowKit
set_option linter.unusedVariables false

/-- One world that fits: the settled one, the listed variables as their initialisers lay them. -/
noncomputable def blocksForks_world (os : Os) : World :=
  let w0 := World.holding Tryd.prog os ⟨#[.cells #[.string ⟨#[113, 117, 111, 114, 97, 116, 101, 58, 32, 114, 97, 110, 103, 101]⟩] 165, .cells #[.string ⟨#[113, 117, 111, 114, 97, 116, 101, 58, 32, 102, 111, 114, 109]⟩] 165, .cells #[.string ⟨#[113, 117, 111, 114, 97, 116, 101, 58, 32, 102, 117, 108, 108]⟩] 165, .cells #[.string ⟨#[113, 117, 111, 114, 97, 116, 101, 58, 32, 110, 111, 110, 101]⟩] 165, .cells #[.string ⟨#[113, 117, 111, 114, 97, 116, 101, 58, 32, 112, 114, 111, 111, 102]⟩] 165, .cells #[.string ⟨#[113, 117, 111, 114, 97, 116, 101, 58, 32, 114, 111, 117, 110, 100]⟩] 165, .cells #[.string ⟨#[113, 117, 111, 114, 97, 116, 101, 58, 32, 112, 97, 114, 101, 110, 116]⟩] 165, .cells #[.string ⟨#[113, 117, 111, 114, 97, 116, 101, 58, 32, 116, 119, 105, 99, 101]⟩] 165], #[], []⟩
  { w0 with heap := ((((((((w0.heap.modify 7 fun
      | .cells _ t fz => .cells #[.iface 146 (.pointer (some ⟨lowB + 0, 0, none⟩))] t fz
      | o => o).modify 2 fun
      | .cells _ t fz => .cells #[.iface 146 (.pointer (some ⟨lowB + 1, 0, none⟩))] t fz
      | o => o).modify 6 fun
      | .cells _ t fz => .cells #[.iface 146 (.pointer (some ⟨lowB + 2, 0, none⟩))] t fz
      | o => o).modify 0 fun
      | .cells _ t fz => .cells #[.iface 146 (.pointer (some ⟨lowB + 3, 0, none⟩))] t fz
      | o => o).modify 1 fun
      | .cells _ t fz => .cells #[.iface 146 (.pointer (some ⟨lowB + 4, 0, none⟩))] t fz
      | o => o).modify 5 fun
      | .cells _ t fz => .cells #[.iface 146 (.pointer (some ⟨lowB + 5, 0, none⟩))] t fz
      | o => o).modify 4 fun
      | .cells _ t fz => .cells #[.iface 146 (.pointer (some ⟨lowB + 6, 0, none⟩))] t fz
      | o => o).modify 3 fun
      | .cells _ t fz => .cells #[.iface 146 (.pointer (some ⟨lowB + 7, 0, none⟩))] t fz
      | o => o).modify 8 fun
      | .cells _ t fz => .cells (kc.map W32).toArray t fz
      | o => o }
def blocksForks_args : Array Value := #[.int .i64 0, .int .i64 0]
theorem blocksForks_laid (os : Os) (args : Array Value) : laidMet Tryd.prog Rows.blocksForksRow.laid ((blocksForks_world os).forCall (fun _ _ => 0) ⟨#[], args, []⟩).memory :=
  laidMet_of_run' 8 (by kernel_rfl) (by kernel_rfl)
theorem blocksForks_reads (os : Os) {H : Type} (enc : TypeId × Value → H) : ∃ places, DataW.whole enc Tryd.prog ((blocksForks_world os).forCall (fun _ _ => 0) ⟨#[], blocksForks_args, []⟩).memory Tryd.f5.params.toList Rows.blocksForksSpec.vars false blocksForks_args.toList 8 = some ([.lit (.int .i64 0), .lit (.int .i64 0)], [], places) :=
  ⟨[], by kernel_rfl⟩
set_option maxRecDepth 20000 in
theorem blocksForks_contract (H : Type) (enc : TypeId × Value → H) (W : World) (base : Nat) (args : Array Value) (ds gs : List (DataW H)) (before : List MemPlace)
    (hval : ∀ (j : Nat) t v, Tryd.f5.params[j]? = some t → args[j]? = some v → Value.okWide Tryd.prog W .any base t v)
    (hW : DataW.Whole enc Tryd.prog Tryd.f5.params.toList Rows.blocksForksSpec.vars false W args.toList ds gs before) (hL : laidMetH Tryd.prog Rows.blocksForksRow.laid W) :
    Calls Tryd.prog 5 args W fun e W' => ∃ v, e = .returned v ∧ Rows.blocksForksSpec.post enc Tryd.prog Tryd.f5 false true false false W args v W' := by
  have hW' := hW
  have hlt : ∀ p ∈ before, p.block < W.heap.size := fun p hp => hW.lt p hp
  obtain ⟨p, q, hA0, hV, rfl, hfz, hnd⟩ := hW
  have hA : DataW.TrodAll enc Tryd.prog W 0 (fun _ => true) true Tryd.f5.params.toList args.toList ds p := hA0
  rw [Tryd.params5] at hA hval
  obtain ⟨v0, vs0, d0, ds0, p0, q0, hargs, rfl, rfl, h0, r0⟩ := trodAll_cons hA
  obtain ⟨v1, vs1, d1, ds1, p1, q1, rfl, rfl, rfl, h1, r1⟩ := trodAll_cons r0
  obtain ⟨rfl, rfl, rfl⟩ := trodAll_nil r1
  obtain rfl : args = #[v0, v1] := by cases args; simp_all
  obtain ⟨rfl, rfl⟩ := trodVars_none hV
  obtain ⟨n0, rfl, _, _, wf0⟩ := open_int Ty.un_3 (hval 0 3 v0 rfl rfl) h0
  obtain ⟨n1, rfl, _, _, wf1⟩ := open_int Ty.un_3 (hval 1 3 v1 rfl rfl) h1
  have hL' : laidMet Tryd.prog Rows.blocksForksRow.laid W := hL
  obtain ⟨a_1, s_1, c_1, _, _⟩ := laid_err (g := 7) hL' (by kernel_rfl) (by kernel_rfl)
  obtain ⟨a_4, s_4, c_4, _, _⟩ := laid_err (g := 2) hL'.tail (by kernel_rfl) (by kernel_rfl)
  obtain ⟨a_8, s_8, c_8, _, _⟩ := laid_err (g := 6) hL'.tail.tail (by kernel_rfl) (by kernel_rfl)
  obtain ⟨a_9, s_9, c_9, _, _⟩ := laid_err (g := 0) hL'.tail.tail.tail (by kernel_rfl) (by kernel_rfl)
  obtain ⟨a_12, s_12, c_12, _, _⟩ := laid_err (g := 1) hL'.tail.tail.tail.tail (by kernel_rfl) (by kernel_rfl)
  obtain ⟨a_14, s_14, c_14, _, _⟩ := laid_err (g := 5) hL'.tail.tail.tail.tail.tail (by kernel_rfl) (by kernel_rfl)
  obtain ⟨a_16, s_16, c_16, _, _⟩ := laid_err (g := 4) hL'.tail.tail.tail.tail.tail.tail (by kernel_rfl) (by kernel_rfl)
  obtain ⟨a_17, s_17, c_17, _, _⟩ := laid_err (g := 3) hL'.tail.tail.tail.tail.tail.tail.tail (by kernel_rfl) (by kernel_rfl)
  have hK := laid_kr hL'.tail.tail.tail.tail.tail.tail.tail.tail
  have hE : GErr [1, 4, 8, 9, 12, 14, 16, 17] W (fun k => ¬ (fun _ : Nat => False) k) 146 (fun i => if i = 1 then a_1 else if i = 4 then a_4 else if i = 8 then a_8 else if i = 9 then a_9 else if i = 12 then a_12 else if i = 14 then a_14 else if i = 16 then a_16 else a_17) := by
    refine ⟨fun i hi => ?_, fun i _ => id⟩
    simp only [List.mem_cons, List.not_mem_nil, or_false] at hi
    rcases hi with rfl | rfl | rfl | rfl | rfl | rfl | rfl | rfl
    · unfold eV; exact c_1
    · unfold eV; exact c_4
    · unfold eV; exact c_8
    · unfold eV; exact c_9
    · unfold eV; exact c_12
    · unfold eV; exact c_14
    · unfold eV; exact c_16
    · unfold eV; exact c_17
  have walk := blocksForks_ok (lft := n0) (rgt := n1) no_res hE hK
  refine Calls.mono (show Calls Tryd.prog 5 #[.int .i64 n0, .int .i64 n1] W _ from walk) fun e W' ⟨_, he, hs⟩ => ?_
  subst he
  have bel := below_of hs
  have eF : Rows.blocksForksSpec.fn H ([d0, d1] ++ []) = { results := [.lit (.bool true)], args := [d0, d1] } := rfl
  have l0 : ∀ z ∈ p0, z.block < W.heap.size := fun z hz => hlt z (by simp [hz])
  have l1 : ∀ z ∈ p1, z.block < W.heap.size := fun z hz => hlt z (by simp [hz])
  refine ⟨_, rfl, _, _, _, [], p0 ++ (p1 ++ ([])), [], hW', ?_, ?_, ?_, bel.frame _, fun h => by cases h⟩
  · rw [eF]; exact trodAll_cons_mk (shut_bool Tryd.underlying4 _) trodAll_mk0
  · rw [eF, Tryd.params5]
    exact trodAll_cons_mk (Below.trod laidOut (by kernel_rfl) (of_decide_eq_true (by kernel_rfl)) h0 bel l0) (trodAll_cons_mk (Below.trod laidOut (by kernel_rfl) (of_decide_eq_true (by kernel_rfl)) h1 bel l1) (trodAll_mk0))
  · rw [eF]; rfl

set_option maxRecDepth 100000 in
theorem blocksForks_lifted (os : Os) (started : os.Started) (H : Type) (enc : TypeId × Value → H) (F : Stop.Interp) :
    ReturnsInHanded {} Tryd.checked os 5 .any ((OpenSpec.ofChange Rows.blocksForksSpec).preRow enc Tryd.prog Tryd.f5 Rows.blocksForksRow.domain false Rows.blocksForksRow.laid) (((OpenSpec.ofChange Rows.blocksForksSpec).at F).post enc Tryd.prog Tryd.f5 false true false false) := by
  obtain ⟨places, hx⟩ := blocksForks_reads os enc
  refine returnsInHanded_of_row (C := Tryd.checked) (s := OpenSpec.ofChange Rows.blocksForksSpec) own started (by kernel_rfl) Tryd.func5
    (witness_row_atRef (enc := enc) (C := Tryd.checked) false (blocksForks_world os) blocksForks_args rfl (by kernel_rfl) (by kernel_rfl) (by kernel_rfl)
      (OpenSpec.preRow_of_cond 8 hx (by kernel_rfl) (fun k hk => by cases hk) (by kernel_rfl) (blocksForks_laid os _))) ?_
  intro W base args ds gs before hval hW _ _ _ hL _ _
  exact blocksForks_contract H enc W base args ds gs before hval hW hL

theorem blocksForks_said : Rows.BlocksForksSaid :=
  OpenClaim.holds_of_cond 5 Tryd.f5 rfl rfl rfl rfl rfl rfl rfl ⟨rfl, rfl, rfl, rfl, rfl⟩ rfl rfl rfl rfl rfl (by kernel_rfl) Tryd.func5 (by kernel_rfl)
    (of_decide_eq_true (by kernel_rfl)) (by unfold Func.isWrapper; first | (rw [if_pos (by decide +kernel)]; kernel_rfl) | (rw [if_neg (by decide +kernel)]; exact ⟨rfl, rfl⟩))
    (fun os started H enc _ F => by rw [OpenClaim.pre_eq_preRow]; exact blocksForks_lifted os started H enc F)
theorem blocksForks_plain (f : FuncId) (fn : Func) (hf : Tryd.pinned.checked.prog.funcNamed "quorate/quoratelaw15.BlocksForks" = some f) (hfn : Tryd.pinned.checked.prog.funcs[f]? = some fn) :
    false = Tryd.pinned.checked.prog.looks [] ∧ ∀ (j : Nat) t, fn.params[j]? = some t → Tryd.pinned.checked.prog.wantsStandIn t = false := by
  obtain rfl : f = 5 := Option.some.inj ((show Tryd.prog.funcNamed "quorate/quoratelaw15.BlocksForks" = some 5 by kernel_rfl).symm.trans hf) |>.symm
  obtain rfl : fn = Tryd.f5 := (Option.some.inj (Tryd.func5.symm.trans hfn)).symm
  refine ⟨by kernel_rfl, fun j t ht => ?_⟩
  rw [Tryd.params5] at ht
  have hm := Array.mem_of_getElem? ht
  have h : t = 3 := by simpa using hm
  subst h
  exact (show Tryd.prog.wantsStandIn 3 = false by kernel_rfl)
theorem blocksForks_holds : Rows.BlocksForksCardSaid :=
  Claim7.holds_tied_plain_at .later [] _ _ _ _ blocksForks_said (fun _ h => by cases h) (by kernel_rfl) (fun _ h => by cases h) blocksForks_row_tie rfl ⟨rfl, rfl⟩ (by kernel_rfl) rfl blocksForks_plain (by kernel_rfl)
#print axioms blocksForks_holds
end Go.Proofs.YtobjojeliibinaaDoor

