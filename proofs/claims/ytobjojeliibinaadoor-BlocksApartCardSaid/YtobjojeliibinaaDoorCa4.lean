/- Part 4. What is proved: see the last part: for every input the law returns true, and the input reads as it did. -/
import Derived.Test.YtobjojeliibinaaDoorCa3
/- Walks, by program (wg.py) out of a spec. -/
namespace Go.Proofs.YtobjojeliibinaaDoor
open Go
set_option linter.unusedVariables false
set_option linter.unusedSimpArgs false

attribute [local irreducible] Gl Gc Gx Gs Runs Wt

attribute [local irreducible] dc qcC blkC idOf TreeR RdBlock RdQC gid fkT genC chC

set_option maxHeartbeats 400000 in
theorem alive15_ok {w : World} {F : Nat → Prop} (h : stars [] w F) {ea : Nat → Addr} {es : List Nat} [Has es 1] [Has es 4] [Has es 8] [Has es 9] [Has es 12] [Has es 14] [Has es 16] [Has es 17] (hE : GErr es w (fun k => ¬ F k) 146 ea) (hK : KR w (fun k => ¬ F k))  :
    Calls Tryd.prog 7 #[] w (Post w F (fun _ : Unit => .bool true) (fun _ => [])) := by
  refine g_enter (env := []) Tryd.func7 rfl h Tryd.ntmps7 rfl rfl ?_
  refine gsr ?_
  refine gp zas ?_
  refine gnt ?_
  refine gsr ?_
  refine zc (fun q => ?_) (c := fun w1 F1 F2 h1 h2 hd hst => genesis15_ok h1 (hE.mv hst.still) (hK.mv hst.still))
  have igen := Len.of genC_len
  have jgen := One.of (rdGen (w := w) (A := fun _ => True)).one
  refine gp zmv ?_
  refine gp zex ?_
  refine gp zex ?_
  refine gp zex ?_
  refine gp zex ?_
  refine zal fun b2 => ?_
  refine gl_eqc (cs' := blkC) (by repeat (first | exact Pick.here | apply Pick.there)) (by kernel_rfl) ?_
  refine zal fun b3 => ?_
  refine gp zas ?_
  refine zsA genC_len One.h ?_
  refine zsN ?_
  refine gp zas ?_
  refine gnt ?_
  refine gc_seq ?_
  refine gsr ?_
  refine gp zmv ?_
  refine gp (r_bool (c := false) znt rfl) ?_
  refine gnt ?_
  refine gc_condF rfl rfl ?_
  refine gc_skip ?_
  refine gx_then ?_
  refine gsr ?_
  refine gp (zba (cs := dc dig0) (hf := by kernel_rfl)) ?_
  refine zal fun b5 => ?_
  refine zsN ?_
  refine gnt ?_
  refine gc_seq ?_
  refine gsr ?_
  refine gp zmv ?_
  refine gnt ?_
  refine gc_block ?_
  refine gc_loop (α := Nat × List Value) (fun y => [pureR (y.1 ≤ 3 ∧ y.2.length = 39 ∧ ∀ v ∈ y.2, v.oneCell' = true), TreeR q (fkT y.1 0), blk b2 33 y.2, blk b3 26 (dc (idA y.1)), blk b5 26 (dc (if y.1 = 0 then dig0 else idA 1)), VlR RdBlock y.2 (blA y.1)]) (fun y => [(17, .int .i64 (y.1 : Int))]) [0, 6, 7, 18, 19, 20, 21, 22, 23, 24, 25, 26, 27, 28, 29, 30, 31, 32, 33, 34] (fun y => 3 - y.1) (0, genC) ?_ ?_ ?_
  · refine env_start (by kernel_rfl)
  · intro w' hw
    exact St.pureI (p := 0 ≤ 3 ∧ _ ∧ _) ⟨by decide, genC_len, One.h⟩ ((St.vl hw (rdGen (w := w') (A := fun _ => False))).sel (M := [TreeR q (fkT 0 0), blk b2 33 genC, blk b3 26 (dc gid), blk b5 26 (dc dig0), VlR RdBlock genC g0]) (by repeat (first | exact Sel.nil | (apply Sel.cons; · (repeat (first | exact Pick.here | apply Pick.there))))))
  · intro y u
    obtain ⟨k, cs⟩ := y
    refine gc_pureR (fun hk => ?_)
    obtain ⟨hk, hlc, hoc⟩ := hk
    replace hk : k ≤ 3 := hk
    replace hlc : cs.length = 39 := hlc
    have ic := Len.of hlc
    have jc := One.of (show ∀ v ∈ cs, v.oneCell' = true from hoc)
    have hrk := blA_round k
    refine gsr ?_
    refine gp zlt ?_
    refine gnt ?_
    refine gc_seq ?_
    refine gif rfl (fun hc18 => ?_) (fun hc18 => ?_)
    · try simp only at hc18
      have hk' : k < 3 := by omega
      refine gc_skip ?_
      refine gx_then ?_
      refine gc_seq ?_
      refine gc_block ?_
      refine gsr ?_
      refine gp zmv ?_
      refine gp zas ?_
      refine gnt ?_
      refine gsr ?_
      refine gp (zLa (cs := cs)) ?_
      refine gp zL ?_
      refine zc ?_ (c := fun w1 F1 F2 h1 h2 hd hst => child15_ok (b := blA k) (id := idA k) (on := 1) (tx := 1) h1 (vl_rd h2 hd (by repeat (first | exact Pick.here | apply Pick.there))) (by omega) (by decide))
      rintro ⟨b23, b24⟩
      have ich := Len.of (chC_len (blA k) (idA k) 1 b24)
      have jch := One.of (chC_one (blA k) (idA k) 1 b24)
      refine zsA (chC_len _ _ _ _) (chC_one _ _ _ _) ?_
      refine gnt ?_
      refine gsr ?_
      refine gp zas ?_
      refine gnt ?_
      refine gc_seq ?_
      refine gsr ?_
      refine gp zmv ?_
      refine gp (zLa (cs := chC (blA k) (idA k) 1 b24)) ?_
      refine zc (fun _ => ?_) (c := fun w1 F1 F2 h1 h2 hd hst => tadd_eq (b := blA (k + 1)) (hE.mv hst.still) (hK.mv hst.still) h1 (fkT_ok (by omega)) (rd_chC (b := blA k) (id := idA k) (on := 1) (tx := 1) (rd_row h2 hd (by repeat (first | exact Pick.here | apply Pick.there))) (rd_row h2 hd (by repeat (first | exact Pick.here | apply Pick.there)))) smB_ch (blA_err (by omega)) (blA_id (by omega)) (fkA (by omega)))
      refine gp zmv ?_
      refine gp zex ?_
      refine gp zex ?_
      refine zsN ?_
      refine gp zas ?_
      refine gnt ?_
      refine gsr ?_
      refine gp zmv ?_
      refine gp (r_bool (c := false) (r_nenil rfl (by kernel_rfl)) rfl) ?_
      refine gnt ?_
      refine gc_condF rfl rfl ?_
      refine gc_skip ?_
      refine gx_then ?_
      refine gsr ?_
      refine gp zmv ?_
      refine gp (r_bool (c := decide (k = 0)) zei (by rw [Bool.eq_iff_iff]; simp only [decide_eq_true_eq]; omega)) ?_
      refine gnt ?_
      refine gif rfl (fun hc32 => ?_) (fun hc32 => ?_)
      · try simp only at hc32
        have hk0 : k = 0 := by simpa using hc32
        refine gc_region ?_
        refine gp zL ?_
        refine zsN ?_
        refine gl_nil ?_
        refine gx_block_normal ?_
        refine gx_then ?_
        refine gc_region ?_
        refine gp zad ?_
        refine gp zmv ?_
        refine gl_nil ?_
        refine zrd ((k + 1, chC (blA k) (idA k) 1 b24)) ?_ ?_
        · show 3 - (k + 1) < 3 - k
          omega
        · obtain rfl : k = 0 := by omega
          intro w' hw
          have h1 := hw.conv (M := [rowR 54 1 (some ⟨b24, 0, none⟩) 1 1 [.slice (some ⟨b23, 0, none⟩) 1 1], rowR 5 1 (some ⟨b23, 0, none⟩) 1 1 [B8 1]]) (by repeat (first | exact Sel.nil | (apply Sel.cons; · (repeat (first | exact Pick.here | apply Pick.there))))) (fun _ _ => vl_chC (b := blA 0) (id := idA 0) (on := 1))
          exact St.pureI (p := 0 + 1 ≤ 3 ∧ _ ∧ _) ⟨by omega, chC_len _ _ _ _, chC_one _ _ _ _⟩ (h1.sel (M := [TreeR q (fkT (0 + 1) 0), blk b2 33 (chC (blA 0) (idA 0) 1 b24), blk b3 26 (dc (idA (0 + 1))), blk b5 26 (dc (idA (0 + 1))), VlR RdBlock (chC (blA 0) (idA 0) 1 b24) (blA (0 + 1))]) (by repeat (first | exact Sel.nil | (apply Sel.cons; · (repeat (first | exact Pick.here | apply Pick.there))))))
      · try simp only at hc32
        have hk0 : ¬ k = 0 := by simpa using hc32
        refine gc_skip ?_
        refine gx_block_normal ?_
        refine gx_then ?_
        refine gc_region ?_
        refine gp zad ?_
        refine gp zmv ?_
        refine gl_nil ?_
        refine zrd ((k + 1, chC (blA k) (idA k) 1 b24)) ?_ ?_
        · show 3 - (k + 1) < 3 - k
          omega
        · rw [if_neg (show ¬ k = 0 by omega)]
          intro w' hw
          have h1 := hw.conv (M := [rowR 54 1 (some ⟨b24, 0, none⟩) 1 1 [.slice (some ⟨b23, 0, none⟩) 1 1], rowR 5 1 (some ⟨b23, 0, none⟩) 1 1 [B8 1]]) (by repeat (first | exact Sel.nil | (apply Sel.cons; · (repeat (first | exact Pick.here | apply Pick.there))))) (fun _ _ => vl_chC (b := blA k) (id := idA k) (on := 1))
          exact St.pureI (p := k + 1 ≤ 3 ∧ _ ∧ _) ⟨by omega, chC_len _ _ _ _, chC_one _ _ _ _⟩ (h1.sel (M := [TreeR q (fkT (k + 1) 0), blk b2 33 (chC (blA k) (idA k) 1 b24), blk b3 26 (dc (idA (k + 1))), blk b5 26 (dc (idA 1)), VlR RdBlock (chC (blA k) (idA k) 1 b24) (blA (k + 1))]) (by repeat (first | exact Sel.nil | (apply Sel.cons; · (repeat (first | exact Pick.here | apply Pick.there))))))
    · try simp only at hc18
      have hk' : k = 3 := by omega
      subst hk'
      refine gc_exit ?_
      refine gx_then_exit ?_
      refine gx_round_exit ?_
      refine gx_block_hit ?_
      refine gx_then ?_
      refine gc_seq ?_
      refine gc_regionZ 7 ([blk b3 26 (dc (idA 3)), blk b5 26 (dc (if (3 : Nat) = 0 then dig0 else idA 1))]) ?_
      refine yps 0 rfl zmv ?_
      refine yps 1 rfl zL ?_
      refine yps 2 rfl (zbu (cs := .int .i64 1 :: .int .i64 3 :: (dc (idA 3) ++ [.slice none 0 0]))) ?_
      refine yps 4 rfl zL ?_
      refine yo2s 3 5 rfl rfl ?_ ?_
      · refine zc ?_ (c := fun w1 F1 F2 h1 h2 hd hst => tripe_ok (x := ⟨1, 3, idA 3, []⟩) (tr_rd h2 hd (by repeat (first | exact Pick.here | apply Pick.there))) (fkT_ok (show 3 ≤ 5 by decide)) h1 (rdQ1 1 3 (idA 3)) (by decide))
        rintro ⟨a38, c38⟩
        rw [ripeA]
        refine yxs ?_
        refine yos 5 rfl ?_
        refine zeN fun b40 => ?_
        refine yxs ?_
        refine yos 6 rfl ?_
        refine zc (fun _ => ?_) (c := fun w1 F1 F2 h1 h2 hd hst => same03_ok (l1 := [idA 1]) (l2 := [idA 1]) h1 (digs_of_row (rd_row h2 hd (by repeat (first | exact Pick.here | apply Pick.there)))) (digs_of_one (rd_row h2 hd (by repeat (first | exact Pick.here | apply Pick.there)))))
        refine yxs ?_
        refine yzs rfl ?_
        refine gp zas ?_
        refine gnt ?_
        refine gc_ret ?_
        refine gx_ret1 rfl (by conv => lhs; whnf) ?_
        exact fun w' hw => ⟨(), by simp, hw.sel (by repeat (first | exact Sel.nil | (apply Sel.cons; · (repeat (first | exact Pick.here | apply Pick.there)))))⟩
      · refine zeN fun b40 => ?_
        refine yxs ?_
        refine yos 3 rfl ?_
        refine zc ?_ (c := fun w1 F1 F2 h1 h2 hd hst => tripe_ok (x := ⟨1, 3, idA 3, []⟩) (tr_rd h2 hd (by repeat (first | exact Pick.here | apply Pick.there))) (fkT_ok (show 3 ≤ 5 by decide)) h1 (rdQ1 1 3 (idA 3)) (by decide))
        rintro ⟨a38, c38⟩
        rw [ripeA]
        refine yxs ?_
        refine yos 6 rfl ?_
        refine zc (fun _ => ?_) (c := fun w1 F1 F2 h1 h2 hd hst => same03_ok (l1 := [idA 1]) (l2 := [idA 1]) h1 (digs_of_row (rd_row h2 hd (by repeat (first | exact Pick.here | apply Pick.there)))) (digs_of_one (rd_row h2 hd (by repeat (first | exact Pick.here | apply Pick.there)))))
        refine yxs ?_
        refine yzs rfl ?_
        refine gp zas ?_
        refine gnt ?_
        refine gc_ret ?_
        refine gx_ret1 rfl (by conv => lhs; whnf) ?_
        exact fun w' hw => ⟨(), by simp, hw.sel (by repeat (first | exact Sel.nil | (apply Sel.cons; · (repeat (first | exact Pick.here | apply Pick.there)))))⟩

end Go.Proofs.YtobjojeliibinaaDoor

/- Plain words: a row of blocks, each below the one ahead of it, and its tree. No program in sight. -/
namespace Go.Proofs.YtobjojeliibinaaDoor
set_option linter.unusedVariables false
set_option linter.unusedSimpArgs false

attribute [local irreducible] idOf gid
section
variable (st : Nat → Int)
variable {st}
/-- Each step goes on, and not far. -/
structure StOk (st : Nat → Int) : Prop where
  lo : ∀ i, 1 ≤ st i
  hi : ∀ i, st i ≤ 1000
end
end Go.Proofs.YtobjojeliibinaaDoor

/- Walks, by program (wg.py) out of a spec. -/
namespace Go.Proofs.YtobjojeliibinaaDoor
open Go
set_option linter.unusedVariables false
set_option linter.unusedSimpArgs false


theorem b8_succ0 (b : UInt8) : Value.int .u8 (IntKind.u8.wrap ((b.toNat : Int) + 1)) = B8 (b + 1) := by
  simp only [B8, Value.int.injEq, true_and]
  have h : (b + 1).toNat = (b.toNat + 1) % 256 := by rw [UInt8.toNat_add]; rfl
  rw [h]
  simp only [IntKind.wrap, IntKind.bits, IntKind.signed]
  simp
attribute [local irreducible] Gl Gc Gx Gs Runs Wt

attribute [local irreducible] dc qcC blkC idOf TreeR RdBlock RdQC gid fkT genC chC

end Go.Proofs.YtobjojeliibinaaDoor

/- Plain words: SHA-256 of messages side by side that differ in one byte. -/
namespace Go.Proofs.YtobjojeliibinaaDoor
set_option linter.unusedVariables false
set_option linter.unusedSimpArgs false

def setO (m : List UInt8) (p : Option Nat) (v : UInt8) : List UInt8 := match p with
  | none => m
  | some p => m.set p v
def wC (p : Option Nat) (j : Nat) : Nat := match p with
  | none => 0
  | some p => if p / 4 = j then 256 ^ (3 - p % 4) else 0
def wOk (m : List UInt8) (p : Option Nat) : Prop := match p with
  | none => True
  | some p => p < m.length ∧ qB m p = 0
theorem qB_set {m : List UInt8} {p : Nat} {v : UInt8} {i : Nat} (h : p < m.length) (h0 : qB m p = 0) : qB (m.set p v) i = qB m i + if p = i then v.toNat else 0 := by
  unfold qB at *
  by_cases e : p = i
  · subst e
    rw [if_pos rfl, h0, Nat.zero_add]
    simp [List.getD, h]
  · rw [if_neg e, Nat.add_zero]
    simp [List.getD, e]
theorem qW_set {m : List UInt8} {p : Option Nat} {v : UInt8} {j : Nat} (h : wOk m p) : qW (setO m p v) j = qW m j + wC p j * v.toNat := by
  match p, h with
  | none, _ => simp [setO, wC]
  | some p, h =>
    unfold qW wC setO
    simp only
    rw [qB_set h.1 h.2, qB_set h.1 h.2, qB_set h.1 h.2, qB_set h.1 h.2]
    by_cases e : p / 4 = j
    · rw [if_pos e]
      have hp : p = 4 * j + p % 4 := by omega
      have hlt : p % 4 < 4 := Nat.mod_lt _ (by decide)
      generalize p % 4 = r at hp hlt
      subst hp
      match r, hlt with
      | 0, _ => simp; omega
      | 1, _ => simp; omega
      | 2, _ => simp; omega
      | 3, _ => simp; omega
    · rw [if_neg e, if_neg (by omega), if_neg (by omega), if_neg (by omega), if_neg (by omega)]; simp
/-- Where the byte stands behind one more block of 64 bytes. -/
def wNext (p : Option Nat) : Option Nat := match p with
  | none => none
  | some p => if p < 64 then none else some (p - 64)
theorem setO_drop (m : List UInt8) (p : Option Nat) (v : UInt8) : (setO m p v).drop 64 = setO (m.drop 64) (wNext p) v := by
  match p with
  | none => rfl
  | some p =>
    simp only [setO, wNext, List.drop_set]
    split <;> rfl
theorem wOk.next {m : List UInt8} {p : Option Nat} (h : wOk m p) : wOk (m.drop 64) (wNext p) := by
  match p, h with
  | none, _ => exact trivial
  | some p, h =>
    unfold wNext
    simp only
    split
    · exact trivial
    · refine ⟨by rw [List.length_drop]; have := h.1; omega, ?_⟩
      have h0 := h.2
      unfold qB at *
      rw [List.getD_eq_getElem?_getD, List.getElem?_drop, ← List.getD_eq_getElem?_getD, show 64 + (p - 64) = p by omega]; exact h0
def wX (O T : Nat) (m : List UInt8) (p : Option Nat) (j : Nat) : Nat := qW m j * O + wC p j * T
def wW (O T : Nat) (m : List UInt8) (p : Option Nat) : List Nat := [wX O T m p 0, wX O T m p 1, wX O T m p 2, wX O T m p 3, wX O T m p 4, wX O T m p 5, wX O T m p 6, wX O T m p 7, wX O T m p 8, wX O T m p 9, wX O T m p 10, wX O T m p 11, wX O T m p 12, wX O T m p 13, wX O T m p 14, wX O T m p 15]
def wS (O T : Nat) (m : List UInt8) (p : Option Nat) : Nat → List (List Nat)
  | 0 => []
  | n + 1 => wW O T m p :: wS O T (m.drop 64) (wNext p) n
theorem wX_eq {L : Nat} {m : List UInt8} {p : Option Nat} {t : Nat → UInt8} {j : Nat} (h : wOk m p) : pw (fun l => wordAt (setO m p (t l)) j) L = wX (pk (fun _ => 1) L) (pk (fun l => (t l).toNat) L) m p j := by
  unfold pw wX
  rw [pk_mul, pk_mul, pk_add]
  exact pk_congr fun i _ => by rw [qW_eq, qW_set h, Nat.mul_one]
theorem wS_eq {L : Nat} {t : Nat → UInt8} : ∀ (n : Nat) {m : List UInt8} {p : Option Nat}, wOk m p → wordsAll L (fun l => setO m p (t l)) n = wS (pk (fun _ => 1) L) (pk (fun l => (t l).toNat) L) m p n
  | 0, m, p, h => rfl
  | n + 1, m, p, h => by
    unfold wordsAll wS
    have e : (fun l => (setO m p (t l)).drop 64) = fun l => setO (m.drop 64) (wNext p) (t l) := funext fun l => setO_drop _ _ _
    rw [e, wS_eq n h.next]
    simp only [words16, wX_eq h, wW]
/-- No lane is g. -/
def noLane (g : Nat) : Nat → Nat → Bool
  | 0, _ => true
  | L + 1, x => !decide (x % 2 ^ 64 = g) && noLane g L (x / 2 ^ 64)
theorem noLane_ok {g : Nat} : ∀ {L : Nat} {f : Nat → Nat}, (∀ i, f i < 2 ^ 64) → noLane g L (pk f L) = true → ∀ i, i < L → f i ≠ g
  | L + 1, f, hf, h, i, hi => by
    rw [pk_succ] at h
    unfold noLane at h
    simp only [Bool.and_eq_true, Bool.not_eq_true', decide_eq_false_iff_not] at h
    have h0 := hf 0
    have e1 : (f 0 + 2 ^ 64 * pk (fun i => f (i + 1)) L) % 2 ^ 64 = f 0 := by rw [Nat.add_mul_mod_self_left, Nat.mod_eq_of_lt h0]
    have e2 : (f 0 + 2 ^ 64 * pk (fun i => f (i + 1)) L) / 2 ^ 64 = pk (fun i => f (i + 1)) L := by rw [Nat.add_mul_div_left _ _ (by decide), Nat.div_eq_of_lt h0, Nat.zero_add]
    rw [e1, e2] at h
    match i with
    | 0 => exact h.1
    | i + 1 => exact noLane_ok (f := fun i => f (i + 1)) (fun i => hf _) h.2 i (by omega)
theorem qW_digN (a b c d e f g h : Nat) (ha : a < 2 ^ 32) : qW (digN [a, b, c, d, e, f, g, h]) 0 = a := by
  unfold qW qB digN
  simp [List.range, List.range.loop]
  omega
/-- What is asked of the kernel: the messages' sums side by side, none of which begins with the word g. -/
def laneAsk (g L : Nat) (t : Nat → UInt8) (m : List UInt8) (p n : Nat) : Bool :=
  noLane g L ((qall (lmask L) (pk (fun _ => 1) L) (ksF Kc 0 64) (lanes8 L (fun _ => v0)) (wS (pk (fun _ => 1) L) (pk (fun l => (t l).toNat) L) m (some p) n)).headD 0)
theorem lane_ne {g L n p : Nat} {t : Nat → UInt8} {m : List UInt8} (hm : m.length = 64 * n) (h : wOk m (some p)) (ha : laneAsk g L t m p n = true) {l : Nat} (hl : l < L) {d : Dig} (hd : qW d.l 0 = g) :
    digN (qnat8 (takes Kc v0 (m.set p (t l))).1) ≠ d.l := fun e => by
  have h1 := qall_eq Kc L n (fun _ => v0) (fun l => setO m (some p) (t l))
  rw [wS_eq n h] at h1
  unfold laneAsk at ha
  rw [h1] at ha
  have h2 := noLane_ok (f := fun l => (qtks Kc v0 (setO m (some p) (t l)) n).a.toNat) (fun i => u32_lt64 _) (by simpa [lanes8, pw] using ha) l hl
  apply h2
  rw [← hd, ← e, takes_qtks Kc n v0 (m.set p (t l)) (by rw [List.length_set]; exact hm)]
  unfold qnat8
  rw [qW_digN _ _ _ _ _ _ _ _ (u32_lt _)]
  rfl
end Go.Proofs.YtobjojeliibinaaDoor

/- Plain words: the block of BlocksApart; for no byte and no voter has it the first block's id. -/
namespace Go.Proofs.YtobjojeliibinaaDoor
set_option linter.unusedVariables false
set_option linter.unusedSimpArgs false

def dg1 : Dig := ⟨[1, 0, 0, 0, 0, 0, 0, 0, 0, 0, 0, 0, 0, 0, 0, 0], rfl⟩
def apS (k : Int) : Signed := ⟨k, ⟨0, [dg1], []⟩⟩
def apV : Vdr := ⟨dig0, 3⟩
def apB (tx : UInt8) (k : Int) : Block := ⟨1, 1, gid, ⟨1, 0, gid, [apS k]⟩, [[tx]], [apV]⟩
def apM (tx : UInt8) (k : Int) : List UInt8 := refPad (framed 6 [(wBlock (apB tx k) ⟨0, []⟩).bs])
def apG : Nat := qW gid.l 0
theorem ap_err0 (tx : UInt8) : (wBlock (apB tx 0) ⟨0, []⟩).err = 0 := by kernel_rfl
theorem ap_len0 : (apM 0 0).length = 64 * 2 := by kernel_rfl
theorem ap_set0 (tx : UInt8) : apM tx 0 = (apM 0 0).set 81 tx := by kernel_rfl
theorem ap_lane0 : laneAsk apG 256 UInt8.ofNat (apM 0 0) 81 2 = true := by kernel_rfl
theorem ap_zero0 : qB (apM 0 0) 81 = 0 := by kernel_rfl
theorem ap_err1 (tx : UInt8) : (wBlock (apB tx 1) ⟨0, []⟩).err = 0 := by kernel_rfl
theorem ap_len1 : (apM 0 1).length = 64 * 2 := by kernel_rfl
theorem ap_set1 (tx : UInt8) : apM tx 1 = (apM 0 1).set 81 tx := by kernel_rfl
theorem ap_lane1 : laneAsk apG 256 UInt8.ofNat (apM 0 1) 81 2 = true := by kernel_rfl
theorem ap_zero1 : qB (apM 0 1) 81 = 0 := by kernel_rfl
theorem ap_err2 (tx : UInt8) : (wBlock (apB tx 2) ⟨0, []⟩).err = 0 := by kernel_rfl
theorem ap_len2 : (apM 0 2).length = 64 * 2 := by kernel_rfl
theorem ap_set2 (tx : UInt8) : apM tx 2 = (apM 0 2).set 81 tx := by kernel_rfl
theorem ap_lane2 : laneAsk apG 256 UInt8.ofNat (apM 0 2) 81 2 = true := by kernel_rfl
theorem ap_zero2 : qB (apM 0 2) 81 = 0 := by kernel_rfl
theorem ap_err3 (tx : UInt8) : (wBlock (apB tx 3) ⟨0, []⟩).err = 0 := by kernel_rfl
theorem ap_len3 : (apM 0 3).length = 64 * 2 := by kernel_rfl
theorem ap_set3 (tx : UInt8) : apM tx 3 = (apM 0 3).set 81 tx := by kernel_rfl
theorem ap_lane3 : laneAsk apG 256 UInt8.ofNat (apM 0 3) 81 2 = true := by kernel_rfl
theorem ap_zero3 : qB (apM 0 3) 81 = 0 := by kernel_rfl
theorem ap_err4 (tx : UInt8) : (wBlock (apB tx 4) ⟨0, []⟩).err = 0 := by kernel_rfl
theorem ap_len4 : (apM 0 4).length = 64 * 2 := by kernel_rfl
theorem ap_set4 (tx : UInt8) : apM tx 4 = (apM 0 4).set 81 tx := by kernel_rfl
theorem ap_lane4 : laneAsk apG 256 UInt8.ofNat (apM 0 4) 81 2 = true := by kernel_rfl
theorem ap_zero4 : qB (apM 0 4) 81 = 0 := by kernel_rfl
theorem ap_err5 (tx : UInt8) : (wBlock (apB tx 5) ⟨0, []⟩).err = 0 := by kernel_rfl
theorem ap_len5 : (apM 0 5).length = 64 * 2 := by kernel_rfl
theorem ap_set5 (tx : UInt8) : apM tx 5 = (apM 0 5).set 81 tx := by kernel_rfl
theorem ap_lane5 : laneAsk apG 256 UInt8.ofNat (apM 0 5) 81 2 = true := by kernel_rfl
theorem ap_zero5 : qB (apM 0 5) 81 = 0 := by kernel_rfl
theorem ap_err6 (tx : UInt8) : (wBlock (apB tx 6) ⟨0, []⟩).err = 0 := by kernel_rfl
theorem ap_len6 : (apM 0 6).length = 64 * 2 := by kernel_rfl
theorem ap_set6 (tx : UInt8) : apM tx 6 = (apM 0 6).set 81 tx := by kernel_rfl
theorem ap_lane6 : laneAsk apG 256 UInt8.ofNat (apM 0 6) 81 2 = true := by kernel_rfl
theorem ap_zero6 : qB (apM 0 6) 81 = 0 := by kernel_rfl
theorem ap_one {tx : UInt8} {k : Int} (he : (wBlock (apB tx k) ⟨0, []⟩).err = 0) (hl : (apM 0 k).length = 64 * 2) (hs : apM tx k = (apM 0 k).set 81 tx) (ha : laneAsk apG 256 UInt8.ofNat (apM 0 k) 81 2 = true) (hz : qB (apM 0 k) 81 = 0) : (wBlock (apB tx k) ⟨0, []⟩).err = 0 ∧ idOf (apB tx k) ≠ gid := by
  refine ⟨he, fun e => ?_⟩
  have h1 := lane_ne (d := gid) (l := tx.toNat) hl ⟨by rw [hl]; decide, hz⟩ ha tx.toNat_lt rfl
  rw [UInt8.ofNat_toNat, ← hs] at h1
  apply h1
  rw [← e, idOf_q he]
  unfold idQ
  rw [← one_msg Kc _ _ (refPad_len _)]
  rfl
theorem ap_all {tx : UInt8} {k : Nat} (h : k < 7) : (wBlock (apB tx (k : Int)) ⟨0, []⟩).err = 0 ∧ idOf (apB tx (k : Int)) ≠ gid :=
  match k, h with
  | 0, _ => ap_one (ap_err0 tx) ap_len0 (ap_set0 tx) ap_lane0 ap_zero0
  | 1, _ => ap_one (ap_err1 tx) ap_len1 (ap_set1 tx) ap_lane1 ap_zero1
  | 2, _ => ap_one (ap_err2 tx) ap_len2 (ap_set2 tx) ap_lane2 ap_zero2
  | 3, _ => ap_one (ap_err3 tx) ap_len3 (ap_set3 tx) ap_lane3 ap_zero3
  | 4, _ => ap_one (ap_err4 tx) ap_len4 (ap_set4 tx) ap_lane4 ap_zero4
  | 5, _ => ap_one (ap_err5 tx) ap_len5 (ap_set5 tx) ap_lane5 ap_zero5
  | 6, _ => ap_one (ap_err6 tx) ap_len6 (ap_set6 tx) ap_lane6 ap_zero6
theorem ap_sm (tx : UInt8) (k : Int) : smBlk (apB tx k) := ⟨⟨by simp [apB], fun s hs => by
  obtain rfl : s = apS k := by simpa [apB] using hs
  exact ⟨by simp [apS], by simp [apS]⟩⟩, by simp [apB], by simp [apB], fun x h => by
  obtain rfl : x = [tx] := by simpa [apB] using h
  simp⟩
def apT (tx : UInt8) (k : Int) (id : Dig) : Tr := ⟨gid, [(gid, g0), (id, apB tx k)], [qcA 0]⟩
theorem ap_add {tx : UInt8} {k : Int} {id : Dig} (h : id ≠ gid) : addE (fkT 0 0) (apB tx k) 0 id = (0, id, apT tx k id) := by
  have h0 : lkN id (fkT 0 0).nodes = none := by simp [fkT, lkN, Ne.symm h, h]
  have h1 : lkN gid (fkT 0 0).nodes = some g0 := by simp [fkT, lkN]
  have ha : askE (fkT 0 0) (apB tx k) 0 id = 0 := by
    unfold askE
    rw [h0, show (apB tx k).parent = gid from rfl, h1]
    rfl
  unfold addE
  rw [if_pos ha]
  rfl
theorem ap_get {tx : UInt8} {k : Int} {id : Dig} (h : id ≠ gid) : (lkN id (apT tx k id).nodes).getD blk0 = apB tx k ∧ (lkN id (apT tx k id).nodes).isSome = true := by
  have : lkN id (apT tx k id).nodes = some (apB tx k) := by simp [apT, lkN, Ne.symm h, h]
  rw [this]; exact ⟨rfl, rfl⟩
theorem ap_tok {tx : UInt8} {k : Int} {id : Dig} (h0 : TOk (fkT 0 0)) (h : id ≠ gid) : TOk (apT tx k id) := by
  have h1 := addE_ok (t := fkT 0 0) h0 (b := apB tx k) (err := 0) (id := id) (ap_sm tx k)
  rw [ap_add h] at h1; exact h1
end Go.Proofs.YtobjojeliibinaaDoor

