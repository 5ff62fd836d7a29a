/- Part 5. What is proved: see the last part: for every input the law returns true, and the input reads as it did. -/
import Derived.Test.YtobjojeliibinaaGreatDoorCr4
/- Walks, by program (wg.py) out of a spec. -/
namespace Go.Proofs.YtobjojeliibinaaGreatDoor
open Go
set_option linter.unusedVariables false
set_option linter.unusedSimpArgs false

attribute [local irreducible] Gl Gc Gx Gs Runs Wt

attribute [local irreducible] dc qcC blkC idOf TreeR RdBlock RdQC gid fkT genC chC

set_option maxHeartbeats 400000 in
theorem alive15_ok {w : World} {F : Nat → Prop} (h : stars [] w F) {ea : Nat → Addr} {es : List Nat} [Has es 1] [Has es 4] [Has es 8] [Has es 9] [Has es 12] [Has es 14] [Has es 16] [Has es 17] (hE : GErr es w (fun k => ¬ F k) 340 ea) (hK : KR w (fun k => ¬ F k))  :
    Calls Tryz.prog 14 #[] w (Post w F (fun _ : Unit => .bool true) (fun _ => [])) := by
  refine g_enter (env := []) Tryz.func14 rfl h Tryz.ntmps14 rfl rfl ?_
  refine gsr ?_
  refine gp zas ?_
  refine gnt ?_
  refine gsr ?_
  refine zc (fun q => ?_) (c := fun w1 F1 F2 h1 h2 hd hst => genesis15_ok h1 (hE.mv hst.still) (hK.mv hst.still))
  have igen := Len.of genC_len
  have jgen := One.of (rdGen (w := w) (A := fun _ => True)).one
  refine gp zmv ?_
  refine gp zex ?_
  refine gp zex ?_
  refine gp zex ?_
  refine gp zex ?_
  refine zal fun b2 => ?_
  refine gl_eqc (cs' := blkC) (by repeat (first | exact Pick.here | apply Pick.there)) (by kernel_rfl) ?_
  refine zal fun b3 => ?_
  refine gp zas ?_
  refine zsA genC_len One.h ?_
  refine zsN ?_
  refine gp zas ?_
  refine gnt ?_
  refine gc_seq ?_
  refine gsr ?_
  refine gp zmv ?_
  refine gp (r_bool (c := false) znt rfl) ?_
  refine gnt ?_
  refine gc_condF rfl rfl ?_
  refine gc_skip ?_
  refine gx_then ?_
  refine gsr ?_
  refine gp (zba (cs := dc dig0) (hf := by kernel_rfl)) ?_
  refine zal fun b5 => ?_
  refine zsN ?_
  refine gnt ?_
  refine gc_seq ?_
  refine gsr ?_
  refine gp zmv ?_
  refine gnt ?_
  refine gc_block ?_
  refine gc_loop (α := Nat × List Value) (fun y => [pureR (y.1 ≤ 3 ∧ y.2.length = 39 ∧ ∀ v ∈ y.2, v.oneCell' = true), TreeR q (fkT y.1 0), blk b2 30 y.2, blk b3 23 (dc (idA y.1)), blk b5 23 (dc (if y.1 = 0 then dig0 else idA 1)), VlR RdBlock y.2 (blA y.1)]) (fun y => [(17, .int .i64 (y.1 : Int))]) [0, 6, 7, 18, 19, 20, 21, 22, 23, 24, 25, 26, 27, 28, 29, 30, 31, 32, 33, 34] (fun y => 3 - y.1) (0, genC) ?_ ?_ ?_
  · refine env_start (by kernel_rfl)
  · intro w' hw
    exact St.pureI (p := 0 ≤ 3 ∧ _ ∧ _) ⟨by decide, genC_len, One.h⟩ ((St.vl hw (rdGen (w := w') (A := fun _ => False))).sel (M := [TreeR q (fkT 0 0), blk b2 30 genC, blk b3 23 (dc gid), blk b5 23 (dc dig0), VlR RdBlock genC g0]) (by repeat (first | exact Sel.nil | (apply Sel.cons; · (repeat (first | exact Pick.here | apply Pick.there))))))
  · intro y u
    obtain ⟨k, cs⟩ := y
    refine gc_pureR (fun hk => ?_)
    obtain ⟨hk, hlc, hoc⟩ := hk
    replace hk : k ≤ 3 := hk
    replace hlc : cs.length = 39 := hlc
    have ic := Len.of hlc
    have jc := One.of (show ∀ v ∈ cs, v.oneCell' = true from hoc)
    have hrk := blA_round k
    refine gsr ?_
    refine gp zlt ?_
    refine gnt ?_
    refine gc_seq ?_
    refine gif rfl (fun hc18 => ?_) (fun hc18 => ?_)
    · try simp only at hc18
      have hk' : k < 3 := by omega
      refine gc_skip ?_
      refine gx_then ?_
      refine gc_seq ?_
      refine gc_block ?_
      refine gsr ?_
      refine gp zmv ?_
      refine gp zas ?_
      refine gnt ?_
      refine gsr ?_
      refine gp (zLa (cs := cs)) ?_
      refine gp zL ?_
      refine zc ?_ (c := fun w1 F1 F2 h1 h2 hd hst => child15_ok (b := blA k) (id := idA k) (on := 1) (tx := 1) h1 (vl_rd h2 hd (by repeat (first | exact Pick.here | apply Pick.there))) (by omega) (by decide))
      rintro ⟨b23, b24⟩
      have ich := Len.of (chC_len (blA k) (idA k) 1 b24)
      have jch := One.of (chC_one (blA k) (idA k) 1 b24)
      refine zsA (chC_len _ _ _ _) (chC_one _ _ _ _) ?_
      refine gnt ?_
      refine gsr ?_
      refine gp zas ?_
      refine gnt ?_
      refine gc_seq ?_
      refine gsr ?_
      refine gp zmv ?_
      refine gp (zLa (cs := chC (blA k) (idA k) 1 b24)) ?_
      refine zc (fun _ => ?_) (c := fun w1 F1 F2 h1 h2 hd hst => tadd_eq (b := blA (k + 1)) (hE.mv hst.still) (hK.mv hst.still) h1 (fkT_ok (by omega)) (rd_chC (b := blA k) (id := idA k) (on := 1) (tx := 1) (rd_row h2 hd (by repeat (first | exact Pick.here | apply Pick.there))) (rd_row h2 hd (by repeat (first | exact Pick.here | apply Pick.there)))) smB_ch (blA_err (by omega)) (blA_id (by omega)) (fkA (by omega)))
      refine gp zmv ?_
      refine gp zex ?_
      refine gp zex ?_
      refine zsN ?_
      refine gp zas ?_
      refine gnt ?_
      refine gsr ?_
      refine gp zmv ?_
      refine gp (r_bool (c := false) (r_nenil rfl (by kernel_rfl)) rfl) ?_
      refine gnt ?_
      refine gc_condF rfl rfl ?_
      refine gc_skip ?_
      refine gx_then ?_
      refine gsr ?_
      refine gp zmv ?_
      refine gp (r_bool (c := decide (k = 0)) zei (by rw [Bool.eq_iff_iff]; simp only [decide_eq_true_eq]; omega)) ?_
      refine gnt ?_
      refine gif rfl (fun hc32 => ?_) (fun hc32 => ?_)
      · try simp only at hc32
        have hk0 : k = 0 := by simpa using hc32
        refine gc_region ?_
        refine gp zL ?_
        refine zsN ?_
        refine gl_nil ?_
        refine gx_block_normal ?_
        refine gx_then ?_
        refine gc_region ?_
        refine gp zad ?_
        refine gp zmv ?_
        refine gl_nil ?_
        refine zrd ((k + 1, chC (blA k) (idA k) 1 b24)) ?_ ?_
        · show 3 - (k + 1) < 3 - k
          omega
        · obtain rfl : k = 0 := by omega
          intro w' hw
          have h1 := hw.conv (M := [rowR 86 1 (some ⟨b24, 0, none⟩) 1 1 [.slice (some ⟨b23, 0, none⟩) 1 1], rowR 5 1 (some ⟨b23, 0, none⟩) 1 1 [B8 1]]) (by repeat (first | exact Sel.nil | (apply Sel.cons; · (repeat (first | exact Pick.here | apply Pick.there))))) (fun _ _ => vl_chC (b := blA 0) (id := idA 0) (on := 1))
          exact St.pureI (p := 0 + 1 ≤ 3 ∧ _ ∧ _) ⟨by omega, chC_len _ _ _ _, chC_one _ _ _ _⟩ (h1.sel (M := [TreeR q (fkT (0 + 1) 0), blk b2 30 (chC (blA 0) (idA 0) 1 b24), blk b3 23 (dc (idA (0 + 1))), blk b5 23 (dc (idA (0 + 1))), VlR RdBlock (chC (blA 0) (idA 0) 1 b24) (blA (0 + 1))]) (by repeat (first | exact Sel.nil | (apply Sel.cons; · (repeat (first | exact Pick.here | apply Pick.there))))))
      · try simp only at hc32
        have hk0 : ¬ k = 0 := by simpa using hc32
        refine gc_skip ?_
        refine gx_block_normal ?_
        refine gx_then ?_
        refine gc_region ?_
        refine gp zad ?_
        refine gp zmv ?_
        refine gl_nil ?_
        refine zrd ((k + 1, chC (blA k) (idA k) 1 b24)) ?_ ?_
        · show 3 - (k + 1) < 3 - k
          omega
        · rw [if_neg (show ¬ k = 0 by omega)]
          intro w' hw
          have h1 := hw.conv (M := [rowR 86 1 (some ⟨b24, 0, none⟩) 1 1 [.slice (some ⟨b23, 0, none⟩) 1 1], rowR 5 1 (some ⟨b23, 0, none⟩) 1 1 [B8 1]]) (by repeat (first | exact Sel.nil | (apply Sel.cons; · (repeat (first | exact Pick.here | apply Pick.there))))) (fun _ _ => vl_chC (b := blA k) (id := idA k) (on := 1))
          exact St.pureI (p := k + 1 ≤ 3 ∧ _ ∧ _) ⟨by omega, chC_len _ _ _ _, chC_one _ _ _ _⟩ (h1.sel (M := [TreeR q (fkT (k + 1) 0), blk b2 30 (chC (blA k) (idA k) 1 b24), blk b3 23 (dc (idA (k + 1))), blk b5 23 (dc (idA 1)), VlR RdBlock (chC (blA k) (idA k) 1 b24) (blA (k + 1))]) (by repeat (first | exact Sel.nil | (apply Sel.cons; · (repeat (first | exact Pick.here | apply Pick.there))))))
    · try simp only at hc18
      have hk' : k = 3 := by omega
      subst hk'
      refine gc_exit ?_
      refine gx_then_exit ?_
      refine gx_round_exit ?_
      refine gx_block_hit ?_
      refine gx_then ?_
      refine gc_seq ?_
      refine gc_regionZ 7 ([blk b3 23 (dc (idA 3)), blk b5 23 (dc (if (3 : Nat) = 0 then dig0 else idA 1))]) ?_
      refine yps 0 rfl zmv ?_
      refine yps 1 rfl zL ?_
      refine yps 2 rfl (zbu (cs := .int .i64 1 :: .int .i64 3 :: (dc (idA 3) ++ [.slice none 0 0]))) ?_
      refine yps 4 rfl zL ?_
      refine yo2s 3 5 rfl rfl ?_ ?_
      · refine zc ?_ (c := fun w1 F1 F2 h1 h2 hd hst => tripe_ok (x := ⟨1, 3, idA 3, []⟩) (tr_rd h2 hd (by repeat (first | exact Pick.here | apply Pick.there))) (fkT_ok (show 3 ≤ 5 by decide)) h1 (rdQ1 1 3 (idA 3)) (by decide))
        rintro ⟨a38, c38⟩
        rw [ripeA]
        refine yxs ?_
        refine yos 5 rfl ?_
        refine zeN fun b40 => ?_
        refine yxs ?_
        refine yos 6 rfl ?_
        refine zc (fun _ => ?_) (c := fun w1 F1 F2 h1 h2 hd hst => same03_ok (l1 := [idA 1]) (l2 := [idA 1]) h1 (digs_of_row (rd_row h2 hd (by repeat (first | exact Pick.here | apply Pick.there)))) (digs_of_one (rd_row h2 hd (by repeat (first | exact Pick.here | apply Pick.there)))))
        refine yxs ?_
        refine yzs rfl ?_
        refine gp zas ?_
        refine gnt ?_
        refine gc_ret ?_
        refine gx_ret1 rfl (by conv => lhs; whnf) ?_
        exact fun w' hw => ⟨(), by simp, hw.sel (by repeat (first | exact Sel.nil | (apply Sel.cons; · (repeat (first | exact Pick.here | apply Pick.there)))))⟩
      · refine zeN fun b40 => ?_
        refine yxs ?_
        refine yos 3 rfl ?_
        refine zc ?_ (c := fun w1 F1 F2 h1 h2 hd hst => tripe_ok (x := ⟨1, 3, idA 3, []⟩) (tr_rd h2 hd (by repeat (first | exact Pick.here | apply Pick.there))) (fkT_ok (show 3 ≤ 5 by decide)) h1 (rdQ1 1 3 (idA 3)) (by decide))
        rintro ⟨a38, c38⟩
        rw [ripeA]
        refine yxs ?_
        refine yos 6 rfl ?_
        refine zc (fun _ => ?_) (c := fun w1 F1 F2 h1 h2 hd hst => same03_ok (l1 := [idA 1]) (l2 := [idA 1]) h1 (digs_of_row (rd_row h2 hd (by repeat (first | exact Pick.here | apply Pick.there)))) (digs_of_one (rd_row h2 hd (by repeat (first | exact Pick.here | apply Pick.there)))))
        refine yxs ?_
        refine yzs rfl ?_
        refine gp zas ?_
        refine gnt ?_
        refine gc_ret ?_
        refine gx_ret1 rfl (by conv => lhs; whnf) ?_
        exact fun w' hw => ⟨(), by simp, hw.sel (by repeat (first | exact Sel.nil | (apply Sel.cons; · (repeat (first | exact Pick.here | apply Pick.there)))))⟩

end Go.Proofs.YtobjojeliibinaaGreatDoor

/- Walks, by program (wg.py) out of a spec. -/
namespace Go.Proofs.YtobjojeliibinaaGreatDoor
open Go
set_option linter.unusedVariables false
set_option linter.unusedSimpArgs false


theorem take_eq_succ {α : Type} {l m : List α} {k : Nat} {x : α} (h : l.take k = m.take k) (h1 : l[k]? = some x) (h2 : m[k]? = some x) : l.take (k + 1) = m.take (k + 1) := by
  rw [List.take_add_one, List.take_add_one, h, h1, h2]
theorem range_right {w : World} {g o : Nat} {xs ys : List Value} (h : w.rangeAt g o (xs ++ ys)) : w.rangeAt g (o + xs.length) ys := fun j v hj => by
  have := h (xs.length + j) v (by rw [List.getElem?_append_right (by omega)]; simpa using hj)
  rwa [← Nat.add_assoc] at this
theorem range_at {w : World} {g o : Nat} {xs : List Value} (h : w.rangeAt g o xs) {j : Nat} {v : Value} (hj : xs[j]? = some v) : w.cell? ⟨g, o + j, none⟩ = some v := h j v hj

attribute [local irreducible] Gl Gc Gx Gs Runs Wt

set_option maxHeartbeats 400000 in
theorem sameDigs_ok {w : World} {F : Nat → Prop} {n1 c1 n2 c2 : Nat} {a1 a2 : Option Addr} {l1 l2 : List Dig} (h : stars [] w F) (hx : RdList (RdDig) w (fun k => ¬ F k) 16 a1 n1 l1) (hy : RdList (RdDig) w (fun k => ¬ F k) 16 a2 n2 l2) :
    Calls Tryz.prog 65 #[.slice a1 n1 c1, .slice a2 n2 c2] w (Post w F (fun _ : Unit => .bool (decide (l1 = l2))) (fun _ => [])) := by
  have hn1 := hx.len (by decide)
  have hn2 := hy.len (by decide)
  have hm1 := hx.max
  simp only [maxLen] at hm1
  refine g_enter (env := [(0, .slice a1 n1 c1), (1, .slice a2 n2 c2)]) Tryz.func65 rfl h Tryz.ntmps65 rfl rfl ?_
  refine gsr ?_
  refine gp zas ?_
  refine gnt ?_
  refine gc_seq ?_
  refine gsr ?_
  refine gp zmv ?_
  refine gp zln ?_
  refine gp zmv ?_
  refine gp zln ?_
  refine gp zni ?_
  refine gnt ?_
  refine gif rfl (fun hc10 => ?_) (fun hc10 => ?_)
  · refine gsr ?_
    refine gp zas ?_
    refine gnt ?_
    refine gc_ret ?_
    refine gx_then_ret ?_
    refine gx_ret1 rfl (by conv => lhs; whnf) ?_
    have e : decide (l1 = l2) = false := decide_eq_false (fun h => by rw [h] at hn1; (try simp only at hc10); omega)
    rw [e]
    exact ze ()
  · have hnn : n1 = n2 := by (try simp only at hc10); omega
    refine gc_skip ?_
    refine gx_then ?_
    refine gc_seq ?_
    refine gsr ?_
    refine gp zmv ?_
    refine gp zln ?_
    refine gp zmv ?_
    refine gnt ?_
    refine gc_block ?_
    refine gc_loop (α := Nat) (fun k => [pureR (k ≤ n1 ∧ l1.take k = l2.take k)]) (fun k => [(13, .int .i64 (k : Int))]) [4, 5, 14, 15, 16, 17, 18, 19, 20, 21, 22, 23, 24, 25] (fun k => n1 - k) 0 ?_ ?_ ?_
    · refine env_start (by kernel_rfl)
    · rintro w' hw
      obtain ⟨F', hF', hst'⟩ := hw.sel (M := []) (by repeat (first | exact Sel.nil | (apply Sel.cons; · (repeat (first | exact Pick.here | apply Pick.there)))))
      exact ⟨F', stars_pure_mk ⟨Nat.zero_le _, rfl⟩ hF', hst'⟩
    · intro k u
      refine gc_pureR (fun hk => ?_)
      replace hk : k ≤ n1 ∧ l1.take k = l2.take k := hk
      refine gsr ?_
      refine gp zlt ?_
      refine gnt ?_
      refine gc_seq ?_
      refine gif rfl (fun hc14 => ?_) (fun hc14 => ?_)
      · have hk' : k < n1 := by (try simp only at hc14); omega
        obtain ⟨g1, o1, cs1, x, ha1, hA1, hg1, hra1, hcl1, hl1, hrd1⟩ := hx.elem (by decide) hk'
        obtain ⟨g2, o2, cs2, y, ha2, hA2, hg2, hra2, hcl2, hl2, hrd2⟩ := hy.elem (i := k) (by decide) (by omega)
        subst ha1
        subst ha2
        unfold RdDig at hrd1 hrd2
        subst hrd1
        subst hrd2
        refine gc_skip ?_
        refine gx_then ?_
        refine gc_seq ?_
        refine gc_block ?_
        refine gsr ?_
        refine gp zmv ?_
        refine gp zas ?_
        refine gnt ?_
        refine gc_seq ?_
        refine gc_regionS (by kernel_rfl) (by kernel_rfl) ?_
        refine sp zmv ?_
        refine sp zmv ?_
        refine sp (r_indexAddr_slice rfl rfl Ty.sl_52 Ty.sz_23 (by omega) (by omega)) ?_
        refine sp (r_ldNo rfl Ty.row_23 Ty.sz_23 hra1 hcl1 (by decide) hA1) ?_
        refine sp zmv ?_
        refine sp zmv ?_
        refine sp (r_indexAddr_slice rfl rfl Ty.sl_52 Ty.sz_23 (by omega) (by omega)) ?_
        refine sp (r_ldNo rfl Ty.row_23 Ty.sz_23 hra2 hcl2 (by decide) hA2) ?_
        refine sp znd ?_
        refine gs_nil ?_
        refine gx_then ?_
        refine gif rfl (fun hc24 => ?_) (fun hc24 => ?_)
        · refine gsr ?_
          refine gp zas ?_
          refine gnt ?_
          refine gc_ret ?_
          refine gx_block_ret ?_
          refine gx_then_ret ?_
          refine gx_round_ret ?_
          refine gx_block_ret ?_
          refine gx_then_ret ?_
          refine gx_ret1 rfl (by conv => lhs; whnf) ?_
          have e : decide (l1 = l2) = false := decide_eq_false (fun h => by rw [h, hl2] at hl1; exact hc24 (Option.some.inj hl1).symm)
          rw [e]
          exact ze ()
        · refine gc_skip ?_
          refine gx_block_normal ?_
          refine gx_then ?_
          refine gc_region ?_
          refine gp zad ?_
          refine gp zmv ?_
          refine gl_nil ?_
          refine zrd (k + 1) ?_ ?_
          · show n1 - (k + 1) < n1 - k
            omega
          · rintro w' hw
            obtain ⟨F', hF', hst'⟩ := hw.sel (M := []) (by repeat (first | exact Sel.nil | (apply Sel.cons; · (repeat (first | exact Pick.here | apply Pick.there)))))
            refine ⟨F', stars_pure_mk ⟨show k + 1 ≤ n1 by omega, ?_⟩ hF', hst'⟩
            have hxy : x = y := hc24
            subst hxy
            exact take_eq_succ hk.2 hl1 hl2
      · refine gc_exit ?_
        refine gx_then_exit ?_
        refine gx_round_exit ?_
        refine gx_block_hit ?_
        refine gx_then ?_
        refine gsr ?_
        refine gp zas ?_
        refine gnt ?_
        refine gc_ret ?_
        refine gx_ret1 rfl (by conv => lhs; whnf) ?_
        have e : decide (l1 = l2) = true := decide_eq_true (by have h1 := hk.2; have hk' : k = n1 := (by (try simp only at hc14); omega); rw [List.take_of_length_le (by omega), List.take_of_length_le (by omega)] at h1; exact h1)
        rw [e]
        exact ze ()

end Go.Proofs.YtobjojeliibinaaGreatDoor

/- Walks, by program (wg.py) out of a spec. -/
namespace Go.Proofs.YtobjojeliibinaaGreatDoor
open Go
set_option linter.unusedVariables false
set_option linter.unusedSimpArgs false

attribute [local irreducible] Gl Gc Gx Gs Runs Wt

set_option maxHeartbeats 400000 in
theorem sameSig_ok {w : World} {F : Nat → Prop} {cs1 cs2 : List Value} {x y : Sig} (h : stars [] w F) (hx : RdSig w (fun k => ¬ F k) cs1 x) (hy : RdSig w (fun k => ¬ F k) cs2 y) :
    Calls Tryz.prog 119 #[.agg cs1.toArray, .agg cs2.toArray] w (Post w F (fun _ : Unit => .bool (decide (x = y))) (fun _ => [])) := by
  obtain ⟨a1, n1, c1, a2, n2, c2, rfl, hk1, hk2, hd1, hd2⟩ := hx
  obtain ⟨b1, m1, d1, b2, m2, d2, rfl, hj1, hj2, he1, he2⟩ := hy
  refine g_enter (env := [(0, .agg (List.toArray ([.int .i64 x.leaf, .slice a1 n1 c1, .slice a2 n2 c2]))), (1, .agg (List.toArray ([.int .i64 y.leaf, .slice b1 m1 d1, .slice b2 m2 d2])))]) Tryz.func119 rfl h Tryz.ntmps119 rfl rfl ?_
  refine gsr ?_
  refine zbN fun b2 => ?_
  refine zbN fun b3 => ?_
  refine gp zas ?_
  refine gnt ?_
  refine gc_seq ?_
  by_cases hsq0 : x.leaf = y.leaf
  · by_cases hsq1 : x.chains = y.chains
    · refine gc_region ?_
      refine gp zfa ?_
      refine gp zl ?_
      refine gp zfa ?_
      refine gp zl ?_
      refine gp (r_bool (r_eql_int rfl rfl) (decide_eq_true hsq0)) ?_
      refine gp zmv ?_
      refine gq zfa ?_
      refine gq zl ?_
      refine gq zfa ?_
      refine gq zl ?_
      refine zc (fun _ => ?_) (c := fun w1 F1 F2 h1 h2 hd hst => sameDigs_ok h1 (hd1.mv hst.still) (he1.mv hst.still))
      rw [decide_eq_true hsq1]
      refine gp zpk ?_
      refine gp zmv ?_
      refine gq zfa ?_
      refine gq zl ?_
      refine gq zfa ?_
      refine gq zl ?_
      refine zc (fun _ => ?_) (c := fun w1 F1 F2 h1 h2 hd hst => sameDigs_ok h1 (hd2.mv hst.still) (he2.mv hst.still))
      refine gp zpk ?_
      refine gp zas ?_
      refine gnt ?_
      refine gc_ret ?_
      refine gx_ret1 rfl (by conv => lhs; whnf) ?_
      have e : decide (x = y) = decide (x.path = y.path) := by obtain ⟨⟩ := x; obtain ⟨⟩ := y; simp_all
      rw [e]
      exact ze ()
    · refine gc_region ?_
      refine gp zfa ?_
      refine gp zl ?_
      refine gp zfa ?_
      refine gp zl ?_
      refine gp (r_bool (r_eql_int rfl rfl) (decide_eq_true hsq0)) ?_
      refine gp zmv ?_
      refine gq zfa ?_
      refine gq zl ?_
      refine gq zfa ?_
      refine gq zl ?_
      refine zc (fun _ => ?_) (c := fun w1 F1 F2 h1 h2 hd hst => sameDigs_ok h1 (hd1.mv hst.still) (he1.mv hst.still))
      rw [decide_eq_false hsq1]
      refine gp zpk ?_
      refine gp zmv ?_
      refine gn ?_
      refine gn ?_
      refine gn ?_
      refine gn ?_
      refine gn ?_
      refine gp zpk ?_
      refine gp zas ?_
      refine gnt ?_
      refine gc_ret ?_
      refine gx_ret1 rfl (by conv => lhs; whnf) ?_
      have e : decide (x = y) = false := decide_eq_false (fun h => hsq1 (by rw [h]))
      rw [e]
      exact ze ()
  · refine gc_region ?_
    refine gp zfa ?_
    refine gp zl ?_
    refine gp zfa ?_
    refine gp zl ?_
    refine gp (r_bool (r_eql_int rfl rfl) (decide_eq_false hsq0)) ?_
    refine gp zmv ?_
    refine gn ?_
    refine gn ?_
    refine gn ?_
    refine gn ?_
    refine gn ?_
    refine gp zpk ?_
    refine gp zmv ?_
    refine gn ?_
    refine gn ?_
    refine gn ?_
    refine gn ?_
    refine gn ?_
    refine gp zpk ?_
    refine gp zas ?_
    refine gnt ?_
    refine gc_ret ?_
    refine gx_ret1 rfl (by conv => lhs; whnf) ?_
    have e : decide (x = y) = false := decide_eq_false (fun h => hsq0 (by rw [h]))
    rw [e]
    exact ze ()

set_option maxHeartbeats 400000 in
theorem sameSigneds_ok {w : World} {F : Nat → Prop} {n1 c1 n2 c2 : Nat} {a1 a2 : Option Addr} {l1 l2 : List Signed} (h : stars [] w F) (hx : RdList (RdSigned w (fun k => ¬ F k)) w (fun k => ¬ F k) 4 a1 n1 l1) (hy : RdList (RdSigned w (fun k => ¬ F k)) w (fun k => ¬ F k) 4 a2 n2 l2) :
    Calls Tryz.prog 75 #[.slice a1 n1 c1, .slice a2 n2 c2] w (Post w F (fun _ : Unit => .bool (decide (l1 = l2))) (fun _ => [])) := by
  have hn1 := hx.len (by decide)
  have hn2 := hy.len (by decide)
  have hm1 := hx.max
  simp only [maxLen] at hm1
  refine g_enter (env := [(0, .slice a1 n1 c1), (1, .slice a2 n2 c2)]) Tryz.func75 rfl h Tryz.ntmps75 rfl rfl ?_
  refine gsr ?_
  refine gp zas ?_
  refine gnt ?_
  refine gc_seq ?_
  refine gsr ?_
  refine gp zmv ?_
  refine gp zln ?_
  refine gp zmv ?_
  refine gp zln ?_
  refine gp zni ?_
  refine gnt ?_
  refine gif rfl (fun hc10 => ?_) (fun hc10 => ?_)
  · refine gsr ?_
    refine gp zas ?_
    refine gnt ?_
    refine gc_ret ?_
    refine gx_then_ret ?_
    refine gx_ret1 rfl (by conv => lhs; whnf) ?_
    have e : decide (l1 = l2) = false := decide_eq_false (fun h => by rw [h] at hn1; (try simp only at hc10); omega)
    rw [e]
    exact ze ()
  · have hnn : n1 = n2 := by (try simp only at hc10); omega
    refine gc_skip ?_
    refine gx_then ?_
    refine gc_seq ?_
    refine gsr ?_
    refine gp zmv ?_
    refine gp zln ?_
    refine gp zmv ?_
    refine gnt ?_
    refine gc_block ?_
    refine gc_loop (α := Nat) (fun k => [pureR (k ≤ n1 ∧ l1.take k = l2.take k)]) (fun k => [(13, .int .i64 (k : Int))]) [4, 5, 14, 15, 16, 17, 18, 19, 20, 21, 22, 23, 24, 25, 26, 27, 28, 29, 30, 31, 32, 33, 34, 35, 36, 37, 38, 39, 40, 41] (fun k => n1 - k) 0 ?_ ?_ ?_
    · refine env_start (by kernel_rfl)
    · rintro w' hw
      obtain ⟨F', hF', hst'⟩ := hw.sel (M := []) (by repeat (first | exact Sel.nil | (apply Sel.cons; · (repeat (first | exact Pick.here | apply Pick.there)))))
      exact ⟨F', stars_pure_mk ⟨Nat.zero_le _, rfl⟩ hF', hst'⟩
    · intro k u
      refine gc_pureR (fun hk => ?_)
      replace hk : k ≤ n1 ∧ l1.take k = l2.take k := hk
      refine gsr ?_
      refine gp zlt ?_
      refine gnt ?_
      refine gc_seq ?_
      refine gif rfl (fun hc14 => ?_) (fun hc14 => ?_)
      · have hk' : k < n1 := by (try simp only at hc14); omega
        obtain ⟨g1, o1, cs1, x, ha1, hA1, hg1, hra1, hcl1, hl1, hrd1⟩ := hx.elem (by decide) hk'
        obtain ⟨g2, o2, cs2, y, ha2, hA2, hg2, hra2, hcl2, hl2, hrd2⟩ := hy.elem (i := k) (by decide) (by omega)
        subst ha1
        subst ha2
        obtain ⟨s1, rfl, hs1⟩ := hrd1
        obtain ⟨s2, rfl, hs2⟩ := hrd2
        refine gc_skip ?_
        refine gx_then ?_
        refine gc_seq ?_
        refine gc_block ?_
        refine gsr ?_
        refine gp zmv ?_
        refine gp zas ?_
        refine gnt ?_
        refine gc_seq ?_
        by_cases hsp6 : x.who = y.who
        · refine gc_regionT 22 (by kernel_rfl) (by kernel_rfl) ?_
          refine sp zmv ?_
          refine sp zmv ?_
          refine sp (r_indexAddr_slice rfl rfl Ty.sl_24 Ty.sz_140 (by omega) (by omega)) ?_
          refine sp zfa ?_
          refine sp (r_ld1o rfl Ty.row_3 (range_at hra1 (j := 0) (by first | rfl | (simp only [List.getElem?_cons_succ, List.getElem?_cons_zero, List.cons_append, List.append_assoc, get_dc, get_L, Nat.reduceLeDiff, Nat.reduceSub, Nat.reduceAdd, Nat.le_refl]; rfl))) hA1) ?_
          refine sp zmv ?_
          refine sp zmv ?_
          refine sp (r_indexAddr_slice rfl rfl Ty.sl_24 Ty.sz_140 (by omega) (by omega)) ?_
          refine sp zfa ?_
          refine sp (r_ld1o rfl Ty.row_3 (range_at hra2 (j := 0) (by first | rfl | (simp only [List.getElem?_cons_succ, List.getElem?_cons_zero, List.cons_append, List.append_assoc, get_dc, get_L, Nat.reduceLeDiff, Nat.reduceSub, Nat.reduceAdd, Nat.le_refl]; rfl))) hA2) ?_
          refine sp (r_bool (b := !decide (x.who = y.who)) (c := false) (r_neq_int rfl rfl) (by simp [hsp6])) ?_
          refine sp zmv ?_
          refine sq zmv ?_
          refine sq zmv ?_
          refine sq (r_indexAddr_slice rfl rfl Ty.sl_24 Ty.sz_140 (by omega) (by omega)) ?_
          refine sq zfa ?_
          refine sq (r_ldNo rfl Ty.row_138 Ty.sz_138 (range_right (xs := [_]) hra1) hs1.len (by decide) hA1) ?_
          refine sq zmv ?_
          refine sq zmv ?_
          refine sq (r_indexAddr_slice rfl rfl Ty.sl_24 Ty.sz_140 (by omega) (by omega)) ?_
          refine sq zfa ?_
          refine sq (r_ldNo rfl Ty.row_138 Ty.sz_138 (range_right (xs := [_]) hra2) hs2.len (by decide) hA2) ?_
          refine gs_nil ?_
          refine zc (fun _ => ?_) (c := fun w1 F1 F2 h1 h2 hd hst => sameSig_ok (x := x.sig) (y := y.sig) h1 (hs1.mv hst.still) (hs2.mv hst.still))
          refine gq znt ?_
          refine gp zpk ?_
          refine gnt ?_
          refine gif rfl (fun hc40 => ?_) (fun hc40 => ?_)
          · refine gsr ?_
            refine gp zas ?_
            refine gnt ?_
            refine gc_ret ?_
            refine gx_block_ret ?_
            refine gx_then_ret ?_
            refine gx_round_ret ?_
            refine gx_block_ret ?_
            refine gx_then_ret ?_
            refine gx_ret1 rfl (by conv => lhs; whnf) ?_
            have e : decide (l1 = l2) = false := decide_eq_false (fun h => by rw [h, hl2] at hl1; exact (by simpa using hc40 : ¬ x.sig = y.sig) (by rw [Option.some.inj hl1]))
            rw [e]
            exact ze ()
          · refine gc_skip ?_
            refine gx_block_normal ?_
            refine gx_then ?_
            refine gc_region ?_
            refine gp zad ?_
            refine gp zmv ?_
            refine gl_nil ?_
            refine zrd (k + 1) ?_ ?_
            · show n1 - (k + 1) < n1 - k
              omega
            · rintro w' hw
              obtain ⟨F', hF', hst'⟩ := hw.sel (M := []) (by repeat (first | exact Sel.nil | (apply Sel.cons; · (repeat (first | exact Pick.here | apply Pick.there)))))
              refine ⟨F', stars_pure_mk ⟨show k + 1 ≤ n1 by omega, ?_⟩ hF', hst'⟩
              have hxy : x = y := by (cases x; cases y; simp_all)
              subst hxy
              exact take_eq_succ hk.2 hl1 hl2
        · refine gc_regionT 22 (by kernel_rfl) (by kernel_rfl) ?_
          refine sp zmv ?_
          refine sp zmv ?_
          refine sp (r_indexAddr_slice rfl rfl Ty.sl_24 Ty.sz_140 (by omega) (by omega)) ?_
          refine sp zfa ?_
          refine sp (r_ld1o rfl Ty.row_3 (range_at hra1 (j := 0) (by first | rfl | (simp only [List.getElem?_cons_succ, List.getElem?_cons_zero, List.cons_append, List.append_assoc, get_dc, get_L, Nat.reduceLeDiff, Nat.reduceSub, Nat.reduceAdd, Nat.le_refl]; rfl))) hA1) ?_
          refine sp zmv ?_
          refine sp zmv ?_
          refine sp (r_indexAddr_slice rfl rfl Ty.sl_24 Ty.sz_140 (by omega) (by omega)) ?_
          refine sp zfa ?_
          refine sp (r_ld1o rfl Ty.row_3 (range_at hra2 (j := 0) (by first | rfl | (simp only [List.getElem?_cons_succ, List.getElem?_cons_zero, List.cons_append, List.append_assoc, get_dc, get_L, Nat.reduceLeDiff, Nat.reduceSub, Nat.reduceAdd, Nat.le_refl]; rfl))) hA2) ?_
          refine sp (r_bool (b := !decide (x.who = y.who)) (c := true) (r_neq_int rfl rfl) (by simp [hsp6])) ?_
          refine sp zmv ?_
          refine sn ?_
          refine sn ?_
          refine sn ?_
          refine sn ?_
          refine sn ?_
          refine sn ?_
          refine sn ?_
          refine sn ?_
          refine sn ?_
          refine sn ?_
          refine gs_nil ?_
          refine gn ?_
          refine gn ?_
          refine gp zpk ?_
          refine gnt ?_
          refine gc_condT rfl rfl ?_
          refine gsr ?_
          refine gp zas ?_
          refine gnt ?_
          refine gc_ret ?_
          refine gx_block_ret ?_
          refine gx_then_ret ?_
          refine gx_round_ret ?_
          refine gx_block_ret ?_
          refine gx_then_ret ?_
          refine gx_ret1 rfl (by conv => lhs; whnf) ?_
          have e : decide (l1 = l2) = false := decide_eq_false (fun h => by rw [h, hl2] at hl1; exact hsp6 (by rw [Option.some.inj hl1]))
          rw [e]
          exact ze ()
      · refine gc_exit ?_
        refine gx_then_exit ?_
        refine gx_round_exit ?_
        refine gx_block_hit ?_
        refine gx_then ?_
        refine gsr ?_
        refine gp zas ?_
        refine gnt ?_
        refine gc_ret ?_
        refine gx_ret1 rfl (by conv => lhs; whnf) ?_
        have e : decide (l1 = l2) = true := decide_eq_true (by have h1 := hk.2; have hk' : k = n1 := (by (try simp only at hc14); omega); rw [List.take_of_length_le (by omega), List.take_of_length_le (by omega)] at h1; exact h1)
        rw [e]
        exact ze ()

set_option maxHeartbeats 400000 in
theorem sameQC_ok {w : World} {F : Nat → Prop} {cs1 cs2 : List Value} {x y : QC} (h : stars [] w F) (hx : RdQC w (fun k => ¬ F k) cs1 x) (hy : RdQC w (fun k => ¬ F k) cs2 y) :
    Calls Tryz.prog 22 #[.agg cs1.toArray, .agg cs2.toArray] w (Post w F (fun _ : Unit => .bool (decide (x = y))) (fun _ => [])) := by
  obtain ⟨a1, n1, c1, rfl, hk1, hd1⟩ := hx
  obtain ⟨b1, m1, d1, rfl, hj1, he1⟩ := hy
  refine g_enter (env := [(0, .agg (List.toArray (.int .i64 x.epoch :: .int .i64 x.round :: (dc x.block ++ [.slice a1 n1 c1])))), (1, .agg (List.toArray (.int .i64 y.epoch :: .int .i64 y.round :: (dc y.block ++ [.slice b1 m1 d1]))))]) Tryz.func22 rfl h Tryz.ntmps22 rfl rfl ?_
  refine gsr ?_
  refine zbN fun b2 => ?_
  refine zbN fun b3 => ?_
  refine gp zas ?_
  refine gnt ?_
  refine gc_seq ?_
  by_cases hsq0 : x.epoch = y.epoch
  · by_cases hsq1 : x.round = y.round
    · by_cases hsq2 : x.block = y.block
      · refine gc_region ?_
        refine gp zfa ?_
        refine gp zl ?_
        refine gp zfa ?_
        refine gp zl ?_
        refine gp (r_bool (r_eql_int rfl rfl) (decide_eq_true hsq0)) ?_
        refine gp zmv ?_
        refine gq zfa ?_
        refine gq zl ?_
        refine gq zfa ?_
        refine gq zl ?_
        refine gq (r_bool (r_eql_int rfl rfl) (decide_eq_true hsq1)) ?_
        refine gp zpk ?_
        refine gp zmv ?_
        refine gq zfa ?_
        refine gq zL ?_
        refine gq zfa ?_
        refine gq zL ?_
        refine gq (r_bool (r_eql_dig rfl rfl Ty.arr_23 Ty.un_5 Ty.sz_5 (by kernel_rfl)) (decide_eq_true hsq2)) ?_
        refine gp zpk ?_
        refine gp zmv ?_
        refine gq zfa ?_
        refine gq zl ?_
        refine gq zfa ?_
        refine gq zl ?_
        refine zc (fun _ => ?_) (c := fun w1 F1 F2 h1 h2 hd hst => sameSigneds_ok h1 (RdList.mv hd1 hst.still fun _ _ h => h.mv hst.still) (RdList.mv he1 hst.still fun _ _ h => h.mv hst.still))
        refine gp zpk ?_
        refine gp zas ?_
        refine gnt ?_
        refine gc_ret ?_
        refine gx_ret1 rfl (by conv => lhs; whnf) ?_
        have e : decide (x = y) = decide (x.votes = y.votes) := by obtain ⟨⟩ := x; obtain ⟨⟩ := y; simp_all
        rw [e]
        exact ze ()
      · refine gc_region ?_
        refine gp zfa ?_
        refine gp zl ?_
        refine gp zfa ?_
        refine gp zl ?_
        refine gp (r_bool (r_eql_int rfl rfl) (decide_eq_true hsq0)) ?_
        refine gp zmv ?_
        refine gq zfa ?_
        refine gq zl ?_
        refine gq zfa ?_
        refine gq zl ?_
        refine gq (r_bool (r_eql_int rfl rfl) (decide_eq_true hsq1)) ?_
        refine gp zpk ?_
        refine gp zmv ?_
        refine gq zfa ?_
        refine gq zL ?_
        refine gq zfa ?_
        refine gq zL ?_
        refine gq (r_bool (r_eql_dig rfl rfl Ty.arr_23 Ty.un_5 Ty.sz_5 (by kernel_rfl)) (decide_eq_false hsq2)) ?_
        refine gp zpk ?_
        refine gp zmv ?_
        refine gn ?_
        refine gn ?_
        refine gn ?_
        refine gn ?_
        refine gn ?_
        refine gp zpk ?_
        refine gp zas ?_
        refine gnt ?_
        refine gc_ret ?_
        refine gx_ret1 rfl (by conv => lhs; whnf) ?_
        have e : decide (x = y) = false := decide_eq_false (fun h => hsq2 (by rw [h]))
        rw [e]
        exact ze ()
    · refine gc_region ?_
      refine gp zfa ?_
      refine gp zl ?_
      refine gp zfa ?_
      refine gp zl ?_
      refine gp (r_bool (r_eql_int rfl rfl) (decide_eq_true hsq0)) ?_
      refine gp zmv ?_
      refine gq zfa ?_
      refine gq zl ?_
      refine gq zfa ?_
      refine gq zl ?_
      refine gq (r_bool (r_eql_int rfl rfl) (decide_eq_false hsq1)) ?_
      refine gp zpk ?_
      refine gp zmv ?_
      refine gn ?_
      refine gn ?_
      refine gn ?_
      refine gn ?_
      refine gn ?_
      refine gp zpk ?_
      refine gp zmv ?_
      refine gn ?_
      refine gn ?_
      refine gn ?_
      refine gn ?_
      refine gn ?_
      refine gp zpk ?_
      refine gp zas ?_
      refine gnt ?_
      refine gc_ret ?_
      refine gx_ret1 rfl (by conv => lhs; whnf) ?_
      have e : decide (x = y) = false := decide_eq_false (fun h => hsq1 (by rw [h]))
      rw [e]
      exact ze ()
  · refine gc_region ?_
    refine gp zfa ?_
    refine gp zl ?_
    refine gp zfa ?_
    refine gp zl ?_
    refine gp (r_bool (r_eql_int rfl rfl) (decide_eq_false hsq0)) ?_
    refine gp zmv ?_
    refine gn ?_
    refine gn ?_
    refine gn ?_
    refine gn ?_
    refine gn ?_
    refine gp zpk ?_
    refine gp zmv ?_
    refine gn ?_
    refine gn ?_
    refine gn ?_
    refine gn ?_
    refine gn ?_
    refine gp zpk ?_
    refine gp zmv ?_
    refine gn ?_
    refine gn ?_
    refine gn ?_
    refine gn ?_
    refine gn ?_
    refine gp zpk ?_
    refine gp zas ?_
    refine gnt ?_
    refine gc_ret ?_
    refine gx_ret1 rfl (by conv => lhs; whnf) ?_
    have e : decide (x = y) = false := decide_eq_false (fun h => hsq0 (by rw [h]))
    rw [e]
    exact ze ()

end Go.Proofs.YtobjojeliibinaaGreatDoor

/- Walks, by program (wg.py) out of a spec. -/
namespace Go.Proofs.YtobjojeliibinaaGreatDoor
open Go
set_option linter.unusedVariables false
set_option linter.unusedSimpArgs false

attribute [local irreducible] Gl Gc Gx Gs Runs Wt

set_option maxHeartbeats 1000000 in
set_option maxRecDepth 20000 in
theorem rsum_ok {w : World} {F : Nat → Prop} {b : List UInt8} (h : stars [] w F) (hb : b.length ≤ 1099511627776) :
    Calls Tryz.prog 113 #[.string (str b)] w (Post w F (fun _ : Unit => .agg (fnc B8 32 (outByte (takes Kc v0 (refPad b)).1)).toArray) (fun _ => [])) := by
  have hp63 := padN_le b.length
  have hpl := refPad_length b
  refine g_enter (env := [(0, .string (str b))]) Tryz.func113 rfl h Tryz.ntmps113 rfl rfl ?_
  refine gsr ?_
  refine zal fun b2 => ?_
  refine gnt ?_
  refine gsr ?_
  refine gp zmv ?_
  refine gp zlS ?_
  refine gp (r_int zci (wrap_u64 (by omega) (by omega))) ?_
  refine gp (r_int (r_mul rfl rfl) (show IntKind.u64.wrap ((b.length : Int) * 8) = ((b.length * 8 : Nat) : Int) by rw [wrap_u64 (by omega) (by omega)]; omega)) ?_
  refine gp zas ?_
  refine gnt ?_
  refine gsr ?_
  refine gp zmv ?_
  refine zob fun g28 c28 => ?_
  refine ze1 fun b29 => ?_
  refine zapo (news := [.int .u8 128]) (fun a30 c30 => ?_)
  refine gp zas ?_
  refine gnt ?_
  refine gc_seq ?_
  refine gc_block ?_
  refine gc_loop (α := Nat × Option Addr × Nat) (fun x => [pureR (x.1 ≤ padN b.length), rowR 5 1 x.2.1 (b.length + 1 + x.1) x.2.2 ((rPadRow b x.1).map B8), blk b2 216 (List.replicate 32 (.int .u8 0))]) (fun x => [(4, .slice x.2.1 (b.length + 1 + x.1) x.2.2)]) [31, 32, 33, 34, 35, 36, 37] (fun x => padN b.length - x.1) (0, a30, c30) ?_ ?_ ?_
  · refine env_start (by kernel_rfl)
  · exact zlq (Nat.zero_le _) (M' := [rowR 5 1 a30 (b.length + 1) c30 (b.map B8 ++ [.int .u8 128]), blk b2 216 (List.replicate 32 (.int .u8 0))]) (by simp [rPadRow]; rfl)
  · intro x u
    obtain ⟨k, a4, c4⟩ := x
    refine gc_pureR (fun hk => ?_)
    replace hk : k ≤ padN b.length := hk
    refine gc_seq ?_
    refine gsr ?_
    refine gp zmv ?_
    refine gp (r_int zln (show ((b.length + 1 + k : Nat) : Int) = ((b.length + 1 + k : Nat) : Int) from rfl)) ?_
    refine gp (r_int zrm (rem_nat (m := b.length + 1 + k) (k := 64))) ?_
    refine gp zni ?_
    refine gnt ?_
    refine gif rfl (fun hc34 => ?_) (fun hc34 => ?_)
    · try simp only at hc34
      have hk' : k < padN b.length := by have := pad_hit' hk; omega
      refine gc_skip ?_
      refine gx_then ?_
      refine gc_block ?_
      refine gc_region ?_
      refine gp zmv ?_
      refine ze1 fun b36 => ?_
      refine zapo (news := [.int .u8 0]) (fun a37 c37 => ?_)
      refine gp zas ?_
      refine gl_nil ?_
      refine gx_block_normal ?_
      refine zrd ((k + 1, a37, c37)) ?_ ?_
      · show padN b.length - (k + 1) < padN b.length - k
        omega
      · exact zlq (show k + 1 ≤ padN b.length by omega) (by rw [rPadRow_succ] <;> rfl)
    · try simp only at hc34
      have hk' : k = padN b.length := by have := pad_hit' hk; omega
      subst hk'
      refine gc_exit ?_
      refine gx_then_exit ?_
      refine gx_round_exit ?_
      refine gx_block_hit ?_
      refine gx_then ?_
      refine gc_seq ?_
      refine gsr ?_
      refine gp zas ?_
      refine gnt ?_
      refine gc_block ?_
      refine gc_loop (α := Nat × Option Addr × Nat) (fun x => [pureR (x.1 ≤ 8), rowR 5 1 x.2.1 (b.length + 1 + padN b.length + x.1) x.2.2 ((rLenRow b x.1).map B8), blk b2 216 (List.replicate 32 (.int .u8 0))]) (fun x => [(4, .slice x.2.1 (b.length + 1 + padN b.length + x.1) x.2.2), (5, .int .i64 (x.1 : Int))]) [38, 39, 40, 41, 42, 43, 44, 45, 46, 47, 48, 49, 50, 51] (fun x => 8 - x.1) (0, a4, c4) ?_ ?_ ?_
      · refine env_start (by kernel_rfl)
      · exact zlq (Nat.zero_le _) (by rw [rLenRow_zero] <;> rfl)
      · intro x u
        obtain ⟨k, a5, c5⟩ := x
        refine gc_pureR (fun hk => ?_)
        replace hk : k ≤ 8 := hk
        refine gc_seq ?_
        refine gsr ?_
        refine gp zmv ?_
        refine gp zlt ?_
        refine gnt ?_
        refine gif rfl (fun hc39 => ?_) (fun hc39 => ?_)
        · try simp only at hc39
          have hk' : k < 8 := by omega
          refine gc_skip ?_
          refine gx_then ?_
          refine gc_seq ?_
          refine gc_block ?_
          refine gc_region ?_
          refine gp zmv ?_
          refine gp zmv ?_
          refine gp zmv ?_
          refine gp zml ?_
          refine gp zsb ?_
          refine gp (r_int zci (show IntKind.u64.wrap (56 - 8 * (k : Int)) = 8 * (7 - (k : Int)) by rw [wrap_u64 (by omega) (by omega)]; omega)) ?_
          refine gp zhr ?_
          refine gp (r_val zci (byte_shrU (j := 7 - k) (i := 7 - (k : Int)) (by omega) (by omega))) ?_
          refine ze1 fun b50 => ?_
          refine zapo (news := [B8 (UInt8.ofNat (b.length * 8 / 2 ^ (8 * (7 - k))))]) (fun a51 c51 => ?_)
          refine gp zas ?_
          refine gl_nil ?_
          refine gx_block_normal ?_
          refine gx_then ?_
          refine gc_region ?_
          refine gp zmv ?_
          refine gp zad ?_
          refine gp zas ?_
          refine gl_nil ?_
          refine zrd ((k + 1, a51, c51)) ?_ ?_
          · show 8 - (k + 1) < 8 - k
            omega
          · exact zlq (show k + 1 ≤ 8 by omega) (by rw [rLenRow_succ] <;> rfl)
        · try simp only at hc39
          have hk' : k = 8 := by omega
          subst hk'
          refine gc_exit ?_
          refine gx_then_exit ?_
          refine gx_round_exit ?_
          refine gx_block_hit ?_
          refine gx_then ?_
          refine gsr ?_
          refine gp (r_buildA (cs := List.replicate 64 (.int .u32 0)) Ty.zc_260 Ty.arr_260 Ty.sz_259 (by kernel_rfl)) ?_
          refine zal fun b6 => ?_
          refine zsA (new := List.replicate 64 (.int .u32 0)) List.length_replicate (rep_one rfl) ?_
          refine gnt ?_
          refine gsr ?_
          refine gp (r_buildA (cs := v8c v0) Ty.zc_261 Ty.arr_261 Ty.sz_259 (by kernel_rfl)) ?_
          refine zal fun b7 => ?_
          refine zsA (v8c_length _) (v8c_one _) ?_
          refine gnt ?_
          refine gsr ?_
          refine gp (r_buildA (cs := List.replicate 64 (.int .u32 0)) Ty.zc_260 Ty.arr_260 Ty.sz_259 (by kernel_rfl)) ?_
          refine zal fun b8 => ?_
          refine zsA (new := List.replicate 64 (.int .u32 0)) List.length_replicate (rep_one rfl) ?_
          refine gnt ?_
          refine gc_seq ?_
          refine gsr ?_
          refine gp zmv ?_
          refine gnt ?_
          refine gc_block ?_
          refine gc_loop (α := Nat) (fun k => [pureR (k ≤ 64), blk b8 260 (fnc W32 64 (pfx Kc (fun _ => 0) k)), blk b7 261 (v8c v0), blk b6 260 (List.replicate 64 (.int .u32 0)), rowR 5 1 a5 (b.length + 1 + padN b.length + 8) c5 ((refPad b).map B8), blk b2 216 (List.replicate 32 (.int .u8 0))]) (fun k => [(55, .int .i64 (k : Int))]) [9, 56, 57, 58, 59, 60, 61, 62] (fun k => 64 - k) 0 ?_ ?_ ?_
          · refine env_start (by kernel_rfl)
          · exact zlq (Nat.zero_le _) (M' := [blk b8 260 (List.replicate 64 (.int .u32 0)), blk b7 261 (v8c v0), blk b6 260 (List.replicate 64 (.int .u32 0)), rowR 5 1 a5 (b.length + 1 + padN b.length + 8) c5 ((refPad b).map B8), blk b2 216 (List.replicate 32 (.int .u8 0))]) (by rw [pfx_zero, fnc_const] <;> rfl)
          · intro k u
            refine gc_pureR (fun hk => ?_)
            replace hk : k ≤ 64 := hk
            refine gsr ?_
            refine gp zlt ?_
            refine gnt ?_
            refine gc_seq ?_
            refine gif rfl (fun hc56 => ?_) (fun hc56 => ?_)
            · try simp only at hc56
              have hk' : k < 64 := by omega
              refine gc_skip ?_
              refine gx_then ?_
              refine gc_seq ?_
              refine gc_block ?_
              refine gsr ?_
              refine gp zmv ?_
              refine gp zas ?_
              refine gnt ?_
              refine gc_region ?_
              refine gp zmv ?_
              refine gp zmv ?_
              refine zc (fun _ => ?_) (c := fun w1 F1 F2 h1 h2 hd hst => k_ok (i := k) h1 hk')
              refine gp (r_indexAddr_arr rfl rfl Ty.arr_260 Ty.sz_259 (by omega) (by omega)) ?_
              refine gl_store1 (wt0 rfl) rfl rfl rfl Ty.sz_259 (by repeat (first | exact Pick.here | apply Pick.there)) (by rw [fnc_length]; omega) (pfx_set (k := k) (by omega) (by omega) rfl) ?_
              refine gl_nil ?_
              refine gx_block_normal ?_
              refine gx_then ?_
              refine gc_region ?_
              refine gp zad ?_
              refine gp zmv ?_
              refine gl_nil ?_
              refine zrd (k + 1) ?_ ?_
              · show 64 - (k + 1) < 64 - k
                omega
              · exact zlp (show k + 1 ≤ 64 by omega)
            · try simp only at hc56
              have hk' : k = 64 := by omega
              subst hk'
              refine gc_exit ?_
              refine gx_then_exit ?_
              refine gx_round_exit ?_
              refine gx_block_hit ?_
              refine gx_then ?_
              refine gc_seq ?_
              refine gc_block ?_
              refine gc_loop (α := V8 × List UInt8 × Option Addr × Nat × Nat × (Nat → UInt32)) (fun x => [pureR (takes Kc x.1 x.2.1 = takes Kc v0 (refPad b) ∧ x.2.1.length % 64 = 0 ∧ x.2.1.length ≤ 1099511627906 ∧ x.2.2.2.1 = x.2.1.length), rowR 5 1 x.2.2.1 x.2.2.2.1 x.2.2.2.2.1 (x.2.1.map B8), blk b6 260 (fnc W32 64 x.2.2.2.2.2), blk b7 261 (v8c x.1), blk b8 260 (fnc W32 64 Kc), blk b2 216 (List.replicate 32 (.int .u8 0))]) (fun x => [(4, .slice x.2.2.1 x.2.2.2.1 x.2.2.2.2.1)]) [10, 11, 12, 13, 14, 15, 16, 17, 18, 19, 20, 63, 64, 65, 66, 67, 68, 69, 70, 71, 72, 73, 74, 75, 76, 77, 78, 79, 80, 81, 82, 83, 84, 85, 86, 87, 88, 89, 90, 91, 92, 93, 94, 95, 96, 97, 98, 99, 100, 101, 102, 103, 104, 105, 106, 107, 108, 109, 110, 111, 112, 113, 114, 115, 116, 117, 118, 119, 120, 121, 122, 123, 124, 125, 126, 127, 128, 129, 130, 131, 132, 133, 134, 135, 136, 137, 138, 139, 140, 141, 142, 143, 144, 145, 146, 147, 148, 149, 150, 151, 152, 153, 154, 155, 156, 157, 158, 159, 160, 161, 162, 163, 164, 165, 166, 167, 168, 169, 170, 171, 172, 173, 174, 175, 176, 177, 178, 179, 180, 181, 182, 183, 184, 185, 186, 187, 188, 189, 190, 191, 192, 193, 194, 195, 196, 197, 198, 199, 200, 201, 202, 203, 204, 205, 206, 207, 208, 209, 210, 211, 212, 213, 214, 215, 216, 217, 218, 219, 220, 221, 222, 223, 224, 225, 226, 227, 228, 229, 230, 231, 232, 233, 234, 235, 236, 237, 238, 239, 240, 241, 242, 243, 244, 245, 246, 247, 248, 249, 250] (fun x => x.2.1.length) (v0, refPad b, a5, b.length + 1 + padN b.length + 8, c5, fun _ => 0) ?_ ?_ ?_
              · refine env_start (by kernel_rfl)
              · exact zlq (M' := [rowR 5 1 a5 (b.length + 1 + padN b.length + 8) c5 ((refPad b).map B8), blk b6 260 (List.replicate 64 (.int .u32 0)), blk b7 261 (v8c v0), blk b8 260 (fnc W32 64 (pfx Kc (fun _ => 0) 64)), blk b2 216 (List.replicate 32 (.int .u8 0))]) ⟨rfl, (by show (refPad b).length % 64 = 0; have := (pad_hit' (m := b.length) (Nat.le_refl _)).2 rfl; omega), (by show (refPad b).length ≤ _; omega), hpl.symm⟩ (by rw [pfx_full]; simp only [fnc_const]; rfl)
              · intro x u
                obtain ⟨v, r, a6, n6, c6, T⟩ := x
                refine gc_pureR (fun hk => ?_)
                replace hk : takes Kc v r = takes Kc v0 (refPad b) ∧ r.length % 64 = 0 ∧ r.length ≤ 1099511627906 ∧ n6 = r.length := hk
                obtain ⟨hko, hk64, hkb, rfl⟩ := hk
                refine gc_fact (p := r.length ≤ c6) (fun w hw => (hw.rowLe (e := 5) (size := 1) (a := a6) (m := r.length) (c := c6) (xs := r.map B8) (by repeat (first | exact Pick.here | apply Pick.there))).1) (fun hc6 => ?_)
                refine gc_seq ?_
                refine gsr ?_
                refine gp zmv ?_
                refine gp zln ?_
                refine gp zgt ?_
                refine gnt ?_
                refine gif rfl (fun hc65 => ?_) (fun hc65 => ?_)
                · try simp only at hc65
                  have hk' : 64 ≤ r.length := by omega
                  refine gc_fact (p := ∃ g o, a6 = some ⟨g, o, none⟩) (fun w hw => (by obtain ⟨g, o, e, _⟩ := (hw.row (a := a6) (m := r.length) (c := c6) (xs := r.map B8) (by repeat (first | exact Pick.here | apply Pick.there))).2.2 (by omega); exact ⟨g, o, e⟩)) (fun ha => ?_)
                  obtain ⟨g6, o6, rfl⟩ := ha
                  refine gc_skip ?_
                  refine gx_then ?_
                  refine gc_block ?_
                  refine gc_seq ?_
                  refine gsr ?_
                  refine gp zas ?_
                  refine gnt ?_
                  refine gc_block ?_
                  refine gc_loop (α := Nat) (fun k => [pureR (k ≤ 16), blk b6 260 (fnc W32 64 (pfx (sch (r.take 64)) T k)), blk b7 261 (v8c v), blk b8 260 (fnc W32 64 Kc), blk b2 216 (List.replicate 32 (.int .u8 0)), rowR 5 1 (some ⟨g6, o6, none⟩) r.length c6 (r.map B8)]) (fun k => [(10, .int .i64 (k : Int))]) [66, 67, 68, 69, 70, 71, 72, 73, 74, 75, 76, 77, 78, 79, 80, 81, 82, 83, 84, 85, 86, 87, 88, 89, 90, 91, 92, 93, 94, 95, 96, 97, 98, 99, 100, 101, 102, 103, 104] (fun k => 16 - k) 0 ?_ ?_ ?_
                  · refine env_start (by kernel_rfl)
                  · exact zlq (Nat.zero_le _) (by rw [pfx_zero])
                  · intro k u
                    refine gc_pureR (fun hk => ?_)
                    replace hk : k ≤ 16 := hk
                    refine gc_seq ?_
                    refine gsr ?_
                    refine gp zmv ?_
                    refine gp zlt ?_
                    refine gnt ?_
                    refine gif rfl (fun hc67 => ?_) (fun hc67 => ?_)
                    · try simp only at hc67
                      have hk' : k < 16 := by omega
                      refine gc_skip ?_
                      refine gx_then ?_
                      refine gc_seq ?_
                      refine gc_block ?_
                      refine gc_regionT 35 (by kernel_rfl) (by kernel_rfl) ?_
                      refine sp zmv ?_
                      refine sp zmv ?_
                      refine sp zmv ?_
                      refine sp zml ?_
                      refine sp (zia (m := r.length)) ?_
                      refine sp (r_ld1r (v := B8 (r.getD (4 * k) 0)) rfl Ty.row_5 (by repeat (first | exact Pick.here | apply Pick.there)) (row_byte (by omega) (by omega))) ?_
                      refine sp (r_conv8w rfl Ty.un_5 Ty.un_259) ?_
                      refine sp (r_mulw (b := 16777216) rfl rfl) ?_
                      refine sp zmv ?_
                      refine sp zmv ?_
                      refine sp zml ?_
                      refine sp zad ?_
                      refine sp (zia (m := r.length)) ?_
                      refine sp (r_ld1r (v := B8 (r.getD (4 * k + 1) 0)) rfl Ty.row_5 (by repeat (first | exact Pick.here | apply Pick.there)) (row_byte (by omega) (by omega))) ?_
                      refine sp (r_conv8w rfl Ty.un_5 Ty.un_259) ?_
                      refine sp (r_mulw (b := 65536) rfl rfl) ?_
                      refine sp zwa ?_
                      refine sp zmv ?_
                      refine sp zmv ?_
                      refine sp zml ?_
                      refine sp zad ?_
                      refine sp (zia (m := r.length)) ?_
                      refine sp (r_ld1r (v := B8 (r.getD (4 * k + 2) 0)) rfl Ty.row_5 (by repeat (first | exact Pick.here | apply Pick.there)) (row_byte (by omega) (by omega))) ?_
                      refine sp (r_conv8w rfl Ty.un_5 Ty.un_259) ?_
                      refine sp (r_mulw (b := 256) rfl rfl) ?_
                      refine sp zwa ?_
                      refine sp zmv ?_
                      refine sp zmv ?_
                      refine sp zml ?_
                      refine sp zad ?_
                      refine sp (zia (m := r.length)) ?_
                      refine sp (r_ld1r (v := B8 (r.getD (4 * k + 3) 0)) rfl Ty.row_5 (by repeat (first | exact Pick.here | apply Pick.there)) (row_byte (by omega) (by omega))) ?_
                      refine sp (r_conv8w rfl Ty.un_5 Ty.un_259) ?_
                      refine sp zwa ?_
                      refine sp (r_indexAddr_arr rfl rfl Ty.arr_260 Ty.sz_259 (by omega) (by omega)) ?_
                      refine gs_nil ?_
                      refine gl_store1 (wt0 rfl) rfl rfl rfl Ty.sz_259 (by repeat (first | exact Pick.here | apply Pick.there)) (by rw [fnc_length]; omega) (pfx_set (k := k) (by omega) (by omega) (congrArg W32 (word_take hk' (by omega)))) ?_
                      refine gl_nil ?_
                      refine gx_block_normal ?_
                      refine gx_then ?_
                      refine gc_region ?_
                      refine gp zmv ?_
                      refine gp zad ?_
                      refine gp zas ?_
                      refine gl_nil ?_
                      refine zrd (k + 1) ?_ ?_
                      · show 16 - (k + 1) < 16 - k
                        omega
                      · exact zlp (show k + 1 ≤ 16 by omega)
                    · try simp only at hc67
                      have hk' : k = 16 := by omega
                      subst hk'
                      refine gc_exit ?_
                      refine gx_then_exit ?_
                      refine gx_round_exit ?_
                      refine gx_block_hit ?_
                      refine gx_then ?_
                      refine gc_seq ?_
                      refine gsr ?_
                      refine gp zas ?_
                      refine gnt ?_
                      refine gc_block ?_
                      refine gc_loop (α := Nat) (fun k => [pureR (16 ≤ k ∧ k ≤ 64), blk b6 260 (fnc W32 64 (pfx (sch (r.take 64)) T k)), blk b7 261 (v8c v), blk b8 260 (fnc W32 64 Kc), blk b2 216 (List.replicate 32 (.int .u8 0)), rowR 5 1 (some ⟨g6, o6, none⟩) r.length c6 (r.map B8)]) (fun k => [(11, .int .i64 (k : Int))]) [12, 13, 105, 106, 107, 108, 109, 110, 111, 112, 113, 114, 115, 116, 117, 118, 119, 120, 121, 122, 123, 124, 125, 126, 127, 128, 129, 130, 131, 132, 133, 134, 135, 136, 137, 138, 139, 140, 141, 142, 143, 144, 145] (fun k => 64 - k) 16 ?_ ?_ ?_
                      · refine env_start (by kernel_rfl)
                      · exact zlp ⟨Nat.le_refl _, by decide⟩
                      · intro k u
                        refine gc_pureR (fun hk => ?_)
                        replace hk : 16 ≤ k ∧ k ≤ 64 := hk
                        refine gc_seq ?_
                        refine gsr ?_
                        refine gp zmv ?_
                        refine gp zlt ?_
                        refine gnt ?_
                        refine gif rfl (fun hc106 => ?_) (fun hc106 => ?_)
                        · try simp only at hc106
                          have hk' : k < 64 := by omega
                          refine gc_skip ?_
                          refine gx_then ?_
                          refine gc_seq ?_
                          refine gc_block ?_
                          refine gc_seq ?_
                          refine gc_regionS (by kernel_rfl) (by kernel_rfl) ?_
                          refine sp zmv ?_
                          refine sp zsb ?_
                          refine sp (r_indexAddr_arr rfl rfl Ty.arr_260 Ty.sz_259 (by omega) (by omega)) ?_
                          refine sp (r_ld1 (v := W32 (sch (r.take 64) (k - 15))) rfl Ty.row_259 (by repeat (first | exact Pick.here | apply Pick.there)) (pfx_get (by omega) (by omega) (by omega))) ?_
                          refine sp zmv ?_
                          refine sp zsb ?_
                          refine sp (r_indexAddr_arr rfl rfl Ty.arr_260 Ty.sz_259 (by omega) (by omega)) ?_
                          refine sp (r_ld1 (v := W32 (sch (r.take 64) (k - 2))) rfl Ty.row_259 (by repeat (first | exact Pick.here | apply Pick.there)) (pfx_get (by omega) (by omega) (by omega))) ?_
                          refine sp zas ?_
                          refine sp zas ?_
                          refine gs_nil ?_
                          refine gx_then ?_
                          refine gc_regionZ 29 ([blk b6 260 (fnc W32 64 (pfx (sch (r.take 64)) T k))]) ?_
                          refine yps 0 rfl zmv ?_
                          refine yps 1 rfl zmv ?_
                          refine yps 2 rfl zsb ?_
                          refine yps 3 rfl (r_indexAddr_arr rfl rfl Ty.arr_260 Ty.sz_259 (by omega) (by omega)) ?_
                          refine yps 4 rfl (r_ld1 (v := W32 (sch (r.take 64) (k - 16))) rfl Ty.row_259 (by repeat (first | exact Pick.here | apply Pick.there)) (pfx_get (by omega) (by omega) (by omega))) ?_
                          refine yps 5 rfl zmv ?_
                          refine yps 7 rfl zmv ?_
                          refine yps 10 rfl zmv ?_
                          refine yps 11 rfl (r_shrw (j := 3) rfl rfl rfl (by decide)) ?_
                          refine yps 14 rfl zmv ?_
                          refine yps 15 rfl zsb ?_
                          refine yps 16 rfl (r_indexAddr_arr rfl rfl Ty.arr_260 Ty.sz_259 (by omega) (by omega)) ?_
                          refine yps 17 rfl (r_ld1 (v := W32 (sch (r.take 64) (k - 7))) rfl Ty.row_259 (by repeat (first | exact Pick.here | apply Pick.there)) (pfx_get (by omega) (by omega) (by omega))) ?_
                          refine yps 19 rfl zmv ?_
                          refine yps 21 rfl zmv ?_
                          refine yps 24 rfl zmv ?_
                          refine yps 25 rfl (r_shrw (j := 10) rfl rfl rfl (by decide)) ?_
                          refine yos 6 rfl ?_
                          refine zc (fun _ => ?_) (c := fun w1 F1 F2 h1 h2 hd hst => right_ok (j := 7) h1 (by decide) (by decide))
                          refine yxs ?_
                          refine yos 8 rfl ?_
                          refine zc (fun _ => ?_) (c := fun w1 F1 F2 h1 h2 hd hst => right_ok (j := 18) h1 (by decide) (by decide))
                          refine yxs ?_
                          refine yps 9 rfl zwx ?_
                          refine yps 12 rfl zwx ?_
                          refine yps 13 rfl zwa ?_
                          refine yps 18 rfl zwa ?_
                          refine yos 20 rfl ?_
                          refine zc (fun _ => ?_) (c := fun w1 F1 F2 h1 h2 hd hst => right_ok (j := 17) h1 (by decide) (by decide))
                          refine yxs ?_
                          refine yos 22 rfl ?_
                          refine zc (fun _ => ?_) (c := fun w1 F1 F2 h1 h2 hd hst => right_ok (j := 19) h1 (by decide) (by decide))
                          refine yxs ?_
                          refine yps 23 rfl zwx ?_
                          refine yps 26 rfl zwx ?_
                          refine yps 27 rfl zwa ?_
                          refine yps 28 rfl (r_indexAddr_arr rfl rfl Ty.arr_260 Ty.sz_259 (by omega) (by omega)) ?_
                          refine yzs rfl ?_
                          refine gl_store1 (wt0 rfl) rfl rfl rfl Ty.sz_259 (by repeat (first | exact Pick.here | apply Pick.there)) (by rw [fnc_length]; omega) (pfx_set (k := k) (by omega) (by omega) (congrArg W32 (sch_hi hk.1).symm)) ?_
                          refine gl_nil ?_
                          refine gx_block_normal ?_
                          refine gx_then ?_
                          refine gc_region ?_
                          refine gp zmv ?_
                          refine gp zad ?_
                          refine gp zas ?_
                          refine gl_nil ?_
                          refine zrd (k + 1) ?_ ?_
                          · show 64 - (k + 1) < 64 - k
                            omega
                          · exact zlp (show 16 ≤ k + 1 ∧ k + 1 ≤ 64 by omega)
                        · try simp only at hc106
                          have hk' : k = 64 := by omega
                          subst hk'
                          refine gc_exit ?_
                          refine gx_then_exit ?_
                          refine gx_round_exit ?_
                          refine gx_block_hit ?_
                          refine gx_then ?_
                          refine gsr ?_
                          refine gp (zLa (cs := v8c v)) ?_
                          refine zal fun b14 => ?_
                          refine zsA (v8c_length _) (v8c_one _) ?_
                          refine gnt ?_
                          refine gc_seq ?_
                          refine gsr ?_
                          refine gp zas ?_
                          refine gnt ?_
                          refine gc_block ?_
                          refine gc_loop (α := Nat) (fun k => [pureR (k ≤ 64), blk b14 261 (v8c (rnds Kc (sch (r.take 64)) v k)), blk b6 260 (fnc W32 64 (pfx (sch (r.take 64)) T 64)), blk b7 261 (v8c v), blk b8 260 (fnc W32 64 Kc), blk b2 216 (List.replicate 32 (.int .u8 0)), rowR 5 1 (some ⟨g6, o6, none⟩) r.length c6 (r.map B8)]) (fun k => [(15, .int .i64 (k : Int))]) [16, 17, 18, 19, 147, 148, 149, 150, 151, 152, 153, 154, 155, 156, 157, 158, 159, 160, 161, 162, 163, 164, 165, 166, 167, 168, 169, 170, 171, 172, 173, 174, 175, 176, 177, 178, 179, 180, 181, 182, 183, 184, 185, 186, 187, 188, 189, 190, 191, 192, 193, 194, 195, 196, 197, 198, 199, 200, 201, 202, 203, 204, 205, 206, 207, 208, 209, 210, 211, 212, 213, 214, 215, 216, 217, 218, 219, 220, 221, 222, 223, 224, 225, 226, 227, 228, 229, 230, 231, 232, 233, 234, 235, 236] (fun k => 64 - k) 0 ?_ ?_ ?_
                          · refine env_start (by kernel_rfl)
                          · exact zlp (by first | exact Nat.zero_le _ | omega)
                          · intro k u
                            refine gc_pureR (fun hk => ?_)
                            replace hk : k ≤ 64 := hk
                            refine gc_seq ?_
                            refine gsr ?_
                            refine gp zmv ?_
                            refine gp zlt ?_
                            refine gnt ?_
                            refine gif rfl (fun hc148 => ?_) (fun hc148 => ?_)
                            · try simp only at hc148
                              have hk' : k < 64 := by omega
                              refine gc_skip ?_
                              refine gx_then ?_
                              refine gc_seq ?_
                              refine gc_block ?_
                              refine gsr ?_
                              refine gp zib ?_
                              refine gp zl ?_
                              refine gp zib ?_
                              refine gp zl ?_
                              refine gp zwn ?_
                              refine gp zib ?_
                              refine gp zl ?_
                              refine gp zwc ?_
                              refine gp zib ?_
                              refine gp zl ?_
                              refine gp zwn ?_
                              refine gp zwx ?_
                              refine gp zas ?_
                              refine gnt ?_
                              refine gsr ?_
                              refine gp zib ?_
                              refine gp zl ?_
                              refine gp zib ?_
                              refine gp zl ?_
                              refine gp zwn ?_
                              refine gp zib ?_
                              refine gp zl ?_
                              refine gp zib ?_
                              refine gp zl ?_
                              refine gp zwn ?_
                              refine gp zwx ?_
                              refine gp zib ?_
                              refine gp zl ?_
                              refine gp zib ?_
                              refine gp zl ?_
                              refine gp zwn ?_
                              refine gp zwx ?_
                              refine gp zas ?_
                              refine gnt ?_
                              refine gc_seq ?_
                              refine gc_regionZ 24 ([blk b14 261 (v8c (rnds Kc (sch (r.take 64)) v k)), blk b6 260 (fnc W32 64 (pfx (sch (r.take 64)) T 64)), blk b8 260 (fnc W32 64 Kc)]) ?_
                              refine yps 0 rfl zib ?_
                              refine yps 1 rfl zl ?_
                              refine yps 2 rfl zib ?_
                              refine yps 3 rfl zl ?_
                              refine yps 5 rfl zib ?_
                              refine yps 6 rfl zl ?_
                              refine yps 9 rfl zib ?_
                              refine yps 10 rfl zl ?_
                              refine yps 14 rfl zmv ?_
                              refine yps 16 rfl zmv ?_
                              refine yps 17 rfl (r_indexAddr_arr rfl rfl Ty.arr_260 Ty.sz_259 (by omega) (by omega)) ?_
                              refine yps 18 rfl (r_ld1 (v := W32 (Kc k)) rfl Ty.row_259 (by repeat (first | exact Pick.here | apply Pick.there)) (by rw [show 0 + (k : Int).toNat * 1 = k by omega]; exact fnc_get hk')) ?_
                              refine yps 20 rfl zmv ?_
                              refine yps 21 rfl (r_indexAddr_arr rfl rfl Ty.arr_260 Ty.sz_259 (by omega) (by omega)) ?_
                              refine yps 22 rfl (r_ld1 (v := W32 (sch (r.take 64) (k))) rfl Ty.row_259 (by repeat (first | exact Pick.here | apply Pick.there)) (pfx_get (by omega) (by omega) (by omega))) ?_
                              refine yos 4 rfl ?_
                              refine zc (fun _ => ?_) (c := fun w1 F1 F2 h1 h2 hd hst => right_ok (j := 6) h1 (by decide) (by decide))
                              refine yxs ?_
                              refine yos 7 rfl ?_
                              refine zc (fun _ => ?_) (c := fun w1 F1 F2 h1 h2 hd hst => right_ok (j := 11) h1 (by decide) (by decide))
                              refine yxs ?_
                              refine yps 8 rfl zwx ?_
                              refine yos 11 rfl ?_
                              refine zc (fun _ => ?_) (c := fun w1 F1 F2 h1 h2 hd hst => right_ok (j := 25) h1 (by decide) (by decide))
                              refine yxs ?_
                              refine yps 12 rfl zwx ?_
                              refine yps 13 rfl zwa ?_
                              refine yps 15 rfl zwa ?_
                              refine yps 19 rfl zwa ?_
                              refine yps 23 rfl zwa ?_
                              refine yzs rfl ?_
                              refine gp zas ?_
                              refine gnt ?_
                              refine gc_seq ?_
                              refine gc_regionZ 13 ([blk b14 261 (v8c (rnds Kc (sch (r.take 64)) v k))]) ?_
                              refine yps 0 rfl zib ?_
                              refine yps 1 rfl zl ?_
                              refine yps 3 rfl zib ?_
                              refine yps 4 rfl zl ?_
                              refine yps 7 rfl zib ?_
                              refine yps 8 rfl zl ?_
                              refine yps 11 rfl zmv ?_
                              refine yos 2 rfl ?_
                              refine zc (fun _ => ?_) (c := fun w1 F1 F2 h1 h2 hd hst => right_ok (j := 2) h1 (by decide) (by decide))
                              refine yxs ?_
                              refine yos 5 rfl ?_
                              refine zc (fun _ => ?_) (c := fun w1 F1 F2 h1 h2 hd hst => right_ok (j := 13) h1 (by decide) (by decide))
                              refine yxs ?_
                              refine yps 6 rfl zwx ?_
                              refine yos 9 rfl ?_
                              refine zc (fun _ => ?_) (c := fun w1 F1 F2 h1 h2 hd hst => right_ok (j := 22) h1 (by decide) (by decide))
                              refine yxs ?_
                              refine yps 10 rfl zwx ?_
                              refine yps 12 rfl zwa ?_
                              refine yzs rfl ?_
                              refine gp zas ?_
                              refine gnt ?_
                              refine gc_region ?_
                              refine gp zmv ?_
                              refine gp zmv ?_
                              refine gp zwa ?_
                              refine gp zib ?_
                              refine gp zl ?_
                              refine gp zib ?_
                              refine gp zl ?_
                              refine gp zib ?_
                              refine gp zl ?_
                              refine gp zib ?_
                              refine gp zl ?_
                              refine gp zmv ?_
                              refine gp zwa ?_
                              refine gp zib ?_
                              refine gp zl ?_
                              refine gp zib ?_
                              refine gp zl ?_
                              refine gp zib ?_
                              refine gp zl ?_
                              refine gp (r_buildA (cs := v8c (rnds Kc (sch (r.take 64)) v (k + 1))) Ty.zc_261 Ty.arr_261 Ty.sz_259 rfl) ?_
                              refine zsA (v8c_length _) (v8c_one _) ?_
                              refine gl_nil ?_
                              refine gx_block_normal ?_
                              refine gx_then ?_
                              refine gc_region ?_
                              refine gp zmv ?_
                              refine gp zad ?_
                              refine gp zas ?_
                              refine gl_nil ?_
                              refine zrd (k + 1) ?_ ?_
                              · show 64 - (k + 1) < 64 - k
                                omega
                              · exact zlp (show k + 1 ≤ 64 by omega)
                            · try simp only at hc148
                              have hk' : k = 64 := by omega
                              subst hk'
                              refine gc_exit ?_
                              refine gx_then_exit ?_
                              refine gx_round_exit ?_
                              refine gx_block_hit ?_
                              refine gx_then ?_
                              refine gc_seq ?_
                              refine gsr ?_
                              refine gp zmv ?_
                              refine gnt ?_
                              refine gc_block ?_
                              generalize hV : rnds Kc (sch (r.take 64)) v 64 = V
                              refine gc_loop (α := Nat) (fun k => [pureR (k ≤ 8), blk b7 261 (fnc W32 8 (pfx (v.add V).get v.get k)), blk b14 261 (v8c V), blk b6 260 (fnc W32 64 (pfx (sch (r.take 64)) T 64)), blk b8 260 (fnc W32 64 Kc), blk b2 216 (List.replicate 32 (.int .u8 0)), rowR 5 1 (some ⟨g6, o6, none⟩) r.length c6 (r.map B8)]) (fun k => [(237, .int .i64 (k : Int))]) [20, 238, 239, 240, 241, 242, 243, 244, 245, 246, 247, 248] (fun k => 8 - k) 0 ?_ ?_ ?_
                              · refine env_start (by kernel_rfl)
                              · exact zlq (Nat.zero_le _) (by rw [pfx_zero] <;> rfl)
                              · intro k u
                                refine gc_pureR (fun hk => ?_)
                                replace hk : k ≤ 8 := hk
                                refine gsr ?_
                                refine gp zlt ?_
                                refine gnt ?_
                                refine gc_seq ?_
                                refine gif rfl (fun hc238 => ?_) (fun hc238 => ?_)
                                · try simp only at hc238
                                  have hk' : k < 8 := by omega
                                  refine gc_skip ?_
                                  refine gx_then ?_
                                  refine gc_seq ?_
                                  refine gc_block ?_
                                  refine gsr ?_
                                  refine gp zmv ?_
                                  refine gp zas ?_
                                  refine gnt ?_
                                  refine gc_regionT 8 (by kernel_rfl) (by kernel_rfl) ?_
                                  refine sp zmv ?_
                                  refine sp (r_indexAddr_arr rfl rfl Ty.arr_261 Ty.sz_259 (by omega) (by omega)) ?_
                                  refine sp (r_ld1 (v := W32 (v.get k)) rfl Ty.row_259 (by repeat (first | exact Pick.here | apply Pick.there)) (pfx_get2 (by omega) (by omega) (by omega))) ?_
                                  refine sp zmv ?_
                                  refine sp (r_indexAddr_arr rfl rfl Ty.arr_261 Ty.sz_259 (by omega) (by omega)) ?_
                                  refine sp (r_ld1 (v := W32 (V.get k)) rfl Ty.row_259 (by repeat (first | exact Pick.here | apply Pick.there)) (by rw [show 0 + (k : Int).toNat * 1 = k by omega]; exact fnc_get (V := W32) (f := V.get) hk')) ?_
                                  refine sp zwa ?_
                                  refine sp (r_indexAddr_arr rfl rfl Ty.arr_261 Ty.sz_259 (by omega) (by omega)) ?_
                                  refine gs_nil ?_
                                  refine gl_store1 (wt0 rfl) rfl rfl rfl Ty.sz_259 (by repeat (first | exact Pick.here | apply Pick.there)) (by rw [fnc_length]; omega) (pfx_set (k := k) (by omega) (by omega) (congrArg W32 (V8.add_get _ _ _).symm)) ?_
                                  refine gl_nil ?_
                                  refine gx_block_normal ?_
                                  refine gx_then ?_
                                  refine gc_region ?_
                                  refine gp zad ?_
                                  refine gp zmv ?_
                                  refine gl_nil ?_
                                  refine zrd (k + 1) ?_ ?_
                                  · show 8 - (k + 1) < 8 - k
                                    omega
                                  · exact zlp (show k + 1 ≤ 8 by omega)
                                · try simp only at hc238
                                  have hk' : k = 8 := by omega
                                  subst hk'
                                  have e8 : fnc W32 8 (pfx (v.add V).get v.get 8) = v8c (take64 Kc v (r.take 64)) := by rw [pfx_full, ← hV]; rfl
                                  rw [e8]
                                  refine gc_exit ?_
                                  refine gx_then_exit ?_
                                  refine gx_round_exit ?_
                                  refine gx_block_hit ?_
                                  refine gx_then ?_
                                  refine gc_region ?_
                                  refine gp zmv ?_
                                  refine gp (r_slice_slice (a := some ⟨g6, o6, none⟩) (m := r.length) (c := c6) (l := 64) (h := r.length) rfl Ty.sl_86 Ty.sz_5 ⟨_, rfl⟩ rfl (by omega) (by omega)) ?_
                                  refine gp zas ?_
                                  refine gl_nil ?_
                                  refine gx_block_normal ?_
                                  have hdl : (r.drop 64).length = r.length - 64 := List.length_drop
                                  refine zrd ((take64 Kc v (r.take 64), r.drop 64, (if c6 = 64 then some ⟨g6, o6, none⟩ else (some (⟨g6, o6, none⟩ : Addr)).map (·.add (64 * 1))), r.length - 64, c6 - 64, sch (r.take 64))) ?_ ?_
                                  · show (r.drop 64).length < r.length
                                    omega
                                  · rintro w' hw
                                    obtain ⟨F', hF', hst'⟩ := hw.sel (M := [rowR 5 1 (some ⟨g6, o6, none⟩) r.length c6 (r.map B8), blk b6 260 _, blk b7 261 (v8c (take64 Kc v (r.take 64))), blk b8 260 (fnc W32 64 Kc), blk b2 216 (List.replicate 32 (.int .u8 0))]) (by repeat (first | exact Sel.nil | (apply Sel.cons; · (repeat (first | exact Pick.here | apply Pick.there)))))
                                    refine ⟨F', stars_pure_mk ⟨?_, ?_, ?_, hdl.symm⟩ ?_, hst'⟩
                                    · rw [← hko, takes.eq_1 Kc v r, dif_pos (by omega)]
                                    · show (r.drop 64).length % 64 = 0; omega
                                    · show (r.drop 64).length ≤ _; omega
                                    · have := stars_tail8 (l := 64) (by omega) hF'
                                      rw [pfx_full] at this
                                      exact this
                · try simp only at hc65
                  have hk' : r = [] := List.eq_nil_of_length_eq_zero (by omega)
                  have hV : (takes Kc v0 (refPad b)).1 = v := by rw [← hko, hk', takes_nil]
                  rw [hV]
                  refine gc_exit ?_
                  refine gx_then_exit ?_
                  refine gx_round_exit ?_
                  refine gx_block_hit ?_
                  refine gx_then ?_
                  refine gsr ?_
                  refine gp (r_buildA (cs := List.replicate 32 (.int .u8 0)) Ty.zc_216 Ty.arr_216 Ty.sz_5 (by kernel_rfl)) ?_
                  refine zal fun b21 => ?_
                  refine zsA (new := List.replicate 32 (.int .u8 0)) List.length_replicate (rep_one rfl) ?_
                  refine gnt ?_
                  refine gc_seq ?_
                  refine gsr ?_
                  refine gp zmv ?_
                  refine gnt ?_
                  refine gc_block ?_
                  refine gc_loop (α := Nat) (fun k => [pureR (k ≤ 32), blk b21 216 (fnc B8 32 (pfx (outByte v) (fun _ => 0) k)), blk b7 261 (v8c v), blk b2 216 (List.replicate 32 (.int .u8 0))]) (fun k => [(252, .int .i64 (k : Int))]) [22, 253, 254, 255, 256, 257, 258, 259, 260, 261, 262, 263, 264, 265, 266, 267, 268] (fun k => 32 - k) 0 ?_ ?_ ?_
                  · refine env_start (by kernel_rfl)
                  · exact zlq (Nat.zero_le _) (by rw [pfx_zero, fnc_const] <;> rfl)
                  · intro k u
                    refine gc_pureR (fun hk => ?_)
                    replace hk : k ≤ 32 := hk
                    refine gsr ?_
                    refine gp zlt ?_
                    refine gnt ?_
                    refine gc_seq ?_
                    refine gif rfl (fun hc253 => ?_) (fun hc253 => ?_)
                    · try simp only at hc253
                      have hk' : k < 32 := by omega
                      refine gc_skip ?_
                      refine gx_then ?_
                      refine gc_seq ?_
                      refine gc_block ?_
                      refine gsr ?_
                      refine gp zmv ?_
                      refine gp zas ?_
                      refine gnt ?_
                      refine gc_region ?_
                      refine gp zmv ?_
                      refine gp zmv ?_
                      refine gp (r_int zqu ((congrArg IntKind.i64.wrap (quo_nat (m := k) (k := 4))).trans (wrap_i64 (by omega) (by omega)))) ?_
                      refine gp (r_indexAddr_arr rfl rfl Ty.arr_261 Ty.sz_259 (by omega) (by omega)) ?_
                      refine gp (r_ld1 (v := W32 (v.get (k / 4))) rfl Ty.row_259 (by repeat (first | exact Pick.here | apply Pick.there)) (by rw [show 0 + ((k / 4 : Nat) : Int).toNat * 1 = k / 4 by omega]; exact fnc_get (V := W32) (m := 8) (f := v.get) (by omega))) ?_
                      refine gp zmv ?_
                      refine gp (r_int zrm (rem_nat (m := k) (k := 4))) ?_
                      refine gp zml ?_
                      refine gp zsb ?_
                      refine gp (r_int zci (wrap_u64 (by omega) (by omega))) ?_
                      refine gp (r_shrw (j := 24 - 8 * (k % 4)) rfl rfl (by omega) (by omega)) ?_
                      refine gp (r_convw8 rfl Ty.un_259 Ty.un_5) ?_
                      refine gp (r_indexAddr_arr rfl rfl Ty.arr_216 Ty.sz_5 (by omega) (by omega)) ?_
                      refine gl_store1 (wt0 rfl) rfl rfl rfl Ty.sz_5 (by repeat (first | exact Pick.here | apply Pick.there)) (by rw [fnc_length]; omega) (pfx_set (k := k) (by omega) (by omega) rfl) ?_
                      refine gl_nil ?_
                      refine gx_block_normal ?_
                      refine gx_then ?_
                      refine gc_region ?_
                      refine gp zad ?_
                      refine gp zmv ?_
                      refine gl_nil ?_
                      refine zrd (k + 1) ?_ ?_
                      · show 32 - (k + 1) < 32 - k
                        omega
                      · exact zlp (show k + 1 ≤ 32 by omega)
                    · try simp only at hc253
                      have hk' : k = 32 := by omega
                      subst hk'
                      refine gc_exit ?_
                      refine gx_then_exit ?_
                      refine gx_round_exit ?_
                      refine gx_block_hit ?_
                      refine gx_then ?_
                      refine gsr ?_
                      refine gp (zLa (cs := fnc B8 32 _)) ?_
                      refine zsA fnc_length (fnc_one fun _ => rfl) ?_
                      refine gnt ?_
                      refine gc_ret ?_
                      refine gx_retc rfl rfl (ld_aggS Ty.row_216 Ty.sz_216 (by repeat (first | exact Pick.here | apply Pick.there)) (seg_all fnc_length) fnc_length) ?_
                      rw [pfx_full]
                      exact ze ()

end Go.Proofs.YtobjojeliibinaaGreatDoor

/- Walks, by program (wg.py) out of a spec. -/
namespace Go.Proofs.YtobjojeliibinaaGreatDoor
open Go
set_option linter.unusedVariables false
set_option linter.unusedSimpArgs false


def RdStr (cs : List Value) (b : List UInt8) : Prop := cs = [.string (str b)]
/-- Values that read as a list's elements, one by one. -/
inductive All2 {α : Type} (rd : List Value → α → Prop) : List Value → List α → Prop
  | nil : All2 rd [] []
  | cons {v : Value} {x : α} {vs : List Value} {l : List α} : rd [v] x → All2 rd vs l → All2 rd (v :: vs) (x :: l)
theorem All2.len {α : Type} {rd : List Value → α → Prop} {vs : List Value} {l : List α} (h : All2 rd vs l) : vs.length = l.length := by
  induction h with
  | nil => rfl
  | cons _ _ ih => simp [ih]
theorem All2.at {α : Type} {rd : List Value → α → Prop} {vs : List Value} {l : List α} (h : All2 rd vs l) : ∀ (i : Nat) (v : Value) (x : α), vs[i]? = some v → l[i]? = some x → rd [v] x := by
  induction h with
  | nil => intro i v x h1 _; simp at h1
  | cons h1 _ ih =>
    intro i v x hv hx
    cases i with
    | zero => simp at hv hx; subst hv; subst hx; exact h1
    | succ i => exact ih i v x (by simpa using hv) (by simpa using hx)
theorem RdList.of1 {α : Type} {rd : List Value → α → Prop} {w : World} {A : Nat → Prop} {a : Option Addr} {n : Nat} {vs : List Value} {l : List α} (hr : RdRow w A 1 a n vs) (h : All2 rd vs l) : RdList rd w A 1 a n l := by
  refine ⟨vs.map fun v => [v], ?_, by simp, by simp [h.len], fun i c x h1 h2 => ?_⟩
  · have e : (vs.map fun v => [v]).flatten = vs := by
      clear hr h
      induction vs with
      | nil => rfl
      | cons v r ih => simp [ih]
    rw [e]; exact hr
  · rw [List.getElem?_map] at h1
    cases hv : vs[i]? with
    | none => rw [hv] at h1; cases h1
    | some v => rw [hv] at h1; simp at h1; subst h1; exact h.at i v x hv h2
theorem framed_succ (dom : Int) (parts : List (List UInt8)) {k : Nat} {p : List UInt8} (h : parts[k]? = some p) : framed dom (parts.take (k + 1)) = framed dom (parts.take k) ++ (part4 p.length ++ p) := by
  rw [List.take_add_one, h]; simp [framed]
theorem framed_length (dom : Int) (parts : List (List UInt8)) : (framed dom parts).length = 1 + pcost parts := by
  simp only [framed, List.length_cons]
  have : (parts.flatMap fun p => part4 p.length ++ p).length = pcost parts := by
    induction parts with
    | nil => rfl
    | cons p l ih =>
      rw [List.flatMap_cons, List.length_append, ih]
      simp only [List.length_append, pcost, List.map_cons, List.sum_cons, part4, List.length_cons, List.length_nil]; omega
  omega
theorem of_cut (dom : Int) (parts : List (List UInt8)) : fnc B8 16 (outByte (takes Kc v0 (refPad (framed dom parts))).1) = dc (dOf Kc dom parts) := by
  have e : (dOf Kc dom parts).l = (refSum Kc (framed dom parts)).take 16 := hOf_ref Kc dom parts
  rw [dc, e, refSum]
  simp [fnc, ← List.map_take, List.take_range]
theorem RdBytes.row {L L' : List Res} {w : World} {F1 F2 : Nat → Prop} {e n c : Nat} {a : Option Addr} {b : List UInt8} (h2 : stars L w F2) (hd : ∀ k, F1 k → ¬ F2 k) (hp : Pick L (rowR e 1 a n c (b.map B8)) L') : RdBytes w (fun k => ¬ F1 k) [.slice a n c] b :=
  ⟨_, _, _, rfl, rd_le h2 hp, rd_row h2 hd hp⟩
attribute [local irreducible] Gl Gc Gx Gs Runs Wt

set_option maxHeartbeats 400000 in
theorem framed_ok {w : World} {F : Nat → Prop} {dom : Int} {parts : List (List UInt8)} {a : Option Addr} {n c : Nat} (h : stars [] w F) (hx : RdList RdStr w (fun k => ¬ F k) 1 a n parts) (hb : 1 + pcost parts ≤ 1099511627776) :
    Calls Tryz.prog 114 #[.int .i64 dom, .slice a n c] w (Post w F (fun _ : Unit => .string (str (framed dom parts))) (fun _ => [])) := by
  have hnl := hx.len (by decide)
  have hm1 := hx.max
  simp only [maxLen] at hm1
  refine g_enter (env := [(0, .int .i64 dom), (1, .slice a n c)]) Tryz.func114 rfl h Tryz.ntmps114 rfl rfl ?_
  refine gsr ?_
  refine gp zas ?_
  refine gnt ?_
  refine gsr ?_
  refine gp zmv ?_
  refine gp (r_val zci byte_int) ?_
  refine ze1 fun b11 => ?_
  refine gp (zso (b := [UInt8.ofNat (dom % 256).toNat])) ?_
  refine gp zas ?_
  refine gnt ?_
  refine gc_seq ?_
  refine gsr ?_
  refine gp zmv ?_
  refine gp zln ?_
  refine gp zmv ?_
  refine gnt ?_
  refine gc_block ?_
  refine gc_loop (α := Nat) (fun k => [pureR (k ≤ n)]) (fun k => [(15, .int .i64 (k : Int)), (5, .string (str (framed dom (parts.take k))))]) [7, 8, 16, 17, 18, 19, 20, 21, 22, 23, 24, 25, 26, 27, 28, 29, 30, 31, 32, 33, 34, 35, 36, 37, 38, 39] (fun k => n - k) 0 ?_ ?_ ?_
  · refine env_start (by kernel_rfl)
  · exact zlp (by first | exact Nat.zero_le _ | omega)
  · intro k u
    refine gc_pureR (fun hk => ?_)
    replace hk : k ≤ n := hk
    refine gsr ?_
    refine gp zlt ?_
    refine gnt ?_
    refine gc_seq ?_
    refine gif rfl (fun hc16 => ?_) (fun hc16 => ?_)
    · try simp only at hc16
      have hk' : k < n := by omega
      obtain ⟨ga, o, cs, y, ha, hA, hg, hra, hcl, hly, hrd⟩ := hx.elem (by decide) hk'
      subst ha
      unfold RdStr at hrd
      subst hrd
      have hpc := pcost_take hly
      have hfl := framed_length dom (parts.take k)
      refine gc_skip ?_
      refine gx_then ?_
      refine gc_seq ?_
      refine gc_block ?_
      refine gsr ?_
      refine gp zia ?_
      refine gp (r_ld1o rfl Ty.row_9 (hra 0 _ rfl) hA) ?_
      refine gp zas ?_
      refine gnt ?_
      refine gsr ?_
      refine gp zmv ?_
      refine gp zlS ?_
      refine gp (r_int zci (wrap_u64 (by omega) (by omega))) ?_
      refine gp zas ?_
      refine gnt ?_
      refine gc_region ?_
      refine gp zmv ?_
      refine gp zmv ?_
      refine gp (r_int zqu ((congrArg IntKind.u64.wrap (quo_nat (m := y.length) (k := 16777216))).trans (wrap_u64 (by omega) (by omega)))) ?_
      refine gp (r_val zci byte_nat) ?_
      refine gp zmv ?_
      refine gp (r_int zqu ((congrArg IntKind.u64.wrap (quo_nat (m := y.length) (k := 65536))).trans (wrap_u64 (by omega) (by omega)))) ?_
      refine gp (r_val zci byte_nat) ?_
      refine gp zmv ?_
      refine gp (r_int zqu ((congrArg IntKind.u64.wrap (quo_nat (m := y.length) (k := 256))).trans (wrap_u64 (by omega) (by omega)))) ?_
      refine gp (r_val zci byte_nat) ?_
      refine gp zmv ?_
      refine gp (r_val zci byte_nat) ?_
      refine gl_bsls (vs := (part4 y.length).map B8) (wt0 rfl) Ty.sl_86 Ty.sz_5 Ty.zc_5 rfl rfl (one_B8 _) rfl rfl rfl ?_
      intro b34
      refine gp (zso (b := part4 y.length)) ?_
      refine gp zmv ?_
      refine gp (zcat (a := part4 y.length) (b := y) (hl := by simp only [part4, List.length_cons, List.length_nil]; omega)) ?_
      refine gp (r_val (zcat (hl := by simp only [part4, List.length_append, List.length_cons, List.length_nil]; omega)) (congrArg (fun l => Value.string (str l)) (framed_succ dom parts hly).symm)) ?_
      refine gp zas ?_
      refine gl_nil ?_
      refine gx_block_normal ?_
      refine gx_then ?_
      refine gc_region ?_
      refine gp zad ?_
      refine gp zmv ?_
      refine gl_nil ?_
      refine zrd (k + 1) ?_ ?_
      · show n - (k + 1) < n - k
        omega
      · exact zlp (show k + 1 ≤ n by omega)
    · try simp only at hc16
      have hk' : k = parts.length := by omega
      subst hk'
      refine gc_exit ?_
      refine gx_then_exit ?_
      refine gx_round_exit ?_
      refine gx_block_hit ?_
      refine gx_then ?_
      refine gsr ?_
      refine gp zmv ?_
      refine gp zas ?_
      refine gnt ?_
      refine gc_ret ?_
      refine gx_ret1 rfl (by conv => lhs; whnf) ?_
      rw [List.take_length]
      exact ze ()

set_option maxHeartbeats 400000 in
theorem of2_ok {w : World} {F : Nat → Prop} {dom : Int} {parts : List (List UInt8)} {a : Option Addr} {n c : Nat} (h : stars [] w F) (hx : RdList RdStr w (fun k => ¬ F k) 1 a n parts) (hb : 1 + pcost parts ≤ 1099511627776) :
    Calls Tryz.prog 69 #[.int .i64 dom, .slice a n c] w (Post w F (fun _ : Unit => .agg (dc (dOf Kc dom parts)).toArray) (fun _ => [])) := by
  refine g_enter (env := [(0, .int .i64 dom), (1, .slice a n c)]) Tryz.func69 rfl h Tryz.ntmps69 rfl rfl ?_
  refine gsr ?_
  refine zal fun b4 => ?_
  refine gnt ?_
  refine gsr ?_
  refine gp zmv ?_
  refine gp zmv ?_
  refine zc (fun _ => ?_) (c := fun w1 F1 F2 h1 h2 hd hst => framed_ok h1 (RdList.mv hx hst.still fun _ _ h => h) hb)
  refine zc (fun _ => ?_) (c := fun w1 F1 F2 h1 h2 hd hst => rsum_ok h1 (by rw [framed_length]; omega))
  generalize hV : (takes Kc v0 (refPad (framed dom parts))).1 = V
  refine zal fun b5 => ?_
  refine zsA fnc_length (fnc_one fun _ => rfl) ?_
  refine gnt ?_
  refine gsr ?_
  refine gp (r_buildA (cs := zD) Ty.zc_23 Ty.arr_23 Ty.sz_5 (by kernel_rfl)) ?_
  refine zal fun b6 => ?_
  refine zsA (new := zD) rfl (dc_one dig0) ?_
  refine gnt ?_
  refine gc_seq ?_
  refine gsr ?_
  refine gp zmv ?_
  refine gnt ?_
  refine gc_block ?_
  refine gc_loop (α := Nat) (fun k => [pureR (k ≤ 16), blk b6 23 (fnc B8 16 (pfx (outByte V) (fun _ => 0) k)), blk b5 216 (fnc B8 32 (outByte V)), blk b4 23 zD]) (fun k => [(13, .int .i64 (k : Int))]) [7, 14, 15, 16, 17, 18, 19, 20, 21] (fun k => 16 - k) 0 ?_ ?_ ?_
  · refine env_start (by kernel_rfl)
  · exact zlq (Nat.zero_le _) (M' := [blk b6 23 zD, blk b5 216 (fnc B8 32 (outByte V)), blk b4 23 zD]) (by rw [pfx_zero, fnc_const] <;> rfl)
  · intro k u
    refine gc_pureR (fun hk => ?_)
    replace hk : k ≤ 16 := hk
    refine gsr ?_
    refine gp zlt ?_
    refine gnt ?_
    refine gc_seq ?_
    refine gif rfl (fun hc14 => ?_) (fun hc14 => ?_)
    · try simp only at hc14
      have hk' : k < 16 := by omega
      refine gc_skip ?_
      refine gx_then ?_
      refine gc_seq ?_
      refine gc_block ?_
      refine gsr ?_
      refine gp zmv ?_
      refine gp zas ?_
      refine gnt ?_
      refine gc_region ?_
      refine gp zmv ?_
      refine gp zmv ?_
      refine gp zib ?_
      refine gp (r_ld1 (v := B8 (outByte V k)) rfl Ty.row_5 (by repeat (first | exact Pick.here | apply Pick.there)) (by rw [show 0 + (k : Int).toNat * 1 = k by omega]; exact fnc_get (V := B8) (f := outByte V) (by omega))) ?_
      refine gp zib ?_
      refine gl_store1 (wt0 rfl) rfl rfl rfl Ty.sz_5 (by repeat (first | exact Pick.here | apply Pick.there)) (by rw [fnc_length]; omega) (pfx_set (k := k) (by omega) (by omega) rfl) ?_
      refine gl_nil ?_
      refine gx_block_normal ?_
      refine gx_then ?_
      refine gc_region ?_
      refine gp zad ?_
      refine gp zmv ?_
      refine gl_nil ?_
      refine zrd (k + 1) ?_ ?_
      · show 16 - (k + 1) < 16 - k
        omega
      · exact zlp (show k + 1 ≤ 16 by omega)
    · try simp only at hc14
      have hk' : k = 16 := by omega
      subst hk'
      have e : fnc B8 16 (pfx (outByte V) (fun _ => 0) 16) = dc (dOf Kc dom parts) := by rw [pfx_full, ← hV]; exact of_cut dom parts
      rw [e]
      refine gc_exit ?_
      refine gx_then_exit ?_
      refine gx_round_exit ?_
      refine gx_block_hit ?_
      refine gx_then ?_
      refine gsr ?_
      refine gp (zLa (cs := dc (dOf Kc dom parts))) ?_
      refine zsA (dc_length _) (dc_one _) ?_
      refine gnt ?_
      refine gc_ret ?_
      refine gx_retc rfl rfl (ld_aggS Ty.row_23 Ty.sz_23 (by repeat (first | exact Pick.here | apply Pick.there)) (by (simp only [List.drop_succ_cons, List.drop_zero, List.take_succ_cons, List.take_zero, List.cons_append, List.nil_append, List.append_assoc, drop_dc, drop_dc', take_dc, take_dc', drop_L, drop_L', take_L, take_L', len_L, Nat.reduceLeDiff, Nat.reduceSub, Nat.reduceAdd, Nat.le_refl, List.length_cons, List.length_append, List.length_nil, dc_length, List.drop_nil, List.take_nil, List.append_nil, List.length_map, List.length_replicate]; first | done | rfl)) (by first | rfl | (simp only [List.drop_succ_cons, List.drop_zero, List.take_succ_cons, List.take_zero, List.cons_append, List.nil_append, List.append_assoc, drop_dc, drop_dc', take_dc, take_dc', drop_L, drop_L', take_L, take_L', len_L, Nat.reduceLeDiff, Nat.reduceSub, Nat.reduceAdd, Nat.le_refl, List.length_cons, List.length_append, List.length_nil, dc_length, List.drop_nil, List.take_nil, List.append_nil, List.length_map, List.length_replicate]; first | done | omega))) ?_
      exact ze ()







end Go.Proofs.YtobjojeliibinaaGreatDoor

