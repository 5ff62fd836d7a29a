/- Part 7. What is proved: see the last part: for every input the law returns true, and the input reads as it did. -/
import Derived.Test.YtomdanlljfikaaaGreatDoorCd6
import Derived.Test.YtomdanlljfikaaaGreatDoorCards
import Derived.Test.YtomdanlljfikaaaGreatDoorTie
import Derived.Deep.DeepHandedRow
import Derived.Deep.DeepWitnessRowRef
namespace Go.Proofs.YtomdanlljfikaaaGreatDoor
open Go
set_option linter.unusedVariables false
set_option linter.unusedSimpArgs false
set_option linter.unusedSectionVars false
section
theorem sc_at {s : Sec} {i : Nat} (h : i < 64) : (sc s)[i]? = some (B8 (s.l.getD i 0)) := by
  have hd := s.h
  simp [sc, List.getD, show i < s.l.length by omega]
theorem sc_at' {s : Sec} {i : Nat} (h : i < 64) : (sc s)[(i : Int).toNat * 1]? = some (B8 (s.l.getD i 0)) := by rw [show (i : Int).toNat * 1 = i by omega]; exact sc_at h
theorem map_sc_len {l : List Sec} : ∀ c ∈ l.map sc, c.length = 64 := fun c hc => by obtain ⟨s, _, rfl⟩ := List.mem_map.1 hc; exact sc_length s
theorem sec_row {w : World} {A : Nat → Prop} {g o n i : Nat} {ss : List Sec} {s : Sec} (h : RdRow w A 64 (some ⟨g, o, none⟩) n (scs ss)) (hi : i < n) (hs : ss[i]? = some s) : A g ∧ w.rangeAt g (o + i * 64) (sc s) := by
  obtain ⟨g', o', ha, hA, _, hr⟩ := h.elem hi
  cases ha
  refine ⟨hA, ?_⟩
  rw [show scs ss = (ss.map sc).flatten from rfl, flatten_at map_sc_len (show (ss.map sc)[i]? = some (sc s) by simp [hs])] at hr
  exact hr
theorem val4 {l : List UInt8} (h : 4 ≤ l.length) : valN (l.take 4) = (l.getD 0 0).toNat * 16777216 + (l.getD 1 0).toNat * 65536 + (l.getD 2 0).toNat * 256 + (l.getD 3 0).toNat := by
  rw [valN_step (k := 3) (by omega), valN_step (k := 2) (by omega), valN_step (k := 1) (by omega), valN_step (k := 0) (by omega), List.take_zero, show valN ([] : List UInt8) = 0 from rfl]
  omega
theorem tk_succ {p l : List UInt8} {i : Nat} (h : i < l.length) : (p ++ l.take (i + 1)).map B8 = (p ++ l.take i).map B8 ++ [B8 (l.getD i 0)] := by
  have e : l.take (i + 1) = l.take i ++ [l.getD i 0] := by rw [List.take_add_one, List.getElem?_eq_getElem h]; simp [List.getD, h]
  rw [e, ← List.append_assoc, List.map_append]; rfl
section
variable {d : DS} {e h x : Nat} {Y : List UInt8}
theorem lnx_0 (hz : d.at e = sec0) : lnext d e h = .ok none := by unfold lnext; rw [if_pos hz]
theorem lnx_1 (hz : d.at e ≠ sec0) (hx : x = valN ((d.at e).l.take 4)) (h1 : x < 1 ∨ ¬ nsec x + 2 ≤ d.n - e) : lnext d e h = .error 7 := by unfold lnext; rw [if_neg hz, ← hx, if_pos h1]
theorem lnx_2 (hz : d.at e ≠ sec0) (hx : x = valN ((d.at e).l.take 4)) (hy : bytesAt d.at (e + 1) x = none) : lnext d e h = .error 7 := by
  unfold lnext; rw [if_neg hz, ← hx]; split
  · rfl
  · rw [hy]
theorem lnx_3 (hz : d.at e ≠ sec0) (hx : x = valN ((d.at e).l.take 4)) (hy : bytesAt d.at (e + 1) x = some Y) (hh : headL h Y ≠ d.at e ∨ rdRec Y = none) : lnext d e h = .error 7 := by
  unfold lnext; rw [if_neg hz, ← hx]; split
  · rfl
  · rw [hy]; simp only
    split
    · rename_i h2
      rcases hh with hh | hh
      · exact absurd h2 hh
      · rw [hh]
    · rfl
theorem lnx_y {r : LRec} (hz : d.at e ≠ sec0) (hx : x = valN ((d.at e).l.take 4)) (h1 : ¬ (x < 1 ∨ ¬ nsec x + 2 ≤ d.n - e)) (hy : bytesAt d.at (e + 1) x = some Y) (hh : headL h Y = d.at e) (hr : rdRec Y = some r) : lnext d e h = .ok (some r) := by
  unfold lnext; rw [if_neg hz, ← hx, if_neg h1, hy]; simp only [if_pos hh, hr]
end
theorem rdRec_n6 {x l1 l2 : List UInt8} {b c : Block} (h : pAll pRec x = .ok (l1, l2)) (hb : pAll pBlock l1 = .ok b) (hc : pAll pBlock l2 = .ok c) (h0 : madeE b c.justify = 0) (h1 : datE b c.justify ≠ x) : rdRec x = none := by
  refine rdRec_n5 h hb hc fun hcs => h1 ?_
  rw [datE, if_pos h0]
  exact (rdRec_some (rdRec_y h hb hc h0 hcs)).2
theorem rdRec_y6 {x : List UInt8} {b : Block} {c : QC} (h0 : madeE b c = 0) (h1 : datE b c = x) : rdRec x = some ⟨b, c⟩ := by
  rw [datE, if_pos h0] at h1
  rw [← h1]; exact rdRec_data (made_ok h0)
def rdB (d : DS) (bs : Nat) : Bool := match lopen d bs [] with | .ok _ => true | .error _ => false
def rdL (d : DS) (bs : Nat) : List LRec := match lopen d bs [] with | .ok x => x.1 | .error _ => []
theorem rdB_ok {d : DS} {bs e : Nat} {rs : List LRec} (h : lopen d bs [] = .ok (rs, e)) : rdB d bs = true ∧ rdL d bs = rs := by unfold rdB rdL; rw [h]; exact ⟨rfl, rfl⟩
theorem rdB_err {d : DS} {bs k : Nat} (h : lopen d bs [] = .error k) : rdB d bs = false ∧ rdL d bs = [] := by unfold rdB rdL; rw [h]; exact ⟨rfl, rfl⟩
def RdRec18 (w : World) (A : Nat → Prop) (cs : List Value) (r : LRec) : Prop := ∃ xb xc, cs = xb ++ xc ∧ RdBlock w A xb r.b ∧ RdQC w A xc r.c
theorem RdRec18.mv {w w' : World} {A A' : Nat → Prop} {cs : List Value} {r : LRec} (h : RdRec18 w A cs r) (hk : Still w A w' A') : RdRec18 w' A' cs r := by
  obtain ⟨xb, xc, h1, h2, h3⟩ := h; exact ⟨xb, xc, h1, h2.mv hk, h3.mv hk⟩
instance : RdK RdRec18 := ⟨fun h k => h.mv k⟩
theorem vl_rec18 {q1 q2 : List Value} {b c : Block} {w : World} {F : Nat → Prop} (h : stars [VlR RdBlock q1 b, VlR RdBlock q2 c] w F) : stars [VlR RdRec18 (q1 ++ (q2.drop 18).take 19) ⟨b, c.justify⟩] w F := by
  obtain ⟨F1, F2, h1, h2, hF⟩ := stars_two h
  exact rdR_mk ⟨q1, _, rfl, RdK.mv h1.1 (still_sub fun k hk => (hF k).2 (.inl hk)), (rd_just h2.1).mv (still_sub fun k hk => (hF k).2 (.inr hk))⟩ h
theorem fp_lt {n x bs k dn : Nat} (hb : bs + n = dn) : (x < 1 ∨ ¬ nsec x + 2 ≤ dn - (bs + k)) ↔ (x < 1 ∨ ¬ nsec x + 2 ≤ n - k) := by rw [show dn - (bs + k) = n - k by omega]
attribute [local irreducible] Gl Gc Gx Gs Runs Wt
set_option maxRecDepth 20000
attribute [local irreducible] dc blkC qcC allE idOf madeE RdBlock RdQC RdRec18 rdB rdL
set_option maxHeartbeats 8000000 in
theorem read18_ok {w : World} {F : Nat → Prop} {d : DS} {bs n cc : Nat} {a : Option Addr} {ss : List Sec} (h : stars [] w F) (hx : RdRow w (fun k => ¬ F k) 64 a n (scs ss)) (hn0 : 0 < n) (hn6 : n ≤ 600) (hb : bs + n = d.n) (hat : ∀ i, i < n → ss[i]? = some (d.at (bs + i))) :
    Calls Tryz.prog 15 #[.slice a n cc] w (Post w F (fun p : Option Addr × Nat × List (List Value) => .tuple #[.slice p.1 (rdL d bs).length p.2.1, .bool (rdB d bs)]) (fun p => [pureR (∀ c ∈ p.2.2, c.length = 58), rowR 47 58 p.1 (rdL d bs).length p.2.1 p.2.2.flatten, ElR RdRec18 p.2.2 (rdL d bs)])) := by
 obtain ⟨gs, os, ha, _, _, _⟩ := hx.elem hn0; subst ha; refine g_enter (env := [(0, .slice (some ⟨gs, os, none⟩) n cc)]) Tryz.func15 rfl h Tryz.ntmps15 rfl rfl ?_; refine gsr (zxa ?_); refine zxa ?_; refine zxs ?_; refine ze0 (fun b23 => ?_)
 refine zxa ?_; refine zxs ?_; refine zxa ?_; refine gnt (gc_seq (gc_block (gc_loop (α := Nat × List LRec × Option Addr × Nat × List (List Value)) (fun y => [pureR (y.1 < n ∧ y.2.1.length ≤ y.1 ∧ lopen d (bs + y.1) y.2.1 = lopen d bs [] ∧ ∀ c ∈ y.2.2.2.2, c.length = 58), rowR 47 58 y.2.2.1 y.2.1.length y.2.2.2.1 y.2.2.2.2.flatten, ElR RdRec18 y.2.2.2.2 y.2.1]) (fun y => [(5, .int .i64 (y.1 : Int)), (4, .slice y.2.2.1 y.2.1.length y.2.2.2.1)]) [2, 3, 6, 7, 8, 9, 10, 12, 14, 15, 16, 17, 18, 19, 20, 21, 22, 24, 25, 26, 27, 28, 29, 30, 31, 32, 33, 34, 35, 36, 37, 38, 39, 40, 41, 42, 43, 44, 45, 46, 47, 48, 49, 50, 51, 52, 53, 54, 55, 56, 57, 58, 59, 60, 61, 62, 63, 64, 65, 66, 67, 68, 69, 70, 71, 72, 73, 74, 75, 76, 77, 78, 79, 80, 81, 82, 83, 84, 85, 86, 87, 88, 89, 90, 91, 92, 93, 94, 95, 96, 97, 98, 99, 100, 101, 102, 103, 104, 105, 106, 107, 108, 109, 110, 111, 112, 113, 114, 115, 116, 117, 118, 119, 120, 121, 122, 123, 124, 125, 126, 127, 128, 129, 130, 131, 132, 133, 134, 135, 136, 137, 138, 139, 140, 141, 142, 143, 144, 145, 146, 147, 148, 149, 150, 151, 152, 153, 154, 155, 156, 157, 158, 159, 160, 161, 162, 163, 164, 165, 166, 167, 168, 169, 170, 171, 172, 173, 174, 175, 176, 177, 178] (fun y => n - y.1) (0, [], some ⟨b23, 0, none⟩, 0, []) ?_ ?_ ?_)))
 ·refine env_start (by kernel_rfl)
 ·exact fun w' hw => zlp ⟨hn0, Nat.zero_le _, rfl, (by intro c hc; cases hc)⟩ (by repeat (first | exact Sel.nil | (apply Sel.cons; · (repeat (first | exact Pick.here | apply Pick.there))))) w' (hw.mapL fun F' hF' => el_nil (rd := RdRec18) hF')
 ·intro y u; obtain ⟨k, rs, a0, c0, css⟩ := y; refine gc_pureR (fun hk => ?_)
  obtain ⟨hk, hrl, hlo, h58⟩ := hk; replace hk : k < n := hk
  replace hrl : rs.length ≤ k := hrl
  replace hlo : lopen d (bs + k) rs = lopen d bs [] := hlo
  replace h58 : ∀ c ∈ css, c.length = 58 := h58
  obtain ⟨hA0, hr0⟩ := sec_row hx hk (hat k hk); have hsl := (d.at (bs + k)).h
  refine gc_seq (gsr (zxm ?_)); refine zxm ?_; refine gp zln ?_; refine gp (r_bool (c := true) zlt (decide_eq_true (by omega))) ?_; refine zxm ?_; refine gq zmv ?_; refine gq zmv ?_; refine gq (r_val (v' := .pointer (some ⟨gs, os + k * 64, none⟩)) zia (by simp)) ?_; refine gq (r_ldNo rfl Ty.row_54 Ty.sz_54 hr0 (sc_length _) (by decide) hA0) ?_; refine gq (zba (cs := sc sec0) (by exact rfl)) ?_; refine gq (r_bool (c := !decide ((d.at (bs + k)) = sec0)) (r_neq_sec (a := (d.at (bs + k))) (b := sec0) Ty.arr_54 Ty.un_5 Ty.sz_5 (by kernel_rfl)) rfl) ?_; refine gp zpk ?_; refine gnt (gif rfl (fun hc35 => ?_) (fun hc35 => ?_))
  ·try simp only at hc35
   have hz : (d.at (bs + k)) ≠ sec0 := by simpa using hc35
   refine gc_skip (gx_then (gc_block (gsr (zxm ?_)))); refine zxm ?_; refine gp (r_val (v' := .pointer (some ⟨gs, os + k * 64, none⟩)) zia (by simp)) ?_; refine gp (r_ldNo rfl Ty.row_54 Ty.sz_54 hr0 (sc_length _) (by decide) hA0) ?_; refine zal fun b6 => ?_; refine zsA (new := sc ((d.at (bs + k)))) (sc_length _) (sc_one _) ?_; refine zxs ?_; obtain ⟨x, hxv⟩ : ∃ x, x = valN ((d.at (bs + k)).l.take 4) := ⟨_, rfl⟩; have hx4 := hxv.trans (val4 (l := (d.at (bs + k)).l) (by omega))
   have hb0 := ((d.at (bs + k)).l.getD 0 0).toNat_lt
   have hb1 := ((d.at (bs + k)).l.getD 1 0).toNat_lt
   have hb2 := ((d.at (bs + k)).l.getD 2 0).toNat_lt
   have hb3 := ((d.at (bs + k)).l.getD 3 0).toNat_lt
   refine gp zib ?_; refine gp (zl (v := B8 ((d.at (bs + k)).l.getD 0 0)) (hv := sc_at (i := 0) (by decide))) ?_; refine gp (r_int (j := (((d.at (bs + k)).l.getD 0 0).toNat : Int)) zci (wrap_i64 (by omega) (by omega))) ?_; refine gp zml ?_; refine gp zib ?_; refine gp (zl (v := B8 ((d.at (bs + k)).l.getD 1 0)) (hv := sc_at (i := 1) (by decide))) ?_; refine gp (r_int (j := (((d.at (bs + k)).l.getD 1 0).toNat : Int)) zci (wrap_i64 (by omega) (by omega))) ?_; refine gp zml ?_; refine gp zad ?_; refine gp zib ?_; refine gp (zl (v := B8 ((d.at (bs + k)).l.getD 2 0)) (hv := sc_at (i := 2) (by decide))) ?_; refine gp (r_int (j := (((d.at (bs + k)).l.getD 2 0).toNat : Int)) zci (wrap_i64 (by omega) (by omega))) ?_; refine gp zml ?_; refine gp zad ?_; refine gp zib ?_; refine gp (zl (v := B8 ((d.at (bs + k)).l.getD 3 0)) (hv := sc_at (i := 3) (by decide))) ?_; refine gp (r_int (j := (((d.at (bs + k)).l.getD 3 0).toNat : Int)) zci (wrap_i64 (by omega) (by omega))) ?_; refine gp (r_int (j := (x : Int)) zad (by omega)) ?_; refine zxa ?_; refine zxs ?_; refine zxm ?_; refine gp zad ?_; refine gp (r_int (j := (nsec x : Int)) (zqu (i := (x : Int) + 63) (j := 64)) (by rw [Int.tdiv_eq_ediv_of_nonneg (by omega), wrap_i64 (by omega) (by omega)]; unfold nsec; omega)) ?_; refine zxa ?_; refine gnt (gc_seq (gc_seq ?_)); by_cases hx1 : x < 1
   ·refine gc_region (zxm ?_); refine gp (r_bool (c := true) zlt (decide_eq_true (by omega))) ?_; refine zxm ?_; refine gn ?_; refine gn ?_; refine gn ?_; refine gn ?_; refine gn ?_; refine gn ?_; refine gn ?_; refine gp zpk ?_; refine gnt (gc_condT rfl rfl ?_); refine gsr (zxa ?_); refine zxa ?_; refine gnt (gc_ret (gx_then_ret (gx_block_ret ?_))); refine gx_round_ret ?_; refine gx_block_ret ?_; refine gx_then_ret (gx_ret2 rfl (by conv => lhs; whnf) (by conv => lhs; whnf) ?_); have he : lopen d bs [] = .error 7 := by rw [← hlo]; exact lopen_err (lnx_1 hz hxv (.inl hx1))
    have hw0 : True := trivial
    intro w' hw; have hw := St.mapL hw (fun F' hF' => el_nil (rd := RdRec18) hF')
    exact ⟨(none, 0, []), by rw [(rdB_err he).1, (rdB_err he).2]; rfl, by rw [(rdB_err he).2]; exact St.pureI (by simp) ((hw.rowNil (e := 47) (size := 58)).z)⟩
   ·refine gc_region (zxm ?_); refine gp (r_bool (c := false) zlt (decide_eq_false (by omega))) ?_; refine zxm ?_; refine gq zmv ?_; refine gq zmv ?_; refine gq zln ?_; refine gq zmv ?_; refine gq zsb ?_; refine gq zsb ?_; refine gq (r_bool (c := !decide (nsec x + 2 ≤ n - k)) zgt (by rw [Bool.eq_iff_iff]; simp only [Bool.not_eq_true', decide_eq_false_iff_not, decide_eq_true_eq]; omega)) ?_; refine gp zpk ?_; refine gnt (gif rfl (fun hc71 => ?_) (fun hc71 => ?_))
    ·try simp only at hc71
     have hx2 : ¬ nsec x + 2 ≤ n - k := by simpa using hc71
     refine gsr (zxa ?_); refine zxa ?_; refine gnt (gc_ret (gx_then_ret (gx_block_ret ?_))); refine gx_round_ret ?_; refine gx_block_ret ?_; refine gx_then_ret (gx_ret2 rfl (by conv => lhs; whnf) (by conv => lhs; whnf) ?_); have he : lopen d bs [] = .error 7 := by rw [← hlo]; exact lopen_err (lnx_1 hz hxv ((fp_lt hb).2 (.inr hx2)))
     have hw0 : True := trivial
     intro w' hw; have hw := St.mapL hw (fun F' hF' => el_nil (rd := RdRec18) hF')
     exact ⟨(none, 0, []), by rw [(rdB_err he).1, (rdB_err he).2]; rfl, by rw [(rdB_err he).2]; exact St.pureI (by simp) ((hw.rowNil (e := 47) (size := 58)).z)⟩
    ·try simp only at hc71
     have hx2 : nsec x + 2 ≤ n - k := by simpa using hc71
     have hx64 : x ≤ 64 * nsec x ∧ 64 * nsec x < x + 64 := by unfold nsec; omega
     have hcl := catS_len d.at (bs + k + 1) (nsec x)
     refine gc_skip (gx_then (gsr (ze0 (fun b72 => ?_))))
     refine zxa ?_; refine gnt (gc_seq (gsr (zxm ?_))); refine gp (r_int (j := ((k + 1 + 0 : Nat) : Int)) zad (by omega)) ?_; refine zxa ?_; refine gnt (gc_block (gc_loop (α := Nat × Option Addr × Nat) (fun y => [pureR (y.1 ≤ nsec x), rowR 5 1 y.2.1 (64 * y.1) y.2.2 ((catS d.at (bs + k + 1) y.1).map B8), blk b6 54 (sc (d.at (bs + k))), rowR 47 58 a0 rs.length c0 css.flatten, ElR RdRec18 css rs]) (fun y => [(10, .int .i64 ((k + 1 + y.1 : Nat) : Int)), (9, .slice y.2.1 (64 * y.1) y.2.2)]) [12, 75, 76, 77, 78, 79, 80, 81, 82, 83, 84, 85, 86, 87, 88, 89, 90, 91, 92, 93] (fun y => nsec x - y.1) (0, some ⟨b72, 0, none⟩, 0) ?_ ?_ ?_))
     ·refine env_start (by kernel_rfl)
     ·exact zlp (Nat.zero_le _)
     ·intro y u; obtain ⟨j, a1, c1⟩ := y; refine gc_pureR (fun hj => ?_)
      replace hj : j ≤ nsec x := hj
      refine gc_seq (gsr (zxm ?_)); refine zxm ?_; refine zxm ?_; refine gp (r_int (j := ((k + nsec x : Nat) : Int)) zad (by omega)) ?_; refine gp zle ?_; refine gnt (gif rfl (fun hc79 => ?_) (fun hc79 => ?_))
      ·try simp only at hc79
       have hj' : j < nsec x := by omega
       have hat2 : ss[k + 1 + j]? = some (d.at (bs + k + 1 + j)) := by have := hat (k + 1 + j) (by omega); rwa [show bs + (k + 1 + j) = bs + k + 1 + j by omega] at this
       obtain ⟨hA1, hr1⟩ := sec_row hx (by omega) hat2; have hsl2 := (d.at (bs + k + 1 + j)).h
       refine gc_skip (gx_then (gc_seq (gc_block (gsr (zxm ?_))))); refine zxm ?_; refine gp (r_val (v' := .pointer (some ⟨gs, os + (k + 1 + j) * 64, none⟩)) zia (by simp)) ?_; refine gp (r_ldNo rfl Ty.row_54 Ty.sz_54 hr1 (sc_length _) (by decide) hA1) ?_; refine zxm ?_; refine gnt (gc_block (gc_loop (α := Nat × Option Addr × Nat) (fun y => [pureR (y.1 ≤ 64), rowR 5 1 y.2.1 (64 * j + y.1) y.2.2 ((catS d.at (bs + k + 1) j ++ (d.at (bs + k + 1 + j)).l.take y.1).map B8), blk b6 54 (sc (d.at (bs + k))), rowR 47 58 a0 rs.length c0 css.flatten, ElR RdRec18 css rs]) (fun y => [(86, .int .i64 (y.1 : Int)), (9, .slice y.2.1 (64 * j + y.1) y.2.2)]) [12, 87, 88, 89, 90, 91, 92, 93] (fun y => 64 - y.1) (0, a1, c1) ?_ ?_ ?_))
       ·refine env_start (by kernel_rfl)
       ·simp only [List.take_zero, List.append_nil]
        exact zlp (Nat.zero_le _)
       ·intro y u; obtain ⟨i, a2, c2⟩ := y; refine gc_pureR (fun hi => ?_)
        replace hi : i ≤ 64 := hi
        refine gsr (gp zlt ?_); refine gnt (gc_seq (gif rfl (fun hc87 => ?_) (fun hc87 => ?_)))
        ·try simp only at hc87
         have hi' : i < 64 := by omega
         refine gc_skip (gx_then (gc_seq (gc_block (gsr (gp (r_index1 (v := B8 ((d.at (bs + k + 1 + j)).l.getD i 0)) rfl rfl Ty.arr_54 Ty.sz_5 Ty.row_5 (by omega) (by omega) (sc_at' hi')) ?_))))); refine zxa ?_; refine gnt (gc_region (zxm ?_)); refine zxm ?_; refine ze1 fun b91 => ?_; refine zapo (a2 := some ⟨b91, 0, none⟩) (c2 := 1) (news := [B8 ((d.at (bs + k + 1 + j)).l.getD i 0)]) (fun a92 c92 => ?_) (h1 := all_cons' rfl all_nil')
         rw [show 64 * j + i + 1 = 64 * j + (i + 1) by omega]; refine zxa ?_; refine gl_nil (gx_block_normal (gx_then (gc_region (gp zad ?_)))); refine zxm ?_; refine gl_nil (zrd ((i + 1, a92, c92)) ?_ ?_)
         ·show 64 - (i + 1) < 64 - i
          omega
         ·rw [← tk_succ (by omega)]; exact zlp (show i + 1 ≤ 64 by omega)
        ·try simp only at hc87
         have hi' : i = 64 := by omega
         subst hi'; rw [List.take_of_length_le (by omega), ← catS_succ, show 64 * j + 64 = 64 * (j + 1) by omega]; refine gc_exit ?_; refine gx_then_exit ?_; refine gx_round_exit ?_; refine gx_block_hit ?_; refine gx_block_normal (gx_then (gc_region (zxm ?_))); refine gp (r_int (j := ((k + 1 + (j + 1) : Nat) : Int)) zad (by omega)) ?_; refine zxa ?_; refine gl_nil (zrd ((j + 1, a2, c2)) ?_ ?_)
         ·show nsec x - (j + 1) < nsec x - j
          omega
         ·exact zlp (show j + 1 ≤ nsec x by omega)
      ·try simp only at hc79
       have hj' : j = nsec x := by omega
       subst hj'; refine gc_fact (fun w' hw => St.rowAt (hw.sel (M := [rowR 5 1 a1 (64 * nsec x) c1 ((catS d.at (bs + k + 1) (nsec x)).map B8)]) (by repeat (first | exact Sel.nil | (apply Sel.cons; · (repeat (first | exact Pick.here | apply Pick.there)))))) .here (by omega)) (fun hra => ?_)
       obtain ⟨hnc, ga, oa, ha⟩ := hra; subst ha; refine gc_exit ?_; refine gx_then_exit ?_; refine gx_round_exit ?_; refine gx_block_hit ?_; refine gx_then (gc_seq (gc_seq ?_)); by_cases hS : x < 64 * nsec x
       ·refine gc_region (zxm ?_); refine zxm ?_; refine gp (r_val (v' := .slice (some ⟨ga, oa + x * 1, none⟩) (64 * nsec x - x) (c1 - x)) (r_slice_slice (a := (some ⟨ga, oa, none⟩)) (m := 64 * nsec x) (c := c1) (l := x) (h := 64 * nsec x) rfl Ty.sl_49 Ty.sz_5 ⟨_, rfl⟩ rfl (by omega) (by omega)) (by rw [if_neg (by omega), add_at])) ?_; refine gp zln ?_; refine zxm ?_; refine gnt (gc_block (gc_loop (α := Nat) (fun j => [pureR (j ≤ 64 * nsec x - x ∧ ∀ i, i < j → (catS d.at (bs + k + 1) (nsec x)).getD (x + i) 0 = 0), rowR 5 1 (some ⟨ga, oa, none⟩) (64 * nsec x) c1 ((catS d.at (bs + k + 1) (nsec x)).map B8), blk b6 54 (sc (d.at (bs + k))), rowR 47 58 a0 rs.length c0 css.flatten, ElR RdRec18 css rs]) (fun j => [(98, .int .i64 (j : Int))]) [2, 3, 14, 99, 100, 101, 102, 103, 104] (fun j => 64 * nsec x - x - j) 0 ?_ ?_ ?_))
        ·refine env_start (by kernel_rfl)
        ·exact zlp ⟨Nat.zero_le _, fun i hi => absurd hi (Nat.not_lt_zero _)⟩
        ·intro j u; refine gc_pureR (fun hj => ?_)
         replace hj : j ≤ 64 * nsec x - x ∧ ∀ i, i < j → (catS d.at (bs + k + 1) (nsec x)).getD (x + i) 0 = 0 := hj
         refine gsr (gp zlt ?_); refine gnt (gc_seq (gif rfl (fun hc99 => ?_) (fun hc99 => ?_)))
         ·try simp only at hc99
          have hjn : j < 64 * nsec x - x := by omega
          refine gc_skip (gx_then (gc_seq (gc_block (gsr (gp (r_val (v' := .pointer (some ⟨ga, oa + (x + j), none⟩)) zia (by first | (simp; done) | (simp; omega))) ?_))))); refine gp (r_ld1r (v := B8 ((catS d.at (bs + k + 1) (nsec x)).getD (x + j) 0)) rfl Ty.row_5 (by repeat (first | exact Pick.here | apply Pick.there)) (by simp [List.getD, show x + j < (catS d.at (bs + k + 1) (nsec x)).length by omega])) ?_; refine zxa ?_; refine zxs ?_; refine zxm ?_; refine gp (r_bool (c := !decide ((catS d.at (bs + k + 1) (nsec x)).getD (x + j) 0 = 0)) zni (by rw [Bool.eq_iff_iff]; simp only [Bool.not_eq_true', decide_eq_false_iff_not]; rw [← UInt8.toNat_inj]; simp)) ?_; refine gnt (gif rfl (fun hc103 => ?_) (fun hc103 => ?_))
          ·try simp only at hc103
           have hbe : bytesE d.at (bs + k + 1) x = (7, []) := bytesE_bad (j := j) (by omega) (by simpa using hc103)
           refine gsr (zxa ?_); refine zxa ?_; refine gnt (gc_ret (gx_block_ret ?_)); refine gx_then_ret (gx_round_ret ?_); refine gx_block_ret ?_; refine gx_then_ret (gx_block_ret ?_); refine gx_round_ret ?_; refine gx_block_ret ?_; refine gx_then_ret (gx_ret2 rfl (by conv => lhs; whnf) (by conv => lhs; whnf) ?_); have he : lopen d bs [] = .error 7 := by rw [← hlo]; exact lopen_err (lnx_2 hz hxv (bytesE_err (by rw [hbe]; exact (show (7 : Nat) ≠ 0 by decide))).1)
           have hw0 : True := trivial
           intro w' hw; have hw := St.mapL hw (fun F' hF' => el_nil (rd := RdRec18) hF')
           exact ⟨(none, 0, []), by rw [(rdB_err he).1, (rdB_err he).2]; rfl, by rw [(rdB_err he).2]; exact St.pureI (by simp) ((hw.rowNil (e := 47) (size := 58)).z)⟩
          ·try simp only at hc103
           replace hc103 : (catS d.at (bs + k + 1) (nsec x)).getD (x + j) 0 = 0 := by simpa using hc103
           refine gc_skip (gx_block_normal (gx_then (gc_region (gp zad ?_)))); refine zxm ?_; refine gl_nil (zrd (j + 1) ?_ ?_)
           ·show 64 * nsec x - x - (j + 1) < 64 * nsec x - x - j
            omega
           ·exact zlp (show j + 1 ≤ 64 * nsec x - x ∧ ∀ i, i < j + 1 → (catS d.at (bs + k + 1) (nsec x)).getD (x + i) 0 = 0 from ⟨by omega, fun i hi => (by by_cases h : i < j; exact hj.2 i h; (obtain rfl : i = j := by omega); exact hc103)⟩)
         ·try simp only at hc99
          have hjn : j = 64 * nsec x - x := by omega
          have hbe : bytesE d.at (bs + k + 1) x = (0, (catS d.at (bs + k + 1) (nsec x)).take x) := bytesE_good (fun i hi => hj.2 i (by omega))
          refine gc_exit ?_; refine gx_then_exit ?_; refine gx_round_exit ?_; refine gx_block_hit ?_; refine gx_then (gsr ?_); have hya : bytesAt d.at (bs + k + 1) x = some (bytesE d.at (bs + k + 1) x).2 := bytesE_ok (by rw [hbe])
          rw [hbe] at hya; obtain ⟨Y, hY⟩ : ∃ Y, Y = (catS d.at (bs + k + 1) (nsec x)).take x := ⟨_, rfl⟩; replace hya : bytesAt d.at (bs + k + 1) x = some Y := by rw [hY]; exact hya
          have hyl : Y.length = x := by rw [hY, List.length_take]; omega
          refine gl_cz (M := [rowR 5 1 (some ⟨ga, oa, none⟩) (64 * nsec x) c1 ((catS d.at (bs + k + 1) (nsec x)).map B8)]) (N := [rowR 5 1 (some ⟨ga, oa, none⟩) Y.length c1 (Y.map B8)]) (fun w' F' hh => (by have h3 := row_cut (k := x) hh (by omega); rw [← List.map_take, ← hY] at h3; rw [hyl]; exact h3)) ?_; have hyc : x ≤ c1 := by omega
          refine zxm ?_; refine zxm ?_; refine gp (r_val (v' := .slice (some ⟨ga, oa, none⟩) Y.length c1) (r_slice_slice (a := (some ⟨ga, oa, none⟩)) (m := 64 * nsec x) (c := c1) (l := 0) (h := x) rfl Ty.sl_49 Ty.sz_5 rfl ⟨_, rfl⟩ (Nat.zero_le _) (by omega)) (by rw [if_neg (by omega), add_at, hyl]; simp)) ?_; refine gp (r_build (cs := [.slice (some ⟨ga, oa, none⟩) Y.length c1, .int .i64 0, .int .i64 0]) Ty.zc_111 Ty.pl_111 (by kernel_rfl)) ?_; refine zbN fun b109 => ?_; refine zxa ?_; refine zxs ?_; refine zxm ?_; refine gl_cz (M := [blk b109 111 [.slice (some ⟨ga, oa, none⟩) Y.length c1, .int .i64 0, .int .i64 0]]) (N := [InR b109 (some ⟨ga, oa, none⟩) c1 Y (.ok Y)]) (fun w F hF => in_mk (r := ⟨0, 0⟩) hF rfl rfl rfl (Nat.zero_le _)) ?_; refine zc ?_ (c := fun w1 F1 F2 h1 h2 hd hst => ibytes_ok (most := 65535) h1 (rd_row (xs := Y.map B8) h2 hd (by repeat (first | exact Pick.here | apply Pick.there))) (by omega) (by omega) (by decide))
          rintro ⟨a111, c111, l1⟩
          refine gl_pureR (fun hp => ?_)
          obtain ⟨g111, m111⟩ := hp; replace g111 : Ag (pBytes 65535) (.ok Y) l1 := g111
          replace m111 : l1.length ≤ Y.length := m111
          refine zxm ?_; refine zc ?_ (c := fun w1 F1 F2 h1 h2 hd hst => ibytes_ok (most := 65535) h1 (rd_row (xs := Y.map B8) h2 hd (by repeat (first | exact Pick.here | apply Pick.there))) (by omega) (by omega) (by decide))
          rintro ⟨a113, c113, l2⟩
          refine gl_pureR (fun hp => ?_)
          obtain ⟨g113, m113⟩ := hp; replace g113 : Ag (pBytes 65535) _ l2 := g113
          replace m113 : l2.length ≤ Y.length := m113
          have hag : Ag pRec (.ok Y) (l1, l2) := g111.bind (g113.bind (Ag.pure _))
          have hr : rstep pRec (.ok Y) = rstep (pBytes 65535) (rstep (pBytes 65535) (.ok Y)) := by rw [pRec, rstep_bind g111, rstep_bind g113, rstep_pure]
          have hfin := allE_fin (z := ([], [])) noz_rec hag
          rw [hr] at hfin; refine zxa ?_; refine zxa ?_; refine zxs ?_; refine zxm ?_; refine gp (r_build (cs := [.slice a111 l1.length c111, .int .i64 0, .int .i64 0]) Ty.zc_111 Ty.pl_111 (by kernel_rfl)) ?_; refine zbN fun b116 => ?_; refine gp zbu ?_; refine zxm ?_; refine gp (r_build (cs := [.slice a113 l2.length c113, .int .i64 0, .int .i64 0]) Ty.zc_111 Ty.pl_111 (by kernel_rfl)) ?_; refine zbN fun b120 => ?_; refine gp zbu ?_; refine zal fun b18 => ?_; refine zal fun b19 => ?_; refine zsA (new := [.pointer (some ⟨b116, 0, none⟩)]) rfl (all_cons' rfl all_nil') ?_; refine zsA (new := [.pointer (some ⟨b120, 0, none⟩)]) rfl (all_cons' rfl all_nil') ?_; refine gnt (gc_join (α := Nat × (List Value × Block) × (List Value × Block)) (fun y => [pureR ((Ag pBlock (.ok l1) y.2.1.2 ∧ y.2.1.1.length = 39 ∧ (∀ v ∈ y.2.1.1, v.oneCell' = true) ∧ OkBlock y.2.1.2) ∧ Ag pBlock (.ok l2) y.2.2.2 ∧ y.2.2.1.length = 39 ∧ (∀ v ∈ y.2.2.1, v.oneCell' = true) ∧ OkBlock y.2.2.2), blk y.1 47 (y.2.1.1 ++ (y.2.2.1.drop 18).take 19), VlR RdBlock y.2.1.1 y.2.1.2, VlR RdBlock y.2.2.1 y.2.2.2, InR b116 a111 c111 l1 (rstep pBlock (.ok l1)), InR b120 a113 c113 l2 (rstep pBlock (.ok l2)), InR b109 (some ⟨ga, oa, none⟩) c1 Y (rstep (pBytes 65535) (rstep (pBytes 65535) (.ok Y))), rowR 5 1 (some ⟨ga, oa, none⟩) Y.length c1 (Y.map B8), rowR 5 1 a111 l1.length c111 (l1.map B8), rowR 5 1 a113 l2.length c113 (l2.map B8), blk b18 114 [.pointer (some ⟨b116, 0, none⟩)], blk b19 114 [.pointer (some ⟨b120, 0, none⟩)], blk b6 54 (sc (d.at (bs + k))), rowR 47 58 a0 rs.length c0 css.flatten, ElR RdRec18 css rs]) (fun y => [(20, .pointer (some ⟨y.1, 0, none⟩))]) [122, 123, 124, 125, 126, 127] ?_ ?_)
          ·refine gc_regionZ 7 ([blk b18 114 [.pointer (some ⟨b116, 0, none⟩)], blk b19 114 [.pointer (some ⟨b120, 0, none⟩)]]) ?_; refine yps 0 rfl (zLa (cs := [.pointer (some ⟨b116, 0, none⟩)])) ?_; refine yps 2 rfl (zLa (cs := [.pointer (some ⟨b120, 0, none⟩)])) ?_; refine yo2s 1 6 rfl rfl ?_ ?_
           ·refine gl_cz (M := [blk b116 111 [.slice a111 l1.length c111, .int .i64 0, .int .i64 0]]) (N := [InR b116 a111 c111 l1 (.ok l1)]) (fun w F hF => in_mk (r := ⟨0, 0⟩) hF rfl rfl rfl (Nat.zero_le _)) ?_; refine zc ?_ (c := fun w1 F1 F2 h1 h2 hd hst => iblock_ok h1 (rd_row (xs := l1.map B8) h2 hd (by repeat (first | exact Pick.here | apply Pick.there))) (rd_le (xs := l1.map B8) h2 (by repeat (first | exact Pick.here | apply Pick.there))) (by omega))
            rintro ⟨q123, v123⟩
            refine gl_pureR (fun hp => ?_)
            obtain ⟨g123, z123, o123, k123⟩ := hp; replace z123 : q123.length = 39 := z123
            replace k123 : OkBlock v123 := k123
            replace g123 : Ag pBlock (.ok l1) v123 := g123
            have hfi123 := allE_fin (z := blk0) noz_block g123
            have i123 := Len.of z123
            have j123 := One.of (show ∀ v ∈ q123, v.oneCell' = true from o123)
            refine yxs ?_; refine yo2s 3 6 rfl rfl ?_ ?_
            ·refine gl_cz (M := [blk b120 111 [.slice a113 l2.length c113, .int .i64 0, .int .i64 0]]) (N := [InR b120 a113 c113 l2 (.ok l2)]) (fun w F hF => in_mk (r := ⟨0, 0⟩) hF rfl rfl rfl (Nat.zero_le _)) ?_; refine zc ?_ (c := fun w1 F1 F2 h1 h2 hd hst => iblock_ok h1 (rd_row (xs := l2.map B8) h2 hd (by repeat (first | exact Pick.here | apply Pick.there))) (rd_le (xs := l2.map B8) h2 (by repeat (first | exact Pick.here | apply Pick.there))) (by omega))
             rintro ⟨q125, v125⟩
             refine gl_pureR (fun hp => ?_)
             obtain ⟨g125, z125, o125, k125⟩ := hp; replace z125 : q125.length = 39 := z125
             replace k125 : OkBlock v125 := k125
             replace g125 : Ag pBlock (.ok l2) v125 := g125
             have hfi125 := allE_fin (z := blk0) noz_block g125
             have i125 := Len.of z125
             have j125 := One.of (show ∀ v ∈ q125, v.oneCell' = true from o125)
             refine yxs ?_; have z126 : ((q125.drop 18).take 19).length = 19 := by rw [List.length_take, List.length_drop]; omega
             have o126 : ∀ v ∈ ((q125.drop 18).take 19), v.oneCell' = true := fun v hv => o125 v (List.mem_of_mem_drop (List.mem_of_mem_take hv))
             have i126 := Len.of z126
             have j126 := One.of o126
             have hql : (q123 ++ ((q125.drop 18).take 19)).length = 58 := by rw [List.length_append]; omega
             have jqx : ∀ v ∈ q123 ++ ((q125.drop 18).take 19), v.oneCell' = true := all_app' o123 o126
             refine yps 4 rfl (r_fieldN (cs := q125) (seg := ((q125.drop 18).take 19)) (k := 18) rfl (by kernel_rfl) Ty.row_41 Ty.sz_41 rfl) ?_; refine yps 5 rfl zbu ?_; refine yos 6 rfl ?_; refine zal fun b20 => ?_; refine yxs ?_; refine yzs rfl ?_; refine zsN ?_; refine gl_nil (zjn ((b20, (q123, v123), (q125, v125))) ?_)
             ·exact fun w' hw => St.pureI ⟨⟨g123, z123, o123, k123⟩, g125, z125, o125, k125⟩ (hw.z)
            ·refine zal fun b20 => ?_; refine yxs ?_; refine yos 3 rfl ?_; refine gl_cz (M := [blk b120 111 [.slice a113 l2.length c113, .int .i64 0, .int .i64 0]]) (N := [InR b120 a113 c113 l2 (.ok l2)]) (fun w F hF => in_mk (r := ⟨0, 0⟩) hF rfl rfl rfl (Nat.zero_le _)) ?_; refine zc ?_ (c := fun w1 F1 F2 h1 h2 hd hst => iblock_ok h1 (rd_row (xs := l2.map B8) h2 hd (by repeat (first | exact Pick.here | apply Pick.there))) (rd_le (xs := l2.map B8) h2 (by repeat (first | exact Pick.here | apply Pick.there))) (by omega))
             rintro ⟨q125, v125⟩
             refine gl_pureR (fun hp => ?_)
             obtain ⟨g125, z125, o125, k125⟩ := hp; replace z125 : q125.length = 39 := z125
             replace k125 : OkBlock v125 := k125
             replace g125 : Ag pBlock (.ok l2) v125 := g125
             have hfi125 := allE_fin (z := blk0) noz_block g125
             have i125 := Len.of z125
             have j125 := One.of (show ∀ v ∈ q125, v.oneCell' = true from o125)
             refine yxs ?_; have z126 : ((q125.drop 18).take 19).length = 19 := by rw [List.length_take, List.length_drop]; omega
             have o126 : ∀ v ∈ ((q125.drop 18).take 19), v.oneCell' = true := fun v hv => o125 v (List.mem_of_mem_drop (List.mem_of_mem_take hv))
             have i126 := Len.of z126
             have j126 := One.of o126
             have hql : (q123 ++ ((q125.drop 18).take 19)).length = 58 := by rw [List.length_append]; omega
             have jqx : ∀ v ∈ q123 ++ ((q125.drop 18).take 19), v.oneCell' = true := all_app' o123 o126
             refine yps 4 rfl (r_fieldN (cs := q125) (seg := ((q125.drop 18).take 19)) (k := 18) rfl (by kernel_rfl) Ty.row_41 Ty.sz_41 rfl) ?_; refine yps 5 rfl zbu ?_; refine yzs rfl ?_; refine zsN ?_; refine gl_nil (zjn ((b20, (q123, v123), (q125, v125))) ?_)
             ·exact fun w' hw => St.pureI ⟨⟨g123, z123, o123, k123⟩, g125, z125, o125, k125⟩ (hw.z)
           ·refine zal fun b20 => ?_; refine yxs ?_; refine yos 1 rfl ?_; refine gl_cz (M := [blk b116 111 [.slice a111 l1.length c111, .int .i64 0, .int .i64 0]]) (N := [InR b116 a111 c111 l1 (.ok l1)]) (fun w F hF => in_mk (r := ⟨0, 0⟩) hF rfl rfl rfl (Nat.zero_le _)) ?_; refine zc ?_ (c := fun w1 F1 F2 h1 h2 hd hst => iblock_ok h1 (rd_row (xs := l1.map B8) h2 hd (by repeat (first | exact Pick.here | apply Pick.there))) (rd_le (xs := l1.map B8) h2 (by repeat (first | exact Pick.here | apply Pick.there))) (by omega))
            rintro ⟨q123, v123⟩
            refine gl_pureR (fun hp => ?_)
            obtain ⟨g123, z123, o123, k123⟩ := hp; replace z123 : q123.length = 39 := z123
            replace k123 : OkBlock v123 := k123
            replace g123 : Ag pBlock (.ok l1) v123 := g123
            have hfi123 := allE_fin (z := blk0) noz_block g123
            have i123 := Len.of z123
            have j123 := One.of (show ∀ v ∈ q123, v.oneCell' = true from o123)
            refine yxs ?_; refine yos 3 rfl ?_; refine gl_cz (M := [blk b120 111 [.slice a113 l2.length c113, .int .i64 0, .int .i64 0]]) (N := [InR b120 a113 c113 l2 (.ok l2)]) (fun w F hF => in_mk (r := ⟨0, 0⟩) hF rfl rfl rfl (Nat.zero_le _)) ?_; refine zc ?_ (c := fun w1 F1 F2 h1 h2 hd hst => iblock_ok h1 (rd_row (xs := l2.map B8) h2 hd (by repeat (first | exact Pick.here | apply Pick.there))) (rd_le (xs := l2.map B8) h2 (by repeat (first | exact Pick.here | apply Pick.there))) (by omega))
            rintro ⟨q125, v125⟩
            refine gl_pureR (fun hp => ?_)
            obtain ⟨g125, z125, o125, k125⟩ := hp; replace z125 : q125.length = 39 := z125
            replace k125 : OkBlock v125 := k125
            replace g125 : Ag pBlock (.ok l2) v125 := g125
            have hfi125 := allE_fin (z := blk0) noz_block g125
            have i125 := Len.of z125
            have j125 := One.of (show ∀ v ∈ q125, v.oneCell' = true from o125)
            refine yxs ?_; have z126 : ((q125.drop 18).take 19).length = 19 := by rw [List.length_take, List.length_drop]; omega
            have o126 : ∀ v ∈ ((q125.drop 18).take 19), v.oneCell' = true := fun v hv => o125 v (List.mem_of_mem_drop (List.mem_of_mem_take hv))
            have i126 := Len.of z126
            have j126 := One.of o126
            have hql : (q123 ++ ((q125.drop 18).take 19)).length = 58 := by rw [List.length_append]; omega
            have jqx : ∀ v ∈ q123 ++ ((q125.drop 18).take 19), v.oneCell' = true := all_app' o123 o126
            refine yps 4 rfl (r_fieldN (cs := q125) (seg := ((q125.drop 18).take 19)) (k := 18) rfl (by kernel_rfl) Ty.row_41 Ty.sz_41 rfl) ?_; refine yps 5 rfl zbu ?_; refine yzs rfl ?_; refine zsN ?_; refine gl_nil (zjn ((b20, (q123, v123), (q125, v125))) ?_)
            ·exact fun w' hw => St.pureI ⟨⟨g123, z123, o123, k123⟩, g125, z125, o125, k125⟩ (hw.z)
          ·intro y u; obtain ⟨b20, ⟨q123, v123⟩, q125, v125⟩ := y; refine gc_pureR (fun hp => ?_)
           obtain ⟨⟨g123, z123, o123, k123⟩, g125, z125, o125, k125⟩ := hp; replace z123 : q123.length = 39 := z123
           replace o123 : ∀ v ∈ q123, v.oneCell' = true := o123
           replace k123 : OkBlock v123 := k123
           replace g123 : Ag pBlock (.ok l1) v123 := g123
           have hfi123 := allE_fin (z := blk0) noz_block g123
           have i123 := Len.of z123
           have j123 := One.of o123
           replace z125 : q125.length = 39 := z125
           replace o125 : ∀ v ∈ q125, v.oneCell' = true := o125
           replace k125 : OkBlock v125 := k125
           replace g125 : Ag pBlock (.ok l2) v125 := g125
           have hfi125 := allE_fin (z := blk0) noz_block g125
           have i125 := Len.of z125
           have j125 := One.of o125
           have z126 : ((q125.drop 18).take 19).length = 19 := by rw [List.length_take, List.length_drop]; omega
           have o126 : ∀ v ∈ ((q125.drop 18).take 19), v.oneCell' = true := fun v hv => o125 v (List.mem_of_mem_drop (List.mem_of_mem_take hv))
           have i126 := Len.of z126
           have j126 := One.of o126
           have hql : (q123 ++ ((q125.drop 18).take 19)).length = 58 := by rw [List.length_append]; omega
           have jqx : ∀ v ∈ q123 ++ ((q125.drop 18).take 19), v.oneCell' = true := all_app' o123 o126
           refine gsr (gp (zLa (cs := q123 ++ ((q125.drop 18).take 19))) ?_); refine zc ?_ (c := fun w1 F1 F2 h1 h2 hd hst => data18_ok h1 (vl_rd h2 hd (by repeat (first | exact Pick.here | apply Pick.there))) (rd_just (vl_rd h2 hd (by repeat (first | exact Pick.here | apply Pick.there)))) k123 k125.2.2.1)
           rintro ⟨a130, c130⟩
           refine zxm ?_; refine gp zex ?_; refine gp zex ?_; refine zxa ?_; refine zxa ?_; refine gnt (gc_seq (gc_seq ?_)); by_cases e0 : doneE (rstep (pBytes 65535) (rstep (pBytes 65535) (.ok Y))) = 0
           ·by_cases e1 : doneE (rstep pBlock (.ok l1)) = 0
            ·by_cases e2 : doneE (rstep pBlock (.ok l2)) = 0
             ·by_cases e3 : madeE v123 v125.justify = 0
              ·by_cases e4 : datE v123 v125.justify = Y
               ·refine gc_regionH ([blk b18 114 [.pointer (some ⟨b116, 0, none⟩)], blk b19 114 [.pointer (some ⟨b120, 0, none⟩)], blk b6 54 (sc (d.at (bs + k))), rowR 5 1 (some ⟨ga, oa, none⟩) Y.length c1 (Y.map B8), rowR 5 1 a130 (datE v123 v125.justify).length c130 ((datE v123 v125.justify).map B8)]) ?_; refine yp 0 rfl zmv ?_; refine yo 1 rfl ?_; refine zc (fun _ => ?_) (c := fun w1 F1 F2 h1 h2 hd hst => idone_ok h1 (rd_row (xs := Y.map B8) h2 hd (by repeat (first | exact Pick.here | apply Pick.there))) (by omega) (by omega))
                refine yx ?_; refine yp 2 rfl (r_bool (c := false) zni (by simp [e0])) ?_; refine yp 3 rfl zmv ?_; refine yp 4 rfl zfa ?_; refine yp 5 rfl zl ?_; refine yo 6 rfl ?_; refine zc (fun _ => ?_) (c := fun w1 F1 F2 h1 h2 hd hst => idone_ok h1 (rd_row (xs := l1.map B8) h2 hd (by repeat (first | exact Pick.here | apply Pick.there))) (rd_le (xs := l1.map B8) h2 (by repeat (first | exact Pick.here | apply Pick.there))) (by omega))
                refine yx ?_; refine yp 7 rfl (r_bool (c := false) zni (by simp [e1])) ?_; refine yp 8 rfl zpk ?_; refine yp 9 rfl zmv ?_; refine yp 10 rfl zfa ?_; refine yp 11 rfl zl ?_; refine yo 12 rfl ?_; refine zc (fun _ => ?_) (c := fun w1 F1 F2 h1 h2 hd hst => idone_ok h1 (rd_row (xs := l2.map B8) h2 hd (by repeat (first | exact Pick.here | apply Pick.there))) (rd_le (xs := l2.map B8) h2 (by repeat (first | exact Pick.here | apply Pick.there))) (by omega))
                refine yx ?_; refine yp 13 rfl (r_bool (c := false) zni (by simp [e2])) ?_; refine yp 14 rfl zpk ?_; refine yp 15 rfl zmv ?_; refine yp 16 rfl zmv ?_; refine yp 17 rfl (r_bool (c := false) zni (by simp [e3])) ?_; refine yp 18 rfl zpk ?_; refine yp 19 rfl zmv ?_; refine yp 20 rfl zmv ?_; refine yp 21 rfl (zso (b := datE v123 v125.justify)) ?_; refine yp 22 rfl zmv ?_; refine yp 23 rfl zmv ?_; refine yp 24 rfl (r_val (v' := .slice (some ⟨ga, oa, none⟩) Y.length c1) (r_slice_slice (a := (some ⟨ga, oa, none⟩)) (m := 64 * nsec x) (c := c1) (l := 0) (h := x) rfl Ty.sl_49 Ty.sz_5 rfl ⟨_, rfl⟩ (Nat.zero_le _) (by omega)) (by rw [if_neg (by omega), add_at, hyl]; simp)) ?_; refine yp 25 rfl (zso (b := Y)) ?_; refine yp 26 rfl (r_bool (c := false) zns (by simp [e4])) ?_; refine yp 27 rfl zpk ?_; refine yp 28 rfl zmv ?_; refine yp 29 rfl zmv ?_; refine yp 30 rfl zln ?_; refine yp 31 rfl zmv ?_; refine yp 35 rfl (zLa (cs := sc (d.at (bs + k)))) ?_; refine yo 32 rfl ?_; refine zc ?_ (c := fun w1 F1 F2 h1 h2 hd hst => sectors18_ok (k := rs.length) (d := datE v123 v125.justify) h1 (rd_row (xs := (datE v123 v125.justify).map B8) h2 hd (by repeat (first | exact Pick.here | apply Pick.there))) (by omega) (datE_len _ _))
                rintro ⟨a165, c165⟩
                rw [e4]; refine gl_fact (fun w' hw => St.rowAt (hw.sel (M := [rowR 54 64 a165 (1 + nsec Y.length) c165 (scs (secsP rs.length Y (nsec Y.length)))]) (by repeat (first | exact Sel.nil | (apply Sel.cons; · (repeat (first | exact Pick.here | apply Pick.there)))))) .here (by omega)) (fun hra => ?_)
                obtain ⟨_, g5, o5, ha⟩ := hra; subst ha; refine yx ?_; refine yp 33 rfl (r_val (v' := .pointer (some ⟨g5, o5 + 0 * 64, none⟩)) zia (by simp)) ?_; refine yo 34 rfl ?_; refine gq (r_ldRow (i := 0) (css := (secsP rs.length Y (nsec Y.length)).map sc) (cs := sc (headL rs.length Y)) rfl Ty.row_54 Ty.sz_54 (by repeat (first | exact Pick.here | apply Pick.there)) map_sc_len rfl (by omega)) ?_; refine yx ?_; refine yp 36 rfl (r_bool (c := !decide (headL rs.length Y = (d.at (bs + k)))) (r_neq_sec (a := headL rs.length Y) (b := (d.at (bs + k))) Ty.arr_54 Ty.un_5 Ty.sz_5 (by kernel_rfl)) rfl) ?_; refine yp 37 rfl zpk ?_; refine yd ?_; refine gx_then (gif rfl (fun hc170 => ?_) (fun hc170 => ?_))
                ·try simp only at hc170
                 have hh : headL rs.length Y ≠ (d.at (bs + k)) := by simpa using hc170
                 refine gsr (zxa ?_); refine zxa ?_; refine gnt (gc_ret (gx_then_ret (gx_block_ret ?_))); refine gx_round_ret ?_; refine gx_block_ret ?_; refine gx_then_ret (gx_ret2 rfl (by conv => lhs; whnf) (by conv => lhs; whnf) ?_); have he : lopen d bs [] = .error 7 := by rw [← hlo]; exact lopen_err (lnx_3 hz hxv hya (.inl hh))
                 have hw0 : True := trivial
                 intro w' hw; have hw := St.mapL hw (fun F' hF' => el_nil (rd := RdRec18) hF')
                 exact ⟨(none, 0, []), by rw [(rdB_err he).1, (rdB_err he).2]; rfl, by rw [(rdB_err he).2]; exact St.pureI (by simp) ((hw.rowNil (e := 47) (size := 58)).z)⟩
                ·try simp only at hc170
                 have hh : headL rs.length Y = (d.at (bs + k)) := by simpa using hc170
                 have hrr : rdRec Y = some ⟨v123, v125.justify⟩ := rdRec_y6 e3 e4
                 have hlr : lenR (⟨v123, v125.justify⟩ : LRec) = 1 + nsec x := by rw [lenR, (rdRec_some hrr).2, hyl]
                 have hlo' : lopen d (bs + (k + (1 + nsec x))) (rs ++ [⟨v123, v125.justify⟩]) = lopen d bs [] := by rw [← hlo, lopen_more (lnx_y hz hxv (fun hh' => ((fp_lt hb).1 hh').elim hx1 (fun h' => h' hx2)) hya hh hrr), hlr, Nat.add_assoc]
                 refine gc_skip (gx_then (gsr (zxm ?_))); refine gp (zLa (cs := q123 ++ ((q125.drop 18).take 19))) ?_; refine zeN fun b173 => ?_; refine zapo (m := rs.length) (a2 := some ⟨b173, 0, none⟩) (c2 := 1) (news := q123 ++ ((q125.drop 18).take 19)) (fun a174 c174 => ?_) (h1 := jqx)
                 rw [show rs.length + 1 = (rs ++ [(⟨v123, v125.justify⟩ : LRec)]).length by simp]; refine zxa ?_; refine gnt (gc_region (zxm ?_)); refine zxm ?_; refine gp (r_int (j := ((1 + nsec x : Nat) : Int)) zad (by omega)) ?_; refine gp (r_int (j := ((k + (1 + nsec x) : Nat) : Int)) zad (by omega)) ?_; refine zxa ?_; refine gl_nil (gx_block_normal (zrd ((k + (1 + nsec x), rs ++ [⟨v123, v125.justify⟩], a174, c174, css ++ [q123 ++ ((q125.drop 18).take 19)])) ?_ ?_))
                 ·show n - (k + (1 + nsec x)) < n - k
                  omega
                 ·intro w' hw; have h1 := hw.conv (M := [VlR RdBlock q123 v123, VlR RdBlock q125 v125]) (by repeat (first | exact Sel.nil | (apply Sel.cons; · (repeat (first | exact Pick.here | apply Pick.there))))) (fun _ _ => vl_rec18)
                  have h2 := h1.conv (M := [ElR RdRec18 css rs, VlR RdRec18 (q123 ++ ((q125.drop 18).take 19)) ⟨v123, v125.justify⟩]) (by repeat (first | exact Sel.nil | (apply Sel.cons; · (repeat (first | exact Pick.here | apply Pick.there))))) (fun _ _ => el_snoc)
                  refine St.pureI ⟨show k + (1 + nsec x) < n by omega, by show (rs ++ [_]).length ≤ _; rw [List.length_append]; show rs.length + 1 ≤ _; omega, hlo', fun c hc => (by rcases List.mem_append.1 hc with h | h; exact h58 c h; (rw [List.mem_singleton.1 h]; exact hql))⟩ ?_; rw [show (css ++ [q123 ++ ((q125.drop 18).take 19)]).flatten = css.flatten ++ (q123 ++ ((q125.drop 18).take 19)) by simp]; exact h2.z
               ·refine gc_regionH ([blk b18 114 [.pointer (some ⟨b116, 0, none⟩)], blk b19 114 [.pointer (some ⟨b120, 0, none⟩)], blk b6 54 (sc (d.at (bs + k))), rowR 5 1 (some ⟨ga, oa, none⟩) Y.length c1 (Y.map B8), rowR 5 1 a130 (datE v123 v125.justify).length c130 ((datE v123 v125.justify).map B8)]) ?_; refine yp 0 rfl zmv ?_; refine yo 1 rfl ?_; refine zc (fun _ => ?_) (c := fun w1 F1 F2 h1 h2 hd hst => idone_ok h1 (rd_row (xs := Y.map B8) h2 hd (by repeat (first | exact Pick.here | apply Pick.there))) (by omega) (by omega))
                refine yx ?_; refine yp 2 rfl (r_bool (c := false) zni (by simp [e0])) ?_; refine yp 3 rfl zmv ?_; refine yp 4 rfl zfa ?_; refine yp 5 rfl zl ?_; refine yo 6 rfl ?_; refine zc (fun _ => ?_) (c := fun w1 F1 F2 h1 h2 hd hst => idone_ok h1 (rd_row (xs := l1.map B8) h2 hd (by repeat (first | exact Pick.here | apply Pick.there))) (rd_le (xs := l1.map B8) h2 (by repeat (first | exact Pick.here | apply Pick.there))) (by omega))
                refine yx ?_; refine yp 7 rfl (r_bool (c := false) zni (by simp [e1])) ?_; refine yp 8 rfl zpk ?_; refine yp 9 rfl zmv ?_; refine yp 10 rfl zfa ?_; refine yp 11 rfl zl ?_; refine yo 12 rfl ?_; refine zc (fun _ => ?_) (c := fun w1 F1 F2 h1 h2 hd hst => idone_ok h1 (rd_row (xs := l2.map B8) h2 hd (by repeat (first | exact Pick.here | apply Pick.there))) (rd_le (xs := l2.map B8) h2 (by repeat (first | exact Pick.here | apply Pick.there))) (by omega))
                refine yx ?_; refine yp 13 rfl (r_bool (c := false) zni (by simp [e2])) ?_; refine yp 14 rfl zpk ?_; refine yp 15 rfl zmv ?_; refine yp 16 rfl zmv ?_; refine yp 17 rfl (r_bool (c := false) zni (by simp [e3])) ?_; refine yp 18 rfl zpk ?_; refine yp 19 rfl zmv ?_; refine yp 20 rfl zmv ?_; refine yp 21 rfl (zso (b := datE v123 v125.justify)) ?_; refine yp 22 rfl zmv ?_; refine yp 23 rfl zmv ?_; refine yp 24 rfl (r_val (v' := .slice (some ⟨ga, oa, none⟩) Y.length c1) (r_slice_slice (a := (some ⟨ga, oa, none⟩)) (m := 64 * nsec x) (c := c1) (l := 0) (h := x) rfl Ty.sl_49 Ty.sz_5 rfl ⟨_, rfl⟩ (Nat.zero_le _) (by omega)) (by rw [if_neg (by omega), add_at, hyl]; simp)) ?_; refine yp 25 rfl (zso (b := Y)) ?_; refine yp 26 rfl (r_bool (c := true) zns (by simp [e4])) ?_; refine yp 27 rfl zpk ?_; refine yp 28 rfl zmv ?_; refine yn 29 rfl ?_; refine yn 30 rfl ?_; refine yn 31 rfl ?_; refine yn 32 rfl ?_; refine yn 33 rfl ?_; refine yn 35 rfl ?_; refine yo 34 rfl ?_; refine gn ?_; refine yx ?_; refine yn 36 rfl ?_; refine yp 37 rfl zpk ?_; refine yd ?_; refine gx_then (gc_condT rfl rfl ?_); refine gsr (zxa ?_); refine zxa ?_; refine gnt (gc_ret (gx_then_ret (gx_block_ret ?_))); refine gx_round_ret ?_; refine gx_block_ret ?_; refine gx_then_ret (gx_ret2 rfl (by conv => lhs; whnf) (by conv => lhs; whnf) ?_); have hx0 : pAll pRec Y = .ok (l1, l2) := by rw [allE_good' (z := ([], [])) noz_rec (by rw [← hfin.1]; exact e0), hfin.2.1 e0]
                have hbk : pAll pBlock l1 = .ok v123 := by rw [allE_good' (z := blk0) noz_block (by rw [← hfi123.1]; exact e1), hfi123.2.1 e1]
                have hck : pAll pBlock l2 = .ok v125 := by rw [allE_good' (z := blk0) noz_block (by rw [← hfi125.1]; exact e2), hfi125.2.1 e2]
                have he : lopen d bs [] = .error 7 := by rw [← hlo]; exact lopen_err (lnx_3 hz hxv hya (.inr (rdRec_n6 hx0 hbk hck e3 e4)))
                have hw0 : True := trivial
                intro w' hw; have hw := St.mapL hw (fun F' hF' => el_nil (rd := RdRec18) hF')
                exact ⟨(none, 0, []), by rw [(rdB_err he).1, (rdB_err he).2]; rfl, by rw [(rdB_err he).2]; exact St.pureI (by simp) ((hw.rowNil (e := 47) (size := 58)).z)⟩
              ·refine gc_regionH ([blk b18 114 [.pointer (some ⟨b116, 0, none⟩)], blk b19 114 [.pointer (some ⟨b120, 0, none⟩)], blk b6 54 (sc (d.at (bs + k))), rowR 5 1 (some ⟨ga, oa, none⟩) Y.length c1 (Y.map B8), rowR 5 1 a130 (datE v123 v125.justify).length c130 ((datE v123 v125.justify).map B8)]) ?_; refine yp 0 rfl zmv ?_; refine yo 1 rfl ?_; refine zc (fun _ => ?_) (c := fun w1 F1 F2 h1 h2 hd hst => idone_ok h1 (rd_row (xs := Y.map B8) h2 hd (by repeat (first | exact Pick.here | apply Pick.there))) (by omega) (by omega))
               refine yx ?_; refine yp 2 rfl (r_bool (c := false) zni (by simp [e0])) ?_; refine yp 3 rfl zmv ?_; refine yp 4 rfl zfa ?_; refine yp 5 rfl zl ?_; refine yo 6 rfl ?_; refine zc (fun _ => ?_) (c := fun w1 F1 F2 h1 h2 hd hst => idone_ok h1 (rd_row (xs := l1.map B8) h2 hd (by repeat (first | exact Pick.here | apply Pick.there))) (rd_le (xs := l1.map B8) h2 (by repeat (first | exact Pick.here | apply Pick.there))) (by omega))
               refine yx ?_; refine yp 7 rfl (r_bool (c := false) zni (by simp [e1])) ?_; refine yp 8 rfl zpk ?_; refine yp 9 rfl zmv ?_; refine yp 10 rfl zfa ?_; refine yp 11 rfl zl ?_; refine yo 12 rfl ?_; refine zc (fun _ => ?_) (c := fun w1 F1 F2 h1 h2 hd hst => idone_ok h1 (rd_row (xs := l2.map B8) h2 hd (by repeat (first | exact Pick.here | apply Pick.there))) (rd_le (xs := l2.map B8) h2 (by repeat (first | exact Pick.here | apply Pick.there))) (by omega))
               refine yx ?_; refine yp 13 rfl (r_bool (c := false) zni (by simp [e2])) ?_; refine yp 14 rfl zpk ?_; refine yp 15 rfl zmv ?_; refine yp 16 rfl zmv ?_; refine yp 17 rfl (r_bool (c := true) zni (by simp [e3])) ?_; refine yp 18 rfl zpk ?_; refine yp 19 rfl zmv ?_; refine yn 20 rfl ?_; refine yn 21 rfl ?_; refine yn 22 rfl ?_; refine yn 23 rfl ?_; refine yn 24 rfl ?_; refine yn 25 rfl ?_; refine yn 26 rfl ?_; refine yp 27 rfl zpk ?_; refine yp 28 rfl zmv ?_; refine yn 29 rfl ?_; refine yn 30 rfl ?_; refine yn 31 rfl ?_; refine yn 32 rfl ?_; refine yn 33 rfl ?_; refine yn 35 rfl ?_; refine yo 34 rfl ?_; refine gn ?_; refine yx ?_; refine yn 36 rfl ?_; refine yp 37 rfl zpk ?_; refine yd ?_; refine gx_then (gc_condT rfl rfl ?_); refine gsr (zxa ?_); refine zxa ?_; refine gnt (gc_ret (gx_then_ret (gx_block_ret ?_))); refine gx_round_ret ?_; refine gx_block_ret ?_; refine gx_then_ret (gx_ret2 rfl (by conv => lhs; whnf) (by conv => lhs; whnf) ?_); have hx0 : pAll pRec Y = .ok (l1, l2) := by rw [allE_good' (z := ([], [])) noz_rec (by rw [← hfin.1]; exact e0), hfin.2.1 e0]
               have hbk : pAll pBlock l1 = .ok v123 := by rw [allE_good' (z := blk0) noz_block (by rw [← hfi123.1]; exact e1), hfi123.2.1 e1]
               have hck : pAll pBlock l2 = .ok v125 := by rw [allE_good' (z := blk0) noz_block (by rw [← hfi125.1]; exact e2), hfi125.2.1 e2]
               have he : lopen d bs [] = .error 7 := by rw [← hlo]; exact lopen_err (lnx_3 hz hxv hya (.inr (rdRec_n4 hx0 hbk hck e3)))
               have hw0 : True := trivial
               intro w' hw; have hw := St.mapL hw (fun F' hF' => el_nil (rd := RdRec18) hF')
               exact ⟨(none, 0, []), by rw [(rdB_err he).1, (rdB_err he).2]; rfl, by rw [(rdB_err he).2]; exact St.pureI (by simp) ((hw.rowNil (e := 47) (size := 58)).z)⟩
             ·refine gc_regionH ([blk b18 114 [.pointer (some ⟨b116, 0, none⟩)], blk b19 114 [.pointer (some ⟨b120, 0, none⟩)], blk b6 54 (sc (d.at (bs + k))), rowR 5 1 (some ⟨ga, oa, none⟩) Y.length c1 (Y.map B8), rowR 5 1 a130 (datE v123 v125.justify).length c130 ((datE v123 v125.justify).map B8)]) ?_; refine yp 0 rfl zmv ?_; refine yo 1 rfl ?_; refine zc (fun _ => ?_) (c := fun w1 F1 F2 h1 h2 hd hst => idone_ok h1 (rd_row (xs := Y.map B8) h2 hd (by repeat (first | exact Pick.here | apply Pick.there))) (by omega) (by omega))
              refine yx ?_; refine yp 2 rfl (r_bool (c := false) zni (by simp [e0])) ?_; refine yp 3 rfl zmv ?_; refine yp 4 rfl zfa ?_; refine yp 5 rfl zl ?_; refine yo 6 rfl ?_; refine zc (fun _ => ?_) (c := fun w1 F1 F2 h1 h2 hd hst => idone_ok h1 (rd_row (xs := l1.map B8) h2 hd (by repeat (first | exact Pick.here | apply Pick.there))) (rd_le (xs := l1.map B8) h2 (by repeat (first | exact Pick.here | apply Pick.there))) (by omega))
              refine yx ?_; refine yp 7 rfl (r_bool (c := false) zni (by simp [e1])) ?_; refine yp 8 rfl zpk ?_; refine yp 9 rfl zmv ?_; refine yp 10 rfl zfa ?_; refine yp 11 rfl zl ?_; refine yo 12 rfl ?_; refine zc (fun _ => ?_) (c := fun w1 F1 F2 h1 h2 hd hst => idone_ok h1 (rd_row (xs := l2.map B8) h2 hd (by repeat (first | exact Pick.here | apply Pick.there))) (rd_le (xs := l2.map B8) h2 (by repeat (first | exact Pick.here | apply Pick.there))) (by omega))
              refine yx ?_; refine yp 13 rfl (r_bool (c := true) zni (by simp [e2])) ?_; refine yp 14 rfl zpk ?_; refine yp 15 rfl zmv ?_; refine yn 16 rfl ?_; refine yn 17 rfl ?_; refine yp 18 rfl zpk ?_; refine yp 19 rfl zmv ?_; refine yn 20 rfl ?_; refine yn 21 rfl ?_; refine yn 22 rfl ?_; refine yn 23 rfl ?_; refine yn 24 rfl ?_; refine yn 25 rfl ?_; refine yn 26 rfl ?_; refine yp 27 rfl zpk ?_; refine yp 28 rfl zmv ?_; refine yn 29 rfl ?_; refine yn 30 rfl ?_; refine yn 31 rfl ?_; refine yn 32 rfl ?_; refine yn 33 rfl ?_; refine yn 35 rfl ?_; refine yo 34 rfl ?_; refine gn ?_; refine yx ?_; refine yn 36 rfl ?_; refine yp 37 rfl zpk ?_; refine yd ?_; refine gx_then (gc_condT rfl rfl ?_); refine gsr (zxa ?_); refine zxa ?_; refine gnt (gc_ret (gx_then_ret (gx_block_ret ?_))); refine gx_round_ret ?_; refine gx_block_ret ?_; refine gx_then_ret (gx_ret2 rfl (by conv => lhs; whnf) (by conv => lhs; whnf) ?_); have hx0 : pAll pRec Y = .ok (l1, l2) := by rw [allE_good' (z := ([], [])) noz_rec (by rw [← hfin.1]; exact e0), hfin.2.1 e0]
              have hbk : pAll pBlock l1 = .ok v123 := by rw [allE_good' (z := blk0) noz_block (by rw [← hfi123.1]; exact e1), hfi123.2.1 e1]
              have he : lopen d bs [] = .error 7 := by rw [← hlo]; exact lopen_err (lnx_3 hz hxv hya (.inr (rdRec_n3 hx0 hbk (z := blk0) (by rw [← hfi125.1]; exact e2))))
              have hw0 : True := trivial
              intro w' hw; have hw := St.mapL hw (fun F' hF' => el_nil (rd := RdRec18) hF')
              exact ⟨(none, 0, []), by rw [(rdB_err he).1, (rdB_err he).2]; rfl, by rw [(rdB_err he).2]; exact St.pureI (by simp) ((hw.rowNil (e := 47) (size := 58)).z)⟩
            ·refine gc_regionH ([blk b18 114 [.pointer (some ⟨b116, 0, none⟩)], blk b19 114 [.pointer (some ⟨b120, 0, none⟩)], blk b6 54 (sc (d.at (bs + k))), rowR 5 1 (some ⟨ga, oa, none⟩) Y.length c1 (Y.map B8), rowR 5 1 a130 (datE v123 v125.justify).length c130 ((datE v123 v125.justify).map B8)]) ?_; refine yp 0 rfl zmv ?_; refine yo 1 rfl ?_; refine zc (fun _ => ?_) (c := fun w1 F1 F2 h1 h2 hd hst => idone_ok h1 (rd_row (xs := Y.map B8) h2 hd (by repeat (first | exact Pick.here | apply Pick.there))) (by omega) (by omega))
             refine yx ?_; refine yp 2 rfl (r_bool (c := false) zni (by simp [e0])) ?_; refine yp 3 rfl zmv ?_; refine yp 4 rfl zfa ?_; refine yp 5 rfl zl ?_; refine yo 6 rfl ?_; refine zc (fun _ => ?_) (c := fun w1 F1 F2 h1 h2 hd hst => idone_ok h1 (rd_row (xs := l1.map B8) h2 hd (by repeat (first | exact Pick.here | apply Pick.there))) (rd_le (xs := l1.map B8) h2 (by repeat (first | exact Pick.here | apply Pick.there))) (by omega))
             refine yx ?_; refine yp 7 rfl (r_bool (c := true) zni (by simp [e1])) ?_; refine yp 8 rfl zpk ?_; refine yp 9 rfl zmv ?_; refine yn 10 rfl ?_; refine yn 11 rfl ?_; refine yn 12 rfl ?_; refine yn 13 rfl ?_; refine yp 14 rfl zpk ?_; refine yp 15 rfl zmv ?_; refine yn 16 rfl ?_; refine yn 17 rfl ?_; refine yp 18 rfl zpk ?_; refine yp 19 rfl zmv ?_; refine yn 20 rfl ?_; refine yn 21 rfl ?_; refine yn 22 rfl ?_; refine yn 23 rfl ?_; refine yn 24 rfl ?_; refine yn 25 rfl ?_; refine yn 26 rfl ?_; refine yp 27 rfl zpk ?_; refine yp 28 rfl zmv ?_; refine yn 29 rfl ?_; refine yn 30 rfl ?_; refine yn 31 rfl ?_; refine yn 32 rfl ?_; refine yn 33 rfl ?_; refine yn 35 rfl ?_; refine yo 34 rfl ?_; refine gn ?_; refine yx ?_; refine yn 36 rfl ?_; refine yp 37 rfl zpk ?_; refine yd ?_; refine gx_then (gc_condT rfl rfl ?_); refine gsr (zxa ?_); refine zxa ?_; refine gnt (gc_ret (gx_then_ret (gx_block_ret ?_))); refine gx_round_ret ?_; refine gx_block_ret ?_; refine gx_then_ret (gx_ret2 rfl (by conv => lhs; whnf) (by conv => lhs; whnf) ?_); have hx0 : pAll pRec Y = .ok (l1, l2) := by rw [allE_good' (z := ([], [])) noz_rec (by rw [← hfin.1]; exact e0), hfin.2.1 e0]
             have he : lopen d bs [] = .error 7 := by rw [← hlo]; exact lopen_err (lnx_3 hz hxv hya (.inr (rdRec_n2 hx0 (z := blk0) (by rw [← hfi123.1]; exact e1))))
             have hw0 : True := trivial
             intro w' hw; have hw := St.mapL hw (fun F' hF' => el_nil (rd := RdRec18) hF')
             exact ⟨(none, 0, []), by rw [(rdB_err he).1, (rdB_err he).2]; rfl, by rw [(rdB_err he).2]; exact St.pureI (by simp) ((hw.rowNil (e := 47) (size := 58)).z)⟩
           ·refine gc_regionH ([blk b18 114 [.pointer (some ⟨b116, 0, none⟩)], blk b19 114 [.pointer (some ⟨b120, 0, none⟩)], blk b6 54 (sc (d.at (bs + k))), rowR 5 1 (some ⟨ga, oa, none⟩) Y.length c1 (Y.map B8), rowR 5 1 a130 (datE v123 v125.justify).length c130 ((datE v123 v125.justify).map B8)]) ?_; refine yp 0 rfl zmv ?_; refine yo 1 rfl ?_; refine zc (fun _ => ?_) (c := fun w1 F1 F2 h1 h2 hd hst => idone_ok h1 (rd_row (xs := Y.map B8) h2 hd (by repeat (first | exact Pick.here | apply Pick.there))) (by omega) (by omega))
            refine yx ?_; refine yp 2 rfl (r_bool (c := true) zni (by simp [e0])) ?_; refine yp 3 rfl zmv ?_; refine yn 4 rfl ?_; refine yn 5 rfl ?_; refine yn 6 rfl ?_; refine yn 7 rfl ?_; refine yp 8 rfl zpk ?_; refine yp 9 rfl zmv ?_; refine yn 10 rfl ?_; refine yn 11 rfl ?_; refine yn 12 rfl ?_; refine yn 13 rfl ?_; refine yp 14 rfl zpk ?_; refine yp 15 rfl zmv ?_; refine yn 16 rfl ?_; refine yn 17 rfl ?_; refine yp 18 rfl zpk ?_; refine yp 19 rfl zmv ?_; refine yn 20 rfl ?_; refine yn 21 rfl ?_; refine yn 22 rfl ?_; refine yn 23 rfl ?_; refine yn 24 rfl ?_; refine yn 25 rfl ?_; refine yn 26 rfl ?_; refine yp 27 rfl zpk ?_; refine yp 28 rfl zmv ?_; refine yn 29 rfl ?_; refine yn 30 rfl ?_; refine yn 31 rfl ?_; refine yn 32 rfl ?_; refine yn 33 rfl ?_; refine yn 35 rfl ?_; refine yo 34 rfl ?_; refine gn ?_; refine yx ?_; refine yn 36 rfl ?_; refine yp 37 rfl zpk ?_; refine yd ?_; refine gx_then (gc_condT rfl rfl ?_); refine gsr (zxa ?_); refine zxa ?_; refine gnt (gc_ret (gx_then_ret (gx_block_ret ?_))); refine gx_round_ret ?_; refine gx_block_ret ?_; refine gx_then_ret (gx_ret2 rfl (by conv => lhs; whnf) (by conv => lhs; whnf) ?_); have he : lopen d bs [] = .error 7 := by rw [← hlo]; exact lopen_err (lnx_3 hz hxv hya (.inr (rdRec_n1 (z := ([], [])) (by rw [← hfin.1]; exact e0))))
            have hw0 : True := trivial
            intro w' hw; have hw := St.mapL hw (fun F' hF' => el_nil (rd := RdRec18) hF')
            exact ⟨(none, 0, []), by rw [(rdB_err he).1, (rdB_err he).2]; rfl, by rw [(rdB_err he).2]; exact St.pureI (by simp) ((hw.rowNil (e := 47) (size := 58)).z)⟩
       ·refine gc_region (zxm ?_); refine zxm ?_; refine gp (r_slice_slice (a := (some ⟨ga, oa, none⟩)) (m := 64 * nsec x) (c := c1) (l := x) (h := 64 * nsec x) rfl Ty.sl_49 Ty.sz_5 ⟨_, rfl⟩ rfl (by omega) (by omega)) ?_; refine gp zln ?_; refine zxm ?_; refine gnt (gc_block (gc_loop (α := Nat) (fun j => [pureR (j ≤ 64 * nsec x - x ∧ ∀ i, i < j → (catS d.at (bs + k + 1) (nsec x)).getD (x + i) 0 = 0), rowR 5 1 (some ⟨ga, oa, none⟩) (64 * nsec x) c1 ((catS d.at (bs + k + 1) (nsec x)).map B8), blk b6 54 (sc (d.at (bs + k))), rowR 47 58 a0 rs.length c0 css.flatten, ElR RdRec18 css rs]) (fun j => [(98, .int .i64 (j : Int))]) [2, 3, 14, 99, 100, 101, 102, 103, 104] (fun j => 64 * nsec x - x - j) 0 ?_ ?_ ?_))
        ·refine env_start (by kernel_rfl)
        ·exact zlp ⟨Nat.zero_le _, fun i hi => absurd hi (Nat.not_lt_zero _)⟩
        ·intro j u; refine gc_pureR (fun hj => ?_)
         replace hj : j ≤ 64 * nsec x - x ∧ ∀ i, i < j → (catS d.at (bs + k + 1) (nsec x)).getD (x + i) 0 = 0 := hj
         refine gsr (gp zlt ?_); refine gnt (gc_seq (gif rfl (fun hc99 => ?_) (fun hc99 => ?_)))
         ·try simp only at hc99
          exfalso; omega
         ·try simp only at hc99
          have hjn : j = 64 * nsec x - x := by omega
          have hbe : bytesE d.at (bs + k + 1) x = (0, (catS d.at (bs + k + 1) (nsec x)).take x) := bytesE_good (fun i hi => hj.2 i (by omega))
          refine gc_exit ?_; refine gx_then_exit ?_; refine gx_round_exit ?_; refine gx_block_hit ?_; refine gx_then (gsr ?_); have hya : bytesAt d.at (bs + k + 1) x = some (bytesE d.at (bs + k + 1) x).2 := bytesE_ok (by rw [hbe])
          rw [hbe] at hya; obtain ⟨Y, hY⟩ : ∃ Y, Y = (catS d.at (bs + k + 1) (nsec x)).take x := ⟨_, rfl⟩; replace hya : bytesAt d.at (bs + k + 1) x = some Y := by rw [hY]; exact hya
          have hyl : Y.length = x := by rw [hY, List.length_take]; omega
          refine gl_cz (M := [rowR 5 1 (some ⟨ga, oa, none⟩) (64 * nsec x) c1 ((catS d.at (bs + k + 1) (nsec x)).map B8)]) (N := [rowR 5 1 (some ⟨ga, oa, none⟩) Y.length c1 (Y.map B8)]) (fun w' F' hh => (by have h3 := row_cut (k := x) hh (by omega); rw [← List.map_take, ← hY] at h3; rw [hyl]; exact h3)) ?_; have hyc : x ≤ c1 := by omega
          refine zxm ?_; refine zxm ?_; refine gp (r_val (v' := .slice (some ⟨ga, oa, none⟩) Y.length c1) (r_slice_slice (a := (some ⟨ga, oa, none⟩)) (m := 64 * nsec x) (c := c1) (l := 0) (h := x) rfl Ty.sl_49 Ty.sz_5 rfl ⟨_, rfl⟩ (Nat.zero_le _) (by omega)) (by rw [if_neg (by omega), add_at, hyl]; simp)) ?_; refine gp (r_build (cs := [.slice (some ⟨ga, oa, none⟩) Y.length c1, .int .i64 0, .int .i64 0]) Ty.zc_111 Ty.pl_111 (by kernel_rfl)) ?_; refine zbN fun b109 => ?_; refine zxa ?_; refine zxs ?_; refine zxm ?_; refine gl_cz (M := [blk b109 111 [.slice (some ⟨ga, oa, none⟩) Y.length c1, .int .i64 0, .int .i64 0]]) (N := [InR b109 (some ⟨ga, oa, none⟩) c1 Y (.ok Y)]) (fun w F hF => in_mk (r := ⟨0, 0⟩) hF rfl rfl rfl (Nat.zero_le _)) ?_; refine zc ?_ (c := fun w1 F1 F2 h1 h2 hd hst => ibytes_ok (most := 65535) h1 (rd_row (xs := Y.map B8) h2 hd (by repeat (first | exact Pick.here | apply Pick.there))) (by omega) (by omega) (by decide))
          rintro ⟨a111, c111, l1⟩
          refine gl_pureR (fun hp => ?_)
          obtain ⟨g111, m111⟩ := hp; replace g111 : Ag (pBytes 65535) (.ok Y) l1 := g111
          replace m111 : l1.length ≤ Y.length := m111
          refine zxm ?_; refine zc ?_ (c := fun w1 F1 F2 h1 h2 hd hst => ibytes_ok (most := 65535) h1 (rd_row (xs := Y.map B8) h2 hd (by repeat (first | exact Pick.here | apply Pick.there))) (by omega) (by omega) (by decide))
          rintro ⟨a113, c113, l2⟩
          refine gl_pureR (fun hp => ?_)
          obtain ⟨g113, m113⟩ := hp; replace g113 : Ag (pBytes 65535) _ l2 := g113
          replace m113 : l2.length ≤ Y.length := m113
          have hag : Ag pRec (.ok Y) (l1, l2) := g111.bind (g113.bind (Ag.pure _))
          have hr : rstep pRec (.ok Y) = rstep (pBytes 65535) (rstep (pBytes 65535) (.ok Y)) := by rw [pRec, rstep_bind g111, rstep_bind g113, rstep_pure]
          have hfin := allE_fin (z := ([], [])) noz_rec hag
          rw [hr] at hfin; refine zxa ?_; refine zxa ?_; refine zxs ?_; refine zxm ?_; refine gp (r_build (cs := [.slice a111 l1.length c111, .int .i64 0, .int .i64 0]) Ty.zc_111 Ty.pl_111 (by kernel_rfl)) ?_; refine zbN fun b116 => ?_; refine gp zbu ?_; refine zxm ?_; refine gp (r_build (cs := [.slice a113 l2.length c113, .int .i64 0, .int .i64 0]) Ty.zc_111 Ty.pl_111 (by kernel_rfl)) ?_; refine zbN fun b120 => ?_; refine gp zbu ?_; refine zal fun b18 => ?_; refine zal fun b19 => ?_; refine zsA (new := [.pointer (some ⟨b116, 0, none⟩)]) rfl (all_cons' rfl all_nil') ?_; refine zsA (new := [.pointer (some ⟨b120, 0, none⟩)]) rfl (all_cons' rfl all_nil') ?_; refine gnt (gc_join (α := Nat × (List Value × Block) × (List Value × Block)) (fun y => [pureR ((Ag pBlock (.ok l1) y.2.1.2 ∧ y.2.1.1.length = 39 ∧ (∀ v ∈ y.2.1.1, v.oneCell' = true) ∧ OkBlock y.2.1.2) ∧ Ag pBlock (.ok l2) y.2.2.2 ∧ y.2.2.1.length = 39 ∧ (∀ v ∈ y.2.2.1, v.oneCell' = true) ∧ OkBlock y.2.2.2), blk y.1 47 (y.2.1.1 ++ (y.2.2.1.drop 18).take 19), VlR RdBlock y.2.1.1 y.2.1.2, VlR RdBlock y.2.2.1 y.2.2.2, InR b116 a111 c111 l1 (rstep pBlock (.ok l1)), InR b120 a113 c113 l2 (rstep pBlock (.ok l2)), InR b109 (some ⟨ga, oa, none⟩) c1 Y (rstep (pBytes 65535) (rstep (pBytes 65535) (.ok Y))), rowR 5 1 (some ⟨ga, oa, none⟩) Y.length c1 (Y.map B8), rowR 5 1 a111 l1.length c111 (l1.map B8), rowR 5 1 a113 l2.length c113 (l2.map B8), blk b18 114 [.pointer (some ⟨b116, 0, none⟩)], blk b19 114 [.pointer (some ⟨b120, 0, none⟩)], blk b6 54 (sc (d.at (bs + k))), rowR 47 58 a0 rs.length c0 css.flatten, ElR RdRec18 css rs]) (fun y => [(20, .pointer (some ⟨y.1, 0, none⟩))]) [122, 123, 124, 125, 126, 127] ?_ ?_)
          ·refine gc_regionZ 7 ([blk b18 114 [.pointer (some ⟨b116, 0, none⟩)], blk b19 114 [.pointer (some ⟨b120, 0, none⟩)]]) ?_; refine yps 0 rfl (zLa (cs := [.pointer (some ⟨b116, 0, none⟩)])) ?_; refine yps 2 rfl (zLa (cs := [.pointer (some ⟨b120, 0, none⟩)])) ?_; refine yo2s 1 6 rfl rfl ?_ ?_
           ·refine gl_cz (M := [blk b116 111 [.slice a111 l1.length c111, .int .i64 0, .int .i64 0]]) (N := [InR b116 a111 c111 l1 (.ok l1)]) (fun w F hF => in_mk (r := ⟨0, 0⟩) hF rfl rfl rfl (Nat.zero_le _)) ?_; refine zc ?_ (c := fun w1 F1 F2 h1 h2 hd hst => iblock_ok h1 (rd_row (xs := l1.map B8) h2 hd (by repeat (first | exact Pick.here | apply Pick.there))) (rd_le (xs := l1.map B8) h2 (by repeat (first | exact Pick.here | apply Pick.there))) (by omega))
            rintro ⟨q123, v123⟩
            refine gl_pureR (fun hp => ?_)
            obtain ⟨g123, z123, o123, k123⟩ := hp; replace z123 : q123.length = 39 := z123
            replace k123 : OkBlock v123 := k123
            replace g123 : Ag pBlock (.ok l1) v123 := g123
            have hfi123 := allE_fin (z := blk0) noz_block g123
            have i123 := Len.of z123
            have j123 := One.of (show ∀ v ∈ q123, v.oneCell' = true from o123)
            refine yxs ?_; refine yo2s 3 6 rfl rfl ?_ ?_
            ·refine gl_cz (M := [blk b120 111 [.slice a113 l2.length c113, .int .i64 0, .int .i64 0]]) (N := [InR b120 a113 c113 l2 (.ok l2)]) (fun w F hF => in_mk (r := ⟨0, 0⟩) hF rfl rfl rfl (Nat.zero_le _)) ?_; refine zc ?_ (c := fun w1 F1 F2 h1 h2 hd hst => iblock_ok h1 (rd_row (xs := l2.map B8) h2 hd (by repeat (first | exact Pick.here | apply Pick.there))) (rd_le (xs := l2.map B8) h2 (by repeat (first | exact Pick.here | apply Pick.there))) (by omega))
             rintro ⟨q125, v125⟩
             refine gl_pureR (fun hp => ?_)
             obtain ⟨g125, z125, o125, k125⟩ := hp; replace z125 : q125.length = 39 := z125
             replace k125 : OkBlock v125 := k125
             replace g125 : Ag pBlock (.ok l2) v125 := g125
             have hfi125 := allE_fin (z := blk0) noz_block g125
             have i125 := Len.of z125
             have j125 := One.of (show ∀ v ∈ q125, v.oneCell' = true from o125)
             refine yxs ?_; have z126 : ((q125.drop 18).take 19).length = 19 := by rw [List.length_take, List.length_drop]; omega
             have o126 : ∀ v ∈ ((q125.drop 18).take 19), v.oneCell' = true := fun v hv => o125 v (List.mem_of_mem_drop (List.mem_of_mem_take hv))
             have i126 := Len.of z126
             have j126 := One.of o126
             have hql : (q123 ++ ((q125.drop 18).take 19)).length = 58 := by rw [List.length_append]; omega
             have jqx : ∀ v ∈ q123 ++ ((q125.drop 18).take 19), v.oneCell' = true := all_app' o123 o126
             refine yps 4 rfl (r_fieldN (cs := q125) (seg := ((q125.drop 18).take 19)) (k := 18) rfl (by kernel_rfl) Ty.row_41 Ty.sz_41 rfl) ?_; refine yps 5 rfl zbu ?_; refine yos 6 rfl ?_; refine zal fun b20 => ?_; refine yxs ?_; refine yzs rfl ?_; refine zsN ?_; refine gl_nil (zjn ((b20, (q123, v123), (q125, v125))) ?_)
             ·exact fun w' hw => St.pureI ⟨⟨g123, z123, o123, k123⟩, g125, z125, o125, k125⟩ (hw.z)
            ·refine zal fun b20 => ?_; refine yxs ?_; refine yos 3 rfl ?_; refine gl_cz (M := [blk b120 111 [.slice a113 l2.length c113, .int .i64 0, .int .i64 0]]) (N := [InR b120 a113 c113 l2 (.ok l2)]) (fun w F hF => in_mk (r := ⟨0, 0⟩) hF rfl rfl rfl (Nat.zero_le _)) ?_; refine zc ?_ (c := fun w1 F1 F2 h1 h2 hd hst => iblock_ok h1 (rd_row (xs := l2.map B8) h2 hd (by repeat (first | exact Pick.here | apply Pick.there))) (rd_le (xs := l2.map B8) h2 (by repeat (first | exact Pick.here | apply Pick.there))) (by omega))
             rintro ⟨q125, v125⟩
             refine gl_pureR (fun hp => ?_)
             obtain ⟨g125, z125, o125, k125⟩ := hp; replace z125 : q125.length = 39 := z125
             replace k125 : OkBlock v125 := k125
             replace g125 : Ag pBlock (.ok l2) v125 := g125
             have hfi125 := allE_fin (z := blk0) noz_block g125
             have i125 := Len.of z125
             have j125 := One.of (show ∀ v ∈ q125, v.oneCell' = true from o125)
             refine yxs ?_; have z126 : ((q125.drop 18).take 19).length = 19 := by rw [List.length_take, List.length_drop]; omega
             have o126 : ∀ v ∈ ((q125.drop 18).take 19), v.oneCell' = true := fun v hv => o125 v (List.mem_of_mem_drop (List.mem_of_mem_take hv))
             have i126 := Len.of z126
             have j126 := One.of o126
             have hql : (q123 ++ ((q125.drop 18).take 19)).length = 58 := by rw [List.length_append]; omega
             have jqx : ∀ v ∈ q123 ++ ((q125.drop 18).take 19), v.oneCell' = true := all_app' o123 o126
             refine yps 4 rfl (r_fieldN (cs := q125) (seg := ((q125.drop 18).take 19)) (k := 18) rfl (by kernel_rfl) Ty.row_41 Ty.sz_41 rfl) ?_; refine yps 5 rfl zbu ?_; refine yzs rfl ?_; refine zsN ?_; refine gl_nil (zjn ((b20, (q123, v123), (q125, v125))) ?_)
             ·exact fun w' hw => St.pureI ⟨⟨g123, z123, o123, k123⟩, g125, z125, o125, k125⟩ (hw.z)
           ·refine zal fun b20 => ?_; refine yxs ?_; refine yos 1 rfl ?_; refine gl_cz (M := [blk b116 111 [.slice a111 l1.length c111, .int .i64 0, .int .i64 0]]) (N := [InR b116 a111 c111 l1 (.ok l1)]) (fun w F hF => in_mk (r := ⟨0, 0⟩) hF rfl rfl rfl (Nat.zero_le _)) ?_; refine zc ?_ (c := fun w1 F1 F2 h1 h2 hd hst => iblock_ok h1 (rd_row (xs := l1.map B8) h2 hd (by repeat (first | exact Pick.here | apply Pick.there))) (rd_le (xs := l1.map B8) h2 (by repeat (first | exact Pick.here | apply Pick.there))) (by omega))
            rintro ⟨q123, v123⟩
            refine gl_pureR (fun hp => ?_)
            obtain ⟨g123, z123, o123, k123⟩ := hp; replace z123 : q123.length = 39 := z123
            replace k123 : OkBlock v123 := k123
            replace g123 : Ag pBlock (.ok l1) v123 := g123
            have hfi123 := allE_fin (z := blk0) noz_block g123
            have i123 := Len.of z123
            have j123 := One.of (show ∀ v ∈ q123, v.oneCell' = true from o123)
            refine yxs ?_; refine yos 3 rfl ?_; refine gl_cz (M := [blk b120 111 [.slice a113 l2.length c113, .int .i64 0, .int .i64 0]]) (N := [InR b120 a113 c113 l2 (.ok l2)]) (fun w F hF => in_mk (r := ⟨0, 0⟩) hF rfl rfl rfl (Nat.zero_le _)) ?_; refine zc ?_ (c := fun w1 F1 F2 h1 h2 hd hst => iblock_ok h1 (rd_row (xs := l2.map B8) h2 hd (by repeat (first | exact Pick.here | apply Pick.there))) (rd_le (xs := l2.map B8) h2 (by repeat (first | exact Pick.here | apply Pick.there))) (by omega))
            rintro ⟨q125, v125⟩
            refine gl_pureR (fun hp => ?_)
            obtain ⟨g125, z125, o125, k125⟩ := hp; replace z125 : q125.length = 39 := z125
            replace k125 : OkBlock v125 := k125
            replace g125 : Ag pBlock (.ok l2) v125 := g125
            have hfi125 := allE_fin (z := blk0) noz_block g125
            have i125 := Len.of z125
            have j125 := One.of (show ∀ v ∈ q125, v.oneCell' = true from o125)
            refine yxs ?_; have z126 : ((q125.drop 18).take 19).length = 19 := by rw [List.length_take, List.length_drop]; omega
            have o126 : ∀ v ∈ ((q125.drop 18).take 19), v.oneCell' = true := fun v hv => o125 v (List.mem_of_mem_drop (List.mem_of_mem_take hv))
            have i126 := Len.of z126
            have j126 := One.of o126
            have hql : (q123 ++ ((q125.drop 18).take 19)).length = 58 := by rw [List.length_append]; omega
            have jqx : ∀ v ∈ q123 ++ ((q125.drop 18).take 19), v.oneCell' = true := all_app' o123 o126
            refine yps 4 rfl (r_fieldN (cs := q125) (seg := ((q125.drop 18).take 19)) (k := 18) rfl (by kernel_rfl) Ty.row_41 Ty.sz_41 rfl) ?_; refine yps 5 rfl zbu ?_; refine yzs rfl ?_; refine zsN ?_; refine gl_nil (zjn ((b20, (q123, v123), (q125, v125))) ?_)
            ·exact fun w' hw => St.pureI ⟨⟨g123, z123, o123, k123⟩, g125, z125, o125, k125⟩ (hw.z)
          ·intro y u; obtain ⟨b20, ⟨q123, v123⟩, q125, v125⟩ := y; refine gc_pureR (fun hp => ?_)
           obtain ⟨⟨g123, z123, o123, k123⟩, g125, z125, o125, k125⟩ := hp; replace z123 : q123.length = 39 := z123
           replace o123 : ∀ v ∈ q123, v.oneCell' = true := o123
           replace k123 : OkBlock v123 := k123
           replace g123 : Ag pBlock (.ok l1) v123 := g123
           have hfi123 := allE_fin (z := blk0) noz_block g123
           have i123 := Len.of z123
           have j123 := One.of o123
           replace z125 : q125.length = 39 := z125
           replace o125 : ∀ v ∈ q125, v.oneCell' = true := o125
           replace k125 : OkBlock v125 := k125
           replace g125 : Ag pBlock (.ok l2) v125 := g125
           have hfi125 := allE_fin (z := blk0) noz_block g125
           have i125 := Len.of z125
           have j125 := One.of o125
           have z126 : ((q125.drop 18).take 19).length = 19 := by rw [List.length_take, List.length_drop]; omega
           have o126 : ∀ v ∈ ((q125.drop 18).take 19), v.oneCell' = true := fun v hv => o125 v (List.mem_of_mem_drop (List.mem_of_mem_take hv))
           have i126 := Len.of z126
           have j126 := One.of o126
           have hql : (q123 ++ ((q125.drop 18).take 19)).length = 58 := by rw [List.length_append]; omega
           have jqx : ∀ v ∈ q123 ++ ((q125.drop 18).take 19), v.oneCell' = true := all_app' o123 o126
           refine gsr (gp (zLa (cs := q123 ++ ((q125.drop 18).take 19))) ?_); refine zc ?_ (c := fun w1 F1 F2 h1 h2 hd hst => data18_ok h1 (vl_rd h2 hd (by repeat (first | exact Pick.here | apply Pick.there))) (rd_just (vl_rd h2 hd (by repeat (first | exact Pick.here | apply Pick.there)))) k123 k125.2.2.1)
           rintro ⟨a130, c130⟩
           refine zxm ?_; refine gp zex ?_; refine gp zex ?_; refine zxa ?_; refine zxa ?_; refine gnt (gc_seq (gc_seq ?_)); by_cases e0 : doneE (rstep (pBytes 65535) (rstep (pBytes 65535) (.ok Y))) = 0
           ·by_cases e1 : doneE (rstep pBlock (.ok l1)) = 0
            ·by_cases e2 : doneE (rstep pBlock (.ok l2)) = 0
             ·by_cases e3 : madeE v123 v125.justify = 0
              ·by_cases e4 : datE v123 v125.justify = Y
               ·refine gc_regionH ([blk b18 114 [.pointer (some ⟨b116, 0, none⟩)], blk b19 114 [.pointer (some ⟨b120, 0, none⟩)], blk b6 54 (sc (d.at (bs + k))), rowR 5 1 (some ⟨ga, oa, none⟩) Y.length c1 (Y.map B8), rowR 5 1 a130 (datE v123 v125.justify).length c130 ((datE v123 v125.justify).map B8)]) ?_; refine yp 0 rfl zmv ?_; refine yo 1 rfl ?_; refine zc (fun _ => ?_) (c := fun w1 F1 F2 h1 h2 hd hst => idone_ok h1 (rd_row (xs := Y.map B8) h2 hd (by repeat (first | exact Pick.here | apply Pick.there))) (by omega) (by omega))
                refine yx ?_; refine yp 2 rfl (r_bool (c := false) zni (by simp [e0])) ?_; refine yp 3 rfl zmv ?_; refine yp 4 rfl zfa ?_; refine yp 5 rfl zl ?_; refine yo 6 rfl ?_; refine zc (fun _ => ?_) (c := fun w1 F1 F2 h1 h2 hd hst => idone_ok h1 (rd_row (xs := l1.map B8) h2 hd (by repeat (first | exact Pick.here | apply Pick.there))) (rd_le (xs := l1.map B8) h2 (by repeat (first | exact Pick.here | apply Pick.there))) (by omega))
                refine yx ?_; refine yp 7 rfl (r_bool (c := false) zni (by simp [e1])) ?_; refine yp 8 rfl zpk ?_; refine yp 9 rfl zmv ?_; refine yp 10 rfl zfa ?_; refine yp 11 rfl zl ?_; refine yo 12 rfl ?_; refine zc (fun _ => ?_) (c := fun w1 F1 F2 h1 h2 hd hst => idone_ok h1 (rd_row (xs := l2.map B8) h2 hd (by repeat (first | exact Pick.here | apply Pick.there))) (rd_le (xs := l2.map B8) h2 (by repeat (first | exact Pick.here | apply Pick.there))) (by omega))
                refine yx ?_; refine yp 13 rfl (r_bool (c := false) zni (by simp [e2])) ?_; refine yp 14 rfl zpk ?_; refine yp 15 rfl zmv ?_; refine yp 16 rfl zmv ?_; refine yp 17 rfl (r_bool (c := false) zni (by simp [e3])) ?_; refine yp 18 rfl zpk ?_; refine yp 19 rfl zmv ?_; refine yp 20 rfl zmv ?_; refine yp 21 rfl (zso (b := datE v123 v125.justify)) ?_; refine yp 22 rfl zmv ?_; refine yp 23 rfl zmv ?_; refine yp 24 rfl (r_val (v' := .slice (some ⟨ga, oa, none⟩) Y.length c1) (r_slice_slice (a := (some ⟨ga, oa, none⟩)) (m := 64 * nsec x) (c := c1) (l := 0) (h := x) rfl Ty.sl_49 Ty.sz_5 rfl ⟨_, rfl⟩ (Nat.zero_le _) (by omega)) (by rw [if_neg (by omega), add_at, hyl]; simp)) ?_; refine yp 25 rfl (zso (b := Y)) ?_; refine yp 26 rfl (r_bool (c := false) zns (by simp [e4])) ?_; refine yp 27 rfl zpk ?_; refine yp 28 rfl zmv ?_; refine yp 29 rfl zmv ?_; refine yp 30 rfl zln ?_; refine yp 31 rfl zmv ?_; refine yp 35 rfl (zLa (cs := sc (d.at (bs + k)))) ?_; refine yo 32 rfl ?_; refine zc ?_ (c := fun w1 F1 F2 h1 h2 hd hst => sectors18_ok (k := rs.length) (d := datE v123 v125.justify) h1 (rd_row (xs := (datE v123 v125.justify).map B8) h2 hd (by repeat (first | exact Pick.here | apply Pick.there))) (by omega) (datE_len _ _))
                rintro ⟨a165, c165⟩
                rw [e4]; refine gl_fact (fun w' hw => St.rowAt (hw.sel (M := [rowR 54 64 a165 (1 + nsec Y.length) c165 (scs (secsP rs.length Y (nsec Y.length)))]) (by repeat (first | exact Sel.nil | (apply Sel.cons; · (repeat (first | exact Pick.here | apply Pick.there)))))) .here (by omega)) (fun hra => ?_)
                obtain ⟨_, g5, o5, ha⟩ := hra; subst ha; refine yx ?_; refine yp 33 rfl (r_val (v' := .pointer (some ⟨g5, o5 + 0 * 64, none⟩)) zia (by simp)) ?_; refine yo 34 rfl ?_; refine gq (r_ldRow (i := 0) (css := (secsP rs.length Y (nsec Y.length)).map sc) (cs := sc (headL rs.length Y)) rfl Ty.row_54 Ty.sz_54 (by repeat (first | exact Pick.here | apply Pick.there)) map_sc_len rfl (by omega)) ?_; refine yx ?_; refine yp 36 rfl (r_bool (c := !decide (headL rs.length Y = (d.at (bs + k)))) (r_neq_sec (a := headL rs.length Y) (b := (d.at (bs + k))) Ty.arr_54 Ty.un_5 Ty.sz_5 (by kernel_rfl)) rfl) ?_; refine yp 37 rfl zpk ?_; refine yd ?_; refine gx_then (gif rfl (fun hc170 => ?_) (fun hc170 => ?_))
                ·try simp only at hc170
                 have hh : headL rs.length Y ≠ (d.at (bs + k)) := by simpa using hc170
                 refine gsr (zxa ?_); refine zxa ?_; refine gnt (gc_ret (gx_then_ret (gx_block_ret ?_))); refine gx_round_ret ?_; refine gx_block_ret ?_; refine gx_then_ret (gx_ret2 rfl (by conv => lhs; whnf) (by conv => lhs; whnf) ?_); have he : lopen d bs [] = .error 7 := by rw [← hlo]; exact lopen_err (lnx_3 hz hxv hya (.inl hh))
                 have hw0 : True := trivial
                 intro w' hw; have hw := St.mapL hw (fun F' hF' => el_nil (rd := RdRec18) hF')
                 exact ⟨(none, 0, []), by rw [(rdB_err he).1, (rdB_err he).2]; rfl, by rw [(rdB_err he).2]; exact St.pureI (by simp) ((hw.rowNil (e := 47) (size := 58)).z)⟩
                ·try simp only at hc170
                 have hh : headL rs.length Y = (d.at (bs + k)) := by simpa using hc170
                 have hrr : rdRec Y = some ⟨v123, v125.justify⟩ := rdRec_y6 e3 e4
                 have hlr : lenR (⟨v123, v125.justify⟩ : LRec) = 1 + nsec x := by rw [lenR, (rdRec_some hrr).2, hyl]
                 have hlo' : lopen d (bs + (k + (1 + nsec x))) (rs ++ [⟨v123, v125.justify⟩]) = lopen d bs [] := by rw [← hlo, lopen_more (lnx_y hz hxv (fun hh' => ((fp_lt hb).1 hh').elim hx1 (fun h' => h' hx2)) hya hh hrr), hlr, Nat.add_assoc]
                 refine gc_skip (gx_then (gsr (zxm ?_))); refine gp (zLa (cs := q123 ++ ((q125.drop 18).take 19))) ?_; refine zeN fun b173 => ?_; refine zapo (m := rs.length) (a2 := some ⟨b173, 0, none⟩) (c2 := 1) (news := q123 ++ ((q125.drop 18).take 19)) (fun a174 c174 => ?_) (h1 := jqx)
                 rw [show rs.length + 1 = (rs ++ [(⟨v123, v125.justify⟩ : LRec)]).length by simp]; refine zxa ?_; refine gnt (gc_region (zxm ?_)); refine zxm ?_; refine gp (r_int (j := ((1 + nsec x : Nat) : Int)) zad (by omega)) ?_; refine gp (r_int (j := ((k + (1 + nsec x) : Nat) : Int)) zad (by omega)) ?_; refine zxa ?_; refine gl_nil (gx_block_normal (zrd ((k + (1 + nsec x), rs ++ [⟨v123, v125.justify⟩], a174, c174, css ++ [q123 ++ ((q125.drop 18).take 19)])) ?_ ?_))
                 ·show n - (k + (1 + nsec x)) < n - k
                  omega
                 ·intro w' hw; have h1 := hw.conv (M := [VlR RdBlock q123 v123, VlR RdBlock q125 v125]) (by repeat (first | exact Sel.nil | (apply Sel.cons; · (repeat (first | exact Pick.here | apply Pick.there))))) (fun _ _ => vl_rec18)
                  have h2 := h1.conv (M := [ElR RdRec18 css rs, VlR RdRec18 (q123 ++ ((q125.drop 18).take 19)) ⟨v123, v125.justify⟩]) (by repeat (first | exact Sel.nil | (apply Sel.cons; · (repeat (first | exact Pick.here | apply Pick.there))))) (fun _ _ => el_snoc)
                  refine St.pureI ⟨show k + (1 + nsec x) < n by omega, by show (rs ++ [_]).length ≤ _; rw [List.length_append]; show rs.length + 1 ≤ _; omega, hlo', fun c hc => (by rcases List.mem_append.1 hc with h | h; exact h58 c h; (rw [List.mem_singleton.1 h]; exact hql))⟩ ?_; rw [show (css ++ [q123 ++ ((q125.drop 18).take 19)]).flatten = css.flatten ++ (q123 ++ ((q125.drop 18).take 19)) by simp]; exact h2.z
               ·refine gc_regionH ([blk b18 114 [.pointer (some ⟨b116, 0, none⟩)], blk b19 114 [.pointer (some ⟨b120, 0, none⟩)], blk b6 54 (sc (d.at (bs + k))), rowR 5 1 (some ⟨ga, oa, none⟩) Y.length c1 (Y.map B8), rowR 5 1 a130 (datE v123 v125.justify).length c130 ((datE v123 v125.justify).map B8)]) ?_; refine yp 0 rfl zmv ?_; refine yo 1 rfl ?_; refine zc (fun _ => ?_) (c := fun w1 F1 F2 h1 h2 hd hst => idone_ok h1 (rd_row (xs := Y.map B8) h2 hd (by repeat (first | exact Pick.here | apply Pick.there))) (by omega) (by omega))
                refine yx ?_; refine yp 2 rfl (r_bool (c := false) zni (by simp [e0])) ?_; refine yp 3 rfl zmv ?_; refine yp 4 rfl zfa ?_; refine yp 5 rfl zl ?_; refine yo 6 rfl ?_; refine zc (fun _ => ?_) (c := fun w1 F1 F2 h1 h2 hd hst => idone_ok h1 (rd_row (xs := l1.map B8) h2 hd (by repeat (first | exact Pick.here | apply Pick.there))) (rd_le (xs := l1.map B8) h2 (by repeat (first | exact Pick.here | apply Pick.there))) (by omega))
                refine yx ?_; refine yp 7 rfl (r_bool (c := false) zni (by simp [e1])) ?_; refine yp 8 rfl zpk ?_; refine yp 9 rfl zmv ?_; refine yp 10 rfl zfa ?_; refine yp 11 rfl zl ?_; refine yo 12 rfl ?_; refine zc (fun _ => ?_) (c := fun w1 F1 F2 h1 h2 hd hst => idone_ok h1 (rd_row (xs := l2.map B8) h2 hd (by repeat (first | exact Pick.here | apply Pick.there))) (rd_le (xs := l2.map B8) h2 (by repeat (first | exact Pick.here | apply Pick.there))) (by omega))
                refine yx ?_; refine yp 13 rfl (r_bool (c := false) zni (by simp [e2])) ?_; refine yp 14 rfl zpk ?_; refine yp 15 rfl zmv ?_; refine yp 16 rfl zmv ?_; refine yp 17 rfl (r_bool (c := false) zni (by simp [e3])) ?_; refine yp 18 rfl zpk ?_; refine yp 19 rfl zmv ?_; refine yp 20 rfl zmv ?_; refine yp 21 rfl (zso (b := datE v123 v125.justify)) ?_; refine yp 22 rfl zmv ?_; refine yp 23 rfl zmv ?_; refine yp 24 rfl (r_val (v' := .slice (some ⟨ga, oa, none⟩) Y.length c1) (r_slice_slice (a := (some ⟨ga, oa, none⟩)) (m := 64 * nsec x) (c := c1) (l := 0) (h := x) rfl Ty.sl_49 Ty.sz_5 rfl ⟨_, rfl⟩ (Nat.zero_le _) (by omega)) (by rw [if_neg (by omega), add_at, hyl]; simp)) ?_; refine yp 25 rfl (zso (b := Y)) ?_; refine yp 26 rfl (r_bool (c := true) zns (by simp [e4])) ?_; refine yp 27 rfl zpk ?_; refine yp 28 rfl zmv ?_; refine yn 29 rfl ?_; refine yn 30 rfl ?_; refine yn 31 rfl ?_; refine yn 32 rfl ?_; refine yn 33 rfl ?_; refine yn 35 rfl ?_; refine yo 34 rfl ?_; refine gn ?_; refine yx ?_; refine yn 36 rfl ?_; refine yp 37 rfl zpk ?_; refine yd ?_; refine gx_then (gc_condT rfl rfl ?_); refine gsr (zxa ?_); refine zxa ?_; refine gnt (gc_ret (gx_then_ret (gx_block_ret ?_))); refine gx_round_ret ?_; refine gx_block_ret ?_; refine gx_then_ret (gx_ret2 rfl (by conv => lhs; whnf) (by conv => lhs; whnf) ?_); have hx0 : pAll pRec Y = .ok (l1, l2) := by rw [allE_good' (z := ([], [])) noz_rec (by rw [← hfin.1]; exact e0), hfin.2.1 e0]
                have hbk : pAll pBlock l1 = .ok v123 := by rw [allE_good' (z := blk0) noz_block (by rw [← hfi123.1]; exact e1), hfi123.2.1 e1]
                have hck : pAll pBlock l2 = .ok v125 := by rw [allE_good' (z := blk0) noz_block (by rw [← hfi125.1]; exact e2), hfi125.2.1 e2]
                have he : lopen d bs [] = .error 7 := by rw [← hlo]; exact lopen_err (lnx_3 hz hxv hya (.inr (rdRec_n6 hx0 hbk hck e3 e4)))
                have hw0 : True := trivial
                intro w' hw; have hw := St.mapL hw (fun F' hF' => el_nil (rd := RdRec18) hF')
                exact ⟨(none, 0, []), by rw [(rdB_err he).1, (rdB_err he).2]; rfl, by rw [(rdB_err he).2]; exact St.pureI (by simp) ((hw.rowNil (e := 47) (size := 58)).z)⟩
              ·refine gc_regionH ([blk b18 114 [.pointer (some ⟨b116, 0, none⟩)], blk b19 114 [.pointer (some ⟨b120, 0, none⟩)], blk b6 54 (sc (d.at (bs + k))), rowR 5 1 (some ⟨ga, oa, none⟩) Y.length c1 (Y.map B8), rowR 5 1 a130 (datE v123 v125.justify).length c130 ((datE v123 v125.justify).map B8)]) ?_; refine yp 0 rfl zmv ?_; refine yo 1 rfl ?_; refine zc (fun _ => ?_) (c := fun w1 F1 F2 h1 h2 hd hst => idone_ok h1 (rd_row (xs := Y.map B8) h2 hd (by repeat (first | exact Pick.here | apply Pick.there))) (by omega) (by omega))
               refine yx ?_; refine yp 2 rfl (r_bool (c := false) zni (by simp [e0])) ?_; refine yp 3 rfl zmv ?_; refine yp 4 rfl zfa ?_; refine yp 5 rfl zl ?_; refine yo 6 rfl ?_; refine zc (fun _ => ?_) (c := fun w1 F1 F2 h1 h2 hd hst => idone_ok h1 (rd_row (xs := l1.map B8) h2 hd (by repeat (first | exact Pick.here | apply Pick.there))) (rd_le (xs := l1.map B8) h2 (by repeat (first | exact Pick.here | apply Pick.there))) (by omega))
               refine yx ?_; refine yp 7 rfl (r_bool (c := false) zni (by simp [e1])) ?_; refine yp 8 rfl zpk ?_; refine yp 9 rfl zmv ?_; refine yp 10 rfl zfa ?_; refine yp 11 rfl zl ?_; refine yo 12 rfl ?_; refine zc (fun _ => ?_) (c := fun w1 F1 F2 h1 h2 hd hst => idone_ok h1 (rd_row (xs := l2.map B8) h2 hd (by repeat (first | exact Pick.here | apply Pick.there))) (rd_le (xs := l2.map B8) h2 (by repeat (first | exact Pick.here | apply Pick.there))) (by omega))
               refine yx ?_; refine yp 13 rfl (r_bool (c := false) zni (by simp [e2])) ?_; refine yp 14 rfl zpk ?_; refine yp 15 rfl zmv ?_; refine yp 16 rfl zmv ?_; refine yp 17 rfl (r_bool (c := true) zni (by simp [e3])) ?_; refine yp 18 rfl zpk ?_; refine yp 19 rfl zmv ?_; refine yn 20 rfl ?_; refine yn 21 rfl ?_; refine yn 22 rfl ?_; refine yn 23 rfl ?_; refine yn 24 rfl ?_; refine yn 25 rfl ?_; refine yn 26 rfl ?_; refine yp 27 rfl zpk ?_; refine yp 28 rfl zmv ?_; refine yn 29 rfl ?_; refine yn 30 rfl ?_; refine yn 31 rfl ?_; refine yn 32 rfl ?_; refine yn 33 rfl ?_; refine yn 35 rfl ?_; refine yo 34 rfl ?_; refine gn ?_; refine yx ?_; refine yn 36 rfl ?_; refine yp 37 rfl zpk ?_; refine yd ?_; refine gx_then (gc_condT rfl rfl ?_); refine gsr (zxa ?_); refine zxa ?_; refine gnt (gc_ret (gx_then_ret (gx_block_ret ?_))); refine gx_round_ret ?_; refine gx_block_ret ?_; refine gx_then_ret (gx_ret2 rfl (by conv => lhs; whnf) (by conv => lhs; whnf) ?_); have hx0 : pAll pRec Y = .ok (l1, l2) := by rw [allE_good' (z := ([], [])) noz_rec (by rw [← hfin.1]; exact e0), hfin.2.1 e0]
               have hbk : pAll pBlock l1 = .ok v123 := by rw [allE_good' (z := blk0) noz_block (by rw [← hfi123.1]; exact e1), hfi123.2.1 e1]
               have hck : pAll pBlock l2 = .ok v125 := by rw [allE_good' (z := blk0) noz_block (by rw [← hfi125.1]; exact e2), hfi125.2.1 e2]
               have he : lopen d bs [] = .error 7 := by rw [← hlo]; exact lopen_err (lnx_3 hz hxv hya (.inr (rdRec_n4 hx0 hbk hck e3)))
               have hw0 : True := trivial
               intro w' hw; have hw := St.mapL hw (fun F' hF' => el_nil (rd := RdRec18) hF')
               exact ⟨(none, 0, []), by rw [(rdB_err he).1, (rdB_err he).2]; rfl, by rw [(rdB_err he).2]; exact St.pureI (by simp) ((hw.rowNil (e := 47) (size := 58)).z)⟩
             ·refine gc_regionH ([blk b18 114 [.pointer (some ⟨b116, 0, none⟩)], blk b19 114 [.pointer (some ⟨b120, 0, none⟩)], blk b6 54 (sc (d.at (bs + k))), rowR 5 1 (some ⟨ga, oa, none⟩) Y.length c1 (Y.map B8), rowR 5 1 a130 (datE v123 v125.justify).length c130 ((datE v123 v125.justify).map B8)]) ?_; refine yp 0 rfl zmv ?_; refine yo 1 rfl ?_; refine zc (fun _ => ?_) (c := fun w1 F1 F2 h1 h2 hd hst => idone_ok h1 (rd_row (xs := Y.map B8) h2 hd (by repeat (first | exact Pick.here | apply Pick.there))) (by omega) (by omega))
              refine yx ?_; refine yp 2 rfl (r_bool (c := false) zni (by simp [e0])) ?_; refine yp 3 rfl zmv ?_; refine yp 4 rfl zfa ?_; refine yp 5 rfl zl ?_; refine yo 6 rfl ?_; refine zc (fun _ => ?_) (c := fun w1 F1 F2 h1 h2 hd hst => idone_ok h1 (rd_row (xs := l1.map B8) h2 hd (by repeat (first | exact Pick.here | apply Pick.there))) (rd_le (xs := l1.map B8) h2 (by repeat (first | exact Pick.here | apply Pick.there))) (by omega))
              refine yx ?_; refine yp 7 rfl (r_bool (c := false) zni (by simp [e1])) ?_; refine yp 8 rfl zpk ?_; refine yp 9 rfl zmv ?_; refine yp 10 rfl zfa ?_; refine yp 11 rfl zl ?_; refine yo 12 rfl ?_; refine zc (fun _ => ?_) (c := fun w1 F1 F2 h1 h2 hd hst => idone_ok h1 (rd_row (xs := l2.map B8) h2 hd (by repeat (first | exact Pick.here | apply Pick.there))) (rd_le (xs := l2.map B8) h2 (by repeat (first | exact Pick.here | apply Pick.there))) (by omega))
              refine yx ?_; refine yp 13 rfl (r_bool (c := true) zni (by simp [e2])) ?_; refine yp 14 rfl zpk ?_; refine yp 15 rfl zmv ?_; refine yn 16 rfl ?_; refine yn 17 rfl ?_; refine yp 18 rfl zpk ?_; refine yp 19 rfl zmv ?_; refine yn 20 rfl ?_; refine yn 21 rfl ?_; refine yn 22 rfl ?_; refine yn 23 rfl ?_; refine yn 24 rfl ?_; refine yn 25 rfl ?_; refine yn 26 rfl ?_; refine yp 27 rfl zpk ?_; refine yp 28 rfl zmv ?_; refine yn 29 rfl ?_; refine yn 30 rfl ?_; refine yn 31 rfl ?_; refine yn 32 rfl ?_; refine yn 33 rfl ?_; refine yn 35 rfl ?_; refine yo 34 rfl ?_; refine gn ?_; refine yx ?_; refine yn 36 rfl ?_; refine yp 37 rfl zpk ?_; refine yd ?_; refine gx_then (gc_condT rfl rfl ?_); refine gsr (zxa ?_); refine zxa ?_; refine gnt (gc_ret (gx_then_ret (gx_block_ret ?_))); refine gx_round_ret ?_; refine gx_block_ret ?_; refine gx_then_ret (gx_ret2 rfl (by conv => lhs; whnf) (by conv => lhs; whnf) ?_); have hx0 : pAll pRec Y = .ok (l1, l2) := by rw [allE_good' (z := ([], [])) noz_rec (by rw [← hfin.1]; exact e0), hfin.2.1 e0]
              have hbk : pAll pBlock l1 = .ok v123 := by rw [allE_good' (z := blk0) noz_block (by rw [← hfi123.1]; exact e1), hfi123.2.1 e1]
              have he : lopen d bs [] = .error 7 := by rw [← hlo]; exact lopen_err (lnx_3 hz hxv hya (.inr (rdRec_n3 hx0 hbk (z := blk0) (by rw [← hfi125.1]; exact e2))))
              have hw0 : True := trivial
              intro w' hw; have hw := St.mapL hw (fun F' hF' => el_nil (rd := RdRec18) hF')
              exact ⟨(none, 0, []), by rw [(rdB_err he).1, (rdB_err he).2]; rfl, by rw [(rdB_err he).2]; exact St.pureI (by simp) ((hw.rowNil (e := 47) (size := 58)).z)⟩
            ·refine gc_regionH ([blk b18 114 [.pointer (some ⟨b116, 0, none⟩)], blk b19 114 [.pointer (some ⟨b120, 0, none⟩)], blk b6 54 (sc (d.at (bs + k))), rowR 5 1 (some ⟨ga, oa, none⟩) Y.length c1 (Y.map B8), rowR 5 1 a130 (datE v123 v125.justify).length c130 ((datE v123 v125.justify).map B8)]) ?_; refine yp 0 rfl zmv ?_; refine yo 1 rfl ?_; refine zc (fun _ => ?_) (c := fun w1 F1 F2 h1 h2 hd hst => idone_ok h1 (rd_row (xs := Y.map B8) h2 hd (by repeat (first | exact Pick.here | apply Pick.there))) (by omega) (by omega))
             refine yx ?_; refine yp 2 rfl (r_bool (c := false) zni (by simp [e0])) ?_; refine yp 3 rfl zmv ?_; refine yp 4 rfl zfa ?_; refine yp 5 rfl zl ?_; refine yo 6 rfl ?_; refine zc (fun _ => ?_) (c := fun w1 F1 F2 h1 h2 hd hst => idone_ok h1 (rd_row (xs := l1.map B8) h2 hd (by repeat (first | exact Pick.here | apply Pick.there))) (rd_le (xs := l1.map B8) h2 (by repeat (first | exact Pick.here | apply Pick.there))) (by omega))
             refine yx ?_; refine yp 7 rfl (r_bool (c := true) zni (by simp [e1])) ?_; refine yp 8 rfl zpk ?_; refine yp 9 rfl zmv ?_; refine yn 10 rfl ?_; refine yn 11 rfl ?_; refine yn 12 rfl ?_; refine yn 13 rfl ?_; refine yp 14 rfl zpk ?_; refine yp 15 rfl zmv ?_; refine yn 16 rfl ?_; refine yn 17 rfl ?_; refine yp 18 rfl zpk ?_; refine yp 19 rfl zmv ?_; refine yn 20 rfl ?_; refine yn 21 rfl ?_; refine yn 22 rfl ?_; refine yn 23 rfl ?_; refine yn 24 rfl ?_; refine yn 25 rfl ?_; refine yn 26 rfl ?_; refine yp 27 rfl zpk ?_; refine yp 28 rfl zmv ?_; refine yn 29 rfl ?_; refine yn 30 rfl ?_; refine yn 31 rfl ?_; refine yn 32 rfl ?_; refine yn 33 rfl ?_; refine yn 35 rfl ?_; refine yo 34 rfl ?_; refine gn ?_; refine yx ?_; refine yn 36 rfl ?_; refine yp 37 rfl zpk ?_; refine yd ?_; refine gx_then (gc_condT rfl rfl ?_); refine gsr (zxa ?_); refine zxa ?_; refine gnt (gc_ret (gx_then_ret (gx_block_ret ?_))); refine gx_round_ret ?_; refine gx_block_ret ?_; refine gx_then_ret (gx_ret2 rfl (by conv => lhs; whnf) (by conv => lhs; whnf) ?_); have hx0 : pAll pRec Y = .ok (l1, l2) := by rw [allE_good' (z := ([], [])) noz_rec (by rw [← hfin.1]; exact e0), hfin.2.1 e0]
             have he : lopen d bs [] = .error 7 := by rw [← hlo]; exact lopen_err (lnx_3 hz hxv hya (.inr (rdRec_n2 hx0 (z := blk0) (by rw [← hfi123.1]; exact e1))))
             have hw0 : True := trivial
             intro w' hw; have hw := St.mapL hw (fun F' hF' => el_nil (rd := RdRec18) hF')
             exact ⟨(none, 0, []), by rw [(rdB_err he).1, (rdB_err he).2]; rfl, by rw [(rdB_err he).2]; exact St.pureI (by simp) ((hw.rowNil (e := 47) (size := 58)).z)⟩
           ·refine gc_regionH ([blk b18 114 [.pointer (some ⟨b116, 0, none⟩)], blk b19 114 [.pointer (some ⟨b120, 0, none⟩)], blk b6 54 (sc (d.at (bs + k))), rowR 5 1 (some ⟨ga, oa, none⟩) Y.length c1 (Y.map B8), rowR 5 1 a130 (datE v123 v125.justify).length c130 ((datE v123 v125.justify).map B8)]) ?_; refine yp 0 rfl zmv ?_; refine yo 1 rfl ?_; refine zc (fun _ => ?_) (c := fun w1 F1 F2 h1 h2 hd hst => idone_ok h1 (rd_row (xs := Y.map B8) h2 hd (by repeat (first | exact Pick.here | apply Pick.there))) (by omega) (by omega))
            refine yx ?_; refine yp 2 rfl (r_bool (c := true) zni (by simp [e0])) ?_; refine yp 3 rfl zmv ?_; refine yn 4 rfl ?_; refine yn 5 rfl ?_; refine yn 6 rfl ?_; refine yn 7 rfl ?_; refine yp 8 rfl zpk ?_; refine yp 9 rfl zmv ?_; refine yn 10 rfl ?_; refine yn 11 rfl ?_; refine yn 12 rfl ?_; refine yn 13 rfl ?_; refine yp 14 rfl zpk ?_; refine yp 15 rfl zmv ?_; refine yn 16 rfl ?_; refine yn 17 rfl ?_; refine yp 18 rfl zpk ?_; refine yp 19 rfl zmv ?_; refine yn 20 rfl ?_; refine yn 21 rfl ?_; refine yn 22 rfl ?_; refine yn 23 rfl ?_; refine yn 24 rfl ?_; refine yn 25 rfl ?_; refine yn 26 rfl ?_; refine yp 27 rfl zpk ?_; refine yp 28 rfl zmv ?_; refine yn 29 rfl ?_; refine yn 30 rfl ?_; refine yn 31 rfl ?_; refine yn 32 rfl ?_; refine yn 33 rfl ?_; refine yn 35 rfl ?_; refine yo 34 rfl ?_; refine gn ?_; refine yx ?_; refine yn 36 rfl ?_; refine yp 37 rfl zpk ?_; refine yd ?_; refine gx_then (gc_condT rfl rfl ?_); refine gsr (zxa ?_); refine zxa ?_; refine gnt (gc_ret (gx_then_ret (gx_block_ret ?_))); refine gx_round_ret ?_; refine gx_block_ret ?_; refine gx_then_ret (gx_ret2 rfl (by conv => lhs; whnf) (by conv => lhs; whnf) ?_); have he : lopen d bs [] = .error 7 := by rw [← hlo]; exact lopen_err (lnx_3 hz hxv hya (.inr (rdRec_n1 (z := ([], [])) (by rw [← hfin.1]; exact e0))))
            have hw0 : True := trivial
            intro w' hw; have hw := St.mapL hw (fun F' hF' => el_nil (rd := RdRec18) hF')
            exact ⟨(none, 0, []), by rw [(rdB_err he).1, (rdB_err he).2]; rfl, by rw [(rdB_err he).2]; exact St.pureI (by simp) ((hw.rowNil (e := 47) (size := 58)).z)⟩
  ·try simp only at hc35
   have hz : (d.at (bs + k)) = sec0 := by simpa using hc35
   refine gc_exit ?_; refine gx_then_exit ?_; refine gx_round_exit ?_; refine gx_block_hit ?_; refine gx_then (gsr (zxm ?_)); refine zxa ?_; refine zxa ?_; refine gnt (gc_ret (gx_ret2 rfl (by conv => lhs; whnf) (by conv => lhs; whnf) ?_)); have he : lopen d bs [] = .ok (rs, bs + k) := by rw [← hlo]; exact lopen_done (lnx_0 hz)
   exact fun w' hw => ⟨(a0, c0, css), by rw [(rdB_ok he).1, (rdB_ok he).2], by rw [(rdB_ok he).2]; exact St.pureI h58 (hw.z)⟩
end
section
section app2
variable {P : Program} {w0 : World} {F0 : Nat → Prop} {L : List Res} {Q : Exit → Act → World → Prop} {n : Fm} {env : Env} {ops : Array Oper} {rest : List Oper}
def appR (e size : Nat) (a : Option Addr) (m c : Nat) (a' : Option Addr) (k c' : Nat) (xs news : List Value) : Res := exR fun b : Bool => allR (if b = true then [pureR (a' = a ∧ c' = c ∧ xs.length = m * size), rowR e size a (m + k) c (xs ++ news)] else [rowR e size a' (m + k) c' (xs ++ news), rowR e size a m c xs])
theorem appR_rd {w : World} {F : Nat → Prop} {e size m c k c' : Nat} {a a' : Option Addr} {xs news : List Value} {L' : List Res} (h : stars (appR e size a m c a' k c' xs news :: L') w F) : RdRow w (fun _ => True) size a' (m + k) (xs ++ news) := by
  obtain ⟨b, h⟩ := stars_ex h
  cases b with
  | true =>
    obtain ⟨⟨rfl, rfl, _⟩, F1, F2, h1, _⟩ := stars_pure (show stars (pureR (a' = a ∧ c' = c ∧ xs.length = m * size) :: rowR e size a (m + k) c (xs ++ news) :: L') w F from stars_all h)
    exact (rowR.rd h1).mv fun k _ _ => ⟨rfl, trivial⟩
  | false =>
    obtain ⟨F1, F2, h1, _⟩ := (show stars (rowR e size a' (m + k) c' (xs ++ news) :: rowR e size a m c xs :: L') w F from stars_all h)
    exact (rowR.rd h1).mv fun k _ _ => ⟨rfl, trivial⟩
theorem St.appRd {w : World} {e size m c k c' : Nat} {a a' : Option Addr} {xs news : List Value} {L' : List Res} (hw : St w0 F0 L w) (hp : Pick L (appR e size a m c a' k c' xs news) L') : RdRow w (fun _ => True) size a' (m + k) (xs ++ news) := by
  obtain ⟨F, hF, _⟩ := hw
  exact appR_rd (hp.stars hF)
theorem row_cutN {w : World} {F : Nat → Prop} {e size m c k : Nat} {a : Option Addr} {xs : List Value} (h : stars (rowR e size a m c xs :: L) w F) (hk : k ≤ m) : stars (rowR e size a k c (xs.take (k * size)) :: L) w F := by
  obtain ⟨F1, F2, ⟨h1, h2, h3, h4⟩, hs, hF, hd⟩ := h
  have hm : k * size ≤ m * size := Nat.mul_le_mul_right _ hk
  refine ⟨F1, F2, ⟨by rw [List.length_take]; omega, by omega, h3, h4.imp id ?_⟩, hs, hF, hd⟩
  rintro ⟨g, o, cs, fz, ha, hf, hg, hz, hl, hx⟩
  exact ⟨g, o, cs, fz, ha, hf, hg, hz, hl, by rw [← hx, List.take_take]; congr 1; omega⟩
theorem St.appOld {w : World} {e size m c k c' : Nat} {a a' : Option Addr} {xs news : List Value} (h : St w0 F0 (appR e size a m c a' k c' xs news :: L) w) : St w0 F0 (rowR e size a m c xs :: L) w := by
  obtain ⟨F, hF, hst⟩ := h
  obtain ⟨b, hF⟩ := stars_ex hF
  cases b with
  | true =>
    obtain ⟨⟨_, _, hl⟩, h2⟩ := stars_pure (show stars (pureR (a' = a ∧ c' = c ∧ xs.length = m * size) :: rowR e size a (m + k) c (xs ++ news) :: L) w F from stars_all hF)
    have h3 := row_cutN (k := m) h2 (by omega)
    rw [← hl, List.take_left] at h3
    exact ⟨F, h3, hst⟩
  | false =>
    obtain ⟨F1, F2, h1, h2, hE, hd⟩ := (show stars (rowR e size a' (m + k) c' (xs ++ news) :: rowR e size a m c xs :: L) w F from stars_all hF)
    exact ⟨F2, h2, hst.weak fun k hk => (hE k).2 (.inr hk)⟩
theorem gl_appOld {e size m c k c' : Nat} {a a' : Option Addr} {xs news : List Value} {L' : List Res} (hp : Pick L (appR e size a m c a' k c' xs news) L') (K : Gl P w0 F0 (rowR e size a m c xs :: L') ops Q rest n env) : Gl P w0 F0 L ops Q rest n env := fun w hw => K w (St.appOld (hw.mapL0 fun F hF => hp.stars hF))
theorem St.append2 {w : World} {e size bytes m c k c2 : Nat} {a a2 : Option Addr} {xs news : List Value} {L' : List Res} {t ty : TypeId} {i : TypeInfo} {z : Value} {A : Nat → Prop}
    (hs : St w0 F0 L w) (hp : Pick L (rowR e size a m c xs) L') (ht : P.underlying t = some (.slice e)) (hi : P.info? e = some i) (hz : i.zero = some z) (hsize : i.size = size) (hby : i.bytes = bytes) (hzs : z.cells.size = size) (hsz : 0 < size)
    (hr : RdRow w A size a2 k news) (h1 : ∀ u ∈ news, u.oneCell' = true) (h63 : m + k ≤ maxLen) (hb : (m + k) * bytes ≤ 140737488355328) :
    ∃ a' c' w', (Builtin.append_ #[t, t] ty #[.slice a m c, .slice a2 k c2]).run P w = .ok (.slice a' (m + k) c') w' ∧ St w0 F0 (appR e size a m c a' k c' xs news :: L') w' := by
  subst hsize
  subst hby
  have hsmall : m + k ≤ 9223372036854775807 := by simp only [maxLen] at h63; omega
  have hsO : St w0 F0 (rowR e i.size a m c xs :: L') w := hs.mapL0 fun F hF => hp.stars hF
  obtain ⟨F, hF, hst⟩ := hs
  obtain ⟨F1, F2, hrow, h2, hE, hd⟩ := hp.stars hF
  have hown := hrow
  obtain ⟨hxl, hmc, hcm, hcase⟩ := hrow
  have hlen : (xs ++ news).length = (m + k) * i.size := by rw [List.length_append, hxl, hr.1, Nat.add_mul]
  by_cases hroom : m + k ≤ c
  · rcases hcase with ⟨rfl, rfl, hF1⟩ | ⟨g, o, cs, fz, rfl, hF1, hg, hfz, hl, hx⟩
    · have hm0 : m = 0 := by omega
      have hk0 : k = 0 := by omega
      subst hm0; subst hk0
      have hx0 : xs = [] := List.eq_nil_of_length_eq_zero (by simpa using hxl)
      have hn0 : news = [] := List.eq_nil_of_length_eq_zero (by simpa using hr.1)
      subst hx0; subst hn0
      refine ⟨none, 0, w, ?_, ?_⟩
      · have hf := hr.first (P := P) (c := c2)
        simp [Builtin.append_, run_underlying ht, sizeOf, typeInfo, hi, Builtin.lenOf, hf]
      · exact ⟨F2, stars_ex_mk true (stars_all_mk (stars_pure_mk ⟨rfl, rfl, by simp⟩ (stars_row_nil h2))), hst.weak fun k hk => (hE k).2 (.inr hk)⟩
    · have hfit : m * i.size + news.length ≤ c * i.size := by rw [hr.1, ← Nat.add_mul]; exact Nat.mul_le_mul_right _ hroom
      have hst' := run_storeCells_blk (P := P) (T := e) (fz := fz) g (o + m * i.size) news 0 cs.toList w (by simpa using hg) (by simpa using hfz) (by simp; omega) h1
      refine ⟨some ⟨g, o, none⟩, c, { w with heap := w.heap.setIfInBounds g (.cells (updL cs.toList (o + m * i.size) news).toArray e fz) }, ?_, F, stars_ex_mk true (stars_all_mk (stars_pure_mk ⟨rfl, rfl, hxl⟩ ⟨F1, F2, ⟨hlen, hroom, hcm, .inr ⟨g, o, (updL cs.toList (o + m * i.size) news).toArray, fz, rfl, hF1, ?_, ?_, ?_, ?_⟩⟩, ?_, hE, hd⟩)), ?_⟩
      · have hf := hr.first (P := P) (c := c2)
        simp only [Nat.add_zero] at hst'
        simp [Builtin.append_, run_underlying ht, sizeOf, typeInfo, hi, Builtin.lenOf, hroom, hf, Addr.add_mid, hst']
      · have hlt : g < w.heap.size := (Array.getElem?_eq_some_iff.1 hg).1
        simp [hlt]
      · rw [List.size_toArray, updL_length (by simp; omega)]; simpa using hfz
      · rw [List.size_toArray, updL_length (by simp; omega)]; simpa using hl
      · rw [← hlen]
        simp only [updL]
        have e1 : (cs.toList.take (o + m * i.size)).drop o = xs := by
          rw [List.drop_take, ← hx]; congr 1; omega
        rw [List.drop_append_of_le_length (by simp; omega), e1, ← List.append_assoc]
        exact List.take_left
      · refine stars_loc h2 fun j hj => ?_
        have : ¬ g = j := fun e => hd j ((hF1 j).2 e.symm) hj
        simp [Array.getElem?_setIfInBounds, this]
      · refine ⟨hst.os, hst.tape, hst.output, by simpa using hst.size, fun j hj hn => ?_, hst.own⟩
        rw [← hst.block j hj hn]
        have : ¬ g = j := fun e => (hst.old hj hn).2 ((hE j).2 (.inl ((hF1 j).2 e.symm)))
        simp [Array.getElem?_setIfInBounds, this]
  · have hge := grownCap_ge w (m + k) c e
    have hcl : grownCap w (m + k) c e ≤ maxLen := grownCap_le_maxLen w (m + k) c e h63
    have hfo := (rowR.rd hown).first (P := P) (c := c)
    have hfn := hr.first (P := P) (c := c2)
    have hrun : (Builtin.append_ #[t, t] ty #[.slice a m c, .slice a2 k c2]).run P w = .ok (.slice (some ⟨w.heap.size, 0, none⟩) (m + k) (grownCap w (m + k) c e))
        (w.drew.alloc (.cells (xs.toArray ++ news.toArray ++ Builtin.zeroCells z.cells (grownCap w (m + k) c e - (m + k))) e)) := by
      have h48' : ¬ (281474976710656 < Builtin.nextslicecap (m + k) c * i.bytes) := by
        have := growslice_fits (need := m + k) (old := c) (by omega) hb; omega
      have h63' : ¬ (9223372036854775807 < ((m : Int) + (k : Int))) := by omega
      have hfo' : (Builtin.firstCells i.size m (.slice a m c)).run P w.drew = .ok xs.toArray w.drew := ((rowR.rd hown).mv (w' := w.drew) (A' := fun _ => True) fun _ _ _ => ⟨rfl, trivial⟩).first
      have hfn' : (Builtin.firstCells i.size k (.slice a2 k c2)).run P w.drew = .ok news.toArray w.drew := (hr.mv (w' := w.drew) (A' := fun _ => True) fun _ _ _ => ⟨rfl, trivial⟩).first
      simp [Builtin.append_, run_underlying ht, sizeOf, typeInfo, zeroValue, hi, hz, Builtin.lenOf, hroom, h63', h48', Question.forced, hfo', hfn', Go.newRow, grownCap]
      congr 2
      apply Array.ext'
      simp
    refine ⟨_, _, _, hrun, ?_⟩
    have hN := hsO.newRow (w' := w.drew.alloc (.cells (xs.toArray ++ news.toArray ++ Builtin.zeroCells z.cells (grownCap w (m + k) c e - (m + k))) e)) (e := e) (size := i.size) (m := m + k) (c := grownCap w (m + k) c e) (xs := xs ++ news) (fz := (0, 0)) rfl rfl rfl rfl (fun j _ h => by simp at h) (by
      simp only [Array.toList_append, List.append_assoc]
      rw [← List.append_assoc, ← hlen]
      exact List.take_left) hge hcl (by
      simp only [Array.size_append, List.size_toArray, size_zeroCells, hzs, hxl, hr.1, ← Nat.add_mul]
      rw [show m + k + (grownCap w (m + k) c e - (m + k)) = grownCap w (m + k) c e by omega]
      exact Nat.le_refl _)
    obtain ⟨F', hF', hst'⟩ := hN
    exact ⟨F', stars_ex_mk false (stars_all_mk hF'), hst'⟩
theorem gl_append2 {x y : Operand} {t e size bytes m c k c2 : Nat} {a a2 : Option Addr} {xs news : List Value} {L' : List Res} {o : Tmp} {ty : TypeId} {pos : String} {af : Array Edge} {gd : Option (Nat × Bool)}
    (hw : Wt ops n env ⟨some o, .call ⟨.builtin .append, #[x, y], #[t, t]⟩, ty, pos, af, gd⟩ true) (hx : ev n env x = .slice a m c) (hy : ev n env y = .slice a2 k c2) (hp : Pick L (rowR e size a m c xs) L')
    (ht : ElemT P t e size bytes) (hr : ∀ w, St w0 F0 L w → RdRow w (fun _ => True) size a2 k news) (h1 : ∀ u ∈ news, u.oneCell' = true) (h63 : m + k ≤ maxLen) (hb : (m + k) * bytes ≤ 140737488355328)
    (K : ∀ a' c', Gl P w0 F0 (appR e size a m c a' k c' xs news :: L') ops Q rest n ((o, .slice a' (m + k) c') :: env)) :
    Gl P w0 F0 L ops Q (⟨some o, .call ⟨.builtin .append, #[x, y], #[t, t]⟩, ty, pos, af, gd⟩ :: rest) n env := by
  obtain ⟨hsl, ⟨i, z, hi, hz, hsz, hby, hzs⟩, hpos⟩ := ht
  refine gl_effx (α := Option Addr × Nat) (L' := fun p => appR e size a m c p.1 k p.2 xs news :: L') (v := fun p => .slice p.1 (m + k) p.2) hw (fun w hs => ?_) (fun p => K p.1 p.2)
  obtain ⟨a', c', w', hrun, hs'⟩ := hs.append2 (P := P) (ty := ty) (c2 := c2) hp hsl hi hz hsz hby hzs hpos (hr w hs) h1 h63 hb
  refine ⟨(a', c'), w', ?_, hs'⟩
  simp [execOp, resolve, invoke, builtin, hx, hy, hrun]
theorem r_ldRd {d : Option Tmp} {ty : TypeId} {pos : String} {af : Array Edge} {gd : Option (Nat × Bool)} {x : Operand} {T g o m s i : Nat} {css : List (List Value)} {cs : List Value} (hx : ev n env x = .pointer (some ⟨g, o + i * s, none⟩)) (hr : rowT P T = some true) (hs : szT P T = some s)
    (hrd : ∀ w, St w0 F0 L w → RdRow w (fun _ => True) s (some ⟨g, o, none⟩) m css.flatten) (hcs : ∀ c ∈ css, c.length = s) (hi : css[i]? = some cs) (him : i < m) : Runs P w0 F0 L n env ⟨d, .load T x, ty, pos, af, gd⟩ (.agg cs.toArray) := r_load hx fun w hw => by
  obtain ⟨g', o', ha, _, _, hra⟩ := (hrd w hw).elem him
  cases ha
  rw [flatten_at hcs hi] at hra
  exact run_loadVar_agg hr hs (hcs cs (List.mem_of_getElem? hi)) fun j v hj => hra j v hj
end app2
structure LdzOk (d : DS) (n bs : Nat) (rs : List LRec) : Prop where
  ld : LdOk d n bs rs
  z : ∀ j, bs + tot rs < j → d.at j = sec0
theorem LdzOk.at {d : DS} {n bs : Nat} {rs : List LRec} (h : LdzOk d n bs rs) (j : Nat) : d.at (bs + j) = (secsOf 0 rs).getD j sec0 := by
  by_cases h1 : j < tot rs
  · exact h.ld.i.lo.at' j h1
  · have hg : (secsOf 0 rs).getD j sec0 = sec0 := by simp only [List.getD]; rw [List.getElem?_eq_none (by rw [secsOf_len]; omega)]; rfl
    rw [hg]
    by_cases h2 : j = tot rs
    · subst h2; exact h.ld.i.lo.fin
    · exact h.z _ (by omega)
def LdzR (q g n bs : Nat) (rs : List LRec) : Res := exR fun d : DS => allR [pureR (LdzOk d n bs rs), LedR q g (lsOf bs rs), DiskR g d]
section
variable {w w0 : World} {F F0 : Nat → Prop} {q g n bs : Nat} {rs : List LRec} {L : List Res} {ea : Nat → Addr} {es : List Nat}
theorem lz_open (h : stars (LdzR q g n bs rs :: L) w F) : ∃ d, LdzOk d n bs rs ∧ stars (LedR q g (lsOf bs rs) :: DiskR g d :: L) w F := by
  obtain ⟨d, h⟩ := stars_ex h
  obtain ⟨h1, h2⟩ := stars_pure (stars_all h)
  exact ⟨d, h1, h2⟩
theorem St.lz {d : DS} (h : St w0 F0 (LedR q g (lsOf bs rs) :: DiskR g d :: L) w) (hd : LdzOk d n bs rs) : St w0 F0 (LdzR q g n bs rs :: L) w := h.mapL fun F hF => stars_ex_mk d (stars_all_mk (stars_pure_mk hd hF))
theorem gl_lz {P : Program} {Q : Exit → Act → World → Prop} {m : Fm} {env : Env} {ops : Array Oper} {rest : List Oper} {L' : List Res} (hp : Pick L (LdzR q g n bs rs) L') (k : ∀ d, LdzOk d n bs rs → Gl P w0 F0 (LedR q g (lsOf bs rs) :: DiskR g d :: L') ops Q rest m env) : Gl P w0 F0 L ops Q rest m env := fun w hw => by
  obtain ⟨F, hF, hst⟩ := hw.pick hp
  obtain ⟨d, hd, h⟩ := lz_open hF
  exact k d hd w ⟨F, h, hst⟩
theorem gc_lzlt {P : Program} {Q : Exit → Act → World → Prop} {m : Fm} {env : Env} {c : Code} {L' : List Res} (hp : Pick L (LdzR q g n bs rs) L') (k : bs + tot rs < n → Gc P w0 F0 L c Q m env) : Gc P w0 F0 L c Q m env := fun w hw => by
  obtain ⟨F, hF, hst⟩ := hw.pick hp
  obtain ⟨d, hd, h⟩ := lz_open hF
  exact k (tot_lt hd.ld) w hw
theorem fmtZ (h : stars [DiskR g ⟨n, fun _ => sec0, [], false, false, 0⟩] w F) (hn : n ≤ 4096) (hb : bs < n) [Has es 1] [Has es 6] (hE : GErr es w (fun k => ¬ F k) 261 ea) :
    Calls Tryz.prog 7 #[.pointer (some ⟨g, 0, none⟩), .int .i64 (bs : Int)] w (Post w F (fun q : Nat => .tuple #[.pointer (some ⟨q, 0, none⟩), eV 261 ea 0]) (fun q => [LdzR q g n bs []])) := by
  have hc := disk0_calm hn
  obtain ⟨d', e, h1, h2, h3, h4⟩ := fmt_calm hc hb
  obtain ⟨hw, hcw⟩ := hc.wr (i := bs) (v := sec0) hb
  obtain ⟨hs, hc2, ho⟩ := hcw.sync
  have e2 : d' = (DS.write ⟨n, fun _ => sec0, [], false, false, 0⟩ (bs : Int) sec0).sync := by
    have e3 : fmtL ⟨n, fun _ => sec0, [], false, false, 0⟩ (bs : Int) = (0, (DS.write ⟨n, fun _ => sec0, [], false, false, 0⟩ (bs : Int) sec0).sync) := by
      rw [fmtL, if_pos (has_iff.2 ⟨by omega, by show (bs : Int) < (n : Int); omega⟩), hw, if_pos rfl, if_neg (by rw [ho]; decide), hs]
    rw [e] at e3
    exact (Prod.mk.inj e3).2
  have hz : ∀ j, d'.at j = sec0 := fun j => by
    rw [e2, at_sync, at_write]; split <;> rfl
  refine Calls.mono (formatL_ok (b := (bs : Int)) h hc.ok hE) ?_
  rintro o w' ⟨q, ho, hs⟩
  simp only [e, if_true] at ho hs
  exact ⟨q, ho, St.lz (rs := []) (n := n) (L := []) (show St w F [LedR q g (lsOf bs []), DiskR g d'] w' from hs) ⟨⟨h1, h2, h3, h4⟩, fun j _ => hz j⟩⟩
theorem appZ {cs qs : List Value} {b : Block} {c : QC} (h : stars [LdzR q g n bs rs] w F) [Has es 1] [Has es 4] [Has es 6] [Has es 8] [Has es 12] (hE : GErr es w (fun k => ¬ F k) 261 ea) (hK : KR w (fun k => ¬ F k)) (hx : RdBlock w (fun k => ¬ F k) cs b) (hq : RdQC w (fun k => ¬ F k) qs c)
    (hr : (⟨b, c⟩ : LRec).Ok) (h2 : rs.length < 200) (hf : bs + tot rs + nsec (⟨b, c⟩ : LRec).data.length + 2 ≤ n) :
    Calls Tryz.prog 10 #[.pointer (some ⟨q, 0, none⟩), .agg cs.toArray, .agg qs.toArray] w (Post w F (fun _ : Unit => eV 261 ea 0) (fun _ => [LdzR q g n bs (rs ++ [⟨b, c⟩])])) := by
  obtain ⟨d, hz, h⟩ := lz_open h
  have hd := hz.ld
  have hfit : nsec (⟨b, c⟩ : LRec).data.length + 2 ≤ d.n - (lsOf bs rs).e := by rw [hd.n]; show _ ≤ n - (bs + tot rs); omega
  obtain ⟨d', e, h1, h3, h4, h5⟩ := appD_calm (l := lsOf bs rs) hd.c hfit
  have e2 := (app_ok (d := d) (l := lsOf bs rs) (made_zero hr) h2 hfit).trans e
  refine Calls.mono (append_ok (l := lsOf bs rs) h hd.c.ok hE hK hx hq hd.i.lt (by show rs.length < _; omega)) ?_
  rintro o w' ⟨x, ho, hs⟩
  simp only [e2] at ho hs
  have hi := hd.i.add (d' := d') hr hfit h3 h5
  have el : (lsOf bs rs).add ⟨b, c⟩ = lsOf bs (rs ++ [⟨b, c⟩]) := by simp only [LS.add, lsOf, tot_snoc, Nat.add_assoc]
  rw [el] at hi hs
  refine ⟨(), ho, St.lz hs ⟨⟨h1, by rw [h3, hd.n], h4, hi⟩, fun j hj => ?_⟩⟩
  rw [tot_snoc] at hj
  have hle : (lsOf bs rs).e = bs + tot rs := rfl
  rw [h5, appF, if_neg (by omega), if_neg (by omega), if_neg (by omega)]
  exact hz.z j (by omega)
theorem readZ {j : Nat} (h : stars [LdzR q g n bs rs] w F) [Has es 1] [Has es 6] (hE : GErr es w (fun k => ¬ F k) 261 ea) (hj : bs + j < n) :
    Calls Tryz.prog 12 #[.pointer (some ⟨g, 0, none⟩), .int .i64 ((bs + j : Nat) : Int)] w (Post w F (fun _ : Unit => .tuple #[scV ((secsOf 0 rs).getD j sec0), eV 261 ea 0]) (fun _ => [LdzR q g n bs rs])) := by
  obtain ⟨d, hz, h⟩ := lz_open h
  have hd := hz.ld
  obtain ⟨F1, F2, h1, h2, hF, hdj⟩ := (Pick.there (x := LedR q g (lsOf bs rs)) (Pick.here (r := DiskR g d) (L := []))).stars h
  have hst : Still w (fun k => ¬ F k) w (fun k => ¬ F1 k) := fun k _ hk => ⟨rfl, fun h' => hk ((hF k).2 (.inl h'))⟩
  have hc := calls_frame (read_ok (i := ((bs + j : Nat) : Int)) (stars_one h1) (hE.mv hst)) h2 hF hdj
  refine Calls.mono hc ?_
  rintro o w' ⟨x, ho, hs⟩
  have e : d.rd ((bs + j : Nat) : Int) = (0, (secsOf 0 rs).getD j sec0) := by rw [rd_at (has_iff.2 ⟨by omega, by rw [hd.n]; omega⟩) hd.c.on, Int.toNat_natCast, hz.at]
  rw [e] at ho
  exact ⟨(), ho, (St.lz (hs.sel (.cons (.there .here) (.cons .here .nil))) hz)⟩
end
end
section
theorem lopen_rok {d : DS} : ∀ (m e : Nat) (rs rs' : List LRec) (e' : Nat), d.n - e ≤ m → lopen d e rs = .ok (rs', e') → (∀ r ∈ rs, r.Ok) → (∀ r ∈ rs', r.Ok) ∧ rs'.length ≤ rs.length + (d.n - e)
  | m, e, rs, rs', e', hm, h, hr => by
    cases hn : lnext d e rs.length with
    | error k => rw [lopen_err hn] at h; cases h
    | ok o => cases o with
      | none => rw [lopen_done hn] at h; cases h; exact ⟨hr, by omega⟩
      | some r =>
        rw [lopen_more hn] at h
        obtain ⟨h1, h2⟩ := lnext_some hn
        have h3 : 1 ≤ lenR r := by unfold lenR; omega
        match m, hm with
        | 0, hm => omega
        | m + 1, hm =>
          have := lopen_rok m (e + lenR r) (rs ++ [r]) rs' e' (by omega) h (fun x hx => by rcases List.mem_append.1 hx with h | h; exact hr x h; (rw [List.mem_singleton.1 h]; exact h1))
          refine ⟨this.1, ?_⟩
          have h4 := this.2
          rw [List.length_append] at h4
          simp only [List.length_singleton] at h4
          omega
theorem lopen_err7 {d : DS} : ∀ (m e : Nat) (rs : List LRec) (k : Nat), d.n - e ≤ m → lopen d e rs = .error k → k = 7
  | m, e, rs, k, hm, h => by
    cases hn : lnext d e rs.length with
    | error k' => rw [lopen_err hn] at h; cases h; exact lnext_err hn
    | ok o => cases o with
      | none => rw [lopen_done hn] at h; cases h
      | some r =>
        rw [lopen_more hn] at h
        obtain ⟨h1, h2⟩ := lnext_some hn
        have h3 : 1 ≤ lenR r := by unfold lenR; omega
        match m, hm with
        | 0, hm => omega
        | m + 1, hm => exact lopen_err7 m (e + lenR r) (rs ++ [r]) k (by omega) h
theorem smO_okB (o : Op18) : OkBlock (smO o).b := by
  have h := rnd_lt o.round
  exact ⟨show I64 (1 : Int) by unfold I64; decide, show I64 ((rndU o.round : Nat) : Int) by unfold I64; omega, ⟨show I64 (0 : Int) by unfold I64; decide, show I64 (0 : Int) by unfold I64; decide, fun x hx => by cases hx⟩, fun x hx => by cases hx⟩
theorem smO_okQ (o : Op18) : OkQC (smO o).c := by
  have h := rnd_lt o.round
  exact ⟨show I64 (1 : Int) by unfold I64; decide, show I64 ((rndU o.round : Nat) : Int) by unfold I64; omega, fun x hx => by rw [List.eq_of_mem_replicate (show x ∈ List.replicate _ sgE from hx)]; exact ⟨show I64 (0 : Int) by unfold I64; decide, show I64 (0 : Int) by unfold I64; decide⟩⟩
theorem datE_sm (o : Op18) : madeE (smO o).b (smO o).c = 0 ∧ datE (smO o).b (smO o).c = (smO o).data := by
  have h := made_zero (smO_ok o)
  exact ⟨h, by rw [datE, if_pos h]⟩
theorem tot_nil' : tot [] = 0 := rfl
theorem sc_nil' : scs (secsOf 0 []) = [] := rfl
theorem scs_snoc (l : List Sec) (s : Sec) : scs (l ++ [s]) = scs l ++ sc s := by rw [scs_app]; simp [scs]
theorem scs_one (l : List Sec) : ∀ v ∈ scs l, v.oneCell' = true := fun v hv => by
  obtain ⟨c, hc, hv⟩ := List.mem_flatten.1 hv
  obtain ⟨s, _, rfl⟩ := List.mem_map.1 hc
  exact sc_one s v hv
theorem sec_snoc (rs : List LRec) (r : LRec) : scs (secsOf 0 (rs ++ [r])) = scs (secsOf 0 rs) ++ scs (secsP rs.length r.data (nsec r.data.length)) := by
  rw [secsOf_app, scs_app, Nat.zero_add]; simp [secsOf, secsR, secsP]
theorem secs_end {rs : List LRec} {j : Nat} (h : j ≤ tot rs) : (secsOf 0 rs ++ [sec0])[j]? = some ((secsOf 0 rs).getD j sec0) := by
  by_cases h1 : j < tot rs
  · rw [List.getElem?_append_left (by rw [secsOf_len]; exact h1)]
    simp [List.getD, show j < (secsOf 0 rs).length by rw [secsOf_len]; exact h1]
  · have h2 : j = (secsOf 0 rs).length := by rw [secsOf_len]; omega
    subst h2
    simp [List.getD]
def flipS (s : Sec) (i : Nat) (b : UInt8) : Sec := ⟨s.l.set i (s.l.getD i 0 ^^^ b), by rw [List.length_set, s.h]⟩
theorem flip_zero {s : Sec} {i : Nat} : flipS s i 0 = s := by
  have e : s.l.set i (s.l.getD i 0 ^^^ 0) = s.l := by
    rw [UInt8.xor_zero]
    refine List.ext_getElem? fun j => ?_
    rw [List.getElem?_set]
    by_cases h : i = j
    · subst h
      rw [if_pos rfl]
      by_cases h2 : i < s.l.length
      · rw [if_pos h2, List.getElem?_eq_getElem h2]; simp [List.getD, h2]
      · rw [if_neg h2, List.getElem?_eq_none (by omega)]
    · rw [if_neg h]
  cases s; simp only [flipS] at e ⊢; simp only [e]
theorem flip_cells {s : Sec} {i : Nat} {b : UInt8} (h : i < 64) : updL (sc s) i [B8 (s.l.getD i 0 ^^^ b)] = sc (flipS s i b) := updL_set (V := B8) (l := s.l) (i := i) (by rw [s.h]; exact h)
theorem flip_cells2 {s : Sec} {i : Nat} {b : UInt8} (h : i < 64) : updL (sc s) (0 + (i : Int).toNat * 1) [B8 (s.l.getD i 0 ^^^ b)] = sc (flipS s i b) := by
  rw [show 0 + (i : Int).toNat * 1 = i by simp]; exact flip_cells h
theorem b8_xor (a b : UInt8) : bitop .xor .u8 (a.toNat : Int) (b.toNat : Int) = ((a ^^^ b).toNat : Int) := by
  have h1 : BitVec.ofInt IntKind.u8.bits (a.toNat : Int) = a.toBitVec := by
    apply BitVec.eq_of_toNat_eq; have := a.toNat_lt; simp [BitVec.toNat_ofInt, IntKind.bits] <;> omega
  have h2 : BitVec.ofInt IntKind.u8.bits (b.toNat : Int) = b.toBitVec := by
    apply BitVec.eq_of_toNat_eq; have := b.toNat_lt; simp [BitVec.toNat_ofInt, IntKind.bits] <;> omega
  have h3 := (a ^^^ b).toNat_lt
  have h4 : (a.toBitVec ^^^ b.toBitVec).toNat = (a ^^^ b).toNat := rfl
  simp only [bitop, h1, h2]
  show IntKind.u8.wrap (((a ^^^ b).toNat : Nat) : Int) = _
  exact wrap_u8 (by omega) (by omega)
def spS (rs : List LRec) (i0 : Nat) (v : Sec) (k : Nat) : List Sec := (secsOf 0 rs).set i0 v ++ List.replicate k sec0
theorem spS_succ (rs : List LRec) (i0 : Nat) (v : Sec) (k : Nat) : scs (spS rs i0 v (k + 1)) = scs (spS rs i0 v k) ++ sc sec0 := by
  rw [← scs_snoc]; congr 1; simp [spS, List.replicate_succ']
theorem spS_at {d d1 : DS} {rs : List LRec} {i0 k : Nat} {v : Sec} (hd : LdzOk d 200 3 rs) (hi0 : i0 < tot rs) (ha : ∀ j, d1.at j = if j = 3 + i0 then v else d.at j) {i : Nat} (hi : i < tot rs + k) : (spS rs i0 v k)[i]? = some (d1.at (3 + i)) := by
  have hl := secsOf_len 0 rs
  rw [ha]
  by_cases h1 : i < tot rs
  · rw [spS, List.getElem?_append_left (by rw [List.length_set]; omega), List.getElem?_set]
    by_cases h2 : i0 = i
    · subst h2; rw [if_pos rfl, if_pos (by omega), if_pos rfl]
    · rw [if_neg h2, if_neg (by omega), hd.at]
      simp [List.getD, show i < (secsOf 0 rs).length by omega]
  · rw [spS, List.getElem?_append_right (by rw [List.length_set]; omega), List.length_set, List.getElem?_replicate, if_pos (by omega), if_neg (by omega)]
    by_cases h2 : i = tot rs
    · subst h2; rw [hd.ld.i.lo.fin]
    · rw [hd.z _ (by omega)]
theorem sp_zero {d d1 : DS} {rs : List LRec} {i0 i : Nat} (hd : LdzOk d 200 3 rs) (hi0 : i0 < tot rs) (ha : ∀ j, d1.at j = if j = 3 + i0 then flipS ((secsOf 0 rs).getD i0 sec0) i 0 else d.at j) (hn : d1.n = d.n) : lopen d1 3 [] = .ok (rs, 3 + tot rs) := by
  have e : d1.at = d.at := funext fun j => by
    rw [ha]; split
    · rename_i h; subst h; rw [flip_zero, hd.at]
    · rfl
  exact lopen_ok (by rw [e]; exact hd.ld.i.lo) (by rw [hn]; exact hd.ld.i.lt)
theorem rec18_of {w : World} {A : Nat → Prop} {xb xc : List Value} {r : LRec} (h : RdRec18 w A (xb ++ xc) r) (hl : xb.length = 39) : RdBlock w A xb r.b ∧ RdQC w A xc r.c := by
  obtain ⟨b', c', e, h1, h2⟩ := h
  obtain ⟨rfl, rfl⟩ := List.append_inj e (by rw [hl, h1.len])
  exact ⟨h1, h2⟩
theorem openE_ok3 {d : DS} {rs : List LRec} {e : Nat} (hn : d.n = 200) (h : lopen d 3 [] = .ok (rs, e)) : openE d 3 = (0, ⟨3, rs, e⟩) := by rw [openE, if_pos (has_iff.2 ⟨by omega, by rw [hn]; omega⟩), show (3 : Int).toNat = 3 from rfl, h]
theorem openE_bad3 {d : DS} {k : Nat} (hn : d.n = 200) (h : lopen d 3 [] = .error k) : openE d 3 = (7, ⟨3, [], 0⟩) := by rw [openE, if_pos (has_iff.2 ⟨by omega, by rw [hn]; omega⟩), show (3 : Int).toNat = 3 from rfl, h, lopen_err7 _ _ _ _ (Nat.le_refl _) h]
end
section
attribute [local irreducible] Gl Gc Gx Gs Runs Wt
set_option maxRecDepth 20000
attribute [local irreducible] dc RdRec RdBlock RdQC blkC qcC allE smR agR tot rndU vts LdzR LdR smO RdRec18 madeE datE secsOf spS
set_option maxHeartbeats 8000000 in
theorem ledgerBytes_ok {w : World} {F : Nat → Prop} {al : Option Addr} {n cl : Nat} {l : List Op18} {p0 p1 : Int} {by_ : UInt8} {ea : Nat → Addr} (h : stars [] w F) (hN : NErr w (fun k => ¬ F k) ea) (hK : KR w (fun k => ¬ F k)) (hx : RdList (RdOp18 w (fun k => ¬ F k)) w (fun k => ¬ F k) 6 al n l) :
    Calls Tryz.prog 3 #[.slice al n cl, .agg (List.toArray [.int .i64 p0, .int .i64 p1]), B8 by_] w (Post w F (fun _ : Unit => .bool true) (fun _ => [])) := by
 have hE := hN.g
 have hnl := hx.len (by decide)
 refine g_enter (env := [(0, .slice al n cl), (1, .agg (List.toArray [.int .i64 p0, .int .i64 p1])), (2, B8 by_)]) Tryz.func3 rfl h Tryz.ntmps3 rfl rfl ?_; refine gsr (zbN fun b4 => ?_); refine zxa ?_; refine gnt (gc_seq (gc_regionS (by kernel_rfl) (by kernel_rfl) ?_)); refine sp zib ?_; refine sp zl ?_; refine sp zib ?_; refine sp zl ?_; refine sp zas ?_; refine sp zas ?_; refine gs_nil ?_; refine gx_then (gc_seq (gsr (zc (fun _ => ?_) (c := fun w1 F1 F2 h1 h2 hd hst => alive18_ok h1 (hE.mv hst.still) (hK.mv hst.still)))))
 refine gp znt ?_; refine gnt (gc_condF rfl rfl ?_); refine gc_skip (gx_then (gc_seq (gsr (zxm ?_)))); refine gp zln ?_; refine gp zgt ?_; refine gnt (gif rfl (fun hc40 => ?_) (fun hc40 => ?_))
 ·refine gsr (zxa ?_); refine gnt (gc_ret (gx_then_ret (gx_ret1 rfl (by conv => lhs; whnf) ?_))); exact ze ()
 ·try simp only at hc40
  have hn6 : n ≤ 6 := by omega
  refine gc_skip (gx_then (gsr (zc (fun g => ?_) (c := fun w1 F1 F2 h1 h2 hd hst => new_ok (ea := ea) (n := 200) h1 (by decide) (by decide)))))
  refine zxm ?_; refine gp zex ?_; refine gp zex ?_; refine zxa ?_; refine zxa ?_; refine gnt (gc_seq (gsr (zxm ?_))); refine gp (r_bool (c := false) (r_nenil rfl (by kernel_rfl)) rfl) ?_; refine gnt (gc_condF rfl rfl ?_); refine gc_skip (gx_then (gsr (zxm ?_))); refine zc (fun q => ?_) (c := fun w1 F1 F2 h1 h2 hd hst => fmtZ (n := 200) (bs := 3) h1 (by decide) (by decide) (hE.mv hst.still))
  refine zxm ?_; refine gp zex ?_; refine gp zex ?_; refine zxa ?_; refine zxa ?_; refine gnt (gc_seq (gsr (zxm ?_))); refine gp (r_bool (c := false) (r_nenil rfl (by kernel_rfl)) rfl) ?_; refine gnt (gc_condF rfl rfl ?_); refine gc_skip (gx_then (gsr (ze0 (fun b54 => ?_))))
  refine zxa ?_; refine gnt (gc_seq (gsr (zxm ?_))); refine gp zln ?_; refine zxm ?_; refine gnt (gc_block (gc_loop (α := Nat × Option Addr × Nat) (fun y => [pureR (y.1 ≤ n), LdzR q g 200 3 (agR l y.1), rowR 54 64 y.2.1 (tot (agR l y.1)) y.2.2 (scs (secsOf 0 (agR l y.1)))]) (fun y => [(57, .int .i64 (y.1 : Int)), (12, .slice y.2.1 (tot (agR l y.1)) y.2.2), (10, eV 261 ea 0)]) [6, 13, 14, 15, 16, 17, 58, 59, 60, 61, 62, 63, 64, 65, 66, 67, 68, 69, 70, 71, 72, 73, 74, 75, 76, 77, 78, 79, 80, 81, 82, 83, 84, 85, 86, 87, 88, 89, 90] (fun y => n - y.1) (0, some ⟨b54, 0, none⟩, 0) ?_ ?_ ?_))
  ·refine env_start (by kernel_rfl)
  ·simp only [agR_zero, tot_nil', sc_nil']
   exact zlp (Nat.zero_le _)
  ·intro y u; obtain ⟨k, a, c⟩ := y; refine gc_pureR (fun hk => ?_)
   replace hk : k ≤ n := hk
   have htot := agR_tot l k
   refine gsr (gp zlt ?_); refine gnt (gc_seq (gif rfl (fun hc58 => ?_) (fun hc58 => ?_)))
   ·try simp only at hc58
    have hk' : k < n := by omega
    obtain ⟨gx, ox, ce, op, ha, hA, _, hra, hl6, hop, hrd⟩ := hx.elem (i := k) (by decide) hk'; subst ha; obtain ⟨oa, on, oc, rfl, _, _⟩ := hrd; have hlen := agR_len (l := l) (k := k) (by omega)
    have hsec := smO_sec op
    have hsucc := agR_succ hop
    have htot1 := agR_tot l (k + 1)
    obtain ⟨hm0, hdt⟩ := datE_sm op; have hdl := data_len (smO op)
    have ht1 : tot (agR l (k + 1)) = tot (agR l k) + (1 + nsec (smO op).data.length) := by rw [hsucc, tot_snoc]; rfl
    refine gc_skip (gx_then (gc_seq (gc_block (gsr (zxm ?_))))); refine gp (r_val (v' := .pointer (some ⟨gx, ox + k * 6, none⟩)) zia (by simp)) ?_; refine gp (r_ldNo rfl Ty.row_36 Ty.sz_36 hra hl6 (by decide) hA) ?_; refine zal fun b14 => ?_; refine zxa ?_; refine zsN ?_; refine zxs ?_; refine gp zfa ?_; refine gp zl ?_; refine gp zfa ?_; refine gp zl ?_; refine gp zfa ?_; refine gp zl ?_; refine zc ?_ (c := fun w1 F1 F2 h1 h2 hd hst => small_ok (i := op.round) (v := op.votes) (tx := op.tx) h1 (hE.mv hst.still) (hK.mv hst.still))
    rintro ⟨xb, xc⟩
    refine gl_pureR (fun hxx => ?_)
    obtain ⟨⟨hlb, hob⟩, hlc, hoc⟩ := hxx; replace hlb : xb.length = 39 := hlb
    replace hlc : xc.length = 19 := hlc
    have ib := Len.of hlb
    have jb := One.of (show ∀ v ∈ xb, v.oneCell' = true from hob)
    have ic := Len.of hlc
    have jc := One.of (show ∀ v ∈ xc, v.oneCell' = true from hoc)
    rw [smO_eq]; refine zal fun b15 => ?_; refine zsN ?_; refine zxs ?_; refine gp (zLa (cs := xb ++ xc)) ?_; refine zc ?_ (c := fun w1 F1 F2 h1 h2 hd hst => data18_ok (b := (smO op).b) (c := (smO op).c) h1 (vl_rd h2 hd (by repeat (first | exact Pick.here | apply Pick.there))) (vl_rd h2 hd (by repeat (first | exact Pick.here | apply Pick.there))) (smO_okB op) (smO_okQ op))
    rintro ⟨a71, c71⟩
    rw [hm0, hdt]; refine zxm ?_; refine gp zex ?_; refine gp zex ?_; refine zxa ?_; refine zxa ?_; refine gnt (gc_seq (gsr (zxm ?_))); refine gp (r_bool (c := false) zni (by simp)) ?_; refine zxm ?_; refine gq zmv ?_; refine gq zfa ?_; refine gq (zL (sg := xb)) ?_; refine gq zfa ?_; refine gq (zL (sg := xc)) ?_; refine zc (fun _ => ?_) (c := fun w1 F1 F2 h1 h2 hd hst => appZ (b := (smO op).b) (c := (smO op).c) h1 (hE.mv hst.still) (hK.mv hst.still) (vl_rd h2 hd (by repeat (first | exact Pick.here | apply Pick.there))) (vl_rd h2 hd (by repeat (first | exact Pick.here | apply Pick.there))) (smO_ok op) (by show (agR l k).length < 200; omega) (by show 3 + tot (agR l k) + nsec (smO op).data.length + 2 ≤ 200; omega))
    rw [show agR l k ++ [(⟨(smO op).b, (smO op).c⟩ : LRec)] = agR l (k + 1) from hsucc.symm]; refine gq (r_bool (c := false) (r_nenil rfl (by kernel_rfl)) rfl) ?_; refine gp zpk ?_; refine gnt (gc_condF rfl rfl ?_); refine gc_skip (gx_then (gc_region (zxm ?_))); refine zxm ?_; refine zxm ?_; refine zc ?_ (c := fun w1 F1 F2 h1 h2 hd hst => sectors18_ok (k := k) (d := (smO op).data) h1 (rd_row (xs := (smO op).data.map B8) h2 hd (by repeat (first | exact Pick.here | apply Pick.there))) (by omega) hdl.2)
    rintro ⟨a88, c88⟩
    refine zapo (m := tot (agR l k)) (a2 := a88) (c2 := c88) (news := scs (secsP k (smO op).data (nsec (smO op).data.length))) (fun a89 c89 => ?_) (h1 := scs_one _)
    rw [← ht1, show scs (secsOf 0 (agR l k)) ++ scs (secsP k (smO op).data (nsec (smO op).data.length)) = scs (secsOf 0 (agR l (k + 1))) from by rw [hsucc, sec_snoc, hlen]]; refine zxa ?_; refine gl_nil (gx_block_normal (gx_then (gc_region (gp zad ?_)))); refine zxm ?_; refine gl_nil (zrd ((k + 1, a89, c89)) ?_ ?_)
    ·show n - (k + 1) < n - k
     omega
    ·exact zlp (show k + 1 ≤ n by omega)
   ·try simp only at hc58
    have hk' : n = k := by omega
    subst hk'; refine gc_lzlt (by repeat (first | exact Pick.here | apply Pick.there)) (fun hlt => ?_)
    replace hlt : 3 + (tot (agR l n)) < 200 := hlt
    refine gc_exit ?_; refine gx_then_exit ?_; refine gx_round_exit ?_; refine gx_block_hit ?_; refine gx_then (gc_seq (gsr (zxm ?_))); refine gp (zba (cs := sc sec0) (by exact rfl)) ?_; refine zeN fun b93 => ?_; refine gl_append2 (m := tot (agR l n)) (xs := scs (secsOf 0 (agR l n))) (news := sc sec0) (wt0 rfl) rfl rfl (by repeat (first | exact Pick.here | apply Pick.there)) ELT.h (fun w' hw => hw.row (by repeat (first | exact Pick.here | apply Pick.there))) (sc_one _) (by simp only [maxLen]; omega) (by omega) (fun a94 c94 => ?_)
    refine gl_fact (p := ∃ g o, a94 = some ⟨g, o, none⟩) (fun w' hw => (by obtain ⟨g, o, e, _⟩ := (St.appRd hw (by repeat (first | exact Pick.here | apply Pick.there))).2.2 (by omega); exact ⟨g, o, e⟩)) (fun ha => ?_)
    obtain ⟨g9, o9, rfl⟩ := ha; refine gp zln ?_; refine zxm ?_; refine gnt (gc_block (gc_loop (α := Nat) (fun j => [pureR (j ≤ (tot (agR l n)) + 1), LdzR q g 200 3 (agR l n), appR 54 64 a (tot (agR l n)) c (some ⟨g9, o9, none⟩) 1 c94 (scs (secsOf 0 (agR l n))) (sc sec0)]) (fun j => [(96, .int .i64 (j : Int)), (10, eV 261 ea 0)]) [6, 18, 19, 20, 21, 97, 98, 99, 100, 101, 102, 103, 104, 105, 106, 107, 108, 109, 110, 111, 112, 113, 114, 115] (fun j => (tot (agR l n)) + 1 - j) 0 ?_ ?_ ?_))
    ·refine env_start (by kernel_rfl)
    ·exact zlp (Nat.zero_le _)
    ·intro j u; refine gc_pureR (fun hj => ?_)
     replace hj : j ≤ (tot (agR l n)) + 1 := hj
     refine gsr (gp zlt ?_); refine gnt (gc_seq (gif rfl (fun hc97 => ?_) (fun hc97 => ?_)))
     ·try simp only at hc97
      have hj' : j ≤ (tot (agR l n)) := by omega
      have hse := secs_end hj'
      refine gc_skip (gx_then (gc_seq (gc_block (gsr (zxm ?_))))); refine gp (r_val (v' := .pointer (some ⟨g9, o9 + j * 64, none⟩)) zia (by simp)) ?_; refine gp (r_ldRd (i := j) (m := (tot (agR l n)) + 1) (css := (secsOf 0 (agR l n) ++ [sec0]).map sc) (cs := sc ((secsOf 0 (agR l n)).getD j sec0)) rfl Ty.row_54 Ty.sz_54 (fun w' hw => (by have h3 := St.appRd hw (by repeat (first | exact Pick.here | apply Pick.there)); rw [← scs_snoc] at h3; exact h3)) map_sc_len (by simp only [List.getElem?_map, hse, Option.map_some]) (by omega)) ?_
      refine zal fun b19 => ?_; refine zxa ?_; refine zsA (new := sc ((secsOf 0 (agR l n)).getD j sec0)) (sc_length _) (sc_one _) ?_; refine zxs ?_; refine zxm ?_; refine zxm ?_; refine gp (r_int (j := ((3 + j : Nat) : Int)) zad (by omega)) ?_; refine zc (fun _ => ?_) (c := fun w1 F1 F2 h1 h2 hd hst => readZ (j := j) h1 (hE.mv hst.still) (by omega))
      refine zxm ?_; refine gp zex ?_; refine gp zex ?_; refine zal fun b20 => ?_; refine zsA (new := sc ((secsOf 0 (agR l n)).getD j sec0)) (sc_length _) (sc_one _) ?_; refine zxa ?_; refine zxs ?_; refine zxm ?_; refine gp (r_bool (c := false) (r_nenil rfl (by kernel_rfl)) rfl) ?_; refine zxm ?_; refine gq (zLa (cs := sc ((secsOf 0 (agR l n)).getD j sec0))) ?_; refine gq (zLa (cs := sc ((secsOf 0 (agR l n)).getD j sec0))) ?_; refine gq (r_bool (c := false) (r_neq_sec (a := (secsOf 0 (agR l n)).getD j sec0) (b := (secsOf 0 (agR l n)).getD j sec0) Ty.arr_54 Ty.un_5 Ty.sz_5 (by kernel_rfl)) (by simp)) ?_; refine gp zpk ?_; refine gnt (gc_condF rfl rfl ?_); refine gc_skip (gx_block_normal (gx_then (gc_region (gp zad ?_)))); refine zxm ?_; refine gl_nil (zrd (j + 1) ?_ ?_)
      ·show (tot (agR l n)) + 1 - (j + 1) < (tot (agR l n)) + 1 - j
       omega
      ·exact zlp (show j + 1 ≤ (tot (agR l n)) + 1 by omega)
     ·refine gc_exit ?_; refine gx_then_exit ?_; refine gx_round_exit ?_; refine gx_block_hit ?_; refine gx_then (gc_seq (gsr (zxm ?_))); refine gp zln ?_; refine gp zei ?_; refine gnt (gif rfl (fun hc118 => ?_) (fun hc118 => ?_))
      ·refine gsr (zxa ?_); refine gnt (gc_ret (gx_then_ret (gx_ret1 rfl (by conv => lhs; whnf) ?_))); exact ze ()
      ·try simp only at hc118
       have ht0 : 0 < (tot (agR l n)) := by omega
       obtain ⟨hi0e, hi0⟩ := u64_rem p0 ht0; obtain ⟨i0, hi0v⟩ : ∃ i0, i0 = ((IntKind.u64.wrap p0).tmod ((tot (agR l n)) : Int)).toNat := ⟨_, rfl⟩; rw [← hi0v] at hi0e hi0; obtain ⟨hi1e, hi1⟩ := u64_rem p1 (m := 64) (by decide); obtain ⟨i1, hi1v⟩ : ∃ i1, i1 = ((IntKind.u64.wrap p1).tmod ((64 : Nat) : Int)).toNat := ⟨_, rfl⟩; rw [← hi1v] at hi1e hi1; refine gc_skip (gx_then (gsr (zxm ?_))); refine gp zci ?_; refine zxm ?_; refine gp zln ?_; refine gp (r_int (j := ((tot (agR l n)) : Int)) zci (wrap_u64 (by omega) (by omega))) ?_; refine gp (r_int (j := (i0 : Int)) zrm hi0e) ?_; refine gp (r_int (j := (i0 : Int)) zci (wrap_i64 (by omega) (by omega))) ?_; refine zxm ?_; refine gp zci ?_; refine gp (r_int (j := (i1 : Int)) zrm hi1e) ?_; refine gp (r_int (j := (i1 : Int)) zci (wrap_i64 (by omega) (by omega))) ?_; refine zxa ?_; refine zxa ?_; refine zxs ?_; refine gl_appOld (by repeat (first | exact Pick.here | apply Pick.there)) ?_; refine gl_fact (fun w' hw => St.rowAt (hw.sel (M := [rowR 54 64 a (tot (agR l n)) c (scs (secsOf 0 (agR l n)))]) (by repeat (first | exact Sel.nil | (apply Sel.cons; · (repeat (first | exact Pick.here | apply Pick.there)))))) .here (by omega)) (fun hra => ?_)
       obtain ⟨hnc, ga, oa, ha⟩ := hra; subst ha; have hsl := ((secsOf 0 (agR l n)).getD i0 sec0).h
       have hs0 : ((secsOf 0 (agR l n)).map sc)[i0]? = some (sc ((secsOf 0 (agR l n)).getD i0 sec0)) := by rw [List.getElem?_map, List.getElem?_eq_getElem (by rw [secsOf_len]; exact hi0)]; simp [List.getD, show i0 < (secsOf 0 (agR l n)).length by rw [secsOf_len]; exact hi0]
       refine zxm ?_; refine zxm ?_; refine gp (r_val (v' := .pointer (some ⟨ga, oa + i0 * 64, none⟩)) (zia (m := (tot (agR l n)))) (by simp)) ?_; refine gp (r_ldRow (i := i0) (css := (secsOf 0 (agR l n)).map sc) (cs := sc ((secsOf 0 (agR l n)).getD i0 sec0)) rfl Ty.row_54 Ty.sz_54 (by repeat (first | exact Pick.here | apply Pick.there)) map_sc_len hs0 hi0) ?_; refine zal fun b22 => ?_; refine zsA (new := sc (((secsOf 0 (agR l n)).getD i0 sec0))) (sc_length _) (sc_one _) ?_; refine zxs ?_; refine zxm ?_; refine gp zib ?_; refine gp (zl (v := B8 (((secsOf 0 (agR l n)).getD i0 sec0).l.getD i1 0)) (hv := by rw [Nat.zero_add]; exact sc_at' hi1)) ?_; refine zxm ?_; refine gp (r_int (j := ((((secsOf 0 (agR l n)).getD i0 sec0).l.getD i1 0 ^^^ by_).toNat : Int)) (r_bits (op := .xor) rfl rfl rfl) (b8_xor _ _)) ?_; refine gp zib ?_; refine gl_store1 (wt0 rfl) rfl (by exact rfl) rfl Ty.sz_5 (by repeat (first | exact Pick.here | apply Pick.there)) (by rw [sc_length]; omega) (flip_cells2 hi1) ?_; refine gnt (gc_seq (gsr (gl_lz (by repeat (first | exact Pick.here | apply Pick.there)) (fun d hz => ?_))))
       have hd0 := hz.ld
       have hdn := hd0.n
       obtain ⟨hwr, hcw⟩ := hd0.c.wr (i := 3 + i0) (v := (flipS ((secsOf 0 (agR l n)).getD i0 sec0) i1 by_)) (by omega); obtain ⟨d1, hd1⟩ : ∃ d1, d1 = d.write ((3 + i0 : Nat) : Int) (flipS ((secsOf 0 (agR l n)).getD i0 sec0) i1 by_) := ⟨_, rfl⟩; rw [← hd1] at hwr hcw; have hat1 : ∀ j, d1.at j = if j = 3 + i0 then (flipS ((secsOf 0 (agR l n)).getD i0 sec0) i1 by_) else d.at j := fun j => by rw [hd1, at_write]
       have hn1 : d1.n = d.n := by rw [hd1]; rfl
       refine zxm ?_; refine zxm ?_; refine gp (r_int (j := ((3 + i0 : Nat) : Int)) zad (by omega)) ?_; refine gp (zLa (cs := sc (flipS ((secsOf 0 (agR l n)).getD i0 sec0) i1 by_))) ?_; refine zc (fun _ => ?_) (c := fun w1 F1 F2 h1 h2 hd hst => write_ok' (i := ((3 + i0 : Nat) : Int)) (v := (flipS ((secsOf 0 (agR l n)).getD i0 sec0) i1 by_)) h1 hd0.c.ok (hE.mv hst.still))
       rw [hwr]; refine gp (r_bool (c := false) (r_nenil rfl (by kernel_rfl)) rfl) ?_; refine gnt (gc_condF rfl rfl ?_); refine gc_skip (gx_then (gsr (zxm ?_))); refine zxm ?_; refine gp (zLa (cs := sc (flipS ((secsOf 0 (agR l n)).getD i0 sec0) i1 by_))) ?_; refine gp (r_val (v' := .pointer (some ⟨ga, oa + i0 * 64, none⟩)) (zia (m := (tot (agR l n)))) (by simp)) ?_; refine gl_stRow (i := i0) (css := (secsOf 0 (agR l n)).map sc) (new := sc (flipS ((secsOf 0 (agR l n)).getD i0 sec0) i1 by_)) (wt0 rfl) rfl rfl rfl Ty.sz_54 (sc_length _) (sc_one _) map_sc_len (by rw [List.length_map, secsOf_len]; exact hi0) (by repeat (first | exact Pick.here | apply Pick.there)) ?_; rw [show (((secsOf 0 (agR l n)).map sc).set i0 (sc (flipS ((secsOf 0 (agR l n)).getD i0 sec0) i1 by_))).flatten = scs (spS (agR l n) i0 (flipS ((secsOf 0 (agR l n)).getD i0 sec0) i1 by_) 0) from by rw [spS, List.replicate_zero, List.append_nil, scs, List.map_set]]; refine gnt (gc_seq ?_); by_cases hop : ∃ rs e, lopen d1 3 [] = .ok (rs, e)
       ·obtain ⟨rs', e', hlo⟩ := hop; have hoe := openE_ok3 (by omega) hlo
        have hrok := lopen_rok _ _ _ _ _ (Nat.le_refl _) hlo (by simp)
        have hrn : rs'.length ≤ 200 := by have := hrok.2; simp at this; omega
        have hrb := rdB_ok hlo
        refine gc_region (zxm ?_); refine zc (fun p => ?_) (c := fun w1 F1 F2 h1 h2 hd hst => lopen_ok' (b := 3) h1 hcw.ok (hE.mv hst.still) (hK.mv hst.still) hcw.on)
        simp only [hoe, if_true]
        refine zxm ?_; refine gp zex ?_; refine gp zex ?_; refine zxa ?_; refine zxa ?_; refine zxs ?_; refine ze0 (fun b155 => ?_)
        refine zxm ?_; refine zapo (m := 0) (j := (tot (agR l n))) (a2 := some ⟨ga, oa, none⟩) (c2 := c) (news := scs (spS (agR l n) i0 (flipS ((secsOf 0 (agR l n)).getD i0 sec0) i1 by_) 0)) (fun a157 c157 => ?_) (h1 := scs_one _)
        rw [Nat.zero_add, List.nil_append]; refine zxa ?_; refine gnt (gc_seq (gc_block (gc_loop (α := Nat × Option Addr × Nat) (fun y => [pureR ((tot (agR l n)) + y.1 ≤ 197), rowR 54 64 y.2.1 ((tot (agR l n)) + y.1) y.2.2 (scs (spS (agR l n) i0 (flipS ((secsOf 0 (agR l n)).getD i0 sec0) i1 by_) y.1)), LedR p g ⟨3, rs', e'⟩, DiskR g d1]) (fun y => [(24, .slice y.2.1 ((tot (agR l n)) + y.1) y.2.2)]) [158, 159, 160, 161, 162, 163, 164] (fun y => 197 - ((tot (agR l n)) + y.1)) (0, a157, c157) ?_ ?_ ?_)))
        ·refine env_start (by kernel_rfl)
        ·exact zlp (show (tot (agR l n)) + 0 ≤ 197 by omega)
        ·intro y u; obtain ⟨j, a, c⟩ := y; refine gc_pureR (fun hj => ?_)
         replace hj : (tot (agR l n)) + j ≤ 197 := hj
         refine gc_seq (gsr (zxm ?_)); refine gp zln ?_; refine gp zlt ?_; refine gnt (gif rfl (fun hc160 => ?_) (fun hc160 => ?_))
         ·refine gc_skip (gx_then (gc_block (gc_region (zxm ?_)))); refine gp (zba (cs := sc sec0) (by exact rfl)) ?_; refine zeN fun b163 => ?_; refine zapo (m := (tot (agR l n)) + j) (a2 := some ⟨b163, 0, none⟩) (c2 := 1) (news := sc sec0) (fun a164 c164 => ?_) (h1 := sc_one _)
          rw [Nat.add_assoc]; refine zxa ?_; refine gl_nil (gx_block_normal (zrd ((j + 1, a164, c164)) ?_ ?_))
          ·show 197 - ((tot (agR l n)) + (j + 1)) < 197 - ((tot (agR l n)) + j)
           omega
          ·rw [← spS_succ]; exact zlp (show (tot (agR l n)) + (j + 1) ≤ 197 by omega)
         ·try simp only at hc160
          have hj197 : (tot (agR l n)) + j = 197 := by omega
          refine gc_exit ?_; refine gx_then_exit ?_; refine gx_round_exit ?_; refine gx_block_hit ?_; refine gx_then (gsr (zxm ?_)); refine zc ?_ (c := fun w1 F1 F2 h1 h2 hd hst => read18_ok (d := d1) (bs := 3) (n := (tot (agR l n)) + j) (ss := spS (agR l n) i0 (flipS ((secsOf 0 (agR l n)).getD i0 sec0) i1 by_) j) h1 (rd_row (xs := scs (spS (agR l n) i0 (flipS ((secsOf 0 (agR l n)).getD i0 sec0) i1 by_) j)) h2 hd (by repeat (first | exact Pick.here | apply Pick.there))) (by omega) (by omega) (by omega) (fun i hi => spS_at hz hi0 hat1 hi))
          rintro ⟨a5, c5, css⟩
          rw [hrb.1, hrb.2]; refine gl_pureR (fun h58 => ?_)
          replace h58 : ∀ c ∈ css, c.length = 58 := h58
          refine zxm ?_; refine gp zex ?_; refine gp zex ?_; refine zxa ?_; refine zxa ?_; refine gnt (gc_seq (gsr (zxm ?_))); refine gp znt ?_; refine gnt (gc_condF rfl rfl ?_); refine gc_skip (gx_then (gc_seq (gsr (zxm ?_)))); refine gp (r_bool (c := false) (r_nenil rfl (by kernel_rfl)) rfl) ?_; refine zxm ?_; refine gq zmv ?_; refine zc (fun _ => ?_) (c := fun w1 F1 F2 h1 h2 hd hst => lenL_ok h1)
          refine gq zmv ?_; refine gq zln ?_; refine gq (r_bool (c := false) zni (by simp)) ?_; refine gp zpk ?_; refine gnt (gc_condF rfl rfl ?_); refine gc_skip (gx_then (gc_seq (gsr (zxm ?_)))); refine gp zln ?_; refine zxm ?_; refine gnt (gc_block (gc_loop (α := Nat) (fun k => [pureR (k ≤ rs'.length), LedR p g ⟨3, rs', e'⟩, rowR 47 58 a5 rs'.length c5 css.flatten, ElR RdRec18 css rs']) (fun k => [(190, .int .i64 (k : Int))]) [6, 27, 28, 29, 30, 31, 191, 192, 193, 194, 195, 196, 197, 198, 199, 200, 201, 202, 203, 204, 205, 206, 207, 208, 209, 210, 211, 212] (fun k => rs'.length - k) 0 ?_ ?_ ?_))
          ·refine env_start (by kernel_rfl)
          ·exact zlp (Nat.zero_le _)
          ·intro k u; refine gc_pureR (fun hk => ?_)
           replace hk : k ≤ rs'.length := hk
           refine gsr (gp zlt ?_); refine gnt (gc_seq (gif rfl (fun hc191 => ?_) (fun hc191 => ?_)))
           ·try simp only at hc191
            have hk' : k < rs'.length := by omega
            obtain ⟨r, hr⟩ : ∃ r, rs'[k]? = some r := ⟨_, List.getElem?_eq_getElem hk'⟩; have hrk := hrok.1 r (List.mem_of_getElem? hr)
            refine gc_fact (fun w' hw => St.el (rd := RdRec18) hw (by repeat (first | exact Pick.here | apply Pick.there))) (fun hel => ?_)
            obtain ⟨hlen, hel⟩ := hel; have hci : css[k]? = some (css[k]'(by omega)) := List.getElem?_eq_getElem (by omega)
            generalize hcse : css[k]'(by omega) = ce at hci
            obtain ⟨wv, A, hrd⟩ := hel k ce r hci hr; unfold RdRec18 at hrd
            obtain ⟨xb, xc, rfl, hrb1, hrc1⟩ := hrd; have hlb := hrb1.len
            have hlc := hrc1.len
            have hob := hrb1.one
            have hoc := hrc1.one
            have ib := Len.of hlb
            have jb := One.of hob
            have ic := Len.of hlc
            have jc := One.of hoc
            refine gc_fact (fun w' hw => St.rowAt (hw.sel (M := [rowR 47 58 a5 rs'.length c5 css.flatten]) (by repeat (first | exact Sel.nil | (apply Sel.cons; · (repeat (first | exact Pick.here | apply Pick.there)))))) .here (by omega)) (fun hra => ?_)
            obtain ⟨_, g5, o5, ha⟩ := hra; subst ha; refine gc_skip (gx_then (gc_seq (gc_block (gsr (zxm ?_))))); refine gp (r_val (v' := .pointer (some ⟨g5, o5 + k * 58, none⟩)) zia (by simp)) ?_; refine gp (r_ldRow (i := k) rfl Ty.row_47 Ty.sz_47 (by repeat (first | exact Pick.here | apply Pick.there)) h58 hci hk') ?_; refine zal fun b28 => ?_; refine zxa ?_; refine zsA (new := xb ++ xc) (by rw [List.length_append]; omega) (all_app' hob hoc) ?_; refine zxs ?_; refine zxm ?_; refine zxm ?_; refine zc ?_ (c := fun w1 F1 F2 h1 h2 hd hst => get_some (l := ⟨3, rs', e'⟩) (i := k) h1 (hE.mv hst.still) hr hrk)
            rintro ⟨yb, yc⟩
            refine gl_pureR (fun hyy => ?_)
            obtain ⟨⟨hlyb, hoyb⟩, hlyc, hoyc⟩ := hyy; replace hlyb : yb.length = 39 := hlyb
            replace hlyc : yc.length = 19 := hlyc
            have iyb := Len.of hlyb
            have jyb := One.of (show ∀ v ∈ yb, v.oneCell' = true from hoyb)
            have iyc := Len.of hlyc
            have jyc := One.of (show ∀ v ∈ yc, v.oneCell' = true from hoyc)
            refine zxm ?_; refine gp zex ?_; refine gp zex ?_; refine gp zex ?_; refine zal fun b29 => ?_; refine zal fun b30 => ?_; refine zsN ?_; refine zsN ?_; refine zxa ?_; refine zxs ?_; refine zxm ?_; refine gp (r_bool (c := false) (r_nenil rfl (by kernel_rfl)) rfl) ?_; refine zxm ?_; refine gq (zL (sg := xb ++ xc)) ?_; refine gq (zLa (cs := yb)) ?_; refine gq (zLa (cs := yc)) ?_; refine gq zbu ?_; refine zc (fun _ => ?_) (c := fun w1 F1 F2 h1 h2 hd hst => same18_ok (x := r) (y := r) h1 hlb hlyb hlc hlyc hob hoyb hoc hoyc (rec18_of (el_rd h2 hd (by repeat (first | exact Pick.here | apply Pick.there)) hci hr) hlb).1 (vl_rd h2 hd (by repeat (first | exact Pick.here | apply Pick.there))) (rec18_of (el_rd h2 hd (by repeat (first | exact Pick.here | apply Pick.there)) hci hr) hlb).2 (vl_rd h2 hd (by repeat (first | exact Pick.here | apply Pick.there))))
            refine gq (r_bool (c := false) znt (by simp)) ?_; refine gp zpk ?_; refine gnt (gc_condF rfl rfl ?_); refine gc_skip (gx_block_normal (gx_then (gc_region (gp zad ?_)))); refine zxm ?_; refine gl_nil (zrd (k + 1) ?_ ?_)
            ·show rs'.length - (k + 1) < rs'.length - k
             omega
            ·exact zlp (show k + 1 ≤ rs'.length by omega)
           ·refine gc_exit ?_; refine gx_then_exit ?_; refine gx_round_exit ?_; refine gx_block_hit ?_; refine gx_then (gc_seq ?_); by_cases hby : by_ = 0
            ·refine gc_region (zxm ?_); refine gp (r_bool (c := false) zni (by simp [hby])) ?_; refine zxm ?_; refine gq zmv ?_; refine gq zln ?_; refine gq zmv ?_; refine gq zln ?_; refine gq (r_bool (c := true) zei (by subst hby; have h9 := sp_zero hz hi0 hat1 hn1; rw [hlo] at h9; have h10 := (Prod.mk.inj (Except.ok.inj h9)).1; rw [h10]; simp [agR_len (l := l) (k := n) (by omega)])) ?_; refine gp zpk ?_; refine zxa ?_; refine gnt (gc_ret (gx_ret1 rfl (by conv => lhs; whnf) ?_)); exact ze ()
            ·refine gc_region (zxm ?_); refine gp (r_bool (c := true) zni (by rw [Bool.eq_iff_iff]; simp; intro h0; exact hby (UInt8.toNat_inj.1 (by simpa using h0)))) ?_; refine zxm ?_; refine gn ?_; refine gn ?_; refine gn ?_; refine gn ?_; refine gn ?_; refine gp zpk ?_; refine zxa ?_; refine gnt (gc_ret (gx_ret1 rfl (by conv => lhs; whnf) ?_)); exact ze ()
       ·have hlo : ∃ k, lopen d1 3 [] = .error k := by cases hc : lopen d1 3 [] with | error k => exact ⟨k, rfl⟩ | ok x => exact absurd ⟨x.1, x.2, hc⟩ hop
        obtain ⟨k7, hlo⟩ := hlo; have hoe := openE_bad3 (by omega) hlo
        have hrb := rdB_err hlo
        refine gc_region (zxm ?_); refine zc (fun p => ?_) (c := fun w1 F1 F2 h1 h2 hd hst => lopen_ok' (b := 3) h1 hcw.ok (hE.mv hst.still) (hK.mv hst.still) hcw.on)
        simp only [hoe, if_neg (show ¬ (7 : Nat) = 0 by decide)]
        refine zxm ?_; refine gp zex ?_; refine gp zex ?_; refine zxa ?_; refine zxa ?_; refine zxs ?_; refine ze0 (fun b155 => ?_)
        refine zxm ?_; refine zapo (m := 0) (j := (tot (agR l n))) (a2 := some ⟨ga, oa, none⟩) (c2 := c) (news := scs (spS (agR l n) i0 (flipS ((secsOf 0 (agR l n)).getD i0 sec0) i1 by_) 0)) (fun a157 c157 => ?_) (h1 := scs_one _)
        rw [Nat.zero_add, List.nil_append]; refine zxa ?_; refine gnt (gc_seq (gc_block (gc_loop (α := Nat × Option Addr × Nat) (fun y => [pureR ((tot (agR l n)) + y.1 ≤ 197), rowR 54 64 y.2.1 ((tot (agR l n)) + y.1) y.2.2 (scs (spS (agR l n) i0 (flipS ((secsOf 0 (agR l n)).getD i0 sec0) i1 by_) y.1)), DiskR g d1]) (fun y => [(24, .slice y.2.1 ((tot (agR l n)) + y.1) y.2.2)]) [158, 159, 160, 161, 162, 163, 164] (fun y => 197 - ((tot (agR l n)) + y.1)) (0, a157, c157) ?_ ?_ ?_)))
        ·refine env_start (by kernel_rfl)
        ·exact zlp (show (tot (agR l n)) + 0 ≤ 197 by omega)
        ·intro y u; obtain ⟨j, a, c⟩ := y; refine gc_pureR (fun hj => ?_)
         replace hj : (tot (agR l n)) + j ≤ 197 := hj
         refine gc_seq (gsr (zxm ?_)); refine gp zln ?_; refine gp zlt ?_; refine gnt (gif rfl (fun hc160 => ?_) (fun hc160 => ?_))
         ·refine gc_skip (gx_then (gc_block (gc_region (zxm ?_)))); refine gp (zba (cs := sc sec0) (by exact rfl)) ?_; refine zeN fun b163 => ?_; refine zapo (m := (tot (agR l n)) + j) (a2 := some ⟨b163, 0, none⟩) (c2 := 1) (news := sc sec0) (fun a164 c164 => ?_) (h1 := sc_one _)
          rw [Nat.add_assoc]; refine zxa ?_; refine gl_nil (gx_block_normal (zrd ((j + 1, a164, c164)) ?_ ?_))
          ·show 197 - ((tot (agR l n)) + (j + 1)) < 197 - ((tot (agR l n)) + j)
           omega
          ·rw [← spS_succ]; exact zlp (show (tot (agR l n)) + (j + 1) ≤ 197 by omega)
         ·try simp only at hc160
          have hj197 : (tot (agR l n)) + j = 197 := by omega
          refine gc_exit ?_; refine gx_then_exit ?_; refine gx_round_exit ?_; refine gx_block_hit ?_; refine gx_then (gsr (zxm ?_)); refine zc ?_ (c := fun w1 F1 F2 h1 h2 hd hst => read18_ok (d := d1) (bs := 3) (n := (tot (agR l n)) + j) (ss := spS (agR l n) i0 (flipS ((secsOf 0 (agR l n)).getD i0 sec0) i1 by_) j) h1 (rd_row (xs := scs (spS (agR l n) i0 (flipS ((secsOf 0 (agR l n)).getD i0 sec0) i1 by_) j)) h2 hd (by repeat (first | exact Pick.here | apply Pick.there))) (by omega) (by omega) (by omega) (fun i hi => spS_at hz hi0 hat1 hi))
          rintro ⟨a5, c5, css⟩
          rw [hrb.1, hrb.2]; refine gl_pureR (fun h58 => ?_)
          refine zxm ?_; refine gp zex ?_; refine gp zex ?_; refine zxa ?_; refine zxa ?_; refine gnt (gc_seq (gsr (zxm ?_))); refine gp znt ?_; refine gnt (gc_condT rfl rfl ?_); refine gsr (zxm ?_); refine gp (r_bool (c := true) (r_eqpn rfl Ty.un_30) rfl) ?_; refine zxm ?_; refine gq zmv ?_; refine zc (fun _ => ?_) (c := fun w1 F1 F2 h1 h2 hd hst => errNum_ok (n := 7) h1 (hN.mv hst.still) (by decide))
          refine gq (r_bool (c := true) zei (by simp)) ?_; refine gp zpk ?_; refine zxa ?_; refine gnt (gc_ret (gx_then_ret (gx_ret1 rfl (by conv => lhs; whnf) ?_))); exact ze ()
end
section
open Go.ChangeShapes Go.WideShapes Go.ChangeAt Go.RowKit
noncomputable def ledgerBytes_world (os : Os) : World :=
  let w0 := World.holding Tryz.prog os ⟨#[.cells #[.string ⟨#[113, 117, 111, 114, 97, 116, 101, 58, 32, 114, 97, 110, 103, 101]⟩] 286, .cells #[.string ⟨#[113, 117, 111, 114, 97, 116, 101, 58, 32, 115, 104, 111, 114, 116]⟩] 286, .cells #[.string ⟨#[113, 117, 111, 114, 97, 116, 101, 58, 32, 108, 111, 110, 103]⟩] 286, .cells #[.string ⟨#[113, 117, 111, 114, 97, 116, 101, 58, 32, 102, 111, 114, 109]⟩] 286, .cells #[.string ⟨#[113, 117, 111, 114, 97, 116, 101, 58, 32, 115, 112, 101, 110, 116]⟩] 286, .cells #[.string ⟨#[113, 117, 111, 114, 97, 116, 101, 58, 32, 112, 111, 119, 101, 114]⟩] 286, .cells #[.string ⟨#[113, 117, 111, 114, 97, 116, 101, 58, 32, 100, 105, 115, 107]⟩] 286, .cells #[.string ⟨#[113, 117, 111, 114, 97, 116, 101, 58, 32, 102, 117, 108, 108]⟩] 286, .cells #[.string ⟨#[113, 117, 111, 114, 97, 116, 101, 58, 32, 110, 111, 110, 101]⟩] 286, .cells #[.string ⟨#[113, 117, 111, 114, 97, 116, 101, 58, 32, 111, 108, 100]⟩] 286, .cells #[.string ⟨#[113, 117, 111, 114, 97, 116, 101, 58, 32, 115, 101, 116]⟩] 286, .cells #[.string ⟨#[113, 117, 111, 114, 97, 116, 101, 58, 32, 112, 114, 111, 111, 102]⟩] 286, .cells #[.string ⟨#[113, 117, 111, 114, 97, 116, 101, 58, 32, 108, 101, 97, 100, 101, 114]⟩] 286, .cells #[.string ⟨#[113, 117, 111, 114, 97, 116, 101, 58, 32, 114, 111, 117, 110, 100]⟩] 286, .cells #[.string ⟨#[113, 117, 111, 114, 97, 116, 101, 58, 32, 117, 110, 115, 97, 102, 101]⟩] 286, .cells #[.string ⟨#[113, 117, 111, 114, 97, 116, 101, 58, 32, 112, 97, 114, 101, 110, 116]⟩] 286, .cells #[.string ⟨#[113, 117, 111, 114, 97, 116, 101, 58, 32, 116, 119, 105, 99, 101]⟩] 286, .cells #[.string ⟨#[113, 117, 111, 114, 97, 116, 101, 58, 32, 101, 112, 111, 99, 104]⟩] 286], #[], []⟩
  { w0 with heap := ((((((((((((((((((w0.heap.modify 0 fun
      | .cells _ t fz => .cells #[.iface 261 (.pointer (some ⟨lowB + 0, 0, none⟩))] t fz
      | o => o).modify 4 fun
      | .cells _ t fz => .cells #[.iface 261 (.pointer (some ⟨lowB + 1, 0, none⟩))] t fz
      | o => o).modify 5 fun
      | .cells _ t fz => .cells #[.iface 261 (.pointer (some ⟨lowB + 2, 0, none⟩))] t fz
      | o => o).modify 1 fun
      | .cells _ t fz => .cells #[.iface 261 (.pointer (some ⟨lowB + 3, 0, none⟩))] t fz
      | o => o).modify 6 fun
      | .cells _ t fz => .cells #[.iface 261 (.pointer (some ⟨lowB + 4, 0, none⟩))] t fz
      | o => o).modify 3 fun
      | .cells _ t fz => .cells #[.iface 261 (.pointer (some ⟨lowB + 5, 0, none⟩))] t fz
      | o => o).modify 7 fun
      | .cells _ t fz => .cells #[.iface 261 (.pointer (some ⟨lowB + 6, 0, none⟩))] t fz
      | o => o).modify 2 fun
      | .cells _ t fz => .cells #[.iface 261 (.pointer (some ⟨lowB + 7, 0, none⟩))] t fz
      | o => o).modify 8 fun
      | .cells _ t fz => .cells #[.iface 261 (.pointer (some ⟨lowB + 8, 0, none⟩))] t fz
      | o => o).modify 9 fun
      | .cells _ t fz => .cells #[.iface 261 (.pointer (some ⟨lowB + 9, 0, none⟩))] t fz
      | o => o).modify 10 fun
      | .cells _ t fz => .cells #[.iface 261 (.pointer (some ⟨lowB + 10, 0, none⟩))] t fz
      | o => o).modify 11 fun
      | .cells _ t fz => .cells #[.iface 261 (.pointer (some ⟨lowB + 11, 0, none⟩))] t fz
      | o => o).modify 12 fun
      | .cells _ t fz => .cells #[.iface 261 (.pointer (some ⟨lowB + 12, 0, none⟩))] t fz
      | o => o).modify 13 fun
      | .cells _ t fz => .cells #[.iface 261 (.pointer (some ⟨lowB + 13, 0, none⟩))] t fz
      | o => o).modify 14 fun
      | .cells _ t fz => .cells #[.iface 261 (.pointer (some ⟨lowB + 14, 0, none⟩))] t fz
      | o => o).modify 15 fun
      | .cells _ t fz => .cells #[.iface 261 (.pointer (some ⟨lowB + 15, 0, none⟩))] t fz
      | o => o).modify 16 fun
      | .cells _ t fz => .cells #[.iface 261 (.pointer (some ⟨lowB + 16, 0, none⟩))] t fz
      | o => o).modify 17 fun
      | .cells _ t fz => .cells #[.iface 261 (.pointer (some ⟨lowB + 17, 0, none⟩))] t fz
      | o => o).modify 18 fun
      | .cells _ t fz => .cells (kc.map W32).toArray t fz
      | o => o }
def ledgerBytes_args : Array Value := #[.slice none 0 0, .agg #[.int .i64 0, .int .i64 0], .int .u8 0]
theorem ledgerBytes_laid (os : Os) (args : Array Value) : laidMet Tryz.prog Rows.ledgerBytesRow.laid ((ledgerBytes_world os).forCall (fun _ _ => 0) ⟨#[], args, []⟩).memory :=
  laidMet_of_run' 8 (by kernel_rfl) (by kernel_rfl)
theorem ledgerBytes_reads (os : Os) {H : Type} (enc : TypeId × Value → H) : ∃ places, DataW.whole enc Tryz.prog ((ledgerBytes_world os).forCall (fun _ _ => 0) ⟨#[], ledgerBytes_args, []⟩).memory Tryz.f3.params.toList Rows.ledgerBytesSpec.vars false ledgerBytes_args.toList 8 = some ([.nil, pairD, .lit (.int .u8 0)], [], places) :=
  ⟨[], by kernel_rfl⟩
set_option maxRecDepth 20000 in
theorem ledgerBytes_contract (H : Type) (enc : TypeId × Value → H) (W : World) (base : Nat) (args : Array Value) (ds gs : List (DataW H)) (before : List MemPlace)
    (hval : ∀ (j : Nat) t v, Tryz.f3.params[j]? = some t → args[j]? = some v → Value.okWide Tryz.prog W .any base t v)
    (hW : DataW.Whole enc Tryz.prog Tryz.f3.params.toList Rows.ledgerBytesSpec.vars false W args.toList ds gs before) (hL : laidMetH Tryz.prog Rows.ledgerBytesRow.laid W) :
    Calls Tryz.prog 3 args W fun e W' => ∃ v, e = .returned v ∧ Rows.ledgerBytesSpec.post enc Tryz.prog Tryz.f3 false true false false W args v W' := by
  have hW' := hW
  have hlt : ∀ p ∈ before, p.block < W.heap.size := fun p hp => hW.lt p hp
  obtain ⟨p, q, hA0, hV, rfl, hfz, hnd⟩ := hW
  have hA : DataW.TrodAll enc Tryz.prog W 0 (fun _ => true) true Tryz.f3.params.toList args.toList ds p := hA0
  rw [Tryz.params3] at hA hval
  obtain ⟨v0, vs0, d0, ds0, p0, q0, hargs, rfl, rfl, h0, r0⟩ := trodAll_cons hA
  obtain ⟨v1, vs1, d1, ds1, p1, q1, rfl, rfl, rfl, h1, r1⟩ := trodAll_cons r0
  obtain ⟨v2, vs2, d2, ds2, p2, q2, rfl, rfl, rfl, h2, r2⟩ := trodAll_cons r1
  obtain ⟨rfl, rfl, rfl⟩ := trodAll_nil r2
  obtain rfl : args = #[v0, v1, v2] := by cases args; simp_all
  obtain ⟨rfl, rfl⟩ := trodVars_none hV
  obtain ⟨a0, m0, c0, rfl⟩ := okWide_slice (run_sliceT Ty.sl_22) (hval 0 22 v0 rfl rfl)
  obtain ⟨x0, hx0⟩ : ∃ x, RdOps18 W TT [.slice a0 m0 c0] x := by obtain ⟨fuel, hf⟩ := h0; exact o_ops18 fuel _ _ hf
  obtain ⟨x1, hx1⟩ : ∃ x, RdPair v1.cells.toList x := by obtain ⟨fuel, hf⟩ := h1; exact o_pair fuel _ _ hf
  have e1 := agg_of_len (n := 2) (by rw [show v1.cells.toList = _ from hx1]; rfl) (by decide)
  rw [show v1.cells.toList = [.int .i64 x1.1, .int .i64 x1.2] from hx1] at e1
  obtain ⟨n2, rfl, _, _, wf2⟩ := open_int Ty.un_5 (hval 2 5 v2 rfl rfl) h2
  obtain ⟨y2, hy2⟩ : ∃ y : UInt8, ((y.toNat : Nat) : Int) = n2 := ⟨UInt8.ofNat n2.toNat, by
    have hw := wf2
    simp only [Lit.wf, Bool.and_eq_true, decide_eq_true_eq] at hw
    have e1 : IntKind.u8.min = 0 := rfl
    have e2 : IntKind.u8.max = 255 := rfl
    rw [e1, e2] at hw
    rw [UInt8.toNat_ofNat']; omega⟩
  subst hy2
  have hL' : laidMet Tryz.prog Rows.ledgerBytesRow.laid W := hL
  obtain ⟨ea, hN⟩ := laid_nerr (r := [("quorate/hash.constants", Rows.laid_quorate_hash_constants)]) (show laidMet Tryz.prog (errNames.map errRow ++ [("quorate/hash.constants", Rows.laid_quorate_hash_constants)]) W from hL')
  have hK := laid_kr hL'.tail.tail.tail.tail.tail.tail.tail.tail.tail.tail.tail.tail.tail.tail.tail.tail.tail.tail
  have walk := ledgerBytes_ok (l := x0) (al := a0) (n := m0) (cl := c0) (p0 := x1.1) (p1 := x1.2) (by_ := y2) no_res hN hK (RdList.mv (ops18_list hx0) still_id fun _ _ h => h.mv still_id)
  rw [← e1] at walk
  refine Calls.mono (show Calls Tryz.prog 3 #[.slice a0 m0 c0, v1, .int .u8 (y2.toNat : Int)] W _ from walk) fun e W' ⟨_, he, hs⟩ => ?_
  subst he
  have bel := below_of hs
  have eF : Rows.ledgerBytesSpec.fn H ([d0, d1, d2] ++ []) = { results := [.lit (.bool true)], args := [d0, d1, d2] } := rfl
  have l0 : ∀ z ∈ p0, z.block < W.heap.size := fun z hz => hlt z (by simp [hz])
  have l1 : ∀ z ∈ p1, z.block < W.heap.size := fun z hz => hlt z (by simp [hz])
  have l2 : ∀ z ∈ p2, z.block < W.heap.size := fun z hz => hlt z (by simp [hz])
  refine ⟨_, rfl, _, _, _, [], p0 ++ (p1 ++ (p2 ++ ([]))), [], hW', ?_, ?_, ?_, bel.frame _, fun h => by cases h⟩
  · rw [eF]; exact trodAll_cons_mk (shut_bool Tryz.underlying4 _) trodAll_mk0
  · rw [eF, Tryz.params3]
    exact trodAll_cons_mk (Below.trod laidOut (by kernel_rfl) (of_decide_eq_true (by kernel_rfl)) h0 bel l0) (trodAll_cons_mk (Below.trod laidOut (by kernel_rfl) (of_decide_eq_true (by kernel_rfl)) h1 bel l1) (trodAll_cons_mk (Below.trod laidOut (by kernel_rfl) (of_decide_eq_true (by kernel_rfl)) h2 bel l2) (trodAll_mk0)))
  · rw [eF]; rfl
set_option maxRecDepth 100000 in
theorem ledgerBytes_lifted (os : Os) (started : os.Started) (H : Type) (enc : TypeId × Value → H) (F : Stop.Interp) :
    ReturnsInHanded {} Tryz.checked os 3 .any ((OpenSpec.ofChange Rows.ledgerBytesSpec).preRow enc Tryz.prog Tryz.f3 Rows.ledgerBytesRow.domain false Rows.ledgerBytesRow.laid) (((OpenSpec.ofChange Rows.ledgerBytesSpec).at F).post enc Tryz.prog Tryz.f3 false true false false) := by
  obtain ⟨places, hx⟩ := ledgerBytes_reads os enc
  refine returnsInHanded_of_row (C := Tryz.checked) (s := OpenSpec.ofChange Rows.ledgerBytesSpec) own started (by kernel_rfl) Tryz.func3
    (witness_row_atRef (enc := enc) (C := Tryz.checked) false (ledgerBytes_world os) ledgerBytes_args rfl (by kernel_rfl) (by kernel_rfl) (by kernel_rfl)
      (OpenSpec.preRow_of_cond 8 hx (by kernel_rfl) (fun k hk => by cases hk) (by kernel_rfl) (ledgerBytes_laid os _))) ?_
  intro W base args ds gs before hval hW _ _ _ hL _ _
  exact ledgerBytes_contract H enc W base args ds gs before hval hW hL
theorem and_tt {a b : Bool} (h : a = true) (k : b = true) : (a && b) = true := by rw [h, k]; rfl
theorem ledgerBytes_k0 : (Rows.ledgerBytesRow.wf (OpenSpec.ofChange (OpenSpec.ofChange Rows.ledgerBytesSpec).bare)) = true := by kernel_rfl
theorem ledgerBytes_k1 : (laidOutB Tryz.pinned.checked.prog) = true := by kernel_rfl
theorem ledgerBytes_k2 : (mapsRowed Tryz.pinned.checked.prog) = true := by kernel_rfl
theorem ledgerBytes_k3 : (Tryz.f3.params.all (Tryz.pinned.checked.prog.readableRec ·)) = true := by kernel_rfl
theorem ledgerBytes_k4 : (namedTie Tryz.pinned.checked.prog Rows.ledgerBytesRow.named (OpenSpec.ofChange Rows.ledgerBytesSpec).bare.vars) = true := by kernel_rfl
theorem ledgerBytes_k5 : ((Rows.ledgerBytesRow.stops == [])) = true := by kernel_rfl
theorem ledgerBytes_k6 : ((Tryz.pinned.checked.prog.stops == [])) = true := by kernel_rfl
theorem ledgerBytes_k7 : ((Rows.ledgerBytesRow.knobs == [])) = true := by kernel_rfl
theorem ledgerBytes_k8 : ((Tryz.pinned.checked.prog.stopKnobs == [])) = true := by kernel_rfl
theorem ledgerBytes_k9 : ((Rows.ledgerBytesRow.inPlace == Tryz.pinned.checked.prog.inPlace 3)) = true := by kernel_rfl
theorem ledgerBytes_k10 : ((Rows.ledgerBytesRow.unfollowed == Tryz.pinned.checked.prog.unfollowed 3)) = true := by kernel_rfl
theorem ledgerBytes_k11 : ((Rows.ledgerBytesRow.recurses == Tryz.pinned.checked.prog.recurses 3)) = true := by kernel_rfl
theorem ledgerBytes_k12 : ((Rows.ledgerBytesRow.named == Tryz.pinned.checked.prog.varsNamed 3)) = true := by kernel_rfl
theorem ledgerBytes_k13 : ((Rows.ledgerBytesRow.maps == (Tryz.f3.params.toList ++ (OpenSpec.ofChange Rows.ledgerBytesSpec).bare.plain.varTypes Tryz.pinned.checked.prog).any (Tryz.pinned.checked.prog.mapsRec ·))) = true := by kernel_rfl
theorem ledgerBytes_k14 : ((Rows.ledgerBytesRow.ifaces == (Tryz.f3.params.toList ++ (OpenSpec.ofChange Rows.ledgerBytesSpec).bare.plain.varTypes Tryz.pinned.checked.prog).any (Tryz.pinned.checked.prog.ifacesRec ·))) = true := by kernel_rfl
theorem ledgerBytes_k15 : ((Rows.ledgerBytesRow.mapsOut == Tryz.pinned.checked.prog.mapsAmong Tryz.f3.resultTypes.toList)) = true := by kernel_rfl
theorem ledgerBytes_k16 : ((Rows.ledgerBytesRow.loops == (Tryz.f3.params.toList ++ (OpenSpec.ofChange Rows.ledgerBytesSpec).bare.plain.varTypes Tryz.pinned.checked.prog).any (Tryz.pinned.checked.prog.loopsFrom ·))) = true := by kernel_rfl
theorem ledgerBytes_k17 : ((Rows.ledgerBytesRow.wideKeys == (Tryz.f3.params.toList ++ (OpenSpec.ofChange Rows.ledgerBytesSpec).bare.plain.varTypes Tryz.pinned.checked.prog ++ Tryz.f3.resultTypes.toList).any (Tryz.pinned.checked.prog.wideKeysFrom ·))) = true := by kernel_rfl
theorem ledgerBytes_k18 : ((OpenSpec.ofChange Rows.ledgerBytesSpec).bare.vars.all (Tryz.pinned.checked.prog.varReadable ·)) = true := by kernel_rfl
theorem ledgerBytes_k19 : (Tryz.f3.resultTypes.all (fun t => Tryz.pinned.checked.prog.readableRec t && decide (t < Tryz.pinned.checked.prog.types.size))) = true := by kernel_rfl
theorem ledgerBytes_k20 : ((Rows.ledgerBytesRow.ifacesOut == Tryz.f3.resultTypes.toList.any (Tryz.pinned.checked.prog.ifacesRec ·))) = true := by kernel_rfl
theorem ledgerBytes_k21 : ((Rows.ledgerBytesRow.loopsOut == Tryz.f3.resultTypes.toList.any (Tryz.pinned.checked.prog.loopsFrom ·))) = true := by kernel_rfl
theorem ledgerBytes_k22 : ((Rows.ledgerBytesRow.plainKeys == Tryz.pinned.checked.prog.plainKeys)) = true := by kernel_rfl
theorem ledgerBytes_k23 : (Rows.ledgerBytesRow.shortTexts.isNone) = true := by kernel_rfl
theorem ledgerBytes_k24 : (Tryz.pinned.checked.prog.stopsHeard) = true := by kernel_rfl
theorem ledgerBytes_k25 : (Tryz.pinned.checked.prog.mayEnter) = true := by kernel_rfl
theorem ledgerBytes_k26 : ((Rows.ledgerBytesRow.lifted == Tryz.pinned.checked.prog.liftsFinal)) = true := by kernel_rfl
theorem ledgerBytes_k27 : ((Tryz.pinned.checked.prog.make == some Rows.ledgerBytesRow.make)) = true := by kernel_rfl
theorem ledgerBytes_k28 : ((Rows.ledgerBytesRow.kinds == (if Rows.ledgerBytesRow.domain.isEmpty then [] else Tryz.f3.params.toList.map fun t => match Tryz.pinned.checked.prog.underlying t with | some (.int k) => some k | _ => none))) = true := by kernel_rfl
theorem ledgerBytes_k29 : ((Rows.ledgerBytesRow.pinned == Rows.ledgerBytesRow.pinnedBy)) = true := by kernel_rfl
theorem ledgerBytes_k30 : ((Rows.ledgerBytesRow.veiled == (Tryz.f3.params.toList ++ (OpenSpec.ofChange Rows.ledgerBytesSpec).bare.plain.varTypes Tryz.pinned.checked.prog ++ Tryz.f3.resultTypes.toList).any (Tryz.pinned.checked.prog.veiledRec ·))) = true := by kernel_rfl
theorem ledgerBytes_k31 : (Rows.ledgerBytesRow.veiledFits Tryz.pinned.checked.prog Tryz.f3.params.toList (Tryz.f3.params.toList ++ (OpenSpec.ofChange Rows.ledgerBytesSpec).bare.plain.varTypes Tryz.pinned.checked.prog ++ Tryz.f3.resultTypes.toList)) = true := by kernel_rfl
set_option maxRecDepth 100000 in
theorem ledgerBytes_facts : joinedFacts Tryz.pinned.checked.prog 3 Tryz.f3 (OpenSpec.ofChange Rows.ledgerBytesSpec).bare Rows.ledgerBytesRow = true := (and_tt (and_tt (and_tt (and_tt (and_tt (and_tt (and_tt (and_tt (and_tt (and_tt (and_tt (and_tt (and_tt (and_tt (and_tt (and_tt (and_tt (and_tt (and_tt (and_tt (and_tt (and_tt (and_tt (and_tt (and_tt (and_tt (and_tt (and_tt (and_tt (and_tt (and_tt ledgerBytes_k0 ledgerBytes_k1) ledgerBytes_k2) ledgerBytes_k3) ledgerBytes_k4) ledgerBytes_k5) ledgerBytes_k6) ledgerBytes_k7) ledgerBytes_k8) ledgerBytes_k9) ledgerBytes_k10) ledgerBytes_k11) ledgerBytes_k12) ledgerBytes_k13) ledgerBytes_k14) ledgerBytes_k15) ledgerBytes_k16) ledgerBytes_k17) ledgerBytes_k18) ledgerBytes_k19) ledgerBytes_k20) ledgerBytes_k21) ledgerBytes_k22) ledgerBytes_k23) ledgerBytes_k24) ledgerBytes_k25) ledgerBytes_k26) ledgerBytes_k27) ledgerBytes_k28) ledgerBytes_k29) ledgerBytes_k30) ledgerBytes_k31)
theorem ledgerBytes_said : Rows.LedgerBytesSaid :=
  OpenClaim.holds_of_cond 3 Tryz.f3 rfl rfl rfl rfl rfl rfl rfl ⟨rfl, rfl, rfl, rfl, rfl⟩ rfl rfl rfl rfl rfl (by kernel_rfl) Tryz.func3 ledgerBytes_facts
    (of_decide_eq_true (by kernel_rfl)) (by unfold Func.isWrapper; first | (rw [if_pos (by decide +kernel)]; kernel_rfl) | (rw [if_neg (by decide +kernel)]; exact ⟨rfl, rfl⟩))
    (fun os started H enc _ F => by rw [OpenClaim.pre_eq_preRow]; exact ledgerBytes_lifted os started H enc F)
theorem ledgerBytes_plain (f : FuncId) (fn : Func) (hf : Tryz.pinned.checked.prog.funcNamed "quorate/quoratelaw18.LedgerBytes" = some f) (hfn : Tryz.pinned.checked.prog.funcs[f]? = some fn) :
    true = Tryz.pinned.checked.prog.looks [] ∧ ∀ (j : Nat) t, fn.params[j]? = some t → Tryz.pinned.checked.prog.wantsStandIn t = false := by
  obtain rfl : f = 3 := Option.some.inj ((show Tryz.prog.funcNamed "quorate/quoratelaw18.LedgerBytes" = some 3 by kernel_rfl).symm.trans hf) |>.symm
  obtain rfl : fn = Tryz.f3 := (Option.some.inj (Tryz.func3.symm.trans hfn)).symm
  refine ⟨by kernel_rfl, fun j t ht => ?_⟩
  rw [Tryz.params3] at ht
  have hm := Array.mem_of_getElem? ht
  have h : t = 22 ∨ t = 23 ∨ t = 5 := by simpa using hm
  rcases h with rfl | rfl | rfl
  · exact (show Tryz.prog.wantsStandIn 22 = false by kernel_rfl)
  · exact (show Tryz.prog.wantsStandIn 23 = false by kernel_rfl)
  · exact (show Tryz.prog.wantsStandIn 5 = false by kernel_rfl)
theorem ledgerBytes_holds : Rows.LedgerBytesCardSaid :=
  Claim7.holds_tied_plain_at .later [] _ _ _ _ ledgerBytes_said (fun _ h => by cases h) (by kernel_rfl) (fun _ h => by cases h) ledgerBytes_row_tie rfl ⟨rfl, rfl⟩ (by kernel_rfl) rfl ledgerBytes_plain (by kernel_rfl)
#print axioms ledgerBytes_holds
end
end Go.Proofs.YtomdanlljfikaaaGreatDoor
