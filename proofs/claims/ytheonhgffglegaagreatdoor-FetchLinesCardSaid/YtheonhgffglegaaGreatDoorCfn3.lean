/- Part 3. What is proved: see the last part: for every input the law returns true, and the input reads as it did. -/
import Derived.Test.YtheonhgffglegaaGreatDoorCfn2
import Derived.MapKept
import Derived.Laws.IdiomRangeMap
import Derived.RangeFuncLeaves
import Derived.RangeFuncRecord
import Derived.RangeFuncSeq
namespace Go.Proofs.YtheonhgffglegaaGreatDoor
open Go
set_option linter.unusedVariables false
set_option linter.unusedSimpArgs false
set_option linter.unusedSectionVars false
set_option maxHeartbeats 400000
section
attribute [local irreducible] Gl Gc Gx Gs Runs Wt
theorem rnum_ok {w : World} {F : Nat → Prop} {TE : Nat} {ea : Nat → Addr} {g : Nat} {σ : RSt} (h : stars [RdrR TE ea g σ] w F) {es : List Nat} [Has es 1] [Has es 2] (hE : GErr es w (fun k => ¬ F k) TE ea) {wd : Nat} (h1 : 1 ≤ wd) (h7 : wd ≤ 7) :
    Calls Tryz.prog 135 #[.pointer (some ⟨g, 0, none⟩), .int .i64 (wd : Int)] w (Post w F (fun x : Nat => .int .i64 (x : Int)) (fun x => [pureR (Ag (pNum wd) σ (x : Int) ∧ x < 256 ^ wd), RdrR TE ea g (rstep (pNum wd) σ)])) := by
 refine g_enter (env := [(0, .pointer (some ⟨g, 0, none⟩)), (1, .int .i64 (wd : Int))]) Tryz.func135 rfl h Tryz.ntmps135 rfl rfl ?_; refine gsr (zxa ?_); refine gnt (gc_seq (gsr (zxm ?_))); refine gp (r_bool zlt (decide_eq_false (by omega))) ?_; refine zxm ?_; refine gq zmv ?_; refine gq (r_bool zgt (decide_eq_false (by omega))) ?_; refine gp zpk ?_; refine gnt (gc_condF rfl rfl ?_); refine gc_skip (gx_then (gc_seq (gc_join (α := Unit) (fun z => [RdrR TE ea g σ]) (fun z => [(45, .bool false)]) [19, 20, 21, 22, 23, 24, 25, 26, 27, 28, 29, 30, 31, 32, 33, 34, 35, 36, 37, 38, 39, 40, 41, 42, 43, 44] ?_ ?_)))
 ·by_cases he : errOf σ = 0
  ·refine gc_region (zxm ?_); refine gp znc ?_; refine gp zfa ?_; refine gp zfa ?_; refine gp r_lde ?_; refine gp (r_bool (c := true) (r_eqnil rfl (by kernel_rfl)) (decide_eq_true he)) ?_; refine zxm ?_; refine gq zmv ?_; refine gq (r_bool zei (decide_eq_false (by omega))) ?_; refine gp zpk ?_; refine zxm ?_; refine gn ?_; refine gn ?_; refine gn ?_; refine gn ?_; refine gn ?_; refine gn ?_; refine gp zpk ?_; refine zxm ?_; refine gn ?_; refine gn ?_; refine gn ?_; refine gn ?_; refine gn ?_; refine gn ?_; refine gn ?_; refine gp zpk ?_; refine gl_nil (zjn (()) ?_)
   ·exact zsel
  ·refine gc_region (zxm ?_); refine gp znc ?_; refine gp zfa ?_; refine gp zfa ?_; refine gp r_lde ?_; refine gp (r_bool (c := false) (r_eqnil rfl (by kernel_rfl)) (decide_eq_false he)) ?_; refine zxm ?_; refine gn ?_; refine gn ?_; refine gp zpk ?_; refine zxm ?_; refine gn ?_; refine gn ?_; refine gn ?_; refine gn ?_; refine gn ?_; refine gn ?_; refine gp zpk ?_; refine zxm ?_; refine gn ?_; refine gn ?_; refine gn ?_; refine gn ?_; refine gn ?_; refine gn ?_; refine gn ?_; refine gp zpk ?_; refine gl_nil (zjn (()) ?_)
   ·exact zsel
 ·intro z u; refine gc_condF rfl rfl ?_; refine gc_skip (gx_then (gsr (zxa ?_))); refine gnt (gc_seq (gsr (zxm ?_))); refine zxm ?_; refine zc ?_ (c := fun w1 F1 F2 h1 h2 hd hst => take_ok' (n := wd) h1 (hE.mv hst.still))
  rintro ⟨a53, c53, l⟩
  refine gl_pureR (fun h53 => ?_)
  obtain ⟨hag, hlc, hlw⟩ := h53; replace hag : Ag (pTake wd) σ l := hag
  replace hlw : l.length ≤ wd := hlw
  refine gp zln ?_; refine zxm ?_; refine gnt (gc_block (gc_loop (α := Nat) (fun k => [pureR (k ≤ l.length), RdrB TE ea g (rstep (pTake wd) σ) a53 l]) (fun k => [(55, .int .i64 (k : Int)), (5, .int .i64 ((valN (l.take k) : Nat) : Int))]) [7, 56, 57, 58, 59, 60, 61, 62, 63, 64] (fun k => l.length - k) 0 ?_ ?_ ?_))
  ·refine env_start (by kernel_rfl)
  ·exact zlp (by first | exact Nat.zero_le _ | omega)
  ·intro k u; refine gc_pureR (fun hk => ?_)
   replace hk : k ≤ l.length := hk
   refine gsr (gp zlt ?_); refine gnt (gc_seq (gif rfl (fun hc56 => ?_) (fun hc56 => ?_)))
   ·try simp only at hc56
    have hk' : k < l.length := by omega
    refine gc_fact (p := ∃ g o, a53 = some ⟨g, o, none⟩) (fun w hw => (by obtain ⟨g, o, e, _⟩ := (hw.rdB (l := l) (a2 := a53) (by repeat (first | exact Pick.here | apply Pick.there))).2.2 (by omega); exact ⟨g, o, e⟩)) (fun ha => ?_)
    obtain ⟨g6, o6, rfl⟩ := ha; have hv := valN_lt (l.take k)
    have hp : 256 ^ (l.take k).length ≤ 256 ^ 6 := Nat.pow_le_pow_right (by decide) (by rw [List.length_take]; omega)
    have h56 : (256 : Nat) ^ 6 = 281474976710656 := by decide
    have hbl := (l.getD k 0).toNat_lt
    refine gc_skip (gx_then (gc_seq (gc_block (gsr (gp zia ?_))))); refine gp (r_ldb (hi := by omega) (hk := hk')) ?_; refine zxa ?_; refine gnt (gc_region (zxm ?_)); refine gp (r_int zhl (show IntKind.i64.wrap (((valN (l.take k) : Nat) : Int) * 2 ^ (min (8 : Int).toNat IntKind.i64.bits)) = ((valN (l.take k) * 256 : Nat) : Int) by rw [show (2 : Int) ^ (min (8 : Int).toNat IntKind.i64.bits) = 256 from rfl, wrap_i64 (by omega) (by omega)]; omega)) ?_; refine zxm ?_; refine gp (r_int zci (wrap_i64 (by omega) (by omega))) ?_; refine gp (r_int (j := ((valN (l.take (k + 1)) : Nat) : Int)) zbt ((or_byte (by omega)).trans (by rw [take_snoc hk', valN_snoc]))) ?_; refine zxa ?_; refine gl_nil (gx_block_normal (gx_then (gc_region (gp zad ?_)))); refine zxm ?_; refine gl_nil (zrd (k + 1) ?_ ?_)
    ·show l.length - (k + 1) < l.length - k
     omega
    ·exact zlp (show k + 1 ≤ l.length by omega)
   ·try simp only at hc56
    have hk' : k = l.length := by omega
    subst hk'; have hv := valN_lt l
    have hp : 256 ^ l.length ≤ 256 ^ wd := Nat.pow_le_pow_right (by decide) hlw
    refine gc_exit ?_; refine gx_then_exit ?_; refine gx_round_exit ?_; refine gx_block_hit ?_; refine gx_then (gsr (zxm ?_)); refine zxa ?_; refine gnt (gc_ret (gx_ret1 rfl (by conv => lhs; whnf) ?_)); exact fun w' hw => ⟨valN l, congrArg (fun m : List UInt8 => Ending.returned (.int .i64 (valN m : Int))) List.take_length, St.pureI ⟨ag_num hag, Nat.lt_of_lt_of_le hv hp⟩ (by rw [rstep_num hag]; exact (hw.sel (M := [RdrB TE ea g _ _ l]) (by repeat (first | exact Sel.nil | (apply Sel.cons; · (repeat (first | exact Pick.here | apply Pick.there)))))).rrw)⟩
theorem rfixed_ok {w : World} {F : Nat → Prop} {TE : Nat} {ea : Nat → Addr} {g : Nat} {σ : RSt} (h : stars [RdrR TE ea g σ] w F) {es : List Nat} [Has es 1] [Has es 2] (hE : GErr es w (fun k => ¬ F k) TE ea) {n : Nat} (hn : n ≤ 65535) :
    Calls Tryz.prog 141 #[.pointer (some ⟨g, 0, none⟩), .int .i64 (n : Int)] w (Post w F (fun r : Option Addr × Nat × List UInt8 => .slice r.1 r.2.2.length r.2.1) (fun r => [pureR (Ag (pTake n) σ r.2.2 ∧ r.2.2.length ≤ n), rowR 5 1 r.1 r.2.2.length r.2.1 (r.2.2.map B8), RdrR TE ea g (rstep (pTake n) σ)])) := by
 refine g_enter (env := [(0, .pointer (some ⟨g, 0, none⟩)), (1, .int .i64 (n : Int))]) Tryz.func141 rfl h Tryz.ntmps141 rfl rfl ?_; refine gsr (zxa ?_); refine gnt (gc_seq (gsr (zxm ?_))); refine gp (r_bool zlt (decide_eq_false (by omega))) ?_; refine gnt (gc_condF rfl rfl ?_); refine gc_skip (gx_then (gsr (zxm ?_))); refine zxm ?_; refine zc ?_ (c := fun w1 F1 F2 h1 h2 hd hst => take_ok' (n := n) h1 (hE.mv hst.still))
 rintro ⟨a14, c14, l⟩
 refine gl_pureR (fun h14 => ?_)
 obtain ⟨hag, hlc, hlw⟩ := h14; replace hlw : l.length ≤ n := hlw
 refine zc ?_ (c := fun w1 F1 F2 h1 h2 hd hst => cloneBytes_ok (xs := l.map B8) h1 (rdB_row h2 hd (by repeat (first | exact Pick.here | apply Pick.there))) (one_B8 _) (by omega))
 rintro ⟨a15, c15⟩
 refine zxa ?_; refine gnt (gc_ret (gx_ret1 rfl (by conv => lhs; whnf) ?_)); exact fun w' hw => ⟨(a15, c15, l), rfl, St.pureI ⟨hag, hlw⟩ ((hw.sel (M := [RdrB TE ea g _ _ l, rowR 5 1 a15 _ c15 _]) (by repeat (first | exact Sel.nil | (apply Sel.cons; · (repeat (first | exact Pick.here | apply Pick.there)))))).rrw.z)⟩
theorem rbytes_ok {w : World} {F : Nat → Prop} {TE : Nat} {ea : Nat → Addr} {g : Nat} {σ : RSt} (h : stars [RdrR TE ea g σ] w F) {es : List Nat} [Has es 1] [Has es 2] (hE : GErr es w (fun k => ¬ F k) TE ea) {most : Nat} (hm : most ≤ 65535) :
    Calls Tryz.prog 131 #[.pointer (some ⟨g, 0, none⟩), .int .i64 (most : Int)] w (Post w F (fun r : Option Addr × Nat × List UInt8 => .slice r.1 r.2.2.length r.2.1) (fun r => [pureR (Ag (pBytes most) σ r.2.2 ∧ r.2.2.length ≤ 65535), rowR 5 1 r.1 r.2.2.length r.2.1 (r.2.2.map B8), RdrR TE ea g (rstep (pBytes most) σ)])) := by
 refine g_enter (env := [(0, .pointer (some ⟨g, 0, none⟩)), (1, .int .i64 (most : Int))]) Tryz.func131 rfl h Tryz.ntmps131 rfl rfl ?_; refine gsr (zxa ?_); refine zxs ?_; refine zxm ?_; refine zc (fun x => ?_) (c := fun w1 F1 F2 h1 h2 hd hst => rnum_ok (wd := 2) h1 (hE.mv hst.still) (by decide) (by decide))
 refine gl_pureR (fun hx => ?_)
 obtain ⟨hx, hxb⟩ := hx; have hx256 : x < 65536 := by simpa using hxb
 refine zxa ?_; refine gnt (gc_join (α := RSt) (fun σ2 => [pureR ((if errOf (rstep (pNum 2) σ) = 0 ∧ most < x then failE 1 (rstep (pNum 2) σ) else rstep (pNum 2) σ) = σ2), RdrR TE ea g σ2]) (fun σ2 => []) [8, 9, 10, 11, 12, 13, 14, 15, 16, 17, 18, 19, 20, 21, 22, 23] ?_ ?_)
 ·refine gc_join (α := Bool) (fun z => [pureR (z = (decide (errOf (rstep (pNum 2) σ) = 0) && decide (most < x))), RdrR TE ea g (rstep (pNum 2) σ)]) (fun z => [(18, .bool z)]) [8, 9, 10, 11, 12, 13, 14, 15, 16, 17] ?_ ?_
  ·by_cases he : errOf (rstep (pNum 2) σ) = 0
   ·refine gc_region (zxm ?_); refine gp znc ?_; refine gp zfa ?_; refine gp zfa ?_; refine gp r_lde ?_; refine gp (r_bool (c := true) (r_eqnil rfl (by kernel_rfl)) (decide_eq_true he)) ?_; refine zxm ?_; refine gq zmv ?_; refine gq zmv ?_; refine gq (r_bool (b := decide ((most : Int) < (x : Int))) zgt rfl) ?_; refine gp zpk ?_; refine gl_nil (zjn (decide ((most : Int) < (x : Int))) ?_)
    ·exact zlp (by rw [decide_eq_true he, Bool.true_and]; exact decide_eq_decide.2 (by omega))
   ·refine gc_region (zxm ?_); refine gp znc ?_; refine gp zfa ?_; refine gp zfa ?_; refine gp r_lde ?_; refine gp (r_bool (c := false) (r_eqnil rfl (by kernel_rfl)) (decide_eq_false he)) ?_; refine zxm ?_; refine gn ?_; refine gn ?_; refine gn ?_; refine gp zpk ?_; refine gl_nil (zjn (false) ?_)
    ·exact zlp (by rw [decide_eq_false he]; rfl)
  ·intro z u; refine gc_pureR (fun hz => ?_)
   subst hz; refine gif rfl (fun hc18 => ?_) (fun hc18 => ?_)
   ·try simp only at hc18
    have hb : errOf (rstep (pNum 2) σ) = 0 ∧ most < x := by omega
    refine gc_regionT 4 (by kernel_rfl) (by kernel_rfl) ?_; refine sp zmv ?_; refine sp znc ?_; refine sp zfa ?_; refine sp (r_ld1o rfl Ty.row_53 (hE.c 1 Has.h) (hE.n 1 Has.h)) ?_; refine gs_nil ?_; refine zc (fun _ => ?_) (c := fun w1 F1 F2 h1 h2 hd hst => failR_ok (by decide) h1)
    refine gl_nil (zjn (failE 1 (rstep (pNum 2) σ)) ?_)
    ·exact zlp (if_pos hb)
   ·try simp only at hc18
    have hb : ¬ (errOf (rstep (pNum 2) σ) = 0 ∧ most < x) := by omega
    refine gc_skip (zjn ((rstep (pNum 2) σ)) ?_)
    ·exact zlp (if_neg hb)
 ·intro σ2 u; refine gc_pureR (fun hc2 => ?_)
  refine gsr (zxm ?_); refine zxm ?_; refine zc ?_ (c := fun w1 F1 F2 h1 h2 hd hst => rfixed_ok (n := x) h1 (hE.mv hst.still) (by omega))
  rintro ⟨a26, c26, l⟩
  refine gl_pureR (fun h26 => ?_)
  obtain ⟨hag, hlw⟩ := h26; replace hlw : l.length ≤ x := hlw
  have hfin := bytes_fin hx hc2 hag
  refine zxa ?_; refine gnt (gc_ret (gx_ret1 rfl (by conv => lhs; whnf) ?_)); rw [hfin.1]; exact fun w' hw => ⟨(a26, c26, l), rfl, St.pureI ⟨hfin.2, by show l.length ≤ 65535; omega⟩ (hw.z)⟩
end
section
def padDig (l : List UInt8) : Dig := digOf (l ++ List.replicate (16 - l.length) 0)
theorem padDig_cells {l : List UInt8} (h : l.length ≤ 16) : updL zD 0 (l.map B8) = dc (padDig l) := by
  have e : (l ++ List.replicate (16 - l.length) 0).length = 16 := by simp; omega
  rw [padDig, digOf, dif_pos e]
  simp only [dc, updL, List.take_zero, List.nil_append, Nat.zero_add, List.length_map, List.map_append, List.map_replicate]
  rw [zD, List.drop_replicate]
  rfl
theorem ag_dig {σ : RSt} {l : List UInt8} (h : Ag (pTake 16) σ l) : Ag pDig σ (padDig l) := by
  rintro b y r rfl hb
  obtain ⟨l', r1, h1, h2⟩ := pBind_ok hb
  obtain rfl := h b l' r1 rfl h1
  have hl := (pTake_ok h1).2
  obtain ⟨rfl, rfl⟩ := pPure_ok h2
  rw [padDig, hl]; simp
theorem rstep_dig {σ : RSt} {l : List UInt8} (h : Ag (pTake 16) σ l) : rstep pDig σ = rstep (pTake 16) σ := by rw [pDig, rstep_bind h, rstep_pure]
section
variable {w : World} {F : Nat → Prop}
theorem vl_pure {α : Type} {rd : World → (Nat → Prop) → List Value → α → Prop} [RdK rd] {L : List Res} {cs : List Value} {x : α} (h : rd w (fun _ => False) cs x) (hs : stars L w F) : stars (VlR rd cs x :: L) w F :=
  ⟨fun _ => False, F, ⟨h, fun _ h => h.elim⟩, hs, fun k => by simp, fun _ h => h.elim⟩
theorem St.vl {α : Type} {rd : World → (Nat → Prop) → List Value → α → Prop} [RdK rd] {w0 : World} {F0 : Nat → Prop} {L : List Res} {cs : List Value} {x : α} (hs : St w0 F0 L w) (h : rd w (fun _ => False) cs x) : St w0 F0 (VlR rd cs x :: L) w := hs.mapL fun F hF => vl_pure h hF
theorem vl_sig {leaf : Int} {a1 a2 : Option Addr} {n1 c1 n2 c2 : Nat} {l1 l2 : List Dig} (k1 : n1 ≤ c1) (k2 : n2 ≤ c2) (h : stars [LsR (fun _ _ => RdDig) 16 a1 n1 l1, LsR (fun _ _ => RdDig) 16 a2 n2 l2] w F) : stars [VlR RdSig [.int .i64 leaf, .slice a1 n1 c1, .slice a2 n2 c2] ⟨leaf, l1, l2⟩] w F := by
  obtain ⟨F1, F2, h1, h2, hF⟩ := stars_two h
  exact rdR_mk ⟨a1, n1, c1, a2, n2, c2, rfl, k1, k2, RdList.mv h1.1 (still_sub fun k hk => (hF k).2 (.inl hk)) fun _ _ h => h, RdList.mv h2.1 (still_sub fun k hk => (hF k).2 (.inr hk)) fun _ _ h => h⟩ h
theorem vl_signed {who : Int} {ss : List Value} {s : Sig} (h : stars [VlR RdSig ss s] w F) : stars [VlR RdSigned (.int .i64 who :: ss) ⟨who, s⟩] w F := rdR_mk ⟨ss, rfl, (stars_one' h).1⟩ h
theorem vl_qc {e r : Int} {d : Dig} {a : Option Addr} {n c : Nat} {l : List Signed} (k : n ≤ c) (h : stars [LsR RdSigned 4 a n l] w F) : stars [VlR RdQC (.int .i64 e :: .int .i64 r :: (dc d ++ [.slice a n c])) ⟨e, r, d, l⟩] w F := rdR_mk ⟨a, n, c, rfl, k, (stars_one' h).1⟩ h
theorem vl_bytes {e n c : Nat} {a : Option Addr} {b : List UInt8} (h : stars [rowR e 1 a n c (b.map B8)] w F) : stars [VlR RdBytes [.slice a n c] b] w F := by
  have hr := stars_one' h
  exact rdR_mk ⟨a, n, c, rfl, hr.2.1, rowR.rd hr⟩ h
theorem vl_block {e r : Int} {d : Dig} {q : List Value} {x : QC} {a1 a2 : Option Addr} {n1 c1 n2 c2 : Nat} {l1 : List (List UInt8)} {l2 : List Vdr} (k1 : n1 ≤ c1) (k2 : n2 ≤ c2)
    (h : stars [VlR RdQC q x, LsR RdBytes 1 a1 n1 l1, LsR (fun _ _ => RdVdr) 17 a2 n2 l2] w F) : stars [VlR RdBlock (.int .i64 e :: .int .i64 r :: (dc d ++ (q ++ [.slice a1 n1 c1, .slice a2 n2 c2]))) ⟨e, r, d, x, l1, l2⟩] w F := by
  obtain ⟨F1, F2, h1, h2, hF⟩ := stars_cons h
  obtain ⟨F3, F4, h3, h4, hF2⟩ := stars_two h2
  have s3 : ∀ k, F3 k → F k := fun k hk => (hF k).2 (.inr ((hF2 k).2 (.inl hk)))
  exact rdR_mk ⟨q, a1, n1, c1, a2, n2, c2, rfl, h1.1.mv (still_sub fun k hk => (hF k).2 (.inl hk)), k1, RdList.mv h3.1 (still_sub s3) fun _ _ h => h.mv (still_sub s3), k2, RdList.mv h4.1 (still_sub fun k hk => (hF k).2 (.inr ((hF2 k).2 (.inr hk)))) fun _ _ h => h⟩ h
end
attribute [local irreducible] Gl Gc Gx Gs Runs Wt
theorem rdigest_ok {w : World} {F : Nat → Prop} {TE : Nat} {ea : Nat → Addr} {g : Nat} {σ : RSt} (h : stars [RdrR TE ea g σ] w F) {es : List Nat} [Has es 1] [Has es 2] (hE : GErr es w (fun k => ¬ F k) TE ea) :
    Calls Tryz.prog 127 #[.agg (List.toArray [.pointer (some ⟨g, 0, none⟩)])] w (Post w F (fun r : Dig => .agg (dc r).toArray) (fun r => [pureR (Ag pDig σ r), RdrR TE ea g (rstep pDig σ)])) := by
 refine g_enter (env := [(0, .agg (List.toArray [.pointer (some ⟨g, 0, none⟩)]))]) Tryz.func127 rfl h Tryz.ntmps127 rfl rfl ?_; refine gsr (zbN fun b1 => ?_); refine zal fun b2 => ?_; refine zxs ?_; refine zal fun b3 => ?_; refine gnt (gc_seq (gc_regionH ([blk b1 218 [.pointer (some ⟨g, 0, none⟩)]]) ?_)); refine yp 0 rfl (r_slice_arr (l := 0) (h := 16) rfl Ty.arr_27 Ty.sz_5 rfl rfl (by decide) (by decide) (by decide)) ?_; refine yp 1 rfl zfa ?_; refine yp 2 rfl zl ?_; refine yo 3 rfl ?_; refine zc ?_ (c := fun w1 F1 F2 h1 h2 hd hst => rfixed_ok (n := 16) h1 (hE.mv hst.still) (by decide))
 rintro ⟨a7, c7, l⟩
 refine gl_pureR (fun h7 => ?_)
 obtain ⟨hag, hlw⟩ := h7; replace hlw : l.length ≤ 16 := hlw
 replace hag : Ag (pTake 16) σ l := hag
 refine yx ?_; refine yo 4 rfl ?_; refine gl_copy (news := l.map B8) (hr := fun w hw => hw.row (by repeat (first | exact Pick.here | apply Pick.there))) (hj := hlw) (h1 := one_B8 _) (hl := by rw [zD_length]; omega) (k := ?_)
 rw [padDig_cells hlw]; refine yx ?_; refine yd ?_; refine gx_then (gsr (gp (zLa (cs := dc (padDig l))) ?_)); refine zsA (dc_length _) (dc_one _) ?_; refine gnt (gc_ret (gx_retc rfl rfl (ldA Ty.row_27 Ty.sz_27) ?_)); rw [rstep_dig hag]; exact fun w' hw => ⟨padDig l, rfl, St.pureI (ag_dig hag) (hw.z)⟩
theorem takeDigest_ok {w : World} {F : Nat → Prop} {TE : Nat} {ea : Nat → Addr} {g : Nat} {σ : RSt} (h : stars [RdrR TE ea g σ] w F) {es : List Nat} [Has es 1] [Has es 2] (hE : GErr es w (fun k => ¬ F k) TE ea) :
    Calls Tryz.prog 134 #[.pointer (some ⟨g, 0, none⟩)] w (Post w F (fun r : Dig => .agg (dc r).toArray) (fun r => [pureR (Ag pDig σ r), RdrR TE ea g (rstep pDig σ)])) := by
 refine g_enter (env := [(0, .pointer (some ⟨g, 0, none⟩))]) Tryz.func134 rfl h Tryz.ntmps134 rfl rfl ?_; refine gsr (zal fun b2 => ?_); refine zxs ?_; refine zxm ?_; refine gp zbu ?_; refine zc (fun d5 => ?_) (c := fun w1 F1 F2 h1 h2 hd hst => rdigest_ok h1 (hE.mv hst.still))
 refine gl_pureR (fun g5 => ?_)
 refine zsA (dc_length _) (dc_one _) ?_; refine gnt (gc_ret (gx_retc rfl rfl (ldA Ty.row_27 Ty.sz_27) ?_)); exact fun w' hw => ⟨d5, rfl, St.pureI g5 (hw.z)⟩
theorem rat_ok {w : World} {F : Nat → Prop} {TE : Nat} {ea : Nat → Addr} {g : Nat} {σ : RSt} (h : stars [RdrR TE ea g σ] w F) {es : List Nat} [Has es 1] [Has es 2] (hE : GErr es w (fun k => ¬ F k) TE ea) :
    Calls Tryz.prog 126 #[.agg (List.toArray [.pointer (some ⟨g, 0, none⟩)])] w (Post w F (fun r : Nat × Nat => .tuple #[.int .i64 (r.1 : Int), .int .i64 (r.2 : Int)]) (fun r => [pureR (Ag pAt σ ((r.1 : Int), (r.2 : Int))), RdrR TE ea g (rstep pAt σ)])) := by
 refine g_enter (env := [(0, .agg (List.toArray [.pointer (some ⟨g, 0, none⟩)]))]) Tryz.func126 rfl h Tryz.ntmps126 rfl rfl ?_; refine gsr (zbN fun b1 => ?_); refine zxa ?_; refine zxa ?_; refine zxs ?_; refine gp zfa ?_; refine gp zl ?_; refine zc (fun x => ?_) (c := fun w1 F1 F2 h1 h2 hd hst => rnum_ok (wd := 4) h1 (hE.mv hst.still) (by decide) (by decide))
 refine gl_pureR (fun hp7 => ?_)
 obtain ⟨g7, _⟩ := hp7; refine zxa ?_; refine zxs ?_; refine zxm ?_; refine gp zfa ?_; refine gp zl ?_; refine zc (fun y => ?_) (c := fun w1 F1 F2 h1 h2 hd hst => rnum_ok (wd := 6) h1 (hE.mv hst.still) (by decide) (by decide))
 refine gl_pureR (fun hp11 => ?_)
 obtain ⟨g11, _⟩ := hp11; refine zxa ?_; refine zxa ?_; refine gnt (gc_ret (gx_ret2 rfl (by conv => lhs; whnf) (by conv => lhs; whnf) ?_)); have ha : Ag pAt σ ((x : Int), (y : Int)) := g7.bind (g11.bind (Ag.pure _))
 have hr : rstep pAt σ = rstep (pNum 6) (rstep (pNum 4) (σ)) := by rw [pAt, rstep_bind g7, rstep_bind g11, rstep_pure]
 rw [hr]; exact fun w' hw => ⟨(x, y), rfl, St.pureI ha (hw.z)⟩
theorem takeDigs_ok {w : World} {F : Nat → Prop} {TE : Nat} {ea : Nat → Addr} {g : Nat} {σ : RSt} (h : stars [RdrR TE ea g σ] w F) {es : List Nat} [Has es 1] [Has es 2] (hE : GErr es w (fun k => ¬ F k) TE ea) {most : Nat} (hm : most ≤ 255) :
    Calls Tryz.prog 149 #[.pointer (some ⟨g, 0, none⟩), .int .i64 (most : Int), .func (.func 134) #[] #[]] w (Post w F (fun r : Option Addr × Nat × Nat × List Dig => .slice r.1 r.2.1 r.2.2.1) (fun r => [pureR (Ag (pList pDig most) σ r.2.2.2 ∧ r.2.1 ≤ r.2.2.1 ∧ r.2.1 = r.2.2.2.length), LsR (fun _ _ => RdDig) 16 r.1 r.2.1 r.2.2.2, RdrR TE ea g (rstep (pList pDig most) σ)])) := by
 refine g_enter (env := [(0, .pointer (some ⟨g, 0, none⟩)), (1, .int .i64 (most : Int)), (2, .func (.func 134) #[] #[])]) Tryz.func149 rfl h Tryz.ntmps149 rfl rfl ?_; refine gsr (zxa ?_); refine zxs ?_; refine zxm ?_; refine zc (fun x => ?_) (c := fun w1 F1 F2 h1 h2 hd hst => rnum_ok (wd := 1) h1 (hE.mv hst.still) (by decide) (by decide))
 refine gl_pureR (fun hx => ?_)
 obtain ⟨hx, hxb⟩ := hx; have hx256 : x < 256 := by simpa using hxb
 refine zxa ?_; refine gnt (gc_join (α := RSt) (fun σ2 => [pureR ((if errOf (rstep (pNum 1) σ) = 0 ∧ most < x then failE 1 (rstep (pNum 1) σ) else rstep (pNum 1) σ) = σ2), RdrR TE ea g σ2]) (fun σ2 => []) [12, 13, 14, 15, 16, 17, 18, 19, 20, 21, 22, 23, 24, 25, 26, 27] ?_ ?_)
 ·refine gc_join (α := Bool) (fun z => [pureR (z = (decide (errOf (rstep (pNum 1) σ) = 0) && decide (most < x))), RdrR TE ea g (rstep (pNum 1) σ)]) (fun z => [(22, .bool z)]) [12, 13, 14, 15, 16, 17, 18, 19, 20, 21] ?_ ?_
  ·by_cases he : errOf (rstep (pNum 1) σ) = 0
   ·refine gc_region (zxm ?_); refine gp znc ?_; refine gp zfa ?_; refine gp zfa ?_; refine gp r_lde ?_; refine gp (r_bool (c := true) (r_eqnil rfl (by kernel_rfl)) (decide_eq_true he)) ?_; refine zxm ?_; refine gq zmv ?_; refine gq zmv ?_; refine gq (r_bool (b := decide ((most : Int) < (x : Int))) zgt rfl) ?_; refine gp zpk ?_; refine gl_nil (zjn (decide ((most : Int) < (x : Int))) ?_)
    ·exact zlp (by rw [decide_eq_true he, Bool.true_and]; exact decide_eq_decide.2 (by omega))
   ·refine gc_region (zxm ?_); refine gp znc ?_; refine gp zfa ?_; refine gp zfa ?_; refine gp r_lde ?_; refine gp (r_bool (c := false) (r_eqnil rfl (by kernel_rfl)) (decide_eq_false he)) ?_; refine zxm ?_; refine gn ?_; refine gn ?_; refine gn ?_; refine gp zpk ?_; refine gl_nil (zjn (false) ?_)
    ·exact zlp (by rw [decide_eq_false he]; rfl)
  ·intro z u; refine gc_pureR (fun hz => ?_)
   subst hz; refine gif rfl (fun hc22 => ?_) (fun hc22 => ?_)
   ·try simp only at hc22
    have hb : errOf (rstep (pNum 1) σ) = 0 ∧ most < x := by omega
    refine gc_regionT 4 (by kernel_rfl) (by kernel_rfl) ?_; refine sp zmv ?_; refine sp znc ?_; refine sp zfa ?_; refine sp (r_ld1o rfl Ty.row_53 (hE.c 1 Has.h) (hE.n 1 Has.h)) ?_; refine gs_nil ?_; refine zc (fun _ => ?_) (c := fun w1 F1 F2 h1 h2 hd hst => failR_ok (by decide) h1)
    refine gl_nil (zjn (failE 1 (rstep (pNum 1) σ)) ?_)
    ·exact zlp (if_pos hb)
   ·try simp only at hc22
    have hb : ¬ (errOf (rstep (pNum 1) σ) = 0 ∧ most < x) := by omega
    refine gc_skip (zjn ((rstep (pNum 1) σ)) ?_)
    ·exact zlp (if_neg hb)
 ·intro σ2 u; refine gc_pureR (fun hc2 => ?_)
  refine gsr (zxa ?_); refine gnt (gc_seq (gsr (zxa ?_))); refine gnt (gc_block (gc_loop (α := Nat × RSt × Option Addr × Nat × List (List Value) × List Dig) (fun y => [pureR (y.1 ≤ x ∧ Many pDig x σ2 (x - y.1) y.2.1 y.2.2.2.2.2 ∧ (∀ c ∈ y.2.2.2.2.1, c.length = 16) ∧ y.2.2.2.2.2.length = y.1), rowR 27 16 y.2.2.1 y.1 y.2.2.2.1 y.2.2.2.2.1.flatten, ElR (fun _ _ => RdDig) y.2.2.2.2.1 y.2.2.2.2.2, RdrR TE ea g y.2.1]) (fun y => [(8, .slice y.2.2.1 y.1 y.2.2.2.1), (9, .int .i64 (y.1 : Int))]) [28, 29, 30, 31, 32, 33, 34, 35, 36, 37, 38, 39, 40, 41, 42, 43, 44, 45, 46] (fun y => x - y.1) (0, σ2, none, 0, [], []) ?_ ?_ ?_))
  ·refine env_start (by kernel_rfl)
  ·exact fun w' hw => zlp ⟨Nat.zero_le _, Many.start, (by intro c hc; cases hc), rfl⟩ (by repeat (first | exact Sel.nil | (apply Sel.cons; · (repeat (first | exact Pick.here | apply Pick.there))))) w' (hw.mapL fun F' hF' => stars_row_nil (e := 27) (size := 16) (el_nil (rd := fun _ _ => RdDig) hF'))
  ·intro y u; obtain ⟨k, τ, a, c, css, l⟩ := y; refine gc_pureR (fun hk => ?_)
   obtain ⟨hk, hmany, hcss, hll⟩ := hk; replace hk : k ≤ x := hk
   replace hll : l.length = k := hll
   replace hcss : ∀ c ∈ css, c.length = 16 := hcss
   replace hmany : Many pDig x σ2 (x - k) τ l := hmany
   refine gc_seq (gc_seq ?_); by_cases hkx : k < x
   ·refine gc_region (zxm ?_); refine zxm ?_; refine gp (r_bool (c := true) zlt (decide_eq_true (by omega))) ?_; refine zxm ?_; refine gq zmv ?_; refine gq znc ?_; refine gq zfa ?_; refine gq zfa ?_; refine gq r_lde ?_; refine gq (r_eqnil rfl (by kernel_rfl)) ?_; refine gp zpk ?_; refine gnt (gif rfl (fun hc38 => ?_) (fun hc38 => ?_))
    ·try simp only at hc38
     have he2 : errOf τ = 0 := hc38
     refine gc_skip (gx_then (gc_seq (gc_block (gc_region (zxm ?_))))); refine zxm ?_; refine zxm ?_; refine gl_call (wt0 rfl) (e_callv (us := []) rfl Ty.call_134 rfl) (by repeat (first | exact Sel.nil | (apply Sel.cons; · (repeat (first | exact Pick.here | apply Pick.there))))) (fun w1 F1 F2 h1 h2 hd hst => takeDigest_ok h1 (hE.mv hst.still)) ?_; intro v; refine gl_pureR (fun hag => ?_)
     obtain ⟨cs, hcs⟩ : ∃ cs, cs = dc v := ⟨_, rfl⟩; have hcl : cs.length = 16 := by rw [hcs]; exact dc_length _
     rw [← hcs]; have i1 := Len.of hcl
     have i2 := One.of (l := cs) (by rw [hcs]; exact dc_one _)
     refine gl_conv (M := []) (N := [VlR (fun _ _ => RdDig) cs v]) Sel.nil (fun w F hF => vl_pure (show RdDig cs v from hcs) hF) ?_; refine zeN fun b45 => ?_; refine zapo (news := cs) (fun a46 c46 => ?_)
     refine zxa ?_; refine gl_nil (gx_block_normal (gx_then (gc_region (zxm ?_)))); refine gp zad ?_; refine zxa ?_; refine gl_nil (zrd ((k + 1, rstep pDig τ, a46, c46, css ++ [cs], l ++ [v])) ?_ ?_)
     ·show x - (k + 1) < x - k
      omega
     ·rintro w' hw
      have h1 := hw.conv (M := [ElR (fun _ _ => RdDig) css l, VlR (fun _ _ => RdDig) cs v]) (by repeat (first | exact Sel.nil | (apply Sel.cons; · (repeat (first | exact Pick.here | apply Pick.there))))) (fun _ _ => el_snoc)
      refine zlq (M' := [rowR 27 16 a46 (k + 1) c46 (css.flatten ++ cs), ElR (fun _ _ => RdDig) (css ++ [cs]) (l ++ [v]), RdrR TE ea g (rstep pDig τ)]) ⟨?_, ?_, ?_, ?_⟩ (by simp) (by repeat (first | exact Sel.nil | (apply Sel.cons; · (repeat (first | exact Pick.here | apply Pick.there))))) w' h1
      ·show k + 1 ≤ x; omega
      ·rw [show x - k = x - (k + 1) + 1 by omega] at hmany; exact hmany.next hag
      ·intro c' hc'; rcases List.mem_append.1 hc' with h | h; exact hcss c' h; rw [List.mem_singleton.1 h]; exact hcl
      ·simp [hll]
    ·try simp only at hc38
     have he2 : ¬ errOf τ = 0 := hc38
     refine gc_exit ?_; refine gx_then_exit ?_; refine gx_round_exit ?_; refine gx_block_hit ?_; refine gx_then (gc_seq (gsr (zxm ?_))); refine gp znc ?_; refine gp zfa ?_; refine gp zfa ?_; refine gp r_lde ?_; refine gp (r_nenil rfl (by kernel_rfl)) ?_; refine gnt (gif rfl (fun hc52 => ?_) (fun hc52 => ?_))
     ·try simp only at hc52
      have hbad := hmany.bad hc52
      have hfin := list_fin hx hc2 ⟨hbad.1, hbad.2 []⟩
      refine gsr (zxa ?_); refine gnt (gc_ret (gx_then_ret (gx_ret1 rfl (by conv => lhs; whnf) ?_))); rw [hfin.1]; exact fun w' hw => ⟨(none, 0, 0, []), rfl, St.pureI ⟨hfin.2, Nat.le_refl _, rfl⟩ ((hw.sel (M := [RdrR TE ea g τ]) (by repeat (first | exact Sel.nil | (apply Sel.cons; · (repeat (first | exact Pick.here | apply Pick.there)))))).mapL fun F' hF' => ls_nil hF')⟩
     ·try simp only at hc52
      have hm0 : x - k = 0 := by first | omega | exact absurd hc52 he2
      rw [hm0] at hmany; have hfin := list_fin hx hc2 hmany.done
      refine gc_skip (gx_then (gsr (zxm ?_))); refine zxa ?_; refine gnt (gc_ret (gx_ret1 rfl (by conv => lhs; whnf) ?_)); rw [hfin.1]; intro w' hw; have hle := (hw.rowLe (e := 27) (size := 16) (a := a) (m := k) (c := c) (xs := css.flatten) (by repeat (first | exact Pick.here | apply Pick.there))).1
      exact ⟨(a, k, c, l), rfl, St.pureI ⟨hfin.2, hle, hll.symm⟩ ((hw.conv (M := [rowR 27 16 a k c css.flatten, ElR (fun _ _ => RdDig) css l]) (by repeat (first | exact Sel.nil | (apply Sel.cons; · (repeat (first | exact Pick.here | apply Pick.there))))) (fun _ _ => ls_of hcss)).z)⟩
   ·refine gc_region (zxm ?_); refine zxm ?_; refine gp (r_bool (c := false) zlt (decide_eq_false (by omega))) ?_; refine zxm ?_; refine gn ?_; refine gn ?_; refine gn ?_; refine gn ?_; refine gn ?_; refine gn ?_; refine gp zpk ?_; refine gnt (gc_condF rfl rfl ?_); refine gc_exit ?_; refine gx_then_exit ?_; refine gx_round_exit ?_; refine gx_block_hit ?_; refine gx_then (gc_seq (gsr (zxm ?_))); refine gp znc ?_; refine gp zfa ?_; refine gp zfa ?_; refine gp r_lde ?_; refine gp (r_nenil rfl (by kernel_rfl)) ?_; refine gnt (gif rfl (fun hc52 => ?_) (fun hc52 => ?_))
    ·try simp only at hc52
     have hbad := hmany.bad hc52
     have hfin := list_fin hx hc2 ⟨hbad.1, hbad.2 []⟩
     refine gsr (zxa ?_); refine gnt (gc_ret (gx_then_ret (gx_ret1 rfl (by conv => lhs; whnf) ?_))); rw [hfin.1]; exact fun w' hw => ⟨(none, 0, 0, []), rfl, St.pureI ⟨hfin.2, Nat.le_refl _, rfl⟩ ((hw.sel (M := [RdrR TE ea g τ]) (by repeat (first | exact Sel.nil | (apply Sel.cons; · (repeat (first | exact Pick.here | apply Pick.there)))))).mapL fun F' hF' => ls_nil hF')⟩
    ·try simp only at hc52
     have hm0 : x - k = 0 := by first | omega | exact absurd hc52 he2
     rw [hm0] at hmany; have hfin := list_fin hx hc2 hmany.done
     refine gc_skip (gx_then (gsr (zxm ?_))); refine zxa ?_; refine gnt (gc_ret (gx_ret1 rfl (by conv => lhs; whnf) ?_)); rw [hfin.1]; intro w' hw; have hle := (hw.rowLe (e := 27) (size := 16) (a := a) (m := k) (c := c) (xs := css.flatten) (by repeat (first | exact Pick.here | apply Pick.there))).1
     exact ⟨(a, k, c, l), rfl, St.pureI ⟨hfin.2, hle, hll.symm⟩ ((hw.conv (M := [rowR 27 16 a k c css.flatten, ElR (fun _ _ => RdDig) css l]) (by repeat (first | exact Sel.nil | (apply Sel.cons; · (repeat (first | exact Pick.here | apply Pick.there))))) (fun _ _ => ls_of hcss)).z)⟩
theorem rsig_ok {w : World} {F : Nat → Prop} {TE : Nat} {ea : Nat → Addr} {g : Nat} {σ : RSt} (h : stars [RdrR TE ea g σ] w F) {es : List Nat} [Has es 1] [Has es 2] (hE : GErr es w (fun k => ¬ F k) TE ea) :
    Calls Tryz.prog 148 #[.agg (List.toArray [.pointer (some ⟨g, 0, none⟩)])] w (Post w F (fun r : List Value × Sig => .agg r.1.toArray) (fun r => [pureR (Ag pSig σ r.2 ∧ r.1.length = 3 ∧ ∀ v ∈ r.1, v.oneCell' = true), VlR RdSig r.1 r.2, RdrR TE ea g (rstep pSig σ)])) := by
 refine g_enter (env := [(0, .agg (List.toArray [.pointer (some ⟨g, 0, none⟩)]))]) Tryz.func148 rfl h Tryz.ntmps148 rfl rfl ?_; refine gsr (zbN fun b1 => ?_); refine zal fun b2 => ?_; refine zxs ?_; refine gp zfa ?_; refine gp zl ?_; refine zc (fun x => ?_) (c := fun w1 F1 F2 h1 h2 hd hst => rnum_ok (wd := 1) h1 (hE.mv hst.still) (by decide) (by decide))
 refine gl_pureR (fun hp7 => ?_)
 obtain ⟨g7, _⟩ := hp7; refine zxa ?_; refine zxs ?_; refine gp zfa ?_; refine gp zl ?_; refine zc ?_ (c := fun w1 F1 F2 h1 h2 hd hst => takeDigs_ok (most := 68) h1 (hE.mv hst.still) (by decide))
 rintro ⟨a10, n10, c10, l10⟩
 refine gl_pureR (fun hp10 => ?_)
 obtain ⟨g10, k10, e10⟩ := hp10; replace g10 : Ag (pList pDig 68) _ l10 := g10
 replace k10 : n10 ≤ c10 := k10
 refine zxa ?_; refine zxs ?_; refine zxm ?_; refine zxm ?_; refine gp zfa ?_; refine gp zl ?_; refine zc ?_ (c := fun w1 F1 F2 h1 h2 hd hst => takeDigs_ok (most := 5) h1 (hE.mv hst.still) (by decide))
 rintro ⟨a15, n15, c15, l15⟩
 refine gl_pureR (fun hp15 => ?_)
 obtain ⟨g15, k15, e15⟩ := hp15; replace g15 : Ag (pList pDig 5) _ l15 := g15
 replace k15 : n15 ≤ c15 := k15
 refine gp zbu ?_; refine zsN ?_; refine gnt (gc_ret (gx_retc rfl rfl (ldA Ty.row_172 Ty.sz_172) ?_)); have ha : Ag pSig σ ⟨x, l10, l15⟩ := g7.bind (g10.bind (g15.bind (Ag.pure _)))
 have hr : rstep pSig σ = rstep (pList pDig 5) (rstep (pList pDig 68) (rstep (pNum 1) (σ))) := by rw [pSig, rstep_bind g7, rstep_bind g10, rstep_bind g15, rstep_pure]
 rw [hr]; intro w' hw; refine ⟨([.int .i64 x, .slice a10 n10 c10, .slice a15 n15 c15], ⟨x, l10, l15⟩), rfl, St.pureI ⟨ha, by first | rfl | simp only [List.length_cons, List.length_append, List.length_nil, dc_length, len_L] , all_cons' rfl (all_cons' rfl (all_cons' rfl all_nil'))⟩ ?_⟩
 exact (hw.conv (M := [LsR (fun _ _ => RdDig) 16 a10 n10 l10, LsR (fun _ _ => RdDig) 16 a15 n15 l15]) (by repeat (first | exact Sel.nil | (apply Sel.cons; · (repeat (first | exact Pick.here | apply Pick.there))))) (fun _ _ => vl_sig k10 k15)).z
theorem rsigned_ok {w : World} {F : Nat → Prop} {TE : Nat} {ea : Nat → Addr} {g : Nat} {σ : RSt} (h : stars [RdrR TE ea g σ] w F) {es : List Nat} [Has es 1] [Has es 2] (hE : GErr es w (fun k => ¬ F k) TE ea) :
    Calls Tryz.prog 144 #[.agg (List.toArray [.pointer (some ⟨g, 0, none⟩)])] w (Post w F (fun r : List Value × Signed => .agg r.1.toArray) (fun r => [pureR (Ag pSigned σ r.2 ∧ r.1.length = 4 ∧ ∀ v ∈ r.1, v.oneCell' = true), VlR RdSigned r.1 r.2, RdrR TE ea g (rstep pSigned σ)])) := by
 refine g_enter (env := [(0, .agg (List.toArray [.pointer (some ⟨g, 0, none⟩)]))]) Tryz.func144 rfl h Tryz.ntmps144 rfl rfl ?_; refine gsr (zbN fun b1 => ?_); refine zal fun b2 => ?_; refine zxs ?_; refine gp zfa ?_; refine gp zl ?_; refine zc (fun x => ?_) (c := fun w1 F1 F2 h1 h2 hd hst => rnum_ok (wd := 1) h1 (hE.mv hst.still) (by decide) (by decide))
 refine gl_pureR (fun hp6 => ?_)
 obtain ⟨g6, _⟩ := hp6; refine zxa ?_; refine zxs ?_; refine zxm ?_; refine gp zL ?_; refine zc ?_ (c := fun w1 F1 F2 h1 h2 hd hst => rsig_ok h1 (hE.mv hst.still))
 rintro ⟨q9, v9⟩
 refine gl_pureR (fun hp9 => ?_)
 obtain ⟨g9, z9, o9⟩ := hp9; replace z9 : q9.length = _ := z9
 have i9 := Len.of z9
 have j9 := One.of (show ∀ v ∈ q9, v.oneCell' = true from o9)
 refine gp zbu ?_; refine zsN ?_; refine gnt (gc_ret (gx_retc rfl rfl (ldA Ty.row_174 Ty.sz_174) ?_)); have ha : Ag pSigned σ ⟨x, v9⟩ := g6.bind (g9.bind (Ag.pure _))
 have hr : rstep pSigned σ = rstep pSig (rstep (pNum 1) (σ)) := by rw [pSigned, rstep_bind g6, rstep_bind g9, rstep_pure]
 rw [hr]; intro w' hw; refine ⟨(.int .i64 x :: q9, ⟨x, v9⟩), rfl, St.pureI ⟨ha, by first | rfl | simp only [List.length_cons, List.length_append, List.length_nil, dc_length, len_L] , all_cons' rfl o9⟩ ?_⟩
 exact (hw.conv (M := [VlR RdSig q9 v9]) (by repeat (first | exact Sel.nil | (apply Sel.cons; · (repeat (first | exact Pick.here | apply Pick.there))))) (fun _ _ => vl_signed)).z
theorem rqc1_ok {w : World} {F : Nat → Prop} {TE : Nat} {ea : Nat → Addr} {g : Nat} {σ : RSt} (h : stars [RdrR TE ea g σ] w F) {es : List Nat} [Has es 1] [Has es 2] (hE : GErr es w (fun k => ¬ F k) TE ea) :
    Calls Tryz.prog 143 #[.pointer (some ⟨g, 0, none⟩)] w (Post w F (fun r : List Value × Signed => .agg r.1.toArray) (fun r => [pureR (Ag pSigned σ r.2 ∧ r.1.length = 4 ∧ ∀ v ∈ r.1, v.oneCell' = true), VlR RdSigned r.1 r.2, RdrR TE ea g (rstep pSigned σ)])) := by
 refine g_enter (env := [(0, .pointer (some ⟨g, 0, none⟩))]) Tryz.func143 rfl h Tryz.ntmps143 rfl rfl ?_; refine gsr (zal fun b2 => ?_); refine zxs ?_; refine zxm ?_; refine gp zbu ?_; refine zc ?_ (c := fun w1 F1 F2 h1 h2 hd hst => rsigned_ok h1 (hE.mv hst.still))
 rintro ⟨q5, v5⟩
 refine gl_pureR (fun hp5 => ?_)
 obtain ⟨g5, z5, o5⟩ := hp5; replace z5 : q5.length = _ := z5
 have i5 := Len.of z5
 have j5 := One.of (show ∀ v ∈ q5, v.oneCell' = true from o5)
 refine zsN ?_; refine gnt (gc_ret (gx_retc rfl rfl (ldA Ty.row_174 Ty.sz_174) ?_)); exact fun w' hw => ⟨(q5, v5), rfl, St.pureI ⟨g5, z5, o5⟩ (hw.z)⟩
theorem takeSigneds_ok {w : World} {F : Nat → Prop} {TE : Nat} {ea : Nat → Addr} {g : Nat} {σ : RSt} (h : stars [RdrR TE ea g σ] w F) {es : List Nat} [Has es 1] [Has es 2] (hE : GErr es w (fun k => ¬ F k) TE ea) {most : Nat} (hm : most ≤ 255) :
    Calls Tryz.prog 142 #[.pointer (some ⟨g, 0, none⟩), .int .i64 (most : Int), .func (.func 143) #[] #[]] w (Post w F (fun r : Option Addr × Nat × Nat × List Signed => .slice r.1 r.2.1 r.2.2.1) (fun r => [pureR (Ag (pList pSigned most) σ r.2.2.2 ∧ r.2.1 ≤ r.2.2.1 ∧ r.2.1 = r.2.2.2.length), LsR (RdSigned) 4 r.1 r.2.1 r.2.2.2, RdrR TE ea g (rstep (pList pSigned most) σ)])) := by
 refine g_enter (env := [(0, .pointer (some ⟨g, 0, none⟩)), (1, .int .i64 (most : Int)), (2, .func (.func 143) #[] #[])]) Tryz.func142 rfl h Tryz.ntmps142 rfl rfl ?_; refine gsr (zxa ?_); refine zxs ?_; refine zxm ?_; refine zc (fun x => ?_) (c := fun w1 F1 F2 h1 h2 hd hst => rnum_ok (wd := 1) h1 (hE.mv hst.still) (by decide) (by decide))
 refine gl_pureR (fun hx => ?_)
 obtain ⟨hx, hxb⟩ := hx; have hx256 : x < 256 := by simpa using hxb
 refine zxa ?_; refine gnt (gc_join (α := RSt) (fun σ2 => [pureR ((if errOf (rstep (pNum 1) σ) = 0 ∧ most < x then failE 1 (rstep (pNum 1) σ) else rstep (pNum 1) σ) = σ2), RdrR TE ea g σ2]) (fun σ2 => []) [12, 13, 14, 15, 16, 17, 18, 19, 20, 21, 22, 23, 24, 25, 26, 27] ?_ ?_)
 ·refine gc_join (α := Bool) (fun z => [pureR (z = (decide (errOf (rstep (pNum 1) σ) = 0) && decide (most < x))), RdrR TE ea g (rstep (pNum 1) σ)]) (fun z => [(22, .bool z)]) [12, 13, 14, 15, 16, 17, 18, 19, 20, 21] ?_ ?_
  ·by_cases he : errOf (rstep (pNum 1) σ) = 0
   ·refine gc_region (zxm ?_); refine gp znc ?_; refine gp zfa ?_; refine gp zfa ?_; refine gp r_lde ?_; refine gp (r_bool (c := true) (r_eqnil rfl (by kernel_rfl)) (decide_eq_true he)) ?_; refine zxm ?_; refine gq zmv ?_; refine gq zmv ?_; refine gq (r_bool (b := decide ((most : Int) < (x : Int))) zgt rfl) ?_; refine gp zpk ?_; refine gl_nil (zjn (decide ((most : Int) < (x : Int))) ?_)
    ·exact zlp (by rw [decide_eq_true he, Bool.true_and]; exact decide_eq_decide.2 (by omega))
   ·refine gc_region (zxm ?_); refine gp znc ?_; refine gp zfa ?_; refine gp zfa ?_; refine gp r_lde ?_; refine gp (r_bool (c := false) (r_eqnil rfl (by kernel_rfl)) (decide_eq_false he)) ?_; refine zxm ?_; refine gn ?_; refine gn ?_; refine gn ?_; refine gp zpk ?_; refine gl_nil (zjn (false) ?_)
    ·exact zlp (by rw [decide_eq_false he]; rfl)
  ·intro z u; refine gc_pureR (fun hz => ?_)
   subst hz; refine gif rfl (fun hc22 => ?_) (fun hc22 => ?_)
   ·try simp only at hc22
    have hb : errOf (rstep (pNum 1) σ) = 0 ∧ most < x := by omega
    refine gc_regionT 4 (by kernel_rfl) (by kernel_rfl) ?_; refine sp zmv ?_; refine sp znc ?_; refine sp zfa ?_; refine sp (r_ld1o rfl Ty.row_53 (hE.c 1 Has.h) (hE.n 1 Has.h)) ?_; refine gs_nil ?_; refine zc (fun _ => ?_) (c := fun w1 F1 F2 h1 h2 hd hst => failR_ok (by decide) h1)
    refine gl_nil (zjn (failE 1 (rstep (pNum 1) σ)) ?_)
    ·exact zlp (if_pos hb)
   ·try simp only at hc22
    have hb : ¬ (errOf (rstep (pNum 1) σ) = 0 ∧ most < x) := by omega
    refine gc_skip (zjn ((rstep (pNum 1) σ)) ?_)
    ·exact zlp (if_neg hb)
 ·intro σ2 u; refine gc_pureR (fun hc2 => ?_)
  refine gsr (zxa ?_); refine gnt (gc_seq (gsr (zxa ?_))); refine gnt (gc_block (gc_loop (α := Nat × RSt × Option Addr × Nat × List (List Value) × List Signed) (fun y => [pureR (y.1 ≤ x ∧ Many pSigned x σ2 (x - y.1) y.2.1 y.2.2.2.2.2 ∧ (∀ c ∈ y.2.2.2.2.1, c.length = 4) ∧ y.2.2.2.2.2.length = y.1), rowR 174 4 y.2.2.1 y.1 y.2.2.2.1 y.2.2.2.2.1.flatten, ElR (RdSigned) y.2.2.2.2.1 y.2.2.2.2.2, RdrR TE ea g y.2.1]) (fun y => [(8, .slice y.2.2.1 y.1 y.2.2.2.1), (9, .int .i64 (y.1 : Int))]) [28, 29, 30, 31, 32, 33, 34, 35, 36, 37, 38, 39, 40, 41, 42, 43, 44, 45, 46] (fun y => x - y.1) (0, σ2, none, 0, [], []) ?_ ?_ ?_))
  ·refine env_start (by kernel_rfl)
  ·exact fun w' hw => zlp ⟨Nat.zero_le _, Many.start, (by intro c hc; cases hc), rfl⟩ (by repeat (first | exact Sel.nil | (apply Sel.cons; · (repeat (first | exact Pick.here | apply Pick.there))))) w' (hw.mapL fun F' hF' => stars_row_nil (e := 174) (size := 4) (el_nil (rd := RdSigned) hF'))
  ·intro y u; obtain ⟨k, τ, a, c, css, l⟩ := y; refine gc_pureR (fun hk => ?_)
   obtain ⟨hk, hmany, hcss, hll⟩ := hk; replace hk : k ≤ x := hk
   replace hll : l.length = k := hll
   replace hcss : ∀ c ∈ css, c.length = 4 := hcss
   replace hmany : Many pSigned x σ2 (x - k) τ l := hmany
   refine gc_seq (gc_seq ?_); by_cases hkx : k < x
   ·refine gc_region (zxm ?_); refine zxm ?_; refine gp (r_bool (c := true) zlt (decide_eq_true (by omega))) ?_; refine zxm ?_; refine gq zmv ?_; refine gq znc ?_; refine gq zfa ?_; refine gq zfa ?_; refine gq r_lde ?_; refine gq (r_eqnil rfl (by kernel_rfl)) ?_; refine gp zpk ?_; refine gnt (gif rfl (fun hc38 => ?_) (fun hc38 => ?_))
    ·try simp only at hc38
     have he2 : errOf τ = 0 := hc38
     refine gc_skip (gx_then (gc_seq (gc_block (gc_region (zxm ?_))))); refine zxm ?_; refine zxm ?_; refine gl_call (wt0 rfl) (e_callv (us := []) rfl Ty.call_143 rfl) (by repeat (first | exact Sel.nil | (apply Sel.cons; · (repeat (first | exact Pick.here | apply Pick.there))))) (fun w1 F1 F2 h1 h2 hd hst => rqc1_ok h1 (hE.mv hst.still)) ?_; rintro ⟨cs, v⟩
     refine gl_pureR (fun h44 => ?_)
     obtain ⟨hag, hcl, hone⟩ := h44; replace hcl : cs.length = _ := hcl
     have i1 := Len.of hcl
     have i2 := One.of (show ∀ v ∈ cs, v.oneCell' = true from hone)
     refine zeN fun b45 => ?_; refine zapo (news := cs) (fun a46 c46 => ?_)
     refine zxa ?_; refine gl_nil (gx_block_normal (gx_then (gc_region (zxm ?_)))); refine gp zad ?_; refine zxa ?_; refine gl_nil (zrd ((k + 1, rstep pSigned τ, a46, c46, css ++ [cs], l ++ [v])) ?_ ?_)
     ·show x - (k + 1) < x - k
      omega
     ·rintro w' hw
      have h1 := hw.conv (M := [ElR (RdSigned) css l, VlR (RdSigned) cs v]) (by repeat (first | exact Sel.nil | (apply Sel.cons; · (repeat (first | exact Pick.here | apply Pick.there))))) (fun _ _ => el_snoc)
      refine zlq (M' := [rowR 174 4 a46 (k + 1) c46 (css.flatten ++ cs), ElR (RdSigned) (css ++ [cs]) (l ++ [v]), RdrR TE ea g (rstep pSigned τ)]) ⟨?_, ?_, ?_, ?_⟩ (by simp) (by repeat (first | exact Sel.nil | (apply Sel.cons; · (repeat (first | exact Pick.here | apply Pick.there))))) w' h1
      ·show k + 1 ≤ x; omega
      ·rw [show x - k = x - (k + 1) + 1 by omega] at hmany; exact hmany.next hag
      ·intro c' hc'; rcases List.mem_append.1 hc' with h | h; exact hcss c' h; rw [List.mem_singleton.1 h]; exact hcl
      ·simp [hll]
    ·try simp only at hc38
     have he2 : ¬ errOf τ = 0 := hc38
     refine gc_exit ?_; refine gx_then_exit ?_; refine gx_round_exit ?_; refine gx_block_hit ?_; refine gx_then (gc_seq (gsr (zxm ?_))); refine gp znc ?_; refine gp zfa ?_; refine gp zfa ?_; refine gp r_lde ?_; refine gp (r_nenil rfl (by kernel_rfl)) ?_; refine gnt (gif rfl (fun hc52 => ?_) (fun hc52 => ?_))
     ·try simp only at hc52
      have hbad := hmany.bad hc52
      have hfin := list_fin hx hc2 ⟨hbad.1, hbad.2 []⟩
      refine gsr (zxa ?_); refine gnt (gc_ret (gx_then_ret (gx_ret1 rfl (by conv => lhs; whnf) ?_))); rw [hfin.1]; exact fun w' hw => ⟨(none, 0, 0, []), rfl, St.pureI ⟨hfin.2, Nat.le_refl _, rfl⟩ ((hw.sel (M := [RdrR TE ea g τ]) (by repeat (first | exact Sel.nil | (apply Sel.cons; · (repeat (first | exact Pick.here | apply Pick.there)))))).mapL fun F' hF' => ls_nil hF')⟩
     ·try simp only at hc52
      have hm0 : x - k = 0 := by first | omega | exact absurd hc52 he2
      rw [hm0] at hmany; have hfin := list_fin hx hc2 hmany.done
      refine gc_skip (gx_then (gsr (zxm ?_))); refine zxa ?_; refine gnt (gc_ret (gx_ret1 rfl (by conv => lhs; whnf) ?_)); rw [hfin.1]; intro w' hw; have hle := (hw.rowLe (e := 174) (size := 4) (a := a) (m := k) (c := c) (xs := css.flatten) (by repeat (first | exact Pick.here | apply Pick.there))).1
      exact ⟨(a, k, c, l), rfl, St.pureI ⟨hfin.2, hle, hll.symm⟩ ((hw.conv (M := [rowR 174 4 a k c css.flatten, ElR (RdSigned) css l]) (by repeat (first | exact Sel.nil | (apply Sel.cons; · (repeat (first | exact Pick.here | apply Pick.there))))) (fun _ _ => ls_of hcss)).z)⟩
   ·refine gc_region (zxm ?_); refine zxm ?_; refine gp (r_bool (c := false) zlt (decide_eq_false (by omega))) ?_; refine zxm ?_; refine gn ?_; refine gn ?_; refine gn ?_; refine gn ?_; refine gn ?_; refine gn ?_; refine gp zpk ?_; refine gnt (gc_condF rfl rfl ?_); refine gc_exit ?_; refine gx_then_exit ?_; refine gx_round_exit ?_; refine gx_block_hit ?_; refine gx_then (gc_seq (gsr (zxm ?_))); refine gp znc ?_; refine gp zfa ?_; refine gp zfa ?_; refine gp r_lde ?_; refine gp (r_nenil rfl (by kernel_rfl)) ?_; refine gnt (gif rfl (fun hc52 => ?_) (fun hc52 => ?_))
    ·try simp only at hc52
     have hbad := hmany.bad hc52
     have hfin := list_fin hx hc2 ⟨hbad.1, hbad.2 []⟩
     refine gsr (zxa ?_); refine gnt (gc_ret (gx_then_ret (gx_ret1 rfl (by conv => lhs; whnf) ?_))); rw [hfin.1]; exact fun w' hw => ⟨(none, 0, 0, []), rfl, St.pureI ⟨hfin.2, Nat.le_refl _, rfl⟩ ((hw.sel (M := [RdrR TE ea g τ]) (by repeat (first | exact Sel.nil | (apply Sel.cons; · (repeat (first | exact Pick.here | apply Pick.there)))))).mapL fun F' hF' => ls_nil hF')⟩
    ·try simp only at hc52
     have hm0 : x - k = 0 := by first | omega | exact absurd hc52 he2
     rw [hm0] at hmany; have hfin := list_fin hx hc2 hmany.done
     refine gc_skip (gx_then (gsr (zxm ?_))); refine zxa ?_; refine gnt (gc_ret (gx_ret1 rfl (by conv => lhs; whnf) ?_)); rw [hfin.1]; intro w' hw; have hle := (hw.rowLe (e := 174) (size := 4) (a := a) (m := k) (c := c) (xs := css.flatten) (by repeat (first | exact Pick.here | apply Pick.there))).1
     exact ⟨(a, k, c, l), rfl, St.pureI ⟨hfin.2, hle, hll.symm⟩ ((hw.conv (M := [rowR 174 4 a k c css.flatten, ElR (RdSigned) css l]) (by repeat (first | exact Sel.nil | (apply Sel.cons; · (repeat (first | exact Pick.here | apply Pick.there))))) (fun _ _ => ls_of hcss)).z)⟩
theorem rqc_ok {w : World} {F : Nat → Prop} {TE : Nat} {ea : Nat → Addr} {g : Nat} {σ : RSt} (h : stars [RdrR TE ea g σ] w F) {es : List Nat} [Has es 1] [Has es 2] (hE : GErr es w (fun k => ¬ F k) TE ea) :
    Calls Tryz.prog 128 #[.agg (List.toArray [.pointer (some ⟨g, 0, none⟩)])] w (Post w F (fun r : List Value × QC => .agg r.1.toArray) (fun r => [pureR (Ag pQC σ r.2 ∧ r.1.length = 19 ∧ ∀ v ∈ r.1, v.oneCell' = true), VlR RdQC r.1 r.2, RdrR TE ea g (rstep pQC σ)])) := by
 refine g_enter (env := [(0, .agg (List.toArray [.pointer (some ⟨g, 0, none⟩)]))]) Tryz.func128 rfl h Tryz.ntmps128 rfl rfl ?_; refine gsr (zbN fun b1 => ?_); refine zal fun b2 => ?_; refine zxs ?_; refine gp zL ?_; refine zc ?_ (c := fun w1 F1 F2 h1 h2 hd hst => rat_ok h1 (hE.mv hst.still))
 rintro ⟨x5, y5⟩
 refine gl_pureR (fun g5 => ?_)
 replace g5 : Ag pAt _ ((x5 : Int), (y5 : Int)) := g5
 refine zxm ?_; refine gp zex ?_; refine gp zex ?_; refine gp zfa ?_; refine zs1 ?_; refine gp zfa ?_; refine zs1 ?_; refine zxs ?_; refine gp zL ?_; refine zc (fun d11 => ?_) (c := fun w1 F1 F2 h1 h2 hd hst => rdigest_ok h1 (hE.mv hst.still))
 refine gl_pureR (fun g11 => ?_)
 refine gp zfa ?_; refine zsN ?_; refine zxs ?_; refine gp zfa ?_; refine gp zl ?_; refine zc ?_ (c := fun w1 F1 F2 h1 h2 hd hst => takeSigneds_ok (most := 7) h1 (hE.mv hst.still) (by decide))
 rintro ⟨a15, n15, c15, l15⟩
 refine gl_pureR (fun hp15 => ?_)
 obtain ⟨g15, k15, e15⟩ := hp15; replace g15 : Ag (pList pSigned 7) _ l15 := g15
 replace k15 : n15 ≤ c15 := k15
 refine gp zfa ?_; refine zs1 ?_; refine zxs ?_; refine gp zL ?_; refine zsN ?_; refine gnt (gc_ret (gx_retc rfl rfl (ldA Ty.row_47 Ty.sz_47) ?_)); have ha : Ag pQC σ ⟨x5, y5, d11, l15⟩ := g5.bind (g11.bind (g15.bind (Ag.pure _)))
 have hr : rstep pQC σ = rstep (pList pSigned 7) (rstep pDig (rstep pAt (σ))) := by rw [pQC, rstep_bind g5, rstep_bind g11, rstep_bind g15, rstep_pure]
 rw [hr]; intro w' hw; refine ⟨(.int .i64 x5 :: .int .i64 y5 :: (dc d11 ++ [.slice a15 n15 c15]), ⟨x5, y5, d11, l15⟩), rfl, St.pureI ⟨ha, by first | rfl | simp only [List.length_cons, List.length_append, List.length_nil, dc_length, len_L] , all_cons' rfl (all_cons' rfl (all_app' (dc_one _) (all_cons' rfl all_nil')))⟩ ?_⟩
 exact (hw.conv (M := [LsR RdSigned 4 a15 n15 l15]) (by repeat (first | exact Sel.nil | (apply Sel.cons; · (repeat (first | exact Pick.here | apply Pick.there))))) (fun _ _ => vl_qc k15)).z
end
section
attribute [local irreducible] Gl Gc Gx Gs Runs Wt
theorem rblock1_ok {w : World} {F : Nat → Prop} {TE : Nat} {ea : Nat → Addr} {g : Nat} {σ : RSt} (h : stars [RdrR TE ea g σ] w F) {es : List Nat} [Has es 1] [Has es 2] (hE : GErr es w (fun k => ¬ F k) TE ea) :
    Calls Tryz.prog 130 #[.pointer (some ⟨g, 0, none⟩)] w (Post w F (fun r : (Option Addr × Nat × Nat) × List UInt8 => .slice r.1.1 r.1.2.1 r.1.2.2) (fun r => [pureR (Ag (pBytes 16) σ r.2), VlR RdBytes [.slice r.1.1 r.1.2.1 r.1.2.2] r.2, RdrR TE ea g (rstep (pBytes 16) σ)])) := by
 refine g_enter (env := [(0, .pointer (some ⟨g, 0, none⟩))]) Tryz.func130 rfl h Tryz.ntmps130 rfl rfl ?_; refine gsr (zxa ?_); refine zxs ?_; refine zxm ?_; refine zc ?_ (c := fun w1 F1 F2 h1 h2 hd hst => rbytes_ok (most := 16) h1 (hE.mv hst.still) (by decide))
 rintro ⟨a4, c4, l4⟩
 refine gl_pureR (fun hp4 => ?_)
 obtain ⟨g4, b4⟩ := hp4; refine zxa ?_; refine gnt (gc_ret (gx_ret1 rfl (by conv => lhs; whnf) ?_)); exact fun w' hw => ⟨((a4, l4.length, c4), l4), rfl, St.pureI g4 ((hw.conv (M := [rowR 5 1 a4 l4.length c4 (l4.map B8)]) (by repeat (first | exact Sel.nil | (apply Sel.cons; · (repeat (first | exact Pick.here | apply Pick.there))))) (fun _ _ => vl_bytes)).z)⟩
theorem takeTxs_ok {w : World} {F : Nat → Prop} {TE : Nat} {ea : Nat → Addr} {g : Nat} {σ : RSt} (h : stars [RdrR TE ea g σ] w F) {es : List Nat} [Has es 1] [Has es 2] (hE : GErr es w (fun k => ¬ F k) TE ea) {most : Nat} (hm : most ≤ 255) :
    Calls Tryz.prog 129 #[.pointer (some ⟨g, 0, none⟩), .int .i64 (most : Int), .func (.func 130) #[] #[]] w (Post w F (fun r : Option Addr × Nat × Nat × List (List UInt8) => .slice r.1 r.2.1 r.2.2.1) (fun r => [pureR (Ag (pList (pBytes 16) most) σ r.2.2.2 ∧ r.2.1 ≤ r.2.2.1 ∧ r.2.1 = r.2.2.2.length), LsR (RdBytes) 1 r.1 r.2.1 r.2.2.2, RdrR TE ea g (rstep (pList (pBytes 16) most) σ)])) := by
 refine g_enter (env := [(0, .pointer (some ⟨g, 0, none⟩)), (1, .int .i64 (most : Int)), (2, .func (.func 130) #[] #[])]) Tryz.func129 rfl h Tryz.ntmps129 rfl rfl ?_; refine gsr (zxa ?_); refine zxs ?_; refine zxm ?_; refine zc (fun x => ?_) (c := fun w1 F1 F2 h1 h2 hd hst => rnum_ok (wd := 1) h1 (hE.mv hst.still) (by decide) (by decide))
 refine gl_pureR (fun hx => ?_)
 obtain ⟨hx, hxb⟩ := hx; have hx256 : x < 256 := by simpa using hxb
 refine zxa ?_; refine gnt (gc_join (α := RSt) (fun σ2 => [pureR ((if errOf (rstep (pNum 1) σ) = 0 ∧ most < x then failE 1 (rstep (pNum 1) σ) else rstep (pNum 1) σ) = σ2), RdrR TE ea g σ2]) (fun σ2 => []) [12, 13, 14, 15, 16, 17, 18, 19, 20, 21, 22, 23, 24, 25, 26, 27] ?_ ?_)
 ·refine gc_join (α := Bool) (fun z => [pureR (z = (decide (errOf (rstep (pNum 1) σ) = 0) && decide (most < x))), RdrR TE ea g (rstep (pNum 1) σ)]) (fun z => [(22, .bool z)]) [12, 13, 14, 15, 16, 17, 18, 19, 20, 21] ?_ ?_
  ·by_cases he : errOf (rstep (pNum 1) σ) = 0
   ·refine gc_region (zxm ?_); refine gp znc ?_; refine gp zfa ?_; refine gp zfa ?_; refine gp r_lde ?_; refine gp (r_bool (c := true) (r_eqnil rfl (by kernel_rfl)) (decide_eq_true he)) ?_; refine zxm ?_; refine gq zmv ?_; refine gq zmv ?_; refine gq (r_bool (b := decide ((most : Int) < (x : Int))) zgt rfl) ?_; refine gp zpk ?_; refine gl_nil (zjn (decide ((most : Int) < (x : Int))) ?_)
    ·exact zlp (by rw [decide_eq_true he, Bool.true_and]; exact decide_eq_decide.2 (by omega))
   ·refine gc_region (zxm ?_); refine gp znc ?_; refine gp zfa ?_; refine gp zfa ?_; refine gp r_lde ?_; refine gp (r_bool (c := false) (r_eqnil rfl (by kernel_rfl)) (decide_eq_false he)) ?_; refine zxm ?_; refine gn ?_; refine gn ?_; refine gn ?_; refine gp zpk ?_; refine gl_nil (zjn (false) ?_)
    ·exact zlp (by rw [decide_eq_false he]; rfl)
  ·intro z u; refine gc_pureR (fun hz => ?_)
   subst hz; refine gif rfl (fun hc22 => ?_) (fun hc22 => ?_)
   ·try simp only at hc22
    have hb : errOf (rstep (pNum 1) σ) = 0 ∧ most < x := by omega
    refine gc_regionT 4 (by kernel_rfl) (by kernel_rfl) ?_; refine sp zmv ?_; refine sp znc ?_; refine sp zfa ?_; refine sp (r_ld1o rfl Ty.row_53 (hE.c 1 Has.h) (hE.n 1 Has.h)) ?_; refine gs_nil ?_; refine zc (fun _ => ?_) (c := fun w1 F1 F2 h1 h2 hd hst => failR_ok (by decide) h1)
    refine gl_nil (zjn (failE 1 (rstep (pNum 1) σ)) ?_)
    ·exact zlp (if_pos hb)
   ·try simp only at hc22
    have hb : ¬ (errOf (rstep (pNum 1) σ) = 0 ∧ most < x) := by omega
    refine gc_skip (zjn ((rstep (pNum 1) σ)) ?_)
    ·exact zlp (if_neg hb)
 ·intro σ2 u; refine gc_pureR (fun hc2 => ?_)
  refine gsr (zxa ?_); refine gnt (gc_seq (gsr (zxa ?_))); refine gnt (gc_block (gc_loop (α := Nat × RSt × Option Addr × Nat × List (List Value) × List (List UInt8)) (fun y => [pureR (y.1 ≤ x ∧ Many (pBytes 16) x σ2 (x - y.1) y.2.1 y.2.2.2.2.2 ∧ (∀ c ∈ y.2.2.2.2.1, c.length = 1) ∧ y.2.2.2.2.2.length = y.1), rowR 68 1 y.2.2.1 y.1 y.2.2.2.1 y.2.2.2.2.1.flatten, ElR (RdBytes) y.2.2.2.2.1 y.2.2.2.2.2, RdrR TE ea g y.2.1]) (fun y => [(8, .slice y.2.2.1 y.1 y.2.2.2.1), (9, .int .i64 (y.1 : Int))]) [28, 29, 30, 31, 32, 33, 34, 35, 36, 37, 38, 39, 40, 41, 42, 43, 44, 45, 46] (fun y => x - y.1) (0, σ2, none, 0, [], []) ?_ ?_ ?_))
  ·refine env_start (by kernel_rfl)
  ·exact fun w' hw => zlp ⟨Nat.zero_le _, Many.start, (by intro c hc; cases hc), rfl⟩ (by repeat (first | exact Sel.nil | (apply Sel.cons; · (repeat (first | exact Pick.here | apply Pick.there))))) w' (hw.mapL fun F' hF' => stars_row_nil (e := 68) (size := 1) (el_nil (rd := RdBytes) hF'))
  ·intro y u; obtain ⟨k, τ, a, c, css, l⟩ := y; refine gc_pureR (fun hk => ?_)
   obtain ⟨hk, hmany, hcss, hll⟩ := hk; replace hk : k ≤ x := hk
   replace hll : l.length = k := hll
   replace hcss : ∀ c ∈ css, c.length = 1 := hcss
   replace hmany : Many (pBytes 16) x σ2 (x - k) τ l := hmany
   refine gc_seq (gc_seq ?_); by_cases hkx : k < x
   ·refine gc_region (zxm ?_); refine zxm ?_; refine gp (r_bool (c := true) zlt (decide_eq_true (by omega))) ?_; refine zxm ?_; refine gq zmv ?_; refine gq znc ?_; refine gq zfa ?_; refine gq zfa ?_; refine gq r_lde ?_; refine gq (r_eqnil rfl (by kernel_rfl)) ?_; refine gp zpk ?_; refine gnt (gif rfl (fun hc38 => ?_) (fun hc38 => ?_))
    ·try simp only at hc38
     have he2 : errOf τ = 0 := hc38
     refine gc_skip (gx_then (gc_seq (gc_block (gc_region (zxm ?_))))); refine zxm ?_; refine zxm ?_; refine gl_call (wt0 rfl) (e_callv (us := []) rfl Ty.call_130 rfl) (by repeat (first | exact Sel.nil | (apply Sel.cons; · (repeat (first | exact Pick.here | apply Pick.there))))) (fun w1 F1 F2 h1 h2 hd hst => rblock1_ok h1 (hE.mv hst.still)) ?_; rintro ⟨⟨a4, n4, c4⟩, v⟩
     refine gl_pureR (fun hag => ?_)
     obtain ⟨cs, hcs⟩ : ∃ cs : List Value, cs = [.slice a4 n4 c4] := ⟨_, rfl⟩; have hcl : cs.length = 1 := by rw [hcs]; rfl
     have i2 := One.of (l := cs) (by rw [hcs]; exact all_cons' rfl all_nil')
     refine ze1 fun b45 => ?_; rw [← hcs]; refine zapo (news := cs) (fun a46 c46 => ?_)
     refine zxa ?_; refine gl_nil (gx_block_normal (gx_then (gc_region (zxm ?_)))); refine gp zad ?_; refine zxa ?_; refine gl_nil (zrd ((k + 1, rstep (pBytes 16) τ, a46, c46, css ++ [cs], l ++ [v])) ?_ ?_)
     ·show x - (k + 1) < x - k
      omega
     ·rintro w' hw
      have h1 := hw.conv (M := [ElR (RdBytes) css l, VlR (RdBytes) cs v]) (by repeat (first | exact Sel.nil | (apply Sel.cons; · (repeat (first | exact Pick.here | apply Pick.there))))) (fun _ _ => el_snoc)
      refine zlq (M' := [rowR 68 1 a46 (k + 1) c46 (css.flatten ++ cs), ElR (RdBytes) (css ++ [cs]) (l ++ [v]), RdrR TE ea g (rstep (pBytes 16) τ)]) ⟨?_, ?_, ?_, ?_⟩ (by simp) (by repeat (first | exact Sel.nil | (apply Sel.cons; · (repeat (first | exact Pick.here | apply Pick.there))))) w' h1
      ·show k + 1 ≤ x; omega
      ·rw [show x - k = x - (k + 1) + 1 by omega] at hmany; exact hmany.next hag
      ·intro c' hc'; rcases List.mem_append.1 hc' with h | h; exact hcss c' h; rw [List.mem_singleton.1 h]; exact hcl
      ·simp [hll]
    ·try simp only at hc38
     have he2 : ¬ errOf τ = 0 := hc38
     refine gc_exit ?_; refine gx_then_exit ?_; refine gx_round_exit ?_; refine gx_block_hit ?_; refine gx_then (gc_seq (gsr (zxm ?_))); refine gp znc ?_; refine gp zfa ?_; refine gp zfa ?_; refine gp r_lde ?_; refine gp (r_nenil rfl (by kernel_rfl)) ?_; refine gnt (gif rfl (fun hc52 => ?_) (fun hc52 => ?_))
     ·try simp only at hc52
      have hbad := hmany.bad hc52
      have hfin := list_fin hx hc2 ⟨hbad.1, hbad.2 []⟩
      refine gsr (zxa ?_); refine gnt (gc_ret (gx_then_ret (gx_ret1 rfl (by conv => lhs; whnf) ?_))); rw [hfin.1]; exact fun w' hw => ⟨(none, 0, 0, []), rfl, St.pureI ⟨hfin.2, Nat.le_refl _, rfl⟩ ((hw.sel (M := [RdrR TE ea g τ]) (by repeat (first | exact Sel.nil | (apply Sel.cons; · (repeat (first | exact Pick.here | apply Pick.there)))))).mapL fun F' hF' => ls_nil hF')⟩
     ·try simp only at hc52
      have hm0 : x - k = 0 := by first | omega | exact absurd hc52 he2
      rw [hm0] at hmany; have hfin := list_fin hx hc2 hmany.done
      refine gc_skip (gx_then (gsr (zxm ?_))); refine zxa ?_; refine gnt (gc_ret (gx_ret1 rfl (by conv => lhs; whnf) ?_)); rw [hfin.1]; intro w' hw; have hle := (hw.rowLe (e := 68) (size := 1) (a := a) (m := k) (c := c) (xs := css.flatten) (by repeat (first | exact Pick.here | apply Pick.there))).1
      exact ⟨(a, k, c, l), rfl, St.pureI ⟨hfin.2, hle, hll.symm⟩ ((hw.conv (M := [rowR 68 1 a k c css.flatten, ElR (RdBytes) css l]) (by repeat (first | exact Sel.nil | (apply Sel.cons; · (repeat (first | exact Pick.here | apply Pick.there))))) (fun _ _ => ls_of hcss)).z)⟩
   ·refine gc_region (zxm ?_); refine zxm ?_; refine gp (r_bool (c := false) zlt (decide_eq_false (by omega))) ?_; refine zxm ?_; refine gn ?_; refine gn ?_; refine gn ?_; refine gn ?_; refine gn ?_; refine gn ?_; refine gp zpk ?_; refine gnt (gc_condF rfl rfl ?_); refine gc_exit ?_; refine gx_then_exit ?_; refine gx_round_exit ?_; refine gx_block_hit ?_; refine gx_then (gc_seq (gsr (zxm ?_))); refine gp znc ?_; refine gp zfa ?_; refine gp zfa ?_; refine gp r_lde ?_; refine gp (r_nenil rfl (by kernel_rfl)) ?_; refine gnt (gif rfl (fun hc52 => ?_) (fun hc52 => ?_))
    ·try simp only at hc52
     have hbad := hmany.bad hc52
     have hfin := list_fin hx hc2 ⟨hbad.1, hbad.2 []⟩
     refine gsr (zxa ?_); refine gnt (gc_ret (gx_then_ret (gx_ret1 rfl (by conv => lhs; whnf) ?_))); rw [hfin.1]; exact fun w' hw => ⟨(none, 0, 0, []), rfl, St.pureI ⟨hfin.2, Nat.le_refl _, rfl⟩ ((hw.sel (M := [RdrR TE ea g τ]) (by repeat (first | exact Sel.nil | (apply Sel.cons; · (repeat (first | exact Pick.here | apply Pick.there)))))).mapL fun F' hF' => ls_nil hF')⟩
    ·try simp only at hc52
     have hm0 : x - k = 0 := by first | omega | exact absurd hc52 he2
     rw [hm0] at hmany; have hfin := list_fin hx hc2 hmany.done
     refine gc_skip (gx_then (gsr (zxm ?_))); refine zxa ?_; refine gnt (gc_ret (gx_ret1 rfl (by conv => lhs; whnf) ?_)); rw [hfin.1]; intro w' hw; have hle := (hw.rowLe (e := 68) (size := 1) (a := a) (m := k) (c := c) (xs := css.flatten) (by repeat (first | exact Pick.here | apply Pick.there))).1
     exact ⟨(a, k, c, l), rfl, St.pureI ⟨hfin.2, hle, hll.symm⟩ ((hw.conv (M := [rowR 68 1 a k c css.flatten, ElR (RdBytes) css l]) (by repeat (first | exact Sel.nil | (apply Sel.cons; · (repeat (first | exact Pick.here | apply Pick.there))))) (fun _ _ => ls_of hcss)).z)⟩
theorem rblock2_ok {w : World} {F : Nat → Prop} {TE : Nat} {ea : Nat → Addr} {g : Nat} {σ : RSt} (h : stars [RdrR TE ea g σ] w F) {es : List Nat} [Has es 1] [Has es 2] (hE : GErr es w (fun k => ¬ F k) TE ea) :
    Calls Tryz.prog 133 #[.pointer (some ⟨g, 0, none⟩)] w (Post w F (fun r : Vdr => .agg (List.toArray (dc r.key ++ [.int .i64 r.power]))) (fun r => [pureR (Ag pVdr σ r), RdrR TE ea g (rstep pVdr σ)])) := by
 refine g_enter (env := [(0, .pointer (some ⟨g, 0, none⟩))]) Tryz.func133 rfl h Tryz.ntmps133 rfl rfl ?_; refine gsr (zal fun b2 => ?_); refine zxs ?_; refine zxm ?_; refine zc (fun d4 => ?_) (c := fun w1 F1 F2 h1 h2 hd hst => takeDigest_ok h1 (hE.mv hst.still))
 refine gl_pureR (fun g4 => ?_)
 refine gp zfa ?_; refine zsN ?_; refine zxs ?_; refine zxm ?_; refine zc (fun y => ?_) (c := fun w1 F1 F2 h1 h2 hd hst => rnum_ok (wd := 6) h1 (hE.mv hst.still) (by decide) (by decide))
 refine gl_pureR (fun hp7 => ?_)
 obtain ⟨g7, _⟩ := hp7; refine gp zfa ?_; refine zs1 ?_; refine zxs ?_; refine gp zL ?_; refine zsN ?_; refine gnt (gc_ret (gx_retc rfl rfl (ldA Ty.row_78 Ty.sz_78) ?_)); have ha : Ag pVdr σ ⟨d4, y⟩ := g4.bind (g7.bind (Ag.pure _))
 have hr : rstep pVdr σ = rstep (pNum 6) (rstep pDig (σ)) := by rw [pVdr, rstep_bind g4, rstep_bind g7, rstep_pure]
 rw [hr]; exact fun w' hw => ⟨⟨d4, y⟩, rfl, St.pureI ha (hw.z)⟩
theorem takeVdrs_ok {w : World} {F : Nat → Prop} {TE : Nat} {ea : Nat → Addr} {g : Nat} {σ : RSt} (h : stars [RdrR TE ea g σ] w F) {es : List Nat} [Has es 1] [Has es 2] (hE : GErr es w (fun k => ¬ F k) TE ea) {most : Nat} (hm : most ≤ 255) :
    Calls Tryz.prog 132 #[.pointer (some ⟨g, 0, none⟩), .int .i64 (most : Int), .func (.func 133) #[] #[]] w (Post w F (fun r : Option Addr × Nat × Nat × List Vdr => .slice r.1 r.2.1 r.2.2.1) (fun r => [pureR (Ag (pList pVdr most) σ r.2.2.2 ∧ r.2.1 ≤ r.2.2.1 ∧ r.2.1 = r.2.2.2.length), LsR (fun _ _ => RdVdr) 17 r.1 r.2.1 r.2.2.2, RdrR TE ea g (rstep (pList pVdr most) σ)])) := by
 refine g_enter (env := [(0, .pointer (some ⟨g, 0, none⟩)), (1, .int .i64 (most : Int)), (2, .func (.func 133) #[] #[])]) Tryz.func132 rfl h Tryz.ntmps132 rfl rfl ?_; refine gsr (zxa ?_); refine zxs ?_; refine zxm ?_; refine zc (fun x => ?_) (c := fun w1 F1 F2 h1 h2 hd hst => rnum_ok (wd := 1) h1 (hE.mv hst.still) (by decide) (by decide))
 refine gl_pureR (fun hx => ?_)
 obtain ⟨hx, hxb⟩ := hx; have hx256 : x < 256 := by simpa using hxb
 refine zxa ?_; refine gnt (gc_join (α := RSt) (fun σ2 => [pureR ((if errOf (rstep (pNum 1) σ) = 0 ∧ most < x then failE 1 (rstep (pNum 1) σ) else rstep (pNum 1) σ) = σ2), RdrR TE ea g σ2]) (fun σ2 => []) [12, 13, 14, 15, 16, 17, 18, 19, 20, 21, 22, 23, 24, 25, 26, 27] ?_ ?_)
 ·refine gc_join (α := Bool) (fun z => [pureR (z = (decide (errOf (rstep (pNum 1) σ) = 0) && decide (most < x))), RdrR TE ea g (rstep (pNum 1) σ)]) (fun z => [(22, .bool z)]) [12, 13, 14, 15, 16, 17, 18, 19, 20, 21] ?_ ?_
  ·by_cases he : errOf (rstep (pNum 1) σ) = 0
   ·refine gc_region (zxm ?_); refine gp znc ?_; refine gp zfa ?_; refine gp zfa ?_; refine gp r_lde ?_; refine gp (r_bool (c := true) (r_eqnil rfl (by kernel_rfl)) (decide_eq_true he)) ?_; refine zxm ?_; refine gq zmv ?_; refine gq zmv ?_; refine gq (r_bool (b := decide ((most : Int) < (x : Int))) zgt rfl) ?_; refine gp zpk ?_; refine gl_nil (zjn (decide ((most : Int) < (x : Int))) ?_)
    ·exact zlp (by rw [decide_eq_true he, Bool.true_and]; exact decide_eq_decide.2 (by omega))
   ·refine gc_region (zxm ?_); refine gp znc ?_; refine gp zfa ?_; refine gp zfa ?_; refine gp r_lde ?_; refine gp (r_bool (c := false) (r_eqnil rfl (by kernel_rfl)) (decide_eq_false he)) ?_; refine zxm ?_; refine gn ?_; refine gn ?_; refine gn ?_; refine gp zpk ?_; refine gl_nil (zjn (false) ?_)
    ·exact zlp (by rw [decide_eq_false he]; rfl)
  ·intro z u; refine gc_pureR (fun hz => ?_)
   subst hz; refine gif rfl (fun hc22 => ?_) (fun hc22 => ?_)
   ·try simp only at hc22
    have hb : errOf (rstep (pNum 1) σ) = 0 ∧ most < x := by omega
    refine gc_regionT 4 (by kernel_rfl) (by kernel_rfl) ?_; refine sp zmv ?_; refine sp znc ?_; refine sp zfa ?_; refine sp (r_ld1o rfl Ty.row_53 (hE.c 1 Has.h) (hE.n 1 Has.h)) ?_; refine gs_nil ?_; refine zc (fun _ => ?_) (c := fun w1 F1 F2 h1 h2 hd hst => failR_ok (by decide) h1)
    refine gl_nil (zjn (failE 1 (rstep (pNum 1) σ)) ?_)
    ·exact zlp (if_pos hb)
   ·try simp only at hc22
    have hb : ¬ (errOf (rstep (pNum 1) σ) = 0 ∧ most < x) := by omega
    refine gc_skip (zjn ((rstep (pNum 1) σ)) ?_)
    ·exact zlp (if_neg hb)
 ·intro σ2 u; refine gc_pureR (fun hc2 => ?_)
  refine gsr (zxa ?_); refine gnt (gc_seq (gsr (zxa ?_))); refine gnt (gc_block (gc_loop (α := Nat × RSt × Option Addr × Nat × List (List Value) × List Vdr) (fun y => [pureR (y.1 ≤ x ∧ Many pVdr x σ2 (x - y.1) y.2.1 y.2.2.2.2.2 ∧ (∀ c ∈ y.2.2.2.2.1, c.length = 17) ∧ y.2.2.2.2.2.length = y.1), rowR 78 17 y.2.2.1 y.1 y.2.2.2.1 y.2.2.2.2.1.flatten, ElR (fun _ _ => RdVdr) y.2.2.2.2.1 y.2.2.2.2.2, RdrR TE ea g y.2.1]) (fun y => [(8, .slice y.2.2.1 y.1 y.2.2.2.1), (9, .int .i64 (y.1 : Int))]) [28, 29, 30, 31, 32, 33, 34, 35, 36, 37, 38, 39, 40, 41, 42, 43, 44, 45, 46] (fun y => x - y.1) (0, σ2, none, 0, [], []) ?_ ?_ ?_))
  ·refine env_start (by kernel_rfl)
  ·exact fun w' hw => zlp ⟨Nat.zero_le _, Many.start, (by intro c hc; cases hc), rfl⟩ (by repeat (first | exact Sel.nil | (apply Sel.cons; · (repeat (first | exact Pick.here | apply Pick.there))))) w' (hw.mapL fun F' hF' => stars_row_nil (e := 78) (size := 17) (el_nil (rd := fun _ _ => RdVdr) hF'))
  ·intro y u; obtain ⟨k, τ, a, c, css, l⟩ := y; refine gc_pureR (fun hk => ?_)
   obtain ⟨hk, hmany, hcss, hll⟩ := hk; replace hk : k ≤ x := hk
   replace hll : l.length = k := hll
   replace hcss : ∀ c ∈ css, c.length = 17 := hcss
   replace hmany : Many pVdr x σ2 (x - k) τ l := hmany
   refine gc_seq (gc_seq ?_); by_cases hkx : k < x
   ·refine gc_region (zxm ?_); refine zxm ?_; refine gp (r_bool (c := true) zlt (decide_eq_true (by omega))) ?_; refine zxm ?_; refine gq zmv ?_; refine gq znc ?_; refine gq zfa ?_; refine gq zfa ?_; refine gq r_lde ?_; refine gq (r_eqnil rfl (by kernel_rfl)) ?_; refine gp zpk ?_; refine gnt (gif rfl (fun hc38 => ?_) (fun hc38 => ?_))
    ·try simp only at hc38
     have he2 : errOf τ = 0 := hc38
     refine gc_skip (gx_then (gc_seq (gc_block (gc_region (zxm ?_))))); refine zxm ?_; refine zxm ?_; refine gl_call (wt0 rfl) (e_callv (us := []) rfl Ty.call_133 rfl) (by repeat (first | exact Sel.nil | (apply Sel.cons; · (repeat (first | exact Pick.here | apply Pick.there))))) (fun w1 F1 F2 h1 h2 hd hst => rblock2_ok h1 (hE.mv hst.still)) ?_; intro v; refine gl_pureR (fun hag => ?_)
     obtain ⟨cs, hcs⟩ : ∃ cs, cs = dc v.key ++ [.int .i64 v.power] := ⟨_, rfl⟩; have hcl : cs.length = 17 := by rw [hcs]; simp [dc_length]
     rw [← hcs]; have i1 := Len.of hcl
     have i2 := One.of (l := cs) (by rw [hcs]; exact all_app' (dc_one _) (all_cons' rfl all_nil'))
     refine gl_conv (M := []) (N := [VlR (fun _ _ => RdVdr) cs v]) Sel.nil (fun w F hF => vl_pure (show RdVdr cs v from hcs) hF) ?_; refine zeN fun b45 => ?_; refine zapo (news := cs) (fun a46 c46 => ?_)
     refine zxa ?_; refine gl_nil (gx_block_normal (gx_then (gc_region (zxm ?_)))); refine gp zad ?_; refine zxa ?_; refine gl_nil (zrd ((k + 1, rstep pVdr τ, a46, c46, css ++ [cs], l ++ [v])) ?_ ?_)
     ·show x - (k + 1) < x - k
      omega
     ·rintro w' hw
      have h1 := hw.conv (M := [ElR (fun _ _ => RdVdr) css l, VlR (fun _ _ => RdVdr) cs v]) (by repeat (first | exact Sel.nil | (apply Sel.cons; · (repeat (first | exact Pick.here | apply Pick.there))))) (fun _ _ => el_snoc)
      refine zlq (M' := [rowR 78 17 a46 (k + 1) c46 (css.flatten ++ cs), ElR (fun _ _ => RdVdr) (css ++ [cs]) (l ++ [v]), RdrR TE ea g (rstep pVdr τ)]) ⟨?_, ?_, ?_, ?_⟩ (by simp) (by repeat (first | exact Sel.nil | (apply Sel.cons; · (repeat (first | exact Pick.here | apply Pick.there))))) w' h1
      ·show k + 1 ≤ x; omega
      ·rw [show x - k = x - (k + 1) + 1 by omega] at hmany; exact hmany.next hag
      ·intro c' hc'; rcases List.mem_append.1 hc' with h | h; exact hcss c' h; rw [List.mem_singleton.1 h]; exact hcl
      ·simp [hll]
    ·try simp only at hc38
     have he2 : ¬ errOf τ = 0 := hc38
     refine gc_exit ?_; refine gx_then_exit ?_; refine gx_round_exit ?_; refine gx_block_hit ?_; refine gx_then (gc_seq (gsr (zxm ?_))); refine gp znc ?_; refine gp zfa ?_; refine gp zfa ?_; refine gp r_lde ?_; refine gp (r_nenil rfl (by kernel_rfl)) ?_; refine gnt (gif rfl (fun hc52 => ?_) (fun hc52 => ?_))
     ·try simp only at hc52
      have hbad := hmany.bad hc52
      have hfin := list_fin hx hc2 ⟨hbad.1, hbad.2 []⟩
      refine gsr (zxa ?_); refine gnt (gc_ret (gx_then_ret (gx_ret1 rfl (by conv => lhs; whnf) ?_))); rw [hfin.1]; exact fun w' hw => ⟨(none, 0, 0, []), rfl, St.pureI ⟨hfin.2, Nat.le_refl _, rfl⟩ ((hw.sel (M := [RdrR TE ea g τ]) (by repeat (first | exact Sel.nil | (apply Sel.cons; · (repeat (first | exact Pick.here | apply Pick.there)))))).mapL fun F' hF' => ls_nil hF')⟩
     ·try simp only at hc52
      have hm0 : x - k = 0 := by first | omega | exact absurd hc52 he2
      rw [hm0] at hmany; have hfin := list_fin hx hc2 hmany.done
      refine gc_skip (gx_then (gsr (zxm ?_))); refine zxa ?_; refine gnt (gc_ret (gx_ret1 rfl (by conv => lhs; whnf) ?_)); rw [hfin.1]; intro w' hw; have hle := (hw.rowLe (e := 78) (size := 17) (a := a) (m := k) (c := c) (xs := css.flatten) (by repeat (first | exact Pick.here | apply Pick.there))).1
      exact ⟨(a, k, c, l), rfl, St.pureI ⟨hfin.2, hle, hll.symm⟩ ((hw.conv (M := [rowR 78 17 a k c css.flatten, ElR (fun _ _ => RdVdr) css l]) (by repeat (first | exact Sel.nil | (apply Sel.cons; · (repeat (first | exact Pick.here | apply Pick.there))))) (fun _ _ => ls_of hcss)).z)⟩
   ·refine gc_region (zxm ?_); refine zxm ?_; refine gp (r_bool (c := false) zlt (decide_eq_false (by omega))) ?_; refine zxm ?_; refine gn ?_; refine gn ?_; refine gn ?_; refine gn ?_; refine gn ?_; refine gn ?_; refine gp zpk ?_; refine gnt (gc_condF rfl rfl ?_); refine gc_exit ?_; refine gx_then_exit ?_; refine gx_round_exit ?_; refine gx_block_hit ?_; refine gx_then (gc_seq (gsr (zxm ?_))); refine gp znc ?_; refine gp zfa ?_; refine gp zfa ?_; refine gp r_lde ?_; refine gp (r_nenil rfl (by kernel_rfl)) ?_; refine gnt (gif rfl (fun hc52 => ?_) (fun hc52 => ?_))
    ·try simp only at hc52
     have hbad := hmany.bad hc52
     have hfin := list_fin hx hc2 ⟨hbad.1, hbad.2 []⟩
     refine gsr (zxa ?_); refine gnt (gc_ret (gx_then_ret (gx_ret1 rfl (by conv => lhs; whnf) ?_))); rw [hfin.1]; exact fun w' hw => ⟨(none, 0, 0, []), rfl, St.pureI ⟨hfin.2, Nat.le_refl _, rfl⟩ ((hw.sel (M := [RdrR TE ea g τ]) (by repeat (first | exact Sel.nil | (apply Sel.cons; · (repeat (first | exact Pick.here | apply Pick.there)))))).mapL fun F' hF' => ls_nil hF')⟩
    ·try simp only at hc52
     have hm0 : x - k = 0 := by first | omega | exact absurd hc52 he2
     rw [hm0] at hmany; have hfin := list_fin hx hc2 hmany.done
     refine gc_skip (gx_then (gsr (zxm ?_))); refine zxa ?_; refine gnt (gc_ret (gx_ret1 rfl (by conv => lhs; whnf) ?_)); rw [hfin.1]; intro w' hw; have hle := (hw.rowLe (e := 78) (size := 17) (a := a) (m := k) (c := c) (xs := css.flatten) (by repeat (first | exact Pick.here | apply Pick.there))).1
     exact ⟨(a, k, c, l), rfl, St.pureI ⟨hfin.2, hle, hll.symm⟩ ((hw.conv (M := [rowR 78 17 a k c css.flatten, ElR (fun _ _ => RdVdr) css l]) (by repeat (first | exact Sel.nil | (apply Sel.cons; · (repeat (first | exact Pick.here | apply Pick.there))))) (fun _ _ => ls_of hcss)).z)⟩
theorem rblock_ok {w : World} {F : Nat → Prop} {TE : Nat} {ea : Nat → Addr} {g : Nat} {σ : RSt} (h : stars [RdrR TE ea g σ] w F) {es : List Nat} [Has es 1] [Has es 2] (hE : GErr es w (fun k => ¬ F k) TE ea) :
    Calls Tryz.prog 111 #[.agg (List.toArray [.pointer (some ⟨g, 0, none⟩)])] w (Post w F (fun r : List Value × Block => .agg r.1.toArray) (fun r => [pureR (Ag pBlock σ r.2 ∧ r.1.length = 39 ∧ ∀ v ∈ r.1, v.oneCell' = true), VlR RdBlock r.1 r.2, RdrR TE ea g (rstep pBlock σ)])) := by
 refine g_enter (env := [(0, .agg (List.toArray [.pointer (some ⟨g, 0, none⟩)]))]) Tryz.func111 rfl h Tryz.ntmps111 rfl rfl ?_; refine gsr (zbN fun b1 => ?_); refine zal fun b2 => ?_; refine zxs ?_; refine gp zL ?_; refine zc ?_ (c := fun w1 F1 F2 h1 h2 hd hst => rat_ok h1 (hE.mv hst.still))
 rintro ⟨x5, y5⟩
 refine gl_pureR (fun g5 => ?_)
 replace g5 : Ag pAt _ ((x5 : Int), (y5 : Int)) := g5
 refine zxm ?_; refine gp zex ?_; refine gp zex ?_; refine gp zfa ?_; refine zs1 ?_; refine gp zfa ?_; refine zs1 ?_; refine zxs ?_; refine gp zL ?_; refine zc (fun d11 => ?_) (c := fun w1 F1 F2 h1 h2 hd hst => rdigest_ok h1 (hE.mv hst.still))
 refine gl_pureR (fun g11 => ?_)
 refine gp zfa ?_; refine zsN ?_; refine zxs ?_; refine gp zL ?_; refine zc ?_ (c := fun w1 F1 F2 h1 h2 hd hst => rqc_ok h1 (hE.mv hst.still))
 rintro ⟨q14, v14⟩
 refine gl_pureR (fun hp14 => ?_)
 obtain ⟨g14, z14, o14⟩ := hp14; replace z14 : q14.length = _ := z14
 have i14 := Len.of z14
 have j14 := One.of (show ∀ v ∈ q14, v.oneCell' = true from o14)
 refine gp zfa ?_; refine zsN ?_; refine zxs ?_; refine gp zfa ?_; refine gp zl ?_; refine zc ?_ (c := fun w1 F1 F2 h1 h2 hd hst => takeTxs_ok (most := 4) h1 (hE.mv hst.still) (by decide))
 rintro ⟨a18, n18, c18, l18⟩
 refine gl_pureR (fun hp18 => ?_)
 obtain ⟨g18, k18, e18⟩ := hp18; replace g18 : Ag (pList (pBytes 16) 4) _ l18 := g18
 replace k18 : n18 ≤ c18 := k18
 refine gp zfa ?_; refine zs1 ?_; refine zxs ?_; refine gp zfa ?_; refine gp zl ?_; refine zc ?_ (c := fun w1 F1 F2 h1 h2 hd hst => takeVdrs_ok (most := 7) h1 (hE.mv hst.still) (by decide))
 rintro ⟨a22, n22, c22, l22⟩
 refine gl_pureR (fun hp22 => ?_)
 obtain ⟨g22, k22, e22⟩ := hp22; replace g22 : Ag (pList pVdr 7) _ l22 := g22
 replace k22 : n22 ≤ c22 := k22
 refine gp zfa ?_; refine zs1 ?_; refine zxs ?_; refine gp zL ?_; refine zsN ?_; refine gnt (gc_ret (gx_retc rfl rfl (ldA Ty.row_51 Ty.sz_51) ?_)); have ha : Ag pBlock σ ⟨x5, y5, d11, v14, l18, l22⟩ := g5.bind (g11.bind (g14.bind (g18.bind (g22.bind (Ag.pure _)))))
 have hr : rstep pBlock σ = rstep (pList pVdr 7) (rstep (pList (pBytes 16) 4) (rstep pQC (rstep pDig (rstep pAt (σ))))) := by rw [pBlock, rstep_bind g5, rstep_bind g11, rstep_bind g14, rstep_bind g18, rstep_bind g22, rstep_pure]
 rw [hr]; intro w' hw; refine ⟨(.int .i64 x5 :: .int .i64 y5 :: (dc d11 ++ (q14 ++ [.slice a18 n18 c18, .slice a22 n22 c22])), ⟨x5, y5, d11, v14, l18, l22⟩), rfl, St.pureI ⟨ha, by first | rfl | simp only [List.length_cons, List.length_append, List.length_nil, dc_length, len_L] , all_cons' rfl (all_cons' rfl (all_app' (dc_one _) (all_app' o14 (all_cons' rfl (all_cons' rfl all_nil')))))⟩ ?_⟩
 exact (hw.conv (M := [VlR RdQC q14 v14, LsR RdBytes 1 a18 n18 l18, LsR (fun _ _ => RdVdr) 17 a22 n22 l22]) (by repeat (first | exact Sel.nil | (apply Sel.cons; · (repeat (first | exact Pick.here | apply Pick.there))))) (fun _ _ => vl_block k18 k22)).z
end
section
def nilS : Value := .slice none 0 0
def i0 : Value := .int .i64 0
def sigC : List Value := [i0, nilS, nilS]
def sgnC : List Value := i0 :: sigC
def qcC : List Value := i0 :: i0 :: (dc dig0 ++ [nilS])
def tcC : List Value := [i0, i0, nilS]
def blkC : List Value := i0 :: i0 :: (dc dig0 ++ (qcC ++ [nilS, nilS]))
section zero
variable {w : World} {A : Nat → Prop}
theorem rdQC0 : RdQC w A qcC qc0 := ⟨none, 0, 0, rfl, Nat.le_refl _, RdList.nil⟩
theorem rdBlock0 : RdBlock w A blkC blk0 := ⟨qcC, none, 0, 0, none, 0, 0, rfl, rdQC0, Nat.le_refl _, RdList.nil, Nat.le_refl _, RdList.nil⟩
end zero
def voteC : List Value := i0 :: i0 :: (dc dig0 ++ sgnC)
def tmoC : List Value := i0 :: i0 :: (qcC ++ (tcC ++ sgnC))
def propC : List Value := blkC ++ (tcC ++ sgnC)
def chgC : List Value := [blkC, blkC, blkC].flatten ++ qcC
section zero2
variable {w : World} {A : Nat → Prop}
theorem rdChg0 : RdChg w A chgC chg0 := ⟨[blkC, blkC, blkC], qcC, rfl, (by intro x hx; simp only [List.mem_cons, List.not_mem_nil, or_false, or_self] at hx; subst hx; exact (rdBlock0 (w := w) (A := A)).len), rfl, rfl,
    (by intro i x b h1 h2
        have hx : x = blkC := by
          have := List.mem_of_getElem? h1
          simp only [List.mem_cons, List.not_mem_nil, or_false, or_self] at this; exact this
        have hb : b = blk0 := by
          have := List.mem_of_getElem? h2
          simp only [chg0, List.mem_cons, List.not_mem_nil, or_false, or_self] at this; exact this
        subst hx; subst hb; exact rdBlock0), rdQC0⟩
end zero2
def msgC (k : Int) (a b : Dig) : List Value := .int .i64 k :: (voteC ++ (tmoC ++ (propC ++ (dc a ++ (dc b ++ (blkC ++ chgC))))))
end
section
instance : Len voteC 22 := ⟨rfl⟩
instance : Len tmoC 28 := ⟨rfl⟩
instance : Len propC 46 := ⟨rfl⟩
instance : Len blkC 39 := ⟨rfl⟩
instance : Len chgC 136 := ⟨rfl⟩
instance : Len qcC 19 := ⟨rfl⟩
instance : Len sgnC 4 := ⟨rfl⟩
instance : Len tcC 3 := ⟨rfl⟩
theorem one_qcC : ∀ v ∈ qcC, v.oneCell' = true := (rdQC0 (w := default) (A := fun _ => True)).one
section
variable {w : World} {F : Nat → Prop}
end
def doneE : RSt → Nat
  | .error e => e
  | .ok [] => 0
  | .ok _ => 3
attribute [local irreducible] Gl Gc Gx Gs Runs Wt
theorem rdone_ok {w : World} {F : Nat → Prop} {TE : Nat} {ea : Nat → Addr} {g : Nat} {σ : RSt} (h : stars [RdrR TE ea g σ] w F) {es : List Nat} [Has es 3] (hE : GErr es w (fun k => ¬ F k) TE ea) :
    Calls Tryz.prog 125 #[.pointer (some ⟨g, 0, none⟩)] w (Post w F (fun _ : Unit => eV TE ea (doneE σ)) (fun _ => [RdrR TE ea g σ])) := by
 obtain ⟨s, a, c, hs, hc, h'⟩ := rr_open h; refine g_enter (env := [(0, .pointer (some ⟨g, 0, none⟩))]) Tryz.func125 rfl h' Tryz.ntmps125 rfl rfl ?_; refine gsr (zxa ?_); refine gnt (gc_seq (gc_seq ?_)); by_cases he : s.err = 0
 ·refine gc_region (zxm ?_); refine gp znc ?_; refine gp zfa ?_; refine gp zfa ?_; refine gp zl ?_; refine gp (r_bool (c := true) (r_eqnil rfl (by kernel_rfl)) (decide_eq_true he)) ?_; refine zxm ?_; refine gq zmv ?_; refine gq znc ?_; refine gq zfa ?_; refine gq zl ?_; refine gq zln ?_; refine gq zgt ?_; refine gp zpk ?_; refine gnt (gif rfl (fun hc16 => ?_) (fun hc16 => ?_))
  ·try simp only at hc16
   have e : doneE σ = 3 := by rw [← hs, WS.st, if_pos he]; cases hb : s.bs with | nil => (rw [hb] at hc16; simp at hc16) | cons x r => rfl
   refine gsr (gp (r_ld1o rfl Ty.row_53 (hE.c 3 Has.h) (hE.n 3 Has.h)) ?_); refine zxa ?_; refine gnt (gc_ret (gx_then_ret (gx_ret1 rfl (by conv => lhs; whnf) ?_))); rw [e]; exact fun w' hw => ⟨(), rfl, St.rdr (hw.sel (M := [blk g 244 [_, .slice a _ c], BtR a s.bs none []]) (by repeat (first | exact Sel.nil | (apply Sel.cons; · (repeat (first | exact Pick.here | apply Pick.there)))))) rfl rfl hs hc⟩
  ·try simp only at hc16
   have e : doneE σ = s.err := by rw [← hs, WS.st, if_pos he, he]; cases hb : s.bs with | nil => rfl | cons x r => (rw [hb] at hc16; simp at hc16; omega)
   refine gc_skip (gx_then (gsr (zxm ?_))); refine gp znc ?_; refine gp zfa ?_; refine gp zfa ?_; refine gp zl ?_; refine zxa ?_; refine gnt (gc_ret (gx_ret1 rfl (by conv => lhs; whnf) ?_)); rw [e]; exact fun w' hw => ⟨(), rfl, St.rdr (hw.sel (M := [blk g 244 [_, .slice a _ c], BtR a s.bs none []]) (by repeat (first | exact Sel.nil | (apply Sel.cons; · (repeat (first | exact Pick.here | apply Pick.there)))))) rfl rfl hs hc⟩
 ·refine gc_region (zxm ?_); refine gp znc ?_; refine gp zfa ?_; refine gp zfa ?_; refine gp zl ?_; refine gp (r_bool (c := false) (r_eqnil rfl (by kernel_rfl)) (decide_eq_false he)) ?_; refine zxm ?_; refine gn ?_; refine gn ?_; refine gn ?_; refine gn ?_; refine gn ?_; refine gn ?_; refine gp zpk ?_; refine gnt (gc_condF rfl rfl ?_); refine gc_skip (gx_then (gsr (zxm ?_))); refine gp znc ?_; refine gp zfa ?_; refine gp zfa ?_; refine gp zl ?_; refine zxa ?_; refine gnt (gc_ret (gx_ret1 rfl (by conv => lhs; whnf) ?_)); have e : doneE σ = s.err := by rw [← hs, WS.st, if_neg he]; rfl
  rw [e]; exact fun w' hw => ⟨(), rfl, St.rdr (hw.sel (M := [blk g 244 [_, .slice a _ c], BtR a s.bs none []]) (by repeat (first | exact Sel.nil | (apply Sel.cons; · (repeat (first | exact Pick.here | apply Pick.there)))))) rfl rfl hs hc⟩
end
section
instance : One qcC := ⟨one_qcC⟩
instance : One blkC := ⟨(rdBlock0 (w := default) (A := fun _ => True)).one⟩
instance : One sgnC := One.of (by unfold sgnC sigC; repeat (first | exact all_nil' | exact dc_one _ | exact One.h | refine all_cons' rfl ?_ | refine all_app' (dc_one _) ?_ | refine all_app' One.h ?_))
instance : One tcC := One.of (by unfold tcC; repeat (first | exact all_nil' | exact dc_one _ | exact One.h | refine all_cons' rfl ?_ | refine all_app' (dc_one _) ?_ | refine all_app' One.h ?_))
instance : One voteC := One.of (by unfold voteC; repeat (first | exact all_nil' | exact dc_one _ | exact One.h | refine all_cons' rfl ?_ | refine all_app' (dc_one _) ?_ | refine all_app' One.h ?_))
instance : One tmoC := One.of (by unfold tmoC; repeat (first | exact all_nil' | exact dc_one _ | exact One.h | refine all_cons' rfl ?_ | refine all_app' (dc_one _) ?_ | refine all_app' One.h ?_))
instance : One propC := One.of (by unfold propC; repeat (first | exact all_nil' | exact dc_one _ | exact One.h | refine all_cons' rfl ?_ | refine all_app' (dc_one _) ?_ | refine all_app' One.h ?_))
instance : One chgC := One.of (by unfold chgC; simp only [List.flatten_cons, List.flatten_nil, List.append_assoc, List.nil_append]; repeat (first | exact all_nil' | exact dc_one _ | exact One.h | refine all_cons' rfl ?_ | refine all_app' (dc_one _) ?_ | refine all_app' One.h ?_))
attribute [local irreducible] Gl Gc Gx Gs Runs Wt
attribute [local irreducible] voteC tmoC propC blkC chgC sgnC tcC qcC dc
end
section
def NoZ {α : Type} (p : PR α) : Prop := ∀ b, p b ≠ .error 0
theorem noz_pure {α : Type} (x : α) : NoZ (pPure x) := fun b h => by cases h
theorem noz_err {α : Type} {e : Nat} (h : e ≠ 0) : NoZ (pErr (α := α) e) := fun b hh => by injection hh with hh; exact h hh
theorem noz_take (n : Nat) : NoZ (pTake n) := fun b h => by unfold pTake at h; split at h <;> cases h
theorem noz_bind {α β : Type} {p : PR α} {f : α → PR β} (hp : NoZ p) (hf : ∀ x, NoZ (f x)) : NoZ (pBind p f) := fun b h => by
  unfold pBind at h
  split at h
  · rename_i e he; injection h with h; subst h; exact hp b he
  · rename_i x he; exact hf _ _ h
theorem noz_num (wd : Nat) : NoZ (pNum wd) := noz_bind (noz_take wd) fun _ => noz_pure _
theorem noz_dig : NoZ pDig := noz_bind (noz_take 16) fun _ => noz_pure _
theorem noz_many {α : Type} {p : PR α} (h : NoZ p) : ∀ n, NoZ (pMany p n)
  | 0 => noz_pure _
  | n + 1 => noz_bind h fun _ => noz_bind (noz_many h n) fun _ => noz_pure _
theorem noz_ite {α : Type} {c : Prop} [Decidable c] {p q : PR α} (hp : NoZ p) (hq : NoZ q) : NoZ (if c then p else q) := by split <;> assumption
theorem noz_list {α : Type} {p : PR α} (h : NoZ p) (most : Nat) : NoZ (pList p most) := noz_bind (noz_num 1) fun _ => noz_ite (noz_err (by decide)) (noz_many h _)
theorem noz_bytes (most : Nat) : NoZ (pBytes most) := noz_bind (noz_num 2) fun _ => noz_ite (noz_err (by decide)) (noz_take _)
theorem noz_sig : NoZ pSig := noz_bind (noz_num 1) fun _ => noz_bind (noz_list noz_dig 68) fun _ => noz_bind (noz_list noz_dig 5) fun _ => noz_pure _
theorem noz_signed : NoZ pSigned := noz_bind (noz_num 1) fun _ => noz_bind noz_sig fun _ => noz_pure _
theorem noz_at : NoZ pAt := noz_bind (noz_num 4) fun _ => noz_bind (noz_num 6) fun _ => noz_pure _
theorem noz_qc : NoZ pQC := noz_bind noz_at fun _ => noz_bind noz_dig fun _ => noz_bind (noz_list noz_signed 7) fun _ => noz_pure _
theorem noz_vdr : NoZ pVdr := noz_bind noz_dig fun _ => noz_bind (noz_num 6) fun _ => noz_pure _
theorem noz_block : NoZ pBlock := noz_bind noz_at fun _ => noz_bind noz_dig fun _ => noz_bind noz_qc fun _ => noz_bind (noz_list (noz_bytes 16) 4) fun _ => noz_bind (noz_list noz_vdr 7) fun _ => noz_pure _
def allE {α : Type} (p : PR α) (z : α) (b : List UInt8) : Nat × α := match pAll p b with
  | .ok m => (0, m)
  | .error k => (k, z)
theorem allE_fin {α : Type} {p : PR α} {z v : α} {b : List UInt8} (hp : NoZ p) (h : Ag p (.ok b) v) : doneE (rstep p (.ok b)) = (allE p z b).1 ∧ (doneE (rstep p (.ok b)) = 0 → (allE p z b).2 = v) ∧ (doneE (rstep p (.ok b)) ≠ 0 → (allE p z b).2 = z) := by
  unfold allE pAll
  cases hb : p b with
  | error e =>
    have he : e ≠ 0 := fun h0 => hp b (by rw [hb, h0])
    simp only [rstep, hb, doneE]
    exact ⟨trivial, fun h => absurd h he, fun _ => trivial⟩
  | ok x =>
    obtain ⟨y, r⟩ := x
    have hy := h b y r rfl hb
    cases r with
    | nil => simp only [rstep, hb, doneE, if_true]; exact ⟨trivial, fun _ => hy.symm, fun h => absurd rfl h⟩
    | cons c t => simp [rstep, hb, doneE]
instance {k : Int} {a b : Dig} : Len (msgC k a b) 304 := ⟨by rw [msgC]; simp only [List.length_cons, List.length_append, dc_length, len_L]⟩
instance {k : Int} {a b : Dig} : One (msgC k a b) := One.of (by unfold msgC; repeat (first | exact One.h | refine all_app' (dc_one _) ?_ | refine all_app' One.h ?_ | refine all_cons' rfl ?_))
attribute [local irreducible] Gl Gc Gx Gs Runs Wt
attribute [local irreducible] voteC tmoC propC blkC chgC sgnC tcC qcC dc msgC
end
section
theorem RdChg.one {w : World} {A : Nat → Prop} {cs : List Value} {x : Chg} (h : RdChg w A cs x) : ∀ v ∈ cs, v.oneCell' = true := by
  obtain ⟨css, q, rfl, hcl, hc3, hb3, hbs, hq⟩ := h
  refine all_app' (fun v hv => ?_) hq.one
  obtain ⟨c, hc, hvc⟩ := List.mem_flatten.1 hv
  obtain ⟨i, hi, e⟩ := List.getElem_of_mem hc
  exact (hbs i c (x.blocks[i]'(by omega)) (by rw [List.getElem?_eq_getElem hi, e]) (List.getElem?_eq_getElem (by omega))).one v hvc
attribute [local irreducible] Gl Gc Gx Gs Runs Wt
theorem odone_ok {w : World} {F : Nat → Prop} {g : Nat} {s : WS} (h : stars [OutR g s] w F) :
    Calls Tryz.prog 104 #[.pointer (some ⟨g, 0, none⟩)] w (Post w F (fun r : Option Addr × Nat => .tuple #[.slice r.1 (wOut (s)).length r.2, .int .i64 ((s).err : Int)]) (fun r => [rowR 5 1 r.1 (wOut (s)).length r.2 ((wOut (s)).map B8)])) := by
 obtain ⟨a0, c0, h'⟩ := out_open h; refine g_enter (env := [(0, .pointer (some ⟨g, 0, none⟩))]) Tryz.func104 rfl h' Tryz.ntmps104 rfl rfl ?_; refine gsr (zxa ?_); refine zxa ?_; refine gnt (gc_seq (gc_seq ?_)); by_cases he : s.err = 0
 ·refine gc_region (zxm ?_); refine gp znc ?_; refine gp zfa ?_; refine gp zl ?_; refine gp (r_bool (c := false) zni (by simp [he])) ?_; refine gnt (gc_condF rfl rfl ?_); refine gc_skip (gx_then (gsr (zxm ?_))); refine gp znc ?_; refine gp zfa ?_; refine gp zl ?_; refine zxa ?_; refine zxa ?_; refine gnt (gc_ret (gx_ret2 rfl (by conv => lhs; whnf) (by conv => lhs; whnf) ?_)); have e : wOut s = s.bs := by rw [wOut, if_pos he]
  rw [e]; exact fun w' hw => ⟨(a0, c0), by rw [he]; rfl, hw.z⟩
 ·refine gc_region (zxm ?_); refine gp znc ?_; refine gp zfa ?_; refine gp zl ?_; refine gp (r_bool (c := true) zni (by simp [he])) ?_; refine gnt (gc_condT rfl rfl ?_); refine gc_seq (gc_regionS (by kernel_rfl) (by kernel_rfl) ?_); refine sp zmv ?_; refine sp znc ?_; refine sp zfa ?_; refine sp zl ?_; refine sp zas ?_; refine sp zas ?_; refine gs_nil ?_; refine gx_then (gc_ret (gx_then_ret (gx_ret2 rfl (by conv => lhs; whnf) (by conv => lhs; whnf) ?_))); have e : wOut s = [] := by rw [wOut, if_neg he]
  rw [e]; exact fun w' hw => ⟨(none, 0), rfl, hw.rowNil.z⟩
theorem obytes_ok {w : World} {F : Nat → Prop} {cs : List Value} {x : Block} (h : stars [] w F) (hx : RdBlock w (fun k => ¬ F k) cs x) (ho : OkBlock x) :
    Calls Tryz.prog 84 #[.agg cs.toArray] w (Post w F (fun r : Option Addr × Nat => .tuple #[.slice r.1 (wOut (wBlock x ⟨0, []⟩)).length r.2, .int .i64 ((wBlock x ⟨0, []⟩).err : Int)]) (fun r => [rowR 5 1 r.1 (wOut (wBlock x ⟨0, []⟩)).length r.2 ((wOut (wBlock x ⟨0, []⟩)).map B8)])) := by
 have hl := RdBlock.len hx
 have il := Len.of hl
 have jl := One.of (RdBlock.one hx)
 refine g_enter (env := [(0, .agg cs.toArray)]) Tryz.func84 rfl h Tryz.ntmps84 rfl rfl ?_; refine gsr (zbN fun b1 => ?_); refine zxa ?_; refine zxa ?_; refine zxs ?_; refine gp (r_build (cs := [.slice none 0 0, .int .i64 0]) Ty.zc_205 Ty.pl_205 (by kernel_rfl)) ?_; refine zbN fun b6 => ?_; refine zxa ?_; refine zxs ?_; refine zxm ?_; refine gp (zLa (cs := cs)) ?_; refine gl_cz (M := [blk b6 205 [.slice none 0 0, .int .i64 0]]) (N := [OutR b6 ⟨0, []⟩]) (fun w F hF => out_mk (a := none) (c := 0) (xs := []) (by have := stars_row_nil (e := 5) (size := 1) hF; exact stars_swap this) rfl rfl rfl) ?_; refine zc (fun _ => ?_) (c := fun w1 F1 F2 h1 h2 hd hst => oblock_ok h1 (hx.mv hst.still) ho (by simp))
 refine zxs ?_; refine zxm ?_; refine zc (fun r11 => ?_) (c := fun w1 F1 F2 h1 h2 hd hst => odone_ok h1)
 refine gp zex ?_; refine gp zex ?_; refine zxa ?_; refine zxa ?_; refine gnt (gc_ret (gx_ret2 rfl (by conv => lhs; whnf) (by conv => lhs; whnf) ?_)); exact ze r11
end
section
structure NErr (w : World) (A : Nat → Prop) (ea : Nat → Addr) : Prop where
  g : GErr [1, 2, 3, 4, 5, 6, 7, 8, 9, 10, 11, 12, 13, 14, 15, 16, 17, 18] w A 251 ea
  c : ∀ i, 1 ≤ i → i ≤ 18 → (∃ c t, w.heap[(ea i).block]? = some (.cells c t (0, 0))) ∧ A (ea i).block
  j : ∀ i j, 1 ≤ i → i ≤ 18 → 1 ≤ j → j ≤ 18 → ea i = ea j → i = j
theorem NErr.mv {w w' : World} {A A' : Nat → Prop} {ea : Nat → Addr} (h : NErr w A ea) (k : Still w A w' A') : NErr w' A' ea :=
  ⟨h.g.mv k, fun i h1 h2 => by
    obtain ⟨⟨c, t, hc⟩, hA⟩ := h.c i h1 h2
    have hlt : (ea i).block < w.heap.size := (Array.getElem?_eq_some_iff.1 hc).1
    obtain ⟨e, hA'⟩ := k _ hlt hA
    exact ⟨⟨c, t, by rw [e]; exact hc⟩, hA'⟩, h.j⟩
attribute [local irreducible] Gl Gc Gx Gs Runs Wt
end
section
theorem vl_rd {α : Type} {rd : World → (Nat → Prop) → List Value → α → Prop} [RdK rd] {L L' : List Res} {w : World} {F1 F2 : Nat → Prop} {cs : List Value} {x : α} (h2 : stars L w F2) (hd : ∀ k, F1 k → ¬ F2 k) (hp : Pick L (VlR rd cs x) L') : rd w (fun k => ¬ F1 k) cs x := by
  obtain ⟨G1, G2, ⟨h, _⟩, _, hF, _⟩ := hp.stars h2
  exact RdK.mv h fun k _ hk => ⟨rfl, fun h1 => hd k h1 ((hF k).2 (.inl hk))⟩
theorem allE_ok {α : Type} {p : PR α} {z y : α} {b : List UInt8} (h : pAll p b = .ok y) : allE p z b = (0, y) := by unfold allE; rw [h]
theorem RdChg.three {w : World} {A : Nat → Prop} {cs : List Value} {x : Chg} (h : RdChg w A cs x) : x.blocks.length = 3 := by
  obtain ⟨css, q, h1, h2, h3, h4, h5, h6⟩ := h; exact h4
theorem block_max (x : Block) : (wOut (wBlock x ⟨0, []⟩)).length ≤ 8485 := by
  have e0 := wBlock_len x ⟨0, []⟩
  simp only [List.length_nil] at e0
  unfold wOut; split
  · omega
  · simp
instance : One chgC := One.of (rdChg0 (w := default) (A := fun _ => True)).one
attribute [local irreducible] Gl Gc Gx Gs Runs Wt
attribute [local irreducible] voteC tmoC propC blkC chgC sgnC tcC qcC dc msgC
theorem readBlk_ok {w : World} {F : Nat → Prop} {TE : Nat} {ea : Nat → Addr} {es : List Nat} [Has es 1] [Has es 2] [Has es 3] [Has es 4] {a : Option Addr} {n c : Nat} {b : List UInt8} (h : stars [] w F) (hE : GErr es w (fun k => ¬ F k) TE ea) (hx : RdRow w (fun k => ¬ F k) 1 a n (b.map B8)) (hb : n ≤ 1099511627776) :
    Calls Tryz.prog 110 #[.slice a n c, .func (.func 111) #[] #[]] w (Post w F (fun r : List Value => .tuple #[.agg r.toArray, eV TE ea (allE pBlock (blk0) b).1]) (fun r => [pureR (r.length = 39 ∧ ∀ v ∈ r, v.oneCell' = true), VlR RdBlock r (allE pBlock (blk0) b).2])) := by
 refine g_enter (env := [(0, .slice a n c), (1, .func (.func 111) #[] #[])]) Tryz.func110 rfl h Tryz.ntmps110 rfl rfl ?_; refine gsr (zal fun b4 => ?_); refine gl_eqc (cs' := blkC) (by repeat (first | exact Pick.here | apply Pick.there)) (by kernel_rfl) ?_; refine zxa ?_; refine zxs ?_; refine zxm ?_; refine zc (fun g => ?_) (c := fun w1 F1 F2 h1 h2 hd hst => newReader_ok (TE := TE) (ea := ea) h1 (hx.mv hst.still) hb)
 refine gp zbu ?_; refine zal fun b6 => ?_; refine zsN ?_; refine zxs ?_; refine zxm ?_; refine gp zL ?_; refine gl_call (wt0 rfl) (e_callv (us := []) rfl Ty.call_111 rfl) (by repeat (first | exact Sel.nil | (apply Sel.cons; · (repeat (first | exact Pick.here | apply Pick.there))))) (fun w1 F1 F2 h1 h2 hd hst => rblock_ok h1 (hE.mv hst.still)) ?_; rintro ⟨q15, v15⟩
 refine gl_pureR (fun hp15 => ?_)
 obtain ⟨g15, z15, o15⟩ := hp15; replace z15 : q15.length = _ := z15
 have i15 := Len.of z15
 have j15 := One.of (show ∀ v ∈ q15, v.oneCell' = true from o15)
 have hfin := allE_fin (z := blk0) noz_block g15
 refine zal fun b7 => ?_; refine gl_eqc (cs' := blkC) (by repeat (first | exact Pick.here | apply Pick.there)) (by kernel_rfl) ?_; refine zsN ?_; refine gnt (gc_seq (gsr (gp zfa ?_))); refine gp zl ?_; refine zc (fun _ => ?_) (c := fun w1 F1 F2 h1 h2 hd hst => rdone_ok h1 (hE.mv hst.still))
 refine zxa ?_; refine zxs ?_; refine zxm ?_; refine gp (r_bool (c := decide (¬ doneE (rstep pBlock (.ok b)) = 0)) (r_nenil rfl (by kernel_rfl)) (by simp)) ?_; refine gnt (gif rfl (fun hc20 => ?_) (fun hc20 => ?_))
 ·refine gsr (zal fun b9 => ?_); refine gl_eqc (cs' := blkC) (by repeat (first | exact Pick.here | apply Pick.there)) (by kernel_rfl) ?_; refine zxs ?_; refine gp zL ?_; refine zxm ?_; refine zsN ?_; refine zxa ?_; refine gnt (gc_ret (gx_then_ret (gx_retct rfl rfl (by conv => lhs; whnf) (ldA Ty.row_51 Ty.sz_51) ?_))); rw [← hfin.1, hfin.2.2 hc20]; intro w' hw; exact ⟨blkC, rfl, St.pureI ⟨Len.h, One.h⟩ ((hw.mapL fun F' hF' => vl_pure (rd := RdBlock) (show RdBlock _ _ (blkC) (blk0) from rdBlock0) hF').z)⟩
 ·refine gc_skip (gx_then (gsr (gp zL ?_))); refine zsN ?_; refine zxa ?_; refine gnt (gc_ret (gx_retct rfl rfl (by conv => lhs; whnf) (ldA Ty.row_51 Ty.sz_51) ?_)); have hc0 : doneE (rstep pBlock (.ok b)) = 0 := by omega
  rw [← hfin.1, hfin.2.1 hc0, hc0, eV_zero]; intro w' hw; exact ⟨q15, rfl, St.pureI ⟨z15, o15⟩ (hw.z)⟩
theorem readBlock_ok {w : World} {F : Nat → Prop} {TE : Nat} {ea : Nat → Addr} {es : List Nat} [Has es 1] [Has es 2] [Has es 3] [Has es 4] {a : Option Addr} {n c : Nat} {b : List UInt8} (h : stars [] w F) (hE : GErr es w (fun k => ¬ F k) TE ea) (hx : RdRow w (fun k => ¬ F k) 1 a n (b.map B8)) (hb : n ≤ 1099511627776) :
    Calls Tryz.prog 89 #[.slice a n c] w (Post w F (fun r : List Value => .tuple #[.agg r.toArray, eV TE ea (allE pBlock (blk0) b).1]) (fun r => [pureR (r.length = 39 ∧ ∀ v ∈ r, v.oneCell' = true), VlR RdBlock r (allE pBlock (blk0) b).2])) := by
 refine g_enter (env := [(0, .slice a n c)]) Tryz.func89 rfl h Tryz.ntmps89 rfl rfl ?_; refine gsr (zal fun b2 => ?_); refine gl_eqc (cs' := blkC) (by repeat (first | exact Pick.here | apply Pick.there)) (by kernel_rfl) ?_; refine zxa ?_; refine zxs ?_; refine zxm ?_; refine zc (fun q5 => ?_) (c := fun w1 F1 F2 h1 h2 hd hst => readBlk_ok h1 (hE.mv hst.still) (hx.mv hst.still) hb)
 refine gl_pureR (fun hq => ?_)
 have i5 := Len.of hq.1
 have j5 := One.of hq.2
 refine gp zex ?_; refine gp zex ?_; refine zsN ?_; refine zxa ?_; refine gnt (gc_ret (gx_retct rfl rfl (by conv => lhs; whnf) (ldA Ty.row_51 Ty.sz_51) ?_)); exact fun w' hw => ⟨q5, rfl, St.pureI hq (hw.z)⟩
end
section
section rows
variable {α : Type} [DecidableEq α]
def atK (k : α) : List (α × Value) → Nat → Option (Nat × Value)
  | [], _ => none
  | p :: l, i => if k = p.1 then some (i, p.2) else atK k l (i + 1)
def getK (k : α) (l : List (α × Value)) : Option Value := (atK k l 0).map (·.2)
def putK (k : α) (v : Value) : List (α × Value) → List (α × Value)
  | [] => [(k, v)]
  | p :: l => if k = p.1 then (k, v) :: l else p :: putK k v l
def delK (k : α) : List (α × Value) → List (α × Value)
  | [] => []
  | p :: l => if k = p.1 then l else p :: delK k l
def encK (K : α → Value) (l : List (α × Value)) : List (Value × Value) := l.map fun p => (K p.1, p.2)
theorem atK_none {k : α} {v : Value} : ∀ {l : List (α × Value)} {i : Nat}, atK k l i = none → putK k v l = l ++ [(k, v)] ∧ delK k l = l
  | [], _, _ => ⟨rfl, rfl⟩
  | p :: l, i, h => by
    simp only [atK] at h
    split at h
    · cases h
    · rename_i hne
      have ih := atK_none (v := v) h
      simp only [putK, delK, if_neg hne, ih.1, ih.2, List.cons_append, and_self]
theorem atK_some {k : α} {v u : Value} : ∀ {l : List (α × Value)} {i j : Nat}, atK k l i = some (j, u) → ∃ m, j = i + m ∧ l[m]? = some (k, u) ∧ putK k v l = l.set m (k, v) ∧ delK k l = l.eraseIdx m
  | [], _, _, h => by cases h
  | p :: l, i, j, h => by
    simp only [atK] at h
    split at h
    · rename_i he
      simp only [Option.some.injEq, Prod.mk.injEq] at h
      obtain ⟨rfl, rfl⟩ := h
      refine ⟨0, rfl, ?_, ?_, ?_⟩
      · simp [he]
      · simp only [putK, if_pos he, List.set_cons_zero]
      · simp only [delK, if_pos he, List.eraseIdx_cons_zero]
    · rename_i hne
      obtain ⟨m, h1, h2, h3, h4⟩ := atK_some (v := v) h
      refine ⟨m + 1, by omega, by simpa using h2, ?_, ?_⟩
      · simp only [putK, if_neg hne, h3, List.set_cons_succ]
      · simp only [delK, if_neg hne, h4, List.eraseIdx_cons_succ]
end rows
def kvs (es : Array MapEntry) : List (Value × Value) := es.toList.map fun e => (e.key, e.val)
theorem kvs_length (es : Array MapEntry) : (kvs es).length = es.size := by simp [kvs]
def mapR (g : Nat) (l : List (Value × Value)) : Res where
  on w F := (∀ k, F k ↔ k = g) ∧ ∃ es clock, w.heap[g]? = some (.map es clock) ∧ kvs es = l ∧ (∀ x ∈ es.toList, x.born < clock) ∧ (es.toList.map (fun e : MapEntry => e.born)).Nodup
  loc := fun ⟨hF, es, clock, h, r⟩ hk => ⟨hF, es, clock, (hk g ((hF g).2 rfl)).trans h, r⟩
  ok := fun ⟨hF, es, clock, h, _⟩ k hk => by
    rw [(hF k).1 hk]
    exact ⟨_, h, trivial⟩
def itR (b g : Nat) (l left : List (Value × Value)) (last : Option (Value × Value)) : Res where
  on w F := (∀ k, F k ↔ k = b ∨ k = g) ∧ b ≠ g ∧ ∃ es clock since c0 seen, w.heap[g]? = some (.map es clock) ∧ w.heap[b]? = some (.mapIter (some g) since seen c0) ∧ kvs es = l ∧ (∀ x ∈ es.toList, x.born < clock) ∧ (es.toList.map (fun e : MapEntry => e.born)).Nodup ∧
    (∀ x ∈ es.toList, x.born < since) ∧ since ≤ c0 ∧ since ≤ clock ∧ kvs (es.filter fun e => !seen.contains e.born) = left ∧ ∀ p, last = some p → c0 = clock ∧ ∃ e, e ∈ es.toList ∧ seen.back? = some e.born ∧ (e.key, e.val) = p
  loc := fun ⟨hF, hne, es, clock, since, c0, seen, h, hb, r⟩ hk => ⟨hF, hne, es, clock, since, c0, seen, (hk g ((hF g).2 (.inr rfl))).trans h, (hk b ((hF b).2 (.inl rfl))).trans hb, r⟩
  ok := fun ⟨hF, _, es, clock, since, c0, seen, h, hb, _⟩ k hk => by
    rcases (hF k).1 hk with rfl | rfl
    · exact ⟨_, hb, trivial⟩
    · exact ⟨_, h, trivial⟩
class KeyT (P : Program) (T : TypeId) {α : Type} [DecidableEq α] (K : α → Value) : Prop where
  check : ∀ (w : World) (b : Bool) (k : α), (Instr.checkKey b 10000 T (K k)).run P w = .ok () w
  find : ∀ (w : World) (k : α) (es : List MapEntry) (l : List (α × Value)), es.map (fun e => (e.key, e.val)) = encK K l → (Instr.findKey T (K k) es).run P w = .ok (atK k l 0) w
  stays : ∀ (w : World) (k : α), (Instr.keyThatStays (K k) (K k)).run P w = .ok (K k) w
theorem findNow_int {ty : TypeDesc} {kd : IntKind} (hty : ty = .int kd) (k : Int) : ∀ (es : List MapEntry) (l : List (Int × Value)) (i : Nat), es.map (fun e => (e.key, e.val)) = encK (Value.int kd) l → Instr.findNow ty (.int kd k) es i = some (atK k l i)
  | [], l, i, h => by
    cases l with
    | nil => rfl
    | cons p l => simp [encK] at h
  | e :: es, l, i, h => by
    cases l with
    | nil => simp [encK] at h
    | cons p l =>
      simp only [encK, List.map_cons, List.cons.injEq, Prod.mk.injEq] at h
      obtain ⟨⟨h1, h2⟩, h3⟩ := h
      subst hty
      simp only [Instr.findNow, h1, Instr.sameNow, if_pos, atK, h2]
      by_cases hk : k = p.1
      · simp [hk]
      · simp only [hk, if_false, beq_eq_false_iff_ne.2 hk]
        exact findNow_int rfl k es l (i + 1) h3
theorem keyT_int {P : Program} {T : TypeId} {kd : IntKind} (h : P.underlying T = some (.int kd)) : KeyT P T (Value.int kd) where
  check w b k := by
    rw [show (10000 : Nat) = 9999 + 1 from rfl]
    exact MapKept.run_checkKey (d := .int kd) h (by rfl) b 9999
  find w k es l he := MapKept.run_findKey h (findNow_int rfl k es l 0 he)
  stays w k := by simp [Instr.keyThatStays, Instr.sameBits]
theorem findAsking_dig {P : Program} {T e : TypeId} (ht : arrT P T = some (16, e)) (he : P.underlying e = some (.int .u8)) (hs : szT P e = some 1) (w : World) (k : Dig) : ∀ (es : List MapEntry) (l : List (Dig × Value)) (i : Nat),
    es.map (fun e => (e.key, e.val)) = encK (fun d => Value.agg (dc d).toArray) l → (Instr.findAsking T (.agg (dc k).toArray) es i).run P w = .ok (atK k l i) w
  | [], l, i, h => by
    cases l with
    | nil => rfl
    | cons p l => simp [encK] at h
  | e' :: es, l, i, h => by
    cases l with
    | nil => simp [encK] at h
    | cons p l =>
      simp only [encK, List.map_cons, List.cons.injEq, Prod.mk.injEq] at h
      obtain ⟨⟨h1, h2⟩, h3⟩ := h
      have hq : (Op.equal T (.agg (dc k).toArray) (.agg (dc p.1).toArray)).run P w = .ok (decide (k = p.1)) w := run_equal_dig ht he hs
      simp only [Instr.findAsking, h1, Sem.run_bind, hq, Result.andThen_ok, atK, h2]
      by_cases hk : k = p.1
      · simp [hk]
      · simp only [hk, decide_false, if_false, Bool.false_eq_true]
        exact findAsking_dig ht he hs w k es l (i + 1) h3
theorem run_forIn_list {P : Program} {w : World} {f : Nat → PUnit → Sem (ForInStep PUnit)} : ∀ (l : List Nat), (∀ i ∈ l, (f i ⟨⟩).run P w = .ok (.yield ⟨⟩) w) → (forIn l ⟨⟩ f).run P w = .ok ⟨⟩ w
  | [], _ => by simp
  | i :: l, h => by
    have h1 := h i (by simp)
    have ih := run_forIn_list (f := f) l fun j hj => h j (by simp [hj])
    simp only [List.forIn_cons, Sem.run_bind, h1, Result.andThen_ok, ih]
theorem sameBits_zip (n : Nat) : ∀ (l : List UInt8), ((l.map B8).zip (l.map B8)).all (fun p => Instr.sameBits (n + 1) p.1 p.2) = true
  | [] => rfl
  | b :: l => by
    simp only [List.map_cons, List.zip_cons_cons, List.all_cons, sameBits_zip n l, Bool.and_true]
    simp [B8, Instr.sameBits]
theorem keyT_dig {P : Program} {T e : TypeId} (ht : arrT P T = some (16, e)) (he : P.underlying e = some (.int .u8)) (hs : szT P e = some 1) : KeyT P T (fun d : Dig => Value.agg (dc d).toArray) where
  check w b k := by
    have hr : rowT P e = some false := by simp [rowT, he]
    have hz : ∀ w, (sizeOf e).run P w = .ok 1 w := fun w => run_sz hs
    show (Instr.checkKey b (9999 + 1) T _).run P w = _
    unfold Instr.checkKey
    simp only [Sem.run_bind, run_underlying (run_arrT ht), Result.andThen_ok]
    simp only [Std.Legacy.Range.forIn_eq_forIn_range', Std.Legacy.Range.size, Nat.sub_zero, Nat.add_one_sub_one, Nat.div_one]
    rw [run_forIn_list]
    · rfl
    intro i hi
    have hi16 : i < (dc k).length := by
      have := List.mem_range'_1.1 hi
      rw [dc_length]; simp at this; omega
    have hv : (dc k)[i * 1]? = some (B8 (k.l.getD i 0)) := by
      have h2 : i < k.l.length := by rw [dc_length] at hi16; rw [k.h]; exact hi16
      simp [dc, List.getD, h2]
    simp only [Sem.run_bind, hz, Result.andThen_ok, run_part1 hr hv]
    unfold Instr.checkKey
    simp [run_underlying he, B8]
  find w k es l h := by
    have hu := run_arrT ht
    cases es with
    | nil =>
      cases l with
      | nil => simp [Instr.findKey, run_underlying hu, Instr.findNow, atK]
      | cons p l => simp [encK] at h
    | cons e1 es =>
      have : Instr.findNow (.array 16 e) (.agg (dc k).toArray) (e1 :: es) 0 = none := by simp [Instr.findNow, Instr.sameNow]
      simp only [Instr.findKey, Sem.run_bind, run_underlying hu, Result.andThen_ok, this]
      exact findAsking_dig ht he hs w k (e1 :: es) l 0 h
  stays w k := by
    have h : Instr.sameBits (9998 + 1 + 1) (.agg (dc k).toArray) (.agg (dc k).toArray) = true := by
      have := sameBits_zip 9998 k.l
      unfold Instr.sameBits
      simpa [dc] using this
    show ((if Instr.sameBits (9998 + 1 + 1) (.agg (dc k).toArray) (.agg (dc k).toArray) = true then _ else _ : Sem Value)).run P w = _
    rw [if_pos h]
    simp
section
variable {P : Program} {w0 : World} {F0 : Nat → Prop} {L : List Res}
theorem St.pushR {w : World} {o : Obj} {r : Res} (hs : St w0 F0 L w) (hr : ∀ w' : World, w'.heap[w.heap.size]? = some o → r.on w' (fun k => k = w.heap.size)) : St w0 F0 (r :: L) { w with heap := w.heap.push o } := by
  obtain ⟨F, hF, hst⟩ := hs
  refine ⟨fun k => k = w.heap.size ∨ F k, ⟨fun k => k = w.heap.size, F, hr _ (by simp), ?_, fun k => Iff.rfl, ?_⟩, ?_⟩
  · exact stars_loc hF fun k hk => by
      have := stars_lt hF k hk
      simp [Array.getElem?_push, Nat.ne_of_lt this]
  · rintro k rfl hk
    exact absurd (stars_lt hF _ hk) (Nat.lt_irrefl _)
  · have hsz := hst.size
    refine ⟨hst.os, hst.tape, hst.output, by simp; omega, fun k hk hn => ?_, ?_⟩
    · rw [← hst.block k hk hn]
      show (w.heap.push _)[k]? = _
      rw [Array.getElem?_push, if_neg (by omega)]
    · rintro k (rfl | hk)
      · exact .inr hsz
      · exact hst.own k hk
theorem St.setR {w : World} {g : Nat} {o' : Obj} {r r' : Res} {L' : List Res} (hs : St w0 F0 L w) (hp : Pick L r L') (hg : ∀ F, r.on w F → F g ∧ g < w.heap.size)
    (hr : ∀ (w' : World) F, r.on w F → w'.heap[g]? = some o' → (∀ k, k ≠ g → w'.heap[k]? = w.heap[k]?) → r'.on w' F) : St w0 F0 (r' :: L') { w with heap := w.heap.setIfInBounds g o' } := by
  obtain ⟨F, hF, hst⟩ := hs
  obtain ⟨F1, F2, h1, h2, hE, hd⟩ := hp.stars hF
  obtain ⟨hg1, hlt⟩ := hg F1 h1
  refine ⟨F, ⟨F1, F2, hr _ F1 h1 (by simp [hlt]) (fun k hk => by simp [Array.getElem?_setIfInBounds, Ne.symm hk]), ?_, hE, hd⟩, ?_⟩
  · refine stars_loc h2 fun k hk => ?_
    have : ¬ g = k := fun e => hd k (e ▸ hg1) hk
    simp [Array.getElem?_setIfInBounds, this]
  · refine ⟨hst.os, hst.tape, hst.output, by simpa using hst.size, fun k hk hn => ?_, hst.own⟩
    rw [← hst.block k hk hn]
    have : ¬ g = k := fun e => (hst.old hk hn).2 ((hE k).2 (.inl (e ▸ hg1)))
    simp [Array.getElem?_setIfInBounds, this]
theorem St.mapAt {w : World} {g : Nat} {l : List (Value × Value)} {L' : List Res} (hs : St w0 F0 L w) (hp : Pick L (mapR g l) L') : ∃ es clock, w.heap[g]? = some (.map es clock) ∧ kvs es = l ∧ (∀ x ∈ es.toList, x.born < clock) ∧ (es.toList.map (·.born)).Nodup := by
  obtain ⟨F, hF, _⟩ := hs
  obtain ⟨F1, h1, _⟩ := stars_pick hp hF
  exact h1.2
variable {Q : Exit → Act → World → Prop} {n : Fm} {env : Env} {ops : Array Oper} {rest : List Oper}
variable {d : Option Tmp} {t : Tmp} {ty : TypeId} {pos : String} {af : Array Edge} {gd : Option (Nat × Bool)}
theorem gl_mkMap {T : TypeId} (hw : Wt ops n env ⟨some t, .makeMap T none, ty, pos, af, gd⟩ true) (k : ∀ g, Gl P w0 F0 (mapR g [] :: L) ops Q rest n ((t, .map (some g)) :: env)) : Gl P w0 F0 L ops Q (⟨some t, .makeMap T none, ty, pos, af, gd⟩ :: rest) n env := by
  refine gl_effx (α := Nat) (L' := fun g => mapR g [] :: L) (v := fun g => .map (some g)) hw (fun w hst => ?_) k
  refine ⟨w.heap.size, { w with heap := w.heap.push (.map #[] 0) }, ?_, hst.pushR fun w' h => ⟨fun k => Iff.rfl, #[], 0, h, rfl, by simp, by simp⟩⟩
  simp [execOp, Instr.makeMap, newObj, Sem.run]
variable {α : Type} [DecidableEq α] {K : α → Value}
theorem r_look {x y : Operand} {T kt e g : Nat} {l : List (α × Value)} {L' : List Res} {z : Value} {key : α} {b : Bool} [KeyT P kt K] (hx : ev n env x = .map (some g)) (hy : ev n env y = K key) (hm : P.underlying T = some (.map kt e)) (hz : zeroT P e = some z) (hp : Pick L (mapR g (encK K l)) L') :
    Runs P w0 F0 L n env ⟨d, .lookup T x y b, ty, pos, af, gd⟩ (if b then .tuple #[(getK key l).getD z, .bool (getK key l).isSome] else (getK key l).getD z) := fun w hst => by
  obtain ⟨es, clock, hh, hk, _⟩ := hst.mapAt hp
  have hf := KeyT.find (P := P) (T := kt) (K := K) w key es.toList l hk
  have hc := KeyT.check (P := P) (T := kt) (K := K) w es.isEmpty key
  simp only [execOp, hx, hy, Instr.lookup, Sem.run_bind, run_underlying hm, Result.andThen_ok, MapKept.run_getObj_map hh, Sem.run_pure, hc, hf, getK]
  cases atK key l 0 with
  | none => simp only [Sem.run_bind, run_zeroT hz, Result.andThen_ok, Sem.run_pure]; cases b <;> rfl
  | some p => simp only [Sem.run_pure, Result.andThen_ok]; cases b <;> rfl
theorem kvs_modify {es : Array MapEntry} {m : Nat} {k v : Value} : kvs (es.modify m fun e => { e with key := k, val := v }) = (kvs es).set m (k, v) := by
  apply List.ext_getElem?
  intro i
  simp only [kvs, List.getElem?_map, Array.getElem?_toList, Array.getElem?_modify, List.getElem?_set, List.length_map, Array.length_toList]
  by_cases h : m = i
  · subst h
    by_cases hi : m < es.size
    · simp [hi]
    · simp [hi]
  · simp [h]
theorem born_modify {es : Array MapEntry} {m : Nat} {k v : Value} : (es.modify m fun e => { e with key := k, val := v }).toList.map (·.born) = es.toList.map (·.born) := by
  apply List.ext_getElem?
  intro i
  simp only [List.getElem?_map, Array.getElem?_toList, Array.getElem?_modify]
  by_cases h : m = i
  · subst h; cases es[m]? <;> simp
  · simp [h]
theorem all_born {es es' : Array MapEntry} {clock : Nat} (h : ∀ x ∈ es.toList, x.born < clock) (e : es'.toList.map (·.born) = es.toList.map (·.born)) : ∀ x ∈ es'.toList, x.born < clock := fun x hx => by
  have : x.born ∈ es.toList.map (·.born) := by rw [← e]; exact List.mem_map.2 ⟨x, hx, rfl⟩
  obtain ⟨y, hy, h2⟩ := List.mem_map.1 this
  rw [← h2]; exact h y hy
theorem encK_set {l : List (α × Value)} {m : Nat} {k : α} {v : Value} : encK K (l.set m (k, v)) = (encK K l).set m (K k, v) := by simp [encK, List.map_set]
theorem encK_append {l : List (α × Value)} {k : α} {v : Value} : encK K (l ++ [(k, v)]) = encK K l ++ [(K k, v)] := by simp [encK]
theorem encK_get {l : List (α × Value)} {m : Nat} {k : α} {v : Value} (h : l[m]? = some (k, v)) : (encK K l)[m]? = some (K k, v) := by simp [encK, h]
theorem gl_put {x y u : Operand} {T kt e g : Nat} {l : List (α × Value)} {L' : List Res} {key : α} {v : Value} [KeyT P kt K] (hw : Wt ops n env ⟨d, .mapUpdate T x y u, ty, pos, af, gd⟩ true) (hx : ev n env x = .map (some g)) (hy : ev n env y = K key) (hu : ev n env u = v)
    (hm : P.underlying T = some (.map kt e)) (hp : Pick L (mapR g (encK K l)) L') (k : Gl P w0 F0 (mapR g (encK K (putK key v l)) :: L') ops Q rest n (pu d undef env)) : Gl P w0 F0 L ops Q (⟨d, .mapUpdate T x y u, ty, pos, af, gd⟩ :: rest) n env :=
  gl_skip hw (fun w hst => by
    obtain ⟨es, clock, hh, hk, hb, hn⟩ := hst.mapAt hp
    have hlt : g < w.heap.size := (Array.getElem?_eq_some_iff.1 hh).1
    have hf := KeyT.find (P := P) (T := kt) (K := K) w key es.toList l hk
    have hc := KeyT.check (P := P) (T := kt) (K := K) w false key
    cases ha : atK key l 0 with
    | none =>
      refine ⟨{ w with heap := w.heap.setIfInBounds g (.map (es.push ⟨K key, v, clock⟩) (clock + 1)) }, ?_, ?_⟩
      · simp only [execOp, hx, hy, hu, Instr.mapUpdate, Sem.run_bind, run_underlying hm, Result.andThen_ok, MapKept.run_getObj_map hh, hc, hf, ha, MapKept.run_setObj_map _ hh]
        rfl
      · refine hst.setR hp (fun F h => ⟨(h.1 g).2 rfl, hlt⟩) (fun w' F h hg' _ => ⟨h.1, _, _, hg', ?_, ?_, ?_⟩)
        · rw [(atK_none (v := v) ha).1, encK_append, ← hk]; simp [kvs]
        · intro z hz
          simp only [Array.toList_push, List.mem_append, List.mem_singleton] at hz
          rcases hz with hz | rfl
          · have := hb z hz; omega
          · exact Nat.lt_succ_self _
        · simp only [Array.toList_push, List.map_append, List.map_cons, List.map_nil]
          refine List.nodup_append.2 ⟨hn, by simp, ?_⟩
          intro a ha' b hb' e
          obtain ⟨z, hz, rfl⟩ := List.mem_map.1 ha'
          simp only [List.mem_singleton] at hb'
          have := hb z hz
          omega
    | some p =>
      obtain ⟨j, u0⟩ := p
      obtain ⟨m, rfl, h2, h3, _⟩ := atK_some (v := v) ha
      rw [Nat.zero_add] at ha
      have hkey : ((es[m]?).map (·.key)).getD (K key) = K key := by
        have := encK_get (K := K) h2
        rw [← hk, kvs, List.getElem?_map, Array.getElem?_toList] at this
        cases he : es[m]? with
        | none => rfl
        | some e' => rw [he] at this; simp at this; simp [this.1]
      refine ⟨{ w with heap := w.heap.setIfInBounds g (.map (es.modify m fun e => { e with key := K key, val := v }) clock) }, ?_, ?_⟩
      · simp only [execOp, hx, hy, hu, Instr.mapUpdate, Sem.run_bind, run_underlying hm, Result.andThen_ok, MapKept.run_getObj_map hh, hc, hf, ha, hkey, KeyT.stays (P := P) (T := kt) (K := K), MapKept.run_setObj_map _ hh]
        rfl
      · refine hst.setR hp (fun F h => ⟨(h.1 g).2 rfl, hlt⟩) (fun w' F h hg' _ => ⟨h.1, _, _, hg', ?_, ?_, ?_⟩)
        · rw [kvs_modify, h3, encK_set, ← hk]
        · exact all_born hb born_modify
        · rw [born_modify]; exact hn) k
theorem gl_clear {x : Operand} {T kt e g : Nat} {l : List (Value × Value)} {L' : List Res} (hw : Wt ops n env ⟨d, .call ⟨.builtin .clear, #[x], #[T]⟩, ty, pos, af, gd⟩ true) (hx : ev n env x = .map (some g)) (hm : P.underlying T = some (.map kt e)) (hp : Pick L (mapR g l) L')
    (k : Gl P w0 F0 (mapR g [] :: L') ops Q rest n (pu d (.tuple #[]) env)) : Gl P w0 F0 L ops Q (⟨d, .call ⟨.builtin .clear, #[x], #[T]⟩, ty, pos, af, gd⟩ :: rest) n env :=
  gl_eff hw (fun w hst => by
    obtain ⟨es, clock, hh, hk, _⟩ := hst.mapAt hp
    have hlt : g < w.heap.size := (Array.getElem?_eq_some_iff.1 hh).1
    refine ⟨{ w with heap := w.heap.setIfInBounds g (.map #[] clock) }, ?_, hst.setR hp (fun F h => ⟨(h.1 g).2 rfl, hlt⟩) (fun w' F h hg' _ => ⟨h.1, _, _, hg', rfl, by simp, by simp⟩)⟩
    simp only [execOp, resolve, invoke, builtin, Builtin.clear_, hx]
    simp [run_underlying hm, MapKept.run_getObj_map hh, MapKept.run_setObj_map _ hh, hx, Builtin.clear_]) k
theorem St.pushR2 {w : World} {o : Obj} {r r' : Res} {L' : List Res} (hs : St w0 F0 L w) (hp : Pick L r L') (hr : ∀ (w' : World) F, r.on w F → w'.heap[w.heap.size]? = some o → (∀ k, k < w.heap.size → w'.heap[k]? = w.heap[k]?) → r'.on w' (fun k => k = w.heap.size ∨ F k)) :
    St w0 F0 (r' :: L') { w with heap := w.heap.push o } := by
  obtain ⟨F, hF, hst⟩ := hs
  have hlt := stars_lt hF
  obtain ⟨F1, F2, h1, h2, hE, hd⟩ := hp.stars hF
  have hold : ∀ k, k < w.heap.size → (w.heap.push o)[k]? = w.heap[k]? := fun k hk => by rw [Array.getElem?_push, if_neg (by omega)]
  refine ⟨fun k => k = w.heap.size ∨ F k, ⟨fun k => k = w.heap.size ∨ F1 k, F2, hr _ F1 h1 (by simp) hold, stars_loc h2 fun k hk => hold k (hlt k ((hE k).2 (.inr hk))), fun k => ?_, ?_⟩, ?_⟩
  · show (k = w.heap.size ∨ F k) ↔ ((k = w.heap.size ∨ F1 k) ∨ F2 k)
    rw [hE]; exact or_assoc.symm
  · rintro k (rfl | hk) h
    · exact absurd (hlt _ ((hE _).2 (.inr h))) (Nat.lt_irrefl _)
    · exact hd k hk h
  · have hsz := hst.size
    refine ⟨hst.os, hst.tape, hst.output, by simp; omega, fun k hk hn => ?_, ?_⟩
    · rw [← hst.block k hk hn]; exact hold k (by omega)
    · rintro k (rfl | hk)
      · exact .inr hsz
      · exact hst.own k hk
theorem filter_all {es : Array MapEntry} : es.filter (fun e => !(#[] : Array Nat).contains e.born) = es := by simp
theorem gl_range {x : Operand} {T kt e g : Nat} {l : List (Value × Value)} {L' : List Res} (hw : Wt ops n env ⟨some t, .range T x, ty, pos, af, gd⟩ true) (hx : ev n env x = .map (some g)) (hm : P.underlying T = some (.map kt e)) (hp : Pick L (mapR g l) L')
    (k : ∀ b, Gl P w0 F0 (itR b g l l none :: L') ops Q rest n ((t, .pointer (some ⟨b, 0, none⟩)) :: env)) : Gl P w0 F0 L ops Q (⟨some t, .range T x, ty, pos, af, gd⟩ :: rest) n env := by
  refine gl_effx (α := Nat) (L' := fun b => itR b g l l none :: L') (v := fun b => .pointer (some ⟨b, 0, none⟩)) hw (fun w hst => ?_) k
  obtain ⟨es, clock, hh, hk, hb, hn⟩ := hst.mapAt hp
  have hlt : g < w.heap.size := (Array.getElem?_eq_some_iff.1 hh).1
  refine ⟨w.heap.size, { w with heap := w.heap.push (.mapIter (some g) clock #[] clock) }, ?_, hst.pushR2 hp fun w' F h hnew hold => ⟨fun k => ?_, by omega, es, clock, clock, clock, #[], (hold g hlt).trans hh, hnew, hk, hb, hn, hb, Nat.le_refl _, Nat.le_refl _, by rw [filter_all]; exact hk, fun p hp => by cases hp⟩⟩
  · simp only [execOp, hx, Instr.range, Sem.run_bind, run_underlying hm, Result.andThen_ok, MapKept.run_getObj_map hh, Sem.run_pure]
    simp [newObj, Sem.run]
  · show (k = w.heap.size ∨ F k) ↔ _
    rw [h.1 k]
theorem St.drewR {w : World} (hs : St w0 F0 L w) : St w0 F0 L w.drew := by
  obtain ⟨F, hF, hst⟩ := hs
  exact ⟨F, stars_loc hF fun _ _ => rfl, ⟨hst.os, hst.tape, hst.output, hst.size, hst.block, hst.own⟩⟩
theorem choose_next (w : World) (m : Nat) (hm : 0 < m) : ∃ j w1, j < m ∧ (w1 = w ∨ w1 = w.drew) ∧ (choose (Question.mapNext m)).run P w = .ok j w1 := by
  by_cases hf : m ≤ 1
  · exact ⟨0, w, hm, .inl rfl, by simp [choose, Sem.run, Question.forced, hf]⟩
  · exact ⟨_, w.drew, Nat.mod_lt _ (by omega), .inr rfl, by
      simp only [choose, Sem.run, Question.forced, decide_eq_true_eq, hf, if_false, Question.cut]
      rfl⟩
theorem getObj_it {w : World} {r : Nat} {a : Option Nat} {b c : Nat} {s : Array Nat} (hb : w.heap[r]? = some (.mapIter a b s c)) : (getObj r).run P w = .ok (.mapIter a b s c) w := by simp [getObj, Sem.run, hb]
theorem setObj_it {w : World} {r : Nat} {a : Option Nat} {b c : Nat} {s : Array Nat} (o : Obj) (hb : w.heap[r]? = some (.mapIter a b s c)) : (setObj r o).run P w = .ok () { w with heap := w.heap.setIfInBounds r o } := by simp [setObj, Sem.run, hb]
theorem filter_split {p : MapEntry → Bool} {e : MapEntry} {A B l : List MapEntry} (hn : (l.map (fun e : MapEntry => e.born)).Nodup) (h : l.filter p = A ++ e :: B) : l.filter (fun x => p x && !(x.born == e.born)) = A ++ B := by
  have hs : (l.filter p).filter (fun x => !(x.born == e.born)) = A ++ B := by
    have hnf : ((l.filter p).map (fun e : MapEntry => e.born)).Nodup := hn.sublist ((List.filter_sublist).map _)
    rw [h] at hnf ⊢
    rw [List.map_append, List.map_cons] at hnf
    have h1 := List.nodup_append.1 hnf
    have h2 := List.nodup_cons.1 h1.2.1
    have hA : A.filter (fun x => !(x.born == e.born)) = A := List.filter_eq_self.2 fun x hx => by
      have := h1.2.2 x.born (List.mem_map.2 ⟨x, hx, rfl⟩) e.born (by simp)
      simpa using this
    have hB : B.filter (fun x => !(x.born == e.born)) = B := List.filter_eq_self.2 fun x hx => by
      have : x.born ≠ e.born := fun he => h2.1 (by rw [← he]; exact List.mem_map.2 ⟨x, hx, rfl⟩)
      simpa using this
    rw [List.filter_append, List.filter_cons, hA, hB]
    simp
  rw [← hs, List.filter_filter]
  congr 1
  funext x
  exact Bool.and_comm _ _
theorem gl_next {x : Operand} {b g : Nat} {l left : List (Value × Value)} {last : Option (Value × Value)} {L' : List Res} (hw : Wt ops n env ⟨some t, .next x false, ty, pos, af, gd⟩ true) (hx : ev n env x = .pointer (some ⟨b, 0, none⟩)) (hp : Pick L (itR b g l left last) L')
    (k0 : left = [] → Gl P w0 F0 L ops Q rest n ((t, .tuple #[.bool false]) :: env))
    (k1 : ∀ A p B, left = A ++ p :: B → Gl P w0 F0 (itR b g l (A ++ B) (some p) :: L') ops Q rest n ((t, .tuple #[.bool true, p.1, p.2]) :: env)) : Gl P w0 F0 L ops Q (⟨some t, .next x false, ty, pos, af, gd⟩ :: rest) n env := by
  intro w hst
  have hst0 := hst
  obtain ⟨F, hF, hstp⟩ := hst0
  obtain ⟨F1, F2, ⟨hFk, hne, es, clock, since, c0, seen, hh, hb, hk, hbn, hn, hold, hsc, hscl, hleft, _⟩, h2, hE, hd⟩ := hp.stars hF
  have hltb : b < w.heap.size := (Array.getElem?_eq_some_iff.1 hb).1
  have t1 := next_test_false seen es since c0 hold hsc
  have hmem : ∀ x ∈ (es.filter fun e => !seen.contains e.born), x.born < since := fun x hx => hold x (by simp at hx ⊢; exact hx.1)
  have e1 : (es.filter fun e => !seen.contains e.born).filter (fun x => decide (x.born < since)) = es.filter fun e => !seen.contains e.born := Array.filter_eq_self.2 (fun x hx => by simpa using hmem x hx)
  have e2 : (es.filter fun e => !seen.contains e.born).filter (fun x => decide (x.born ≥ since)) = #[] := by
    rw [Array.filter_eq_empty_iff]
    intro x hx
    have := hmem x hx
    simp; omega
  have fin : ∀ (v : Value) (w' : World), (execOp (ev n env) ⟨some t, .next x false, ty, pos, af, gd⟩).run P w = .ok (.value v) w' → wpListIn (FR n.ro) 0 P ops Q rest (fr n ((t, v) :: env)) w' → wpListIn (FR n.ro) 0 P ops Q (⟨some t, .next x false, ty, pos, af, gd⟩ :: rest) (fr n env) w := fun v w' hr hk' => by
    unfold wpListIn
    rw [if_pos (show Region.wanted _ _ = true from hw)]
    exact Oper.wpIn_value (by rw [fr_eval]; exact hr) (by rw [fr_put]; exact hk')
  by_cases h0 : (es.filter fun e => !seen.contains e.born).size = 0
  · have hem : (es.filter fun e => !seen.contains e.born) = #[] := Array.eq_empty_of_size_eq_zero h0
    have hl : left = [] := by rw [← hleft, hem]; rfl
    refine fin _ w ?_ (k0 hl w hst)
    simp only [execOp, hx, Instr.next, Sem.run_bind, getObj_it hb, Result.andThen_ok, MapKept.run_getObj_map hh, t1, Bool.false_eq_true, if_false, e1, e2, hem]
    simp [choose, Sem.run, Question.forced]
  · obtain ⟨j, w1, hj, hw1, hrun⟩ := choose_next (P := P) w (es.filter fun e => !seen.contains e.born).size (by omega)
    have hemp : (es.filter fun e => !seen.contains e.born).isEmpty = false := by unfold Array.isEmpty; exact decide_eq_false h0
    obtain ⟨e, he⟩ : ∃ e, (es.filter fun e => !seen.contains e.born)[j]? = some e := ⟨_, Array.getElem?_eq_getElem hj⟩
    have hsplit : (es.toList.filter fun e => !seen.contains e.born) = ((es.toList.filter fun e => !seen.contains e.born).take j) ++ e :: (es.toList.filter fun e => !seen.contains e.born).drop (j + 1) := by
      have h3 : (es.toList.filter fun e => !seen.contains e.born)[j]? = some e := by rw [← Array.toList_filter, Array.getElem?_toList]; exact he
      have h4 := (List.getElem?_eq_some_iff.1 h3)
      obtain ⟨h5, h6⟩ := h4
      rw [← h6, List.getElem_cons_drop, List.take_append_drop]
    have hkv : left = ((es.toList.filter fun e => !seen.contains e.born).take j).map (fun e => (e.key, e.val)) ++ (e.key, e.val) :: ((es.toList.filter fun e => !seen.contains e.born).drop (j + 1)).map (fun e => (e.key, e.val)) := by
      rw [← hleft, kvs, Array.toList_filter]
      conv => lhs; rw [hsplit]
      rw [List.map_append, List.map_cons]
    have hh1 : w1.heap[g]? = some (.map es clock) := by rcases hw1 with rfl | rfl <;> exact hh
    have hb1 : w1.heap[b]? = some (.mapIter (some g) since seen c0) := by rcases hw1 with rfl | rfl <;> exact hb
    have hs1 : St w0 F0 L w1 := by rcases hw1 with rfl | rfl; exact hst; exact hst.drewR
    refine fin (.tuple #[.bool true, e.key, e.val]) { w1 with heap := w1.heap.setIfInBounds b (.mapIter (some g) since (seen.push e.born) clock) } ?_ (k1 _ _ _ hkv _ (hs1.setR hp (fun F h => ⟨(h.1 b).2 (.inl rfl), (Array.getElem?_eq_some_iff.1 hb1).1⟩) (fun w' F h hb' hoth => ⟨h.1, h.2.1, es, clock, since, clock, seen.push e.born, (hoth g (Ne.symm h.2.1)).trans hh1, hb', hk, hbn, hn, hold, hscl, hscl, ?_, fun p hp => ⟨rfl, e, ?_, by simp, Option.some.inj hp⟩⟩)))
    · simp only [execOp, hx, Instr.next, Sem.run_bind, getObj_it hb, Result.andThen_ok, MapKept.run_getObj_map hh, t1, Bool.false_eq_true, if_false, e1, e2, hemp, Array.empty_append, Array.append_empty, Array.size_map, hrun, Array.getElem?_map, he, Option.map_some, setObj_it _ hb1, Sem.run_pure]
    · have h7 := filter_split (p := fun e => !seen.contains e.born) hn hsplit
      rw [kvs, Array.toList_filter, ← List.map_append, ← h7]
      congr 1
      congr 1
      funext x
      rw [Array.contains_push]
      cases seen.contains x.born <;> simp
    · have h3 : e ∈ (es.toList.filter fun e => !seen.contains e.born) := by rw [hsplit]; simp
      exact (List.mem_filter.1 h3).1
theorem r_entry {x : Operand} {b g : Nat} {l left : List (Value × Value)} {p : Value × Value} {L' : List Res} (hx : ev n env x = .pointer (some ⟨b, 0, none⟩)) (hp : Pick L (itR b g l left (some p)) L') :
    Runs P w0 F0 L n env ⟨d, .entry x, ty, pos, af, gd⟩ (.tuple #[p.1, p.2]) := fun w hst => by
  obtain ⟨F, hF, hstp⟩ := hst
  obtain ⟨F1, F2, ⟨hFk, hne, es, clock, since, c0, seen, hh, hb, hk, hbn, hn, hold, hsc, hscl, hleft, hlast⟩, h2, hE, hd⟩ := hp.stars hF
  obtain ⟨rfl, e, he, hbk, rfl⟩ := hlast p rfl
  have hf : es.find? (·.born == e.born) = some e := by rw [← Array.find?_toList]; exact find_born e es.toList hn he
  simp only [execOp, hx, Instr.entry, Sem.run_bind, getObj_it hb, Result.andThen_ok, hbk, MapKept.run_getObj_map hh, bne_self_eq_false, Bool.false_eq_true, if_false, hf, Sem.run_pure]
theorem St.itMap {w : World} {b g : Nat} {l left : List (Value × Value)} {last : Option (Value × Value)} (hs : St w0 F0 (itR b g l left last :: L) w) : St w0 F0 (mapR g l :: L) w := by
  obtain ⟨F, ⟨F1, F2, ⟨hFk, hne, es, clock, since, c0, seen, hh, hb, hk, hbn, hn, _⟩, h2, hE, hd⟩, hst⟩ := hs
  refine ⟨fun k => k = g ∨ F2 k, ⟨fun k => k = g, F2, ⟨fun k => Iff.rfl, es, clock, hh, hk, hbn, hn⟩, h2, fun k => Iff.rfl, fun k hk h => hd k ((hFk k).2 (.inr hk)) h⟩, hst.weak fun k hk => (hE k).2 ?_⟩
  rcases hk with rfl | hk
  · exact .inl ((hFk _).2 (.inr rfl))
  · exact .inr hk
end
end
section
structure Sec where
  l : List UInt8
  h : l.length = 64
theorem Sec.ext' {a b : Sec} (h : a.l = b.l) : a = b := by cases a; cases b; cases h; rfl
def sec0 : Sec := ⟨List.replicate 64 0, by simp⟩
def sc (s : Sec) : List Value := s.l.map B8
theorem sc_length (s : Sec) : (sc s).length = 64 := by rw [sc, List.length_map, s.h]
theorem sc_one (s : Sec) : ∀ v ∈ sc s, v.oneCell' = true := one_B8 _
instance {s : Sec} : Len (sc s) 64 := ⟨sc_length s⟩
instance {s : Sec} : One (sc s) := One.of (sc_one s)
def scV (s : Sec) : Value := .agg (sc s).toArray
def secs (n : Nat) (f : Nat → Sec) : List Value := ((List.range n).map fun i => sc (f i)).flatten
def updS (f : Nat → Sec) (i : Nat) (v : Sec) : Nat → Sec := fun j => if j = i then v else f j
theorem secs_all {n : Nat} {f : Nat → Sec} : ∀ c ∈ (List.range n).map fun i => sc (f i), c.length = 64 := fun c hc => by
  obtain ⟨i, _, rfl⟩ := List.mem_map.1 hc; exact sc_length _
theorem secs_len (n : Nat) (f : Nat → Sec) : (secs n f).length = n * 64 := by rw [secs, flatten_len secs_all]; simp
theorem secs_ext {n : Nat} {f g : Nat → Sec} (h : ∀ i, i < n → f i = g i) : secs n f = secs n g := by
  unfold secs; congr 1
  exact List.map_congr_left fun i hi => by rw [h i (List.mem_range.1 hi)]
theorem flatten_set {size : Nat} : ∀ {css : List (List Value)} {i : Nat} {c : List Value}, (∀ c ∈ css, c.length = size) → c.length = size → i < css.length → updL css.flatten (i * size) c = (css.set i c).flatten
  | [], i, c, _, _, h => by simp at h
  | d :: l, 0, c, h, hc, _ => by
    have hd := h d (by simp)
    simp only [updL, Nat.zero_mul, List.take_zero, List.nil_append, Nat.zero_add, List.flatten_cons, List.set_cons_zero, hc]
    rw [List.drop_append, List.drop_eq_nil_of_le (by omega), hd, Nat.sub_self, List.drop_zero, List.nil_append]
  | d :: l, i + 1, c, h, hc, hi => by
    have hd := h d (by simp)
    have ih := flatten_set (css := l) (i := i) (fun c' hc' => h c' (by simp [hc'])) hc (by simpa using hi)
    have e : (i + 1) * size = size + i * size := by rw [Nat.add_mul, Nat.one_mul, Nat.add_comm]
    simp only [updL, List.flatten_cons, List.set_cons_succ, hc] at ih ⊢
    rw [← ih, e, List.take_append, List.take_of_length_le (by omega), hd, show size + i * size - size = i * size by omega, List.drop_append, List.drop_eq_nil_of_le (by omega), hd, show size + i * size + size - size = i * size + size by omega]
    simp
theorem secs_set {n i o : Nat} {f : Nat → Sec} {v : Sec} (h : i < n) (ho : o = i * 64) : updL (secs n f) o (sc v) = secs n (updS f i v) := by
  subst ho
  rw [secs, flatten_set secs_all (sc_length v) (by simpa using h), secs]
  congr 1
  apply List.ext_getElem?
  intro j
  rw [List.getElem?_set, List.getElem?_map, List.getElem?_map]
  by_cases hj : j < n
  · by_cases hij : i = j
    · subst hij; simp [hj, updS]
    · simp [hj, hij, updS, Ne.symm hij]
  · rw [List.getElem?_eq_none (l := List.range n) (by simp; omega)]
    by_cases hij : i = j
    · omega
    · simp [hij]
def lookW (i : Int) : List (Int × Sec) → Option Sec
  | [] => none
  | p :: l => if i = p.1 then some p.2 else lookW i l
def putW (i : Int) (v : Sec) : List (Int × Sec) → List (Int × Sec)
  | [] => [(i, v)]
  | p :: l => if i = p.1 then (i, v) :: l else p :: putW i v l
def encW (ws : List (Int × Sec)) : List (Int × Value) := ws.map fun p => (p.1, scV p.2)
theorem encW_put (i : Int) (v : Sec) : ∀ (ws : List (Int × Sec)), putK i (scV v) (encW ws) = encW (putW i v ws)
  | [] => rfl
  | p :: l => by
    simp only [encW, List.map_cons, putK, putW]
    by_cases h : i = p.1
    · simp [h]
    · rw [if_neg h, if_neg h, List.map_cons]
      have := encW_put i v l
      simp only [encW] at this
      rw [this]
theorem lookW_put (i k : Int) (v : Sec) : ∀ (ws : List (Int × Sec)), lookW i (putW k v ws) = if i = k then some v else lookW i ws
  | [] => by by_cases h : i = k <;> simp [putW, lookW, h]
  | p :: l => by
    by_cases h : k = p.1
    · simp only [putW, if_pos h, lookW]
      by_cases h' : i = k
      · simp [h']
      · rw [if_neg h', if_neg h', if_neg (by rw [← h]; exact h')]
    · simp only [putW, if_neg h, lookW]
      by_cases h' : i = p.1
      · rw [if_pos h', if_pos h', if_neg (by rw [h']; exact fun e => h e.symm)]
      · rw [if_neg h', if_neg h', lookW_put i k v l]
def keysW (ws : List (Int × Sec)) : List Int := ws.map (·.1)
theorem keys_put (k : Int) (v : Sec) : ∀ (ws : List (Int × Sec)), keysW (putW k v ws) = if k ∈ keysW ws then keysW ws else keysW ws ++ [k]
  | [] => by simp [putW, keysW]
  | p :: l => by
    by_cases h : k = p.1
    · simp [putW, h, keysW]
    · have ih := keys_put k v l
      have e1 : keysW (putW k v (p :: l)) = p.1 :: keysW (putW k v l) := by simp [putW, if_neg h, keysW]
      have e2 : keysW (p :: l) = p.1 :: keysW l := rfl
      rw [e1, e2, ih]
      by_cases hk : k ∈ keysW l
      · rw [if_pos hk, if_pos (List.mem_cons_of_mem _ hk)]
      · rw [if_neg hk, if_neg (by simp [h, hk])]; rfl
theorem nodup_put {k : Int} {v : Sec} {ws : List (Int × Sec)} (h : (keysW ws).Nodup) : (keysW (putW k v ws)).Nodup := by
  rw [keys_put]; split
  · exact h
  · rename_i hk
    refine List.nodup_append.2 ⟨h, by simp, fun a ha b hb e => ?_⟩
    simp only [List.mem_singleton] at hb
    exact hk (by rw [← hb, ← e]; exact ha)
theorem lookW_none {i : Int} : ∀ {ws : List (Int × Sec)}, i ∉ keysW ws → lookW i ws = none
  | [], _ => rfl
  | p :: l, h => by
    simp only [keysW, List.map_cons, List.mem_cons, not_or] at h
    simp only [lookW, if_neg h.1]; exact lookW_none h.2
theorem lookW_mem {i : Int} {v : Sec} : ∀ {ws : List (Int × Sec)}, (keysW ws).Nodup → (i, v) ∈ ws → lookW i ws = some v
  | p :: l, hn, h => by
    have hn' := List.nodup_cons.1 hn
    rcases List.mem_cons.1 h with rfl | h
    · simp [lookW]
    · have : i ≠ p.1 := fun e => hn'.1 (by show p.1 ∈ l.map (·.1); rw [← e]; exact List.mem_map.2 ⟨_, h, rfl⟩)
      simp only [lookW, if_neg this]; exact lookW_mem hn'.2 h
structure DS where
  n : Nat
  ss : Nat → Sec
  ws : List (Int × Sec)
  off : Bool
  armed : Bool
  left : Int
def DS.at (d : DS) (i : Nat) : Sec := (lookW (i : Int) d.ws).getD (d.ss i)
def oper (d : DS) : DS := if d.armed = true ∧ d.off = false then { d with off := decide (d.left = 0), left := d.left - 1 } else d
structure DOk (d : DS) : Prop where
  n : d.n ≤ 4096
  nd : (keysW d.ws).Nodup
  ks : ∀ k ∈ keysW d.ws, 0 ≤ k ∧ k < d.n
  lf : d.armed = true → d.off = false → 0 ≤ d.left
  rg : -9223372036854775808 ≤ d.left ∧ d.left ≤ 9223372036854775807
theorem oper_ok {d : DS} (h : DOk d) : DOk (oper d) := by
  unfold oper; split
  · rename_i hc
    have hl := h.lf hc.1 hc.2
    refine ⟨h.n, h.nd, h.ks, fun _ h2 => ?_, ?_⟩
    · simp only [decide_eq_false_iff_not] at h2
      show 0 ≤ d.left - 1
      omega
    · have := h.rg
      show -9223372036854775808 ≤ d.left - 1 ∧ d.left - 1 ≤ 9223372036854775807
      omega
  · exact h
def DS.write (d : DS) (i : Int) (v : Sec) : DS := { d with ws := putW i v d.ws }
theorem write_ok {d : DS} {i : Int} {v : Sec} (h : DOk d) (h0 : 0 ≤ i) (h1 : i < d.n) : DOk (d.write i v) :=
  ⟨h.n, nodup_put h.nd, fun k hk => by
    simp only [DS.write, keys_put] at hk
    split at hk
    · exact h.ks k hk
    · rcases List.mem_append.1 hk with hk | hk
      · exact h.ks k hk
      · simp only [List.mem_singleton] at hk; subst hk; exact ⟨h0, h1⟩, h.lf, h.rg⟩
def DS.sync (d : DS) : DS := { d with ss := d.at, ws := [] }
theorem sync_ok {d : DS} (h : DOk d) : DOk d.sync := ⟨h.n, by simp [DS.sync, keysW], by simp [DS.sync, keysW], h.lf, h.rg⟩
def DS.has (d : DS) (i : Int) : Bool := decide (0 ≤ i) && decide (i < d.n)
theorem has_iff {d : DS} {i : Int} : d.has i = true ↔ 0 ≤ i ∧ i < d.n := by simp [DS.has]
theorem oper_n (d : DS) : (oper d).n = d.n := by unfold oper; split <;> rfl
theorem oper_ss (d : DS) : (oper d).ss = d.ss := by unfold oper; split <;> rfl
theorem oper_ws (d : DS) : (oper d).ws = d.ws := by unfold oper; split <;> rfl
theorem oper_yes {d : DS} (h1 : d.armed = true) (h2 : d.off = false) : (oper d).off = decide (d.left = 0) ∧ (oper d).armed = d.armed ∧ (oper d).left = d.left - 1 := by
  unfold oper; rw [if_pos ⟨h1, h2⟩]; exact ⟨rfl, rfl, rfl⟩
theorem oper_no {d : DS} (h : d.armed = false ∨ d.off = true) : oper d = d := by
  unfold oper; rw [if_neg]; rintro ⟨h1, h2⟩; rcases h with h | h <;> simp_all
def DS.wr (d : DS) (i : Int) (v : Sec) : Nat × DS := if d.has i then (if (oper d).off then 6 else 0, if (oper d).off then oper d else (oper d).write i v) else (1, d)
theorem wr_out {d : DS} {i : Int} {v : Sec} (h : d.has i = false) : d.wr i v = (1, d) := by simp [DS.wr, h]
theorem wr_off {d : DS} {i : Int} {v : Sec} (h : d.has i = true) (ho : (oper d).off = true) : d.wr i v = (6, oper d) := by simp [DS.wr, h, ho]
theorem wr_on {d : DS} {i : Int} {v : Sec} (h : d.has i = true) (ho : (oper d).off = false) : d.wr i v = (0, (oper d).write i v) := by simp [DS.wr, h, ho]
theorem wr_ok {d : DS} {i : Int} {v : Sec} (h : DOk d) : DOk (d.wr i v).2 := by
  unfold DS.wr; split
  · rename_i hi
    have := has_iff.1 hi
    simp only; split
    · exact oper_ok h
    · exact write_ok (oper_ok h) this.1 (by rw [oper_n]; exact this.2)
  · exact h
def DS.rd (d : DS) (i : Int) : Nat × Sec := if d.has i then (if d.off then (6, sec0) else (0, d.at i.toNat)) else (1, sec0)
def DS.syncd (d : DS) : DS := if (oper d).off then oper d else (oper d).sync
theorem syncd_ok {d : DS} (h : DOk d) : DOk d.syncd := by
  unfold DS.syncd; split
  · exact oper_ok h
  · exact sync_ok (oper_ok h)
def SyncInv (d : DS) (lw : List (Int × Sec)) (f : Nat → Sec) : Prop := lw.Sublist d.ws ∧ ∀ i : Nat, f i = if (i : Int) ∈ keysW lw then d.ss i else d.at i
theorem SyncInv.start (d : DS) : SyncInv d d.ws d.ss := ⟨List.Sublist.refl _, fun i => by
  split
  · rfl
  · rename_i h; simp [DS.at, lookW_none h]⟩
theorem SyncInv.done {d : DS} {f : Nat → Sec} (h : SyncInv d [] f) (i : Nat) : f i = d.at i := by
  have := h.2 i; simpa [keysW] using this
theorem SyncInv.key {d : DS} {A B : List (Int × Sec)} {k : Int} {v : Sec} {f : Nat → Sec} (h : SyncInv d (A ++ (k, v) :: B) f) (hk : DOk d) : 0 ≤ k ∧ k < d.n :=
  hk.ks k (List.mem_map.2 ⟨(k, v), h.1.subset (by simp), rfl⟩)
theorem SyncInv.step {d : DS} {A B : List (Int × Sec)} {k : Int} {v : Sec} {f : Nat → Sec} (h : SyncInv d (A ++ (k, v) :: B) f) (hk : DOk d) : SyncInv d (A ++ B) (updS f k.toNat v) := by
  have hsub : (A ++ B).Sublist (A ++ (k, v) :: B) := List.Sublist.append (List.Sublist.refl _) (List.sublist_cons_self _ _)
  have hnd : (keysW (A ++ (k, v) :: B)).Nodup := hk.nd.sublist (h.1.map _)
  have h0 := (h.key hk).1
  have hnot : k ∉ keysW (A ++ B) := by
    simp only [keysW, List.map_append, List.map_cons] at hnd ⊢
    have h1 := List.nodup_append.1 hnd
    intro hm
    rcases List.mem_append.1 hm with hm | hm
    · exact h1.2.2 k hm k (by simp) rfl
    · exact (List.nodup_cons.1 h1.2.1).1 hm
  refine ⟨hsub.trans h.1, fun i => ?_⟩
  simp only [updS]
  by_cases hi : i = k.toNat
  · subst hi
    have e : (k.toNat : Int) = k := Int.toNat_of_nonneg h0
    rw [if_pos rfl, e, if_neg hnot, DS.at, e, lookW_mem (v := v) hk.nd (h.1.subset (by simp))]
    rfl
  · rw [if_neg hi, h.2 i]
    have : (i : Int) ∈ keysW (A ++ (k, v) :: B) ↔ (i : Int) ∈ keysW (A ++ B) := by
      have hne : (i : Int) ≠ k := by omega
      simp [keysW, hne]
    simp only [this]
theorem encKW_nil {lw : List (Int × Sec)} (h : encK (Value.int .i64) (encW lw) = []) : lw = [] := by simpa [encK, encW] using h
theorem encKW_split {lw : List (Int × Sec)} {A' B' : List (Value × Value)} {p : Value × Value} (h : encK (Value.int .i64) (encW lw) = A' ++ p :: B') :
    ∃ A k v B, lw = A ++ (k, v) :: B ∧ A' = encK (Value.int .i64) (encW A) ∧ p = (.int .i64 k, scV v) ∧ B' = encK (Value.int .i64) (encW B) := by
  simp only [encK, encW, List.map_map] at h
  obtain ⟨l1, l2, h1, h2, h3⟩ := List.map_eq_append_iff.1 h
  obtain ⟨q, l3, h4, h5, h6⟩ := List.map_eq_cons_iff.1 h3
  subst h1; subst h4
  exact ⟨l1, q.1, q.2, l3, rfl, by rw [← h2]; simp [encK, encW], by rw [← h5]; rfl, by rw [← h6]; simp [encK, encW]⟩
end
section
theorem madeCells_rep (v : Value) (s n : Nat) (hs : 0 < s) : (madeCells (List.replicate s v).toArray n).toList = List.replicate n v := by
  apply List.ext_getElem?
  intro i
  simp only [madeCells, Array.toList_map, Array.toList_range, List.getElem?_map, List.getElem?_replicate]
  by_cases h : i < n
  · have h2 : i % (List.replicate s v).toArray.size < (List.replicate s v).toArray.size := Nat.mod_lt _ (by simpa using hs)
    rw [List.getElem?_range h, Option.map_some, if_pos h]
    rw [getElem!_pos (List.replicate s v).toArray _ h2]
    simp
  · rw [if_neg h, List.getElem?_eq_none (l := List.range n) (by simp; omega)]; rfl
theorem madeCells_secs (m : Nat) : (madeCells (List.replicate 64 (Value.int .u8 0)).toArray (m * 64)).toList = secs m fun _ => sec0 := by
  rw [madeCells_rep _ _ _ (by decide), secs]
  have e : sc sec0 = List.replicate 64 (Value.int .u8 0) := by simp [sc, sec0, B8]
  rw [e]
  generalize Value.int .u8 0 = v
  induction m with
  | zero => simp
  | succ m ih =>
    rw [List.range_succ, List.map_append, List.flatten_append, ← ih, Nat.add_mul, Nat.one_mul, ← List.replicate_append_replicate]
    simp only [List.map_cons, List.map_nil, List.flatten_cons, List.flatten_nil, List.append_nil]
section
variable {P : Program} {w0 : World} {F0 : Nat → Prop} {L : List Res} {Q : Exit → Act → World → Prop} {n : Fm} {env : Env} {ops : Array Oper} {rest : List Oper} {ty : TypeId} {pos : String} {af : Array Edge} {gd : Option (Nat × Bool)} {d : Option Tmp}
theorem gl_mkN {t : Tmp} {T e bytes m s : Nat} {x y : Operand} {z : Value} {k k' : IntKind} (hw : Wt ops n env ⟨some t, .makeSlice T x y, ty, pos, af, gd⟩ true) (ht : ElemT P T e s bytes) (hz : (P.info? e).map (·.zero) = some (some z))
    (hx : ev n env x = .int k (m : Int)) (hy : ev n env y = .int k' (m : Int)) (hb : bytes * m ≤ 16777216) (hm : m * s ≤ 16777216) (hm' : m ≤ 16777216)
    (K : ∀ b, Gl P w0 F0 (blk b e (madeCells z.cells (m * s)).toList :: L) ops Q rest n ((t, .slice (some ⟨b, 0, none⟩) m m) :: env)) : Gl P w0 F0 L ops Q (⟨some t, .makeSlice T x y, ty, pos, af, gd⟩ :: rest) n env := by
  refine gl_effx (α := Nat) (L' := fun b => blk b e (madeCells z.cells (m * s)).toList :: L) (v := fun b => .slice (some ⟨b, 0, none⟩) m m) hw (fun w hst => ?_) K
  obtain ⟨i, z', hi, hz', hs, hby, _⟩ := ht.info
  have hzz : z' = z := by rw [hi] at hz; simp only [Option.map_some, Option.some.injEq] at hz; rw [hz'] at hz; exact Option.some.inj hz
  subst hzz
  refine ⟨w.heap.size, { w with heap := w.heap.push (.cells (madeCells z'.cells (m * s)).toList.toArray e) }, ?_, hst.new⟩
  have hbb : (i.bytes : Int) * (m : Int) ≤ 281474976710656 := by
    rw [hby, ← Int.natCast_mul]; omega
  have hr := run_makeSlice (P := P) (w := w) T e i z' ht.sl hi hz' k k' (m : Int) (m : Int) (by omega) (Int.le_refl _) (by simp [hs]; omega) hbb (by omega)
  simp only [execOp, hx, hy, Sem.run_bind, hr, Result.andThen_ok, Sem.run_pure]
  simp only [Int.toNat_natCast, hs]
  first | rfl | simp [World.alloc]
theorem St.pick {w : World} {r : Res} {L' : List Res} (hw : St w0 F0 L w) (h : Pick L r L') : St w0 F0 (r :: L') w := hw.mapL0 fun F hF => h.stars hF
theorem gl_nextO {t : Tmp} {x : Operand} {b g : Nat} {l left : List (Value × Value)} {last : Option (Value × Value)} {L' : List Res} (hw : Wt ops n env ⟨some t, .next x false, ty, pos, af, gd⟩ true) (hx : ev n env x = .pointer (some ⟨b, 0, none⟩)) (hp : Pick L (itR b g l left last) L')
    (k : ∀ o : Option (List (Value × Value) × (Value × Value) × List (Value × Value)), (match o with | none => left = [] | some q => left = q.1 ++ q.2.1 :: q.2.2) →
      Gl P w0 F0 (itR b g l (match o with | none => left | some q => q.1 ++ q.2.2) (match o with | none => last | some q => some q.2.1) :: L') ops Q rest n ((t, match o with | none => .tuple #[.bool false] | some q => .tuple #[.bool true, q.2.1.1, q.2.1.2]) :: env)) :
    Gl P w0 F0 L ops Q (⟨some t, .next x false, ty, pos, af, gd⟩ :: rest) n env :=
  gl_next hw hx hp (fun h w hw => k none h w (hw.pick hp)) fun A p B h => k (some (A, p, B)) h
theorem gl_itMap {b g : Nat} {l left : List (Value × Value)} {last : Option (Value × Value)} {L' : List Res} (hp : Pick L (itR b g l left last) L') (k : Gl P w0 F0 (mapR g l :: L') ops Q rest n env) : Gl P w0 F0 L ops Q rest n env := fun w hw =>
  k w (hw.pick hp).itMap
theorem gl_stS {x y : Operand} {T g m o : Nat} {f : Nat → Sec} {v : Sec} {L' : List Res} {T' : Nat} [SZ P T 64] (i : Nat) (hi : i < m) (k : Gl P w0 F0 (blk g T' (secs m (updS f i v)) :: L') ops Q rest n env) (hx : ev n env x = .pointer (some ⟨g, o, none⟩) := by exact rfl) (hy : ev n env y = scV v := by exact rfl) (ho : o = i * 64 := by omega)
    (hp : Pick L (blk g T' (secs m f)) L' := by repeat (first | exact Pick.here | apply Pick.there)) (hw : Wt ops n env ⟨none, .store T x y, ty, pos, af, gd⟩ true := by first | exact wt0 rfl | exact wtgT rfl rfl rfl rfl) :
    Gl P w0 F0 L ops Q (⟨none, .store T x y, ty, pos, af, gd⟩ :: rest) n env :=
  gl_storeN hw hx hy SZ.h (sc_length v) hp (by rw [secs_len]; omega) (sc_one v) (secs_set hi ho) k
theorem r_min {x y : Operand} {T1 T2 : TypeId} {k : IntKind} {i j : Int} (hx : ev n env x = .int k i := by exact rfl) (hy : ev n env y = .int k j := by exact rfl) :
    Runs P w0 F0 L n env ⟨d, .call ⟨.builtin .min, #[x, y], #[T1, T2]⟩, ty, pos, af, gd⟩ (.int k (if j < i then j else i)) := fun w _ => by
  simp only [execOp, resolve, invoke, builtin]
  simp [hx, hy, Builtin.min_, Builtin.min2]
theorem r_eqpn {x : Operand} {T T' e : TypeId} {a : Option Addr} (hx : ev n env x = .pointer a := by exact rfl) (ht : P.underlying T = some (.pointer e)) :
    Runs P w0 F0 L n env ⟨d, .binOp .eql T x (.const (.pointer none)) T', ty, pos, af, gd⟩ (.bool a.isNone) := fun w _ => by
  have h : ∀ d : Nat, (Op.equalIn (d + 1) T (.pointer a) (.pointer none)).run P w = .ok a.isNone w := fun d => by
    cases a <;> simp [Op.equalIn, run_underlying ht]
  have h9 := h 9999
  have hc : ev n env (.const (.pointer none)) = .pointer none := rfl
  simp only [execOp, hx, hc]
  simp [eqGuard, binOp, Op.equal, Op.maxDepth, h9]
instance : DecidableEq Sec := fun a b => decidable_of_iff (a.l = b.l) ⟨Sec.ext', fun h => h ▸ rfl⟩
def Sec.b (s : Sec) : UInt8 := s.l.getD 0 0
end
section three
variable {P : Program} {w0 : World} {F0 : Nat → Prop} {K L : List Res} {Q : Exit → Act → World → Prop} {n : Fm} {env : Env} {ops : Array Oper} {listed : Array Bool} {fuel z : Nat}
theorem yo3s (i j l : Nat) {oi oj ol : Oper} (hi : ops[i]? = some oi) (hj : ops[j]? = some oj) (hl : ops[l]? = some ol)
    (ki : Gl P w0 F0 L ops (Exit.then (NextT P w0 F0 K ops Q z fuel (listed.setIfInBounds i true) n) Q) [oi] n env) (kj : Gl P w0 F0 L ops (Exit.then (NextT P w0 F0 K ops Q z fuel (listed.setIfInBounds j true) n) Q) [oj] n env)
    (kl : Gl P w0 F0 L ops (Exit.then (NextT P w0 F0 K ops Q z fuel (listed.setIfInBounds l true) n) Q) [ol] n env)
    (hr : Region.ready .any ops listed = [i, j, l] := by kernel_rfl) : Gt P w0 F0 K L ops Q z (fuel + 1) listed n env := fun w hst =>
  ⟨fun h => (by rw [hr] at h; cases h), by rw [hr]; simp, fun x hx _ => by
    rw [hr] at hx
    rcases List.mem_cons.1 hx with rfl | hx
    · exact wpOpIn_of_list hi (ki w hst)
    · rcases List.mem_cons.1 hx with rfl | hx
      · exact wpOpIn_of_list hj (kj w hst)
      · obtain rfl : x = l := by simpa using hx
        exact wpOpIn_of_list hl (kl w hst)⟩
end three
end
section
instance : KeyT Tryz.prog 3 (Value.int .i64) := keyT_int Ty.un_3
def DiskR (g : Nat) (d : DS) : Res := exR fun p : Nat × Nat => allR [blk g 114 [.slice (some ⟨p.1, 0, none⟩) d.n d.n, .map (some p.2), .bool d.off, .bool d.armed, .int .i64 d.left], blk p.1 116 (secs d.n d.ss), mapR p.2 (encK (Value.int .i64) (encW d.ws))]
section
variable {w0 w : World} {F F0 : Nat → Prop} {g : Nat} {d : DS} {L : List Res} {Q : Exit → Act → World → Prop} {n : Fm} {env : Env} {ops : Array Oper} {rest : List Oper}
theorem dk_open (h : stars (DiskR g d :: L) w F) : ∃ b m, stars (blk g 114 [.slice (some ⟨b, 0, none⟩) d.n d.n, .map (some m), .bool d.off, .bool d.armed, .int .i64 d.left] :: blk b 116 (secs d.n d.ss) :: mapR m (encK (Value.int .i64) (encW d.ws)) :: L) w F := by
  obtain ⟨⟨a, c⟩, h⟩ := stars_ex h
  exact ⟨a, c, stars_all h⟩
theorem St.dk {b m n : Nat} {off armed : Bool} {left : Int} {cs : List Value} {l : List (Value × Value)} (h : St w0 F0 (blk g 114 [.slice (some ⟨b, 0, none⟩) n n, .map (some m), .bool off, .bool armed, .int .i64 left] :: blk b 116 cs :: mapR m l :: L) w)
    (h1 : n = d.n) (h2 : off = d.off) (h3 : armed = d.armed) (h4 : left = d.left) (h5 : cs = secs d.n d.ss) (h6 : l = encK (Value.int .i64) (encW d.ws)) : St w0 F0 (DiskR g d :: L) w := by
  subst h1; subst h2; subst h3; subst h4; subst h5; subst h6
  obtain ⟨F, hF, hst⟩ := h
  exact ⟨F, stars_ex_mk (b, m) (stars_all_mk hF), hst⟩
theorem gc_dk {c : Code} {L' : List Res} (hp : Pick L (DiskR g d) L') (k : ∀ b m, Gc Tryz.prog w0 F0 (blk g 114 [.slice (some ⟨b, 0, none⟩) d.n d.n, .map (some m), .bool d.off, .bool d.armed, .int .i64 d.left] :: blk b 116 (secs d.n d.ss) :: mapR m (encK (Value.int .i64) (encW d.ws)) :: L') c Q n env) : Gc Tryz.prog w0 F0 L c Q n env := fun w hw => by
  obtain ⟨F, hF, hst⟩ := hw.pick hp
  obtain ⟨b, m, h⟩ := dk_open hF
  exact k b m w ⟨F, h, hst⟩
variable {dd : Option Tmp} {ty : TypeId} {pos : String} {af : Array Edge} {gd : Option (Nat × Bool)}
end
attribute [local irreducible] Gl Gc Gx Gs Runs Wt
theorem new_ok {w : World} {F : Nat → Prop} {n : Nat} {ea : Nat → Addr} (h : stars [] w F) (h1 : 1 ≤ n) (h2 : n ≤ 4096) :
    Calls Tryz.prog 23 #[.int .i64 (n : Int)] w (Post w F (fun g : Nat => .tuple #[.pointer (some ⟨g, 0, none⟩), eV 251 ea 0]) (fun g => [DiskR g ⟨n, fun _ => sec0, [], false, false, 0⟩])) := by
 refine g_enter (env := [(0, .int .i64 (n : Int))]) Tryz.func23 rfl h Tryz.ntmps23 rfl rfl ?_; refine gsr (zxa ?_); refine zxa ?_; refine gnt (gc_seq (gsr (zxm ?_))); refine gp (r_bool (c := false) zlt (decide_eq_false (by omega))) ?_; refine zxm ?_; refine gq zmv ?_; refine gq (r_bool (c := false) zgt (decide_eq_false (by omega))) ?_; refine gp zpk ?_; refine gnt (gc_condF rfl rfl ?_); refine gc_skip (gx_then (gsr (zxm ?_))); refine gl_mkN (m := n) (z := .agg (List.replicate 64 (Value.int .u8 0)).toArray) (wt0 rfl) ELT.h (by kernel_rfl) rfl rfl (by omega) (by omega) (by omega) (fun b12 => ?_)
 refine gl_eqc (cs' := secs n fun _ => sec0) (by repeat (first | exact Pick.here | apply Pick.there)) (madeCells_secs n) ?_; refine gl_mkMap (wt0 rfl) (fun m13 => ?_)
 refine gp zbu ?_; refine zbN fun b15 => ?_; refine zxa ?_; refine zxa ?_; refine gnt (gc_ret (gx_ret2 rfl (by conv => lhs; whnf) (by conv => lhs; whnf) ?_)); exact fun w' hw => ⟨b15, by rw [eV_zero], St.dk (n := n) (b := b12) (m := m13) (hw.z) rfl rfl rfl rfl rfl rfl⟩
theorem has_ok {w : World} {F : Nat → Prop} {g : Nat} {d : DS} (h : stars [DiskR g d] w F) {i : Int} :
    Calls Tryz.prog 74 #[.pointer (some ⟨g, 0, none⟩), .int .i64 i] w (Post w F (fun _ : Unit => .bool (d.has i)) (fun _ => [DiskR g d])) := by
 obtain ⟨b, m, h⟩ := dk_open h; refine g_enter (env := [(0, .pointer (some ⟨g, 0, none⟩)), (1, .int .i64 i)]) Tryz.func74 rfl h Tryz.ntmps74 rfl rfl ?_; refine gsr (zxa ?_); refine gnt (gc_seq ?_); by_cases hi : 0 ≤ i
 ·refine gc_region (zxm ?_); refine gp (r_bool (c := true) zge (decide_eq_true hi)) ?_; refine zxm ?_; refine gq zmv ?_; refine gq zmv ?_; refine gq znc ?_; refine gq zfa ?_; refine gq zl ?_; refine gq zln ?_; refine gq zlt ?_; refine gp zpk ?_; refine zxa ?_; refine gnt (gc_ret (gx_ret1 rfl (by conv => lhs; whnf) ?_)); exact fun w' hw => ⟨(), by rw [DS.has, decide_eq_true hi, Bool.true_and], St.dk (hw.z) rfl rfl rfl rfl rfl rfl⟩
 ·refine gc_region (zxm ?_); refine gp (r_bool (c := false) zge (decide_eq_false hi)) ?_; refine zxm ?_; refine gn ?_; refine gn ?_; refine gn ?_; refine gn ?_; refine gn ?_; refine gn ?_; refine gn ?_; refine gp zpk ?_; refine zxa ?_; refine gnt (gc_ret (gx_ret1 rfl (by conv => lhs; whnf) ?_)); exact fun w' hw => ⟨(), by rw [DS.has, decide_eq_false hi, Bool.false_and], St.dk (hw.z) rfl rfl rfl rfl rfl rfl⟩
theorem operate_ok {w : World} {F : Nat → Prop} {g : Nat} {d : DS} (h : stars [DiskR g d] w F) (hk : DOk d) {ea : Nat → Addr} {es : List Nat} [Has es 1] [Has es 6] (hE : GErr es w (fun k => ¬ F k) 251 ea) :
    Calls Tryz.prog 75 #[.pointer (some ⟨g, 0, none⟩)] w (Post w F (fun _ : Unit => eV 251 ea (if (oper d).off then 6 else 0)) (fun _ => [DiskR g (oper d)])) := by
 obtain ⟨b, m, h⟩ := dk_open h; refine g_enter (env := [(0, .pointer (some ⟨g, 0, none⟩))]) Tryz.func75 rfl h Tryz.ntmps75 rfl rfl ?_; refine gsr (zxa ?_); refine gnt (gc_join (α := Unit) (fun z => [blk g 114 [.slice (some ⟨b, 0, none⟩) d.n d.n, .map (some m), .bool (oper d).off, .bool (oper d).armed, .int .i64 (oper d).left], blk b 116 (secs d.n d.ss), mapR m (encK (Value.int .i64) (encW d.ws))]) (fun z => []) [3, 4, 5, 6, 7, 8, 9, 10, 11, 12, 13, 14, 15, 16, 17, 18, 19, 20, 21, 22, 23, 24, 25, 26, 27, 28] ?_ ?_)
 ·refine gc_seq ?_; by_cases hA : d.armed = true
  ·refine gc_region (zxm ?_); refine gp znc ?_; refine gp zfa ?_; refine gp (r_bool (c := true) zl hA) ?_; refine zxm ?_; refine gq zmv ?_; refine gq znc ?_; refine gq zfa ?_; refine gq zl ?_; refine gq znt ?_; refine gp zpk ?_; refine gnt (gif rfl (fun hc13 => ?_) (fun hc13 => ?_))
   ·try simp only at hc13
    have ho : d.off = false := by simpa using hc13
    have hl := hk.lf hA ho
    have hrg := hk.rg
    refine gsr (zxm ?_); refine zxm ?_; refine gp znc ?_; refine gp zfa ?_; refine gp zl ?_; refine gp zei ?_; refine gp znc ?_; refine gp zfa ?_; refine zs1 ?_; refine gnt (gc_region (zxm ?_)); refine gp znc ?_; refine gp zfa ?_; refine gp zl ?_; refine gp zsb ?_; refine gp znc ?_; refine gp zfa ?_; refine zs1 ?_; refine gl_nil (zjn (()) ?_)
    ·rw [(oper_yes hA ho).1, (oper_yes hA ho).2.1, (oper_yes hA ho).2.2]; exact zsel
   ·try simp only at hc13
    have ho : d.off = true := by simpa using hc13
    refine gc_skip (zjn (()) ?_)
    ·rw [oper_no (.inr ho)]; exact zsel
  ·refine gc_region (zxm ?_); refine gp znc ?_; refine gp zfa ?_; refine gp (r_bool (c := false) zl (by simpa using hA)) ?_; refine zxm ?_; refine gn ?_; refine gn ?_; refine gn ?_; refine gn ?_; refine gn ?_; refine gp zpk ?_; refine gnt (gc_condF rfl rfl ?_); refine gc_skip (zjn (()) ?_)
   ·rw [oper_no (.inl (by simpa using hA))]; exact zsel
 ·intro z u; refine gc_seq (gsr (zxm ?_)); refine gp znc ?_; refine gp zfa ?_; refine gp zl ?_; refine gnt (gif rfl (fun hc32 => ?_) (fun hc32 => ?_))
  ·refine gsr (gp (r_ld1o rfl Ty.row_53 (hE.c 6 Has.h) (hE.n 6 Has.h)) ?_); refine zxa ?_; refine gnt (gc_ret (gx_then_ret (gx_ret1 rfl (by conv => lhs; whnf) ?_))); exact fun w' hw => ⟨(), by rw [if_pos hc32], St.dk (n := d.n) (hw.z) (oper_n d).symm rfl rfl rfl (by rw [oper_n, oper_ss]) (by rw [oper_ws])⟩
  ·refine gc_skip (gx_then (gsr (zxa ?_))); refine gnt (gc_ret (gx_ret1 rfl (by conv => lhs; whnf) ?_)); exact fun w' hw => ⟨(), by rw [if_neg (by simpa using hc32), eV_zero], St.dk (n := d.n) (hw.z) (oper_n d).symm rfl rfl rfl (by rw [oper_n, oper_ss]) (by rw [oper_ws])⟩
theorem write_ok' {w : World} {F : Nat → Prop} {g : Nat} {d : DS} (h : stars [DiskR g d] w F) (hk : DOk d) {ea : Nat → Addr} {es : List Nat} [Has es 1] [Has es 6] (hE : GErr es w (fun k => ¬ F k) 251 ea) {i : Int} {v : Sec} :
    Calls Tryz.prog 44 #[.pointer (some ⟨g, 0, none⟩), .int .i64 i, scV v] w (Post w F (fun _ : Unit => eV 251 ea (d.wr i v).1) (fun _ => [DiskR g (d.wr i v).2])) := by
 refine g_enter (env := [(0, .pointer (some ⟨g, 0, none⟩)), (1, .int .i64 i), (2, scV v)]) Tryz.func44 rfl h Tryz.ntmps44 rfl rfl ?_; refine gsr (zbN fun b5 => ?_); refine zxa ?_; refine gnt (gc_seq (gsr (zxm ?_))); refine zxm ?_; refine zc (fun _ => ?_) (c := fun w1 F1 F2 h1 h2 hd hst => has_ok (i := i) h1)
 refine gp znt ?_; refine gnt (gif rfl (fun hc11 => ?_) (fun hc11 => ?_))
 ·try simp only at hc11
  have hi : d.has i = false := hc11
  have e := wr_out (v := v) hi
  refine gsr (gp (r_ld1o rfl Ty.row_53 (hE.c 1 Has.h) (hE.n 1 Has.h)) ?_); refine zxa ?_; refine gnt (gc_ret (gx_then_ret (gx_ret1 rfl (by conv => lhs; whnf) ?_))); exact fun w' hw => ⟨(), by rw [e], by rw [e]; exact hw.z⟩
 ·try simp only at hc11
  have hi : d.has i = true := hc11
  refine gc_skip (gx_then (gc_seq (gsr (zxm ?_)))); refine zc (fun _ => ?_) (c := fun w1 F1 F2 h1 h2 hd hst => operate_ok h1 hk (hE.mv hst.still))
  refine zxa ?_; refine zxs ?_; refine zxm ?_; refine gp (r_bool (c := (oper d).off) (r_nenil rfl (by kernel_rfl)) (by cases (oper d).off <;> rfl)) ?_; refine gnt (gif rfl (fun hc16 => ?_) (fun hc16 => ?_))
  ·try simp only at hc16
   have e := wr_off (v := v) hi hc16
   refine gsr (zxm ?_); refine zxa ?_; refine gnt (gc_ret (gx_then_ret (gx_ret1 rfl (by conv => lhs; whnf) ?_))); exact fun w' hw => ⟨(), by rw [e, if_pos hc16], by rw [e]; exact hw.z⟩
  ·try simp only at hc16
   have e := wr_on (v := v) hi hc16
   refine gc_dk (by repeat (first | exact Pick.here | apply Pick.there)) (fun b m => ?_)
   refine gc_skip (gx_then (gc_seq (gc_regionT 6 (by kernel_rfl) (by kernel_rfl) ?_))); refine sp zmv ?_; refine sp znc ?_; refine sp zfa ?_; refine sp zl ?_; refine sp zmv ?_; refine sp zL ?_; refine gs_nil ?_; refine gl_put (K := Value.int .i64) (v := scV v) (wt0 rfl) rfl rfl rfl Ty.un_112 (by repeat (first | exact Pick.here | apply Pick.there)) ?_; refine zxs ?_; refine zxa ?_; refine gnt (gc_ret (gx_ret1 rfl (by conv => lhs; whnf) ?_)); exact fun w' hw => ⟨(), by rw [e, eV_zero], by rw [e]; exact St.dk (d := (oper d).write i v) (hw.z) rfl rfl rfl rfl rfl (by rw [encW_put]; rfl)⟩
theorem size_ok {w : World} {F : Nat → Prop} {g : Nat} {d : DS} (h : stars [DiskR g d] w F) :
    Calls Tryz.prog 73 #[.pointer (some ⟨g, 0, none⟩)] w (Post w F (fun _ : Unit => .int .i64 d.n) (fun _ => [DiskR g d])) := by
 obtain ⟨b, m, h⟩ := dk_open h; refine g_enter (env := [(0, .pointer (some ⟨g, 0, none⟩))]) Tryz.func73 rfl h Tryz.ntmps73 rfl rfl ?_; refine gsr (zxa ?_); refine zxs ?_; refine zxm ?_; refine gp znc ?_; refine gp zfa ?_; refine gp zl ?_; refine gp zln ?_; refine zxa ?_; refine gnt (gc_ret (gx_ret1 rfl (by conv => lhs; whnf) ?_)); exact fun w' hw => ⟨(), rfl, St.dk (hw.z) rfl rfl rfl rfl rfl rfl⟩
end
section
attribute [local irreducible] Gl Gc Gx Gs Runs Wt
theorem sync_ok' {w : World} {F : Nat → Prop} {g : Nat} {d : DS} (h : stars [DiskR g d] w F) (hk : DOk d) {ea : Nat → Addr} {es : List Nat} [Has es 1] [Has es 6] (hE : GErr es w (fun k => ¬ F k) 251 ea) :
    Calls Tryz.prog 45 #[.pointer (some ⟨g, 0, none⟩)] w (Post w F (fun _ : Unit => eV 251 ea (if (oper d).off then 6 else 0)) (fun _ => [DiskR g d.syncd])) := by
 refine g_enter (env := [(0, .pointer (some ⟨g, 0, none⟩))]) Tryz.func45 rfl h Tryz.ntmps45 rfl rfl ?_; refine gsr (zxa ?_); refine gnt (gc_seq (gsr (zxm ?_))); refine zc (fun _ => ?_) (c := fun w1 F1 F2 h1 h2 hd hst => operate_ok h1 hk (hE.mv hst.still))
 refine zxa ?_; refine zxs ?_; refine zxm ?_; refine gp (r_bool (c := (oper d).off) (r_nenil rfl (by kernel_rfl)) (by cases (oper d).off <;> rfl)) ?_; refine gnt (gif rfl (fun hc9 => ?_) (fun hc9 => ?_))
 ·refine gsr (zxm ?_); refine zxa ?_; refine gnt (gc_ret (gx_then_ret (gx_ret1 rfl (by conv => lhs; whnf) ?_))); exact fun w' hw => ⟨(), by rw [if_pos hc9], by rw [DS.syncd, if_pos hc9]; exact hw.z⟩
 ·try simp only at hc9
  have hk2 := oper_ok hk
  have ed : d.syncd = (oper d).sync := by rw [DS.syncd, if_neg (by rw [hc9]; decide)]
  generalize hd2 : oper d = d2 at *
  refine gc_dk (by repeat (first | exact Pick.here | apply Pick.there)) (fun b m => ?_)
  refine gc_skip (gx_then (gc_seq (gsr (zxm ?_)))); refine gp znc ?_; refine gp zfa ?_; refine gp zl ?_; refine gl_range (wt0 rfl) rfl Ty.un_112 (by repeat (first | exact Pick.here | apply Pick.there)) (fun r => ?_)
  refine gnt (gc_block (gc_loop (α := List (Int × Sec) × (Nat → Sec) × Option (Value × Value)) (fun q => [pureR (SyncInv d2 q.1 q.2.1), blk g 114 [.slice (some ⟨b, 0, none⟩) d2.n d2.n, .map (some m), .bool d2.off, .bool d2.armed, .int .i64 d2.left], blk b 116 (secs d2.n q.2.1), itR r m (encK (Value.int .i64) (encW d2.ws)) (encK (Value.int .i64) (encW q.1)) q.2.2]) (fun q => []) [4, 5, 16, 17, 18, 19, 20, 21, 22, 23, 24, 25, 26, 27] (fun q => q.1.length) (d2.ws, d2.ss, none) ?_ ?_ ?_))
  ·refine env_start (by kernel_rfl)
  ·exact zlp (SyncInv.start d2)
  ·intro q u; obtain ⟨lw, f, la⟩ := q; refine gc_pureR (fun hi => ?_)
   replace hi : SyncInv d2 lw f := hi
   refine gsr (gl_nextO (wt0 rfl) rfl (by repeat (first | exact Pick.here | apply Pick.there)) (fun o16 h16 => ?_))
   rcases o16 with _ | ⟨A', p, B'⟩
   ·have h16 : encK (Value.int .i64) (encW lw) = [] := h16
    have hlw := encKW_nil h16
    subst hlw; refine gp zex ?_; refine gnt (gc_seq (gc_condF rfl rfl ?_)); refine gc_exit ?_; refine gx_then_exit ?_; refine gx_round_exit ?_; refine gx_block_hit ?_; refine gx_then (gsr (gl_itMap (by repeat (first | exact Pick.here | apply Pick.there)) ?_)); refine zxm ?_; refine gp znc ?_; refine gp zfa ?_; refine gp zl ?_; refine gl_clear (wt0 rfl) rfl Ty.un_112 (by repeat (first | exact Pick.here | apply Pick.there)) ?_; refine zxs ?_; refine zxa ?_; refine gnt (gc_ret (gx_ret1 rfl (by conv => lhs; whnf) ?_)); exact fun w' hw => ⟨(), by rw [if_neg (by rw [hc9]; decide), eV_zero], by rw [ed]; exact St.dk (d := d2.sync) (hw.z) rfl rfl rfl rfl (secs_ext fun i hi' => hi.done i) rfl⟩
   ·have h16 : encK (Value.int .i64) (encW lw) = A' ++ p :: B' := h16
    obtain ⟨A, kk, v, B, rfl, rfl, rfl, rfl⟩ := encKW_split h16; have hkk := hi.key hk2
    refine gp zex ?_; refine gnt (gc_seq (gc_condT rfl rfl ?_)); refine gc_skip (gx_then (gc_block (gsr (gp (r_entry rfl (by repeat (first | exact Pick.here | apply Pick.there))) ?_)))); refine gp zex ?_; refine gp zex ?_; refine zal fun b5 => ?_; refine zxa ?_; refine zsA (sc_length _) (sc_one _) ?_; refine gnt (gc_regionT 7 (by kernel_rfl) (by kernel_rfl) ?_); refine sp zmv ?_; refine sp znc ?_; refine sp zfa ?_; refine sp (zl) ?_; refine sp zmv ?_; refine sp zL ?_; refine sp (zia) ?_; refine gs_nil ?_; refine gl_stS (m := d2.n) (f := f) (v := v) kk.toNat (by omega) ?_; refine gl_nil (gx_block_normal (zrd ((A ++ B, updS f kk.toNat v, some (Value.int .i64 kk, scV v))) ?_ ?_))
    ·simp
    ·have eAB : encK (Value.int .i64) (encW (A ++ B)) = encK (Value.int .i64) (encW A) ++ encK (Value.int .i64) (encW B) := by simp [encK, encW]
     simp only [eAB]
     exact zlp (hi.step hk2)
end
section
theorem oper_calm {d : DS} (h : d.armed = false) : oper d = d := oper_no (.inl h)
theorem wr_calm {d : DS} {i : Int} {v : Sec} (h : d.armed = false) (ho : d.off = false) (hi : d.has i = true) : d.wr i v = (0, d.write i v) := by
  rw [wr_on hi (by rw [oper_calm h]; exact ho), oper_calm h]
theorem syncd_calm {d : DS} (h : d.armed = false) (ho : d.off = false) : d.syncd = d.sync := by rw [DS.syncd, oper_calm h, if_neg (by rw [ho]; decide)]
end
section
def updY (o : Nat) (m l : List UInt8) : List UInt8 := l.take o ++ (m ++ l.drop (o + m.length))
theorem updL_updY (o : Nat) (m l : List UInt8) : updL (l.map B8) o (m.map B8) = (updY o m l).map B8 := by
  simp [updL, updY, List.map_take, List.map_drop]
section
variable {P : Program} {w0 : World} {F0 : Nat → Prop} {L : List Res} {Q : Exit → Act → World → Prop} {n : Fm} {env : Env} {ops : Array Oper} {rest : List Oper} {ty : TypeId} {pos : String} {af : Array Edge} {gd : Option (Nat × Bool)} {d : Option Tmp}
theorem St.rdBlkY {w : World} {g T o m : Nat} {l : List UInt8} {L' : List Res} (hs : St w0 F0 L w) (hp : Pick L (blk g T (l.map B8)) L') (hl : o + m ≤ l.length) (hm : m ≤ maxLen) : RdRow w (fun _ => True) 1 (some ⟨g, o, none⟩) m (((l.drop o).take m).map B8) := by
  obtain ⟨F, hF, _⟩ := hs
  obtain ⟨F', h', _⟩ := stars_pick hp hF
  exact (RdRow.of_blk h' (n := m) (size := 1) (o := o) (by rw [Nat.mul_one, List.map_take, List.map_drop]) (by simp; omega) hm).mv fun k _ hk => ⟨rfl, trivial⟩
end
end
section
structure LRec where
  b : Block
  c : QC
  deriving DecidableEq
def blkW (b : Block) : WS := wBlock b ⟨0, []⟩
def certB (c : QC) : Block := { blk0 with justify := c }
def LRec.bs (r : LRec) : List UInt8 := (blkW r.b).bs
def LRec.cs (r : LRec) : List UInt8 := (blkW (certB r.c)).bs
structure LRec.Ok (r : LRec) : Prop where
  eb : (blkW r.b).err = 0
  ec : (blkW (certB r.c)).err = 0
  blk : r.c.block = idOf r.b
  ep : r.c.epoch = r.b.epoch
  rd : r.c.round = r.b.round
instance (r : LRec) : Decidable r.Ok := decidable_of_iff ((blkW r.b).err = 0 ∧ (blkW (certB r.c)).err = 0 ∧ r.c.block = idOf r.b ∧ r.c.epoch = r.b.epoch ∧ r.c.round = r.b.round)
  ⟨fun ⟨a, b, c, d, e⟩ => ⟨a, b, c, d, e⟩, fun ⟨a, b, c, d, e⟩ => ⟨a, b, c, d, e⟩⟩
def madeE (b : Block) (c : QC) : Nat := if (blkW b).err ≠ 0 then 4 else if (blkW (certB c)).err ≠ 0 then 4 else if c.block = idOf b ∧ c.epoch = b.epoch ∧ c.round = b.round then 0 else 12
theorem made_zero {r : LRec} (h : r.Ok) : madeE r.b r.c = 0 := by
  unfold madeE; rw [if_neg (by simpa using h.eb), if_neg (by simpa using h.ec), if_pos ⟨h.blk, h.ep, h.rd⟩]
theorem bs_len (r : LRec) : r.bs.length ≤ 8485 := by have := wBlock_len r.b ⟨0, []⟩; simpa [LRec.bs, blkW] using this
theorem cs_len (r : LRec) : r.cs.length ≤ 8485 := by have := wBlock_len (certB r.c) ⟨0, []⟩; simpa [LRec.cs, blkW] using this
def dataL (bs cs : List UInt8) : List UInt8 := beN (bs.length : Int) 2 ++ (bs ++ (beN (cs.length : Int) 2 ++ cs))
def LRec.data (r : LRec) : List UInt8 := dataL r.bs r.cs
theorem dataL_len (bs cs : List UInt8) : (dataL bs cs).length = 4 + bs.length + cs.length := by simp [dataL, beN_length]; omega
theorem data_len (r : LRec) : 4 ≤ r.data.length ∧ r.data.length ≤ 16974 := by
  have h := dataL_len r.bs r.cs
  have := bs_len r; have := cs_len r
  unfold LRec.data; omega
def pRec : PR (List UInt8 × List UInt8) := pBind (pBytes 65535) fun b => pBind (pBytes 65535) fun c => pPure (b, c)
def wRec (bs cs : List UInt8) (s : WS) : WS := wBytes cs 65535 (wBytes bs 65535 s)
theorem wBytes_fit {b : List UInt8} {s : WS} (he : s.err = 0) (h : b.length ≤ 65535) : wBytes b 65535 s = ⟨0, s.bs ++ (beN (b.length : Int) 2 ++ b)⟩ := by
  have p2 : (256 : Nat) ^ 2 = 65536 := by decide
  unfold wBytes
  rw [if_neg (by omega), wNum_of (by omega) he, wFix_of rfl]
  simp
theorem wRec_ok {bs cs : List UInt8} (hb : bs.length ≤ 8485) (hc : cs.length ≤ 8485) : wRec bs cs ⟨0, []⟩ = ⟨0, dataL bs cs⟩ := by
  unfold wRec
  rw [wBytes_fit (b := bs) rfl (by omega), wBytes_fit (b := cs) rfl (by omega)]
  simp [dataL]
theorem pRec_data {bs cs : List UInt8} (hb : bs.length ≤ 8485) (hc : cs.length ≤ 8485) : pAll pRec (dataL bs cs) = .ok (bs, cs) := by
  have h : EncAt (fun s => wBytes cs 65535 (wBytes bs 65535 s)) pRec (bs, cs) := encAt_bind (x := bs) (fun s he => enc_bytes bs s he) (encAt_bind (x := cs) (g := fun s => s) (fun s he => enc_bytes cs s he) (encAt_pure _))
  have h2 := pAll_enc h (by rw [show wBytes cs 65535 (wBytes bs 65535 ⟨0, []⟩) = _ from wRec_ok hb hc])
  rwa [show wBytes cs 65535 (wBytes bs 65535 ⟨0, []⟩) = _ from wRec_ok hb hc] at h2
theorem pRec_ok {d bs cs : List UInt8} (h : pAll pRec d = .ok (bs, cs)) : d = dataL bs cs ∧ bs.length ≤ 65535 ∧ cs.length ≤ 65535 := by
  obtain ⟨x, r1, h1, h2⟩ := pBind_ok (pAll_ok h)
  obtain ⟨y, r2, h3, h4⟩ := pBind_ok h2
  obtain ⟨h5, h6⟩ := pPure_ok h4
  cases h5
  obtain ⟨b1, e1, w1⟩ := dec_bytes _ _ _ h1
  obtain ⟨b2, e2, w2⟩ := dec_bytes _ _ _ h3
  have k : ∀ (b b' : List UInt8), (∀ s : WS, s.err = 0 → wBytes b 65535 s = ⟨0, s.bs ++ b'⟩) → b' = beN (b.length : Int) 2 ++ b ∧ b.length ≤ 65535 := by
    intro b b' hw
    have p2 : (256 : Nat) ^ 2 = 65536 := by decide
    have h := hw ⟨0, []⟩ rfl
    unfold wBytes at h
    split at h
    · simp [wFail] at h
    · rw [wNum_of (by omega) rfl, wFix_of rfl] at h
      simp at h
      exact ⟨h.symm, by omega⟩
  obtain ⟨rfl, l1⟩ := k _ _ w1
  obtain ⟨rfl, l2⟩ := k _ _ w2
  refine ⟨?_, l1, l2⟩
  rw [e1, e2, h6, dataL]; simp
def rdRec (d : List UInt8) : Option LRec := match pAll pRec d with
  | .error _ => none
  | .ok x => match pAll pBlock x.1 with
    | .error _ => none
    | .ok b => match pAll pBlock x.2 with
      | .error _ => none
      | .ok c => if (⟨b, c.justify⟩ : LRec).Ok ∧ (⟨b, c.justify⟩ : LRec).cs = x.2 then some ⟨b, c.justify⟩ else none
theorem block_enc {b : Block} (h : (blkW b).err = 0) : pAll pBlock (blkW b).bs = .ok b := pAll_enc (f := wBlock b) (fun s he => enc_block b s he) h
theorem block_dec {bs : List UInt8} {b : Block} (h : pAll pBlock bs = .ok b) : blkW b = ⟨0, bs⟩ := by
  obtain ⟨b', hb, hw⟩ := dec_block _ _ _ (pAll_ok h)
  rw [List.append_nil] at hb
  subst hb
  show wBlock b ⟨0, []⟩ = _
  simpa using hw ⟨0, []⟩ rfl
theorem rdRec_data {r : LRec} (h : r.Ok) : rdRec r.data = some r := by
  unfold rdRec
  rw [LRec.data, pRec_data (bs_len r) (cs_len r)]
  simp only
  rw [show pAll pBlock r.bs = .ok r.b from block_enc h.eb]
  simp only
  rw [show pAll pBlock r.cs = .ok (certB r.c) from block_enc h.ec]
  simp only
  rw [show (⟨r.b, (certB r.c).justify⟩ : LRec) = r from rfl, if_pos ⟨h, rfl⟩]
theorem rdRec_some {d : List UInt8} {r : LRec} (h : rdRec d = some r) : r.Ok ∧ r.data = d := by
  unfold rdRec at h
  split at h
  · cases h
  · rename_i x hx
    split at h
    · cases h
    · rename_i b hb
      split at h
      · cases h
      · rename_i c hc
        split at h
        · rename_i hok
          cases h
          refine ⟨hok.1, ?_⟩
          rw [(pRec_ok (bs := x.1) (cs := x.2) hx).1, LRec.data, hok.2, LRec.bs]
          have := block_dec hb
          rw [show (blkW (⟨b, c.justify⟩ : LRec).b) = ⟨0, x.1⟩ from this]
        · cases h
def nsec (n : Nat) : Nat := (n + 63) / 64
def secData (d : List UInt8) (i : Nat) : Sec := ⟨(d.drop (64 * i)).take 64 ++ List.replicate (64 - ((d.drop (64 * i)).take 64).length) 0, by simp; omega⟩
def firstL (h : Nat) (d : List UInt8) : List UInt8 := beN (d.length : Int) 4 ++ beN (h : Int) 4
theorem firstL_len (h : Nat) (d : List UInt8) : (firstL h d).length = 8 := by simp [firstL, beN_length]
def headL (h : Nat) (d : List UInt8) : Sec := ⟨firstL h d ++ ((dOf Kc 10 [firstL h d, d]).l ++ List.replicate 40 0), by simp [firstL_len, Dig.h]⟩
def secsR (h : Nat) (r : LRec) : List Sec := headL h r.data :: (List.range (nsec r.data.length)).map (secData r.data)
def secsOf : Nat → List LRec → List Sec
  | _, [] => []
  | h, r :: l => secsR h r ++ secsOf (h + 1) l
def lenR (r : LRec) : Nat := 1 + nsec r.data.length
theorem secsR_len (h : Nat) (r : LRec) : (secsR h r).length = lenR r := by simp [secsR, lenR]; omega
def tot (l : List LRec) : Nat := (l.map lenR).sum
theorem secsOf_len : ∀ (h : Nat) (l : List LRec), (secsOf h l).length = tot l
  | _, [] => rfl
  | h, r :: l => by rw [secsOf, List.length_append, secsR_len, secsOf_len (h + 1) l, tot, tot, List.map_cons, List.sum_cons]
theorem secsOf_app : ∀ (h : Nat) (a b : List LRec), secsOf h (a ++ b) = secsOf h a ++ secsOf (h + a.length) b
  | h, [], b => by simp [secsOf]
  | h, r :: a, b => by rw [List.cons_append, secsOf, secsOf_app (h + 1) a b, secsOf, List.append_assoc, List.length_cons, show h + 1 + a.length = h + (a.length + 1) by omega]
theorem tot_app (a b : List LRec) : tot (a ++ b) = tot a + tot b := by simp [tot]
def catS (f : Nat → Sec) (a k : Nat) : List UInt8 := ((List.range k).map fun i => (f (a + i)).l).flatten
theorem catS_succ (f : Nat → Sec) (a k : Nat) : catS f a (k + 1) = catS f a k ++ (f (a + k)).l := by simp [catS, List.range_succ]
theorem catS_len (f : Nat → Sec) (a : Nat) : ∀ k, (catS f a k).length = 64 * k
  | 0 => rfl
  | k + 1 => by rw [catS_succ, List.length_append, catS_len f a k, (f (a + k)).h]; omega
theorem catS_ext {f g : Nat → Sec} {a b k : Nat} (h : ∀ i, i < k → f (a + i) = g (b + i)) : catS f a k = catS g b k := by
  unfold catS
  congr 1
  exact List.map_congr_left fun i hi => by rw [h i (List.mem_range.1 hi)]
theorem cat_data (d : List UInt8) : ∀ k, catS (secData d) 0 k = d.take (64 * k) ++ List.replicate (64 * k - d.length) 0
  | 0 => by simp [catS]
  | k + 1 => by
    rw [catS_succ, cat_data d k, Nat.zero_add]
    have hl : ((d.drop (64 * k)).take 64).length = min 64 (d.length - 64 * k) := by rw [List.length_take, List.length_drop]
    show d.take (64 * k) ++ List.replicate (64 * k - d.length) 0 ++ ((d.drop (64 * k)).take 64 ++ List.replicate (64 - ((d.drop (64 * k)).take 64).length) 0) = _
    rw [hl]
    by_cases h : 64 * k ≤ d.length
    · rw [show 64 * k - d.length = 0 by omega, List.replicate_zero, List.append_nil, ← List.append_assoc, show 64 * (k + 1) = 64 * k + 64 by omega, List.take_add]
      exact congrArg (_ ++ List.replicate · 0) (by omega)
    · have e1 : d.drop (64 * k) = [] := List.drop_eq_nil_of_le (by omega)
      have e2 : d.take (64 * k) = d := List.take_of_length_le (by omega)
      have e3 : d.take (64 * (k + 1)) = d := List.take_of_length_le (by omega)
      rw [e1, e2, e3, List.take_nil, List.nil_append, List.append_assoc, List.replicate_append_replicate]
      exact congrArg (fun m => d ++ List.replicate m 0) (by omega)
theorem cat_all (d : List UInt8) : catS (secData d) 0 (nsec d.length) = d ++ List.replicate (64 * nsec d.length - d.length) 0 := by
  rw [cat_data, List.take_of_length_le (by unfold nsec; omega)]
def bytesAt (f : Nat → Sec) (a n : Nat) : Option (List UInt8) := if ((catS f a (nsec n)).drop n).all (· == 0) = true then some ((catS f a (nsec n)).take n) else none
theorem bytesAt_data {f : Nat → Sec} {a : Nat} {d : List UInt8} (h : ∀ i, i < nsec d.length → f (a + i) = secData d i) : bytesAt f a d.length = some d := by
  have e : catS f a (nsec d.length) = d ++ List.replicate (64 * nsec d.length - d.length) 0 := by
    rw [← cat_all]; exact catS_ext fun i hi => by rw [h i hi, Nat.zero_add]
  rw [bytesAt, e, List.drop_left', List.take_left', if_pos]
  · simp
  · rfl
  · rfl
def lnext (d : DS) (e h : Nat) : Except Nat (Option LRec) :=
  if d.at e = sec0 then .ok none else
  if valN ((d.at e).l.take 4) < 1 ∨ ¬ nsec (valN ((d.at e).l.take 4)) + 2 ≤ d.n - e then .error 7 else
  match bytesAt d.at (e + 1) (valN ((d.at e).l.take 4)) with
  | none => .error 7
  | some x => if headL h x = d.at e then match rdRec x with
    | none => .error 7
    | some r => .ok (some r) else .error 7
theorem bytesAt_len {f : Nat → Sec} {a n : Nat} {x : List UInt8} (h : bytesAt f a n = some x) : x.length = n := by
  unfold bytesAt at h
  split at h
  · cases h
    rw [List.length_take, catS_len]; unfold nsec; omega
  · cases h
theorem lnext_some {d : DS} {e h : Nat} {r : LRec} (k : lnext d e h = .ok (some r)) : r.Ok ∧ lenR r + 1 ≤ d.n - e := by
  unfold lnext at k
  split at k
  · cases k
  · split at k
    · cases k
    · rename_i _ hn
      split at k
      · cases k
      · rename_i x hx
        split at k
        · split at k
          · cases k
          · rename_i hr
            cases k
            obtain ⟨h1, h2⟩ := rdRec_some hr
            refine ⟨h1, ?_⟩
            have := bytesAt_len hx
            rw [lenR, h2, this]
            omega
        · cases k
def lopen (d : DS) (e : Nat) (rs : List LRec) : Except Nat (List LRec × Nat) :=
  match h : lnext d e rs.length with
  | .error k => .error k
  | .ok none => .ok (rs, e)
  | .ok (some r) => lopen d (e + lenR r) (rs ++ [r])
termination_by d.n - e
decreasing_by
  have h2 := lnext_some h
  have : 1 ≤ lenR r := by unfold lenR; omega
  omega
theorem lopen_err {d : DS} {e k : Nat} {rs : List LRec} (h : lnext d e rs.length = .error k) : lopen d e rs = .error k := by rw [lopen]; split <;> simp_all
theorem lopen_done {d : DS} {e : Nat} {rs : List LRec} (h : lnext d e rs.length = .ok none) : lopen d e rs = .ok (rs, e) := by rw [lopen]; split <;> simp_all
theorem lopen_more {d : DS} {e : Nat} {rs : List LRec} {r : LRec} (h : lnext d e rs.length = .ok (some r)) : lopen d e rs = lopen d (e + lenR r) (rs ++ [r]) := by
  conv => lhs; rw [lopen]
  split <;> simp_all
structure LOk (f : Nat → Sec) (base : Nat) (rs : List LRec) : Prop where
  ok : ∀ r ∈ rs, r.Ok
  at' : ∀ i, i < tot rs → f (base + i) = (secsOf 0 rs).getD i sec0
  fin : f (base + tot rs) = sec0
theorem head_len {h : Nat} {d : List UInt8} (hd : d.length < 4294967296) : valN ((headL h d).l.take 4) = d.length := by
  have p4 : (256 : Nat) ^ 4 = 4294967296 := by decide
  show valN ((firstL h d ++ _).take 4) = _
  rw [firstL, List.append_assoc, List.take_append_of_le_length (by rw [beN_length]; omega), List.take_of_length_le (by rw [beN_length]; omega), valN_beN, p4, Nat.mod_eq_of_lt hd]
theorem head_ne {h : Nat} {d : List UInt8} (h1 : 1 ≤ d.length) (hd : d.length < 4294967296) : headL h d ≠ sec0 := fun e => by
  have := head_len (h := h) hd
  rw [e] at this
  have z : valN (sec0.l.take 4) = 0 := by decide
  omega
theorem secs_at {rs : List LRec} {k i : Nat} {r : LRec} (hk : rs[k]? = some r) (hi : i < lenR r) : (secsOf 0 rs).getD (tot (rs.take k) + i) sec0 = (secsR k r).getD i sec0 := by
  have hlt : k < rs.length := (List.getElem?_eq_some_iff.1 hk).1
  have e : rs = rs.take k ++ r :: rs.drop (k + 1) := by
    rw [← (List.getElem?_eq_some_iff.1 hk).2, List.getElem_cons_drop, List.take_append_drop]
  have hl : (rs.take k).length = k := by rw [List.length_take]; omega
  have h1 : secsOf 0 rs = secsOf 0 (rs.take k) ++ (secsR k r ++ secsOf (k + 1) (rs.drop (k + 1))) := by
    conv => lhs; rw [e]
    rw [secsOf_app, hl, Nat.zero_add, secsOf]
  rw [h1]
  simp only [List.getD]
  rw [List.getElem?_append_right (by rw [secsOf_len]; omega), secsOf_len, Nat.add_sub_cancel_left, List.getElem?_append_left (by rw [secsR_len]; exact hi)]
theorem tot_take {rs : List LRec} {k : Nat} {r : LRec} (hk : rs[k]? = some r) : tot (rs.take (k + 1)) = tot (rs.take k) + lenR r := by
  rw [List.take_add_one, hk, tot_app]; simp [tot]
theorem tot_le {rs : List LRec} (k : Nat) : tot (rs.take k) ≤ tot rs := by
  have : tot rs = tot (rs.take k) + tot (rs.drop k) := by rw [← tot_app, List.take_append_drop]
  omega
theorem lnext_ok {d : DS} {base k : Nat} {rs : List LRec} (h : LOk d.at base rs) (hn : base + tot rs < d.n) {r : LRec} (hk : rs[k]? = some r) : lnext d (base + tot (rs.take k)) k = .ok (some r) := by
  have hr := h.ok r (List.mem_of_getElem? hk)
  have hdl := data_len r
  have ht := tot_take hk
  have hle := tot_le (rs := rs) (k + 1)
  have hl1 : lenR r = 1 + nsec r.data.length := rfl
  have hat : ∀ i, i < lenR r → d.at (base + tot (rs.take k) + i) = (secsR k r).getD i sec0 := fun i hi => by
    rw [← secs_at hk hi, Nat.add_assoc]; exact h.at' _ (by omega)
  have e0 : d.at (base + tot (rs.take k)) = headL k r.data := by have := hat 0 (by omega); simpa [secsR] using this
  have hv := head_len (h := k) (d := r.data) (by omega)
  unfold lnext
  rw [e0, if_neg (head_ne (by omega) (by omega)), hv, if_neg (by omega), bytesAt_data (d := r.data) (fun i hi => by
    have := hat (i + 1) (by omega)
    rw [show base + tot (rs.take k) + 1 + i = base + tot (rs.take k) + (i + 1) by omega, this]
    simp [secsR, List.getD, hi])]
  simp only [if_true]
  rw [rdRec_data hr]
theorem lnext_end {d : DS} {base : Nat} {rs : List LRec} (h : LOk d.at base rs) : lnext d (base + tot rs) rs.length = .ok none := by unfold lnext; rw [if_pos h.fin]
theorem lopen_ok {d : DS} {base : Nat} {rs : List LRec} (h : LOk d.at base rs) (hn : base + tot rs < d.n) : lopen d base [] = .ok (rs, base + tot rs) := by
  have step : ∀ m k, m + k = rs.length → lopen d (base + tot (rs.take k)) (rs.take k) = .ok (rs, base + tot rs) := by
    intro m
    induction m with
    | zero =>
      intro k hk
      have hk : k = rs.length := by omega
      subst hk
      rw [List.take_length]
      exact lopen_done (lnext_end h)
    | succ m ih =>
      intro k hk
      have hlt : k < rs.length := by omega
      have hr : rs[k]? = some rs[k] := List.getElem?_eq_getElem hlt
      have h1 := lnext_ok h hn hr
      have hl : (rs.take k).length = k := by rw [List.length_take]; omega
      have h2 := lopen_more (rs := rs.take k) (by rw [hl]; exact h1)
      have h3 := ih (k + 1) (by omega)
      rw [tot_take hr, List.take_add_one, hr] at h3
      rw [h2]
      simpa [Nat.add_assoc] using h3
  simpa [tot] using step rs.length 0 (by omega)
end
section
def lpR (l : Nat) (r : Loop) : Res where
  on w F := (∀ k, F k ↔ k = l) ∧ w.heap[l]? = some (.loop r)
  loc := fun ⟨hF, h⟩ hk => ⟨hF, (hk l ((hF l).2 rfl)).trans h⟩
  ok := fun ⟨hF, h⟩ k hk => by rw [(hF k).1 hk]; exact ⟨_, h, trivial⟩
def dfR (b : Nat) : Res where
  on w F := (∀ k, F k ↔ k = b) ∧ w.heap[b]? = some (.deferred (some []))
  loc := fun ⟨hF, h⟩ hk => ⟨hF, (hk b ((hF b).2 rfl)).trans h⟩
  ok := fun ⟨hF, h⟩ k hk => by rw [(hF k).1 hk]; exact ⟨_, h, trivial⟩
def mkD (b : Nat) : Deferred := { target := .collected b, args := #[] }
def RoundsAt (P : Program) (l : Nat) {α : Type} (enc : Nat → α → Array Value) (G : Nat → α → List Res) (J : Nat → Res) (Jx : Res) (w0 : World) (F0 : Nat → Prop) : Prop :=
  ∀ i x w (F1 F2 : Nat → Prop), stars (G i x ++ [J i]) w F1 → (∀ k, F1 k → ¬ F2 k) → Stp w0 F0 w (fun k => F1 k ∨ F2 k) →
    YieldAt (FR none) 0 P l (enc i x) w (Post w F1 (fun b : Bool => .bool b) fun b => [bif b then J (i + 1) else Jx])
theorem pick_app {r : Res} {L : List Res} : ∀ (G : List Res), Pick (G ++ r :: L) r (G ++ L)
  | [] => .here
  | _ :: G => .there (pick_app G)
theorem stars_out1 {r : Res} {G L : List Res} {w : World} {F : Nat → Prop} (h : stars (G ++ r :: L) w F) : stars (r :: (G ++ L)) w F := (pick_app G).stars h
theorem stars_in1 {r : Res} : ∀ {G L : List Res} {w : World} {F : Nat → Prop}, stars (r :: (G ++ L)) w F → stars (G ++ r :: L) w F
  | [], _, _, _, h => h
  | g :: G, L, w, F, h => by
    have h2 : stars (g :: (r :: (G ++ L))) w F := (Pick.there (Pick.here)).stars h
    obtain ⟨F1, F2, h1, h2, hF, hd⟩ := h2
    exact ⟨F1, F2, h1, stars_in1 h2, hF, hd⟩
theorem stars_tail {B : List Res} : ∀ {A : List Res} {w : World} {F : Nat → Prop}, stars (A ++ B) w F → stars (A ++ [allR B]) w F
  | [], w, F, h => stars_one h
  | a :: A, w, F, ⟨F1, F2, h1, h2, hF, hd⟩ => ⟨F1, F2, h1, stars_tail h2, hF, hd⟩
theorem stars_untail {B : List Res} : ∀ {A : List Res} {w : World} {F : Nat → Prop}, stars (A ++ [allR B]) w F → stars (A ++ B) w F
  | [], w, F, h => stars_one' h
  | a :: A, w, F, ⟨F1, F2, h1, h2, hF, hd⟩ => ⟨F1, F2, h1, stars_untail h2, hF, hd⟩
theorem Stp.turn {w0 w : World} {F0 F : Nat → Prop} {b : Nat} {o : Obj} (h : Stp w0 F0 w F) (hb : F b) : Stp w0 F0 (w.putObj b o) F :=
  ⟨h.os, h.tape, h.output, by rw [World.putObj_size]; exact h.size, fun k hk hn => by
    rw [World.putObj_heap_other (fun e => by subst e; exact (h.own _ hb).elim hn (fun h' => absurd h' (by omega)))]
    exact h.block k hk hn, h.own⟩
theorem stars_put {L : List Res} {w : World} {F : Nat → Prop} {b : Nat} {o : Obj} (h : stars L w F) (hb : ¬ F b) : stars L (w.putObj b o) F :=
  stars_loc h fun k hk => World.putObj_heap_other (fun e => hb (e ▸ hk))
theorem St.lp {w0 w : World} {F0 : Nat → Prop} {l : Nat} {r r' : Loop} {L : List Res} (h : St w0 F0 (lpR l r :: L) w) : w.heap[l]? = some (.loop r) ∧ St w0 F0 (lpR l r' :: L) (w.putObj l (.loop r')) := by
  obtain ⟨F, ⟨F1, F2, ⟨hF1, h1⟩, h2, hF, hd⟩, hst⟩ := h
  have hl : F l := (hF l).2 (.inl ((hF1 l).2 rfl))
  exact ⟨h1, F, ⟨F1, F2, ⟨hF1, World.putObj_heap_same (Array.getElem?_eq_some_iff.1 h1).1⟩, stars_put h2 (hd l ((hF1 l).2 rfl)), hF, hd⟩, hst.turn hl⟩
theorem St.lp_out {w0 w : World} {F0 : Nat → Prop} {l : Nat} {r : Loop} {o : Obj} {L : List Res} (h : St w0 F0 (lpR l r :: L) w) : w.heap[l]? = some (.loop r) ∧ St w0 F0 L (w.putObj l o) := by
  obtain ⟨F, ⟨F1, F2, ⟨hF1, h1⟩, h2, hF, hd⟩, hst⟩ := h
  have hl : F l := (hF l).2 (.inl ((hF1 l).2 rfl))
  exact ⟨h1, F2, stars_put h2 (hd l ((hF1 l).2 rfl)), (hst.turn hl).weak fun k hk => (hF k).2 (.inr hk)⟩
theorem St.df_out {w0 w : World} {F0 : Nat → Prop} {b : Nat} {o : Obj} {L L' : List Res} (h : St w0 F0 L w) (hp : Pick L (dfR b) L') : w.heap[b]? = some (.deferred (some [])) ∧ St w0 F0 L' (w.putObj b o) := by
  obtain ⟨F, hF0, hst⟩ := h
  obtain ⟨F1, F2, ⟨hF1, h1⟩, h2, hF, hd⟩ := hp.stars hF0
  have hl : F b := (hF b).2 (.inl ((hF1 b).2 rfl))
  exact ⟨h1, F2, stars_put h2 (hd b ((hF1 b).2 rfl)), (hst.turn hl).weak fun k hk => (hF k).2 (.inr hk)⟩
section
variable {P : Program} {w0 : World} {F0 : Nat → Prop} {L : List Res} {Q : Exit → Act → World → Prop} {n : Fm} {env : Env} {ops : Array Oper} {rest : List Oper}
theorem roundIn_FR {ro : Option Nat} {l : Nat} {f : FuncId} {tmps : Array Value} {asg bd : Code} {w : World} {R : Ending → World → Prop} : RoundIn (FR ro) 0 P l f tmps asg bd w R ↔ RoundIn (FR none) 0 P l f tmps asg bd w R := Iff.rfl
theorem gl_yield {o : Oper} {l : Nat} {args : Array Value} {L' M : List Res} {α : Type} {V : α → Value} {N : α → List Res} (hw : Wt ops n env o true)
    (he : ∀ w, (execOp (ev n env) o).run P w = (Instr.yield l args).run P w) (hsel : Sel L M L')
    (hc : ∀ w F1 F2, stars M w F1 → stars L' w F2 → (∀ k, F1 k → ¬ F2 k) → Stp w0 F0 w (fun k => F1 k ∨ F2 k) → YieldAt (FR none) 0 P l args w (Post w F1 V N))
    (k : ∀ x, Gl P w0 F0 (N x ++ L') ops Q rest n (pu o.dst (V x) env)) : Gl P w0 F0 L ops Q (o :: rest) n env := by
  intro w hs
  obtain ⟨F, hF, hst⟩ := hs
  obtain ⟨F1, F2, h1, h2, hE, hd⟩ := hsel.split hF
  have hst' : Stp w0 F0 w (fun k => F1 k ∨ F2 k) := by rw [← fp_eq hE]; exact hst
  unfold wpListIn
  rw [if_pos (show Region.wanted o _ = true from hw)]
  obtain ⟨fn, tmps, asg, bd, hy, hr⟩ := hc w F1 F2 h1 h2 hd hst'
  refine Oper.wpIn_round (by rw [fr_eval, he]; exact hy) (RoundIn.mono (roundIn_FR.2 hr) ?_)
  rintro e w' ⟨x, rfl, hx⟩
  exact ⟨V x, rfl, by rw [fr_put]; exact k x w' (St.call hst h2 hE hd hx)⟩
theorem e_yield {d : Option Tmp} {ty : TypeId} {pos : String} {af : Array Edge} {gd : Option (Nat × Bool)} {y : Operand} {l : Nat} {xs : List Operand} {ts : Array TypeId} {vs : List Value} (hy : ev n env y = .func (.yield l) #[] #[]) (hv : xs.map (ev n env) = vs) (w : World) :
    (execOp (ev n env) ⟨d, .call ⟨.value y, xs.toArray, ts⟩, ty, pos, af, gd⟩).run P w = (Instr.yield l vs.toArray).run P w := by
  simp [execOp, resolve, hy, Deferred.ofValue, invoke, hv]
theorem gyd {t : Tmp} {ty : TypeId} {pos : String} {af : Array Edge} {gd : Option (Nat × Bool)} {y : Operand} {l : Nat} {xs : List Operand} {ts : Array TypeId} {vs : List Value} {α : Type} {enc : Nat → α → Array Value} {G : Nat → α → List Res} {J : Nat → Res} {Jx : Res} {L' : List Res}
    (h : RoundsAt P l enc G J Jx w0 F0) (i : Nat) (x : α) (hv2 : enc i x = vs.toArray) (hsel : Sel L (G i x ++ [J i]) L') (k : ∀ b : Bool, Gl P w0 F0 ((bif b then J (i + 1) else Jx) :: L') ops Q rest n ((t, .bool b) :: env))
    (hy : ev n env y = .func (.yield l) #[] #[] := by exact rfl) (hv : xs.map (ev n env) = vs := by exact rfl)
    (hw : Wt ops n env ⟨some t, .call ⟨.value y, xs.toArray, ts⟩, ty, pos, af, gd⟩ true := by exact wt0 rfl) : Gl P w0 F0 L ops Q (⟨some t, .call ⟨.value y, xs.toArray, ts⟩, ty, pos, af, gd⟩ :: rest) n env :=
  gl_yield hw (e_yield hy hv) hsel (fun w F1 F2 h1 _ hd hst => by rw [← hv2]; exact h i x w F1 F2 h1 hd hst) k
theorem gl_pI {p : Prop} (hp : p) (k : Gl P w0 F0 (pureR p :: L) ops Q rest n env) : Gl P w0 F0 L ops Q rest n env := fun w ⟨F, hF, hst⟩ => k w ⟨F, stars_pure_mk hp hF, hst⟩
theorem gc_pI {c : Code} {p : Prop} (hp : p) (k : Gc P w0 F0 (pureR p :: L) c Q n env) : Gc P w0 F0 L c Q n env := fun w ⟨F, hF, hst⟩ => k w ⟨F, stars_pure_mk hp hF, hst⟩
theorem gx_pure1 {e : Exit} {p : Prop} {L' : List Res} (hp : Pick L (pureR p) L') (k : p → Gx w0 F0 L Q e n env) : Gx w0 F0 L Q e n env := fun w hw => by
  have hw' := hw
  obtain ⟨F, hF, _⟩ := hw'
  obtain ⟨F1, h1, _⟩ := stars_pick hp hF
  exact k h1.2 w hw
theorem r_slice3 {d : Option Tmp} {ty : TypeId} {pos : String} {af : Array Edge} {gd : Option (Nat × Bool)} {x lo hi mx : Operand} {T e : TypeId} {a : Option Addr} {m c s l h u : Nat} {k1 k2 k3 : IntKind} (hx : ev n env x = .slice a m c) (ht : sliceT P T = some e) (hs : szT P e = some s)
    (hlo : ev n env lo = .int k1 l) (hhi : ev n env hi = .int k2 h) (hmx : ev n env mx = .int k3 u) (h1 : l ≤ h) (h2 : h ≤ u) (h3 : u ≤ c) :
    Runs P w0 F0 L n env ⟨d, .slice T x (some lo) (some hi) (some mx), ty, pos, af, gd⟩ (.slice (if u = l then a else a.map (·.add (l * s))) (h - l) (u - l)) := fun w _ => by
  have e1 : (Instr.sliceBounds true m c (some (.int k1 l)) (some (.int k2 h)) (some (.int k3 u))).run P w = .ok (l, h, u) w := by
    unfold Instr.sliceBounds
    have a1 : (0:Int) ≤ l ∧ (l:Int) ≤ h := ⟨by omega, by omega⟩
    have a2 : (0:Int) ≤ h ∧ (h:Int) ≤ u := ⟨by omega, by omega⟩
    have a3 : (0:Int) ≤ u ∧ (u:Int) ≤ c := ⟨by omega, by omega⟩
    simp [Instr.sliceBound, asIntOf, h1, h2, h3, Nat.not_lt.2 h1, Nat.not_lt.2 h2, Nat.not_lt.2 h3]
  simp [execOp, hx, hlo, hhi, hmx, Instr.sliceAt, run_underlying (run_sliceT ht), Instr.slice, e1, run_sz hs]
def zipE : List Tmp → List Value → Env → Env
  | t :: ts, v :: vs, e => zipE ts vs ((t, v) :: e)
  | _, _, e => e
theorem fr_zip {n : Fm} : ∀ (ts : List Tmp) (vs : List Value) (e : Env), { (fr n e) with tmps := (ts.zip vs).foldl (fun tmps (t, a) => tmps.setIfInBounds t a) (fr n e).tmps } = fr n (zipE ts vs e)
  | [], _, _ => by simp [zipE, fr]
  | _ :: _, [], _ => by simp [zipE, fr]
  | t :: ts, v :: vs, e => by
    have h : (fr n e).tmps.setIfInBounds t v = (fr n ((t, v) :: e)).tmps := by
      have := fr_put n e (some t) v
      simp only [Act.put, pu] at this
      exact congrArg Act.tmps this
    simp only [List.zip_cons_cons, List.foldl_cons, zipE]
    rw [h]
    exact fr_zip ts vs ((t, v) :: e)
def RoundP (w : World) (F : Nat → Prop) (l : Nat) (r : Loop) (I : Nat → List Res) (X : Nat → Code → List Res) (i : Nat) : Exit → Act → World → Prop
  | .normal, _, w' => St w F (lpR l r :: I (i + 1)) w'
  | .ret, _, w' => St w F (lpR l r :: X i .ret) w'
  | .exit id, _, w' => St w F (lpR l r :: X i (.exit id)) w'
  | _, _, _ => False
def BegK (P : Program) (w : World) (F : Nat → Prop) (l : Nat) (r r' : Loop) (body : Code) (R : Exit → Act → World → Prop) (n : Fm) (a : Act) (w' : World) : Prop :=
  ∃ L env, a = fr n env ∧ St w F (lpR l r :: L) w' ∧ Gc P w F (lpR l r' :: L) body R n env
theorem gx_begin {l : Nat} {r r' : Loop} {body : Code} {R : Exit → Act → World → Prop} (h : Gc P w0 F0 (lpR l r' :: L) body R n env) : Gx w0 F0 (lpR l r :: L) (Exit.then (BegK P w0 F0 l r r' body R n) (fun _ _ _ => False)) .normal n env :=
  fun w hw => ⟨L, env, rfl, hw, h⟩
theorem gx_rdn {l : Nat} {r : Loop} {I : Nat → List Res} {X : Nat → Code → List Res} {i : Nat} (h : ∀ w, St w0 F0 L w → St w0 F0 (lpR l r :: I (i + 1)) w) : Gx w0 F0 L (RoundP w0 F0 l r I X i) .normal n env := h
theorem gx_rdr {l : Nat} {r : Loop} {I : Nat → List Res} {X : Nat → Code → List Res} {i : Nat} (h : ∀ w, St w0 F0 L w → St w0 F0 (lpR l r :: X i .ret) w) : Gx w0 F0 L (RoundP w0 F0 l r I X i) .ret n env := h
def IterAt (P : Program) {α β : Type} (gf : Nat) (lb : Array Value) (enc : Nat → α → Array Value) (G : Nat → α → List Res) (fin : β → Option Nat) (O : β → List Res) (vv : β → Value) (l : Nat) (J : Nat → Res) (Jx : Res) (w : World) (F : Nat → Prop) : Prop :=
  RoundsAt P l enc G J Jx w F → Calls P gf (#[.func (.yield l) #[] #[]] ++ lb) w (Post w F vv fun y => (match fin y with | some m => J m | none => Jx) :: O y)
theorem gc_range {g : Operand} {ps : Array Tmp} {assign body : Code} {gf : Nat} {lb : Array Value} {α β : Type} {enc : Nat → α → Array Value} {G : Nat → α → List Res}
    {own L' : List Res} {vv : β → Value} {fin : β → Option Nat} {O : β → List Res} (I : Nat → List Res) (X : Nat → Code → List Res) {ds : List Deferred} {nt : Nat}
    (hg : ev ⟨nt, ds, none⟩ env g = .func (.func gf) #[] lb) (eg : okCall P gf = true) (hsel : Sel L (own ++ I 0) L') (hsz : ∀ i x, (enc i x).size = ps.size)
    (hit : ∀ (l : Nat) (J : Nat → Res) (Jx : Res) w F1 F2, stars (own ++ [J 0]) w F1 → stars L' w F2 → (∀ k, F1 k → ¬ F2 k) → Stp w0 F0 w (fun k => F1 k ∨ F2 k) → IterAt P gf lb enc G fin O vv l J Jx w F1)
    (hrd : ∀ (l : Nat) (r r' : Loop) i x w F1 F2, stars (lpR l r :: (G i x ++ I i)) w F1 → stars L' w F2 → (∀ k, F1 k → ¬ F2 k) → Stp w0 F0 w (fun k => F1 k ∨ F2 k) →
      Gc P w F1 (lpR l r :: (G i x ++ I i)) assign (Exit.then (BegK P w F1 l r r' body (RoundP w F1 l r' I X i) ⟨nt, [], some l⟩) (fun _ _ _ => False)) ⟨nt, [], some l⟩ (zipE ps.toList (enc i x).toList env))
    (hdone : ∀ b y m, fin y = some m → Gx w0 F0 (dfR b :: (I m ++ O y) ++ L') Q .normal ⟨nt, mkD b :: ds, none⟩ env)
    (hstop : ∀ b y i c, fin y = none → Gc P w0 F0 (dfR b :: (X i c ++ O y) ++ L') c Q ⟨nt, mkD b :: ds, none⟩ env) : Gc P w0 F0 L (.rangeFunc g ps assign body) Q ⟨nt, ds, none⟩ env := by
  intro w hw
  refine wpIn_rangeFunc fun fn _ => ?_
  have hrun := run_enterLoop_outer (P := P) (w := w) fn (fr ⟨nt, ds, none⟩ env).tmps ps assign body
  have hl0 : ∀ st pe, ∃ r : Loop, r = { state := st, pending := pe, fn, tmps := (fr ⟨nt, ds, none⟩ env).tmps, params := ps, assign, body, defers := w.heap.size } := fun _ _ => ⟨_, rfl⟩
  obtain ⟨rec, hrec⟩ : ∃ rec : LoopState → Option Code → Loop, rec = fun st pe => { state := st, pending := pe, fn, tmps := (fr ⟨nt, ds, none⟩ env).tmps, params := ps, assign, body, defers := w.heap.size } := ⟨_, rfl⟩
  obtain ⟨F, hF, hst⟩ := hw
  obtain ⟨F1, F2, h1, h2, hE, hd⟩ := hsel.split hF
  have hlt1 := stars_lt h1
  have hlt2 := stars_lt h2
  obtain ⟨wa, hwa⟩ : ∃ wa, (w.alloc (.deferred (some []))).alloc (.loop (rec .ready none)) = wa := ⟨_, rfl⟩
  have hsize : wa.heap.size = w.heap.size + 2 := by rw [← hwa]; simp
  have hold : ∀ k, k < w.heap.size → wa.heap[k]? = w.heap[k]? := fun k hk => by
    rw [← hwa]
    exact (RowKit.Below.heap_alloc _ _ k (by simp; omega)).trans (RowKit.Below.heap_alloc w _ k hk)
  have hL1 : wa.heap[w.heap.size + 1]? = some (.loop (rec .ready none)) := by
    rw [← hwa]; have := World.alloc_heap_new (w.alloc (.deferred (some []))) (.loop (rec .ready none)); rwa [World.size_alloc] at this
  have hB1 : wa.heap[w.heap.size]? = some (.deferred (some [])) := by
    rw [← hwa]; exact (RowKit.Below.heap_alloc _ _ _ (by simp)).trans (World.alloc_heap_new w _)
  have hos : wa.os = w.os ∧ wa.tape = w.tape ∧ wa.output = w.output := by rw [← hwa]; exact ⟨rfl, rfl, rfl⟩
  have h1a : stars (own ++ I 0) wa F1 := stars_loc h1 fun k hk => hold k (hlt1 k hk)
  have h2a : stars L' wa F2 := stars_loc h2 fun k hk => hold k (hlt2 k hk)
  -- what the iterator is handed
  let F1a : Nat → Prop := fun k => k = w.heap.size + 1 ∨ F1 k
  have hown : stars (own ++ lpR (w.heap.size + 1) (rec .ready none) :: I 0) wa F1a :=
    stars_in1 ⟨fun k => k = w.heap.size + 1, F1, ⟨fun k => Iff.rfl, hL1⟩, h1a, fun k => Iff.rfl, fun k hk h => by have := hlt1 k h; omega⟩
  have hown := stars_tail hown
  have hda : ∀ k, F1a k → ¬ F2 k := fun k hk h => hk.elim (fun e => by have := hlt2 k h; omega) (fun h' => hd k h' h)
  let F2a : Nat → Prop := fun k => k = w.heap.size ∨ F2 k
  have h2d : stars (dfR w.heap.size :: L') wa F2a := ⟨fun k => k = w.heap.size, F2, ⟨fun k => Iff.rfl, hB1⟩, h2a, fun k => Iff.rfl, fun k hk h => by have := hlt2 k h; omega⟩
  have hda2 : ∀ k, F1a k → ¬ F2a k := fun k hk h => h.elim (fun e => hk.elim (fun e' => by omega) (fun h' => by have := hlt1 k h'; omega)) (hda k hk)
  have hsta : Stp w0 F0 wa (fun k => F1a k ∨ F2a k) :=
    ⟨hos.1.trans hst.os, hos.2.1.trans hst.tape, hos.2.2.trans hst.output, by rw [hsize]; have := hst.size; omega, fun k hk hn => (hold k (Nat.lt_of_lt_of_le hk hst.size)).trans (hst.block k hk hn),
      fun k hk => by
        have : F k ∨ w.heap.size ≤ k := by
          rcases hk with (h | h) | (h | h)
          · right; omega
          · exact .inl ((hE k).2 (.inl h))
          · right; omega
          · exact .inl ((hE k).2 (.inr h))
        rcases this with h | h
        · exact hst.own k h
        · right; have := hst.size; omega⟩
  let J : Nat → Res := fun i => allR (lpR (w.heap.size + 1) (rec .ready none) :: I i)
  let Jx : Res := exR fun i => exR fun c => allR (lpR (w.heap.size + 1) (rec .done (some c)) :: X i c)
  have hrounds : RoundsAt P (w.heap.size + 1) enc G J Jx wa F1a := by
    intro i x W G1 G2 g1 gd gst
    have g1' : stars (lpR (w.heap.size + 1) (rec .ready none) :: (G i x ++ I i)) W G1 := stars_out1 (stars_untail g1)
    have hl : W.heap[w.heap.size + 1]? = some (.loop (rec .ready none)) := by
      obtain ⟨A, B, ⟨_, h⟩, _⟩ := g1'
      exact h
    have hy := run_yield (P := P) (args := enc i x) hl (by rw [hrec]; exact hsz i x)
    rw [hrec] at hy
    have g2 : stars L' W F2 := stars_loc h2a fun k hk => gst.block k (by have := hlt2 k hk; omega) (fun h => hda k h hk)
    have gd2 : ∀ k, G1 k → ¬ F2 k := fun k hk h => (gst.own k (.inl hk)).elim (fun h' => hda k h' h) (fun h' => by have := hlt2 k h; omega)
    have hall : Stp w0 F0 W (fun k => G1 k ∨ F2 k) := (hsta.trans (gst.frame (F2 := F2a))).weak fun k hk => hk.elim (fun h => .inl (.inl h)) (fun h => .inr (.inr h))
    have hb := hrd (w.heap.size + 1) (rec .ready none) (rec .busy none) i x W G1 F2 g1' g2 gd2 hall
    refine ⟨fn, _, assign, body, hy, roundIn_of_wpIn trivial ?_⟩
    have hA : ({ tmps := ((ps.zip (enc i x)).foldl (fun tmps (t, a) => tmps.setIfInBounds t a) (fr ⟨nt, ds, none⟩ env).tmps), defers := [] } : Act) = fr ⟨nt, [], some (w.heap.size + 1)⟩ (zipE ps.toList (enc i x).toList env) := by
      rw [← fr_zip]
      simp only [fr, Act.mk.injEq, and_true]
      rw [← Array.foldl_toList, Array.toList_zip]
    have hb' := hb W (St.init g1')
    rw [← hA] at hb'
    refine wpIn_mono hb' ?_
    intro e a1 w1 hq
    cases e with
    | normal =>
      obtain ⟨L1, env1, rfl, hs1, hbody⟩ := hq
      obtain ⟨hl1, hs2⟩ := hs1.lp (r' := rec .busy none)
      refine ⟨_, run_beginRound hl1 (by rw [hrec]), ?_⟩
      have hbb := hbody _ (by rw [hrec] at hs2 ⊢; exact hs2)
      rw [hrec] at hbb ⊢
      refine wpIn_mono hbb ?_
      intro e2 a2 w2 hq2
      cases e2 with
      | normal =>
        obtain ⟨hl2, hs3⟩ := St.lp (r' := rec .ready none) hq2
        refine ⟨_, _, run_endRound none hl2, true, rfl, ?_⟩
        rw [hrec] at hs3
        simp only [J, hrec]
        obtain ⟨H, hH, hh⟩ := hs3
        exact ⟨H, stars_all_mk (by rw [List.append_nil]; exact hH), hh⟩
      | ret =>
        obtain ⟨hl2, hs3⟩ := St.lp (r' := rec .done (some .ret)) hq2
        refine ⟨_, _, run_endRound (some .ret) hl2, false, rfl, ?_⟩
        rw [hrec] at hs3
        obtain ⟨H, hH, hh⟩ := hs3
        exact ⟨H, stars_ex_mk i (stars_ex_mk Code.ret (stars_all_mk (by rw [List.append_nil, hrec]; exact hH))), hh⟩
      | exit id =>
        obtain ⟨hl2, hs3⟩ := St.lp (r' := rec .done (some (.exit id))) hq2
        refine ⟨_, _, run_endRound (some (.exit id)) hl2, false, rfl, ?_⟩
        rw [hrec] at hs3
        obtain ⟨H, hH, hh⟩ := hs3
        exact ⟨H, stars_ex_mk i (stars_ex_mk (Code.exit id) (stars_all_mk (by rw [List.append_nil, hrec]; exact hH))), hh⟩
      | goto t => exact hq2.elim
      | panic c => exact hq2.elim
      | outgrown => exact hq2.elim
    | exit id => exact hq.elim
    | ret => exact hq.elim
    | goto t => exact hq.elim
    | panic c => exact hq.elim
    | outgrown => exact hq.elim
  have hcall := hit (w.heap.size + 1) J Jx wa F1a F2 hown h2a hda (hsta.weak fun k hk => hk.elim .inl (fun h => .inr (.inr h))) hrounds
  refine ⟨w.heap.size + 1, [mkD w.heap.size], wa, { target := .fn (.func gf) lb, args := #[.func (.yield (w.heap.size + 1)) #[] #[]] }, wa, gf, #[.func (.yield (w.heap.size + 1)) #[] #[]] ++ lb, wa, ?_, ?_, ?_, ?_, ?_, ?_⟩
  · rw [show (FR (⟨nt, ds, none⟩ : Fm).ro).round = none from rfl, ← hwa, hrec]; exact hrun
  · have hg' : (fr ⟨nt, ds, none⟩ env).eval g = .func (.func gf) #[] lb := by rw [fr_eval]; exact hg
    simp only [resolve, hg']
    simp [go_sem]
  · intro f' _; trivial
  · unfold okCall at eg
    cases hp : P.funcs[gf]? with
    | none => simp [hp] at eg
    | some fn' =>
      cases hb : fn'.body with
      | none => simp [hp, hb] at eg
      | some c =>
        have hn : ¬ fn'.name = "runtime.NumGoroutine" := by simpa [hp, hb] using eg
        simp [invoke, callFunc, program, Sem.run, hp, hb, hn]
  · exact deep_FR _
  · refine callsIn_FR.2 (hcall.mono ?_)
    rintro e w2 ⟨y, rfl, hs⟩
    have hs2 := St.call hsta h2d (fun k => Iff.rfl) hda2 hs
    cases hy : fin y with
    | some m =>
      simp only [hy] at hs2
      have hs3 : St w0 F0 (lpR (w.heap.size + 1) (rec .ready none) :: ((I m ++ O y) ++ (dfR w.heap.size :: L'))) w2 := by
        obtain ⟨H, hH, hh⟩ := hs2
        exact ⟨H, by simpa using stars_all hH, hh⟩
      obtain ⟨hl, hs4⟩ := St.lp_out (o := .loop { (rec .ready none) with state := .exhausted }) hs3
      have hpe : (rec .ready none).pending = none := by rw [hrec]
      refine ⟨none, _, (run_endLoop (P := P) hl (by rw [hrec]; simp)).trans (congrArg (fun p => Result.ok p _) hpe), ?_⟩
      exact hdone w.heap.size y m hy _ (by
        obtain ⟨H, hH, hh⟩ := hs4
        exact ⟨H, stars_out1 hH, hh⟩)
    | none =>
      simp only [hy] at hs2
      obtain ⟨H, hH, hh⟩ := hs2
      obtain ⟨i, hH⟩ := stars_ex hH
      obtain ⟨c, hH⟩ := stars_ex hH
      have hH := stars_all hH
      have hs3 : St w0 F0 (lpR (w.heap.size + 1) (rec .done (some c)) :: ((X i c ++ O y) ++ (dfR w.heap.size :: L'))) w2 := ⟨H, by simpa using hH, hh⟩
      obtain ⟨hl, hs4⟩ := St.lp_out (o := .loop { (rec .done (some c)) with state := .exhausted }) hs3
      have hpe : (rec .done (some c)).pending = some c := by rw [hrec]
      refine ⟨some c, _, (run_endLoop (P := P) hl (by rw [hrec]; simp)).trans (congrArg (fun p => Result.ok p _) hpe), ?_⟩
      exact hstop w.heap.size y i c hy _ (by
        obtain ⟨H, hH, hh⟩ := hs4
        exact ⟨H, stars_out1 hH, hh⟩)
theorem gc_noway {c : Code} {b : Nat} {O L' : List Res} : Gc P w0 F0 (dfR b :: ([pureR False] ++ O) ++ L') c Q n env := fun w hw => by
  obtain ⟨F, hF, _⟩ := hw
  obtain ⟨F1, F2, _, h2, _⟩ := hF
  exact (stars_pure h2).1.elim
theorem gx_thenM {n m : Fm} {y : Code} {Q' : Exit → Act → World → Prop} (h : Gc P w0 F0 L y Q n env) (hr : m.ro = n.ro := by rfl) : Gx w0 F0 L (Exit.then (cwp m P y Q) Q') .normal n env := fun w hw => by
  show y.wpIn (FR m.ro) 0 P Q _ w
  rw [hr]; exact h w hw
def bodyPostN (P : Program) (fn : Func) (R : Ending → World → Prop) : Exit → Act → World → Prop
  | .normal, a, w | .ret, a, w => LeavesInM (FR none) 0 P fn a.tmps R a.defers .returning w
  | _, _, _ => False
theorem g_enterM {f : FuncId} {fn : Func} {c : Code} {args : Array Value} {w : World} {F : Nat → Prop} {R : Ending → World → Prop} (hf : P.funcs[f]? = some fn) (hb : fn.body = some c)
    (hs : stars L w F) {nt : Nat} (hnt : fn.ntmps = nt) (hn : Nat.ble args.size nt = true) (henv : enumE 0 args.toList = env) (h : Gc P w F L c (bodyPostN P fn R) ⟨nt, [], none⟩ env) : Calls P f args w R :=
  callsIn_FR.1 (callsIn_of_wp_marks (F := FR none) (n := 0) hf hb trivial (by subst hnt; subst henv; rw [fr_init _ _ (by exact Nat.le_of_ble_eq_true hn)]; exact wpIn_mono (h w (St.init hs)) (fun e a w' hq => by cases e <;> first | exact hq | exact hq.elim)))
theorem gx_mark {fn : Func} {R : Ending → World → Prop} {b nt : Nat} {ds : List Deferred} {ro : Option Nat} {L' : List Res} (hp : Pick L (dfR b) L') (h : Gx w0 F0 L' (bodyPostN P fn R) .ret ⟨nt, ds, ro⟩ env) : Gx w0 F0 L (bodyPostN P fn R) .ret ⟨nt, mkD b :: ds, ro⟩ env := fun w hw => by
  obtain ⟨hb, hs⟩ := hw.df_out (o := .deferred none) hp
  exact ⟨by simp, .inl ⟨b, _, rfl, run_takeDeferred hb, h _ hs⟩⟩
theorem gx_mark0 {fn : Func} {R : Ending → World → Prop} {nt : Nat} {ro : Option Nat} (h : Gx w0 F0 L (bodyPost P fn R) .ret ⟨nt, [], ro⟩ env) : Gx w0 F0 L (bodyPostN P fn R) .ret ⟨nt, [], ro⟩ env := fun w hw => (h w hw).2
end
end
section
def RdRec (w : World) (A : Nat → Prop) (cs : List Value) (r : LRec) : Prop :=
  ∃ a1 n1 c1 a2 n2 c2, cs = dc (idOf r.b) ++ [.slice a1 n1 c1, .slice a2 n2 c2] ∧ n1 ≤ c1 ∧ n2 ≤ c2 ∧ RdRow w A 1 a1 n1 (r.bs.map B8) ∧ RdRow w A 1 a2 n2 (r.cs.map B8)
theorem RdRec.mv {w w' : World} {A A' : Nat → Prop} {cs : List Value} {r : LRec} (h : RdRec w A cs r) (hk : Still w A w' A') : RdRec w' A' cs r := by
  obtain ⟨a1, n1, c1, a2, n2, c2, h1, h2, h3, h4, h5⟩ := h; exact ⟨a1, n1, c1, a2, n2, c2, h1, h2, h3, h4.mv hk, h5.mv hk⟩
instance : RdK RdRec := ⟨fun h k => h.mv k⟩
theorem RdRec.len {w : World} {A : Nat → Prop} {cs : List Value} {r : LRec} (h : RdRec w A cs r) : cs.length = 18 := by obtain ⟨_, _, _, _, _, _, h, _⟩ := h; subst h; simp [dc_length]
theorem RdRec.one {w : World} {A : Nat → Prop} {cs : List Value} {r : LRec} (h : RdRec w A cs r) : ∀ v ∈ cs, v.oneCell' = true := by
  obtain ⟨_, _, _, _, _, _, h, _⟩ := h; subst h; exact all_app' (dc_one _) (all_cons' rfl (all_cons' rfl all_nil'))
theorem zD_one : ∀ v ∈ zD, v.oneCell' = true := fun v hv => by rw [List.eq_of_mem_replicate hv]; rfl
def recZ : List Value := zD ++ [.slice none 0 0, .slice none 0 0]
def RdMade (w : World) (A : Nat → Prop) (cs : List Value) (x : Block × QC) : Prop := if madeE x.1 x.2 = 0 then RdRec w A cs ⟨x.1, x.2⟩ else cs = recZ
instance : RdK RdMade := ⟨fun {w w' A A' cs x} h k => by unfold RdMade at *; split at h <;> rename_i hh; rw [if_pos hh]; exact RdRec.mv h k; rw [if_neg hh]; exact h⟩
theorem RdMade.len {w : World} {A : Nat → Prop} {cs : List Value} {x : Block × QC} (h : RdMade w A cs x) : cs.length = 18 := by
  unfold RdMade at h; split at h
  · exact h.len
  · subst h; rfl
theorem RdMade.one {w : World} {A : Nat → Prop} {cs : List Value} {x : Block × QC} (h : RdMade w A cs x) : ∀ v ∈ cs, v.oneCell' = true := by
  unfold RdMade at h; split at h
  · exact h.one
  · subst h; exact all_app' zD_one (all_cons' rfl (all_cons' rfl all_nil'))
theorem made_none {b : Block} {c : QC} (h : madeE b c ≠ 0) {w : World} {A : Nat → Prop} : RdMade w A recZ (b, c) := by unfold RdMade; rw [if_neg h]
theorem rd_cert {w : World} {A : Nat → Prop} {q : List Value} {c : QC} (h : RdQC w A q c) {cs : List Value} (hc : cs = .int .i64 0 :: .int .i64 0 :: (zD ++ (q ++ [.slice none 0 0, .slice none 0 0]))) : RdBlock w A cs (certB c) :=
  ⟨q, none, 0, 0, none, 0, 0, hc.trans (by rw [show zD = dc dig0 from rfl]; rfl), h, Nat.le_refl 0, RdList.nil, Nat.le_refl 0, RdList.nil⟩
theorem vl_rec {b : Block} {c : QC} {w : World} {F : Nat → Prop} {a1 a2 : Option Addr} {c1 c2 e1 e2 n1 n2 : Nat} {l1 l2 : List UInt8} {cs : List Value} (hm : madeE b c = 0) (h : stars [rowR e1 1 a1 n1 c1 (l1.map B8), rowR e2 1 a2 n2 c2 (l2.map B8)] w F)
    (hb : l1 = (⟨b, c⟩ : LRec).bs) (hc : l2 = (⟨b, c⟩ : LRec).cs) (hcs : cs = dc (idOf b) ++ [.slice a1 n1 c1, .slice a2 n2 c2]) : stars [VlR RdMade cs (b, c)] w F := by
  subst hb; subst hc
  obtain ⟨F1, F2, h1, h2, hF⟩ := stars_two h
  refine rdR_mk ?_ h
  unfold RdMade
  rw [if_pos hm]
  exact ⟨a1, n1, c1, a2, n2, c2, hcs, h1.2.1, h2.2.1, (rowR.rd h1).mv (still_sub fun k hk => (hF k).2 (.inl hk)), (rowR.rd h2).mv (still_sub fun k hk => (hF k).2 (.inr hk))⟩
instance : One recZ := One.of (all_app' zD_one (all_cons' rfl (all_cons' rfl all_nil')))
instance : Len recZ 18 := ⟨rfl⟩
attribute [local irreducible] Gl Gc Gx Gs Runs Wt
attribute [local irreducible] dc
theorem sectors_ok {w : World} {F : Nat → Prop} {n : Nat} (h : stars [] w F) (hn : n ≤ 1099511627776) :
    Calls Tryz.prog 79 #[.int .i64 (n : Int)] w (Post w F (fun _ : Unit => .int .i64 (nsec n : Int)) (fun _ => [])) := by
 refine g_enter (env := [(0, .int .i64 (n : Int))]) Tryz.func79 rfl h Tryz.ntmps79 rfl rfl ?_; refine gsr (zxa ?_); refine zxs ?_; refine zxm ?_; refine gp zad ?_; refine gp zsb ?_; refine gp (r_int (j := (nsec n : Int)) (zqu (i := (n : Int) + 64 - 1) (j := 64)) (by rw [Int.tdiv_eq_ediv_of_nonneg (by omega), wrap_i64 (by omega) (by omega)]; unfold nsec; omega)) ?_; refine zxa ?_; refine gnt (gc_ret (gx_ret1 rfl (by conv => lhs; whnf) ?_)); exact ze ()
theorem made_ok' {w : World} {F : Nat → Prop} {TE : Nat} {ea : Nat → Addr} {cs qs : List Value} {b : Block} {c : QC} (h : stars [] w F) {es : List Nat} [Has es 1] [Has es 4] [Has es 12] (hE : GErr es w (fun k => ¬ F k) TE ea) (hK : KR w (fun k => ¬ F k)) (hx : RdBlock w (fun k => ¬ F k) cs b) (hq : RdQC w (fun k => ¬ F k) qs c) :
    Calls Tryz.prog 46 #[.agg cs.toArray, .agg qs.toArray] w (Post w F (fun r : List Value => .tuple #[.agg r.toArray, eV TE ea (madeE b c)]) (fun r => [pureR (r.length = 18 ∧ ∀ v ∈ r, v.oneCell' = true), VlR RdMade r (b, c)])) := by
 have hx' := hx
 have hq' := hq
 obtain ⟨av, nv, kv, rfl, hq1, hq2⟩ := hq'; obtain ⟨q, a1, n1, c1, a2, n2, c2, rfl, hx1, hx2, hx3, hx4, hx5⟩ := hx'; have hl2 := hx1.len
 have il2 := Len.of hl2
 have jl2 := One.of hx1.one
 refine g_enter (env := [(0, _), (1, _)]) Tryz.func46 rfl h Tryz.ntmps46 rfl rfl ?_; refine gsr (zbN fun b2 => ?_); refine zbN fun b3 => ?_; refine zal fun b4 => ?_; refine gl_eqc (cs' := recZ) (by repeat (first | exact Pick.here | apply Pick.there)) (by kernel_rfl) ?_; refine zxa ?_; refine zxs ?_; refine gp zL ?_; refine zc (fun _ => ?_) (c := fun w1 F1 F2 h1 h2 hd hst => id_ok h1 (hE.mv hst.still) (hK.mv hst.still) (hx.mv hst.still))
 refine zxm ?_; refine gp zex ?_; refine gp zex ?_; refine zal fun b6 => ?_; refine zsN ?_; refine zxa ?_; refine gnt (gc_seq (gsr (zxm ?_))); refine gp (r_nenil rfl (by kernel_rfl)) ?_; refine gnt (gif rfl (fun hc16 => ?_) (fun hc16 => ?_))
 ·try simp only at hc16
  have e1 : (wBlock b ⟨0, []⟩).err ≠ 0 := by simpa using hc16
  refine gc_seq (gc_regionZ 3 [] ?_); refine yps 0 rfl zbu ?_; refine yps 1 rfl (r_ld1o rfl Ty.row_53 (hE.c 4 Has.h) (hE.n 4 Has.h)) ?_; refine yos 2 rfl ?_; refine zsN ?_; refine yxs ?_; refine yzs rfl ?_; refine zxa ?_; refine gnt (gc_ret (gx_then_ret (gx_retct rfl rfl (by conv => lhs; whnf) (ldA Ty.row_119 Ty.sz_119) ?_))); intro w' hw; have he : madeE b c = 4 := by unfold madeE blkW; rw [if_pos e1]
  exact ⟨recZ, by rw [he]; rfl, St.pureI ⟨rfl, One.h⟩ (St.vl (hw.z) (made_none (by rw [he]; decide)))⟩
 ·try simp only at hc16
  have e1 : (wBlock b ⟨0, []⟩).err = 0 := by simpa using hc16
  refine gc_skip (gx_then (gsr (gp zL ?_))); refine zc ?_ (c := fun w1 F1 F2 h1 h2 hd hst => bytes_ok h1 (hE.mv hst.still) (hx.mv hst.still))
  rintro ⟨a21, c21⟩
  refine zxm ?_; refine gp zex ?_; refine gp zex ?_; refine zxa ?_; refine zxa ?_; refine gnt (gc_seq (gsr (zxm ?_))); refine gp (r_nenil rfl (by kernel_rfl)) ?_; refine gnt (gif rfl (fun hc25 => ?_) (fun hc25 => ?_))
  ·try simp only at hc25
   exfalso; simp [e1] at hc25
  ·refine gc_skip (gx_then (gsr (gp zL ?_))); refine gp zbu ?_; refine zc ?_ (c := fun w1 F1 F2 h1 h2 hd hst => bytes_ok (x := certB c) h1 (hE.mv hst.still) (rd_cert (cs := .int .i64 0 :: .int .i64 0 :: (zD ++ (.int .i64 c.epoch :: .int .i64 c.round :: (dc c.block ++ [.slice av nv kv, .slice none 0 0, .slice none 0 0])))) (hq.mv hst.still) (by simp)))
   rintro ⟨a31, c31⟩
   refine zxm ?_; refine gp zex ?_; refine gp zex ?_; refine zxa ?_; refine zxa ?_; refine gnt (gc_seq (gsr (zxm ?_))); refine gp (r_nenil rfl (by kernel_rfl)) ?_; refine gnt (gif rfl (fun hc35 => ?_) (fun hc35 => ?_))
   ·try simp only at hc35
    have e2 : (wBlock (certB c) ⟨0, []⟩).err ≠ 0 := by simpa using hc35
    refine gc_seq (gc_regionZ 3 [] ?_); refine yps 0 rfl zbu ?_; refine yps 1 rfl (r_ld1o rfl Ty.row_53 (hE.c 4 Has.h) (hE.n 4 Has.h)) ?_; refine yos 2 rfl ?_; refine zsN ?_; refine yxs ?_; refine yzs rfl ?_; refine zxa ?_; refine gnt (gc_ret (gx_then_ret (gx_retct rfl rfl (by conv => lhs; whnf) (ldA Ty.row_119 Ty.sz_119) ?_))); intro w' hw; have he : madeE b c = 4 := by unfold madeE blkW; rw [if_neg (by simpa using e1), if_pos e2]
    exact ⟨recZ, by rw [he]; rfl, St.pureI ⟨rfl, One.h⟩ (St.vl (hw.z) (made_none (by rw [he]; decide)))⟩
   ·try simp only at hc35
    have e2 : (wBlock (certB c) ⟨0, []⟩).err = 0 := by simpa using hc35
    refine gc_skip (gx_then (gc_seq (gc_seq ?_))); by_cases hS1 : c.block = idOf b
    ·by_cases hS2 : c.epoch = b.epoch
     ·by_cases hS3 : c.round = b.round
      ·refine gc_region (gp zfa ?_); refine gp zL ?_; refine gp zL ?_; refine gp (r_bool (c := false) znd (by simp [hS1])) ?_; refine zxm ?_; refine gq zfa ?_; refine gq zl ?_; refine gq zfa ?_; refine gq zl ?_; refine gq (r_bool (c := false) zni (by simp [hS2])) ?_; refine gp zpk ?_; refine zxm ?_; refine gq zfa ?_; refine gq zl ?_; refine gq zfa ?_; refine gq zl ?_; refine gq (r_bool (c := false) zni (by simp [hS3])) ?_; refine gp zpk ?_; refine gnt (gc_condF rfl rfl ?_); refine gc_skip (gx_then (gsr (gp zL ?_))); refine zxm ?_; refine zxm ?_; refine gp zbu ?_; refine zsN ?_; refine zxa ?_; refine gnt (gc_ret (gx_retct rfl rfl (by conv => lhs; whnf) (ldA Ty.row_119 Ty.sz_119) ?_)); intro w' hw; have he : madeE b c = 0 := by unfold madeE blkW; rw [if_neg (by simpa using e1), if_neg (by simpa using e2), if_pos ⟨hS1, hS2, hS3⟩]
       have hw := hw.conv (M := [rowR 5 1 a21 (wOut (wBlock b ⟨0, []⟩)).length c21 ((wOut (wBlock b ⟨0, []⟩)).map B8), rowR 5 1 a31 (wOut (wBlock (certB c) ⟨0, []⟩)).length c31 ((wOut (wBlock (certB c) ⟨0, []⟩)).map B8)]) (by repeat (first | exact Sel.nil | (apply Sel.cons; · (repeat (first | exact Pick.here | apply Pick.there))))) (fun _ _ h => vl_rec he h (by rw [wOut, if_pos e1]; rfl) (by rw [wOut, if_pos e2]; rfl) rfl)
       exact ⟨_, by rw [he, eV_zero], St.pureI ⟨by simp [dc_length], all_app' (dc_one _) (all_cons' rfl (all_cons' rfl all_nil'))⟩ (hw.z)⟩
      ·refine gc_region (gp zfa ?_); refine gp zL ?_; refine gp zL ?_; refine gp (r_bool (c := false) znd (by simp [hS1])) ?_; refine zxm ?_; refine gq zfa ?_; refine gq zl ?_; refine gq zfa ?_; refine gq zl ?_; refine gq (r_bool (c := false) zni (by simp [hS2])) ?_; refine gp zpk ?_; refine zxm ?_; refine gq zfa ?_; refine gq zl ?_; refine gq zfa ?_; refine gq zl ?_; refine gq (r_bool (c := true) zni (by simp [hS3])) ?_; refine gp zpk ?_; refine gnt (gc_condT rfl rfl ?_); refine gc_seq (gc_regionZ 3 [] ?_); refine yps 0 rfl zbu ?_; refine yps 1 rfl (r_ld1o rfl Ty.row_53 (hE.c 12 Has.h) (hE.n 12 Has.h)) ?_; refine yos 2 rfl ?_; refine zsN ?_; refine yxs ?_; refine yzs rfl ?_; refine zxa ?_; refine gnt (gc_ret (gx_then_ret (gx_retct rfl rfl (by conv => lhs; whnf) (ldA Ty.row_119 Ty.sz_119) ?_))); intro w' hw; have he : madeE b c = 12 := by unfold madeE blkW; rw [if_neg (by simpa using e1), if_neg (by simpa using e2), if_neg (fun h => by simp_all)]
       exact ⟨recZ, by rw [he]; rfl, St.pureI ⟨rfl, One.h⟩ (St.vl (hw.z) (made_none (by rw [he]; decide)))⟩
     ·refine gc_region (gp zfa ?_); refine gp zL ?_; refine gp zL ?_; refine gp (r_bool (c := false) znd (by simp [hS1])) ?_; refine zxm ?_; refine gq zfa ?_; refine gq zl ?_; refine gq zfa ?_; refine gq zl ?_; refine gq (r_bool (c := true) zni (by simp [hS2])) ?_; refine gp zpk ?_; refine zxm ?_; refine gn ?_; refine gn ?_; refine gn ?_; refine gn ?_; refine gn ?_; refine gp zpk ?_; refine gnt (gc_condT rfl rfl ?_); refine gc_seq (gc_regionZ 3 [] ?_); refine yps 0 rfl zbu ?_; refine yps 1 rfl (r_ld1o rfl Ty.row_53 (hE.c 12 Has.h) (hE.n 12 Has.h)) ?_; refine yos 2 rfl ?_; refine zsN ?_; refine yxs ?_; refine yzs rfl ?_; refine zxa ?_; refine gnt (gc_ret (gx_then_ret (gx_retct rfl rfl (by conv => lhs; whnf) (ldA Ty.row_119 Ty.sz_119) ?_))); intro w' hw; have he : madeE b c = 12 := by unfold madeE blkW; rw [if_neg (by simpa using e1), if_neg (by simpa using e2), if_neg (fun h => by simp_all)]
      exact ⟨recZ, by rw [he]; rfl, St.pureI ⟨rfl, One.h⟩ (St.vl (hw.z) (made_none (by rw [he]; decide)))⟩
    ·refine gc_region (gp zfa ?_); refine gp zL ?_; refine gp zL ?_; refine gp (r_bool (c := true) znd (by simp [hS1])) ?_; refine zxm ?_; refine gn ?_; refine gn ?_; refine gn ?_; refine gn ?_; refine gn ?_; refine gp zpk ?_; refine zxm ?_; refine gn ?_; refine gn ?_; refine gn ?_; refine gn ?_; refine gn ?_; refine gp zpk ?_; refine gnt (gc_condT rfl rfl ?_); refine gc_seq (gc_regionZ 3 [] ?_); refine yps 0 rfl zbu ?_; refine yps 1 rfl (r_ld1o rfl Ty.row_53 (hE.c 12 Has.h) (hE.n 12 Has.h)) ?_; refine yos 2 rfl ?_; refine zsN ?_; refine yxs ?_; refine yzs rfl ?_; refine zxa ?_; refine gnt (gc_ret (gx_then_ret (gx_retct rfl rfl (by conv => lhs; whnf) (ldA Ty.row_119 Ty.sz_119) ?_))); intro w' hw; have he : madeE b c = 12 := by unfold madeE blkW; rw [if_neg (by simpa using e1), if_neg (by simpa using e2), if_neg (fun h => by simp_all)]
     exact ⟨recZ, by rw [he]; rfl, St.pureI ⟨rfl, One.h⟩ (St.vl (hw.z) (made_none (by rw [he]; decide)))⟩
end
section
theorem list_two {w : World} {A : Nat → Prop} {a a1 a2 : Option Addr} {n1 c1 n2 c2 : Nat} {l1 l2 : List UInt8} (hr : RdRow w A 1 a 2 [.slice a1 n1 c1, .slice a2 n2 c2]) (k1 : n1 ≤ c1) (k2 : n2 ≤ c2) (h1 : RdRow w A 1 a1 n1 (l1.map B8)) (h2 : RdRow w A 1 a2 n2 (l2.map B8)) :
    RdList (RdBytes w A) w A 1 a 2 [l1, l2] :=
  ⟨[[.slice a1 n1 c1], [.slice a2 n2 c2]], hr, by simp, rfl, fun i c x hc hx => by
    match i with
    | 0 => simp at hc hx; subst hc; subst hx; exact ⟨_, _, _, rfl, k1, h1⟩
    | 1 => simp at hc hx; subst hc; subst hx; exact ⟨_, _, _, rfl, k2, h2⟩
    | i + 2 => simp at hc⟩
theorem head_cells (k : Nat) (d : List UInt8) : updL (((firstL k d) ++ List.replicate 56 0).map B8) 8 (dc (dOf Kc 10 [firstL k d, d])) = sc (headL k d) := by
  have h8 : (firstL k d).length = 8 := firstL_len k d
  rw [show dc (dOf Kc 10 [firstL k d, d]) = (dOf Kc 10 [firstL k d, d]).l.map B8 from rfl, updL_updY]
  simp only [updY, sc, headL]
  rw [List.take_left' h8, List.drop_append, List.drop_eq_nil_of_le (by rw [h8, Dig.h]; omega), h8, Dig.h]
  simp
theorem first_cells (k : Nat) (d : List UInt8) : updL ((List.replicate 64 (0 : UInt8)).map B8) 0 ((firstL k d).map B8) = ((firstL k d) ++ List.replicate 56 0).map B8 := by
  have h8 : (firstL k d).length = 8 := firstL_len k d
  rw [updL_updY]; simp [updY, h8]
theorem wfirst {k n : Nat} (hk : k < 4294967296) (hn : n < 4294967296) : wNum (k : Int) 4 (wNum (n : Int) 4 ⟨0, []⟩) = ⟨0, beN (n : Int) 4 ++ beN (k : Int) 4⟩ := by
  have p4 : (256 : Nat) ^ 4 = 4294967296 := by decide
  rw [wNum_of (n := n) (by omega) rfl, wNum_of (n := k) (by omega) rfl]; simp
theorem wfirst1 {n : Nat} (hn : n < 4294967296) : (wNum (n : Int) 4 ⟨0, []⟩).bs.length ≤ 4 := by
  have p4 : (256 : Nat) ^ 4 = 4294967296 := by decide
  rw [wNum_of (by omega) rfl]; simp [beN_length]
structure LS where
  base : Int
  rs : List LRec
  e : Nat
def LedR (q g : Nat) (l : LS) : Res := exR fun x : (Option Addr × Nat) × List (List Value) => allR [pureR (∀ c ∈ x.2, c.length = 18), blk q 125 [.pointer (some ⟨g, 0, none⟩), .int .i64 l.base, .int .i64 l.e, .slice x.1.1 l.rs.length x.1.2], rowR 119 18 x.1.1 l.rs.length x.1.2 x.2.flatten, ElR RdRec x.2 l.rs]
section
variable {w0 w : World} {F F0 : Nat → Prop} {q g : Nat} {l : LS} {L : List Res} {Q : Exit → Act → World → Prop} {n : Fm} {env : Env} {ops : Array Oper} {rest : List Oper}
abbrev ledL (q g : Nat) (b e : Int) (a : Option Addr) (m c : Nat) (css : List (List Value)) (rs : List LRec) (L : List Res) : List Res := blk q 125 [.pointer (some ⟨g, 0, none⟩), .int .i64 b, .int .i64 e, .slice a m c] :: rowR 119 18 a m c css.flatten :: ElR RdRec css rs :: L
theorem led_open (h : stars (LedR q g l :: L) w F) : ∃ a c css, (∀ c ∈ css, List.length c = 18) ∧ stars (ledL q g l.base l.e a l.rs.length c css l.rs L) w F := by
  obtain ⟨⟨⟨a, c⟩, css⟩, h⟩ := stars_ex h
  obtain ⟨h1, h2⟩ := stars_pure (stars_all h)
  exact ⟨a, c, css, h1, h2⟩
theorem St.led {b e : Int} {a : Option Addr} {m c : Nat} {css : List (List Value)} {rs : List LRec} (h : St w0 F0 (ledL q g b e a m c css rs L) w) (h18 : ∀ c ∈ css, List.length c = 18) (hb : b = l.base) (he : e = l.e) (hrs : rs = l.rs) (hm : m = l.rs.length) : St w0 F0 (LedR q g l :: L) w := by
  subst hb; subst he; subst hrs; subst hm
  obtain ⟨F, hF, hst⟩ := h
  exact ⟨F, stars_ex_mk ((a, c), css) (stars_all_mk (stars_pure_mk h18 hF)), hst⟩
theorem St.led0 {b e : Int} (h : St w0 F0 (blk q 125 [.pointer (some ⟨g, 0, none⟩), .int .i64 b, .int .i64 e, .slice none 0 0] :: L) w) (hb : b = l.base) (he : e = l.e) (hrs : l.rs = []) : St w0 F0 (LedR q g l :: L) w := by
  have h1 : St w0 F0 (ledL q g b e none 0 0 [] [] L) w := by
    obtain ⟨F, hF, hst⟩ := h
    exact ⟨F, by
      have hr := el_nil (rd := RdRec) hF
      have h2 := stars_row_nil (e := 119) (size := 18) hr
      exact (Pick.there (Pick.there Pick.here)).stars h2 |> fun h3 => h3, hst⟩
  exact h1.led (by simp) hb he hrs.symm (by rw [hrs]; rfl)
theorem gl_led {L' : List Res} (hp : Pick L (LedR q g l) L') (k : ∀ a m css, (∀ c ∈ css, List.length c = 18) → Gl Tryz.prog w0 F0 (ledL q g l.base l.e a l.rs.length m css l.rs L') ops Q rest n env) : Gl Tryz.prog w0 F0 L ops Q rest n env := fun w hw => by
  obtain ⟨F, hF, hst⟩ := hw.pick hp
  obtain ⟨a, m, css, h18, h⟩ := led_open hF
  exact k a m css h18 w ⟨F, h, hst⟩
end
attribute [local irreducible] Gl Gc Gx Gs Runs Wt
theorem data_ok {w : World} {F : Nat → Prop} {TE : Nat} {ea : Nat → Addr} {cs : List Value} {r : LRec} (h : stars [] w F) {es : List Nat} [Has es 1] (hE : GErr es w (fun k => ¬ F k) TE ea) (hx : RdRec w (fun k => ¬ F k) cs r) :
    Calls Tryz.prog 47 #[.agg cs.toArray] w (Post w F (fun a : Option Addr × Nat => .tuple #[.slice a.1 r.data.length a.2, eV TE ea 0]) (fun a => [rowR 5 1 a.1 r.data.length a.2 (r.data.map B8)])) := by
 have hlb := bs_len r
 have hlc := cs_len r
 have hdl := data_len r
 obtain ⟨a1, n1, c1, a2, n2, c2, rfl, hx2, hx3, hx4, hx5⟩ := hx; have hw := wRec_ok hlb hlc
 unfold wRec at hw
 have hd : dataL r.bs r.cs = r.data := rfl
 have hb1 : (wBytes r.bs 65535 ⟨0, []⟩).bs.length ≤ 8487 := by rw [wBytes_fit rfl (by omega)]; simp [beN_length]; omega
 refine g_enter (env := [(0, _)]) Tryz.func47 rfl h Tryz.ntmps47 rfl rfl ?_; refine gsr (zbN fun b1 => ?_); refine zxa ?_; refine zxa ?_; refine zxs ?_; refine zc (fun g => ?_) (c := fun w1 F1 F2 h1 h2 hd hst => newwriter_ok (TE := TE) (ea := ea) h1)
 refine zxa ?_; refine zxs ?_; refine zxm ?_; refine gp zfa ?_; refine gp zl ?_; refine zc (fun _ => ?_) (c := fun w1 F1 F2 h1 h2 hd hst => wbytes_ok (b := r.bs) (most := 65535) h1 (hE.mv hst.still) (hx4.mv hst.still) (by decide) (by simp))
 refine zxs ?_; refine zxm ?_; refine gp zfa ?_; refine gp zl ?_; refine zc (fun _ => ?_) (c := fun w1 F1 F2 h1 h2 hd hst => wbytes_ok (b := r.cs) (most := 65535) h1 (hE.mv hst.still) (hx5.mv hst.still) (by decide) (by omega))
 rw [hw, hd]; refine zxs ?_; refine zxm ?_; refine zc ?_ (c := fun w1 F1 F2 h1 h2 hd hst => done_ok (s := ⟨0, r.data⟩) h1 (by show r.data.length ≤ _; omega))
 rintro ⟨a15, c15⟩
 refine gp zex ?_; refine gp zex ?_; refine zxa ?_; refine zxa ?_; refine gnt (gc_ret (gx_ret2 rfl (by conv => lhs; whnf) (by conv => lhs; whnf) ?_)); exact fun w' hw => ⟨(a15, c15), rfl, hw.z⟩
theorem head_ok {w : World} {F : Nat → Prop} {TE : Nat} {ea : Nat → Addr} {a : Option Addr} {n cc k : Nat} {d : List UInt8} (h : stars [] w F) {es : List Nat} [Has es 1] (hE : GErr es w (fun k => ¬ F k) TE ea) (hK : KR w (fun k => ¬ F k)) (hx : RdRow w (fun k => ¬ F k) 1 a n (d.map B8)) (hc : n ≤ cc) (hk : k < 4294967296) (hd : d.length < 4294967296) :
    Calls Tryz.prog 49 #[.int .i64 (k : Int), .slice a n cc] w (Post w F (fun _ : Unit => .tuple #[scV (headL k d), eV TE ea 0]) (fun _ => [])) := by
 have hn : n = d.length := by have := hx.1; simp at this; omega
 subst hn; have hw := wfirst hk hd
 have h8 := firstL_len k d
 have hl1 := wfirst1 hd
 refine g_enter (env := [(0, _), (1, _)]) Tryz.func49 rfl h Tryz.ntmps49 rfl rfl ?_; refine gsr (zal fun b4 => ?_); refine zxa ?_; refine zxs ?_; refine zal fun b6 => ?_; refine gl_eqc (cs' := (List.replicate 64 (0 : UInt8)).map B8) (by repeat (first | exact Pick.here | apply Pick.there)) (by simp [B8]) ?_; refine zxs ?_; refine zc (fun g => ?_) (c := fun w1 F1 F2 h1 h2 hd hst => newwriter_ok (TE := TE) (ea := ea) h1)
 refine zxa ?_; refine zxs ?_; refine zxm ?_; refine zxm ?_; refine gp zln ?_; refine zc (fun _ => ?_) (c := fun w1 F1 F2 h1 h2 hd hst => number_ok (n := (d.length : Int)) (wd := 4) h1 (hE.mv hst.still) (by decide) (by decide) (by simp))
 refine zxs ?_; refine zxm ?_; refine zxm ?_; refine zc (fun _ => ?_) (c := fun w1 F1 F2 h1 h2 hd hst => number_ok (n := (k : Int)) (wd := 4) h1 (hE.mv hst.still) (by decide) (by decide) (by omega))
 rw [hw, show beN (d.length : Int) 4 ++ beN (k : Int) 4 = firstL k d from rfl]; refine zxs ?_; refine zxm ?_; refine zc ?_ (c := fun w1 F1 F2 h1 h2 hd hst => done_ok (s := ⟨0, firstL k d⟩) h1 (by show (firstL k d).length ≤ _; omega))
 rintro ⟨a21, c21⟩
 rw [show wOut ⟨0, firstL k d⟩ = firstL k d from rfl]; refine zxm ?_; refine gp zex ?_; refine gp zex ?_; refine zxa ?_; refine zxa ?_; refine gnt (gc_seq (gsr (zxm ?_))); refine gp (r_nenil rfl (by kernel_rfl)) ?_; refine gnt (gc_condF rfl rfl ?_); refine gc_skip (gx_then (gsr (zxm ?_))); refine zxm ?_; refine gl_bsls (vs := [.slice a21 (firstL k d).length c21, .slice a d.length cc]) (wt0 rfl) Ty.sl_48 Ty.sz_68 Ty.zc_68 rfl rfl (all_cons' rfl (all_cons' rfl all_nil')) rfl rfl rfl (fun b30 => ?_)
 refine zc (fun _ => ?_) (c := fun w1 F1 F2 h1 h2 hd hst => of_ok (dom := 10) (parts := [firstL k d, d]) h1 (hK.mv hst.still) (list_two (rd_row (xs := [.slice a21 (firstL k d).length c21, .slice a d.length cc]) h2 hd (by repeat (first | exact Pick.here | apply Pick.there))) (rd_le (xs := (firstL k d).map B8) h2 (by repeat (first | exact Pick.here | apply Pick.there))) hc (rd_row (xs := (firstL k d).map B8) h2 hd (by repeat (first | exact Pick.here | apply Pick.there))) (hx.mv hst.still)) (by simp only [pcost, List.map_cons, List.map_nil, List.sum_cons, List.sum_nil]; omega))
 refine zal fun b10 => ?_; refine zsN ?_; refine gnt (gc_seq (gc_regionH [] ?_)); refine yp 0 rfl (r_slice_arr (l := 0) (h := 64) rfl Ty.arr_116 Ty.sz_5 rfl rfl (by omega) (by omega) (by omega)) ?_; refine yp 1 rfl zmv ?_; refine yp 4 rfl (r_slice_arr (l := 0) (h := 16) rfl Ty.arr_27 Ty.sz_5 rfl rfl (by omega) (by omega) (by omega)) ?_; refine yo 2 rfl ?_; refine gl_copy (news := (firstL k d).map B8) (hr := fun w' hw => hw.row (by repeat (first | exact Pick.here | apply Pick.there))) (hj := by omega) (h1 := one_B8 _) (hl := by simp; omega) (k := ?_)
 refine gl_eqc (cs' := (firstL k d ++ List.replicate 56 0).map B8) (by repeat (first | exact Pick.here | apply Pick.there)) (first_cells k d) ?_; refine yx ?_; refine yp 3 rfl (r_slice_arr (l := (firstL k d).length) (h := 64) rfl Ty.arr_116 Ty.sz_5 ⟨_, rfl⟩ rfl (by omega) (by omega) (by omega)) ?_; refine yo 5 rfl ?_; refine gl_copy (news := dc (dOf Kc 10 [firstL k d, d])) (hr := fun w' hw => (by have hx := hw.rdBlkY (l := (dOf Kc 10 [firstL k d, d]).l) (o := 0) (m := 16) (by repeat (first | exact Pick.here | apply Pick.there)) (by rw [Dig.h]; omega) (by decide); rw [List.drop_zero, List.take_of_length_le (by rw [Dig.h]; omega)] at hx; exact hx)) (hj := by omega) (h1 := dc_one _) (hl := by simp [h8]) (k := ?_)
 refine gl_eqc (cs' := sc (headL k d)) (by repeat (first | exact Pick.here | apply Pick.there)) (by simpa [h8] using head_cells k d) ?_; refine yx ?_; refine yd ?_; refine gx_then (gsr (gp (zL (sg := sc (headL k d))) ?_)); refine zsA (new := sc (headL k d)) (sc_length _) (sc_one _) ?_; refine zxa ?_; refine gnt (gc_ret (gx_retct rfl rfl (by conv => lhs; whnf) (ldA Ty.row_116 Ty.sz_116) ?_)); exact fun w' hw => ⟨(), by rw [eV_zero]; rfl, hw.z⟩
end
section
def fmtL (d : DS) (b : Int) : Nat × DS := if d.has b = true then (if (d.wr b sec0).1 = 0 then (if (oper (d.wr b sec0).2).off = true then 6 else 0, (d.wr b sec0).2.syncd) else d.wr b sec0) else (1, d)
def bytesE (f : Nat → Sec) (a n : Nat) : Nat × List UInt8 := match bytesAt f a n with | none => (7, []) | some x => (0, x)
attribute [local irreducible] Gl Gc Gx Gs Runs Wt
theorem lbegin_ok {w : World} {F : Nat → Prop} {g : Nat} {d : DS} (h : stars [DiskR g d] w F) {b : Int} {ea : Nat → Addr} (hk : DOk d) (hb : d.has b = true) :
    Calls Tryz.prog 43 #[.pointer (some ⟨g, 0, none⟩), .int .i64 b] w (Post w F (fun q : Nat => .tuple #[.pointer (some ⟨q, 0, none⟩), eV 251 ea 0]) (fun q => [LedR q g ⟨b, [], b.toNat⟩, DiskR g d])) := by
 obtain ⟨hb0, hb1⟩ := has_iff.1 hb; have hn4 := hk.n
 refine g_enter (env := [(0, .pointer (some ⟨g, 0, none⟩)), (1, .int .i64 b)]) Tryz.func43 rfl h Tryz.ntmps43 rfl rfl ?_; refine gsr (zxa ?_); refine zxa ?_; refine gnt (gc_seq (gsr (zxm ?_))); refine gp (r_bool (c := false) zlt (decide_eq_false (by omega))) ?_; refine zxm ?_; refine gq zmv ?_; refine gq zmv ?_; refine zc (fun _ => ?_) (c := fun w1 F1 F2 h1 h2 hd hst => size_ok h1)
 refine gq (r_bool (c := false) zge (decide_eq_false (by omega))) ?_; refine gp zpk ?_; refine gnt (gc_condF rfl rfl ?_); refine gc_skip (gx_then (gsr (zxm ?_))); refine zxm ?_; refine zxm ?_; refine gp zbu ?_; refine zbN fun b19 => ?_; refine zxa ?_; refine zxa ?_; refine gnt (gc_ret (gx_ret2 rfl (by conv => lhs; whnf) (by conv => lhs; whnf) ?_)); exact fun w' hw => ⟨b19, by rw [eV_zero], St.led0 (hw.z) rfl (by show b = ((b.toNat : Nat) : Int); omega) rfl⟩
theorem lbegin_bad {w : World} {F : Nat → Prop} {g : Nat} {d : DS} (h : stars [DiskR g d] w F) {b : Int} (hk : DOk d) {ea : Nat → Addr} {es : List Nat} [Has es 1] (hE : GErr es w (fun k => ¬ F k) 251 ea) (hb : d.has b = false) :
    Calls Tryz.prog 43 #[.pointer (some ⟨g, 0, none⟩), .int .i64 b] w (Post w F (fun _ : Unit => .tuple #[.pointer none, eV 251 ea 1]) (fun _ => [DiskR g d])) := by
 have hb' : ¬ (0 ≤ b ∧ b < d.n) := fun h => (by rw [has_iff.2 h] at hb; cases hb)
 have hn4 := hk.n
 refine g_enter (env := [(0, .pointer (some ⟨g, 0, none⟩)), (1, .int .i64 b)]) Tryz.func43 rfl h Tryz.ntmps43 rfl rfl ?_; refine gsr (zxa ?_); refine zxa ?_; refine gnt (gc_seq (gc_seq ?_)); by_cases hS : b < 0
 ·refine gc_region (zxm ?_); refine gp (r_bool (c := true) zlt (decide_eq_true hS)) ?_; refine zxm ?_; refine gn ?_; refine gn ?_; refine gn ?_; refine gn ?_; refine gp zpk ?_; refine gnt (gc_condT rfl rfl ?_); refine gc_seq (gc_regionS (by kernel_rfl) (by kernel_rfl) ?_); refine sp (r_ld1o rfl Ty.row_53 (hE.c 1 Has.h) (hE.n 1 Has.h)) ?_; refine sp zas ?_; refine sp zas ?_; refine gs_nil ?_; refine gx_then (gc_ret (gx_then_ret (gx_ret2 rfl (by conv => lhs; whnf) (by conv => lhs; whnf) ?_))); exact ze ()
 ·refine gc_region (zxm ?_); refine gp (r_bool (c := false) zlt (decide_eq_false hS)) ?_; refine zxm ?_; refine gq zmv ?_; refine gq zmv ?_; refine zc (fun _ => ?_) (c := fun w1 F1 F2 h1 h2 hd hst => size_ok h1)
  refine gq (r_bool (c := true) zge (decide_eq_true (by omega))) ?_; refine gp zpk ?_; refine gnt (gc_condT rfl rfl ?_); refine gc_seq (gc_regionS (by kernel_rfl) (by kernel_rfl) ?_); refine sp (r_ld1o rfl Ty.row_53 (hE.c 1 Has.h) (hE.n 1 Has.h)) ?_; refine sp zas ?_; refine sp zas ?_; refine gs_nil ?_; refine gx_then (gc_ret (gx_then_ret (gx_ret2 rfl (by conv => lhs; whnf) (by conv => lhs; whnf) ?_))); exact ze ()
theorem formatL_ok {w : World} {F : Nat → Prop} {g : Nat} {d : DS} (h : stars [DiskR g d] w F) {b : Int} (hk : DOk d) {ea : Nat → Addr} {es : List Nat} [Has es 1] [Has es 6] (hE : GErr es w (fun k => ¬ F k) 251 ea)  :
    Calls Tryz.prog 24 #[.pointer (some ⟨g, 0, none⟩), .int .i64 b] w (Post w F (fun q : Nat => .tuple #[.pointer (if (fmtL d b).1 = 0 then some ⟨q, 0, none⟩ else none), eV 251 ea (fmtL d b).1]) (fun q => if (fmtL d b).1 = 0 then [LedR q g ⟨b, [], b.toNat⟩, DiskR g (fmtL d b).2] else [DiskR g (fmtL d b).2])) := by
 refine g_enter (env := [(0, .pointer (some ⟨g, 0, none⟩)), (1, .int .i64 b)]) Tryz.func24 rfl h Tryz.ntmps24 rfl rfl ?_; refine gsr (zxa ?_); refine zxa ?_; refine gnt (gc_seq ?_); by_cases hS : d.has b = true
 ·refine gc_region (zxm ?_); refine zxm ?_; refine zc (fun q => ?_) (c := fun w1 F1 F2 h1 h2 hd hst => lbegin_ok (ea := ea) h1 hk hS)
  refine zxm ?_; refine gp zex ?_; refine gp zex ?_; refine zxa ?_; refine zxa ?_; refine gnt (gc_seq (gsr (zxm ?_))); refine gp (r_nenil rfl (by kernel_rfl)) ?_; refine gnt (gc_condF rfl rfl ?_); refine gc_skip (gx_then (gc_seq (gsr (zxm ?_)))); refine zxm ?_; refine gp (zba (cs := sc sec0) (by exact rfl)) ?_; refine zc (fun _ => ?_) (c := fun w1 F1 F2 h1 h2 hd hst => write_ok' (i := b) (v := sec0) h1 hk (hE.mv hst.still))
  refine zxa ?_; refine zxs ?_; refine zxm ?_; refine gp (r_bool (c := decide (¬ (d.wr b sec0).1 = 0)) (r_nenil rfl (by kernel_rfl)) (by simp)) ?_; refine gnt (gif rfl (fun hc24 => ?_) (fun hc24 => ?_))
  ·try simp only at hc24
   have e : fmtL d b = d.wr b sec0 := by rw [fmtL, if_pos hS, if_neg hc24]
   refine gsr (zxm ?_); refine zxa ?_; refine zxa ?_; refine gnt (gc_ret (gx_then_ret (gx_ret2 rfl (by conv => lhs; whnf) (by conv => lhs; whnf) ?_))); exact fun w' hw => ⟨0, by simp only [e, if_neg hc24], by simp only [e, if_neg hc24]; exact hw.z⟩
  ·try simp only at hc24
   have h0 : (d.wr b sec0).1 = 0 := by simpa using hc24
   have hk2 : DOk (d.wr b sec0).2 := wr_ok hk
   have e : fmtL d b = (if (oper (d.wr b sec0).2).off = true then 6 else 0, (d.wr b sec0).2.syncd) := by rw [fmtL, if_pos hS, if_pos h0]
   refine gc_skip (gx_then (gc_seq (gsr (zxm ?_)))); refine zc (fun _ => ?_) (c := fun w1 F1 F2 h1 h2 hd hst => sync_ok' h1 hk2 (hE.mv hst.still))
   refine zxa ?_; refine zxs ?_; refine zxm ?_; refine gp (r_bool (c := (oper (d.wr b sec0).2).off) (r_nenil rfl (by kernel_rfl)) (by cases (oper (d.wr b sec0).2).off <;> rfl)) ?_; refine gnt (gif rfl (fun hc29 => ?_) (fun hc29 => ?_))
   ·refine gsr (zxm ?_); refine zxa ?_; refine zxa ?_; refine gnt (gc_ret (gx_then_ret (gx_ret2 rfl (by conv => lhs; whnf) (by conv => lhs; whnf) ?_))); exact fun w' hw => ⟨0, by simp only [e, if_pos hc29, if_neg (show ¬ (6 : Nat) = 0 by decide)], by simp only [e, if_pos hc29, if_neg (show ¬ (6 : Nat) = 0 by decide)]; exact hw.z⟩
   ·refine gc_skip (gx_then (gsr (zxm ?_))); refine zxa ?_; refine zxa ?_; refine gnt (gc_ret (gx_ret2 rfl (by conv => lhs; whnf) (by conv => lhs; whnf) ?_)); have ho : (oper (d.wr b sec0).2).off = false := hc29
    have e2 : fmtL d b = (0, (d.wr b sec0).2.syncd) := by rw [e, if_neg (by rw [ho]; decide)]
    exact fun w' hw => ⟨q, by rw [e2, eV_zero]; rfl, by simp only [e2, if_pos (show (0 : Nat) = 0 from rfl)]; exact hw.z⟩
 ·refine gc_region (zxm ?_); refine zxm ?_; refine zc (fun _ => ?_) (c := fun w1 F1 F2 h1 h2 hd hst => lbegin_bad (b := b) h1 hk (hE.mv hst.still) (by simpa using hS))
  refine zxm ?_; refine gp zex ?_; refine gp zex ?_; refine zxa ?_; refine zxa ?_; refine gnt (gc_seq (gsr (zxm ?_))); refine gp (r_nenil rfl (by kernel_rfl)) ?_; refine gnt (gc_condT rfl rfl ?_); refine gsr (zxm ?_); refine zxa ?_; refine zxa ?_; refine gnt (gc_ret (gx_then_ret (gx_ret2 rfl (by conv => lhs; whnf) (by conv => lhs; whnf) ?_))); have e : fmtL d b = (1, d) := by rw [fmtL, if_neg hS]
  exact fun w' hw => ⟨0, by rw [e]; rfl, by simp only [e, if_neg (show ¬ (1 : Nat) = 0 by decide)]; exact hw.z⟩
theorem room_ok {w : World} {F : Nat → Prop} {q g : Nat} {l : LS} {d : DS} (h : stars [LedR q g l, DiskR g d] w F) {n : Nat} (hk : DOk d) (he : l.e ≤ d.n) (hn : n ≤ 1099511627776) :
    Calls Tryz.prog 48 #[.pointer (some ⟨q, 0, none⟩), .int .i64 (n : Int)] w (Post w F (fun _ : Unit => .bool (decide (nsec n + 2 ≤ d.n - l.e))) (fun _ => [LedR q g l, DiskR g d])) := by
 obtain ⟨a0, m0, css, h18, h⟩ := led_open h; have hn4 := hk.n
 have hns : nsec n ≤ 17179869185 := by unfold nsec; omega
 refine g_enter (env := [(0, .pointer (some ⟨q, 0, none⟩)), (1, .int .i64 (n : Int))]) Tryz.func48 rfl h Tryz.ntmps48 rfl rfl ?_; refine gsr (zxa ?_); refine gnt (gc_seq (gc_regionZ 14 ([blk q 125 [.pointer (some ⟨g, 0, none⟩), .int .i64 l.base, .int .i64 l.e, .slice a0 l.rs.length m0]]) ?_)); refine yps 0 rfl zmv ?_; refine yps 3 rfl zmv ?_; refine yps 4 rfl znc ?_; refine yps 5 rfl zfa ?_; refine yps 6 rfl zl ?_; refine yps 8 rfl zmv ?_; refine yps 9 rfl znc ?_; refine yps 10 rfl zfa ?_; refine yps 11 rfl zl ?_; refine yos 1 rfl ?_; refine zc (fun _ => ?_) (c := fun w1 F1 F2 h1 h2 hd hst => sectors_ok h1 hn)
 refine yxs ?_; refine yps 2 rfl zad ?_; refine yos 7 rfl ?_; refine zc (fun _ => ?_) (c := fun w1 F1 F2 h1 h2 hd hst => size_ok h1)
 refine yxs ?_; refine yps 12 rfl (r_int (j := ((d.n - l.e : Nat) : Int)) zsb (by omega)) ?_; refine yps 13 rfl (r_bool (c := decide (nsec n + 2 ≤ d.n - l.e)) zle (by rw [Bool.eq_iff_iff]; simp only [decide_eq_true_eq]; omega)) ?_; refine yzs rfl ?_; refine zxa ?_; refine gnt (gc_ret (gx_ret1 rfl (by conv => lhs; whnf) ?_)); exact fun w' hw => ⟨(), rfl, St.led (hw.z) h18 rfl rfl rfl rfl⟩
end
section
section
variable {w0 w : World} {F F0 : Nat → Prop} {L L' : List Res} {Q : Exit → Act → World → Prop} {n : Fm} {env : Env} {ops : Array Oper} {rest : List Oper} {P : Program}
theorem St.rowAt {e size a m c} {xs : List Value} (hw : St w0 F0 L w) (hp : Pick L (rowR e size a m c xs) L') (hm : 0 < m) : m ≤ c ∧ ∃ g o, a = some ⟨g, o, none⟩ := by
  obtain ⟨F, hF, _⟩ := hw
  obtain ⟨F1, ⟨h1, h2, h3, h4⟩, _⟩ := stars_pick hp hF
  refine ⟨h2, ?_⟩
  rcases h4 with ⟨_, hc, _⟩ | ⟨g, o, _, _, ha, _⟩
  · omega
  · exact ⟨g, o, ha⟩
end
theorem add_at (g o k : Nat) : (some (⟨g, o, none⟩ : Addr)).map (·.add k) = some ⟨g, o + k, none⟩ := by simp [Addr.add_mid]
attribute [local irreducible] Gl Gc Gx Gs Runs Wt
end
section
theorem rd_just {w : World} {A : Nat → Prop} {cs : List Value} {b : Block} (h : RdBlock w A cs b) : RdQC w A ((cs.drop 18).take 19) b.justify := by
  obtain ⟨q, a1, n1, c1, a2, n2, c2, rfl, hq, _⟩ := h
  have e : (List.drop 18 (Value.int .i64 b.epoch :: Value.int .i64 b.round :: (dc b.parent ++ (q ++ [Value.slice a1 n1 c1, Value.slice a2 n2 c2])))) = q ++ [Value.slice a1 n1 c1, Value.slice a2 n2 c2] := by
    show List.drop 16 (dc b.parent ++ _) = _
    rw [List.drop_left' (dc_length _)]
  rw [e, List.take_left' hq.len]; exact hq
theorem rd_rows {w : World} {A : Nat → Prop} {r : LRec} {a1 a2 : Option Addr} {n1 c1 n2 c2 : Nat} (h : RdRec w A (dc (idOf r.b) ++ [.slice a1 n1 c1, .slice a2 n2 c2]) r) : RdRow w A 1 a1 n1 (r.bs.map B8) ∧ RdRow w A 1 a2 n2 (r.cs.map B8) ∧ n1 ≤ c1 ∧ n2 ≤ c2 := by
  obtain ⟨b1, m1, d1, b2, m2, d2, he, k1, k2, h1, h2⟩ := h
  have := List.append_cancel_left he
  simp only [List.cons.injEq, Value.slice.injEq, and_true] at this
  obtain ⟨⟨rfl, rfl, rfl⟩, ⟨rfl, rfl, rfl⟩⟩ := this
  exact ⟨h1, h2, k1, k2⟩
theorem RdMade.rec {w : World} {A : Nat → Prop} {cs : List Value} {b : Block} {c : QC} (h0 : madeE b c = 0) (h : RdMade w A cs (b, c)) : RdRec w A cs ⟨b, c⟩ := by unfold RdMade at h; rwa [if_pos h0] at h
def RdOpt (w : World) (A : Nat → Prop) (cs : List Value) (o : Option LRec) : Prop := match o with | none => cs = recZ | some r => RdRec w A cs r
instance : RdK RdOpt := ⟨fun {w w' A A' cs x} h k => by cases x with | none => exact h | some r => exact RdRec.mv h k⟩
attribute [local irreducible] Gl Gc Gx Gs Runs Wt
attribute [local irreducible] dc RdMade RdOpt RdRec RdBlock madeE blkC rdRec allE pAll rstep
end
section
section tail
variable {ro : Option Nat} {P : Program} {ops : Array Oper} {Q : Exit → Act → World → Prop} {md : Region.Mode} {S : World → Prop} {z : Nat}
def waitsF (md : Region.Mode) (ops : Array Oper) : Nat → Nat → Nat → Bool
  | 0, _, _ => false
  | f + 1, i, j => match ops[i]? with
    | some o => (o.after.any fun e => Region.binds md e && Nat.beq e.on j) || (o.after.any fun e => Region.binds md e && waitsF md ops f e.on j)
    | none => false
def ClosedL (md : Region.Mode) (ops : Array Oper) (listed : Array Bool) : Prop := ∀ (i : Nat) (o : Oper) (e : Edge), listed.getD i false = true → ops[i]? = some o → e ∈ o.after → Region.binds md e = true → listed.getD e.on false = true
theorem waitsF_listed {listed : Array Bool} (hc : ClosedL md ops listed) {j : Nat} : ∀ {f i : Nat} {o : Oper}, waitsF md ops f i j = true → ops[i]? = some o → (∀ e ∈ o.after, Region.binds md e = true → listed.getD e.on false = true) → listed.getD j false = true
  | 0, _, _, h, _, _ => by cases h
  | f + 1, i, o, h, ho, hall => by
    simp only [waitsF, ho, Bool.or_eq_true] at h
    rcases h with h | h
    · obtain ⟨e, he, hb⟩ := Array.any_eq_true'.1 h
      simp only [Bool.and_eq_true] at hb
      have := hall e he hb.1
      rwa [Nat.eq_of_beq_eq_true hb.2] at this
    · obtain ⟨e, he, hb⟩ := Array.any_eq_true'.1 h
      simp only [Bool.and_eq_true] at hb
      have hl := hall e he hb.1
      cases ho2 : ops[e.on]? with
      | none =>
        have h3 := hb.2
        cases f with
        | zero => cases h3
        | succ f => simp [waitsF, ho2] at h3
      | some o2 => exact waitsF_listed hc hb.2 ho2 fun e2 he2 hb2 => hc e.on o2 e2 hl ho2 he2 hb2
def tailU (md : Region.Mode) (ops : Array Oper) (z : Nat) : Bool := Nat.blt z ops.size && (List.range ops.size).all fun i => Nat.blt i z || match ops[i]? with
  | some o => ((List.range z).all fun j => waitsF md ops 12 i j) && (Nat.beq i z || o.after.any fun e => Region.binds md e && Nat.beq e.on (i - 1))
  | none => false
def listedU (m z : Nat) : Array Bool := ((List.replicate z true) ++ (List.replicate (m - z) false)).toArray
theorem listedU_lo {m z i : Nat} (h : i < z) : (listedU m z)[i]? = some true := by
  simp only [listedU, List.getElem?_toArray]
  rw [List.getElem?_append_left (by simpa using h), List.getElem?_replicate, if_pos h]
theorem listedU_hi {m z i : Nat} (h : z ≤ i) (hm : i < m) : (listedU m z)[i]? = some false := by
  simp only [listedU, List.getElem?_toArray]
  rw [List.getElem?_append_right (by simpa using h), List.getElem?_replicate, if_pos (by simp; omega)]
theorem tailU_at (h : tailU md ops z = true) {i : Nat} (hi : i < ops.size) (hz : z ≤ i) : ∃ o, ops[i]? = some o ∧ (∀ j, j < z → waitsF md ops 12 i j = true) ∧ (i ≠ z → ∃ e ∈ o.after, Region.binds md e = true ∧ e.on = i - 1) := by
  simp only [tailU, Bool.and_eq_true] at h
  have h2 := List.all_eq_true.1 h.2 i (List.mem_range.2 hi)
  cases ho : ops[i]? with
  | none => simp [ho, Nat.not_lt.2 hz] at h2
  | some o =>
    simp only [ho, Bool.or_eq_true, Nat.blt_eq, Bool.and_eq_true] at h2
    rcases h2 with h2 | ⟨h3, h4⟩
    · omega
    · refine ⟨o, rfl, fun j hj => ?_, fun hne => ?_⟩
      · exact List.all_eq_true.1 h3 j (List.mem_range.2 hj)
      · rcases h4 with h4 | h4
        · exact absurd (Nat.eq_of_beq_eq_true h4) hne
        · obtain ⟨e, he, hb⟩ := Array.any_eq_true'.1 h4
          simp only [Bool.and_eq_true] at hb
          exact ⟨e, he, hb.1, Nat.eq_of_beq_eq_true hb.2⟩
def InvU (md : Region.Mode) (ops : Array Oper) (z : Nat) (listed : Array Bool) : Prop := listed.size = ops.size ∧ (∀ i, z ≤ i → i < ops.size → listed[i]? = some false) ∧ ClosedL md ops listed
theorem getD_some {listed : Array Bool} {i : Nat} (hi : i < listed.size) (h : listed.getD i false = true) : listed[i]? = some true := by
  rw [Array.getElem?_eq_getElem hi]
  simpa [hi] using h
theorem tailU_ready (h : tailU md ops z = true) {listed : Array Bool} (hi : InvU md ops z listed) (hz : z ∈ Region.ready md ops listed) : listed = listedU ops.size z := by
  have hlt : z < ops.size := ready_lt hz
  obtain ⟨o, ho, h1, _⟩ := tailU_at h hlt (Nat.le_refl z)
  obtain ⟨_, o', ho', hall⟩ := mem_ready.1 hz
  rw [ho] at ho'
  cases ho'
  apply Array.ext_getElem?
  intro i
  have hs : (listedU ops.size z).size = ops.size := by simp [listedU]; omega
  by_cases hm : i < ops.size
  · by_cases hiz : i < z
    · have := waitsF_listed hi.2.2 (h1 i hiz) ho hall
      rw [getD_some (by rw [hi.1]; exact hm) this, listedU_lo hiz]
    · rw [hi.2.1 i (by omega) hm, listedU_hi (by omega) hm]
  · rw [Array.getElem?_eq_none (by rw [hi.1]; omega), Array.getElem?_eq_none (by rw [hs]; omega)]
theorem tailU_not (h : tailU md ops z = true) {listed : Array Bool} (hi : InvU md ops z listed) {i : Nat} (hr : i ∈ Region.ready md ops listed) (hz : z < i) : False := by
  have hlt := ready_lt hr
  obtain ⟨o, ho, _, h2⟩ := tailU_at h hlt (by omega)
  obtain ⟨_, o', ho', hall⟩ := mem_ready.1 hr
  rw [ho] at ho'
  cases ho'
  obtain ⟨e, he, hb, hon⟩ := h2 (by omega)
  have h3 := hall e he hb
  rw [hon] at h3
  have := getD_some (by rw [hi.1]; omega) h3
  rw [hi.2.1 (i - 1) (by omega) (by omega)] at this
  cases this
theorem wpAnyIn_of_seqU {Q' : Exit → Act → World → Prop} (x : Nat) : ∀ (l : List Oper) (k : Nat) (listed : Array Bool) (a : Act) (w : World), (∀ j, l[j]? = ops[k + j]?) →
    Region.seqB md ops l.length k listed = true → wpListIn (FR ro) 0 P ops Q' l a w → wpAnyIn (FR ro) 0 P md ops Q' (l.length + x) listed a w
  | [], k, listed, a, w, _, hB, h => wpAnyIn_done' (by simpa [Region.seqB] using hB) h _
  | o :: l, k, listed, a, w, hl, hB, h => by
    have h0 : ops[k]? = some o := by simpa using (hl 0).symm
    simp only [List.length_cons, Region.seqB, Bool.and_eq_true, decide_eq_true_eq] at hB
    rw [show (o :: l).length + x = (l.length + x) + 1 by simp; omega]
    refine ⟨fun h1 => (by rw [hB.1] at h1; cases h1), fun i hi => ?_⟩
    rw [hB.1] at hi
    have hik : i = k := by simpa using hi
    subst hik
    have hw : wpOpIn (FR ro) 0 P ops Q' i (wpListIn (FR ro) 0 P ops Q' l) a w := by unfold wpOpIn; simp only [h0]; exact h
    exact wpOpIn_mono (fun a' w' h' => wpAnyIn_of_seqU x l (i + 1) _ a' w' (fun j => by have := hl (j + 1); simpa [Nat.add_assoc, Nat.add_comm 1 j] using this) hB.2 h') hw
theorem wpAnyIn_of_tailU (h : tailU md ops z = true) (hseq : Region.seqB md ops (ops.size - z) z (listedU ops.size z) = true) : ∀ (fuel : Nat) (listed : Array Bool) (a : Act) (w : World), InvU md ops z listed →
    wpAnyT ro P md ops Q S z (wpListIn (FR ro) 0 P ops Q (ops.toList.drop z)) fuel listed a w → wpAnyIn (FR ro) 0 P md ops Q (fuel + (ops.size - z)) listed a w
  | 0, listed, a, w, hi, H => by
    have hz : z ∈ Region.ready md ops listed := by rw [H.1]; simp
    rw [tailU_ready h hi hz, Nat.zero_add]
    have := wpAnyIn_of_seqU (ro := ro) (Q' := Q) 0 (ops.toList.drop z) z (listedU ops.size z) a w (fun j => by simp [List.getElem?_drop]) (by simpa using hseq) H.2
    simpa using this
  | fuel + 1, listed, a, w, hi, H => by
    by_cases hz : z ∈ Region.ready md ops listed
    · have hl := tailU_ready h hi hz
      have hone : Region.ready md ops listed = [z] := by
        have hn := ready_nodup (md := md) (ops := ops) (listed := listed)
        have hall : ∀ i ∈ Region.ready md ops listed, i = z := fun i hr => by
          rcases Nat.lt_trichotomy i z with hlt | he | hgt
          · exfalso
            have h1 := (mem_ready.1 hr).1
            rw [hl] at h1
            have hm := ready_lt hr
            have h2 := listedU_lo (m := ops.size) hlt
            rw [Array.getD_eq_getD_getElem?, h2] at h1
            cases h1
          · exact he
          · exact (tailU_not h hi hr hgt).elim
        generalize Region.ready md ops listed = r at *
        match r with
        | [] => cases hz
        | [y] => rw [hall y (by simp)]
        | y :: y' :: r' =>
          have h1 := hall y (by simp)
          have h2 := hall y' (by simp)
          subst h1; subst h2
          simp at hn
      have hT := H.1 hone
      rw [hl]
      have := wpAnyIn_of_seqU (ro := ro) (Q' := Q) (fuel + 1) (ops.toList.drop z) z (listedU ops.size z) a w (fun j => by simp [List.getElem?_drop]) (by simpa using hseq) hT
      rw [show fuel + 1 + (ops.size - z) = (ops.toList.drop z).length + (fuel + 1) by simp; omega]
      exact this
    · rw [show fuel + 1 + (ops.size - z) = (fuel + (ops.size - z)) + 1 by omega]
      refine ⟨fun h0 => absurd h0 H.2.1, fun i hr => ?_⟩
      have hne : i ≠ z := fun e => hz (e ▸ hr)
      refine wpOpIn_mono (fun a' w' h' => wpAnyIn_of_tailU h hseq fuel _ a' w' ⟨by simpa using hi.1, fun k hk hm => ?_, fun k o e hk ho he hb => ?_⟩ h'.2) (H.2.2 i hr hne)
      · have hik : i ≠ k := fun e => by
          subst e
          rcases Nat.lt_or_ge z i with hgt | hle
          · exact tailU_not h hi hr hgt
          · omega
        rw [Array.getElem?_setIfInBounds_ne hik]
        exact hi.2.1 k hk hm
      · have hup : ∀ j, listed.getD j false = true → (listed.setIfInBounds i true).getD j false = true := fun j hj => by
          rw [Array.getD_eq_getD_getElem?] at hj ⊢
          by_cases hij : i = j
          · subst hij
            rw [Array.getElem?_setIfInBounds_self]
            split
            · rfl
            · rename_i hn
              rw [Array.getElem?_eq_none (by omega)] at hj; cases hj
          · rw [Array.getElem?_setIfInBounds_ne hij]; exact hj
        by_cases hik : i = k
        · subst hik
          obtain ⟨_, o', ho', hall⟩ := mem_ready.1 hr
          rw [ho] at ho'
          cases ho'
          exact hup _ (hall e he hb)
        · refine hup _ (hi.2.2 k o e ?_ ho he hb)
          rw [Array.getD_eq_getD_getElem?, Array.getElem?_setIfInBounds_ne hik] at hk
          rw [Array.getD_eq_getD_getElem?]; exact hk
end tail
def Gu (P : Program) (w0 : World) (F0 : Nat → Prop) (K L : List Res) (ops : Array Oper) (Q : Exit → Act → World → Prop) (z fuel : Nat) (listed : Array Bool) (n : Fm) (env : Env) : Prop :=
  ∀ w, St w0 F0 L w → wpAnyT n.ro P .any ops Q (St w0 F0 K) z (wpListIn (FR n.ro) 0 P ops Q (ops.toList.drop z)) fuel listed (fr n env) w
def NextU (P : Program) (w0 : World) (F0 : Nat → Prop) (K : List Res) (ops : Array Oper) (Q : Exit → Act → World → Prop) (z fuel : Nat) (listed : Array Bool) (n : Fm) (a : Act) (w : World) : Prop :=
  St w0 F0 K w ∧ wpAnyT n.ro P .any ops Q (St w0 F0 K) z (wpListIn (FR n.ro) 0 P ops Q (ops.toList.drop z)) fuel listed a w
section heldu
variable {P : Program} {w0 : World} {F0 : Nat → Prop} {K L : List Res} {Q : Exit → Act → World → Prop} {n : Fm} {env : Env} {ops : Array Oper} {listed : Array Bool} {fuel z : Nat}
theorem gc_regionU {id : Nat} {l : List Oper} (z : Nat) (K : List Res) (h : Gu P w0 F0 K L l.toArray Q z z (Array.replicate l.length false) n env) (hm : P.follows .mixedOrders = true := by kernel_rfl) (hz : tailU .any l.toArray z = true := by kernel_rfl)
    (hs : Region.seqB .any l.toArray (l.length - z) z (listedU l.length z) = true := by kernel_rfl) : Gc P w0 F0 L (.region id l.toArray true) Q n env := fun w hw =>
  wpIn_region_any hm (by
    have hlt : z < l.length := by
      have := hz
      simp only [tailU, Bool.and_eq_true, Nat.blt_eq, List.size_toArray] at this
      exact this.1
    have := wpAnyIn_of_tailU (ops := l.toArray) hz (by simpa using hs) _ (Array.replicate l.length false) _ _ ⟨by simp, fun i _ hi => by simp at hi; simp [hi], fun i o e hi _ _ _ => by
      rw [Array.getD_eq_getD_getElem?, Array.getElem?_replicate] at hi
      split at hi <;> cases hi⟩ (h _ (hw.drawn (w.drawn + 1)))
    rw [show z + (l.toArray.size - z) = l.toArray.size by simp; omega] at this
    simpa using this)
theorem ypu (i : Nat) {t : Tmp} {op : Op} {ty : TypeId} {pos : String} {af : Array Edge} {gd : Option (Nat × Bool)} {v : Value} {L' : List Res} (hi : ops[i]? = some ⟨some t, op, ty, pos, af, gd⟩) (hR : Runs P w0 F0 K n env ⟨some t, op, ty, pos, af, gd⟩ v)
    (k : Gu P w0 F0 K L ops Q z fuel (listed.setIfInBounds i true) n ((t, v) :: env)) (hw : Wt ops n env ⟨some t, op, ty, pos, af, gd⟩ true := by first | exact wt0 rfl | exact wtgT rfl rfl rfl rfl) (hsel : Sel L K L' := by repeat (first | exact Sel.nil | (apply Sel.cons; · (repeat (first | exact Pick.here | apply Pick.there)))))
    (hs : Region.noSelect ops = true := by kernel_rfl) (hd : noDef ops = true := by kernel_rfl) (hf : Region.free .any ops listed i = true := by kernel_rfl) (hr : (Region.ready .any ops listed).contains i = true := by kernel_rfl) (hz : Nat.beq i z = false := by kernel_rfl)
    (hQ : ∀ c a w, Q (.panic c) (a.put (some t) v) w → Q (.panic c) a w := by exact fun _ _ _ h => h) : Gu P w0 F0 K L ops Q z (fuel + 1) listed n env := fun w hst =>
  wpAnyT_first hi (fun e => by subst e; simp at hz) (Region.noSelect_spec hs) hd hQ fuel listed _ _ (Region.free_spec hi hf) (by simpa using hr) (.inl ⟨hw, fun w' hw' => by rw [fr_eval]; exact hR w' hw'⟩) (hst.sel hsel) (by rw [fr_put]; exact k w hst)
theorem you (i : Nat) {o : Oper} (hi : ops[i]? = some o) (k : Gl P w0 F0 L ops (Exit.then (NextU P w0 F0 K ops Q z fuel (listed.setIfInBounds i true) n) Q) [o] n env) (hr : Region.ready .any ops listed = [i] := by kernel_rfl) (hz : Nat.beq i z = false := by kernel_rfl) : Gu P w0 F0 K L ops Q z (fuel + 1) listed n env := fun w hst =>
  ⟨fun h => (by rw [hr] at h; simp only [List.cons.injEq, and_true] at h; subst h; simp at hz), by rw [hr]; simp, fun j hj _ => by
    rw [hr] at hj
    obtain rfl : j = i := by simpa using hj
    exact wpOpIn_of_list hi (k w hst)⟩
theorem you2 (i j : Nat) {o o2 : Oper} (hi : ops[i]? = some o) (hj : ops[j]? = some o2) (k : Gl P w0 F0 L ops (Exit.then (NextU P w0 F0 K ops Q z fuel (listed.setIfInBounds i true) n) Q) [o] n env)
    (k2 : Gl P w0 F0 L ops (Exit.then (NextU P w0 F0 K ops Q z fuel (listed.setIfInBounds j true) n) Q) [o2] n env) (hr : Region.ready .any ops listed = [i, j] := by kernel_rfl) : Gu P w0 F0 K L ops Q z (fuel + 1) listed n env := fun w hst =>
  ⟨fun h => (by rw [hr] at h; simp at h), by rw [hr]; simp, fun x hx _ => by
    rw [hr] at hx
    simp only [List.mem_cons, List.not_mem_nil, or_false] at hx
    rcases hx with rfl | rfl
    · exact wpOpIn_of_list hi (k w hst)
    · exact wpOpIn_of_list hj (k2 w hst)⟩
theorem yxu {L' : List Res} {Q' : Exit → Act → World → Prop} (k : Gu P w0 F0 K L ops Q z fuel listed n env) (hsel : Sel L K L' := by repeat (first | exact Sel.nil | (apply Sel.cons; · (repeat (first | exact Pick.here | apply Pick.there))))) : Gl P w0 F0 L ops (Exit.then (NextU P w0 F0 K ops Q z fuel listed n) Q') [] n env := gl_nil fun w hw => ⟨hw.sel hsel, k w hw⟩
theorem yzu {l : List Oper} (k : Gl P w0 F0 L ops Q l n env) (hl : ops.toList.drop z = l := by rfl) (hr : Region.ready .any ops listed = [z] := by kernel_rfl) : Gu P w0 F0 K L ops Q z 0 listed n env := fun w hst => ⟨hr, by rw [hl]; exact k w hst⟩
end heldu
end
section
def lstep (d : DS) (l : LS) : LS × Bool × Nat := match lnext d l.e l.rs.length with
  | .error k => (l, false, k)
  | .ok none => (l, false, 0)
  | .ok (some r) => (⟨l.base, l.rs ++ [r], l.e + lenR r⟩, true, 0)
section
variable {d : DS} {l : LS} {x : Nat}
end
attribute [local irreducible] Gl Gc Gx Gs Runs Wt
attribute [local irreducible] dc RdMade RdOpt RdRec RdBlock madeE blkC rdRec allE pAll rstep lstep bytesE headL valN
end
section
theorem lnext_err {d : DS} {e h k : Nat} (hh : lnext d e h = .error k) : k = 7 := by
  unfold lnext at hh
  split at hh
  · cases hh
  · split at hh
    · cases hh; rfl
    · split at hh
      · cases hh; rfl
      · split at hh
        · split at hh
          · cases hh; rfl
          · cases hh
        · cases hh; rfl
def openE (d : DS) (b : Int) : Nat × LS := if d.has b = true then (match lopen d b.toNat [] with | .error k => (k, ⟨b, [], 0⟩) | .ok (rs, e) => (0, ⟨b, rs, e⟩)) else (1, ⟨b, [], 0⟩)
structure OpenInv (d : DS) (b : Int) (l : LS) (m : Bool) : Prop where
  lt : l.e < d.n
  ba : l.base = b
  ln : l.rs.length ≤ l.e
  eq : lopen d b.toNat [] = if m = true then lopen d l.e l.rs else .ok (l.rs, l.e)
section
variable {d : DS} {b : Int} {l : LS}
theorem OpenInv.start (h : d.has b = true) : OpenInv d b ⟨b, [], b.toNat⟩ true := by
  obtain ⟨h0, h1⟩ := has_iff.1 h
  exact ⟨by show b.toNat < d.n; omega, rfl, Nat.zero_le _, by rw [if_pos rfl]⟩
theorem OpenInv.bad (h : OpenInv d b l true) (he : (lstep d l).2.2 ≠ 0) : lopen d b.toNat [] = .error (lstep d l).2.2 := by
  rw [h.eq, if_pos rfl]
  unfold lstep at he ⊢
  cases hn : lnext d l.e l.rs.length with
  | error k => rw [lopen_err hn]
  | ok o => cases o with
    | none => rw [hn] at he; exact absurd rfl he
    | some r => rw [hn] at he; exact absurd rfl he
theorem OpenInv.step (h : OpenInv d b l true) (he : (lstep d l).2.2 = 0) : OpenInv d b (lstep d l).1 (lstep d l).2.1 ∧ 2 * (d.n - (lstep d l).1.e) + (lstep d l).2.1.toNat < 2 * (d.n - l.e) + 1 := by
  have hq := h.eq
  rw [if_pos rfl] at hq
  unfold lstep at he ⊢
  cases hn : lnext d l.e l.rs.length with
  | error k => rw [hn] at he; have := lnext_err hn; simp only at he; omega
  | ok o => cases o with
    | none => exact ⟨⟨h.lt, h.ba, h.ln, by show lopen d b.toNat [] = .ok (l.rs, l.e); rw [hq, lopen_done hn]⟩, by simp⟩
    | some r =>
      obtain ⟨hr, hl⟩ := lnext_some hn
      have h1 : 1 ≤ lenR r := by unfold lenR; omega
      have h2 := h.lt
      have h3 := h.ln
      refine ⟨⟨by show l.e + lenR r < d.n; omega, h.ba, by show (l.rs ++ [r]).length ≤ l.e + lenR r; rw [List.length_append]; simp; omega, by show lopen d b.toNat [] = lopen d (l.e + lenR r) (l.rs ++ [r]); rw [hq, lopen_more hn]⟩, ?_⟩
      show 2 * (d.n - (l.e + lenR r)) + true.toNat < _
      simp; omega
theorem OpenInv.done (h : OpenInv d b l false) (hb : d.has b = true) : openE d b = (0, l) := by
  have hq := h.eq
  rw [if_neg (by decide)] at hq
  rw [openE, if_pos hb, hq]
  simp only
  rw [← h.ba]
end
attribute [local irreducible] Gl Gc Gx Gs Runs Wt
attribute [local irreducible] lstep
end
end Go.Proofs.YtheonhgffglegaaGreatDoor
