/- Part 7. What is proved: see the last part: for every input the law returns true, and the input reads as it did. -/
import Derived.Test.YtheonhgffglegaaGreatDoorCfn6
import Derived.Test.YtheonhgffglegaaGreatDoorCards
import Derived.Test.YtheonhgffglegaaGreatDoorTie
import Derived.Deep.DeepHandedRow
import Derived.Deep.DeepWitnessRowRef
namespace Go.Proofs.YtheonhgffglegaaGreatDoor
open Go
set_option linter.unusedVariables false
set_option linter.unusedSimpArgs false
set_option linter.unusedSectionVars false
section
attribute [local irreducible] Gl Gc Gx Gs Runs Wt
attribute [local irreducible] rowR blk VlR ElR dc qcC blkC ModR TreeR LedR gid idOf lineL behL leRs leI leB leL trT idsB lastD pathL bestD cellT lcT trL
set_option maxHeartbeats 2000000 in
theorem fetchLines_ok {w : World} {F : Nat → Prop} {ae ap aS : Option Addr} {ne ce np kp nS kS : Nat} {es : List Bool} {ps ss : List Int} {d : Dig} {ea : Nat → Addr} {er : List Nat} [Has er 1] [Has er 2] [Has er 3] [Has er 4] [Has er 6] [Has er 8] [Has er 9] [Has er 12] [Has er 14] [Has er 16] [Has er 17] (hE : GErr er w (fun k => ¬ F k) 251 ea) (hK : KR w (fun k => ¬ F k)) (h : stars [] w F) (hes : RdRow w (fun k => ¬ F k) 1 ae ne (es.map Value.bool)) (hps : RdRow w (fun k => ¬ F k) 1 ap np (ps.map (Value.int .i64))) (hss : RdRow w (fun k => ¬ F k) 1 aS nS (ss.map (Value.int .i64))) :
    Calls Tryz.prog 3 #[.agg (List.toArray [.slice ae ne ce, .slice ap np kp, .slice aS nS kS]), .agg (dc d).toArray] w (Post w F (fun _ : Unit => .bool true) (fun _ => [])) := by
 obtain rfl : ne = es.length := by have := hes.1; simp at this; omega
 obtain rfl : np = ps.length := by have := hps.1; simp at this; omega
 obtain rfl : nS = ss.length := by have := hss.1; simp at this; omega
 refine g_enter (env := [(0, .agg (List.toArray [.slice ae es.length ce, .slice ap ps.length kp, .slice aS ss.length kS])), (1, .agg (dc d).toArray)]) Tryz.func3 rfl h Tryz.ntmps3 rfl rfl ?_; refine gsr (zbN fun b2 => ?_); refine zbN fun b3 => ?_; refine zxa ?_; refine gnt (gc_seq (gsr (zc (fun _ => ?_) (c := fun w1 F1 F2 h1 h2 hd hst => alive19_ok (hE.mv hst.still) (hK.mv hst.still) h1))))
 refine gp znt ?_; refine gnt (gc_condF rfl rfl ?_); refine gc_skip (gx_then (gsr (gp (zLa (cs := [.slice ae es.length ce, .slice ap ps.length kp, .slice aS ss.length kS])) ?_))); refine zc ?_ (c := fun w1 F1 F2 h1 h2 hd hst => build_ok (es := es) (ps := ps) (ss := ss) h1 (hE.mv hst.still) (hK.mv hst.still) (hes.mv hst.still) (hps.mv hst.still) (hss.mv hst.still))
 rintro ⟨r8, cs8, x8⟩
 rcases r8 with _ | _
 ·rw [built_F]; refine gl_pureR (fun hb => ?_)
  obtain ⟨hno, hl21, ho21⟩ := hb; refine zxm ?_; refine gp zex ?_; refine gp zex ?_; refine zal fun b5 => ?_; refine zsA hl21 ho21 ?_; refine zxa ?_; refine gnt (gc_seq (gsr (zxm ?_))); refine gp znt ?_; refine gnt (gc_condT rfl rfl ?_); refine gsr (zxa ?_); refine gnt (gc_ret (gx_then_ret (gx_ret1 rfl (by conv => lhs; whnf) ?_))); exact ze ()
 ·rw [built_T]; refine gl_pureR (fun hb => ?_)
  obtain ⟨hsh, rfl, hc1, hc2, hr0⟩ := hb; obtain ⟨xq8, xg8, xt8, xm8, xla8, xlc8, xia8, xic8, xcs8, xd8, xc8⟩ := x8; have hsa := hsh.a
  have hsb := hsh.b
  obtain ⟨hch, herr⟩ := hsh.chain; refine zxm ?_; refine gp zex ?_; refine gp zex ?_; refine zal fun b5 => ?_; refine zsA (bxC_len _ _ _) (bxC_one _ _ _) ?_; refine zxa ?_; refine gnt (gc_seq (gsr (zxm ?_))); refine gp znt ?_; refine gnt (gc_condF rfl rfl ?_); refine gc_skip (gx_then (gc_seq (gc_seq (gc_cz (M := [LdR xq8 xg8 200 0 (leRs es es.length)]) (N := [exR fun d : DS => allR [pureR (LdOk d 200 0 (leRs es es.length)), LedR xq8 xg8 (lsOf 0 (leRs es es.length)), DiskR xg8 d]]) (fun _ _ h => h) ?_)))); refine gc_exR (fun d0 => ?_)
  refine gc_cz (M := [allR [pureR (LdOk d0 200 0 (leRs es es.length)), LedR xq8 xg8 (lsOf 0 (leRs es es.length)), DiskR xg8 d0]]) (N := [pureR (LdOk d0 200 0 (leRs es es.length)), LedR xq8 xg8 (lsOf 0 (leRs es es.length)), DiskR xg8 d0]) (fun _ _ => ld_all) ?_; refine gc_pureR (fun hd0 => ?_)
  refine gc_regionH ([blk b5 35 (bxC ⟨xq8, xg8, xt8, xm8, xla8, xlc8, xia8, xic8, xcs8, xd8, xc8⟩ es.length ps.length)]) ?_; refine yp 0 rfl zfa ?_; refine yp 1 rfl zl ?_; refine yp 2 rfl zfa ?_; refine yp 3 rfl zl ?_; refine yp 5 rfl zfa ?_; refine yp 6 rfl zl ?_; refine yp 7 rfl zfa ?_; refine yp 8 rfl zl ?_; refine yo 4 rfl ?_; refine zc ?_ (c := fun w1 F1 F2 h1 h2 hd hst => line_ok (l := lsOf 0 (leRs es es.length)) h1 (tr_rd h2 hd (by repeat (first | exact Pick.here | apply Pick.there))) hsh.tri.ok (leRs_ok (by omega)) (by show (leRs es es.length).length < _; rw [leRs_len]; omega) (hE.mv hst.still))
  rintro ⟨a22, c22, cx⟩
  refine gl_pureR (fun hcx => ?_)
  replace hcx : ∀ c ∈ cx, List.length c = 39 := hcx
  rw [show (lsOf 0 (leRs es es.length)).rs.map (fun r : LRec => r.b) = leL es es.length from leRs_b _]; refine gl_fact (fun w' hw => (St.el (rd := RdBlock) (hw.sel (M := [ElR RdBlock cx (lineL (leL es es.length) (trT (leB es es.length) ps ss ps.length))]) (by repeat (first | exact Sel.nil | (apply Sel.cons; · (repeat (first | exact Pick.here | apply Pick.there)))))) .here)) (fun hel => ?_)
  obtain ⟨hcl, hel⟩ := hel; have hlln : (lineL (leL es es.length) (trT (leB es es.length) ps ss ps.length)).length ≤ es.length + 16 := by rw [← lineL_def, List.length_append, List.length_map, leL_len]; have := pathL_len (trT (leB es es.length) ps ss ps.length) (bestD (trT (leB es es.length) ps ss ps.length)); have := hsh.tri.ok.le; omega
  refine gl_fact (fun w' hw => (St.el (rd := RdBlock) (hw.sel (M := [ElR RdBlock xcs8 (leL es es.length)]) (by repeat (first | exact Sel.nil | (apply Sel.cons; · (repeat (first | exact Pick.here | apply Pick.there)))))) .here)) (fun hel8 => ?_)
  obtain ⟨hcl8, hel8⟩ := hel8; refine gl_fact (fun w' hw => (St.el (rd := RdBlock) (hw.sel (M := [ElR RdBlock xd8 (trL (leB es es.length) ps ss ps.length)]) (by repeat (first | exact Sel.nil | (apply Sel.cons; · (repeat (first | exact Pick.here | apply Pick.there)))))) .here)) (fun hed8 => ?_)
  obtain ⟨hd2l, _⟩ := hed8; have hcs8 : es.length = xcs8.length := by rw [hcl8, leL_len]
  have hone8 := el_one hcl8 hel8
  have hr08 := tr_first hsh.tri (b0 := leB es es.length) (by rw [leB_round]; omega)
  refine yx ?_; refine yo 9 rfl ?_; refine zc ?_ (c := fun w1 F1 F2 h1 h2 hd hst => by have hh := rline_ok (lc := xlc8) (md_rd h2 hd (by repeat (first | exact Pick.here | apply Pick.there))) hsh.tri.ok (by rw [← hcs8]; exact row_rd (xs := xcs8.flatten) h2 hd (by repeat (first | exact Pick.here | apply Pick.there))) hone8 (by omega) hr08 h1; rw [← hcs8] at hh; exact hh)
  rintro ⟨a27, c27⟩
  rw [show (lcT (trT (leB es es.length) ps ss ps.length) (xc8 :: xd8) xcs8).length = (lineL (leL es es.length) (trT (leB es es.length) ps ss ps.length)).length by rw [lcT_len, ← lineL_def, List.length_append, List.length_map, hcl8]]; refine yx ?_; refine yo 10 rfl ?_; refine zc (fun _ => ?_) (c := fun w1 F1 F2 h1 h2 hd hst => same19_ok (l := (lineL (leL es es.length) (trT (leB es es.length) ps ss ps.length))) ⟨cx, row_rd (a := a22) h2 hd (by repeat (first | exact Pick.here | apply Pick.there)), hcx, hcl, fun i c x hc hx => el_rd (rd := RdBlock) h2 hd (by repeat (first | exact Pick.here | apply Pick.there)) hc hx⟩ ⟨(lcT (trT (leB es es.length) ps ss ps.length) (xc8 :: xd8) xcs8), row_rd (a := a27) h2 hd (by repeat (first | exact Pick.here | apply Pick.there)), lcT_39 (md_rd h2 hd (by repeat (first | exact Pick.here | apply Pick.there))) hcl8 hel8, by rw [lcT_len, ← lineL_def, List.length_append, List.length_map, hcl8], (lcT_live (R := RdBlock w1 (fun k => ¬ F1 k)) hsh.tri hcl8 (fun i c x hc hx => el_rd (rd := RdBlock) (css := xcs8) h2 hd (by repeat (first | exact Pick.here | apply Pick.there)) hc hx) hd2l (fun i c x hc hx => el_rd (rd := RdBlock) (css := xd8) h2 hd (by repeat (first | exact Pick.here | apply Pick.there)) hc hx))⟩ (by omega) h1)
  refine yx ?_; refine yp 11 rfl znt ?_; refine yd ?_; refine gx_then (gc_condF rfl rfl ?_); refine gc_skip (gx_then (gc_seq (gsr (gp zfa ?_)))); refine gp zl ?_; refine gp zL ?_; refine zeN fun b33 => ?_; refine zapo (fun a34 c34 => ?_)
  rw [show ((idsB es ps ss ps.length).map dc).flatten ++ dc d = ((idsB es ps ss ps.length ++ [d]).map dc).flatten by simp]; refine gp zln ?_; refine zxm ?_; refine gnt (gc_block (gc_loop (α := Nat) (fun k => [pureR (k ≤ es.length + 1 + ps.length + 1), LedR xq8 xg8 (lsOf 0 (leRs es es.length)), TreeR xt8 (trT (leB es es.length) ps ss ps.length), ModR xm8 (trT (leB es es.length) ps ss ps.length) (xc8 :: xd8), rowR 51 39 xla8 es.length xlc8 xcs8.flatten, ElR RdBlock xcs8 (leL es es.length), ElR RdBlock xd8 (trL (leB es es.length) ps ss ps.length), blk b5 35 (bxC ⟨xq8, xg8, xt8, xm8, xla8, xlc8, xia8, xic8, xcs8, xd8, xc8⟩ es.length ps.length), rowR 27 16 a34 (es.length + 1 + ps.length + 1) c34 ((idsB es ps ss ps.length ++ [d]).map dc).flatten]) (fun k => [(36, .int .i64 (k : Int))]) [4, 8, 37, 38, 39, 40, 41, 42, 43, 44, 45, 46, 47, 48, 49, 50, 51, 52, 53, 54] (fun k => es.length + 1 + ps.length + 1 - k) 0 ?_ ?_ ?_))
  ·refine env_start (by kernel_rfl)
  ·exact zlp (p := 0 ≤ es.length + 1 + ps.length + 1) (Nat.zero_le _)
  ·intro k u; refine gc_pureR (fun hk => ?_)
   replace hk : k ≤ es.length + 1 + ps.length + 1 := hk
   refine gsr (gp zlt ?_); refine gnt (gc_seq (gif rfl (fun hc37 => ?_) (fun hc37 => ?_)))
   ·try simp only at hc37
    have hk' : k < es.length + 1 + ps.length + 1 := by omega
    obtain ⟨dk, hdk⟩ : ∃ x, (idsB es ps ss ps.length ++ [d])[k]? = some x := ⟨(idsB es ps ss ps.length ++ [d])[k]'(by rw [List.length_append, idsB_len]; exact hk'), List.getElem?_eq_getElem _⟩; refine gc_fact (fun w' hw => St.rowAt (hw.sel (M := [rowR 27 16 a34 (es.length + 1 + ps.length + 1) c34 ((idsB es ps ss ps.length ++ [d]).map dc).flatten]) (by repeat (first | exact Sel.nil | (apply Sel.cons; · (repeat (first | exact Pick.here | apply Pick.there)))))) .here (by omega)) (fun hra => ?_)
    obtain ⟨_, gi, oi, ha⟩ := hra; subst ha; refine gc_skip (gx_then (gc_seq (gc_block (gsr (gp (r_val (v' := .pointer (some ⟨gi, oi + k * 16, none⟩)) (zia (i := ((k : Nat) : Int))) (by rw [Int.toNat_natCast])) ?_))))); refine gp (r_ldRow (i := k) (g := gi) (o := oi) rfl Ty.row_27 Ty.sz_27 (by repeat (first | exact Pick.here | apply Pick.there)) (fun c hc => by obtain ⟨x, _, rfl⟩ := List.mem_map.1 hc; exact dc_length x) (by rw [List.getElem?_map, hdk]; rfl) hk') ?_
    refine zal fun b8 => ?_; refine zsA (dc_length _) (dc_one _) ?_; refine gnt (gc_seq (gc_regionH ([blk b5 35 (bxC ⟨xq8, xg8, xt8, xm8, xla8, xlc8, xia8, xic8, xcs8, xd8, xc8⟩ es.length ps.length), blk b8 27 (dc dk)]) ?_)); refine yp 0 rfl zfa ?_; refine yp 1 rfl zl ?_; refine yp 2 rfl zfa ?_; refine yp 3 rfl zl ?_; refine yp 4 rfl (zLa (cs := dc dk)) ?_; refine yp 6 rfl zfa ?_; refine yp 7 rfl zl ?_; refine yp 8 rfl zfa ?_; refine yp 9 rfl zl ?_; refine yp 10 rfl (zLa (cs := dc dk)) ?_; refine yo 5 rfl ?_; refine zc ?_ (c := fun w1 F1 F2 h1 h2 hd hst => behind_ok (l := lsOf 0 (leRs es es.length)) (d := dk) h1 (tr_rd h2 hd (by repeat (first | exact Pick.here | apply Pick.there))) hsh.tri.ok (leRs_ok (by omega)) (by show (leRs es es.length).length < _; rw [leRs_len]; omega) (hE.mv hst.still))
    rintro ⟨⟨a45, c45⟩, cx5⟩
    refine gl_pureR (fun hcx5 => ?_)
    replace hcx5 : ∀ c ∈ cx5, List.length c = 39 := hcx5
    rw [show (lsOf 0 (leRs es es.length)).rs.map (fun r : LRec => r.b) = leL es es.length from leRs_b _]; refine gl_fact (fun w' hw => (St.el (rd := RdBlock) (hw.sel (M := [ElR RdBlock cx5 (behL (lineL (leL es es.length) (trT (leB es es.length) ps ss ps.length)) dk)]) (by repeat (first | exact Sel.nil | (apply Sel.cons; · (repeat (first | exact Pick.here | apply Pick.there)))))) .here)) (fun hel5 => ?_)
    obtain ⟨hcl5, _⟩ := hel5; have hl8 := behL_len (lineL (leL es es.length) (trT (leB es es.length) ps ss ps.length)) dk
    refine yx ?_; refine yo 11 rfl ?_; refine zc ?_ (c := fun w1 F1 F2 h1 h2 hd hst => by have hh := rbehind_ok (lc := xlc8) (bs := leL es es.length) (d := dk) (md_rd h2 hd (by repeat (first | exact Pick.here | apply Pick.there))) hsh.tri.ok (by rw [← hcs8]; exact row_rd (xs := xcs8.flatten) h2 hd (by repeat (first | exact Pick.here | apply Pick.there))) hone8 (by omega) hcl8 hel8 hr08 h1; rw [← hcs8] at hh; exact hh)
    rintro ⟨⟨a51, c51⟩, ⟨j5, n5⟩⟩
    refine gl_pureR (fun hbh => ?_)
    replace hbh : (behL (lineL (leL es es.length) (trT (leB es es.length) ps ss ps.length)) dk) = ((lineL (leL es es.length) (trT (leB es es.length) ps ss ps.length)).drop j5).take n5 := hbh
    refine yx ?_; refine yo 12 rfl ?_; refine zc (fun _ => ?_) (c := fun w1 F1 F2 h1 h2 hd hst => same19_ok (l := (behL (lineL (leL es es.length) (trT (leB es es.length) ps ss ps.length)) dk)) ⟨cx5, row_rd (a := a45) h2 hd (by repeat (first | exact Pick.here | apply Pick.there)), hcx5, hcl5, fun i c x hc hx => el_rd (rd := RdBlock) h2 hd (by repeat (first | exact Pick.here | apply Pick.there)) hc hx⟩ ⟨((lcT (trT (leB es es.length) ps ss ps.length) (xc8 :: xd8) xcs8).drop j5).take n5, row_rd (a := a51) h2 hd (by repeat (first | exact Pick.here | apply Pick.there)), fun c hc => lcT_39 (md_rd h2 hd (by repeat (first | exact Pick.here | apply Pick.there))) hcl8 hel8 c (List.mem_of_mem_drop (List.mem_of_mem_take hc)), by rw [hbh, List.length_take, List.length_take, List.length_drop, List.length_drop, lcT_len, ← lineL_def, List.length_append, List.length_map, hcl8], by rw [hbh]; exact cut_live j5 n5 (lcT_live (R := RdBlock w1 (fun k => ¬ F1 k)) hsh.tri hcl8 (fun i c x hc hx => el_rd (rd := RdBlock) (css := xcs8) h2 hd (by repeat (first | exact Pick.here | apply Pick.there)) hc hx) hd2l (fun i c x hc hx => el_rd (rd := RdBlock) (css := xd8) h2 hd (by repeat (first | exact Pick.here | apply Pick.there)) hc hx))⟩ (by omega) h1)
    refine yx ?_; refine yp 13 rfl znt ?_; refine yd ?_; refine gx_then (gc_condF rfl rfl ?_); refine gc_skip (gx_block_normal (gx_then (gc_region (gp zad ?_)))); refine zxm ?_; refine gl_nil (zrd (k + 1) ?_ ?_)
    ·show es.length + 1 + ps.length + 1 - (k + 1) < es.length + 1 + ps.length + 1 - k
     omega
    ·exact zlp (p := k + 1 ≤ es.length + 1 + ps.length + 1) (by omega)
   ·refine gc_exit ?_; refine gx_then_exit ?_; refine gx_round_exit ?_; refine gx_block_hit ?_; refine gx_then (gsr (zxa ?_)); refine gnt (gc_ret (gx_ret1 rfl (by conv => lhs; whnf) ?_)); exact ze ()
end
section
open Go.ChangeShapes Go.WideShapes Go.ChangeAt Go.RowKit
def digD {H : Type} : DataW H := .agg (List.replicate 16 (.lit (.int .u8 0)))
theorem o_dig {H : Type} {enc : TypeId × Value → H} {w : World} {base : Nat} {sp : Nat → Bool} {held : Bool} : Opens enc Tryz.prog w base sp held 27 RdDig := opens_dig Ty.arr_27 Ty.un_5 Ty.sz_5 Ty.sz_27
noncomputable def fetchLines_world (os : Os) : World :=
  let w0 := World.holding Tryz.prog os ⟨#[.cells #[.string ⟨#[113, 117, 111, 114, 97, 116, 101, 58, 32, 114, 97, 110, 103, 101]⟩] 269, .cells #[.string ⟨#[113, 117, 111, 114, 97, 116, 101, 58, 32, 115, 104, 111, 114, 116]⟩] 269, .cells #[.string ⟨#[113, 117, 111, 114, 97, 116, 101, 58, 32, 108, 111, 110, 103]⟩] 269, .cells #[.string ⟨#[113, 117, 111, 114, 97, 116, 101, 58, 32, 102, 111, 114, 109]⟩] 269, .cells #[.string ⟨#[113, 117, 111, 114, 97, 116, 101, 58, 32, 112, 111, 119, 101, 114]⟩] 269, .cells #[.string ⟨#[113, 117, 111, 114, 97, 116, 101, 58, 32, 102, 117, 108, 108]⟩] 269, .cells #[.string ⟨#[113, 117, 111, 114, 97, 116, 101, 58, 32, 110, 111, 110, 101]⟩] 269, .cells #[.string ⟨#[113, 117, 111, 114, 97, 116, 101, 58, 32, 112, 114, 111, 111, 102]⟩] 269, .cells #[.string ⟨#[113, 117, 111, 114, 97, 116, 101, 58, 32, 114, 111, 117, 110, 100]⟩] 269, .cells #[.string ⟨#[113, 117, 111, 114, 97, 116, 101, 58, 32, 112, 97, 114, 101, 110, 116]⟩] 269, .cells #[.string ⟨#[113, 117, 111, 114, 97, 116, 101, 58, 32, 116, 119, 105, 99, 101]⟩] 269], #[], []⟩
  { w0 with heap := (((((((((((w0.heap.modify 0 fun
      | .cells _ t fz => .cells #[.iface 251 (.pointer (some ⟨lowB + 0, 0, none⟩))] t fz
      | o => o).modify 11 fun
      | .cells _ t fz => .cells #[.iface 251 (.pointer (some ⟨lowB + 1, 0, none⟩))] t fz
      | o => o).modify 10 fun
      | .cells _ t fz => .cells #[.iface 251 (.pointer (some ⟨lowB + 2, 0, none⟩))] t fz
      | o => o).modify 1 fun
      | .cells _ t fz => .cells #[.iface 251 (.pointer (some ⟨lowB + 3, 0, none⟩))] t fz
      | o => o).modify 8 fun
      | .cells _ t fz => .cells #[.iface 251 (.pointer (some ⟨lowB + 4, 0, none⟩))] t fz
      | o => o).modify 2 fun
      | .cells _ t fz => .cells #[.iface 251 (.pointer (some ⟨lowB + 5, 0, none⟩))] t fz
      | o => o).modify 7 fun
      | .cells _ t fz => .cells #[.iface 251 (.pointer (some ⟨lowB + 6, 0, none⟩))] t fz
      | o => o).modify 3 fun
      | .cells _ t fz => .cells #[.iface 251 (.pointer (some ⟨lowB + 7, 0, none⟩))] t fz
      | o => o).modify 6 fun
      | .cells _ t fz => .cells #[.iface 251 (.pointer (some ⟨lowB + 8, 0, none⟩))] t fz
      | o => o).modify 5 fun
      | .cells _ t fz => .cells #[.iface 251 (.pointer (some ⟨lowB + 9, 0, none⟩))] t fz
      | o => o).modify 4 fun
      | .cells _ t fz => .cells #[.iface 251 (.pointer (some ⟨lowB + 10, 0, none⟩))] t fz
      | o => o).modify 9 fun
      | .cells _ t fz => .cells (kc.map W32).toArray t fz
      | o => o }
def fetchLines_args : Array Value := #[.agg #[.slice none 0 0, .slice none 0 0, .slice none 0 0], .agg (dc dig0).toArray]
theorem fetchLines_laid (os : Os) (args : Array Value) : laidMet Tryz.prog Rows.fetchLinesRow.laid ((fetchLines_world os).forCall (fun _ _ => 0) ⟨#[], args, []⟩).memory :=
  laidMet_of_run' 8 (by kernel_rfl) (by kernel_rfl)
theorem fetchLines_reads (os : Os) {H : Type} (enc : TypeId × Value → H) : ∃ places, DataW.whole enc Tryz.prog ((fetchLines_world os).forCall (fun _ _ => 0) ⟨#[], fetchLines_args, []⟩).memory Tryz.f3.params.toList Rows.fetchLinesSpec.vars false fetchLines_args.toList 8 = some ([.agg [.nil, .nil, .nil], digD], [], places) :=
  ⟨[], by kernel_rfl⟩
set_option maxRecDepth 20000 in
theorem fetchLines_contract (H : Type) (enc : TypeId × Value → H) (W : World) (base : Nat) (args : Array Value) (ds gs : List (DataW H)) (before : List MemPlace)
    (hval : ∀ (j : Nat) t v, Tryz.f3.params[j]? = some t → args[j]? = some v → Value.okWide Tryz.prog W .any base t v)
    (hW : DataW.Whole enc Tryz.prog Tryz.f3.params.toList Rows.fetchLinesSpec.vars false W args.toList ds gs before) (hL : laidMetH Tryz.prog Rows.fetchLinesRow.laid W) :
    Calls Tryz.prog 3 args W fun e W' => ∃ v, e = .returned v ∧ Rows.fetchLinesSpec.post enc Tryz.prog Tryz.f3 false true false false W args v W' := by
  have hW' := hW
  have hlt : ∀ p ∈ before, p.block < W.heap.size := fun p hp => hW.lt p hp
  obtain ⟨p, q, hA0, hV, rfl, hfz, hnd⟩ := hW
  have hA : DataW.TrodAll enc Tryz.prog W 0 (fun _ => true) true Tryz.f3.params.toList args.toList ds p := hA0
  rw [Tryz.params3] at hA hval
  obtain ⟨v0, vs0, d0, ds0, p0, q0, hargs, rfl, rfl, h0, r0⟩ := trodAll_cons hA
  obtain ⟨v1, vs1, d1, ds1, p1, q1, rfl, rfl, rfl, h1, r1⟩ := trodAll_cons r0
  obtain ⟨rfl, rfl, rfl⟩ := trodAll_nil r1
  obtain rfl : args = #[v0, v1] := by cases args; simp_all
  obtain ⟨rfl, rfl⟩ := trodVars_none hV
  obtain ⟨x0, hx0⟩ : ∃ x, RdShp19 W TT v0.cells.toList x := by obtain ⟨fuel, hf⟩ := h0; exact o_shp19 fuel _ _ hf
  have e0 := agg_of_len (n := 3) (by obtain ⟨_, _, _, _, _, _, _, _, _, hce, _⟩ := hx0; rw [hce]; rfl) (by decide)
  obtain ⟨sa0, sn0, sc0, sb0, sm0, sd0, se0, so0, sf0, hce0, hs0_0, hs0_1, hs0_2⟩ := hx0
  rw [hce0] at e0
  obtain ⟨x1, hx1⟩ : ∃ x, RdDig v1.cells.toList x := by obtain ⟨fuel, hf⟩ := h1; exact o_dig fuel _ _ hf
  have e1 := agg_of_len (n := 16) (by rw [show v1.cells.toList = dc x1 from hx1]; exact dc_length _) (by decide)
  rw [show v1.cells.toList = dc x1 from hx1] at e1
  have hL' : laidMet Tryz.prog Rows.fetchLinesRow.laid W := hL
  obtain ⟨a_1, s_1, c_1, _, _⟩ := laid_err (g := 0) hL' (by kernel_rfl) (by kernel_rfl)
  obtain ⟨a_2, s_2, c_2, _, _⟩ := laid_err (g := 11) hL'.tail (by kernel_rfl) (by kernel_rfl)
  obtain ⟨a_3, s_3, c_3, _, _⟩ := laid_err (g := 10) hL'.tail.tail (by kernel_rfl) (by kernel_rfl)
  obtain ⟨a_4, s_4, c_4, _, _⟩ := laid_err (g := 1) hL'.tail.tail.tail (by kernel_rfl) (by kernel_rfl)
  obtain ⟨a_6, s_6, c_6, _, _⟩ := laid_err (g := 8) hL'.tail.tail.tail.tail (by kernel_rfl) (by kernel_rfl)
  obtain ⟨a_8, s_8, c_8, _, _⟩ := laid_err (g := 2) hL'.tail.tail.tail.tail.tail (by kernel_rfl) (by kernel_rfl)
  obtain ⟨a_9, s_9, c_9, _, _⟩ := laid_err (g := 7) hL'.tail.tail.tail.tail.tail.tail (by kernel_rfl) (by kernel_rfl)
  obtain ⟨a_12, s_12, c_12, _, _⟩ := laid_err (g := 3) hL'.tail.tail.tail.tail.tail.tail.tail (by kernel_rfl) (by kernel_rfl)
  obtain ⟨a_14, s_14, c_14, _, _⟩ := laid_err (g := 6) hL'.tail.tail.tail.tail.tail.tail.tail.tail (by kernel_rfl) (by kernel_rfl)
  obtain ⟨a_16, s_16, c_16, _, _⟩ := laid_err (g := 5) hL'.tail.tail.tail.tail.tail.tail.tail.tail.tail (by kernel_rfl) (by kernel_rfl)
  obtain ⟨a_17, s_17, c_17, _, _⟩ := laid_err (g := 4) hL'.tail.tail.tail.tail.tail.tail.tail.tail.tail.tail (by kernel_rfl) (by kernel_rfl)
  have hK := laid_kr hL'.tail.tail.tail.tail.tail.tail.tail.tail.tail.tail.tail
  have hE : GErr [1, 2, 3, 4, 6, 8, 9, 12, 14, 16, 17] W (fun k => ¬ (fun _ : Nat => False) k) 251 (fun i => if i = 1 then a_1 else if i = 2 then a_2 else if i = 3 then a_3 else if i = 4 then a_4 else if i = 6 then a_6 else if i = 8 then a_8 else if i = 9 then a_9 else if i = 12 then a_12 else if i = 14 then a_14 else if i = 16 then a_16 else a_17) := by
    refine ⟨fun i hi => ?_, fun i _ => id⟩
    simp only [List.mem_cons, List.not_mem_nil, or_false] at hi
    rcases hi with rfl | rfl | rfl | rfl | rfl | rfl | rfl | rfl | rfl | rfl | rfl
    · unfold eV; exact c_1
    · unfold eV; exact c_2
    · unfold eV; exact c_3
    · unfold eV; exact c_4
    · unfold eV; exact c_6
    · unfold eV; exact c_8
    · unfold eV; exact c_9
    · unfold eV; exact c_12
    · unfold eV; exact c_14
    · unfold eV; exact c_16
    · unfold eV; exact c_17
  have walk := fetchLines_ok (ce := sc0) (kp := sd0) (kS := sf0) (d := x1) hE hK no_res (hs0_0.mv still_id) (hs0_1.mv still_id) (hs0_2.mv still_id)
  rw [← e0, ← e1] at walk
  refine Calls.mono (show Calls Tryz.prog 3 #[v0, v1] W _ from walk) fun e W' ⟨_, he, hs⟩ => ?_
  subst he
  have bel := below_of hs
  have eF : Rows.fetchLinesSpec.fn H ([d0, d1] ++ []) = { results := [.lit (.bool true)], args := [d0, d1] } := rfl
  have l0 : ∀ z ∈ p0, z.block < W.heap.size := fun z hz => hlt z (by simp [hz])
  have l1 : ∀ z ∈ p1, z.block < W.heap.size := fun z hz => hlt z (by simp [hz])
  refine ⟨_, rfl, _, _, _, [], p0 ++ (p1 ++ ([])), [], hW', ?_, ?_, ?_, bel.frame _, fun h => by cases h⟩
  · rw [eF]; exact trodAll_cons_mk (shut_bool Tryz.underlying4 _) trodAll_mk0
  · rw [eF, Tryz.params3]
    exact trodAll_cons_mk (Below.trod laidOut (by kernel_rfl) (of_decide_eq_true (by kernel_rfl)) h0 bel l0) (trodAll_cons_mk (Below.trod laidOut (by kernel_rfl) (of_decide_eq_true (by kernel_rfl)) h1 bel l1) (trodAll_mk0))
  · rw [eF]; rfl
set_option maxRecDepth 100000 in
theorem fetchLines_lifted (os : Os) (started : os.Started) (H : Type) (enc : TypeId × Value → H) (F : Stop.Interp) :
    ReturnsInHanded {} Tryz.checked os 3 .any ((OpenSpec.ofChange Rows.fetchLinesSpec).preRow enc Tryz.prog Tryz.f3 Rows.fetchLinesRow.domain false Rows.fetchLinesRow.laid) (((OpenSpec.ofChange Rows.fetchLinesSpec).at F).post enc Tryz.prog Tryz.f3 false true false false) := by
  obtain ⟨places, hx⟩ := fetchLines_reads os enc
  refine returnsInHanded_of_row (C := Tryz.checked) (s := OpenSpec.ofChange Rows.fetchLinesSpec) own started (by kernel_rfl) Tryz.func3
    (witness_row_atRef (enc := enc) (C := Tryz.checked) false (fetchLines_world os) fetchLines_args rfl (by kernel_rfl) (by kernel_rfl) (by kernel_rfl)
      (OpenSpec.preRow_of_cond 8 hx (by kernel_rfl) (fun k hk => by cases hk) (by kernel_rfl) (fetchLines_laid os _))) ?_
  intro W base args ds gs before hval hW _ _ _ hL _ _
  exact fetchLines_contract H enc W base args ds gs before hval hW hL
theorem and_tt {a b : Bool} (h : a = true) (k : b = true) : (a && b) = true := by rw [h, k]; rfl
theorem fetchLines_k0 : (Rows.fetchLinesRow.wf (OpenSpec.ofChange (OpenSpec.ofChange Rows.fetchLinesSpec).bare)) = true := by kernel_rfl
theorem fetchLines_k1 : (laidOutB Tryz.pinned.checked.prog) = true := by kernel_rfl
theorem fetchLines_k2 : (mapsRowed Tryz.pinned.checked.prog) = true := by kernel_rfl
theorem fetchLines_k3 : (Tryz.f3.params.all (Tryz.pinned.checked.prog.readableRec ·)) = true := by kernel_rfl
theorem fetchLines_k4 : (namedTie Tryz.pinned.checked.prog Rows.fetchLinesRow.named (OpenSpec.ofChange Rows.fetchLinesSpec).bare.vars) = true := by kernel_rfl
theorem fetchLines_k5 : ((Rows.fetchLinesRow.stops == [])) = true := by kernel_rfl
theorem fetchLines_k6 : ((Tryz.pinned.checked.prog.stops == [])) = true := by kernel_rfl
theorem fetchLines_k7 : ((Rows.fetchLinesRow.knobs == [])) = true := by kernel_rfl
theorem fetchLines_k8 : ((Tryz.pinned.checked.prog.stopKnobs == [])) = true := by kernel_rfl
theorem fetchLines_k9 : ((Rows.fetchLinesRow.inPlace == Tryz.pinned.checked.prog.inPlace 3)) = true := by kernel_rfl
theorem fetchLines_k10 : ((Rows.fetchLinesRow.unfollowed == Tryz.pinned.checked.prog.unfollowed 3)) = true := by kernel_rfl
theorem fetchLines_k11 : ((Rows.fetchLinesRow.recurses == Tryz.pinned.checked.prog.recurses 3)) = true := by kernel_rfl
theorem fetchLines_k12 : ((Rows.fetchLinesRow.named == Tryz.pinned.checked.prog.varsNamed 3)) = true := by kernel_rfl
theorem fetchLines_k13 : ((Rows.fetchLinesRow.maps == (Tryz.f3.params.toList ++ (OpenSpec.ofChange Rows.fetchLinesSpec).bare.plain.varTypes Tryz.pinned.checked.prog).any (Tryz.pinned.checked.prog.mapsRec ·))) = true := by kernel_rfl
theorem fetchLines_k14 : ((Rows.fetchLinesRow.ifaces == (Tryz.f3.params.toList ++ (OpenSpec.ofChange Rows.fetchLinesSpec).bare.plain.varTypes Tryz.pinned.checked.prog).any (Tryz.pinned.checked.prog.ifacesRec ·))) = true := by kernel_rfl
theorem fetchLines_k15 : ((Rows.fetchLinesRow.mapsOut == Tryz.pinned.checked.prog.mapsAmong Tryz.f3.resultTypes.toList)) = true := by kernel_rfl
theorem fetchLines_k16 : ((Rows.fetchLinesRow.loops == (Tryz.f3.params.toList ++ (OpenSpec.ofChange Rows.fetchLinesSpec).bare.plain.varTypes Tryz.pinned.checked.prog).any (Tryz.pinned.checked.prog.loopsFrom ·))) = true := by kernel_rfl
theorem fetchLines_k17 : ((Rows.fetchLinesRow.wideKeys == (Tryz.f3.params.toList ++ (OpenSpec.ofChange Rows.fetchLinesSpec).bare.plain.varTypes Tryz.pinned.checked.prog ++ Tryz.f3.resultTypes.toList).any (Tryz.pinned.checked.prog.wideKeysFrom ·))) = true := by kernel_rfl
theorem fetchLines_k18 : ((OpenSpec.ofChange Rows.fetchLinesSpec).bare.vars.all (Tryz.pinned.checked.prog.varReadable ·)) = true := by kernel_rfl
theorem fetchLines_k19 : (Tryz.f3.resultTypes.all (fun t => Tryz.pinned.checked.prog.readableRec t && decide (t < Tryz.pinned.checked.prog.types.size))) = true := by kernel_rfl
theorem fetchLines_k20 : ((Rows.fetchLinesRow.ifacesOut == Tryz.f3.resultTypes.toList.any (Tryz.pinned.checked.prog.ifacesRec ·))) = true := by kernel_rfl
theorem fetchLines_k21 : ((Rows.fetchLinesRow.loopsOut == Tryz.f3.resultTypes.toList.any (Tryz.pinned.checked.prog.loopsFrom ·))) = true := by kernel_rfl
theorem fetchLines_k22 : ((Rows.fetchLinesRow.plainKeys == Tryz.pinned.checked.prog.plainKeys)) = true := by kernel_rfl
theorem fetchLines_k23 : (Rows.fetchLinesRow.shortTexts.isNone) = true := by kernel_rfl
theorem fetchLines_k24 : (Tryz.pinned.checked.prog.stopsHeard) = true := by kernel_rfl
theorem fetchLines_k25 : (Tryz.pinned.checked.prog.mayEnter) = true := by kernel_rfl
theorem fetchLines_k26 : ((Rows.fetchLinesRow.lifted == Tryz.pinned.checked.prog.liftsFinal)) = true := by kernel_rfl
theorem fetchLines_k27 : ((Tryz.pinned.checked.prog.make == some Rows.fetchLinesRow.make)) = true := by kernel_rfl
theorem fetchLines_k28 : ((Rows.fetchLinesRow.kinds == (if Rows.fetchLinesRow.domain.isEmpty then [] else Tryz.f3.params.toList.map fun t => match Tryz.pinned.checked.prog.underlying t with | some (.int k) => some k | _ => none))) = true := by kernel_rfl
theorem fetchLines_k29 : ((Rows.fetchLinesRow.pinned == Rows.fetchLinesRow.pinnedBy)) = true := by kernel_rfl
theorem fetchLines_k30 : ((Rows.fetchLinesRow.veiled == (Tryz.f3.params.toList ++ (OpenSpec.ofChange Rows.fetchLinesSpec).bare.plain.varTypes Tryz.pinned.checked.prog ++ Tryz.f3.resultTypes.toList).any (Tryz.pinned.checked.prog.veiledRec ·))) = true := by kernel_rfl
theorem fetchLines_k31 : (Rows.fetchLinesRow.veiledFits Tryz.pinned.checked.prog Tryz.f3.params.toList (Tryz.f3.params.toList ++ (OpenSpec.ofChange Rows.fetchLinesSpec).bare.plain.varTypes Tryz.pinned.checked.prog ++ Tryz.f3.resultTypes.toList)) = true := by kernel_rfl
set_option maxRecDepth 100000 in
theorem fetchLines_facts : joinedFacts Tryz.pinned.checked.prog 3 Tryz.f3 (OpenSpec.ofChange Rows.fetchLinesSpec).bare Rows.fetchLinesRow = true := (and_tt (and_tt (and_tt (and_tt (and_tt (and_tt (and_tt (and_tt (and_tt (and_tt (and_tt (and_tt (and_tt (and_tt (and_tt (and_tt (and_tt (and_tt (and_tt (and_tt (and_tt (and_tt (and_tt (and_tt (and_tt (and_tt (and_tt (and_tt (and_tt (and_tt (and_tt fetchLines_k0 fetchLines_k1) fetchLines_k2) fetchLines_k3) fetchLines_k4) fetchLines_k5) fetchLines_k6) fetchLines_k7) fetchLines_k8) fetchLines_k9) fetchLines_k10) fetchLines_k11) fetchLines_k12) fetchLines_k13) fetchLines_k14) fetchLines_k15) fetchLines_k16) fetchLines_k17) fetchLines_k18) fetchLines_k19) fetchLines_k20) fetchLines_k21) fetchLines_k22) fetchLines_k23) fetchLines_k24) fetchLines_k25) fetchLines_k26) fetchLines_k27) fetchLines_k28) fetchLines_k29) fetchLines_k30) fetchLines_k31)
theorem fetchLines_said : Rows.FetchLinesSaid :=
  OpenClaim.holds_of_cond 3 Tryz.f3 rfl rfl rfl rfl rfl rfl rfl ⟨rfl, rfl, rfl, rfl, rfl⟩ rfl rfl rfl rfl rfl (by kernel_rfl) Tryz.func3 fetchLines_facts
    (of_decide_eq_true (by kernel_rfl)) (by unfold Func.isWrapper; first | (rw [if_pos (by decide +kernel)]; kernel_rfl) | (rw [if_neg (by decide +kernel)]; exact ⟨rfl, rfl⟩))
    (fun os started H enc _ F => by rw [OpenClaim.pre_eq_preRow]; exact fetchLines_lifted os started H enc F)
theorem fetchLines_plain (f : FuncId) (fn : Func) (hf : Tryz.pinned.checked.prog.funcNamed "quorate/quoratelaw19.FetchLines" = some f) (hfn : Tryz.pinned.checked.prog.funcs[f]? = some fn) :
    false = Tryz.pinned.checked.prog.looks [] ∧ ∀ (j : Nat) t, fn.params[j]? = some t → Tryz.pinned.checked.prog.wantsStandIn t = false := by
  obtain rfl : f = 3 := Option.some.inj ((show Tryz.prog.funcNamed "quorate/quoratelaw19.FetchLines" = some 3 by kernel_rfl).symm.trans hf) |>.symm
  obtain rfl : fn = Tryz.f3 := (Option.some.inj (Tryz.func3.symm.trans hfn)).symm
  refine ⟨by kernel_rfl, fun j t ht => ?_⟩
  rw [Tryz.params3] at ht
  have hm := Array.mem_of_getElem? ht
  have h : t = 25 ∨ t = 27 := by simpa using hm
  rcases h with rfl | rfl
  · exact (show Tryz.prog.wantsStandIn 25 = false by kernel_rfl)
  · exact (show Tryz.prog.wantsStandIn 27 = false by kernel_rfl)
theorem fetchLines_holds : Rows.FetchLinesCardSaid :=
  Claim7.holds_tied_plain_at .later [] _ _ _ _ fetchLines_said (fun _ h => by cases h) (by kernel_rfl) (fun _ h => by cases h) fetchLines_row_tie rfl ⟨rfl, rfl⟩ (by kernel_rfl) rfl fetchLines_plain (by kernel_rfl)
#print axioms fetchLines_holds
end
end Go.Proofs.YtheonhgffglegaaGreatDoor
