/- Part 6. What is proved: see the last part: for every input the law returns true, and the input reads as it did. -/
import Derived.Test.YtomdanlljfikaaaGreatDoorCd5
namespace Go.Proofs.YtomdanlljfikaaaGreatDoor
open Go
set_option linter.unusedVariables false
set_option linter.unusedSimpArgs false
set_option linter.unusedSectionVars false
set_option maxHeartbeats 400000
section
attribute [local irreducible] Gl Gc Gx Gs Runs Wt
theorem isig_ok {w : World} {F : Nat → Prop} {g c : Nat} {a : Option Addr} {B : List UInt8} {σ : RSt} (h : stars [InR g a c B σ] w F) (hB : RdRow w (fun k => ¬ F k) 1 a B.length (B.map B8)) (hc : B.length ≤ c) (hl : B.length ≤ 40000)  :
    Calls Tryz.prog 134 #[.agg (List.toArray [.pointer (some ⟨g, 0, none⟩)])] w (Post w F (fun r : List Value × Sig => .agg r.1.toArray) (fun r => [pureR (Ag pSig σ r.2 ∧ r.1.length = 3 ∧ (∀ v ∈ r.1, v.oneCell' = true) ∧ OkSig r.2), VlR RdSig r.1 r.2, InR g a c B (rstep pSig σ)])) := by
 refine g_enter (env := [(0, .agg (List.toArray [.pointer (some ⟨g, 0, none⟩)]))]) Tryz.func134 rfl h Tryz.ntmps134 rfl rfl ?_; refine gsr (zbN fun b1 => ?_); refine zal fun b2 => ?_; refine gl_eqc (cs' := [.int .i64 0, .slice none 0 0, .slice none 0 0]) (by repeat (first | exact Pick.here | apply Pick.there)) (by kernel_rfl) ?_; refine zxs ?_; refine gp (r_build (cs := [.int .i64 0, .slice none 0 0, .slice none 0 0]) Ty.zc_84 Ty.pl_84 (by kernel_rfl)) ?_; refine zal fun b3 => ?_; refine gl_eqc (cs' := [.int .i64 0, .slice none 0 0, .slice none 0 0]) (by repeat (first | exact Pick.here | apply Pick.there)) (by kernel_rfl) ?_; refine zsA (new := [.int .i64 0, .slice none 0 0, .slice none 0 0]) (by first | rfl | simp only [List.length_cons, List.length_append, List.length_nil, dc_length, len_L]) (by repeat (first | exact all_nil' | exact dc_one _ | exact One.h | refine all_cons' rfl ?_ | refine all_app' (dc_one _) ?_ | refine all_app' One.h ?_)) ?_
 refine zxs ?_; refine gp zfa ?_; refine gp zl ?_; refine zc (fun x => ?_) (c := fun w1 F1 F2 h1 h2 hd hst => inum_ok (wd := 1) h1 (hB.mv hst.still) hc hl (by decide) (by decide))
 refine gl_pureR (fun hp7 => ?_)
 obtain ⟨g7, hn7⟩ := hp7; replace g7 : Ag (pNum 1) _ (x : Int) := g7
 have r7 : I64 (x : Int) := i64_num (wd := 1) (by decide) hn7
 refine gp zfa ?_; refine zs1 ?_; refine zxs ?_; refine gp zL ?_; refine zc ?_ (c := fun w1 F1 F2 h1 h2 hd hst => idigests_ok (most := 68) h1 (hB.mv hst.still) hc hl (by decide))
 rintro ⟨a10, n10, c10, l10⟩
 refine gl_pureR (fun hp10 => ?_)
 obtain ⟨g10, k10, e10⟩ := hp10; replace g10 : Ag (pList pDig 68) _ l10 := g10
 replace k10 : n10 ≤ c10 := k10
 refine gp zfa ?_; refine zs1 ?_; refine zxs ?_; refine gp zL ?_; refine zc ?_ (c := fun w1 F1 F2 h1 h2 hd hst => idigests_ok (most := 5) h1 (hB.mv hst.still) hc hl (by decide))
 rintro ⟨a13, n13, c13, l13⟩
 refine gl_pureR (fun hp13 => ?_)
 obtain ⟨g13, k13, e13⟩ := hp13; replace g13 : Ag (pList pDig 5) _ l13 := g13
 replace k13 : n13 ≤ c13 := k13
 refine gp zfa ?_; refine zs1 ?_; refine zxs ?_; refine gp (zLa (cs := [.int .i64 (x : Int), .slice a10 n10 c10, .slice a13 n13 c13])) ?_; refine zsA (new := [.int .i64 (x : Int), .slice a10 n10 c10, .slice a13 n13 c13]) (by first | rfl | simp only [List.length_cons, List.length_append, List.length_nil, dc_length, len_L]) (by repeat (first | exact all_nil' | exact dc_one _ | exact One.h | refine all_cons' rfl ?_ | refine all_app' (dc_one _) ?_ | refine all_app' One.h ?_)) ?_
 refine gnt (gc_ret (gx_retc rfl rfl (ldA Ty.row_84 Ty.sz_84) ?_)); have ha : Ag pSig σ ⟨x, l10, l13⟩ := g7.bind (g10.bind (g13.bind (Ag.pure _)))
 have hr : rstep pSig σ = rstep (pList pDig 5) (rstep (pList pDig 68) (rstep (pNum 1) (σ))) := by rw [pSig, rstep_bind g7, rstep_bind g10, rstep_bind g13, rstep_pure]
 rw [hr]; intro w' hw; refine ⟨([.int .i64 (x : Int), .slice a10 n10 c10, .slice a13 n13 c13], ⟨x, l10, l13⟩), rfl, St.pureI ⟨ha, by first | rfl | simp only [List.length_cons, List.length_append, List.length_nil, dc_length, len_L] , (all_cons' rfl (all_cons' rfl (all_cons' rfl all_nil'))), r7⟩ ?_⟩
 exact (hw.conv (M := [LsR (fun _ _ => RdDig) 16 a10 n10 l10, LsR (fun _ _ => RdDig) 16 a13 n13 l13]) (by repeat (first | exact Sel.nil | (apply Sel.cons; · (repeat (first | exact Pick.here | apply Pick.there))))) (fun _ _ => vl_sig k10 k13)).z
theorem isigned_ok {w : World} {F : Nat → Prop} {g c : Nat} {a : Option Addr} {B : List UInt8} {σ : RSt} (h : stars [InR g a c B σ] w F) (hB : RdRow w (fun k => ¬ F k) 1 a B.length (B.map B8)) (hc : B.length ≤ c) (hl : B.length ≤ 40000)  :
    Calls Tryz.prog 107 #[.agg (List.toArray [.pointer (some ⟨g, 0, none⟩)])] w (Post w F (fun r : List Value × Signed => .agg r.1.toArray) (fun r => [pureR (Ag pSigned σ r.2 ∧ r.1.length = 4 ∧ (∀ v ∈ r.1, v.oneCell' = true) ∧ OkSigned r.2), VlR RdSigned r.1 r.2, InR g a c B (rstep pSigned σ)])) := by
 refine g_enter (env := [(0, .agg (List.toArray [.pointer (some ⟨g, 0, none⟩)]))]) Tryz.func107 rfl h Tryz.ntmps107 rfl rfl ?_; refine gsr (zbN fun b1 => ?_); refine zal fun b2 => ?_; refine gl_eqc (cs' := (.int .i64 0 :: [.int .i64 0, .slice none 0 0, .slice none 0 0])) (by repeat (first | exact Pick.here | apply Pick.there)) (by kernel_rfl) ?_; refine zxs ?_; refine gp (r_build (cs := (.int .i64 0 :: [.int .i64 0, .slice none 0 0, .slice none 0 0])) Ty.zc_86 Ty.pl_86 (by kernel_rfl)) ?_; refine zal fun b3 => ?_; refine gl_eqc (cs' := (.int .i64 0 :: [.int .i64 0, .slice none 0 0, .slice none 0 0])) (by repeat (first | exact Pick.here | apply Pick.there)) (by kernel_rfl) ?_; refine zsA (new := (.int .i64 0 :: [.int .i64 0, .slice none 0 0, .slice none 0 0])) (by first | rfl | simp only [List.length_cons, List.length_append, List.length_nil, dc_length, len_L]) (by repeat (first | exact all_nil' | exact dc_one _ | exact One.h | refine all_cons' rfl ?_ | refine all_app' (dc_one _) ?_ | refine all_app' One.h ?_)) ?_
 refine zxs ?_; refine gp zfa ?_; refine gp zl ?_; refine zc (fun x => ?_) (c := fun w1 F1 F2 h1 h2 hd hst => inum_ok (wd := 1) h1 (hB.mv hst.still) hc hl (by decide) (by decide))
 refine gl_pureR (fun hp7 => ?_)
 obtain ⟨g7, hn7⟩ := hp7; replace g7 : Ag (pNum 1) _ (x : Int) := g7
 have r7 : I64 (x : Int) := i64_num (wd := 1) (by decide) hn7
 refine gp zfa ?_; refine zs1 ?_; refine zxs ?_; refine gp zL ?_; refine zc ?_ (c := fun w1 F1 F2 h1 h2 hd hst => isig_ok h1 (hB.mv hst.still) hc hl)
 rintro ⟨q10, v10⟩
 refine gl_pureR (fun hp10 => ?_)
 obtain ⟨g10, z10, o10, k10⟩ := hp10; replace k10 : OkSig v10 := k10
 replace z10 : q10.length = _ := z10
 replace g10 : Ag pSig _ v10 := g10
 have i10 := Len.of z10
 have j10 := One.of (show ∀ v ∈ q10, v.oneCell' = true from o10)
 refine gp zfa ?_; refine zsN ?_; refine zxs ?_; refine gp (zLa (cs := .int .i64 (x : Int) :: q10)) ?_; refine zsA (new := (.int .i64 (x : Int) :: q10)) (by first | rfl | simp only [List.length_cons, List.length_append, List.length_nil, dc_length, len_L]) (by repeat (first | exact all_nil' | exact dc_one _ | exact One.h | refine all_cons' rfl ?_ | refine all_app' (dc_one _) ?_ | refine all_app' One.h ?_)) ?_
 refine gnt (gc_ret (gx_retc rfl rfl (ldA Ty.row_86 Ty.sz_86) ?_)); have ha : Ag pSigned σ ⟨x, v10⟩ := g7.bind (g10.bind (Ag.pure _))
 have hr : rstep pSigned σ = rstep pSig (rstep (pNum 1) (σ)) := by rw [pSigned, rstep_bind g7, rstep_bind g10, rstep_pure]
 rw [hr]; intro w' hw; refine ⟨(.int .i64 (x : Int) :: q10, ⟨x, v10⟩), rfl, St.pureI ⟨ha, by first | rfl | simp only [List.length_cons, List.length_append, List.length_nil, dc_length, len_L] , (all_cons' rfl o10), r7, k10⟩ ?_⟩
 exact (hw.conv (M := [VlR RdSig q10 v10]) (by repeat (first | exact Sel.nil | (apply Sel.cons; · (repeat (first | exact Pick.here | apply Pick.there))))) (fun _ _ => vl_signed)).z
theorem iqc_ok {w : World} {F : Nat → Prop} {g c : Nat} {a : Option Addr} {B : List UInt8} {σ : RSt} (h : stars [InR g a c B σ] w F) (hB : RdRow w (fun k => ¬ F k) 1 a B.length (B.map B8)) (hc : B.length ≤ c) (hl : B.length ≤ 40000)  :
    Calls Tryz.prog 73 #[.agg (List.toArray [.pointer (some ⟨g, 0, none⟩)])] w (Post w F (fun r : List Value × QC => .agg r.1.toArray) (fun r => [pureR (Ag pQC σ r.2 ∧ r.1.length = 19 ∧ (∀ v ∈ r.1, v.oneCell' = true) ∧ OkQC r.2), VlR RdQC r.1 r.2, InR g a c B (rstep pQC σ)])) := by
 refine g_enter (env := [(0, .agg (List.toArray [.pointer (some ⟨g, 0, none⟩)]))]) Tryz.func73 rfl h Tryz.ntmps73 rfl rfl ?_; refine gsr (zbN fun b1 => ?_); refine zal fun b2 => ?_; refine gl_eqc (cs' := (.int .i64 0 :: .int .i64 0 :: (dc dig0 ++ [.slice none 0 0]))) (by repeat (first | exact Pick.here | apply Pick.there)) (by kernel_rfl) ?_; refine zxs ?_; refine gp (r_build (cs := (.int .i64 0 :: .int .i64 0 :: (dc dig0 ++ [.slice none 0 0]))) Ty.zc_41 Ty.pl_41 (by kernel_rfl)) ?_; refine zal fun b3 => ?_; refine gl_eqc (cs' := (.int .i64 0 :: .int .i64 0 :: (dc dig0 ++ [.slice none 0 0]))) (by repeat (first | exact Pick.here | apply Pick.there)) (by kernel_rfl) ?_; refine zsA (new := (.int .i64 0 :: .int .i64 0 :: (dc dig0 ++ [.slice none 0 0]))) (by first | rfl | simp only [List.length_cons, List.length_append, List.length_nil, dc_length, len_L]) (by repeat (first | exact all_nil' | exact dc_one _ | exact One.h | refine all_cons' rfl ?_ | refine all_app' (dc_one _) ?_ | refine all_app' One.h ?_)) ?_
 refine zxs ?_; refine gp zfa ?_; refine gp zl ?_; refine zc (fun x9 => ?_) (c := fun w1 F1 F2 h1 h2 hd hst => inum_ok (wd := 4) h1 (hB.mv hst.still) hc hl (by decide) (by decide))
 refine gl_pureR (fun hp9 => ?_)
 obtain ⟨g9, hn9⟩ := hp9; replace g9 : Ag (pNum 4) _ (x9 : Int) := g9
 have r9 : I64 (x9 : Int) := i64_num (wd := 4) (by decide) hn9
 refine gp zfa ?_; refine zs1 ?_; refine zxs ?_; refine gp zfa ?_; refine gp zl ?_; refine zc (fun y13 => ?_) (c := fun w1 F1 F2 h1 h2 hd hst => inum_ok (wd := 6) h1 (hB.mv hst.still) hc hl (by decide) (by decide))
 refine gl_pureR (fun hp13 => ?_)
 obtain ⟨g13, hn13⟩ := hp13; replace g13 : Ag (pNum 6) _ (y13 : Int) := g13
 have r13 : I64 (y13 : Int) := i64_num (wd := 6) (by decide) hn13
 have gA13 : Ag pAt σ ((x9 : Int), (y13 : Int)) := g9.bind (g13.bind (Ag.pure _))
 have rA13 : rstep pAt σ = rstep (pNum 6) (rstep (pNum 4) σ) := by rw [pAt, rstep_bind g9, rstep_bind g13, rstep_pure]
 rw [← rA13]; refine gp zfa ?_; refine zs1 ?_; refine zxs ?_; refine gp zL ?_; refine zc (fun d16 => ?_) (c := fun w1 F1 F2 h1 h2 hd hst => idigest_ok h1 (hB.mv hst.still) hc hl)
 refine gl_pureR (fun g16 => ?_)
 replace g16 : Ag pDig _ d16 := g16
 refine gp zfa ?_; refine zsN ?_; refine zxs ?_; refine gp zfa ?_; refine gp zl ?_; refine zc ?_ (c := fun w1 F1 F2 h1 h2 hd hst => imany_ok (most := 7) h1 (hB.mv hst.still) hc hl (by decide))
 rintro ⟨vx, x⟩
 refine gl_pureR (fun hp20 => ?_)
 obtain ⟨hxx, hvx, hwx⟩ := hp20; replace hxx : Ag (pNum 1) _ (x : Int) := hxx
 replace hvx : vx = x ∨ errOf (mSt 7 _ x) ≠ 0 := hvx
 replace hwx : vx ≤ 255 := hwx
 refine zxa ?_; refine gnt (gc_seq (gsr (zxa ?_))); refine gnt (gc_block (gc_loop (α := Nat × RSt × Option Addr × Nat × List (List Value) × List Signed) (fun y => [pureR (y.1 ≤ vx ∧ (vx = x ∨ errOf y.2.1 ≠ 0) ∧ Many pSigned x (mSt 7 (rstep pDig (rstep pAt σ)) x) (x - y.1) y.2.1 y.2.2.2.2.2 ∧ (∀ c ∈ y.2.2.2.2.1, c.length = 4 ∧ ∀ v ∈ c, v.oneCell' = true) ∧ y.2.2.2.2.2.length = y.1 ∧ ∀ x ∈ y.2.2.2.2.2, OkSigned x), rowR 86 4 y.2.2.1 y.1 y.2.2.2.1 y.2.2.2.2.1.flatten, ElR (RdSigned) y.2.2.2.2.1 y.2.2.2.2.2, blk b3 41 (.int .i64 (x9 : Int) :: .int .i64 (y13 : Int) :: (dc d16 ++ [.slice y.2.2.1 y.1 y.2.2.2.1])), blk b1 114 [.pointer (some ⟨g, 0, none⟩)], blk b2 41 (.int .i64 0 :: .int .i64 0 :: (dc dig0 ++ [.slice none 0 0])), InR g a c B y.2.1]) (fun y => [(5, .int .i64 (y.1 : Int))]) [21, 22, 23, 24, 25, 26, 27, 28, 29, 30, 31, 32, 33, 34, 35, 36, 37, 38, 39, 40] (fun y => vx - y.1) (0, (mSt 7 (rstep pDig (rstep pAt σ)) x), none, 0, [], []) ?_ ?_ ?_))
 ·refine env_start (by kernel_rfl)
 ·exact fun w' hw => zlp ⟨Nat.zero_le _, hvx, Many.start, (by intro c hc; cases hc), rfl, (by intro x hx; cases hx)⟩ (by repeat (first | exact Sel.nil | (apply Sel.cons; · (repeat (first | exact Pick.here | apply Pick.there))))) w' (hw.mapL fun F' hF' => stars_row_nil (e := 86) (size := 4) (el_nil (rd := RdSigned) hF'))
 ·intro y u; obtain ⟨ky, τy, ay, cy, cssy, ly⟩ := y; refine gc_pureR (fun hk => ?_)
  obtain ⟨hky, hvxy, hmanyy, hcs0, hlly, hokly⟩ := hk; replace hokly : ∀ x ∈ ly, OkSigned x := hokly
  replace hky : ky ≤ vx := hky
  replace hlly : ly.length = ky := hlly
  have hcs1y : ∀ c ∈ cssy, ∀ v ∈ c, v.oneCell' = true := fun c hc => (hcs0 c hc).2
  have hcssy : ∀ c ∈ cssy, c.length = 4 := fun c hc => (hcs0 c hc).1
  replace hvxy : vx = x ∨ errOf τy ≠ 0 := hvxy
  replace hmanyy : Many pSigned x (mSt 7 (rstep pDig (rstep pAt σ)) x) (x - ky) τy ly := hmanyy
  refine gc_seq (gc_seq ?_); by_cases hkxy : ky < vx
  ·refine gc_region (zxm ?_); refine zxm ?_; refine gp (r_bool (c := true) zlt (decide_eq_true (by omega))) ?_; refine zxm ?_; refine gq zfa ?_; refine gq zl ?_; refine gq znc ?_; refine gq zfa ?_; refine gq (r_inerr rfl Ty.row_3 (by repeat (first | exact Pick.here | apply Pick.there))) ?_; refine gq zei ?_; refine gp zpk ?_; refine gnt (gif rfl (fun hc31 => ?_) (fun hc31 => ?_))
   ·try simp only at hc31
    have he2 : errOf τy = 0 := by omega
    have hvq : vx = x := hvxy.resolve_right (fun h => h he2)
    refine gc_skip (gx_then (gc_seq (gc_block (gc_regionZ 7 ([blk b1 114 [.pointer (some ⟨g, 0, none⟩)], blk b3 41 (.int .i64 (x9 : Int) :: .int .i64 (y13 : Int) :: (dc d16 ++ [.slice ay ky cy]))]) ?_)))); refine yps 0 rfl zfa ?_; refine yps 1 rfl zl ?_; refine yps 2 rfl zL ?_; refine yos 3 rfl ?_; refine zc ?_ (c := fun w1 F1 F2 h1 h2 hd hst => isigned_ok h1 (hB.mv hst.still) hc hl)
    rintro ⟨cs, v⟩
    refine gl_pureR (fun hpe => ?_)
    obtain ⟨hag, hcl, hco, hok⟩ := hpe; replace hok : OkSigned v := hok
    replace hcl : cs.length = _ := hcl
    replace hag : Ag pSigned _ v := hag
    have i1 := Len.of hcl
    have i2 := One.of (show ∀ v ∈ cs, v.oneCell' = true from hco)
    refine yxs ?_; refine yos 4 rfl ?_; refine zeN fun b38 => ?_; refine yxs ?_; refine yos 5 rfl ?_; refine zapo (news := cs) (fun a39 c39 => ?_)
    refine yxs ?_; refine yps 6 rfl zfa ?_; refine yzs rfl ?_; refine zs1 ?_; refine gl_nil (gx_block_normal (gx_then (gc_region (zxm ?_)))); refine gp zad ?_; refine zxa ?_; refine gl_nil (zrd ((ky + 1, rstep pSigned τy, a39, c39, cssy ++ [cs], ly ++ [v])) ?_ ?_)
    ·show vx - (ky + 1) < vx - ky
     omega
    ·rintro w' hw
     have h1 := hw.conv (M := [ElR (RdSigned) cssy ly, VlR (RdSigned) cs v]) (by repeat (first | exact Sel.nil | (apply Sel.cons; · (repeat (first | exact Pick.here | apply Pick.there))))) (fun _ _ => el_snoc)
     refine zlq (M' := [rowR 86 4 a39 (ky + 1) c39 (cssy.flatten ++ cs), ElR (RdSigned) (cssy ++ [cs]) (ly ++ [v]), blk b3 41 (.int .i64 (x9 : Int) :: .int .i64 (y13 : Int) :: (dc d16 ++ [.slice a39 (ky + 1) c39])), blk b1 114 [.pointer (some ⟨g, 0, none⟩)], blk b2 41 (.int .i64 0 :: .int .i64 0 :: (dc dig0 ++ [.slice none 0 0])), InR g a c B (rstep pSigned τy)]) ⟨?_, ?_, ?_, ?_, ?_, ?_⟩ (by simp) (by repeat (first | exact Sel.nil | (apply Sel.cons; · (repeat (first | exact Pick.here | apply Pick.there))))) w' h1
     ·show ky + 1 ≤ vx; omega
     ·exact .inl hvq
     ·rw [show x - ky = x - (ky + 1) + 1 by omega] at hmanyy; exact hmanyy.next hag
     ·intro c' hc'; rcases List.mem_append.1 hc' with h | h; exact ⟨hcssy c' h, hcs1y c' h⟩; rw [List.mem_singleton.1 h]; exact ⟨hcl, hco⟩
     ·simp [hlly]
     ·intro x hx; rcases List.mem_append.1 hx with h | h; exact hokly x h; (have e := List.mem_singleton.1 h; subst e; exact hok)
   ·try simp only at hc31
    have he2 : ¬ errOf τy = 0 := by omega
    refine gc_exit ?_; refine gx_then_exit ?_; refine gx_round_exit ?_; refine gx_block_hit ?_; refine gx_then (gsr (gp (zLa (cs := (.int .i64 (x9 : Int) :: .int .i64 (y13 : Int) :: (dc d16 ++ [.slice ay ky cy])))) ?_)); refine zsA (new := (.int .i64 (x9 : Int) :: .int .i64 (y13 : Int) :: (dc d16 ++ [.slice ay ky cy]))) (by first | rfl | simp only [List.length_cons, List.length_append, List.length_nil, dc_length, len_L]) (by repeat (first | exact all_nil' | exact dc_one _ | exact One.h | refine all_cons' rfl ?_ | refine all_app' (dc_one _) ?_ | refine all_app' One.h ?_)) ?_
    refine gnt (gc_ret (gx_retc rfl rfl (ldA Ty.row_41 Ty.sz_41) ?_)); have hcs2 : (if errOf (rstep (pNum 1) (rstep pDig (rstep pAt σ))) = 0 ∧ 7 < x then failE 1 (rstep (pNum 1) (rstep pDig (rstep pAt σ))) else rstep (pNum 1) (rstep pDig (rstep pAt σ))) = mSt 7 (rstep pDig (rstep pAt σ)) x := rfl
    have hdy : rstep (pMany pSigned x) (mSt 7 (rstep pDig (rstep pAt σ)) x) = τy ∧ Ag (pMany pSigned x) (mSt 7 (rstep pDig (rstep pAt σ)) x) ly := by by_cases he3 : errOf τy = 0 <;> first | (have hb := hmanyy.bad he3; exact ⟨hb.1, hb.2 _⟩) | (have hvq := hvxy.resolve_right (fun h => h he3); have hm0 : x - ky = 0 := (by omega); rw [hm0] at hmanyy; exact hmanyy.done)
    have hfiny := list_fin hxx hcs2 hdy
    have gL := hfiny.2
    have ha : Ag pQC σ ⟨x9, y13, d16, ly⟩ := gA13.bind (g16.bind (gL.bind (Ag.pure _)))
    have hr : rstep pQC σ = rstep (pList pSigned 7) (rstep pDig (rstep pAt (σ))) := by rw [pQC, rstep_bind gA13, rstep_bind g16, rstep_bind gL, rstep_pure]
    rw [hr]; rw [hfiny.1]; intro w' hw; have hle := (hw.rowLe (e := 86) (size := 4) (a := ay) (m := ky) (c := cy) (xs := cssy.flatten) (by repeat (first | exact Pick.here | apply Pick.there))).1
    refine ⟨((.int .i64 (x9 : Int) :: .int .i64 (y13 : Int) :: (dc d16 ++ [.slice ay ky cy])), ⟨x9, y13, d16, ly⟩), rfl, St.pureI ⟨ha, by first | rfl | simp only [List.length_cons, List.length_append, List.length_nil, dc_length, len_L] , all_cons' rfl (all_cons' rfl (all_app' (dc_one _) (all_cons' rfl all_nil'))), r9, r13, hokly⟩ ?_⟩
    exact (hw.conv (M := [rowR 86 4 ay ky cy cssy.flatten, ElR RdSigned cssy ly]) (by repeat (first | exact Sel.nil | (apply Sel.cons; · (repeat (first | exact Pick.here | apply Pick.there))))) (fun _ _ hh => vl_qc hle (ls_of hcssy hh))).z
  ·refine gc_region (zxm ?_); refine zxm ?_; refine gp (r_bool (c := false) zlt (decide_eq_false (by omega))) ?_; refine zxm ?_; refine gn ?_; refine gn ?_; refine gn ?_; refine gn ?_; refine gn ?_; refine gn ?_; refine gp zpk ?_; refine gnt (gc_condF rfl rfl ?_); refine gc_exit ?_; refine gx_then_exit ?_; refine gx_round_exit ?_; refine gx_block_hit ?_; refine gx_then (gsr (gp (zLa (cs := (.int .i64 (x9 : Int) :: .int .i64 (y13 : Int) :: (dc d16 ++ [.slice ay ky cy])))) ?_)); refine zsA (new := (.int .i64 (x9 : Int) :: .int .i64 (y13 : Int) :: (dc d16 ++ [.slice ay ky cy]))) (by first | rfl | simp only [List.length_cons, List.length_append, List.length_nil, dc_length, len_L]) (by repeat (first | exact all_nil' | exact dc_one _ | exact One.h | refine all_cons' rfl ?_ | refine all_app' (dc_one _) ?_ | refine all_app' One.h ?_)) ?_
   refine gnt (gc_ret (gx_retc rfl rfl (ldA Ty.row_41 Ty.sz_41) ?_)); have hcs2 : (if errOf (rstep (pNum 1) (rstep pDig (rstep pAt σ))) = 0 ∧ 7 < x then failE 1 (rstep (pNum 1) (rstep pDig (rstep pAt σ))) else rstep (pNum 1) (rstep pDig (rstep pAt σ))) = mSt 7 (rstep pDig (rstep pAt σ)) x := rfl
   have hdy : rstep (pMany pSigned x) (mSt 7 (rstep pDig (rstep pAt σ)) x) = τy ∧ Ag (pMany pSigned x) (mSt 7 (rstep pDig (rstep pAt σ)) x) ly := by by_cases he3 : errOf τy = 0 <;> first | (have hb := hmanyy.bad he3; exact ⟨hb.1, hb.2 _⟩) | (have hvq := hvxy.resolve_right (fun h => h he3); have hm0 : x - ky = 0 := (by omega); rw [hm0] at hmanyy; exact hmanyy.done)
   have hfiny := list_fin hxx hcs2 hdy
   have gL := hfiny.2
   have ha : Ag pQC σ ⟨x9, y13, d16, ly⟩ := gA13.bind (g16.bind (gL.bind (Ag.pure _)))
   have hr : rstep pQC σ = rstep (pList pSigned 7) (rstep pDig (rstep pAt (σ))) := by rw [pQC, rstep_bind gA13, rstep_bind g16, rstep_bind gL, rstep_pure]
   rw [hr]; rw [hfiny.1]; intro w' hw; have hle := (hw.rowLe (e := 86) (size := 4) (a := ay) (m := ky) (c := cy) (xs := cssy.flatten) (by repeat (first | exact Pick.here | apply Pick.there))).1
   refine ⟨((.int .i64 (x9 : Int) :: .int .i64 (y13 : Int) :: (dc d16 ++ [.slice ay ky cy])), ⟨x9, y13, d16, ly⟩), rfl, St.pureI ⟨ha, by first | rfl | simp only [List.length_cons, List.length_append, List.length_nil, dc_length, len_L] , all_cons' rfl (all_cons' rfl (all_app' (dc_one _) (all_cons' rfl all_nil'))), r9, r13, hokly⟩ ?_⟩
   exact (hw.conv (M := [rowR 86 4 ay ky cy cssy.flatten, ElR RdSigned cssy ly]) (by repeat (first | exact Sel.nil | (apply Sel.cons; · (repeat (first | exact Pick.here | apply Pick.there))))) (fun _ _ hh => vl_qc hle (ls_of hcssy hh))).z
end
section
attribute [local irreducible] Gl Gc Gx Gs Runs Wt
theorem iblock_ok {w : World} {F : Nat → Prop} {g c : Nat} {a : Option Addr} {B : List UInt8} {σ : RSt} (h : stars [InR g a c B σ] w F) (hB : RdRow w (fun k => ¬ F k) 1 a B.length (B.map B8)) (hc : B.length ≤ c) (hl : B.length ≤ 40000)  :
    Calls Tryz.prog 42 #[.agg (List.toArray [.pointer (some ⟨g, 0, none⟩)])] w (Post w F (fun r : List Value × Block => .agg r.1.toArray) (fun r => [pureR (Ag pBlock σ r.2 ∧ r.1.length = 39 ∧ (∀ v ∈ r.1, v.oneCell' = true) ∧ OkBlock r.2), VlR RdBlock r.1 r.2, InR g a c B (rstep pBlock σ)])) := by
 refine g_enter (env := [(0, .agg (List.toArray [.pointer (some ⟨g, 0, none⟩)]))]) Tryz.func42 rfl h Tryz.ntmps42 rfl rfl ?_; refine gsr (zbN fun b1 => ?_); refine zal fun b2 => ?_; refine gl_eqc (cs' := (.int .i64 0 :: .int .i64 0 :: (dc dig0 ++ ((.int .i64 0 :: .int .i64 0 :: (dc dig0 ++ [.slice none 0 0])) ++ [.slice none 0 0, .slice none 0 0])))) (by repeat (first | exact Pick.here | apply Pick.there)) (by kernel_rfl) ?_; refine zxs ?_; refine gp (r_build (cs := (.int .i64 0 :: .int .i64 0 :: (dc dig0 ++ ((.int .i64 0 :: .int .i64 0 :: (dc dig0 ++ [.slice none 0 0])) ++ [.slice none 0 0, .slice none 0 0])))) Ty.zc_45 Ty.pl_45 (by kernel_rfl)) ?_; refine zal fun b3 => ?_; refine gl_eqc (cs' := (.int .i64 0 :: .int .i64 0 :: (dc dig0 ++ ((.int .i64 0 :: .int .i64 0 :: (dc dig0 ++ [.slice none 0 0])) ++ [.slice none 0 0, .slice none 0 0])))) (by repeat (first | exact Pick.here | apply Pick.there)) (by kernel_rfl) ?_; refine zsA (new := (.int .i64 0 :: .int .i64 0 :: (dc dig0 ++ ((.int .i64 0 :: .int .i64 0 :: (dc dig0 ++ [.slice none 0 0])) ++ [.slice none 0 0, .slice none 0 0])))) (by first | rfl | simp only [List.length_cons, List.length_append, List.length_nil, dc_length, len_L]) (by repeat (first | exact all_nil' | exact dc_one _ | exact One.h | refine all_cons' rfl ?_ | refine all_app' (dc_one _) ?_ | refine all_app' One.h ?_)) ?_
 refine zxs ?_; refine gp zfa ?_; refine gp zl ?_; refine zc (fun x11 => ?_) (c := fun w1 F1 F2 h1 h2 hd hst => inum_ok (wd := 4) h1 (hB.mv hst.still) hc hl (by decide) (by decide))
 refine gl_pureR (fun hp11 => ?_)
 obtain ⟨g11, hn11⟩ := hp11; replace g11 : Ag (pNum 4) _ (x11 : Int) := g11
 have r11 : I64 (x11 : Int) := i64_num (wd := 4) (by decide) hn11
 refine gp zfa ?_; refine zs1 ?_; refine zxs ?_; refine gp zfa ?_; refine gp zl ?_; refine zc (fun y15 => ?_) (c := fun w1 F1 F2 h1 h2 hd hst => inum_ok (wd := 6) h1 (hB.mv hst.still) hc hl (by decide) (by decide))
 refine gl_pureR (fun hp15 => ?_)
 obtain ⟨g15, hn15⟩ := hp15; replace g15 : Ag (pNum 6) _ (y15 : Int) := g15
 have r15 : I64 (y15 : Int) := i64_num (wd := 6) (by decide) hn15
 have gA15 : Ag pAt σ ((x11 : Int), (y15 : Int)) := g11.bind (g15.bind (Ag.pure _))
 have rA15 : rstep pAt σ = rstep (pNum 6) (rstep (pNum 4) σ) := by rw [pAt, rstep_bind g11, rstep_bind g15, rstep_pure]
 rw [← rA15]; refine gp zfa ?_; refine zs1 ?_; refine zxs ?_; refine gp zL ?_; refine zc (fun d18 => ?_) (c := fun w1 F1 F2 h1 h2 hd hst => idigest_ok h1 (hB.mv hst.still) hc hl)
 refine gl_pureR (fun g18 => ?_)
 replace g18 : Ag pDig _ d18 := g18
 refine gp zfa ?_; refine zsN ?_; refine zxs ?_; refine gp zL ?_; refine zc ?_ (c := fun w1 F1 F2 h1 h2 hd hst => iqc_ok h1 (hB.mv hst.still) hc hl)
 rintro ⟨q21, v21⟩
 refine gl_pureR (fun hp21 => ?_)
 obtain ⟨g21, z21, o21, k21⟩ := hp21; replace k21 : OkQC v21 := k21
 replace z21 : q21.length = _ := z21
 replace g21 : Ag pQC _ v21 := g21
 have i21 := Len.of z21
 have j21 := One.of (show ∀ v ∈ q21, v.oneCell' = true from o21)
 refine gp zfa ?_; refine zsN ?_; refine zxs ?_; refine gp zfa ?_; refine gp zl ?_; refine zc ?_ (c := fun w1 F1 F2 h1 h2 hd hst => imany_ok (most := 4) h1 (hB.mv hst.still) hc hl (by decide))
 rintro ⟨vx, x⟩
 refine gl_pureR (fun hp25 => ?_)
 obtain ⟨hxx, hvx, hwx⟩ := hp25; replace hxx : Ag (pNum 1) _ (x : Int) := hxx
 replace hvx : vx = x ∨ errOf (mSt 4 _ x) ≠ 0 := hvx
 replace hwx : vx ≤ 255 := hwx
 refine zxa ?_; refine gnt (gc_seq (gsr (zxa ?_))); refine gnt (gc_block (gc_loop (α := Nat × RSt × Option Addr × Nat × List (List Value) × List (List UInt8)) (fun y => [pureR (y.1 ≤ vx ∧ (vx = x ∨ errOf y.2.1 ≠ 0) ∧ Many (pBytes 16) x (mSt 4 (rstep pQC (rstep pDig (rstep pAt σ))) x) (x - y.1) y.2.1 y.2.2.2.2.2 ∧ (∀ c ∈ y.2.2.2.2.1, c.length = 1 ∧ ∀ v ∈ c, v.oneCell' = true) ∧ y.2.2.2.2.2.length = y.1 ∧ ∀ x ∈ y.2.2.2.2.2, (fun _ : (List UInt8) => True) x), rowR 49 1 y.2.2.1 y.1 y.2.2.2.1 y.2.2.2.2.1.flatten, ElR (RdBytes) y.2.2.2.2.1 y.2.2.2.2.2, blk b3 45 (.int .i64 (x11 : Int) :: .int .i64 (y15 : Int) :: (dc d18 ++ (q21 ++ [.slice y.2.2.1 y.1 y.2.2.2.1, .slice none 0 0]))), blk b1 114 [.pointer (some ⟨g, 0, none⟩)], blk b2 45 (.int .i64 0 :: .int .i64 0 :: (dc dig0 ++ ((.int .i64 0 :: .int .i64 0 :: (dc dig0 ++ [.slice none 0 0])) ++ [.slice none 0 0, .slice none 0 0]))), VlR RdQC q21 v21, InR g a c B y.2.1]) (fun y => [(5, .int .i64 (y.1 : Int))]) [26, 27, 28, 29, 30, 31, 32, 33, 34, 35, 36, 37, 38, 39, 40, 41, 42, 43, 44, 45, 46] (fun y => vx - y.1) (0, (mSt 4 (rstep pQC (rstep pDig (rstep pAt σ))) x), none, 0, [], []) ?_ ?_ ?_))
 ·refine env_start (by kernel_rfl)
 ·exact fun w' hw => zlp ⟨Nat.zero_le _, hvx, Many.start, (by intro c hc; cases hc), rfl, (by intro x hx; cases hx)⟩ (by repeat (first | exact Sel.nil | (apply Sel.cons; · (repeat (first | exact Pick.here | apply Pick.there))))) w' (hw.mapL fun F' hF' => stars_row_nil (e := 49) (size := 1) (el_nil (rd := RdBytes) hF'))
 ·intro y u; obtain ⟨ky, τy, ay, cy, cssy, ly⟩ := y; refine gc_pureR (fun hk => ?_)
  obtain ⟨hky, hvxy, hmanyy, hcs0, hlly, hokly⟩ := hk; replace hokly : ∀ x ∈ ly, (fun _ : (List UInt8) => True) x := hokly
  replace hky : ky ≤ vx := hky
  replace hlly : ly.length = ky := hlly
  have hcs1y : ∀ c ∈ cssy, ∀ v ∈ c, v.oneCell' = true := fun c hc => (hcs0 c hc).2
  have hcssy : ∀ c ∈ cssy, c.length = 1 := fun c hc => (hcs0 c hc).1
  replace hvxy : vx = x ∨ errOf τy ≠ 0 := hvxy
  replace hmanyy : Many (pBytes 16) x (mSt 4 (rstep pQC (rstep pDig (rstep pAt σ))) x) (x - ky) τy ly := hmanyy
  refine gc_seq (gc_seq ?_); by_cases hkxy : ky < vx
  ·refine gc_region (zxm ?_); refine zxm ?_; refine gp (r_bool (c := true) zlt (decide_eq_true (by omega))) ?_; refine zxm ?_; refine gq zfa ?_; refine gq zl ?_; refine gq znc ?_; refine gq zfa ?_; refine gq (r_inerr rfl Ty.row_3 (by repeat (first | exact Pick.here | apply Pick.there))) ?_; refine gq zei ?_; refine gp zpk ?_; refine gnt (gif rfl (fun hc36 => ?_) (fun hc36 => ?_))
   ·try simp only at hc36
    have he2 : errOf τy = 0 := by omega
    have hvq : vx = x := hvxy.resolve_right (fun h => h he2)
    refine gc_skip (gx_then (gc_seq (gc_block (gc_regionZ 8 ([blk b1 114 [.pointer (some ⟨g, 0, none⟩)], blk b3 45 (.int .i64 (x11 : Int) :: .int .i64 (y15 : Int) :: (dc d18 ++ (q21 ++ [.slice ay ky cy, .slice none 0 0])))]) ?_)))); refine yps 0 rfl zfa ?_; refine yps 1 rfl zl ?_; refine yps 2 rfl zfa ?_; refine yps 3 rfl zl ?_; refine yos 4 rfl ?_; refine zc ?_ (c := fun w1 F1 F2 h1 h2 hd hst => ibytes_ok (most := 16) h1 (hB.mv hst.still) hc hl (by decide))
    rintro ⟨a43, c43, v⟩
    refine gl_pureR (fun hag => ?_)
    obtain ⟨hag, _⟩ := hag; replace hag : Ag (pBytes 16) _ v := hag
    refine gl_cz (M := [rowR 5 1 a43 v.length c43 (v.map B8)]) (N := [VlR RdBytes [.slice a43 v.length c43] v]) (fun _ _ => vl_bytes) ?_; obtain ⟨cs, hcs⟩ : ∃ cs : List Value, cs = [.slice a43 v.length c43] := ⟨_, rfl⟩; have hcl : cs.length = 1 := by rw [hcs]; rfl
    have hco : ∀ v ∈ cs, v.oneCell' = true := by rw [hcs]; exact all_cons' rfl all_nil'
    have hok : (fun _ : List UInt8 => True) v := trivial
    have i1 := Len.of hcl
    have i2 := One.of hco
    refine yxs ?_; refine yos 5 rfl ?_; refine ze1 fun b44 => ?_; rw [← hcs]; refine yxs ?_; refine yos 6 rfl ?_; refine zapo (news := cs) (fun a45 c45 => ?_)
    refine yxs ?_; refine yps 7 rfl zfa ?_; refine yzs rfl ?_; refine zs1 ?_; refine gl_nil (gx_block_normal (gx_then (gc_region (zxm ?_)))); refine gp zad ?_; refine zxa ?_; refine gl_nil (zrd ((ky + 1, rstep (pBytes 16) τy, a45, c45, cssy ++ [cs], ly ++ [v])) ?_ ?_)
    ·show vx - (ky + 1) < vx - ky
     omega
    ·rintro w' hw
     have h1 := hw.conv (M := [ElR (RdBytes) cssy ly, VlR (RdBytes) cs v]) (by repeat (first | exact Sel.nil | (apply Sel.cons; · (repeat (first | exact Pick.here | apply Pick.there))))) (fun _ _ => el_snoc)
     refine zlq (M' := [rowR 49 1 a45 (ky + 1) c45 (cssy.flatten ++ cs), ElR (RdBytes) (cssy ++ [cs]) (ly ++ [v]), blk b3 45 (.int .i64 (x11 : Int) :: .int .i64 (y15 : Int) :: (dc d18 ++ (q21 ++ [.slice a45 (ky + 1) c45, .slice none 0 0]))), blk b1 114 [.pointer (some ⟨g, 0, none⟩)], blk b2 45 (.int .i64 0 :: .int .i64 0 :: (dc dig0 ++ ((.int .i64 0 :: .int .i64 0 :: (dc dig0 ++ [.slice none 0 0])) ++ [.slice none 0 0, .slice none 0 0]))), VlR RdQC q21 v21, InR g a c B (rstep (pBytes 16) τy)]) ⟨?_, ?_, ?_, ?_, ?_, ?_⟩ (by simp) (by repeat (first | exact Sel.nil | (apply Sel.cons; · (repeat (first | exact Pick.here | apply Pick.there))))) w' h1
     ·show ky + 1 ≤ vx; omega
     ·exact .inl hvq
     ·rw [show x - ky = x - (ky + 1) + 1 by omega] at hmanyy; exact hmanyy.next hag
     ·intro c' hc'; rcases List.mem_append.1 hc' with h | h; exact ⟨hcssy c' h, hcs1y c' h⟩; rw [List.mem_singleton.1 h]; exact ⟨hcl, hco⟩
     ·simp [hlly]
     ·intro x hx; rcases List.mem_append.1 hx with h | h; exact hokly x h; (have e := List.mem_singleton.1 h; subst e; exact hok)
   ·try simp only at hc36
    have he2 : ¬ errOf τy = 0 := by omega
    refine gc_exit ?_; refine gx_then_exit ?_; refine gx_round_exit ?_; refine gx_block_hit ?_; refine gx_then (gsr ?_); have hcs2 : (if errOf (rstep (pNum 1) (rstep pQC (rstep pDig (rstep pAt σ)))) = 0 ∧ 4 < x then failE 1 (rstep (pNum 1) (rstep pQC (rstep pDig (rstep pAt σ)))) else rstep (pNum 1) (rstep pQC (rstep pDig (rstep pAt σ)))) = mSt 4 (rstep pQC (rstep pDig (rstep pAt σ))) x := rfl
    have hdy : rstep (pMany (pBytes 16) x) (mSt 4 (rstep pQC (rstep pDig (rstep pAt σ))) x) = τy ∧ Ag (pMany (pBytes 16) x) (mSt 4 (rstep pQC (rstep pDig (rstep pAt σ))) x) ly := by by_cases he3 : errOf τy = 0 <;> first | (have hb := hmanyy.bad he3; exact ⟨hb.1, hb.2 _⟩) | (have hvq := hvxy.resolve_right (fun h => h he3); have hm0 : x - ky = 0 := (by omega); rw [hm0] at hmanyy; exact hmanyy.done)
    have hfiny := list_fin hxx hcs2 hdy
    have gP : Ag (pList (pBytes 16) 4) _ ly := hfiny.2
    refine gl_fact (p := ky ≤ cy) (fun w hw => (hw.rowLe (e := 49) (size := 1) (a := ay) (m := ky) (c := cy) (xs := cssy.flatten) (by repeat (first | exact Pick.here | apply Pick.there))).1) (fun hley => ?_)
    refine gl_cz (M := [rowR 49 1 ay ky cy cssy.flatten, ElR RdBytes cssy ly]) (N := [LsR RdBytes 1 ay ky ly]) (fun _ _ => ls_of hcssy) ?_; rw [← hfiny.1]; refine gp zfa ?_; refine gp zl ?_; refine zc ?_ (c := fun w1 F1 F2 h1 h2 hd hst => imany_ok (most := 7) h1 (hB.mv hst.still) hc hl (by decide))
    rintro ⟨vu2, u2⟩
    refine gl_pureR (fun hp49 => ?_)
    obtain ⟨hxu2, hvu2, hwu2⟩ := hp49; replace hxu2 : Ag (pNum 1) _ (u2 : Int) := hxu2
    replace hvu2 : vu2 = u2 ∨ errOf (mSt 7 _ u2) ≠ 0 := hvu2
    replace hwu2 : vu2 ≤ 255 := hwu2
    refine zxa ?_; refine gnt (gc_seq (gsr (zxa ?_))); refine gnt (gc_block (gc_loop (α := Nat × RSt × Option Addr × Nat × List (List Value) × List Vdr) (fun y => [pureR (y.1 ≤ vu2 ∧ (vu2 = u2 ∨ errOf y.2.1 ≠ 0) ∧ Many pVdr u2 (mSt 7 (rstep (pList (pBytes 16) 4) (rstep pQC (rstep pDig (rstep pAt σ)))) u2) (u2 - y.1) y.2.1 y.2.2.2.2.2 ∧ (∀ c ∈ y.2.2.2.2.1, c.length = 17 ∧ ∀ v ∈ c, v.oneCell' = true) ∧ y.2.2.2.2.2.length = y.1 ∧ ∀ x ∈ y.2.2.2.2.2, OkVdr x), rowR 152 17 y.2.2.1 y.1 y.2.2.2.1 y.2.2.2.2.1.flatten, ElR (fun _ _ => RdVdr) y.2.2.2.2.1 y.2.2.2.2.2, blk b3 45 (.int .i64 (x11 : Int) :: .int .i64 (y15 : Int) :: (dc d18 ++ (q21 ++ [.slice ay ky cy, .slice y.2.2.1 y.1 y.2.2.2.1]))), blk b1 114 [.pointer (some ⟨g, 0, none⟩)], blk b2 45 (.int .i64 0 :: .int .i64 0 :: (dc dig0 ++ ((.int .i64 0 :: .int .i64 0 :: (dc dig0 ++ [.slice none 0 0])) ++ [.slice none 0 0, .slice none 0 0]))), VlR RdQC q21 v21, LsR RdBytes 1 ay ky ly, InR g a c B y.2.1]) (fun y => [(6, .int .i64 (y.1 : Int))]) [7, 50, 51, 52, 53, 54, 55, 56, 57, 58, 59, 60, 61, 62, 63, 64, 65, 66, 67, 68, 69, 70, 71, 72, 73, 74, 75, 76] (fun y => vu2 - y.1) (0, (mSt 7 (rstep (pList (pBytes 16) 4) (rstep pQC (rstep pDig (rstep pAt σ)))) u2), none, 0, [], []) ?_ ?_ ?_))
    ·refine env_start (by kernel_rfl)
    ·exact fun w' hw => zlp ⟨Nat.zero_le _, hvu2, Many.start, (by intro c hc; cases hc), rfl, (by intro x hx; cases hx)⟩ (by repeat (first | exact Sel.nil | (apply Sel.cons; · (repeat (first | exact Pick.here | apply Pick.there))))) w' (hw.mapL fun F' hF' => stars_row_nil (e := 152) (size := 17) (el_nil (rd := fun _ _ => RdVdr) hF'))
    ·intro y u; obtain ⟨kz, τz, az, cz, cssz, lz⟩ := y; refine gc_pureR (fun hk => ?_)
     obtain ⟨hkz, hvxz, hmanyz, hcs0, hllz, hoklz⟩ := hk; replace hoklz : ∀ x ∈ lz, OkVdr x := hoklz
     replace hkz : kz ≤ vu2 := hkz
     replace hllz : lz.length = kz := hllz
     have hcs1z : ∀ c ∈ cssz, ∀ v ∈ c, v.oneCell' = true := fun c hc => (hcs0 c hc).2
     have hcssz : ∀ c ∈ cssz, c.length = 17 := fun c hc => (hcs0 c hc).1
     replace hvxz : vu2 = u2 ∨ errOf τz ≠ 0 := hvxz
     replace hmanyz : Many pVdr u2 (mSt 7 (rstep (pList (pBytes 16) 4) (rstep pQC (rstep pDig (rstep pAt σ)))) u2) (u2 - kz) τz lz := hmanyz
     refine gc_seq (gc_seq ?_); by_cases hkxz : kz < vu2
     ·refine gc_region (zxm ?_); refine zxm ?_; refine gp (r_bool (c := true) zlt (decide_eq_true (by omega))) ?_; refine zxm ?_; refine gq zfa ?_; refine gq zl ?_; refine gq znc ?_; refine gq zfa ?_; refine gq (r_inerr rfl Ty.row_3 (by repeat (first | exact Pick.here | apply Pick.there))) ?_; refine gq zei ?_; refine gp zpk ?_; refine gnt (gif rfl (fun hc60 => ?_) (fun hc60 => ?_))
      ·try simp only at hc60
       have he2 : errOf τz = 0 := by omega
       have hvq : vu2 = u2 := hvxz.resolve_right (fun h => h he2)
       refine gc_skip (gx_then (gc_seq (gc_block (gsr (gp (r_build (cs := (dc dig0 ++ [.int .i64 0])) Ty.zc_152 Ty.pl_152 (by kernel_rfl)) ?_))))); refine zal fun b7 => ?_; refine gl_eqc (cs' := (dc dig0 ++ [.int .i64 0])) (by repeat (first | exact Pick.here | apply Pick.there)) (by kernel_rfl) ?_; refine zsA (new := (dc dig0 ++ [.int .i64 0])) (by first | rfl | simp only [List.length_cons, List.length_append, List.length_nil, dc_length, len_L]) (by repeat (first | exact all_nil' | exact dc_one _ | exact One.h | refine all_cons' rfl ?_ | refine all_app' (dc_one _) ?_ | refine all_app' One.h ?_)) ?_
       refine zxs ?_; refine gp zL ?_; refine zc (fun d65 => ?_) (c := fun w1 F1 F2 h1 h2 hd hst => idigest_ok h1 (hB.mv hst.still) hc hl)
       refine gl_pureR (fun g65 => ?_)
       replace g65 : Ag pDig _ d65 := g65
       refine gp zfa ?_; refine zsN ?_; refine zxs ?_; refine gp zfa ?_; refine gp zl ?_; refine zc (fun y69 => ?_) (c := fun w1 F1 F2 h1 h2 hd hst => inum_ok (wd := 6) h1 (hB.mv hst.still) hc hl (by decide) (by decide))
       refine gl_pureR (fun hp69 => ?_)
       obtain ⟨g69, hn69⟩ := hp69; replace g69 : Ag (pNum 6) _ (y69 : Int) := g69
       have r69 : I64 (y69 : Int) := i64_num (wd := 6) (by decide) hn69
       refine gp zfa ?_; refine zs1 ?_; refine gnt (gc_region (gp zfa ?_)); refine gp zl ?_; refine gp (zLa (cs := dc d65 ++ [.int .i64 (y69 : Int)])) ?_; obtain ⟨cs, hcs⟩ : ∃ cs, cs = dc d65 ++ [.int .i64 (y69 : Int)] := ⟨_, rfl⟩; obtain ⟨v, hv⟩ : ∃ v : Vdr, v = ⟨d65, y69⟩ := ⟨_, rfl⟩; have hcl : cs.length = 17 := by rw [hcs]; simp [dc_length]
       have hco : ∀ v ∈ cs, v.oneCell' = true := by rw [hcs]; exact all_app' (dc_one _) (all_cons' rfl all_nil')
       have hok : OkVdr v := by rw [hv]; exact r69
       have hag : Ag pVdr τz v := by rw [hv]; exact g65.bind (g69.bind (Ag.pure _))
       have hre : rstep pVdr τz = rstep (pNum 6) (rstep pDig τz) := by rw [pVdr, rstep_bind g65, rstep_bind g69, rstep_pure]
       rw [← hre, ← hcs]; have i1 := Len.of hcl
       have i2 := One.of hco
       refine gl_conv (M := []) (N := [VlR (fun _ _ => RdVdr) cs v]) Sel.nil (fun w F hF => vl_pure (show RdVdr cs v by rw [hcs, hv]; rfl) hF) ?_; refine zeN fun b74 => ?_; refine zapo (news := cs) (fun a75 c75 => ?_)
       refine gp zfa ?_; refine zs1 ?_; refine gl_nil (gx_block_normal (gx_then (gc_region (zxm ?_)))); refine gp zad ?_; refine zxa ?_; refine gl_nil (zrd ((kz + 1, rstep pVdr τz, a75, c75, cssz ++ [cs], lz ++ [v])) ?_ ?_)
       ·show vu2 - (kz + 1) < vu2 - kz
        omega
       ·rintro w' hw
        have h1 := hw.conv (M := [ElR (fun _ _ => RdVdr) cssz lz, VlR (fun _ _ => RdVdr) cs v]) (by repeat (first | exact Sel.nil | (apply Sel.cons; · (repeat (first | exact Pick.here | apply Pick.there))))) (fun _ _ => el_snoc)
        refine zlq (M' := [rowR 152 17 a75 (kz + 1) c75 (cssz.flatten ++ cs), ElR (fun _ _ => RdVdr) (cssz ++ [cs]) (lz ++ [v]), blk b3 45 (.int .i64 (x11 : Int) :: .int .i64 (y15 : Int) :: (dc d18 ++ (q21 ++ [.slice ay ky cy, .slice a75 (kz + 1) c75]))), blk b1 114 [.pointer (some ⟨g, 0, none⟩)], blk b2 45 (.int .i64 0 :: .int .i64 0 :: (dc dig0 ++ ((.int .i64 0 :: .int .i64 0 :: (dc dig0 ++ [.slice none 0 0])) ++ [.slice none 0 0, .slice none 0 0]))), VlR RdQC q21 v21, LsR RdBytes 1 ay ky ly, InR g a c B (rstep pVdr τz)]) ⟨?_, ?_, ?_, ?_, ?_, ?_⟩ (by simp) (by repeat (first | exact Sel.nil | (apply Sel.cons; · (repeat (first | exact Pick.here | apply Pick.there))))) w' h1
        ·show kz + 1 ≤ vu2; omega
        ·exact .inl hvq
        ·rw [show u2 - kz = u2 - (kz + 1) + 1 by omega] at hmanyz; exact hmanyz.next hag
        ·intro c' hc'; rcases List.mem_append.1 hc' with h | h; exact ⟨hcssz c' h, hcs1z c' h⟩; rw [List.mem_singleton.1 h]; exact ⟨hcl, hco⟩
        ·simp [hllz]
        ·intro x hx; rcases List.mem_append.1 hx with h | h; exact hoklz x h; (have e := List.mem_singleton.1 h; subst e; exact hok)
      ·try simp only at hc60
       have he2 : ¬ errOf τz = 0 := by omega
       refine gc_exit ?_; refine gx_then_exit ?_; refine gx_round_exit ?_; refine gx_block_hit ?_; refine gx_then (gsr (gp (zLa (cs := (.int .i64 (x11 : Int) :: .int .i64 (y15 : Int) :: (dc d18 ++ (q21 ++ [.slice ay ky cy, .slice az kz cz]))))) ?_)); refine zsA (new := (.int .i64 (x11 : Int) :: .int .i64 (y15 : Int) :: (dc d18 ++ (q21 ++ [.slice ay ky cy, .slice az kz cz])))) (by first | rfl | simp only [List.length_cons, List.length_append, List.length_nil, dc_length, len_L]) (by repeat (first | exact all_nil' | exact dc_one _ | exact One.h | refine all_cons' rfl ?_ | refine all_app' (dc_one _) ?_ | refine all_app' One.h ?_)) ?_
       refine gnt (gc_ret (gx_retc rfl rfl (ldA Ty.row_45 Ty.sz_45) ?_)); have hcs2 : (if errOf (rstep (pNum 1) (rstep (pList (pBytes 16) 4) (rstep pQC (rstep pDig (rstep pAt σ))))) = 0 ∧ 7 < u2 then failE 1 (rstep (pNum 1) (rstep (pList (pBytes 16) 4) (rstep pQC (rstep pDig (rstep pAt σ))))) else rstep (pNum 1) (rstep (pList (pBytes 16) 4) (rstep pQC (rstep pDig (rstep pAt σ))))) = mSt 7 (rstep (pList (pBytes 16) 4) (rstep pQC (rstep pDig (rstep pAt σ)))) u2 := rfl
       have hdz : rstep (pMany pVdr u2) (mSt 7 (rstep (pList (pBytes 16) 4) (rstep pQC (rstep pDig (rstep pAt σ)))) u2) = τz ∧ Ag (pMany pVdr u2) (mSt 7 (rstep (pList (pBytes 16) 4) (rstep pQC (rstep pDig (rstep pAt σ)))) u2) lz := by by_cases he3 : errOf τz = 0 <;> first | (have hb := hmanyz.bad he3; exact ⟨hb.1, hb.2 _⟩) | (have hvq := hvxz.resolve_right (fun h => h he3); have hm0 : u2 - kz = 0 := (by omega); rw [hm0] at hmanyz; exact hmanyz.done)
       have hfinz := list_fin hxu2 hcs2 hdz
       have gV : Ag (pList pVdr 7) _ lz := hfinz.2
       have ha : Ag pBlock σ ⟨x11, y15, d18, v21, ly, lz⟩ := gA15.bind (g18.bind (g21.bind (gP.bind (gV.bind (Ag.pure _)))))
       have hr : rstep pBlock σ = rstep (pList pVdr 7) (rstep (pList (pBytes 16) 4) (rstep pQC (rstep pDig (rstep pAt (σ))))) := by rw [pBlock, rstep_bind gA15, rstep_bind g18, rstep_bind g21, rstep_bind gP, rstep_bind gV, rstep_pure]
       rw [hr]; rw [hfinz.1]; intro w' hw; have hle := (hw.rowLe (e := 152) (size := 17) (a := az) (m := kz) (c := cz) (xs := cssz.flatten) (by repeat (first | exact Pick.here | apply Pick.there))).1
       refine ⟨((.int .i64 (x11 : Int) :: .int .i64 (y15 : Int) :: (dc d18 ++ (q21 ++ [.slice ay ky cy, .slice az kz cz]))), ⟨x11, y15, d18, v21, ly, lz⟩), rfl, St.pureI ⟨ha, by simp only [List.length_cons, List.length_append, List.length_nil, dc_length, len_L], all_cons' rfl (all_cons' rfl (all_app' (dc_one _) (all_app' o21 (all_cons' rfl (all_cons' rfl all_nil'))))), r11, r15, k21, hoklz⟩ ?_⟩
       have h2 := hw.cz (M := [rowR 152 17 az kz cz cssz.flatten, ElR (fun _ _ => RdVdr) cssz lz]) (N := [LsR (fun _ _ => RdVdr) 17 az kz lz]) (fun _ _ => ls_of hcssz)
       exact (h2.conv (M := [VlR RdQC q21 v21, LsR RdBytes 1 ay ky ly, LsR (fun _ _ => RdVdr) 17 az kz lz]) (by repeat (first | exact Sel.nil | (apply Sel.cons; · (repeat (first | exact Pick.here | apply Pick.there))))) (fun _ _ => vl_block hley hle)).z
     ·refine gc_region (zxm ?_); refine zxm ?_; refine gp (r_bool (c := false) zlt (decide_eq_false (by omega))) ?_; refine zxm ?_; refine gn ?_; refine gn ?_; refine gn ?_; refine gn ?_; refine gn ?_; refine gn ?_; refine gp zpk ?_; refine gnt (gc_condF rfl rfl ?_); refine gc_exit ?_; refine gx_then_exit ?_; refine gx_round_exit ?_; refine gx_block_hit ?_; refine gx_then (gsr (gp (zLa (cs := (.int .i64 (x11 : Int) :: .int .i64 (y15 : Int) :: (dc d18 ++ (q21 ++ [.slice ay ky cy, .slice az kz cz]))))) ?_)); refine zsA (new := (.int .i64 (x11 : Int) :: .int .i64 (y15 : Int) :: (dc d18 ++ (q21 ++ [.slice ay ky cy, .slice az kz cz])))) (by first | rfl | simp only [List.length_cons, List.length_append, List.length_nil, dc_length, len_L]) (by repeat (first | exact all_nil' | exact dc_one _ | exact One.h | refine all_cons' rfl ?_ | refine all_app' (dc_one _) ?_ | refine all_app' One.h ?_)) ?_
      refine gnt (gc_ret (gx_retc rfl rfl (ldA Ty.row_45 Ty.sz_45) ?_)); have hcs2 : (if errOf (rstep (pNum 1) (rstep (pList (pBytes 16) 4) (rstep pQC (rstep pDig (rstep pAt σ))))) = 0 ∧ 7 < u2 then failE 1 (rstep (pNum 1) (rstep (pList (pBytes 16) 4) (rstep pQC (rstep pDig (rstep pAt σ))))) else rstep (pNum 1) (rstep (pList (pBytes 16) 4) (rstep pQC (rstep pDig (rstep pAt σ))))) = mSt 7 (rstep (pList (pBytes 16) 4) (rstep pQC (rstep pDig (rstep pAt σ)))) u2 := rfl
      have hdz : rstep (pMany pVdr u2) (mSt 7 (rstep (pList (pBytes 16) 4) (rstep pQC (rstep pDig (rstep pAt σ)))) u2) = τz ∧ Ag (pMany pVdr u2) (mSt 7 (rstep (pList (pBytes 16) 4) (rstep pQC (rstep pDig (rstep pAt σ)))) u2) lz := by by_cases he3 : errOf τz = 0 <;> first | (have hb := hmanyz.bad he3; exact ⟨hb.1, hb.2 _⟩) | (have hvq := hvxz.resolve_right (fun h => h he3); have hm0 : u2 - kz = 0 := (by omega); rw [hm0] at hmanyz; exact hmanyz.done)
      have hfinz := list_fin hxu2 hcs2 hdz
      have gV : Ag (pList pVdr 7) _ lz := hfinz.2
      have ha : Ag pBlock σ ⟨x11, y15, d18, v21, ly, lz⟩ := gA15.bind (g18.bind (g21.bind (gP.bind (gV.bind (Ag.pure _)))))
      have hr : rstep pBlock σ = rstep (pList pVdr 7) (rstep (pList (pBytes 16) 4) (rstep pQC (rstep pDig (rstep pAt (σ))))) := by rw [pBlock, rstep_bind gA15, rstep_bind g18, rstep_bind g21, rstep_bind gP, rstep_bind gV, rstep_pure]
      rw [hr]; rw [hfinz.1]; intro w' hw; have hle := (hw.rowLe (e := 152) (size := 17) (a := az) (m := kz) (c := cz) (xs := cssz.flatten) (by repeat (first | exact Pick.here | apply Pick.there))).1
      refine ⟨((.int .i64 (x11 : Int) :: .int .i64 (y15 : Int) :: (dc d18 ++ (q21 ++ [.slice ay ky cy, .slice az kz cz]))), ⟨x11, y15, d18, v21, ly, lz⟩), rfl, St.pureI ⟨ha, by simp only [List.length_cons, List.length_append, List.length_nil, dc_length, len_L], all_cons' rfl (all_cons' rfl (all_app' (dc_one _) (all_app' o21 (all_cons' rfl (all_cons' rfl all_nil'))))), r11, r15, k21, hoklz⟩ ?_⟩
      have h2 := hw.cz (M := [rowR 152 17 az kz cz cssz.flatten, ElR (fun _ _ => RdVdr) cssz lz]) (N := [LsR (fun _ _ => RdVdr) 17 az kz lz]) (fun _ _ => ls_of hcssz)
      exact (h2.conv (M := [VlR RdQC q21 v21, LsR RdBytes 1 ay ky ly, LsR (fun _ _ => RdVdr) 17 az kz lz]) (by repeat (first | exact Sel.nil | (apply Sel.cons; · (repeat (first | exact Pick.here | apply Pick.there))))) (fun _ _ => vl_block hley hle)).z
  ·refine gc_region (zxm ?_); refine zxm ?_; refine gp (r_bool (c := false) zlt (decide_eq_false (by omega))) ?_; refine zxm ?_; refine gn ?_; refine gn ?_; refine gn ?_; refine gn ?_; refine gn ?_; refine gn ?_; refine gp zpk ?_; refine gnt (gc_condF rfl rfl ?_); refine gc_exit ?_; refine gx_then_exit ?_; refine gx_round_exit ?_; refine gx_block_hit ?_; refine gx_then (gsr ?_); have hcs2 : (if errOf (rstep (pNum 1) (rstep pQC (rstep pDig (rstep pAt σ)))) = 0 ∧ 4 < x then failE 1 (rstep (pNum 1) (rstep pQC (rstep pDig (rstep pAt σ)))) else rstep (pNum 1) (rstep pQC (rstep pDig (rstep pAt σ)))) = mSt 4 (rstep pQC (rstep pDig (rstep pAt σ))) x := rfl
   have hdy : rstep (pMany (pBytes 16) x) (mSt 4 (rstep pQC (rstep pDig (rstep pAt σ))) x) = τy ∧ Ag (pMany (pBytes 16) x) (mSt 4 (rstep pQC (rstep pDig (rstep pAt σ))) x) ly := by by_cases he3 : errOf τy = 0 <;> first | (have hb := hmanyy.bad he3; exact ⟨hb.1, hb.2 _⟩) | (have hvq := hvxy.resolve_right (fun h => h he3); have hm0 : x - ky = 0 := (by omega); rw [hm0] at hmanyy; exact hmanyy.done)
   have hfiny := list_fin hxx hcs2 hdy
   have gP : Ag (pList (pBytes 16) 4) _ ly := hfiny.2
   refine gl_fact (p := ky ≤ cy) (fun w hw => (hw.rowLe (e := 49) (size := 1) (a := ay) (m := ky) (c := cy) (xs := cssy.flatten) (by repeat (first | exact Pick.here | apply Pick.there))).1) (fun hley => ?_)
   refine gl_cz (M := [rowR 49 1 ay ky cy cssy.flatten, ElR RdBytes cssy ly]) (N := [LsR RdBytes 1 ay ky ly]) (fun _ _ => ls_of hcssy) ?_; rw [← hfiny.1]; refine gp zfa ?_; refine gp zl ?_; refine zc ?_ (c := fun w1 F1 F2 h1 h2 hd hst => imany_ok (most := 7) h1 (hB.mv hst.still) hc hl (by decide))
   rintro ⟨vu2, u2⟩
   refine gl_pureR (fun hp49 => ?_)
   obtain ⟨hxu2, hvu2, hwu2⟩ := hp49; replace hxu2 : Ag (pNum 1) _ (u2 : Int) := hxu2
   replace hvu2 : vu2 = u2 ∨ errOf (mSt 7 _ u2) ≠ 0 := hvu2
   replace hwu2 : vu2 ≤ 255 := hwu2
   refine zxa ?_; refine gnt (gc_seq (gsr (zxa ?_))); refine gnt (gc_block (gc_loop (α := Nat × RSt × Option Addr × Nat × List (List Value) × List Vdr) (fun y => [pureR (y.1 ≤ vu2 ∧ (vu2 = u2 ∨ errOf y.2.1 ≠ 0) ∧ Many pVdr u2 (mSt 7 (rstep (pList (pBytes 16) 4) (rstep pQC (rstep pDig (rstep pAt σ)))) u2) (u2 - y.1) y.2.1 y.2.2.2.2.2 ∧ (∀ c ∈ y.2.2.2.2.1, c.length = 17 ∧ ∀ v ∈ c, v.oneCell' = true) ∧ y.2.2.2.2.2.length = y.1 ∧ ∀ x ∈ y.2.2.2.2.2, OkVdr x), rowR 152 17 y.2.2.1 y.1 y.2.2.2.1 y.2.2.2.2.1.flatten, ElR (fun _ _ => RdVdr) y.2.2.2.2.1 y.2.2.2.2.2, blk b3 45 (.int .i64 (x11 : Int) :: .int .i64 (y15 : Int) :: (dc d18 ++ (q21 ++ [.slice ay ky cy, .slice y.2.2.1 y.1 y.2.2.2.1]))), blk b1 114 [.pointer (some ⟨g, 0, none⟩)], blk b2 45 (.int .i64 0 :: .int .i64 0 :: (dc dig0 ++ ((.int .i64 0 :: .int .i64 0 :: (dc dig0 ++ [.slice none 0 0])) ++ [.slice none 0 0, .slice none 0 0]))), VlR RdQC q21 v21, LsR RdBytes 1 ay ky ly, InR g a c B y.2.1]) (fun y => [(6, .int .i64 (y.1 : Int))]) [7, 50, 51, 52, 53, 54, 55, 56, 57, 58, 59, 60, 61, 62, 63, 64, 65, 66, 67, 68, 69, 70, 71, 72, 73, 74, 75, 76] (fun y => vu2 - y.1) (0, (mSt 7 (rstep (pList (pBytes 16) 4) (rstep pQC (rstep pDig (rstep pAt σ)))) u2), none, 0, [], []) ?_ ?_ ?_))
   ·refine env_start (by kernel_rfl)
   ·exact fun w' hw => zlp ⟨Nat.zero_le _, hvu2, Many.start, (by intro c hc; cases hc), rfl, (by intro x hx; cases hx)⟩ (by repeat (first | exact Sel.nil | (apply Sel.cons; · (repeat (first | exact Pick.here | apply Pick.there))))) w' (hw.mapL fun F' hF' => stars_row_nil (e := 152) (size := 17) (el_nil (rd := fun _ _ => RdVdr) hF'))
   ·intro y u; obtain ⟨kz, τz, az, cz, cssz, lz⟩ := y; refine gc_pureR (fun hk => ?_)
    obtain ⟨hkz, hvxz, hmanyz, hcs0, hllz, hoklz⟩ := hk; replace hoklz : ∀ x ∈ lz, OkVdr x := hoklz
    replace hkz : kz ≤ vu2 := hkz
    replace hllz : lz.length = kz := hllz
    have hcs1z : ∀ c ∈ cssz, ∀ v ∈ c, v.oneCell' = true := fun c hc => (hcs0 c hc).2
    have hcssz : ∀ c ∈ cssz, c.length = 17 := fun c hc => (hcs0 c hc).1
    replace hvxz : vu2 = u2 ∨ errOf τz ≠ 0 := hvxz
    replace hmanyz : Many pVdr u2 (mSt 7 (rstep (pList (pBytes 16) 4) (rstep pQC (rstep pDig (rstep pAt σ)))) u2) (u2 - kz) τz lz := hmanyz
    refine gc_seq (gc_seq ?_); by_cases hkxz : kz < vu2
    ·refine gc_region (zxm ?_); refine zxm ?_; refine gp (r_bool (c := true) zlt (decide_eq_true (by omega))) ?_; refine zxm ?_; refine gq zfa ?_; refine gq zl ?_; refine gq znc ?_; refine gq zfa ?_; refine gq (r_inerr rfl Ty.row_3 (by repeat (first | exact Pick.here | apply Pick.there))) ?_; refine gq zei ?_; refine gp zpk ?_; refine gnt (gif rfl (fun hc60 => ?_) (fun hc60 => ?_))
     ·try simp only at hc60
      have he2 : errOf τz = 0 := by omega
      have hvq : vu2 = u2 := hvxz.resolve_right (fun h => h he2)
      refine gc_skip (gx_then (gc_seq (gc_block (gsr (gp (r_build (cs := (dc dig0 ++ [.int .i64 0])) Ty.zc_152 Ty.pl_152 (by kernel_rfl)) ?_))))); refine zal fun b7 => ?_; refine gl_eqc (cs' := (dc dig0 ++ [.int .i64 0])) (by repeat (first | exact Pick.here | apply Pick.there)) (by kernel_rfl) ?_; refine zsA (new := (dc dig0 ++ [.int .i64 0])) (by first | rfl | simp only [List.length_cons, List.length_append, List.length_nil, dc_length, len_L]) (by repeat (first | exact all_nil' | exact dc_one _ | exact One.h | refine all_cons' rfl ?_ | refine all_app' (dc_one _) ?_ | refine all_app' One.h ?_)) ?_
      refine zxs ?_; refine gp zL ?_; refine zc (fun d65 => ?_) (c := fun w1 F1 F2 h1 h2 hd hst => idigest_ok h1 (hB.mv hst.still) hc hl)
      refine gl_pureR (fun g65 => ?_)
      replace g65 : Ag pDig _ d65 := g65
      refine gp zfa ?_; refine zsN ?_; refine zxs ?_; refine gp zfa ?_; refine gp zl ?_; refine zc (fun y69 => ?_) (c := fun w1 F1 F2 h1 h2 hd hst => inum_ok (wd := 6) h1 (hB.mv hst.still) hc hl (by decide) (by decide))
      refine gl_pureR (fun hp69 => ?_)
      obtain ⟨g69, hn69⟩ := hp69; replace g69 : Ag (pNum 6) _ (y69 : Int) := g69
      have r69 : I64 (y69 : Int) := i64_num (wd := 6) (by decide) hn69
      refine gp zfa ?_; refine zs1 ?_; refine gnt (gc_region (gp zfa ?_)); refine gp zl ?_; refine gp (zLa (cs := dc d65 ++ [.int .i64 (y69 : Int)])) ?_; obtain ⟨cs, hcs⟩ : ∃ cs, cs = dc d65 ++ [.int .i64 (y69 : Int)] := ⟨_, rfl⟩; obtain ⟨v, hv⟩ : ∃ v : Vdr, v = ⟨d65, y69⟩ := ⟨_, rfl⟩; have hcl : cs.length = 17 := by rw [hcs]; simp [dc_length]
      have hco : ∀ v ∈ cs, v.oneCell' = true := by rw [hcs]; exact all_app' (dc_one _) (all_cons' rfl all_nil')
      have hok : OkVdr v := by rw [hv]; exact r69
      have hag : Ag pVdr τz v := by rw [hv]; exact g65.bind (g69.bind (Ag.pure _))
      have hre : rstep pVdr τz = rstep (pNum 6) (rstep pDig τz) := by rw [pVdr, rstep_bind g65, rstep_bind g69, rstep_pure]
      rw [← hre, ← hcs]; have i1 := Len.of hcl
      have i2 := One.of hco
      refine gl_conv (M := []) (N := [VlR (fun _ _ => RdVdr) cs v]) Sel.nil (fun w F hF => vl_pure (show RdVdr cs v by rw [hcs, hv]; rfl) hF) ?_; refine zeN fun b74 => ?_; refine zapo (news := cs) (fun a75 c75 => ?_)
      refine gp zfa ?_; refine zs1 ?_; refine gl_nil (gx_block_normal (gx_then (gc_region (zxm ?_)))); refine gp zad ?_; refine zxa ?_; refine gl_nil (zrd ((kz + 1, rstep pVdr τz, a75, c75, cssz ++ [cs], lz ++ [v])) ?_ ?_)
      ·show vu2 - (kz + 1) < vu2 - kz
       omega
      ·rintro w' hw
       have h1 := hw.conv (M := [ElR (fun _ _ => RdVdr) cssz lz, VlR (fun _ _ => RdVdr) cs v]) (by repeat (first | exact Sel.nil | (apply Sel.cons; · (repeat (first | exact Pick.here | apply Pick.there))))) (fun _ _ => el_snoc)
       refine zlq (M' := [rowR 152 17 a75 (kz + 1) c75 (cssz.flatten ++ cs), ElR (fun _ _ => RdVdr) (cssz ++ [cs]) (lz ++ [v]), blk b3 45 (.int .i64 (x11 : Int) :: .int .i64 (y15 : Int) :: (dc d18 ++ (q21 ++ [.slice ay ky cy, .slice a75 (kz + 1) c75]))), blk b1 114 [.pointer (some ⟨g, 0, none⟩)], blk b2 45 (.int .i64 0 :: .int .i64 0 :: (dc dig0 ++ ((.int .i64 0 :: .int .i64 0 :: (dc dig0 ++ [.slice none 0 0])) ++ [.slice none 0 0, .slice none 0 0]))), VlR RdQC q21 v21, LsR RdBytes 1 ay ky ly, InR g a c B (rstep pVdr τz)]) ⟨?_, ?_, ?_, ?_, ?_, ?_⟩ (by simp) (by repeat (first | exact Sel.nil | (apply Sel.cons; · (repeat (first | exact Pick.here | apply Pick.there))))) w' h1
       ·show kz + 1 ≤ vu2; omega
       ·exact .inl hvq
       ·rw [show u2 - kz = u2 - (kz + 1) + 1 by omega] at hmanyz; exact hmanyz.next hag
       ·intro c' hc'; rcases List.mem_append.1 hc' with h | h; exact ⟨hcssz c' h, hcs1z c' h⟩; rw [List.mem_singleton.1 h]; exact ⟨hcl, hco⟩
       ·simp [hllz]
       ·intro x hx; rcases List.mem_append.1 hx with h | h; exact hoklz x h; (have e := List.mem_singleton.1 h; subst e; exact hok)
     ·try simp only at hc60
      have he2 : ¬ errOf τz = 0 := by omega
      refine gc_exit ?_; refine gx_then_exit ?_; refine gx_round_exit ?_; refine gx_block_hit ?_; refine gx_then (gsr (gp (zLa (cs := (.int .i64 (x11 : Int) :: .int .i64 (y15 : Int) :: (dc d18 ++ (q21 ++ [.slice ay ky cy, .slice az kz cz]))))) ?_)); refine zsA (new := (.int .i64 (x11 : Int) :: .int .i64 (y15 : Int) :: (dc d18 ++ (q21 ++ [.slice ay ky cy, .slice az kz cz])))) (by first | rfl | simp only [List.length_cons, List.length_append, List.length_nil, dc_length, len_L]) (by repeat (first | exact all_nil' | exact dc_one _ | exact One.h | refine all_cons' rfl ?_ | refine all_app' (dc_one _) ?_ | refine all_app' One.h ?_)) ?_
      refine gnt (gc_ret (gx_retc rfl rfl (ldA Ty.row_45 Ty.sz_45) ?_)); have hcs2 : (if errOf (rstep (pNum 1) (rstep (pList (pBytes 16) 4) (rstep pQC (rstep pDig (rstep pAt σ))))) = 0 ∧ 7 < u2 then failE 1 (rstep (pNum 1) (rstep (pList (pBytes 16) 4) (rstep pQC (rstep pDig (rstep pAt σ))))) else rstep (pNum 1) (rstep (pList (pBytes 16) 4) (rstep pQC (rstep pDig (rstep pAt σ))))) = mSt 7 (rstep (pList (pBytes 16) 4) (rstep pQC (rstep pDig (rstep pAt σ)))) u2 := rfl
      have hdz : rstep (pMany pVdr u2) (mSt 7 (rstep (pList (pBytes 16) 4) (rstep pQC (rstep pDig (rstep pAt σ)))) u2) = τz ∧ Ag (pMany pVdr u2) (mSt 7 (rstep (pList (pBytes 16) 4) (rstep pQC (rstep pDig (rstep pAt σ)))) u2) lz := by by_cases he3 : errOf τz = 0 <;> first | (have hb := hmanyz.bad he3; exact ⟨hb.1, hb.2 _⟩) | (have hvq := hvxz.resolve_right (fun h => h he3); have hm0 : u2 - kz = 0 := (by omega); rw [hm0] at hmanyz; exact hmanyz.done)
      have hfinz := list_fin hxu2 hcs2 hdz
      have gV : Ag (pList pVdr 7) _ lz := hfinz.2
      have ha : Ag pBlock σ ⟨x11, y15, d18, v21, ly, lz⟩ := gA15.bind (g18.bind (g21.bind (gP.bind (gV.bind (Ag.pure _)))))
      have hr : rstep pBlock σ = rstep (pList pVdr 7) (rstep (pList (pBytes 16) 4) (rstep pQC (rstep pDig (rstep pAt (σ))))) := by rw [pBlock, rstep_bind gA15, rstep_bind g18, rstep_bind g21, rstep_bind gP, rstep_bind gV, rstep_pure]
      rw [hr]; rw [hfinz.1]; intro w' hw; have hle := (hw.rowLe (e := 152) (size := 17) (a := az) (m := kz) (c := cz) (xs := cssz.flatten) (by repeat (first | exact Pick.here | apply Pick.there))).1
      refine ⟨((.int .i64 (x11 : Int) :: .int .i64 (y15 : Int) :: (dc d18 ++ (q21 ++ [.slice ay ky cy, .slice az kz cz]))), ⟨x11, y15, d18, v21, ly, lz⟩), rfl, St.pureI ⟨ha, by simp only [List.length_cons, List.length_append, List.length_nil, dc_length, len_L], all_cons' rfl (all_cons' rfl (all_app' (dc_one _) (all_app' o21 (all_cons' rfl (all_cons' rfl all_nil'))))), r11, r15, k21, hoklz⟩ ?_⟩
      have h2 := hw.cz (M := [rowR 152 17 az kz cz cssz.flatten, ElR (fun _ _ => RdVdr) cssz lz]) (N := [LsR (fun _ _ => RdVdr) 17 az kz lz]) (fun _ _ => ls_of hcssz)
      exact (h2.conv (M := [VlR RdQC q21 v21, LsR RdBytes 1 ay ky ly, LsR (fun _ _ => RdVdr) 17 az kz lz]) (by repeat (first | exact Sel.nil | (apply Sel.cons; · (repeat (first | exact Pick.here | apply Pick.there))))) (fun _ _ => vl_block hley hle)).z
    ·refine gc_region (zxm ?_); refine zxm ?_; refine gp (r_bool (c := false) zlt (decide_eq_false (by omega))) ?_; refine zxm ?_; refine gn ?_; refine gn ?_; refine gn ?_; refine gn ?_; refine gn ?_; refine gn ?_; refine gp zpk ?_; refine gnt (gc_condF rfl rfl ?_); refine gc_exit ?_; refine gx_then_exit ?_; refine gx_round_exit ?_; refine gx_block_hit ?_; refine gx_then (gsr (gp (zLa (cs := (.int .i64 (x11 : Int) :: .int .i64 (y15 : Int) :: (dc d18 ++ (q21 ++ [.slice ay ky cy, .slice az kz cz]))))) ?_)); refine zsA (new := (.int .i64 (x11 : Int) :: .int .i64 (y15 : Int) :: (dc d18 ++ (q21 ++ [.slice ay ky cy, .slice az kz cz])))) (by first | rfl | simp only [List.length_cons, List.length_append, List.length_nil, dc_length, len_L]) (by repeat (first | exact all_nil' | exact dc_one _ | exact One.h | refine all_cons' rfl ?_ | refine all_app' (dc_one _) ?_ | refine all_app' One.h ?_)) ?_
     refine gnt (gc_ret (gx_retc rfl rfl (ldA Ty.row_45 Ty.sz_45) ?_)); have hcs2 : (if errOf (rstep (pNum 1) (rstep (pList (pBytes 16) 4) (rstep pQC (rstep pDig (rstep pAt σ))))) = 0 ∧ 7 < u2 then failE 1 (rstep (pNum 1) (rstep (pList (pBytes 16) 4) (rstep pQC (rstep pDig (rstep pAt σ))))) else rstep (pNum 1) (rstep (pList (pBytes 16) 4) (rstep pQC (rstep pDig (rstep pAt σ))))) = mSt 7 (rstep (pList (pBytes 16) 4) (rstep pQC (rstep pDig (rstep pAt σ)))) u2 := rfl
     have hdz : rstep (pMany pVdr u2) (mSt 7 (rstep (pList (pBytes 16) 4) (rstep pQC (rstep pDig (rstep pAt σ)))) u2) = τz ∧ Ag (pMany pVdr u2) (mSt 7 (rstep (pList (pBytes 16) 4) (rstep pQC (rstep pDig (rstep pAt σ)))) u2) lz := by by_cases he3 : errOf τz = 0 <;> first | (have hb := hmanyz.bad he3; exact ⟨hb.1, hb.2 _⟩) | (have hvq := hvxz.resolve_right (fun h => h he3); have hm0 : u2 - kz = 0 := (by omega); rw [hm0] at hmanyz; exact hmanyz.done)
     have hfinz := list_fin hxu2 hcs2 hdz
     have gV : Ag (pList pVdr 7) _ lz := hfinz.2
     have ha : Ag pBlock σ ⟨x11, y15, d18, v21, ly, lz⟩ := gA15.bind (g18.bind (g21.bind (gP.bind (gV.bind (Ag.pure _)))))
     have hr : rstep pBlock σ = rstep (pList pVdr 7) (rstep (pList (pBytes 16) 4) (rstep pQC (rstep pDig (rstep pAt (σ))))) := by rw [pBlock, rstep_bind gA15, rstep_bind g18, rstep_bind g21, rstep_bind gP, rstep_bind gV, rstep_pure]
     rw [hr]; rw [hfinz.1]; intro w' hw; have hle := (hw.rowLe (e := 152) (size := 17) (a := az) (m := kz) (c := cz) (xs := cssz.flatten) (by repeat (first | exact Pick.here | apply Pick.there))).1
     refine ⟨((.int .i64 (x11 : Int) :: .int .i64 (y15 : Int) :: (dc d18 ++ (q21 ++ [.slice ay ky cy, .slice az kz cz]))), ⟨x11, y15, d18, v21, ly, lz⟩), rfl, St.pureI ⟨ha, by simp only [List.length_cons, List.length_append, List.length_nil, dc_length, len_L], all_cons' rfl (all_cons' rfl (all_app' (dc_one _) (all_app' o21 (all_cons' rfl (all_cons' rfl all_nil'))))), r11, r15, k21, hoklz⟩ ?_⟩
     have h2 := hw.cz (M := [rowR 152 17 az kz cz cssz.flatten, ElR (fun _ _ => RdVdr) cssz lz]) (N := [LsR (fun _ _ => RdVdr) 17 az kz lz]) (fun _ _ => ls_of hcssz)
     exact (h2.conv (M := [VlR RdQC q21 v21, LsR RdBytes 1 ay ky ly, LsR (fun _ _ => RdVdr) 17 az kz lz]) (by repeat (first | exact Sel.nil | (apply Sel.cons; · (repeat (first | exact Pick.here | apply Pick.there))))) (fun _ _ => vl_block hley hle)).z
end
section
def RdMap (w : World) (A : Nat → Prop) (g : Nat) (l : List (Value × Value)) : Prop := A g ∧ ∃ es clock, w.heap[g]? = some (.map es clock) ∧ kvs es = l
theorem RdMap.mv {w w' : World} {A A' : Nat → Prop} {g : Nat} {l : List (Value × Value)} (h : RdMap w A g l) (hk : ∀ k, k < w.heap.size → A k → w'.heap[k]? = w.heap[k]? ∧ A' k) : RdMap w' A' g l := by
  obtain ⟨hA, es, clock, hh, hkv⟩ := h
  have := hk g (Array.getElem?_eq_some_iff.1 hh).1 hA
  exact ⟨this.2, es, clock, this.1.trans hh, hkv⟩
theorem mapR.rd {g : Nat} {l : List (Value × Value)} {w : World} {F : Nat → Prop} (h : (mapR g l).on w F) : RdMap w F g l := by
  obtain ⟨hF, es, clock, hh, hk, _⟩ := h
  exact ⟨(hF g).2 rfl, es, clock, hh, hk⟩
section
variable {P : Program} {w0 : World} {F0 : Nat → Prop} {L : List Res} {Q : Exit → Act → World → Prop} {n : Fm} {env : Env} {ops : Array Oper} {rest : List Oper}
variable {d : Option Tmp} {t : Tmp} {ty : TypeId} {pos : String} {af : Array Edge} {gd : Option (Nat × Bool)}
section
variable {α : Type} [DecidableEq α] {K : α → Value}
end
theorem updL_row {xs tl hd new : List Value} {o : Nat} (hh : hd.length = o) {i : Nat} (h : i + new.length ≤ xs.length) : updL (hd ++ (xs ++ tl)) (o + i) new = hd ++ (updL xs i new ++ tl) := by
  subst hh
  unfold updL
  rw [List.take_append, List.drop_append, List.take_of_length_le (by omega), List.drop_eq_nil_of_le (by omega), List.nil_append, show hd.length + i - hd.length = i by omega, show hd.length + i + new.length - hd.length = i + new.length by omega,
    List.take_append_of_le_length (by omega), List.drop_append_of_le_length h]
  simp
theorem flattenV_set {size : Nat} : ∀ {css : List (List Value)} {i : Nat} {c : List Value}, (∀ c ∈ css, c.length = size) → c.length = size → i < css.length → updL css.flatten (i * size) c = (css.set i c).flatten
  | [], i, c, _, _, h => by simp at h
  | d :: l, 0, c, h, hc, _ => by
    have hd := h d (by simp)
    simp only [Nat.zero_mul, List.flatten_cons, List.set_cons_zero, updL, List.take_zero, List.nil_append, Nat.zero_add]
    rw [hc, ← hd, List.drop_left]
  | d :: l, i + 1, c, h, hc, hi => by
    have hd := h d (by simp)
    have ih := flattenV_set (css := l) (i := i) (c := c) (fun c' hc' => h c' (by simp [hc'])) hc (by simpa using hi)
    have hl := flatten_len (fun c' hc' => h c' (List.mem_cons_of_mem d hc'))
    simp only [List.length_cons] at hi
    have e := updL_row (hd := d) (xs := l.flatten) (tl := []) (new := c) (i := i * size) hd (by rw [hl, hc]; have := Nat.mul_le_mul_right size (show i + 1 ≤ l.length by omega); rw [Nat.add_mul, Nat.one_mul] at this; exact this)
    simp only [List.append_nil] at e
    rw [List.flatten_cons, List.set_cons_succ, List.flatten_cons, ← ih, ← e]
    congr 1
    rw [Nat.add_mul, Nat.one_mul, Nat.add_comm]
theorem gl_stRow {T : TypeId} {x y : Operand} {g o o2 e size m c i : Nat} {css : List (List Value)} {new : List Value} {L' : List Res} (hw : Wt ops n env ⟨none, .store T x y, ty, pos, af, gd⟩ true)
    (hx : ev n env x = .pointer (some ⟨g, o2, none⟩)) (ho : o2 = o + i * size) (hy : ev n env y = .agg new.toArray) (hs : szT P T = some size) (hn : new.length = size) (h1 : ∀ u ∈ new, u.oneCell' = true) (hc : ∀ c ∈ css, c.length = size) (hi : i < css.length)
    (hp : Pick L (rowR e size (some ⟨g, o, none⟩) m c css.flatten) L') (k : Gl P w0 F0 (rowR e size (some ⟨g, o, none⟩) m c (css.set i new).flatten :: L') ops Q rest n env) : Gl P w0 F0 L ops Q (⟨none, .store T x y, ty, pos, af, gd⟩ :: rest) n env :=
  gl_skip hw (fun w hst => by
    obtain ⟨F, hF, hstp⟩ := hst
    obtain ⟨F1, ⟨hl1, hmc, hcm, hor⟩, _⟩ := stars_pick hp hF
    rcases hor with ⟨h, _⟩ | ⟨g', o', cs, fz, ha, hFg, hg, hz, hcs, hxs⟩
    · cases h
    cases ha
    have hlf := flatten_len hc
    have hcl : css.length * size = m * size := by rw [← hlf]; exact hl1
    have him : (i + 1) * size ≤ m * size := by rw [← hcl]; exact Nat.mul_le_mul_right size hi
    have hms : m * size ≤ c * size := Nat.mul_le_mul_right size hmc
    rw [Nat.add_mul, Nat.one_mul] at him
    have hrun := run_storeCells_blk (P := P) (T := e) (fz := fz) g (o + i * size) new 0 cs.toList w (by simpa using hg) (by simpa using hz) (by simp; omega) h1
    rw [Nat.add_zero] at hrun
    have hsp : cs.toList = cs.toList.take o ++ (css.flatten ++ (cs.toList.drop o).drop (m * size)) := by
      rw [← hxs, List.take_append_drop, List.take_append_drop]
    have hu : updL cs.toList (o + i * size) new = cs.toList.take o ++ ((css.set i new).flatten ++ (cs.toList.drop o).drop (m * size)) := by
      conv => lhs; rw [hsp]
      rw [updL_row (by rw [List.length_take]; simp; omega) (by rw [hlf, hn]; omega), flattenV_set hc hn hi]
    have hfl : (css.set i new).flatten.length = m * size := by
      rw [flatten_len (size := size) (fun c' hc' => by rcases List.mem_or_eq_of_mem_set hc' with h | h; exact hc c' h; (subst h; exact hn)), List.length_set, hcl]
    have hsz : (updL cs.toList (o + i * size) new).length = cs.size := by rw [updL_length (by simp; omega)]; simp
    refine ⟨_, ?_, St.setR (g := g) (o' := .cells (updL cs.toList (o + i * size) new).toArray e fz) (r' := rowR e size (some ⟨g, o, none⟩) m c (css.set i new).flatten) ⟨F, hF, hstp⟩ hp (fun F2 h2 => ?_) (fun w' F2 h2 hg' hk' => ?_)⟩
    · have hv : (Value.agg new.toArray).cells.size = size := by simp [Value.cells, hn]
      subst ho
      simp [execOp, hx, hy, Instr.storeAt, Instr.sureAddr, storeVar, Value.cells, hn, run_sz hs, hrun]
    · obtain ⟨_, _, _, h2⟩ := h2
      rcases h2 with ⟨h, _⟩ | ⟨g', o', _, _, ha, hF2, _⟩
      · cases h
      · cases ha; exact ⟨(hF2 g).2 rfl, (Array.getElem?_eq_some_iff.1 hg).1⟩
    · obtain ⟨_, _, _, h2⟩ := h2
      rcases h2 with ⟨h, _⟩ | ⟨g', o', _, _, ha, hF2, _⟩
      · cases h
      · cases ha
        refine ⟨hfl, hmc, hcm, .inr ⟨g, o, _, fz, rfl, hF2, hg', ?_, ?_, ?_⟩⟩
        · simpa [hsz] using hz
        · simpa [hsz] using hcs
        · simp only []
          rw [hu, List.drop_append, List.drop_eq_nil_of_le (by rw [List.length_take]; omega), List.nil_append, List.length_take, Nat.min_eq_left (by simp; omega), Nat.sub_self, List.drop_zero, List.take_append_of_le_length (by omega), List.take_of_length_le (by omega)]) k
end
end
section
def fpT (P : Program) (s f : Nat) : Option (Nat × Nat) := (P.underlying s).bind fun d => match d with
  | .struct fs => (fs[f]?).map fun x => (x.type, x.offset)
  | _ => none
section
variable {P : Program} {w0 : World} {F0 : Nat → Prop} {L : List Res} {n : Fm} {env : Env} {ty : TypeId} {pos : String} {af : Array Edge} {gd : Option (Nat × Bool)} {d : Option Tmp}
theorem r_fieldN {x : Operand} {S f T k s : Nat} {cs seg : List Value} (hx : ev n env x = .agg cs.toArray) (hf : fpT P S f = some (T, k)) (hr : rowT P T = some true) (hs : szT P T = some s) (hv : (cs.drop k).take s = seg) : Runs P w0 F0 L n env ⟨d, .field S x f, ty, pos, af, gd⟩ (.agg seg.toArray) := fun w _ => by
  unfold fpT at hf
  cases hu : P.underlying S with
  | none => simp [hu] at hf
  | some dsc =>
    cases dsc <;> simp [hu] at hf
    rename_i fs
    obtain ⟨x', hfl, ht, hk⟩ := hf
    subst ht hk
    simp only [execOp, hx, Instr.field, Sem.run_bind, run_underlying hu, Result.andThen_ok, hfl]
    simp [asAgg, run_partN hr hs hv]
end
end
end Go.Proofs.YtomdanlljfikaaaGreatDoor
