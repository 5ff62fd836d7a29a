/- Part 6 of 7. What is proved: see the last part: for every input the law returns true, and the input reads as it did. -/
import Derived.Test.YtkgbbnhdioghmaaGreatDoorCg5
/- Walks, by program (wg.py) out of a spec. -/
namespace Go.Proofs.YtkgbbnhdioghmaaGreatDoor
open Go
set_option linter.unusedVariables false
set_option linter.unusedSimpArgs false


theorem valN_step {l : List UInt8} {k : Nat} (h : k < l.length) : valN (l.take (k + 1)) = valN (l.take k) * 256 + (l.getD k 0).toNat := by
  rw [take_snoc h]; unfold valN; rw [List.foldl_append]; rfl
structure RS where
  pos : Nat
  err : Nat
def RS.st (B : List UInt8) (r : RS) : RSt := if r.err = 0 then .ok (B.drop r.pos) else .error r.err
/-- The reference's reader in block g: over the bytes B at a, it stands at σ. -/
def InR (g : Nat) (a : Option Addr) (c : Nat) (B : List UInt8) (σ : RSt) : Res := exR fun r : RS => allR [pureR (r.st B = σ ∧ r.pos ≤ B.length), blk g 141 [.slice a B.length c, .int .i64 (r.pos : Int), .int .i64 (r.err : Int)]]
theorem st_err {B : List UInt8} {r : RS} {σ : RSt} (h : r.st B = σ) : errOf σ = r.err := by
  subst h; unfold RS.st; split
  · rename_i he; exact he.symm
  · rfl
section
variable {g c : Nat} {a : Option Addr} {B : List UInt8} {σ : RSt} {w : World} {F : Nat → Prop} {L : List Res}
theorem in_open (h : stars (InR g a c B σ :: L) w F) : ∃ r : RS, r.st B = σ ∧ r.pos ≤ B.length ∧ stars (blk g 141 [.slice a B.length c, .int .i64 (r.pos : Int), .int .i64 (r.err : Int)] :: L) w F := by
  obtain ⟨r, h⟩ := stars_ex h
  obtain ⟨⟨h1, h2⟩, h3⟩ := stars_pure (stars_all h)
  exact ⟨r, h1, h2, h3⟩
theorem in_mk {r : RS} {i k : Int} (h : stars (blk g 141 [.slice a B.length c, .int .i64 i, .int .i64 k] :: L) w F) (hi : i = (r.pos : Int)) (hk : k = (r.err : Int)) (hs : r.st B = σ) (hp : r.pos ≤ B.length) : stars (InR g a c B σ :: L) w F := by
  subst hi; subst hk
  exact stars_ex_mk r (stars_all_mk (stars_pure_mk ⟨hs, hp⟩ h))
theorem St.inr {w0 : World} {F0 : Nat → Prop} (r : RS) {i k : Int} (h : St w0 F0 (blk g 141 [.slice a B.length c, .int .i64 i, .int .i64 k] :: L) w) (hi : i = (r.pos : Int)) (hk : k = (r.err : Int)) (hs : r.st B = σ) (hp : r.pos ≤ B.length) : St w0 F0 (InR g a c B σ :: L) w :=
  h.mapL fun F hF => in_mk hF hi hk hs hp
theorem r_inerr {P : Program} {w0 : World} {F0 : Nat → Prop} {n : Nat} {env : Env} {d : Option Tmp} {ty : TypeId} {pos : String} {af : Array Edge} {gd : Option (Nat × Bool)} {x : Operand} {T : Nat} {L' : List Res} (hx : ev n env x = .pointer (some ⟨g, 2, none⟩)) (hr : rowT P T = some false) (hp : Pick L (InR g a c B σ) L') :
    Runs P w0 F0 L n env ⟨d, .load T x, ty, pos, af, gd⟩ (.int .i64 (errOf σ : Int)) := r_load hx fun w hs => run_loadVar_one hr (by
  obtain ⟨F, hF, _⟩ := hs
  obtain ⟨r, h1, h2, h3⟩ := in_open (hp.stars hF)
  obtain ⟨F1, F2, hb, _⟩ := h3
  rw [cell_blk hb, st_err h1]; rfl)
end
theorem num_err {wd e : Nat} : rstep (pNum wd) (.error e) = .error e := rfl
theorem take_short {n : Nat} {b : List UInt8} (h : b.length < n) : pTake n b = .error 2 := by unfold pTake; rw [if_pos h]
theorem take_long {n : Nat} {b : List UInt8} (h : ¬ b.length < n) : pTake n b = .ok (b.take n, b.drop n) := by unfold pTake; rw [if_neg h]
theorem num_short {n : Nat} {b : List UInt8} (h : b.length < n) : pNum n b = .error 2 := by unfold pNum; exact pBind_err (take_short h)
theorem num_long {n : Nat} {b : List UInt8} (h : ¬ b.length < n) : pNum n b = .ok ((valN (b.take n) : Int), b.drop n) := by unfold pNum; rw [pBind_eq (take_long h)]; rfl
/-- Where a reading stands when a list's length x is read, most at most. -/
def mSt (most : Nat) (σ : RSt) (x : Nat) : RSt := if errOf (rstep (pNum 1) σ) = 0 ∧ most < x then failE 1 (rstep (pNum 1) σ) else rstep (pNum 1) σ

attribute [local irreducible] Gl Gc Gx Gs Runs Wt

set_option maxHeartbeats 400000 in
theorem ofail_ok {w : World} {F : Nat → Prop} {g : Nat} {v u : Value} {k e : Int} (h : stars [blk g 141 [v, u, .int .i64 k]] w F) :
    Calls Tryz.prog 71 #[.pointer (some ⟨g, 0, none⟩), .int .i64 e] w (Post w F (fun _ : Unit => .tuple #[]) (fun _ => [blk g 141 [v, u, .int .i64 (if k = 0 then e else k)]])) := by
  refine g_enter (env := [(0, .pointer (some ⟨g, 0, none⟩)), (1, .int .i64 e)]) Tryz.func71 rfl h Tryz.ntmps71 rfl rfl ?_
  refine gc_seq ?_
  by_cases he : k = 0
  · refine gc_region ?_
    refine gp zmv ?_
    refine gp znc ?_
    refine gp zfa ?_
    refine gp zl ?_
    refine gp (r_bool (c := true) zei (decide_eq_true he)) ?_
    refine gnt ?_
    refine gc_condT rfl rfl ?_
    refine gc_region ?_
    refine gp zmv ?_
    refine gp zmv ?_
    refine gp znc ?_
    refine gp zfa ?_
    refine zs1 ?_
    refine gl_nil ?_
    refine gx_ret0' rfl ?_
    rw [if_pos he]
    exact ze ()
  · refine gc_region ?_
    refine gp zmv ?_
    refine gp znc ?_
    refine gp zfa ?_
    refine gp zl ?_
    refine gp (r_bool (c := false) zei (decide_eq_false he)) ?_
    refine gnt ?_
    refine gc_condF rfl rfl ?_
    refine gc_skip ?_
    refine gx_ret0' rfl ?_
    rw [if_neg he]
    exact ze ()

set_option maxHeartbeats 400000 in
theorem ofailIn_ok {w : World} {F : Nat → Prop} {g c : Nat} {a : Option Addr} {B : List UInt8} {σ : RSt} (h : stars [InR g a c B σ] w F) {e : Nat} (hfe : ¬ e = 0) :
    Calls Tryz.prog 71 #[.pointer (some ⟨g, 0, none⟩), .int .i64 (e : Int)] w (Post w F (fun _ : Unit => .tuple #[]) (fun _ => [InR g a c B (failE e σ)])) := by
  obtain ⟨r, hs, hat, h'⟩ := in_open h
  refine g_enter (env := [(0, .pointer (some ⟨g, 0, none⟩)), (1, .int .i64 (e : Int))]) Tryz.func71 rfl h' Tryz.ntmps71 rfl rfl ?_
  refine gc_seq ?_
  by_cases he : r.err = 0
  · refine gc_region ?_
    refine gp zmv ?_
    refine gp znc ?_
    refine gp zfa ?_
    refine gp zl ?_
    refine gp (r_bool (c := true) zei (decide_eq_true (by omega))) ?_
    refine gnt ?_
    refine gc_condT rfl rfl ?_
    refine gc_region ?_
    refine gp zmv ?_
    refine gp zmv ?_
    refine gp znc ?_
    refine gp zfa ?_
    refine zs1 ?_
    refine gl_nil ?_
    refine gx_ret0' rfl ?_
    have e1 : σ = .ok (B.drop r.pos) := by rw [← hs, RS.st, if_pos he]
    subst e1
    exact fun w' hw => ⟨(), rfl, St.inr ⟨r.pos, e⟩ (hw.sel (by repeat (first | exact Sel.nil | (apply Sel.cons; · (repeat (first | exact Pick.here | apply Pick.there)))))) rfl rfl (by rw [RS.st, if_neg hfe]; rfl) hat⟩
  · refine gc_region ?_
    refine gp zmv ?_
    refine gp znc ?_
    refine gp zfa ?_
    refine gp zl ?_
    refine gp (r_bool (c := false) zei (decide_eq_false (by omega))) ?_
    refine gnt ?_
    refine gc_condF rfl rfl ?_
    refine gc_skip ?_
    refine gx_ret0' rfl ?_
    have e1 : σ = .error r.err := by rw [← hs, RS.st, if_neg he]
    subst e1
    exact fun w' hw => ⟨(), rfl, St.inr r (hw.sel (by repeat (first | exact Sel.nil | (apply Sel.cons; · (repeat (first | exact Pick.here | apply Pick.there)))))) rfl rfl (by rw [RS.st, if_neg he]; rfl) hat⟩

set_option maxHeartbeats 400000 in
theorem oleft_ok {w : World} {F : Nat → Prop} {g c n p : Nat} {a : Option Addr} {k : Int} (h : stars [blk g 141 [.slice a n c, .int .i64 (p : Int), .int .i64 k]] w F) (hp : p ≤ n) (hn : n ≤ 40000) :
    Calls Tryz.prog 116 #[.pointer (some ⟨g, 0, none⟩)] w (Post w F (fun _ : Unit => .int .i64 ((n - p : Nat) : Int)) (fun _ => [blk g 141 [.slice a n c, .int .i64 (p : Int), .int .i64 k]])) := by
  refine g_enter (env := [(0, .pointer (some ⟨g, 0, none⟩))]) Tryz.func116 rfl h Tryz.ntmps116 rfl rfl ?_
  refine gsr ?_
  refine gp zas ?_
  refine gnt ?_
  refine gc_seq ?_
  refine gc_regionS (by kernel_rfl) (by kernel_rfl) ?_
  refine sp zmv ?_
  refine sp znc ?_
  refine sp zfa ?_
  refine sp zl ?_
  refine sp zln ?_
  refine sp zmv ?_
  refine sp znc ?_
  refine sp zfa ?_
  refine sp zl ?_
  refine sp (r_int (j := ((n - p : Nat) : Int)) zsb (by omega)) ?_
  refine sp zas ?_
  refine gs_nil ?_
  refine gx_then ?_
  refine gc_ret ?_
  refine gx_ret1 rfl (by conv => lhs; whnf) ?_
  exact ze ()

set_option maxHeartbeats 400000 in
theorem inum_ok {w : World} {F : Nat → Prop} {g c : Nat} {a : Option Addr} {B : List UInt8} {σ : RSt} (h : stars [InR g a c B σ] w F) (hB : RdRow w (fun k => ¬ F k) 1 a B.length (B.map B8)) (hc : B.length ≤ c) (hl : B.length ≤ 40000) {wd : Nat} (h1 : 1 ≤ wd) (h7 : wd ≤ 6) :
    Calls Tryz.prog 64 #[.pointer (some ⟨g, 0, none⟩), .int .i64 (wd : Int)] w (Post w F (fun x : Nat => .int .i64 (x : Int)) (fun x => [pureR (Ag (pNum wd) σ (x : Int) ∧ x < 256 ^ wd), InR g a c B (rstep (pNum wd) σ)])) := by
  obtain ⟨r, hs, hat, h'⟩ := in_open h
  have hpow : 0 < 256 ^ wd := Nat.pow_pos (by decide)
  refine g_enter (env := [(0, .pointer (some ⟨g, 0, none⟩)), (1, .int .i64 (wd : Int))]) Tryz.func64 rfl h' Tryz.ntmps64 rfl rfl ?_
  refine gsr ?_
  refine gp zas ?_
  refine gnt ?_
  refine gc_seq ?_
  refine gsr ?_
  refine gp zmv ?_
  refine gp (r_bool (c := false) zlt (decide_eq_false (by omega))) ?_
  refine gp zmv ?_
  refine gq zmv ?_
  refine gq (r_bool (c := false) zgt (decide_eq_false (by omega))) ?_
  refine gp zpk ?_
  refine gnt ?_
  refine gc_condF rfl rfl ?_
  refine gc_skip ?_
  refine gx_then ?_
  refine gc_seq ?_
  refine gc_seq ?_
  by_cases he : r.err = 0
  · by_cases hq : B.length - r.pos < wd
    · refine gc_region ?_
      refine gp zmv ?_
      refine gp znc ?_
      refine gp zfa ?_
      refine gp zl ?_
      refine gp (r_bool (c := true) zei (decide_eq_true (by omega))) ?_
      refine gp zmv ?_
      refine gq zmv ?_
      refine zc (fun _ => ?_) (c := fun w1 F1 F2 h1 h2 hd hst => oleft_ok h1 hat hl)
      refine gq zmv ?_
      refine gq (r_bool (c := true) zlt (decide_eq_true (by omega))) ?_
      refine gp zpk ?_
      refine gnt ?_
      refine gc_condT rfl rfl ?_
      refine gc_region ?_
      refine gp zmv ?_
      refine zc (fun _ => ?_) (c := fun w1 F1 F2 h1 h2 hd hst => ofail_ok h1)
      rw [if_pos (show (r.err : Int) = 0 by omega)]
      refine gnt ?_
      refine gc_seq ?_
      refine gc_seq ?_
      refine gc_regionS (by kernel_rfl) (by kernel_rfl) ?_
      refine sp zmv ?_
      refine sp znc ?_
      refine sp zfa ?_
      refine sp zl ?_
      refine sp (r_bool (c := false) zei rfl) ?_
      refine sp zmv ?_
      refine sn ?_
      refine sn ?_
      refine sp zpk ?_
      refine sp zmv ?_
      refine sn ?_
      refine sn ?_
      refine sn ?_
      refine sn ?_
      refine sn ?_
      refine sn ?_
      refine sn ?_
      refine sn ?_
      refine sn ?_
      refine sn ?_
      refine sn ?_
      refine sp zpk ?_
      refine gs_nil ?_
      refine gx_then ?_
      refine gc_condF rfl rfl ?_
      refine gc_skip ?_
      refine gx_then ?_
      refine gc_seq ?_
      refine gsr ?_
      refine gp zmv ?_
      refine gp znc ?_
      refine gp zfa ?_
      refine gp zl ?_
      refine gp (r_bool (c := true) zni rfl) ?_
      refine gnt ?_
      refine gc_condT rfl rfl ?_
      refine gsr ?_
      refine gp zas ?_
      refine gnt ?_
      refine gc_ret ?_
      refine gx_then_ret ?_
      refine gx_ret1 rfl (by conv => lhs; whnf) ?_
      have e1 : σ = .ok (B.drop r.pos) := by rw [← hs, RS.st, if_pos he]
      subst e1
      have hsh : pNum wd (B.drop r.pos) = .error 2 := num_short (by rw [List.length_drop]; exact hq)
      exact fun w' hw => ⟨0, rfl, St.pureI ⟨Ag.ne hsh _, hpow⟩ (St.inr ⟨r.pos, 2⟩ (hw.sel (by repeat (first | exact Sel.nil | (apply Sel.cons; · (repeat (first | exact Pick.here | apply Pick.there)))))) rfl rfl (by rw [RS.st, if_neg (by simp)]; simp only [rstep, hsh]) hat)⟩
    · refine gc_region ?_
      refine gp zmv ?_
      refine gp znc ?_
      refine gp zfa ?_
      refine gp zl ?_
      refine gp (r_bool (c := true) zei (decide_eq_true (by omega))) ?_
      refine gp zmv ?_
      refine gq zmv ?_
      refine zc (fun _ => ?_) (c := fun w1 F1 F2 h1 h2 hd hst => oleft_ok h1 hat hl)
      refine gq zmv ?_
      refine gq (r_bool (c := false) zlt (decide_eq_false (by omega))) ?_
      refine gp zpk ?_
      refine gnt ?_
      refine gc_condF rfl rfl ?_
      refine gc_skip ?_
      refine gx_then ?_
      refine gc_seq ?_
      refine gc_seq ?_
      refine gc_regionS (by kernel_rfl) (by kernel_rfl) ?_
      refine sp zmv ?_
      refine sp znc ?_
      refine sp zfa ?_
      refine sp zl ?_
      refine sp (r_bool (c := true) zei (decide_eq_true (by omega))) ?_
      refine sp zmv ?_
      refine sq zmv ?_
      refine sq (r_bool (c := false) zei (decide_eq_false (by omega))) ?_
      refine sp zpk ?_
      refine sp zmv ?_
      refine sn ?_
      refine sn ?_
      refine sn ?_
      refine sn ?_
      refine sn ?_
      refine sn ?_
      refine sn ?_
      refine sn ?_
      refine sn ?_
      refine sn ?_
      refine sn ?_
      refine sp zpk ?_
      refine gs_nil ?_
      refine gx_then ?_
      refine gc_condF rfl rfl ?_
      refine gc_skip ?_
      refine gx_then ?_
      refine gc_seq ?_
      refine gsr ?_
      refine gp zmv ?_
      refine gp znc ?_
      refine gp zfa ?_
      refine gp zl ?_
      refine gp (r_bool (c := false) zni (by simp [he])) ?_
      refine gnt ?_
      refine gc_condF rfl rfl ?_
      refine gc_skip ?_
      refine gx_then ?_
      refine gsr ?_
      refine gp zas ?_
      refine gnt ?_
      refine gc_seq ?_
      refine gsr ?_
      refine gp zas ?_
      refine gnt ?_
      refine gc_block ?_
      refine gc_loop (α := Nat) (fun k => [pureR (k ≤ wd), blk g 141 [.slice a B.length c, .int .i64 ((r.pos + k : Nat) : Int), .int .i64 (r.err : Int)]]) (fun k => [(6, .int .i64 (k : Int)), (5, .int .i64 ((valN ((B.drop r.pos).take k) : Nat) : Int))]) [57, 58, 59, 60, 61, 62, 63, 64, 65, 66, 67, 68, 69, 70, 71, 72, 73, 74, 75, 76, 77, 78, 79, 80, 81, 82] (fun k => wd - k) 0 ?_ ?_ ?_
      · refine env_start (by kernel_rfl)
      · exact zlp (Nat.zero_le _)
      · intro k u
        refine gc_pureR (fun hk => ?_)
        replace hk : k ≤ wd := hk
        refine gc_seq ?_
        refine gsr ?_
        refine gp zmv ?_
        refine gp zmv ?_
        refine gp zlt ?_
        refine gnt ?_
        refine gif rfl (fun hc59 => ?_) (fun hc59 => ?_)
        · try simp only at hc59
          have hk' : k < wd := by omega
          obtain ⟨ga, o, ha, hA, hg, hra⟩ := hB.2.2 (by omega)
          subst ha
          have hb8 := (B.getD (r.pos + k) 0).toNat_lt
          have hlk : ((B.drop r.pos).take k).length = k := by rw [List.length_take, List.length_drop]; omega
          have hv1 := valN_lt ((B.drop r.pos).take k)
          rw [hlk] at hv1
          have hv2 : 256 ^ k ≤ 256 ^ 5 := Nat.pow_le_pow_right (by decide) (by omega)
          have hv3 : (256 : Nat) ^ 5 = 1099511627776 := by decide
          have hst : valN ((B.drop r.pos).take (k + 1)) = valN ((B.drop r.pos).take k) * 256 + (B.getD (r.pos + k) 0).toNat := by rw [valN_step (by rw [List.length_drop]; omega)]; simp [List.getD, List.getElem?_drop]
          refine gc_skip ?_
          refine gx_then ?_
          refine gc_seq ?_
          refine gc_block ?_
          refine gc_seq ?_
          refine gc_regionS (by kernel_rfl) (by kernel_rfl) ?_
          refine sp zmv ?_
          refine sp zml ?_
          refine sp zmv ?_
          refine sp znc ?_
          refine sp zfa ?_
          refine sp zl ?_
          refine sp zmv ?_
          refine sp znc ?_
          refine sp zfa ?_
          refine sp zl ?_
          refine sp (r_indexAddr_slice rfl rfl Ty.sl_36 Ty.sz_5 (by omega) (by omega)) ?_
          refine sp (r_ld1o (v := B8 (B.getD (r.pos + k) 0)) rfl Ty.row_5 (cellb hra (j := r.pos + k) (by omega) (by omega)) hA) ?_
          refine sp (r_int (j := ((B.getD (r.pos + k) 0).toNat : Int)) zci (wrap_i64 (by omega) (by omega))) ?_
          refine sp (r_int (j := ((valN ((B.drop r.pos).take (k + 1)) : Nat) : Int)) zad (by omega)) ?_
          refine sp zas ?_
          refine gs_nil ?_
          refine gx_then ?_
          refine gc_region ?_
          refine gp zmv ?_
          refine gp znc ?_
          refine gp zfa ?_
          refine gp zl ?_
          refine gp (r_int (j := ((r.pos + (k + 1) : Nat) : Int)) zad (by omega)) ?_
          refine gp znc ?_
          refine gp zfa ?_
          refine zs1 ?_
          refine gl_nil ?_
          refine gx_block_normal ?_
          refine gx_then ?_
          refine gc_region ?_
          refine gp zmv ?_
          refine gp zad ?_
          refine gp zas ?_
          refine gl_nil ?_
          refine zrd (k + 1) ?_ ?_
          · show wd - (k + 1) < wd - k
            omega
          · exact zlp (show k + 1 ≤ wd by omega)
        · try simp only at hc59
          have hk' : k = wd := by omega
          subst hk'
          refine gc_exit ?_
          refine gx_then_exit ?_
          refine gx_round_exit ?_
          refine gx_block_hit ?_
          refine gx_then ?_
          refine gsr ?_
          refine gp zmv ?_
          refine gp zas ?_
          refine gnt ?_
          refine gc_ret ?_
          refine gx_ret1 rfl (by conv => lhs; whnf) ?_
          have e1 : σ = .ok (B.drop r.pos) := by rw [← hs, RS.st, if_pos he]
          subst e1
          have hlg : pNum k (B.drop r.pos) = .ok ((valN ((B.drop r.pos).take k) : Int), (B.drop r.pos).drop k) := num_long (by rw [List.length_drop]; exact hq)
          have hvl := valN_lt ((B.drop r.pos).take k)
          rw [show ((B.drop r.pos).take k).length = k by rw [List.length_take, List.length_drop]; omega] at hvl
          exact fun w' hw => ⟨valN ((B.drop r.pos).take k), rfl, St.pureI ⟨Ag.of hlg, hvl⟩ (St.inr ⟨r.pos + k, r.err⟩ (hw.sel (by repeat (first | exact Sel.nil | (apply Sel.cons; · (repeat (first | exact Pick.here | apply Pick.there)))))) rfl rfl (by rw [RS.st, if_pos he]; simp only [rstep, hlg, List.drop_drop]) (by show r.pos + k ≤ B.length; omega))⟩
  · refine gc_region ?_
    refine gp zmv ?_
    refine gp znc ?_
    refine gp zfa ?_
    refine gp zl ?_
    refine gp (r_bool (c := false) zei (decide_eq_false (by omega))) ?_
    refine gp zmv ?_
    refine gn ?_
    refine gn ?_
    refine gn ?_
    refine gn ?_
    refine gp zpk ?_
    refine gnt ?_
    refine gc_condF rfl rfl ?_
    refine gc_skip ?_
    refine gx_then ?_
    refine gc_seq ?_
    refine gc_seq ?_
    refine gc_regionS (by kernel_rfl) (by kernel_rfl) ?_
    refine sp zmv ?_
    refine sp znc ?_
    refine sp zfa ?_
    refine sp zl ?_
    refine sp (r_bool (c := false) zei (decide_eq_false (by omega))) ?_
    refine sp zmv ?_
    refine sn ?_
    refine sn ?_
    refine sp zpk ?_
    refine sp zmv ?_
    refine sn ?_
    refine sn ?_
    refine sn ?_
    refine sn ?_
    refine sn ?_
    refine sn ?_
    refine sn ?_
    refine sn ?_
    refine sn ?_
    refine sn ?_
    refine sn ?_
    refine sp zpk ?_
    refine gs_nil ?_
    refine gx_then ?_
    refine gc_condF rfl rfl ?_
    refine gc_skip ?_
    refine gx_then ?_
    refine gc_seq ?_
    refine gsr ?_
    refine gp zmv ?_
    refine gp znc ?_
    refine gp zfa ?_
    refine gp zl ?_
    refine gp (r_bool (c := true) zni (by simp [he])) ?_
    refine gnt ?_
    refine gc_condT rfl rfl ?_
    refine gsr ?_
    refine gp zas ?_
    refine gnt ?_
    refine gc_ret ?_
    refine gx_then_ret ?_
    refine gx_ret1 rfl (by conv => lhs; whnf) ?_
    have e1 : σ = .error r.err := by rw [← hs, RS.st, if_neg he]
    subst e1
    exact fun w' hw => ⟨0, rfl, St.pureI ⟨Ag.error _, hpow⟩ (St.inr r (hw.sel (by repeat (first | exact Sel.nil | (apply Sel.cons; · (repeat (first | exact Pick.here | apply Pick.there)))))) rfl rfl (by rw [RS.st, if_neg he]; rfl) hat)⟩

end Go.Proofs.YtkgbbnhdioghmaaGreatDoor

/- Walks, by program (wg.py) out of a spec. -/
namespace Go.Proofs.YtkgbbnhdioghmaaGreatDoor
open Go
set_option linter.unusedVariables false
set_option linter.unusedSimpArgs false


theorem done_ok0 {B : List UInt8} {p : Nat} (h : B.length ≤ p) : doneE (.ok (B.drop p)) = 0 := by rw [List.drop_eq_nil_of_le h]; rfl
theorem done_ok3 {B : List UInt8} {p : Nat} (h : p < B.length) : doneE (.ok (B.drop p)) = 3 := by
  cases hd : B.drop p with
  | nil => have := congrArg List.length hd; rw [List.length_drop] at this; simp at this; omega
  | cons x l => rfl
theorem in_nz {g c : Nat} {a : Option Addr} {B : List UInt8} {σ : RSt} {w : World} {F : Nat → Prop} {L : List Res} (h : stars (InR g a c B σ :: L) w F) : σ ≠ .error 0 := by
  obtain ⟨r, h1, _, _⟩ := in_open h
  rw [← h1]; unfold RS.st; split
  · intro e; cases e
  · rename_i hne; intro e; injection e with e; exact hne e
theorem rstep_nz {α : Type} {p : PR α} (hp : NoZ p) {σ : RSt} (h : σ ≠ .error 0) : rstep p σ ≠ .error 0 := by
  cases σ with
  | error e => exact h
  | ok b =>
    intro he
    simp only [rstep] at he
    cases hb : p b with
    | error e => rw [hb] at he; injection he with he; subst he; exact hp b hb
    | ok x => rw [hb] at he; cases he
theorem fail_one {σ : RSt} (h : errOf σ = 0) (hn : σ ≠ .error 0) : errOf (failE 1 σ) ≠ 0 := by
  cases σ with
  | ok b => simp [failE, errOf]
  | error e => simp only [errOf] at h; subst h; exact absurd rfl hn

attribute [local irreducible] Gl Gc Gx Gs Runs Wt

set_option maxHeartbeats 400000 in
theorem ifixed_ok {w : World} {F : Nat → Prop} {g c : Nat} {a : Option Addr} {B : List UInt8} {σ : RSt} (h : stars [InR g a c B σ] w F) (hB : RdRow w (fun k => ¬ F k) 1 a B.length (B.map B8)) (hc : B.length ≤ c) (hl : B.length ≤ 40000) {n : Nat} (hn : n ≤ 70000) :
    Calls Tryz.prog 117 #[.pointer (some ⟨g, 0, none⟩), .int .i64 (n : Int)] w (Post w F (fun p : Option Addr × Nat × List UInt8 => .slice p.1 p.2.2.length p.2.1) (fun p => [pureR (Ag (pTake n) σ p.2.2 ∧ p.2.2.length ≤ n), rowR 5 1 p.1 p.2.2.length p.2.1 (p.2.2.map B8), InR g a c B (rstep (pTake n) σ)])) := by
  obtain ⟨r, hs, hat, h'⟩ := in_open h
  refine g_enter (env := [(0, .pointer (some ⟨g, 0, none⟩)), (1, .int .i64 (n : Int))]) Tryz.func117 rfl h' Tryz.ntmps117 rfl rfl ?_
  refine gsr ?_
  refine gp zas ?_
  refine gnt ?_
  refine gc_seq ?_
  refine gsr ?_
  refine gp zmv ?_
  refine gp (r_bool (c := false) zlt (decide_eq_false (by omega))) ?_
  refine gnt ?_
  refine gc_condF rfl rfl ?_
  refine gc_skip ?_
  refine gx_then ?_
  refine gc_seq ?_
  refine gc_seq ?_
  by_cases he : r.err = 0
  · by_cases hq : B.length - r.pos < n
    · refine gc_region ?_
      refine gp zmv ?_
      refine gp znc ?_
      refine gp zfa ?_
      refine gp zl ?_
      refine gp (r_bool (c := true) zei (decide_eq_true (by omega))) ?_
      refine gp zmv ?_
      refine gq zmv ?_
      refine zc (fun _ => ?_) (c := fun w1 F1 F2 h1 h2 hd hst => oleft_ok h1 hat hl)
      refine gq zmv ?_
      refine gq (r_bool (c := true) zlt (decide_eq_true (by omega))) ?_
      refine gp zpk ?_
      refine gnt ?_
      refine gc_condT rfl rfl ?_
      refine gc_region ?_
      refine gp zmv ?_
      refine zc (fun _ => ?_) (c := fun w1 F1 F2 h1 h2 hd hst => ofail_ok h1)
      rw [if_pos (show (r.err : Int) = 0 by omega)]
      refine gnt ?_
      refine gc_seq ?_
      refine gsr ?_
      refine gp zmv ?_
      refine gp znc ?_
      refine gp zfa ?_
      refine gp zl ?_
      refine gp (r_bool (c := true) zni rfl) ?_
      refine gnt ?_
      refine gc_condT rfl rfl ?_
      refine gsr ?_
      refine gp zas ?_
      refine gnt ?_
      refine gc_ret ?_
      refine gx_then_ret ?_
      refine gx_ret1 rfl (by conv => lhs; whnf) ?_
      have e1 : σ = .ok (B.drop r.pos) := by rw [← hs, RS.st, if_pos he]
      subst e1
      have hsh : pTake n (B.drop r.pos) = .error 2 := take_short (by rw [List.length_drop]; exact hq)
      exact fun w' hw => ⟨(none, 0, []), rfl, St.pureI ⟨Ag.ne hsh _, Nat.zero_le _⟩ (St.rowNil (St.inr ⟨r.pos, 2⟩ (hw.sel (by repeat (first | exact Sel.nil | (apply Sel.cons; · (repeat (first | exact Pick.here | apply Pick.there)))))) rfl rfl (by rw [RS.st, if_neg (by simp)]; simp only [rstep, hsh]) hat))⟩
    · refine gc_region ?_
      refine gp zmv ?_
      refine gp znc ?_
      refine gp zfa ?_
      refine gp zl ?_
      refine gp (r_bool (c := true) zei (decide_eq_true (by omega))) ?_
      refine gp zmv ?_
      refine gq zmv ?_
      refine zc (fun _ => ?_) (c := fun w1 F1 F2 h1 h2 hd hst => oleft_ok h1 hat hl)
      refine gq zmv ?_
      refine gq (r_bool (c := false) zlt (decide_eq_false (by omega))) ?_
      refine gp zpk ?_
      refine gnt ?_
      refine gc_condF rfl rfl ?_
      refine gc_skip ?_
      refine gx_then ?_
      refine gc_seq ?_
      refine gsr ?_
      refine gp zmv ?_
      refine gp znc ?_
      refine gp zfa ?_
      refine gp zl ?_
      refine gp (r_bool (c := false) zni (by simp [he])) ?_
      refine gnt ?_
      refine gc_condF rfl rfl ?_
      refine gc_skip ?_
      refine gx_then ?_
      refine gc_seq ?_
      refine gc_regionZ 17 ([blk g 141 [.slice a B.length c, .int .i64 (r.pos : Int), .int .i64 (r.err : Int)]]) ?_
      refine yps 1 rfl zmv ?_
      refine yps 2 rfl znc ?_
      refine yps 3 rfl zfa ?_
      refine yps 4 rfl zl ?_
      refine yps 5 rfl zmv ?_
      refine yps 6 rfl znc ?_
      refine yps 7 rfl zfa ?_
      refine yps 8 rfl zl ?_
      refine yps 9 rfl zmv ?_
      refine yps 10 rfl znc ?_
      refine yps 11 rfl zfa ?_
      refine yps 12 rfl zl ?_
      refine yps 13 rfl zmv ?_
      refine yps 14 rfl (r_int (j := ((r.pos + n : Nat) : Int)) zad (by omega)) ?_
      refine yps 15 rfl (r_slice_slice (a := a) (m := B.length) (c := c) (l := r.pos) (h := r.pos + n) rfl Ty.sl_36 Ty.sz_5 ⟨_, rfl⟩ ⟨_, rfl⟩ (by omega) (by omega)) ?_
      refine yos 0 rfl ?_
      refine ze0 fun b28 => ?_
      refine yxs ?_
      refine yos 16 rfl ?_
      have hcut := hB.cut8 (l := r.pos) (h := r.pos + n) (c := c) (by omega) (by omega) hc
      refine gl_append (xs := []) (news := ((B.drop r.pos).take (r.pos + n - r.pos)).map B8) (wt0 rfl) rfl rfl (by repeat (first | exact Pick.here | apply Pick.there)) ELT.h (fun w hw => hw.rdOld hcut) (one_B8 _) (by simp only [maxLen]; omega) (by omega) (fun a44 c44 => ?_)
      rw [Nat.zero_add, List.nil_append, show r.pos + n - r.pos = n by omega]
      refine yxs ?_
      refine yzs rfl ?_
      refine gp zas ?_
      refine gnt ?_
      refine gsr ?_
      refine gp zmv ?_
      refine gp znc ?_
      refine gp zfa ?_
      refine gp zl ?_
      refine gp zmv ?_
      refine gp (r_int (j := ((r.pos + n : Nat) : Int)) zad (by omega)) ?_
      refine gp znc ?_
      refine gp zfa ?_
      refine zs1 ?_
      refine gnt ?_
      refine gsr ?_
      refine gp zmv ?_
      refine gp zas ?_
      refine gnt ?_
      refine gc_ret ?_
      refine gx_ret1 rfl (by conv => lhs; whnf) ?_
      have e1 : σ = .ok (B.drop r.pos) := by rw [← hs, RS.st, if_pos he]
      subst e1
      have hlg : pTake n (B.drop r.pos) = .ok ((B.drop r.pos).take n, (B.drop r.pos).drop n) := take_long (by rw [List.length_drop]; exact hq)
      have e3 : n = ((B.drop r.pos).take n).length := by rw [List.length_take, List.length_drop]; omega
      intro w' hw
      have h2 := St.inr (a := a) (c := c) (B := B) (σ := rstep (pTake n) (.ok (B.drop r.pos))) ⟨r.pos + n, r.err⟩ (hw.sel (M := [_, rowR 5 1 a44 n c44 (((B.drop r.pos).take n).map B8)]) (by repeat (first | exact Sel.nil | (apply Sel.cons; · (repeat (first | exact Pick.here | apply Pick.there)))))) rfl rfl (by rw [RS.st, if_pos he]; simp only [rstep, hlg, List.drop_drop]) (by show r.pos + n ≤ B.length; omega)
      have h3 : St w F [rowR 5 1 a44 n c44 (((B.drop r.pos).take n).map B8), InR g a c B (rstep (pTake n) (.ok (B.drop r.pos)))] w' := st_swap h2
      refine ⟨(a44, c44, (B.drop r.pos).take n), by simp only; rw [← e3], St.pureI ⟨Ag.of hlg, by simp only; omega⟩ ?_⟩
      simp only
      rw [← e3]
      exact h3
  · refine gc_region ?_
    refine gp zmv ?_
    refine gp znc ?_
    refine gp zfa ?_
    refine gp zl ?_
    refine gp (r_bool (c := false) zei (decide_eq_false (by omega))) ?_
    refine gp zmv ?_
    refine gn ?_
    refine gn ?_
    refine gn ?_
    refine gn ?_
    refine gp zpk ?_
    refine gnt ?_
    refine gc_condF rfl rfl ?_
    refine gc_skip ?_
    refine gx_then ?_
    refine gc_seq ?_
    refine gsr ?_
    refine gp zmv ?_
    refine gp znc ?_
    refine gp zfa ?_
    refine gp zl ?_
    refine gp (r_bool (c := true) zni (by simp [he])) ?_
    refine gnt ?_
    refine gc_condT rfl rfl ?_
    refine gsr ?_
    refine gp zas ?_
    refine gnt ?_
    refine gc_ret ?_
    refine gx_then_ret ?_
    refine gx_ret1 rfl (by conv => lhs; whnf) ?_
    have e1 : σ = .error r.err := by rw [← hs, RS.st, if_neg he]
    subst e1
    exact fun w' hw => ⟨(none, 0, []), rfl, St.pureI ⟨Ag.error _, Nat.zero_le _⟩ (St.rowNil (St.inr r (hw.sel (by repeat (first | exact Sel.nil | (apply Sel.cons; · (repeat (first | exact Pick.here | apply Pick.there)))))) rfl rfl (by rw [RS.st, if_neg he]; rfl) hat))⟩

set_option maxHeartbeats 400000 in
theorem ibytes_ok {w : World} {F : Nat → Prop} {g c : Nat} {a : Option Addr} {B : List UInt8} {σ : RSt} (h : stars [InR g a c B σ] w F) (hB : RdRow w (fun k => ¬ F k) 1 a B.length (B.map B8)) (hc : B.length ≤ c) (hl : B.length ≤ 40000) {most : Nat} (hm : most ≤ 65535) :
    Calls Tryz.prog 120 #[.pointer (some ⟨g, 0, none⟩), .int .i64 (most : Int)] w (Post w F (fun p : Option Addr × Nat × List UInt8 => .slice p.1 p.2.2.length p.2.1) (fun p => [pureR (Ag (pBytes most) σ p.2.2), rowR 5 1 p.1 p.2.2.length p.2.1 (p.2.2.map B8), InR g a c B (rstep (pBytes most) σ)])) := by
  refine g_enter (env := [(0, .pointer (some ⟨g, 0, none⟩)), (1, .int .i64 (most : Int))]) Tryz.func120 rfl h Tryz.ntmps120 rfl rfl ?_
  refine gsr ?_
  refine gp zas ?_
  refine gnt ?_
  refine gsr ?_
  refine gp zmv ?_
  refine zc (fun x => ?_) (c := fun w1 F1 F2 h1 h2 hd hst => inum_ok (wd := 2) h1 (hB.mv hst.still) hc hl (by decide) (by decide))
  refine gl_pureR (fun hp7 => ?_)
  obtain ⟨hx7, hlx⟩ := hp7
  replace hlx : x < 65536 := hlx
  refine gp zas ?_
  refine gnt ?_
  refine gc_seq ?_
  refine gc_seq ?_
  by_cases he : errOf (rstep (pNum 2) σ) = 0
  · by_cases hq : most < x
    · refine gc_region ?_
      refine gp zmv ?_
      refine gp znc ?_
      refine gp zfa ?_
      refine gp (r_inerr rfl Ty.row_3 (by repeat (first | exact Pick.here | apply Pick.there))) ?_
      refine gp (r_bool (c := true) zei (decide_eq_true (by omega))) ?_
      refine gp zmv ?_
      refine gq zmv ?_
      refine gq zmv ?_
      refine gq (r_bool (c := true) zgt (decide_eq_true (by omega))) ?_
      refine gp zpk ?_
      refine gnt ?_
      refine gc_condT rfl rfl ?_
      refine gc_region ?_
      refine gp zmv ?_
      refine zc (fun _ => ?_) (c := fun w1 F1 F2 h1 h2 hd hst => ofailIn_ok (e := 1) h1 (by decide))
      refine gnt ?_
      refine gsr ?_
      refine gp zmv ?_
      refine gp zmv ?_
      refine zc ?_ (c := fun w1 F1 F2 h1 h2 hd hst => ifixed_ok (n := x) h1 (hB.mv hst.still) hc hl (by omega))
      rintro ⟨a22, c22, l22⟩
      refine gl_pureR (fun hp22 => ?_)
      obtain ⟨g22, hl22⟩ := hp22
      replace g22 : Ag (pTake x) _ l22 := g22
      refine gp zas ?_
      refine gnt ?_
      refine gc_ret ?_
      refine gx_ret1 rfl (by conv => lhs; whnf) ?_
      have hcs : (if errOf (rstep (pNum 2) σ) = 0 ∧ most < x then failE 1 (rstep (pNum 2) σ) else rstep (pNum 2) σ) = failE 1 (rstep (pNum 2) σ) := by rw [if_pos ⟨he, hq⟩]
      have hfin := bytes_fin hx7 hcs g22
      rw [hfin.1]
      exact fun w' hw => ⟨(a22, c22, l22), rfl, St.pureI hfin.2 (hw.sel (by repeat (first | exact Sel.nil | (apply Sel.cons; · (repeat (first | exact Pick.here | apply Pick.there))))))⟩
    · refine gc_region ?_
      refine gp zmv ?_
      refine gp znc ?_
      refine gp zfa ?_
      refine gp (r_inerr rfl Ty.row_3 (by repeat (first | exact Pick.here | apply Pick.there))) ?_
      refine gp (r_bool (c := true) zei (decide_eq_true (by omega))) ?_
      refine gp zmv ?_
      refine gq zmv ?_
      refine gq zmv ?_
      refine gq (r_bool (c := false) zgt (decide_eq_false (by omega))) ?_
      refine gp zpk ?_
      refine gnt ?_
      refine gc_condF rfl rfl ?_
      refine gc_skip ?_
      refine gx_then ?_
      refine gsr ?_
      refine gp zmv ?_
      refine gp zmv ?_
      refine zc ?_ (c := fun w1 F1 F2 h1 h2 hd hst => ifixed_ok (n := x) h1 (hB.mv hst.still) hc hl (by omega))
      rintro ⟨a22, c22, l22⟩
      refine gl_pureR (fun hp22 => ?_)
      obtain ⟨g22, hl22⟩ := hp22
      replace g22 : Ag (pTake x) _ l22 := g22
      refine gp zas ?_
      refine gnt ?_
      refine gc_ret ?_
      refine gx_ret1 rfl (by conv => lhs; whnf) ?_
      have hcs : (if errOf (rstep (pNum 2) σ) = 0 ∧ most < x then failE 1 (rstep (pNum 2) σ) else rstep (pNum 2) σ) = rstep (pNum 2) σ := by rw [if_neg (fun hh => hq hh.2)]
      have hfin := bytes_fin hx7 hcs g22
      rw [hfin.1]
      exact fun w' hw => ⟨(a22, c22, l22), rfl, St.pureI hfin.2 (hw.sel (by repeat (first | exact Sel.nil | (apply Sel.cons; · (repeat (first | exact Pick.here | apply Pick.there))))))⟩
  · refine gc_region ?_
    refine gp zmv ?_
    refine gp znc ?_
    refine gp zfa ?_
    refine gp (r_inerr rfl Ty.row_3 (by repeat (first | exact Pick.here | apply Pick.there))) ?_
    refine gp (r_bool (c := false) zei (decide_eq_false (by omega))) ?_
    refine gp zmv ?_
    refine gn ?_
    refine gn ?_
    refine gn ?_
    refine gp zpk ?_
    refine gnt ?_
    refine gc_condF rfl rfl ?_
    refine gc_skip ?_
    refine gx_then ?_
    refine gsr ?_
    refine gp zmv ?_
    refine gp zmv ?_
    refine zc ?_ (c := fun w1 F1 F2 h1 h2 hd hst => ifixed_ok (n := x) h1 (hB.mv hst.still) hc hl (by omega))
    rintro ⟨a22, c22, l22⟩
    refine gl_pureR (fun hp22 => ?_)
    obtain ⟨g22, hl22⟩ := hp22
    replace g22 : Ag (pTake x) _ l22 := g22
    refine gp zas ?_
    refine gnt ?_
    refine gc_ret ?_
    refine gx_ret1 rfl (by conv => lhs; whnf) ?_
    have hcs : (if errOf (rstep (pNum 2) σ) = 0 ∧ most < x then failE 1 (rstep (pNum 2) σ) else rstep (pNum 2) σ) = rstep (pNum 2) σ := by rw [if_neg (fun hh => he hh.1)]
    have hfin := bytes_fin hx7 hcs g22
    rw [hfin.1]
    exact fun w' hw => ⟨(a22, c22, l22), rfl, St.pureI hfin.2 (hw.sel (by repeat (first | exact Sel.nil | (apply Sel.cons; · (repeat (first | exact Pick.here | apply Pick.there))))))⟩

set_option maxHeartbeats 400000 in
theorem imany_ok {w : World} {F : Nat → Prop} {g c : Nat} {a : Option Addr} {B : List UInt8} {σ : RSt} (h : stars [InR g a c B σ] w F) (hB : RdRow w (fun k => ¬ F k) 1 a B.length (B.map B8)) (hc : B.length ≤ c) (hl : B.length ≤ 40000) {most : Nat} (hm : most ≤ 255) :
    Calls Tryz.prog 119 #[.pointer (some ⟨g, 0, none⟩), .int .i64 (most : Int)] w (Post w F (fun p : Nat × Nat => .int .i64 (p.1 : Int)) (fun p => [pureR (Ag (pNum 1) σ (p.2 : Int) ∧ (p.1 = p.2 ∨ errOf (mSt most σ p.2) ≠ 0) ∧ p.1 ≤ 255), InR g a c B (mSt most σ p.2)])) := by
  have hnz := in_nz h
  refine g_enter (env := [(0, .pointer (some ⟨g, 0, none⟩)), (1, .int .i64 (most : Int))]) Tryz.func119 rfl h Tryz.ntmps119 rfl rfl ?_
  refine gsr ?_
  refine gp zas ?_
  refine gnt ?_
  refine gsr ?_
  refine gp zmv ?_
  refine zc (fun x => ?_) (c := fun w1 F1 F2 h1 h2 hd hst => inum_ok (wd := 1) h1 (hB.mv hst.still) hc hl (by decide) (by decide))
  refine gl_pureR (fun hp7 => ?_)
  obtain ⟨hx7, hlx⟩ := hp7
  replace hlx : x < 256 := hlx
  refine gp zas ?_
  refine gnt ?_
  refine gc_seq ?_
  refine gc_seq ?_
  by_cases he : errOf (rstep (pNum 1) σ) = 0
  · by_cases hq : most < x
    · refine gc_region ?_
      refine gp zmv ?_
      refine gp znc ?_
      refine gp zfa ?_
      refine gp (r_inerr rfl Ty.row_3 (by repeat (first | exact Pick.here | apply Pick.there))) ?_
      refine gp (r_bool (c := true) zei (decide_eq_true (by omega))) ?_
      refine gp zmv ?_
      refine gq zmv ?_
      refine gq zmv ?_
      refine gq (r_bool (c := true) zgt (decide_eq_true (by omega))) ?_
      refine gp zpk ?_
      refine gnt ?_
      refine gc_condT rfl rfl ?_
      refine gsr ?_
      refine gp zmv ?_
      refine zc (fun _ => ?_) (c := fun w1 F1 F2 h1 h2 hd hst => ofailIn_ok (e := 1) h1 (by decide))
      refine gnt ?_
      refine gsr ?_
      refine gp zas ?_
      refine gnt ?_
      refine gc_ret ?_
      refine gx_then_ret ?_
      refine gx_ret1 rfl (by conv => lhs; whnf) ?_
      have e : mSt most σ x = failE 1 (rstep (pNum 1) σ) := by unfold mSt; rw [if_pos ⟨he, hq⟩]
      exact fun w' hw => ⟨(0, x), rfl, St.pureI ⟨hx7, .inr (by rw [e]; exact fail_one he (rstep_nz (noz_num 1) hnz)), Nat.zero_le _⟩ (by simp only; rw [e]; exact hw.sel (by repeat (first | exact Sel.nil | (apply Sel.cons; · (repeat (first | exact Pick.here | apply Pick.there))))))⟩
    · refine gc_region ?_
      refine gp zmv ?_
      refine gp znc ?_
      refine gp zfa ?_
      refine gp (r_inerr rfl Ty.row_3 (by repeat (first | exact Pick.here | apply Pick.there))) ?_
      refine gp (r_bool (c := true) zei (decide_eq_true (by omega))) ?_
      refine gp zmv ?_
      refine gq zmv ?_
      refine gq zmv ?_
      refine gq (r_bool (c := false) zgt (decide_eq_false (by omega))) ?_
      refine gp zpk ?_
      refine gnt ?_
      refine gc_condF rfl rfl ?_
      refine gc_skip ?_
      refine gx_then ?_
      refine gsr ?_
      refine gp zmv ?_
      refine gp zas ?_
      refine gnt ?_
      refine gc_ret ?_
      refine gx_ret1 rfl (by conv => lhs; whnf) ?_
      have e : mSt most σ x = rstep (pNum 1) σ := by unfold mSt; rw [if_neg (fun hh => hq hh.2)]
      exact fun w' hw => ⟨(x, x), rfl, St.pureI ⟨hx7, .inl rfl, by show x ≤ 255; omega⟩ (by simp only; rw [e]; exact hw.sel (by repeat (first | exact Sel.nil | (apply Sel.cons; · (repeat (first | exact Pick.here | apply Pick.there))))))⟩
  · refine gc_region ?_
    refine gp zmv ?_
    refine gp znc ?_
    refine gp zfa ?_
    refine gp (r_inerr rfl Ty.row_3 (by repeat (first | exact Pick.here | apply Pick.there))) ?_
    refine gp (r_bool (c := false) zei (decide_eq_false (by omega))) ?_
    refine gp zmv ?_
    refine gn ?_
    refine gn ?_
    refine gn ?_
    refine gp zpk ?_
    refine gnt ?_
    refine gc_condF rfl rfl ?_
    refine gc_skip ?_
    refine gx_then ?_
    refine gsr ?_
    refine gp zmv ?_
    refine gp zas ?_
    refine gnt ?_
    refine gc_ret ?_
    refine gx_ret1 rfl (by conv => lhs; whnf) ?_
    have e : mSt most σ x = rstep (pNum 1) σ := by unfold mSt; rw [if_neg (fun hh => he hh.1)]
    exact fun w' hw => ⟨(x, x), rfl, St.pureI ⟨hx7, .inl rfl, by show x ≤ 255; omega⟩ (by simp only; rw [e]; exact hw.sel (by repeat (first | exact Sel.nil | (apply Sel.cons; · (repeat (first | exact Pick.here | apply Pick.there))))))⟩

set_option maxHeartbeats 400000 in
theorem idone_ok {w : World} {F : Nat → Prop} {g c : Nat} {a : Option Addr} {B : List UInt8} {σ : RSt} (h : stars [InR g a c B σ] w F) (hB : RdRow w (fun k => ¬ F k) 1 a B.length (B.map B8)) (hc : B.length ≤ c) (hl : B.length ≤ 40000)  :
    Calls Tryz.prog 72 #[.pointer (some ⟨g, 0, none⟩)] w (Post w F (fun _ : Unit => .int .i64 (doneE σ : Int)) (fun _ => [InR g a c B σ])) := by
  obtain ⟨r, hs, hat, h'⟩ := in_open h
  refine g_enter (env := [(0, .pointer (some ⟨g, 0, none⟩))]) Tryz.func72 rfl h' Tryz.ntmps72 rfl rfl ?_
  refine gsr ?_
  refine gp zas ?_
  refine gnt ?_
  refine gc_seq ?_
  refine gc_seq ?_
  by_cases he : r.err = 0
  · by_cases hq : r.pos < B.length
    · refine gc_region ?_
      refine gp zmv ?_
      refine gp znc ?_
      refine gp zfa ?_
      refine gp zl ?_
      refine gp (r_bool (c := true) zei (decide_eq_true (by omega))) ?_
      refine gp zmv ?_
      refine gq zmv ?_
      refine zc (fun _ => ?_) (c := fun w1 F1 F2 h1 h2 hd hst => oleft_ok h1 hat hl)
      refine gq (r_bool (c := true) zgt (decide_eq_true (by omega))) ?_
      refine gp zpk ?_
      refine gnt ?_
      refine gc_condT rfl rfl ?_
      refine gsr ?_
      refine gp zas ?_
      refine gnt ?_
      refine gc_ret ?_
      refine gx_then_ret ?_
      refine gx_ret1 rfl (by conv => lhs; whnf) ?_
      have e1 : σ = .ok (B.drop r.pos) := by rw [← hs, RS.st, if_pos he]
      have e2 : doneE σ = 3 := by rw [e1]; exact done_ok3 hq
      rw [e2]
      exact fun w' hw => ⟨(), rfl, St.inr r (hw.sel (by repeat (first | exact Sel.nil | (apply Sel.cons; · (repeat (first | exact Pick.here | apply Pick.there)))))) rfl rfl hs hat⟩
    · refine gc_region ?_
      refine gp zmv ?_
      refine gp znc ?_
      refine gp zfa ?_
      refine gp zl ?_
      refine gp (r_bool (c := true) zei (decide_eq_true (by omega))) ?_
      refine gp zmv ?_
      refine gq zmv ?_
      refine zc (fun _ => ?_) (c := fun w1 F1 F2 h1 h2 hd hst => oleft_ok h1 hat hl)
      refine gq (r_bool (c := false) zgt (decide_eq_false (by omega))) ?_
      refine gp zpk ?_
      refine gnt ?_
      refine gc_condF rfl rfl ?_
      refine gc_skip ?_
      refine gx_then ?_
      refine gsr ?_
      refine gp zmv ?_
      refine gp znc ?_
      refine gp zfa ?_
      refine gp zl ?_
      refine gp zas ?_
      refine gnt ?_
      refine gc_ret ?_
      refine gx_ret1 rfl (by conv => lhs; whnf) ?_
      have e1 : σ = .ok (B.drop r.pos) := by rw [← hs, RS.st, if_pos he]
      have e2 : doneE σ = r.err := by rw [e1, he]; exact done_ok0 (by omega)
      rw [e2]
      exact fun w' hw => ⟨(), rfl, St.inr r (hw.sel (by repeat (first | exact Sel.nil | (apply Sel.cons; · (repeat (first | exact Pick.here | apply Pick.there)))))) rfl rfl hs hat⟩
  · refine gc_region ?_
    refine gp zmv ?_
    refine gp znc ?_
    refine gp zfa ?_
    refine gp zl ?_
    refine gp (r_bool (c := false) zei (decide_eq_false (by omega))) ?_
    refine gp zmv ?_
    refine gn ?_
    refine gn ?_
    refine gn ?_
    refine gp zpk ?_
    refine gnt ?_
    refine gc_condF rfl rfl ?_
    refine gc_skip ?_
    refine gx_then ?_
    refine gsr ?_
    refine gp zmv ?_
    refine gp znc ?_
    refine gp zfa ?_
    refine gp zl ?_
    refine gp zas ?_
    refine gnt ?_
    refine gc_ret ?_
    refine gx_ret1 rfl (by conv => lhs; whnf) ?_
    have e1 : σ = .error r.err := by rw [← hs, RS.st, if_neg he]
    subst e1
    exact fun w' hw => ⟨(), rfl, St.inr r (hw.sel (by repeat (first | exact Sel.nil | (apply Sel.cons; · (repeat (first | exact Pick.here | apply Pick.there)))))) rfl rfl hs hat⟩

end Go.Proofs.YtkgbbnhdioghmaaGreatDoor

/- Walks, by program (wg.py) out of a spec. -/
namespace Go.Proofs.YtkgbbnhdioghmaaGreatDoor
open Go
set_option linter.unusedVariables false
set_option linter.unusedSimpArgs false


theorem dig_store {l : List UInt8} {k o : Nat} (h : k < l.length) (hl : l.length ≤ 16) (ho : o = k) : updL (updL zD 0 ((l.take k).map B8)) o [B8 (l.getD k 0)] = updL zD 0 ((l.take (k + 1)).map B8) := by
  subst ho
  have h1 : ((l.take o).map B8).length = o := by rw [List.length_map, List.length_take]; omega
  have h2 : ((l.take (o + 1)).map B8).length = o + 1 := by rw [List.length_map, List.length_take]; omega
  simp only [updL, List.take_zero, List.nil_append, Nat.zero_add, h1, h2, List.length_singleton]
  rw [List.take_append_of_le_length (by omega), List.take_of_length_le (by omega), List.drop_append, List.drop_eq_nil_of_le (by omega), h1, List.drop_drop, take_snoc h]
  simp only [List.map_append, List.map_cons, List.map_nil, List.append_assoc, List.nil_append, List.cons_append]
  rw [show o + (o + 1 - o) = o + 1 by omega]

attribute [local irreducible] Gl Gc Gx Gs Runs Wt

set_option maxHeartbeats 400000 in
theorem idigest_ok {w : World} {F : Nat → Prop} {g c : Nat} {a : Option Addr} {B : List UInt8} {σ : RSt} (h : stars [InR g a c B σ] w F) (hB : RdRow w (fun k => ¬ F k) 1 a B.length (B.map B8)) (hc : B.length ≤ c) (hl : B.length ≤ 40000)  :
    Calls Tryz.prog 65 #[.agg (List.toArray [.pointer (some ⟨g, 0, none⟩)])] w (Post w F (fun r : Dig => .agg (dc r).toArray) (fun r => [pureR (Ag pDig σ r), InR g a c B (rstep pDig σ)])) := by
  refine g_enter (env := [(0, .agg (List.toArray [.pointer (some ⟨g, 0, none⟩)]))]) Tryz.func65 rfl h Tryz.ntmps65 rfl rfl ?_
  refine gsr ?_
  refine zbN fun b1 => ?_
  refine zal fun b2 => ?_
  refine gnt ?_
  refine gsr ?_
  refine gp (r_buildA (cs := zD) Ty.zc_23 Ty.arr_23 Ty.sz_5 (by kernel_rfl)) ?_
  refine zal fun b3 => ?_
  refine zsA (new := zD) rfl (dc_one dig0) ?_
  refine gnt ?_
  refine gc_seq ?_
  refine gsr ?_
  refine gp zfa ?_
  refine gp zl ?_
  refine zc ?_ (c := fun w1 F1 F2 h1 h2 hd hst => ifixed_ok (n := 16) h1 (hB.mv hst.still) hc hl (by decide))
  rintro ⟨a9, c9, l9⟩
  refine gl_pureR (fun hp9 => ?_)
  obtain ⟨g9, hl9⟩ := hp9
  replace hl9 : l9.length ≤ 16 := hl9
  replace g9 : Ag (pTake 16) σ l9 := g9
  refine gp zln ?_
  refine gp zmv ?_
  refine gnt ?_
  refine gc_block ?_
  refine gc_loop (α := Nat) (fun k => [pureR (k ≤ l9.length), rowR 5 1 a9 l9.length c9 (l9.map B8), blk b3 23 (updL zD 0 ((l9.take k).map B8)), blk b2 23 zD, InR g a c B (rstep (pTake 16) σ)]) (fun k => [(11, .int .i64 (k : Int))]) [4, 5, 12, 13, 14, 15, 16, 17, 18, 19] (fun k => l9.length - k) 0 ?_ ?_ ?_
  · refine env_start (by kernel_rfl)
  · exact zlp (Nat.zero_le _)
  · intro k u
    refine gc_pureR (fun hk => ?_)
    replace hk : k ≤ l9.length := hk
    refine gsr ?_
    refine gp zlt ?_
    refine gnt ?_
    refine gc_seq ?_
    refine gif rfl (fun hc12 => ?_) (fun hc12 => ?_)
    · try simp only at hc12
      have hk' : k < l9.length := by omega
      refine gc_fact (p := ∃ g o, a9 = some ⟨g, o, none⟩) (fun w hw => (by obtain ⟨g, o, e, _⟩ := (hw.row (a := a9) (m := l9.length) (c := c9) (xs := l9.map B8) (by repeat (first | exact Pick.here | apply Pick.there))).2.2 (by omega); exact ⟨g, o, e⟩)) (fun ha => ?_)
      obtain ⟨g7, o7, rfl⟩ := ha
      refine gc_skip ?_
      refine gx_then ?_
      refine gc_seq ?_
      refine gc_block ?_
      refine gsr ?_
      refine gp zmv ?_
      refine gp (zia) ?_
      refine gp (r_ld1r (v := B8 (l9.getD k 0)) rfl Ty.row_5 (by repeat (first | exact Pick.here | apply Pick.there)) (by rw [show (k : Int).toNat * 1 = k by omega, List.getElem?_map, List.getElem?_eq_getElem hk']; simp [List.getD, List.getElem?_eq_getElem hk'])) ?_
      refine gp zas ?_
      refine gp zas ?_
      refine gnt ?_
      refine gc_region ?_
      refine gp zmv ?_
      refine gp zmv ?_
      refine gp (zib) ?_
      refine gl_store1 (wt0 rfl) rfl rfl rfl Ty.sz_5 (by repeat (first | exact Pick.here | apply Pick.there)) (by rw [updL_length (by rw [zD_length, List.length_map, List.length_take]; omega), zD_length]; omega) (dig_store hk' hl9 (by omega)) ?_
      refine gl_nil ?_
      refine gx_block_normal ?_
      refine gx_then ?_
      refine gc_region ?_
      refine gp zad ?_
      refine gp zmv ?_
      refine gl_nil ?_
      refine zrd (k + 1) ?_ ?_
      · show l9.length - (k + 1) < l9.length - k
        omega
      · exact zlp (show k + 1 ≤ l9.length by omega)
    · try simp only at hc12
      have hk' : k = l9.length := by omega
      subst hk'
      rw [List.take_length, padDig_cells hl9]
      refine gc_exit ?_
      refine gx_then_exit ?_
      refine gx_round_exit ?_
      refine gx_block_hit ?_
      refine gx_then ?_
      refine gsr ?_
      refine gp (zLa (cs := dc (padDig l9))) ?_
      refine zsA (dc_length _) (dc_one _) ?_
      refine gnt ?_
      refine gc_ret ?_
      refine gx_retc rfl rfl (ld_aggS Ty.row_23 Ty.sz_23 (by repeat (first | exact Pick.here | apply Pick.there)) (by (simp only [List.drop_succ_cons, List.drop_zero, List.take_succ_cons, List.take_zero, List.cons_append, List.nil_append, List.append_assoc, drop_dc, drop_dc', take_dc, take_dc', drop_L, drop_L', take_L, take_L', len_L, Nat.reduceLeDiff, Nat.reduceSub, Nat.reduceAdd, Nat.le_refl, List.length_cons, List.length_append, List.length_nil, dc_length, List.drop_nil, List.take_nil, List.append_nil, List.length_map, List.length_replicate]; first | done | rfl)) (by first | rfl | (simp only [List.drop_succ_cons, List.drop_zero, List.take_succ_cons, List.take_zero, List.cons_append, List.nil_append, List.append_assoc, drop_dc, drop_dc', take_dc, take_dc', drop_L, drop_L', take_L, take_L', len_L, Nat.reduceLeDiff, Nat.reduceSub, Nat.reduceAdd, Nat.le_refl, List.length_cons, List.length_append, List.length_nil, dc_length, List.drop_nil, List.take_nil, List.append_nil, List.length_map, List.length_replicate]; first | done | omega))) ?_
      rw [rstep_dig g9]
      exact fun w' hw => ⟨padDig l9, rfl, St.pureI (ag_dig g9) (hw.sel (by repeat (first | exact Sel.nil | (apply Sel.cons; · (repeat (first | exact Pick.here | apply Pick.there))))))⟩

set_option maxHeartbeats 400000 in
theorem idigests_ok {w : World} {F : Nat → Prop} {g c : Nat} {a : Option Addr} {B : List UInt8} {σ : RSt} (h : stars [InR g a c B σ] w F) (hB : RdRow w (fun k => ¬ F k) 1 a B.length (B.map B8)) (hc : B.length ≤ c) (hl : B.length ≤ 40000) {most : Nat} (hm : most ≤ 255) :
    Calls Tryz.prog 155 #[.agg (List.toArray [.pointer (some ⟨g, 0, none⟩)]), .int .i64 (most : Int)] w (Post w F (fun r : Option Addr × Nat × Nat × List Dig => .slice r.1 r.2.1 r.2.2.1) (fun r => [pureR (Ag (pList pDig most) σ r.2.2.2 ∧ r.2.1 ≤ r.2.2.1 ∧ r.2.1 = r.2.2.2.length), LsR (fun _ _ => RdDig) 16 r.1 r.2.1 r.2.2.2, InR g a c B (rstep (pList pDig most) σ)])) := by
  refine g_enter (env := [(0, .agg (List.toArray [.pointer (some ⟨g, 0, none⟩)])), (1, .int .i64 (most : Int))]) Tryz.func155 rfl h Tryz.ntmps155 rfl rfl ?_
  refine gsr ?_
  refine zbN fun b2 => ?_
  refine gp zas ?_
  refine gnt ?_
  refine gsr ?_
  refine ze0 fun b8 => ?_
  refine gp zas ?_
  refine gnt ?_
  refine gsr ?_
  refine gp zfa ?_
  refine gp zl ?_
  refine gp zmv ?_
  refine zc ?_ (c := fun w1 F1 F2 h1 h2 hd hst => imany_ok (most := most) h1 (hB.mv hst.still) hc hl hm)
  rintro ⟨vx, x⟩
  refine gl_pureR (fun hp12 => ?_)
  obtain ⟨hxx, hvx, hwx⟩ := hp12
  replace hxx : Ag (pNum 1) _ (x : Int) := hxx
  replace hvx : vx = x ∨ errOf (mSt most _ x) ≠ 0 := hvx
  replace hwx : vx ≤ 255 := hwx
  refine gp zas ?_
  refine gnt ?_
  refine gc_seq ?_
  refine gsr ?_
  refine gp zas ?_
  refine gnt ?_
  refine gc_block ?_
  refine gc_loop (α := Nat × RSt × Option Addr × Nat × List (List Value) × List Dig) (fun y => [pureR (y.1 ≤ vx ∧ (vx = x ∨ errOf y.2.1 ≠ 0) ∧ Many pDig x (mSt most σ x) (x - y.1) y.2.1 y.2.2.2.2.2 ∧ (∀ c ∈ y.2.2.2.2.1, c.length = 16 ∧ ∀ v ∈ c, v.oneCell' = true) ∧ y.2.2.2.2.2.length = y.1), rowR 23 16 y.2.2.1 y.1 y.2.2.2.1 y.2.2.2.2.1.flatten, ElR (fun _ _ => RdDig) y.2.2.2.2.1 y.2.2.2.2.2, blk b2 143 [.pointer (some ⟨g, 0, none⟩)], InR g a c B y.2.1]) (fun y => [(7, .int .i64 (y.1 : Int)), (5, .slice y.2.2.1 y.1 y.2.2.2.1)]) [13, 14, 15, 16, 17, 18, 19, 20, 21, 22, 23, 24, 25, 26, 27, 28, 29, 30] (fun y => vx - y.1) (0, (mSt most σ x), some ⟨b8, 0, none⟩, 0, [], []) ?_ ?_ ?_
  · refine env_start (by kernel_rfl)
  · exact fun w' hw => zlp ⟨Nat.zero_le _, hvx, Many.start, (by intro c hc; cases hc), rfl⟩ (by repeat (first | exact Sel.nil | (apply Sel.cons; · (repeat (first | exact Pick.here | apply Pick.there))))) w' (hw.mapL fun F' hF' => el_nil (rd := fun _ _ => RdDig) hF')
  · intro y u
    obtain ⟨ky, τy, ay, cy, cssy, ly⟩ := y
    refine gc_pureR (fun hk => ?_)
    obtain ⟨hky, hvxy, hmanyy, hcs0, hlly⟩ := hk
    replace hky : ky ≤ vx := hky
    replace hlly : ly.length = ky := hlly
    have hcs1y : ∀ c ∈ cssy, ∀ v ∈ c, v.oneCell' = true := fun c hc => (hcs0 c hc).2
    have hcssy : ∀ c ∈ cssy, c.length = 16 := fun c hc => (hcs0 c hc).1
    replace hvxy : vx = x ∨ errOf τy ≠ 0 := hvxy
    replace hmanyy : Many pDig x (mSt most σ x) (x - ky) τy ly := hmanyy
    refine gc_seq ?_
    refine gc_seq ?_
    by_cases hkxy : ky < vx
    · refine gc_region ?_
      refine gp zmv ?_
      refine gp zmv ?_
      refine gp (r_bool (c := true) zlt (decide_eq_true (by omega))) ?_
      refine gp zmv ?_
      refine gq zfa ?_
      refine gq zl ?_
      refine gq znc ?_
      refine gq zfa ?_
      refine gq (r_inerr rfl Ty.row_3 (by repeat (first | exact Pick.here | apply Pick.there))) ?_
      refine gq zei ?_
      refine gp zpk ?_
      refine gnt ?_
      refine gif rfl (fun hc23 => ?_) (fun hc23 => ?_)
      · try simp only at hc23
        have he2 : errOf τy = 0 := by omega
        have hvq : vx = x := hvxy.resolve_right (fun h => h he2)
        refine gc_skip ?_
        refine gx_then ?_
        refine gc_seq ?_
        refine gc_block ?_
        refine gc_region ?_
        refine gp zmv ?_
        refine gp zL ?_
        refine zc (fun v => ?_) (c := fun w1 F1 F2 h1 h2 hd hst => idigest_ok h1 (hB.mv hst.still) hc hl)
        refine gl_pureR (fun hag => ?_)
        obtain ⟨cs, hcs⟩ : ∃ cs, cs = dc v := ⟨_, rfl⟩
        have hcl : cs.length = 16 := by rw [hcs]; exact dc_length _
        have hco : ∀ v ∈ cs, v.oneCell' = true := by rw [hcs]; exact dc_one _
        rw [← hcs]
        have i1 := Len.of hcl
        have i2 := One.of hco
        refine gl_conv (M := []) (N := [VlR (fun _ _ => RdDig) cs v]) Sel.nil (fun w F hF => vl_pure (show RdDig cs v from hcs) hF) ?_
        refine zeN fun b29 => ?_
        refine zapo (news := cs) (fun a30 c30 => ?_)
        refine gp zas ?_
        refine gl_nil ?_
        refine gx_block_normal ?_
        refine gx_then ?_
        refine gc_region ?_
        refine gp zmv ?_
        refine gp zad ?_
        refine gp zas ?_
        refine gl_nil ?_
        refine zrd ((ky + 1, rstep pDig τy, a30, c30, cssy ++ [cs], ly ++ [v])) ?_ ?_
        · show vx - (ky + 1) < vx - ky
          omega
        · rintro w' hw
          have h1 := hw.conv (M := [ElR (fun _ _ => RdDig) cssy ly, VlR (fun _ _ => RdDig) cs v]) (by repeat (first | exact Sel.nil | (apply Sel.cons; · (repeat (first | exact Pick.here | apply Pick.there))))) (fun _ _ => el_snoc)
          refine zlq (M' := [rowR 23 16 a30 (ky + 1) c30 (cssy.flatten ++ cs), ElR (fun _ _ => RdDig) (cssy ++ [cs]) (ly ++ [v]), blk b2 143 [.pointer (some ⟨g, 0, none⟩)], InR g a c B (rstep pDig τy)]) ⟨?_, ?_, ?_, ?_, ?_⟩ (by simp) (by repeat (first | exact Sel.nil | (apply Sel.cons; · (repeat (first | exact Pick.here | apply Pick.there))))) w' h1
          · show ky + 1 ≤ vx; omega
          · exact .inl hvq
          · rw [show x - ky = x - (ky + 1) + 1 by omega] at hmanyy; exact hmanyy.next hag
          · intro c' hc'; rcases List.mem_append.1 hc' with h | h; exact ⟨hcssy c' h, hcs1y c' h⟩; rw [List.mem_singleton.1 h]; exact ⟨hcl, hco⟩
          · simp [hlly]
      · try simp only at hc23
        have he2 : ¬ errOf τy = 0 := by omega
        refine gc_exit ?_
        refine gx_then_exit ?_
        refine gx_round_exit ?_
        refine gx_block_hit ?_
        refine gx_then ?_
        refine gsr ?_
        refine gp zmv ?_
        refine gp zas ?_
        refine gnt ?_
        refine gc_ret ?_
        refine gx_ret1 rfl (by conv => lhs; whnf) ?_
        have hcs2 : (if errOf (rstep (pNum 1) σ) = 0 ∧ most < x then failE 1 (rstep (pNum 1) σ) else rstep (pNum 1) σ) = mSt most σ x := rfl
        have hdy : rstep (pMany pDig x) (mSt most σ x) = τy ∧ Ag (pMany pDig x) (mSt most σ x) ly := by by_cases he3 : errOf τy = 0 <;> first | (have hb := hmanyy.bad he3; exact ⟨hb.1, hb.2 _⟩) | (have hvq := hvxy.resolve_right (fun h => h he3); have hm0 : x - ky = 0 := (by omega); rw [hm0] at hmanyy; exact hmanyy.done)
        have hfiny := list_fin hxx hcs2 hdy
        rw [hfiny.1]
        intro w' hw
        have hle := (hw.rowLe (e := 23) (size := 16) (a := ay) (m := ky) (c := cy) (xs := cssy.flatten) (by repeat (first | exact Pick.here | apply Pick.there))).1
        exact ⟨(ay, ky, cy, ly), rfl, St.pureI ⟨hfiny.2, hle, hlly.symm⟩ ((hw.conv (M := [rowR 23 16 ay ky cy cssy.flatten, ElR (fun _ _ => RdDig) cssy ly]) (by repeat (first | exact Sel.nil | (apply Sel.cons; · (repeat (first | exact Pick.here | apply Pick.there))))) (fun _ _ => ls_of hcssy)).sel (by repeat (first | exact Sel.nil | (apply Sel.cons; · (repeat (first | exact Pick.here | apply Pick.there))))))⟩
    · refine gc_region ?_
      refine gp zmv ?_
      refine gp zmv ?_
      refine gp (r_bool (c := false) zlt (decide_eq_false (by omega))) ?_
      refine gp zmv ?_
      refine gn ?_
      refine gn ?_
      refine gn ?_
      refine gn ?_
      refine gn ?_
      refine gn ?_
      refine gp zpk ?_
      refine gnt ?_
      refine gc_condF rfl rfl ?_
      refine gc_exit ?_
      refine gx_then_exit ?_
      refine gx_round_exit ?_
      refine gx_block_hit ?_
      refine gx_then ?_
      refine gsr ?_
      refine gp zmv ?_
      refine gp zas ?_
      refine gnt ?_
      refine gc_ret ?_
      refine gx_ret1 rfl (by conv => lhs; whnf) ?_
      have hcs2 : (if errOf (rstep (pNum 1) σ) = 0 ∧ most < x then failE 1 (rstep (pNum 1) σ) else rstep (pNum 1) σ) = mSt most σ x := rfl
      have hdy : rstep (pMany pDig x) (mSt most σ x) = τy ∧ Ag (pMany pDig x) (mSt most σ x) ly := by by_cases he3 : errOf τy = 0 <;> first | (have hb := hmanyy.bad he3; exact ⟨hb.1, hb.2 _⟩) | (have hvq := hvxy.resolve_right (fun h => h he3); have hm0 : x - ky = 0 := (by omega); rw [hm0] at hmanyy; exact hmanyy.done)
      have hfiny := list_fin hxx hcs2 hdy
      rw [hfiny.1]
      intro w' hw
      have hle := (hw.rowLe (e := 23) (size := 16) (a := ay) (m := ky) (c := cy) (xs := cssy.flatten) (by repeat (first | exact Pick.here | apply Pick.there))).1
      exact ⟨(ay, ky, cy, ly), rfl, St.pureI ⟨hfiny.2, hle, hlly.symm⟩ ((hw.conv (M := [rowR 23 16 ay ky cy cssy.flatten, ElR (fun _ _ => RdDig) cssy ly]) (by repeat (first | exact Sel.nil | (apply Sel.cons; · (repeat (first | exact Pick.here | apply Pick.there))))) (fun _ _ => ls_of hcssy)).sel (by repeat (first | exact Sel.nil | (apply Sel.cons; · (repeat (first | exact Pick.here | apply Pick.there))))))⟩

end Go.Proofs.YtkgbbnhdioghmaaGreatDoor

/- Walks, by program (wg.py) out of a spec. -/
namespace Go.Proofs.YtkgbbnhdioghmaaGreatDoor
open Go
set_option linter.unusedVariables false
set_option linter.unusedSimpArgs false

attribute [local irreducible] Gl Gc Gx Gs Runs Wt

set_option maxHeartbeats 400000 in
theorem isig_ok {w : World} {F : Nat → Prop} {g c : Nat} {a : Option Addr} {B : List UInt8} {σ : RSt} (h : stars [InR g a c B σ] w F) (hB : RdRow w (fun k => ¬ F k) 1 a B.length (B.map B8)) (hc : B.length ≤ c) (hl : B.length ≤ 40000)  :
    Calls Tryz.prog 118 #[.agg (List.toArray [.pointer (some ⟨g, 0, none⟩)])] w (Post w F (fun r : List Value × Sig => .agg r.1.toArray) (fun r => [pureR (Ag pSig σ r.2 ∧ r.1.length = 3 ∧ ∀ v ∈ r.1, v.oneCell' = true), VlR RdSig r.1 r.2, InR g a c B (rstep pSig σ)])) := by
  refine g_enter (env := [(0, .agg (List.toArray [.pointer (some ⟨g, 0, none⟩)]))]) Tryz.func118 rfl h Tryz.ntmps118 rfl rfl ?_
  refine gsr ?_
  refine zbN fun b1 => ?_
  refine zal fun b2 => ?_
  refine gl_eqc (cs' := [.int .i64 0, .slice none 0 0, .slice none 0 0]) (by repeat (first | exact Pick.here | apply Pick.there)) (by kernel_rfl) ?_
  refine gnt ?_
  refine gsr ?_
  refine gp (r_build (cs := [.int .i64 0, .slice none 0 0, .slice none 0 0]) Ty.zc_49 Ty.pl_49 (by kernel_rfl)) ?_
  refine zal fun b3 => ?_
  refine gl_eqc (cs' := [.int .i64 0, .slice none 0 0, .slice none 0 0]) (by repeat (first | exact Pick.here | apply Pick.there)) (by kernel_rfl) ?_
  refine zsA (new := [.int .i64 0, .slice none 0 0, .slice none 0 0]) (by first | rfl | simp only [List.length_cons, List.length_append, List.length_nil, dc_length, len_L]) (by repeat (first | exact all_nil' | exact dc_one _ | exact One.h | refine all_cons' rfl ?_ | refine all_app' (dc_one _) ?_ | refine all_app' One.h ?_)) ?_
  refine gnt ?_
  refine gsr ?_
  refine gp zfa ?_
  refine gp zl ?_
  refine zc (fun x => ?_) (c := fun w1 F1 F2 h1 h2 hd hst => inum_ok (wd := 1) h1 (hB.mv hst.still) hc hl (by decide) (by decide))
  refine gl_pureR (fun hp7 => ?_)
  obtain ⟨g7, _⟩ := hp7
  replace g7 : Ag (pNum 1) _ (x : Int) := g7
  refine gp zfa ?_
  refine zs1 ?_
  refine gnt ?_
  refine gsr ?_
  refine gp zL ?_
  refine zc ?_ (c := fun w1 F1 F2 h1 h2 hd hst => idigests_ok (most := 68) h1 (hB.mv hst.still) hc hl (by decide))
  rintro ⟨a10, n10, c10, l10⟩
  refine gl_pureR (fun hp10 => ?_)
  obtain ⟨g10, k10, e10⟩ := hp10
  replace g10 : Ag (pList pDig 68) _ l10 := g10
  replace k10 : n10 ≤ c10 := k10
  refine gp zfa ?_
  refine zs1 ?_
  refine gnt ?_
  refine gsr ?_
  refine gp zL ?_
  refine zc ?_ (c := fun w1 F1 F2 h1 h2 hd hst => idigests_ok (most := 5) h1 (hB.mv hst.still) hc hl (by decide))
  rintro ⟨a13, n13, c13, l13⟩
  refine gl_pureR (fun hp13 => ?_)
  obtain ⟨g13, k13, e13⟩ := hp13
  replace g13 : Ag (pList pDig 5) _ l13 := g13
  replace k13 : n13 ≤ c13 := k13
  refine gp zfa ?_
  refine zs1 ?_
  refine gnt ?_
  refine gsr ?_
  refine gp (zLa (cs := [.int .i64 (x : Int), .slice a10 n10 c10, .slice a13 n13 c13])) ?_
  refine zsA (new := [.int .i64 (x : Int), .slice a10 n10 c10, .slice a13 n13 c13]) (by first | rfl | simp only [List.length_cons, List.length_append, List.length_nil, dc_length, len_L]) (by repeat (first | exact all_nil' | exact dc_one _ | exact One.h | refine all_cons' rfl ?_ | refine all_app' (dc_one _) ?_ | refine all_app' One.h ?_)) ?_
  refine gnt ?_
  refine gc_ret ?_
  refine gx_retc rfl rfl (ld_aggS Ty.row_49 Ty.sz_49 (by repeat (first | exact Pick.here | apply Pick.there)) (by (simp only [List.drop_succ_cons, List.drop_zero, List.take_succ_cons, List.take_zero, List.cons_append, List.nil_append, List.append_assoc, drop_dc, drop_dc', take_dc, take_dc', drop_L, drop_L', take_L, take_L', len_L, Nat.reduceLeDiff, Nat.reduceSub, Nat.reduceAdd, Nat.le_refl, List.length_cons, List.length_append, List.length_nil, dc_length, List.drop_nil, List.take_nil, List.append_nil, List.length_map, List.length_replicate]; first | done | rfl)) (by first | rfl | (simp only [List.drop_succ_cons, List.drop_zero, List.take_succ_cons, List.take_zero, List.cons_append, List.nil_append, List.append_assoc, drop_dc, drop_dc', take_dc, take_dc', drop_L, drop_L', take_L, take_L', len_L, Nat.reduceLeDiff, Nat.reduceSub, Nat.reduceAdd, Nat.le_refl, List.length_cons, List.length_append, List.length_nil, dc_length, List.drop_nil, List.take_nil, List.append_nil, List.length_map, List.length_replicate]; first | done | omega))) ?_
  have ha : Ag pSig σ ⟨x, l10, l13⟩ := g7.bind (g10.bind (g13.bind (Ag.pure _)))
  have hr : rstep pSig σ = rstep (pList pDig 5) (rstep (pList pDig 68) (rstep (pNum 1) (σ))) := by rw [pSig, rstep_bind g7, rstep_bind g10, rstep_bind g13, rstep_pure]
  rw [hr]
  intro w' hw
  refine ⟨([.int .i64 (x : Int), .slice a10 n10 c10, .slice a13 n13 c13], ⟨x, l10, l13⟩), rfl, St.pureI ⟨ha, by first | rfl | simp only [List.length_cons, List.length_append, List.length_nil, dc_length, len_L] , all_cons' rfl (all_cons' rfl (all_cons' rfl all_nil'))⟩ ?_⟩
  exact (hw.conv (M := [LsR (fun _ _ => RdDig) 16 a10 n10 l10, LsR (fun _ _ => RdDig) 16 a13 n13 l13]) (by repeat (first | exact Sel.nil | (apply Sel.cons; · (repeat (first | exact Pick.here | apply Pick.there))))) (fun _ _ => vl_sig k10 k13)).sel (by repeat (first | exact Sel.nil | (apply Sel.cons; · (repeat (first | exact Pick.here | apply Pick.there)))))

set_option maxHeartbeats 400000 in
theorem isigned_ok {w : World} {F : Nat → Prop} {g c : Nat} {a : Option Addr} {B : List UInt8} {σ : RSt} (h : stars [InR g a c B σ] w F) (hB : RdRow w (fun k => ¬ F k) 1 a B.length (B.map B8)) (hc : B.length ≤ c) (hl : B.length ≤ 40000)  :
    Calls Tryz.prog 66 #[.agg (List.toArray [.pointer (some ⟨g, 0, none⟩)])] w (Post w F (fun r : List Value × Signed => .agg r.1.toArray) (fun r => [pureR (Ag pSigned σ r.2 ∧ r.1.length = 4 ∧ ∀ v ∈ r.1, v.oneCell' = true), VlR RdSigned r.1 r.2, InR g a c B (rstep pSigned σ)])) := by
  refine g_enter (env := [(0, .agg (List.toArray [.pointer (some ⟨g, 0, none⟩)]))]) Tryz.func66 rfl h Tryz.ntmps66 rfl rfl ?_
  refine gsr ?_
  refine zbN fun b1 => ?_
  refine zal fun b2 => ?_
  refine gl_eqc (cs' := (.int .i64 0 :: [.int .i64 0, .slice none 0 0, .slice none 0 0])) (by repeat (first | exact Pick.here | apply Pick.there)) (by kernel_rfl) ?_
  refine gnt ?_
  refine gsr ?_
  refine gp (r_build (cs := (.int .i64 0 :: [.int .i64 0, .slice none 0 0, .slice none 0 0])) Ty.zc_51 Ty.pl_51 (by kernel_rfl)) ?_
  refine zal fun b3 => ?_
  refine gl_eqc (cs' := (.int .i64 0 :: [.int .i64 0, .slice none 0 0, .slice none 0 0])) (by repeat (first | exact Pick.here | apply Pick.there)) (by kernel_rfl) ?_
  refine zsA (new := (.int .i64 0 :: [.int .i64 0, .slice none 0 0, .slice none 0 0])) (by first | rfl | simp only [List.length_cons, List.length_append, List.length_nil, dc_length, len_L]) (by repeat (first | exact all_nil' | exact dc_one _ | exact One.h | refine all_cons' rfl ?_ | refine all_app' (dc_one _) ?_ | refine all_app' One.h ?_)) ?_
  refine gnt ?_
  refine gsr ?_
  refine gp zfa ?_
  refine gp zl ?_
  refine zc (fun x => ?_) (c := fun w1 F1 F2 h1 h2 hd hst => inum_ok (wd := 1) h1 (hB.mv hst.still) hc hl (by decide) (by decide))
  refine gl_pureR (fun hp7 => ?_)
  obtain ⟨g7, _⟩ := hp7
  replace g7 : Ag (pNum 1) _ (x : Int) := g7
  refine gp zfa ?_
  refine zs1 ?_
  refine gnt ?_
  refine gsr ?_
  refine gp zL ?_
  refine zc ?_ (c := fun w1 F1 F2 h1 h2 hd hst => isig_ok h1 (hB.mv hst.still) hc hl)
  rintro ⟨q10, v10⟩
  refine gl_pureR (fun hp10 => ?_)
  obtain ⟨g10, z10, o10⟩ := hp10
  replace z10 : q10.length = _ := z10
  replace g10 : Ag pSig _ v10 := g10
  have i10 := Len.of z10
  have j10 := One.of (show ∀ v ∈ q10, v.oneCell' = true from o10)
  refine gp zfa ?_
  refine zsN ?_
  refine gnt ?_
  refine gsr ?_
  refine gp (zLa (cs := .int .i64 (x : Int) :: q10)) ?_
  refine zsA (new := (.int .i64 (x : Int) :: q10)) (by first | rfl | simp only [List.length_cons, List.length_append, List.length_nil, dc_length, len_L]) (by repeat (first | exact all_nil' | exact dc_one _ | exact One.h | refine all_cons' rfl ?_ | refine all_app' (dc_one _) ?_ | refine all_app' One.h ?_)) ?_
  refine gnt ?_
  refine gc_ret ?_
  refine gx_retc rfl rfl (ld_aggS Ty.row_51 Ty.sz_51 (by repeat (first | exact Pick.here | apply Pick.there)) (by (simp only [List.drop_succ_cons, List.drop_zero, List.take_succ_cons, List.take_zero, List.cons_append, List.nil_append, List.append_assoc, drop_dc, drop_dc', take_dc, take_dc', drop_L, drop_L', take_L, take_L', len_L, Nat.reduceLeDiff, Nat.reduceSub, Nat.reduceAdd, Nat.le_refl, List.length_cons, List.length_append, List.length_nil, dc_length, List.drop_nil, List.take_nil, List.append_nil, List.length_map, List.length_replicate]; first | done | rfl)) (by first | rfl | (simp only [List.drop_succ_cons, List.drop_zero, List.take_succ_cons, List.take_zero, List.cons_append, List.nil_append, List.append_assoc, drop_dc, drop_dc', take_dc, take_dc', drop_L, drop_L', take_L, take_L', len_L, Nat.reduceLeDiff, Nat.reduceSub, Nat.reduceAdd, Nat.le_refl, List.length_cons, List.length_append, List.length_nil, dc_length, List.drop_nil, List.take_nil, List.append_nil, List.length_map, List.length_replicate]; first | done | omega))) ?_
  have ha : Ag pSigned σ ⟨x, v10⟩ := g7.bind (g10.bind (Ag.pure _))
  have hr : rstep pSigned σ = rstep pSig (rstep (pNum 1) (σ)) := by rw [pSigned, rstep_bind g7, rstep_bind g10, rstep_pure]
  rw [hr]
  intro w' hw
  refine ⟨(.int .i64 (x : Int) :: q10, ⟨x, v10⟩), rfl, St.pureI ⟨ha, by first | rfl | simp only [List.length_cons, List.length_append, List.length_nil, dc_length, len_L] , all_cons' rfl o10⟩ ?_⟩
  exact (hw.conv (M := [VlR RdSig q10 v10]) (by repeat (first | exact Sel.nil | (apply Sel.cons; · (repeat (first | exact Pick.here | apply Pick.there))))) (fun _ _ => vl_signed)).sel (by repeat (first | exact Sel.nil | (apply Sel.cons; · (repeat (first | exact Pick.here | apply Pick.there)))))

set_option maxHeartbeats 400000 in
theorem iqc_ok {w : World} {F : Nat → Prop} {g c : Nat} {a : Option Addr} {B : List UInt8} {σ : RSt} (h : stars [InR g a c B σ] w F) (hB : RdRow w (fun k => ¬ F k) 1 a B.length (B.map B8)) (hc : B.length ≤ c) (hl : B.length ≤ 40000)  :
    Calls Tryz.prog 67 #[.agg (List.toArray [.pointer (some ⟨g, 0, none⟩)])] w (Post w F (fun r : List Value × QC => .agg r.1.toArray) (fun r => [pureR (Ag pQC σ r.2 ∧ r.1.length = 19 ∧ ∀ v ∈ r.1, v.oneCell' = true), VlR RdQC r.1 r.2, InR g a c B (rstep pQC σ)])) := by
  refine g_enter (env := [(0, .agg (List.toArray [.pointer (some ⟨g, 0, none⟩)]))]) Tryz.func67 rfl h Tryz.ntmps67 rfl rfl ?_
  refine gsr ?_
  refine zbN fun b1 => ?_
  refine zal fun b2 => ?_
  refine gl_eqc (cs' := (.int .i64 0 :: .int .i64 0 :: (dc dig0 ++ [.slice none 0 0]))) (by repeat (first | exact Pick.here | apply Pick.there)) (by kernel_rfl) ?_
  refine gnt ?_
  refine gsr ?_
  refine gp (r_build (cs := (.int .i64 0 :: .int .i64 0 :: (dc dig0 ++ [.slice none 0 0]))) Ty.zc_26 Ty.pl_26 (by kernel_rfl)) ?_
  refine zal fun b3 => ?_
  refine gl_eqc (cs' := (.int .i64 0 :: .int .i64 0 :: (dc dig0 ++ [.slice none 0 0]))) (by repeat (first | exact Pick.here | apply Pick.there)) (by kernel_rfl) ?_
  refine zsA (new := (.int .i64 0 :: .int .i64 0 :: (dc dig0 ++ [.slice none 0 0]))) (by first | rfl | simp only [List.length_cons, List.length_append, List.length_nil, dc_length, len_L]) (by repeat (first | exact all_nil' | exact dc_one _ | exact One.h | refine all_cons' rfl ?_ | refine all_app' (dc_one _) ?_ | refine all_app' One.h ?_)) ?_
  refine gnt ?_
  refine gsr ?_
  refine gp zfa ?_
  refine gp zl ?_
  refine zc (fun x9 => ?_) (c := fun w1 F1 F2 h1 h2 hd hst => inum_ok (wd := 4) h1 (hB.mv hst.still) hc hl (by decide) (by decide))
  refine gl_pureR (fun hp9 => ?_)
  obtain ⟨g9, _⟩ := hp9
  replace g9 : Ag (pNum 4) _ (x9 : Int) := g9
  refine gp zfa ?_
  refine zs1 ?_
  refine gnt ?_
  refine gsr ?_
  refine gp zfa ?_
  refine gp zl ?_
  refine zc (fun y13 => ?_) (c := fun w1 F1 F2 h1 h2 hd hst => inum_ok (wd := 6) h1 (hB.mv hst.still) hc hl (by decide) (by decide))
  refine gl_pureR (fun hp13 => ?_)
  obtain ⟨g13, _⟩ := hp13
  replace g13 : Ag (pNum 6) _ (y13 : Int) := g13
  have gA13 : Ag pAt σ ((x9 : Int), (y13 : Int)) := g9.bind (g13.bind (Ag.pure _))
  have rA13 : rstep pAt σ = rstep (pNum 6) (rstep (pNum 4) σ) := by rw [pAt, rstep_bind g9, rstep_bind g13, rstep_pure]
  rw [← rA13]
  refine gp zfa ?_
  refine zs1 ?_
  refine gnt ?_
  refine gsr ?_
  refine gp zL ?_
  refine zc (fun d16 => ?_) (c := fun w1 F1 F2 h1 h2 hd hst => idigest_ok h1 (hB.mv hst.still) hc hl)
  refine gl_pureR (fun g16 => ?_)
  replace g16 : Ag pDig _ d16 := g16
  refine gp zfa ?_
  refine zsN ?_
  refine gnt ?_
  refine gsr ?_
  refine gp zfa ?_
  refine gp zl ?_
  refine zc ?_ (c := fun w1 F1 F2 h1 h2 hd hst => imany_ok (most := 7) h1 (hB.mv hst.still) hc hl (by decide))
  rintro ⟨vx, x⟩
  refine gl_pureR (fun hp20 => ?_)
  obtain ⟨hxx, hvx, hwx⟩ := hp20
  replace hxx : Ag (pNum 1) _ (x : Int) := hxx
  replace hvx : vx = x ∨ errOf (mSt 7 _ x) ≠ 0 := hvx
  replace hwx : vx ≤ 255 := hwx
  refine gp zas ?_
  refine gnt ?_
  refine gc_seq ?_
  refine gsr ?_
  refine gp zas ?_
  refine gnt ?_
  refine gc_block ?_
  refine gc_loop (α := Nat × RSt × Option Addr × Nat × List (List Value) × List Signed) (fun y => [pureR (y.1 ≤ vx ∧ (vx = x ∨ errOf y.2.1 ≠ 0) ∧ Many pSigned x (mSt 7 (rstep pDig (rstep pAt σ)) x) (x - y.1) y.2.1 y.2.2.2.2.2 ∧ (∀ c ∈ y.2.2.2.2.1, c.length = 4 ∧ ∀ v ∈ c, v.oneCell' = true) ∧ y.2.2.2.2.2.length = y.1), rowR 51 4 y.2.2.1 y.1 y.2.2.2.1 y.2.2.2.2.1.flatten, ElR (RdSigned) y.2.2.2.2.1 y.2.2.2.2.2, blk b3 26 (.int .i64 (x9 : Int) :: .int .i64 (y13 : Int) :: (dc d16 ++ [.slice y.2.2.1 y.1 y.2.2.2.1])), blk b1 143 [.pointer (some ⟨g, 0, none⟩)], blk b2 26 (.int .i64 0 :: .int .i64 0 :: (dc dig0 ++ [.slice none 0 0])), InR g a c B y.2.1]) (fun y => [(5, .int .i64 (y.1 : Int))]) [21, 22, 23, 24, 25, 26, 27, 28, 29, 30, 31, 32, 33, 34, 35, 36, 37, 38, 39, 40] (fun y => vx - y.1) (0, (mSt 7 (rstep pDig (rstep pAt σ)) x), none, 0, [], []) ?_ ?_ ?_
  · refine env_start (by kernel_rfl)
  · exact fun w' hw => zlp ⟨Nat.zero_le _, hvx, Many.start, (by intro c hc; cases hc), rfl⟩ (by repeat (first | exact Sel.nil | (apply Sel.cons; · (repeat (first | exact Pick.here | apply Pick.there))))) w' (hw.mapL fun F' hF' => stars_row_nil (e := 51) (size := 4) (el_nil (rd := RdSigned) hF'))
  · intro y u
    obtain ⟨ky, τy, ay, cy, cssy, ly⟩ := y
    refine gc_pureR (fun hk => ?_)
    obtain ⟨hky, hvxy, hmanyy, hcs0, hlly⟩ := hk
    replace hky : ky ≤ vx := hky
    replace hlly : ly.length = ky := hlly
    have hcs1y : ∀ c ∈ cssy, ∀ v ∈ c, v.oneCell' = true := fun c hc => (hcs0 c hc).2
    have hcssy : ∀ c ∈ cssy, c.length = 4 := fun c hc => (hcs0 c hc).1
    replace hvxy : vx = x ∨ errOf τy ≠ 0 := hvxy
    replace hmanyy : Many pSigned x (mSt 7 (rstep pDig (rstep pAt σ)) x) (x - ky) τy ly := hmanyy
    refine gc_seq ?_
    refine gc_seq ?_
    by_cases hkxy : ky < vx
    · refine gc_region ?_
      refine gp zmv ?_
      refine gp zmv ?_
      refine gp (r_bool (c := true) zlt (decide_eq_true (by omega))) ?_
      refine gp zmv ?_
      refine gq zfa ?_
      refine gq zl ?_
      refine gq znc ?_
      refine gq zfa ?_
      refine gq (r_inerr rfl Ty.row_3 (by repeat (first | exact Pick.here | apply Pick.there))) ?_
      refine gq zei ?_
      refine gp zpk ?_
      refine gnt ?_
      refine gif rfl (fun hc31 => ?_) (fun hc31 => ?_)
      · try simp only at hc31
        have he2 : errOf τy = 0 := by omega
        have hvq : vx = x := hvxy.resolve_right (fun h => h he2)
        refine gc_skip ?_
        refine gx_then ?_
        refine gc_seq ?_
        refine gc_block ?_
        refine gc_regionZ 7 ([blk b1 143 [.pointer (some ⟨g, 0, none⟩)], blk b3 26 (.int .i64 (x9 : Int) :: .int .i64 (y13 : Int) :: (dc d16 ++ [.slice ay ky cy]))]) ?_
        refine yps 0 rfl zfa ?_
        refine yps 1 rfl zl ?_
        refine yps 2 rfl zL ?_
        refine yos 3 rfl ?_
        refine zc ?_ (c := fun w1 F1 F2 h1 h2 hd hst => isigned_ok h1 (hB.mv hst.still) hc hl)
        rintro ⟨cs, v⟩
        refine gl_pureR (fun hpe => ?_)
        obtain ⟨hag, hcl, hco⟩ := hpe
        replace hcl : cs.length = _ := hcl
        replace hag : Ag pSigned _ v := hag
        have i1 := Len.of hcl
        have i2 := One.of (show ∀ v ∈ cs, v.oneCell' = true from hco)
        refine yxs ?_
        refine yos 4 rfl ?_
        refine zeN fun b38 => ?_
        refine yxs ?_
        refine yos 5 rfl ?_
        refine zapo (news := cs) (fun a39 c39 => ?_)
        refine yxs ?_
        refine yps 6 rfl zfa ?_
        refine yzs rfl ?_
        refine zs1 ?_
        refine gl_nil ?_
        refine gx_block_normal ?_
        refine gx_then ?_
        refine gc_region ?_
        refine gp zmv ?_
        refine gp zad ?_
        refine gp zas ?_
        refine gl_nil ?_
        refine zrd ((ky + 1, rstep pSigned τy, a39, c39, cssy ++ [cs], ly ++ [v])) ?_ ?_
        · show vx - (ky + 1) < vx - ky
          omega
        · rintro w' hw
          have h1 := hw.conv (M := [ElR (RdSigned) cssy ly, VlR (RdSigned) cs v]) (by repeat (first | exact Sel.nil | (apply Sel.cons; · (repeat (first | exact Pick.here | apply Pick.there))))) (fun _ _ => el_snoc)
          refine zlq (M' := [rowR 51 4 a39 (ky + 1) c39 (cssy.flatten ++ cs), ElR (RdSigned) (cssy ++ [cs]) (ly ++ [v]), blk b3 26 (.int .i64 (x9 : Int) :: .int .i64 (y13 : Int) :: (dc d16 ++ [.slice a39 (ky + 1) c39])), blk b1 143 [.pointer (some ⟨g, 0, none⟩)], blk b2 26 (.int .i64 0 :: .int .i64 0 :: (dc dig0 ++ [.slice none 0 0])), InR g a c B (rstep pSigned τy)]) ⟨?_, ?_, ?_, ?_, ?_⟩ (by simp) (by repeat (first | exact Sel.nil | (apply Sel.cons; · (repeat (first | exact Pick.here | apply Pick.there))))) w' h1
          · show ky + 1 ≤ vx; omega
          · exact .inl hvq
          · rw [show x - ky = x - (ky + 1) + 1 by omega] at hmanyy; exact hmanyy.next hag
          · intro c' hc'; rcases List.mem_append.1 hc' with h | h; exact ⟨hcssy c' h, hcs1y c' h⟩; rw [List.mem_singleton.1 h]; exact ⟨hcl, hco⟩
          · simp [hlly]
      · try simp only at hc31
        have he2 : ¬ errOf τy = 0 := by omega
        refine gc_exit ?_
        refine gx_then_exit ?_
        refine gx_round_exit ?_
        refine gx_block_hit ?_
        refine gx_then ?_
        refine gsr ?_
        refine gp (zLa (cs := (.int .i64 (x9 : Int) :: .int .i64 (y13 : Int) :: (dc d16 ++ [.slice ay ky cy])))) ?_
        refine zsA (new := (.int .i64 (x9 : Int) :: .int .i64 (y13 : Int) :: (dc d16 ++ [.slice ay ky cy]))) (by first | rfl | simp only [List.length_cons, List.length_append, List.length_nil, dc_length, len_L]) (by repeat (first | exact all_nil' | exact dc_one _ | exact One.h | refine all_cons' rfl ?_ | refine all_app' (dc_one _) ?_ | refine all_app' One.h ?_)) ?_
        refine gnt ?_
        refine gc_ret ?_
        refine gx_retc rfl rfl (ld_aggS Ty.row_26 Ty.sz_26 (by repeat (first | exact Pick.here | apply Pick.there)) (by (simp only [List.drop_succ_cons, List.drop_zero, List.take_succ_cons, List.take_zero, List.cons_append, List.nil_append, List.append_assoc, drop_dc, drop_dc', take_dc, take_dc', drop_L, drop_L', take_L, take_L', len_L, Nat.reduceLeDiff, Nat.reduceSub, Nat.reduceAdd, Nat.le_refl, List.length_cons, List.length_append, List.length_nil, dc_length, List.drop_nil, List.take_nil, List.append_nil, List.length_map, List.length_replicate]; first | done | rfl)) (by first | rfl | (simp only [List.drop_succ_cons, List.drop_zero, List.take_succ_cons, List.take_zero, List.cons_append, List.nil_append, List.append_assoc, drop_dc, drop_dc', take_dc, take_dc', drop_L, drop_L', take_L, take_L', len_L, Nat.reduceLeDiff, Nat.reduceSub, Nat.reduceAdd, Nat.le_refl, List.length_cons, List.length_append, List.length_nil, dc_length, List.drop_nil, List.take_nil, List.append_nil, List.length_map, List.length_replicate]; first | done | omega))) ?_
        have hcs2 : (if errOf (rstep (pNum 1) (rstep pDig (rstep pAt σ))) = 0 ∧ 7 < x then failE 1 (rstep (pNum 1) (rstep pDig (rstep pAt σ))) else rstep (pNum 1) (rstep pDig (rstep pAt σ))) = mSt 7 (rstep pDig (rstep pAt σ)) x := rfl
        have hdy : rstep (pMany pSigned x) (mSt 7 (rstep pDig (rstep pAt σ)) x) = τy ∧ Ag (pMany pSigned x) (mSt 7 (rstep pDig (rstep pAt σ)) x) ly := by by_cases he3 : errOf τy = 0 <;> first | (have hb := hmanyy.bad he3; exact ⟨hb.1, hb.2 _⟩) | (have hvq := hvxy.resolve_right (fun h => h he3); have hm0 : x - ky = 0 := (by omega); rw [hm0] at hmanyy; exact hmanyy.done)
        have hfiny := list_fin hxx hcs2 hdy
        have gL := hfiny.2
        have ha : Ag pQC σ ⟨x9, y13, d16, ly⟩ := gA13.bind (g16.bind (gL.bind (Ag.pure _)))
        have hr : rstep pQC σ = rstep (pList pSigned 7) (rstep pDig (rstep pAt (σ))) := by rw [pQC, rstep_bind gA13, rstep_bind g16, rstep_bind gL, rstep_pure]
        rw [hr]
        rw [hfiny.1]
        intro w' hw
        have hle := (hw.rowLe (e := 51) (size := 4) (a := ay) (m := ky) (c := cy) (xs := cssy.flatten) (by repeat (first | exact Pick.here | apply Pick.there))).1
        refine ⟨((.int .i64 (x9 : Int) :: .int .i64 (y13 : Int) :: (dc d16 ++ [.slice ay ky cy])), ⟨x9, y13, d16, ly⟩), rfl, St.pureI ⟨ha, by first | rfl | simp only [List.length_cons, List.length_append, List.length_nil, dc_length, len_L] , all_cons' rfl (all_cons' rfl (all_app' (dc_one _) (all_cons' rfl all_nil')))⟩ ?_⟩
        exact (hw.conv (M := [rowR 51 4 ay ky cy cssy.flatten, ElR RdSigned cssy ly]) (by repeat (first | exact Sel.nil | (apply Sel.cons; · (repeat (first | exact Pick.here | apply Pick.there))))) (fun _ _ hh => vl_qc hle (ls_of hcssy hh))).sel (by repeat (first | exact Sel.nil | (apply Sel.cons; · (repeat (first | exact Pick.here | apply Pick.there)))))
    · refine gc_region ?_
      refine gp zmv ?_
      refine gp zmv ?_
      refine gp (r_bool (c := false) zlt (decide_eq_false (by omega))) ?_
      refine gp zmv ?_
      refine gn ?_
      refine gn ?_
      refine gn ?_
      refine gn ?_
      refine gn ?_
      refine gn ?_
      refine gp zpk ?_
      refine gnt ?_
      refine gc_condF rfl rfl ?_
      refine gc_exit ?_
      refine gx_then_exit ?_
      refine gx_round_exit ?_
      refine gx_block_hit ?_
      refine gx_then ?_
      refine gsr ?_
      refine gp (zLa (cs := (.int .i64 (x9 : Int) :: .int .i64 (y13 : Int) :: (dc d16 ++ [.slice ay ky cy])))) ?_
      refine zsA (new := (.int .i64 (x9 : Int) :: .int .i64 (y13 : Int) :: (dc d16 ++ [.slice ay ky cy]))) (by first | rfl | simp only [List.length_cons, List.length_append, List.length_nil, dc_length, len_L]) (by repeat (first | exact all_nil' | exact dc_one _ | exact One.h | refine all_cons' rfl ?_ | refine all_app' (dc_one _) ?_ | refine all_app' One.h ?_)) ?_
      refine gnt ?_
      refine gc_ret ?_
      refine gx_retc rfl rfl (ld_aggS Ty.row_26 Ty.sz_26 (by repeat (first | exact Pick.here | apply Pick.there)) (by (simp only [List.drop_succ_cons, List.drop_zero, List.take_succ_cons, List.take_zero, List.cons_append, List.nil_append, List.append_assoc, drop_dc, drop_dc', take_dc, take_dc', drop_L, drop_L', take_L, take_L', len_L, Nat.reduceLeDiff, Nat.reduceSub, Nat.reduceAdd, Nat.le_refl, List.length_cons, List.length_append, List.length_nil, dc_length, List.drop_nil, List.take_nil, List.append_nil, List.length_map, List.length_replicate]; first | done | rfl)) (by first | rfl | (simp only [List.drop_succ_cons, List.drop_zero, List.take_succ_cons, List.take_zero, List.cons_append, List.nil_append, List.append_assoc, drop_dc, drop_dc', take_dc, take_dc', drop_L, drop_L', take_L, take_L', len_L, Nat.reduceLeDiff, Nat.reduceSub, Nat.reduceAdd, Nat.le_refl, List.length_cons, List.length_append, List.length_nil, dc_length, List.drop_nil, List.take_nil, List.append_nil, List.length_map, List.length_replicate]; first | done | omega))) ?_
      have hcs2 : (if errOf (rstep (pNum 1) (rstep pDig (rstep pAt σ))) = 0 ∧ 7 < x then failE 1 (rstep (pNum 1) (rstep pDig (rstep pAt σ))) else rstep (pNum 1) (rstep pDig (rstep pAt σ))) = mSt 7 (rstep pDig (rstep pAt σ)) x := rfl
      have hdy : rstep (pMany pSigned x) (mSt 7 (rstep pDig (rstep pAt σ)) x) = τy ∧ Ag (pMany pSigned x) (mSt 7 (rstep pDig (rstep pAt σ)) x) ly := by by_cases he3 : errOf τy = 0 <;> first | (have hb := hmanyy.bad he3; exact ⟨hb.1, hb.2 _⟩) | (have hvq := hvxy.resolve_right (fun h => h he3); have hm0 : x - ky = 0 := (by omega); rw [hm0] at hmanyy; exact hmanyy.done)
      have hfiny := list_fin hxx hcs2 hdy
      have gL := hfiny.2
      have ha : Ag pQC σ ⟨x9, y13, d16, ly⟩ := gA13.bind (g16.bind (gL.bind (Ag.pure _)))
      have hr : rstep pQC σ = rstep (pList pSigned 7) (rstep pDig (rstep pAt (σ))) := by rw [pQC, rstep_bind gA13, rstep_bind g16, rstep_bind gL, rstep_pure]
      rw [hr]
      rw [hfiny.1]
      intro w' hw
      have hle := (hw.rowLe (e := 51) (size := 4) (a := ay) (m := ky) (c := cy) (xs := cssy.flatten) (by repeat (first | exact Pick.here | apply Pick.there))).1
      refine ⟨((.int .i64 (x9 : Int) :: .int .i64 (y13 : Int) :: (dc d16 ++ [.slice ay ky cy])), ⟨x9, y13, d16, ly⟩), rfl, St.pureI ⟨ha, by first | rfl | simp only [List.length_cons, List.length_append, List.length_nil, dc_length, len_L] , all_cons' rfl (all_cons' rfl (all_app' (dc_one _) (all_cons' rfl all_nil')))⟩ ?_⟩
      exact (hw.conv (M := [rowR 51 4 ay ky cy cssy.flatten, ElR RdSigned cssy ly]) (by repeat (first | exact Sel.nil | (apply Sel.cons; · (repeat (first | exact Pick.here | apply Pick.there))))) (fun _ _ hh => vl_qc hle (ls_of hcssy hh))).sel (by repeat (first | exact Sel.nil | (apply Sel.cons; · (repeat (first | exact Pick.here | apply Pick.there)))))

set_option maxHeartbeats 400000 in
theorem itc_ok {w : World} {F : Nat → Prop} {g c : Nat} {a : Option Addr} {B : List UInt8} {σ : RSt} (h : stars [InR g a c B σ] w F) (hB : RdRow w (fun k => ¬ F k) 1 a B.length (B.map B8)) (hc : B.length ≤ c) (hl : B.length ≤ 40000)  :
    Calls Tryz.prog 68 #[.agg (List.toArray [.pointer (some ⟨g, 0, none⟩)])] w (Post w F (fun r : List Value × TC => .agg r.1.toArray) (fun r => [pureR (Ag pTC σ r.2 ∧ r.1.length = 3 ∧ ∀ v ∈ r.1, v.oneCell' = true), VlR RdTC r.1 r.2, InR g a c B (rstep pTC σ)])) := by
  refine g_enter (env := [(0, .agg (List.toArray [.pointer (some ⟨g, 0, none⟩)]))]) Tryz.func68 rfl h Tryz.ntmps68 rfl rfl ?_
  refine gsr ?_
  refine zbN fun b1 => ?_
  refine zal fun b2 => ?_
  refine gl_eqc (cs' := [.int .i64 0, .int .i64 0, .slice none 0 0]) (by repeat (first | exact Pick.here | apply Pick.there)) (by kernel_rfl) ?_
  refine gnt ?_
  refine gsr ?_
  refine gp (r_build (cs := [.int .i64 0, .int .i64 0, .slice none 0 0]) Ty.zc_56 Ty.pl_56 (by kernel_rfl)) ?_
  refine zal fun b3 => ?_
  refine gl_eqc (cs' := [.int .i64 0, .int .i64 0, .slice none 0 0]) (by repeat (first | exact Pick.here | apply Pick.there)) (by kernel_rfl) ?_
  refine zsA (new := [.int .i64 0, .int .i64 0, .slice none 0 0]) (by first | rfl | simp only [List.length_cons, List.length_append, List.length_nil, dc_length, len_L]) (by repeat (first | exact all_nil' | exact dc_one _ | exact One.h | refine all_cons' rfl ?_ | refine all_app' (dc_one _) ?_ | refine all_app' One.h ?_)) ?_
  refine gnt ?_
  refine gsr ?_
  refine gp zfa ?_
  refine gp zl ?_
  refine zc (fun x10 => ?_) (c := fun w1 F1 F2 h1 h2 hd hst => inum_ok (wd := 4) h1 (hB.mv hst.still) hc hl (by decide) (by decide))
  refine gl_pureR (fun hp10 => ?_)
  obtain ⟨g10, _⟩ := hp10
  replace g10 : Ag (pNum 4) _ (x10 : Int) := g10
  refine gp zfa ?_
  refine zs1 ?_
  refine gnt ?_
  refine gsr ?_
  refine gp zfa ?_
  refine gp zl ?_
  refine zc (fun y14 => ?_) (c := fun w1 F1 F2 h1 h2 hd hst => inum_ok (wd := 6) h1 (hB.mv hst.still) hc hl (by decide) (by decide))
  refine gl_pureR (fun hp14 => ?_)
  obtain ⟨g14, _⟩ := hp14
  replace g14 : Ag (pNum 6) _ (y14 : Int) := g14
  have gA14 : Ag pAt σ ((x10 : Int), (y14 : Int)) := g10.bind (g14.bind (Ag.pure _))
  have rA14 : rstep pAt σ = rstep (pNum 6) (rstep (pNum 4) σ) := by rw [pAt, rstep_bind g10, rstep_bind g14, rstep_pure]
  rw [← rA14]
  refine gp zfa ?_
  refine zs1 ?_
  refine gnt ?_
  refine gsr ?_
  refine gp zfa ?_
  refine gp zl ?_
  refine zc ?_ (c := fun w1 F1 F2 h1 h2 hd hst => imany_ok (most := 7) h1 (hB.mv hst.still) hc hl (by decide))
  rintro ⟨vx, x⟩
  refine gl_pureR (fun hp18 => ?_)
  obtain ⟨hxx, hvx, hwx⟩ := hp18
  replace hxx : Ag (pNum 1) _ (x : Int) := hxx
  replace hvx : vx = x ∨ errOf (mSt 7 _ x) ≠ 0 := hvx
  replace hwx : vx ≤ 255 := hwx
  refine gp zas ?_
  refine gnt ?_
  refine gc_seq ?_
  refine gsr ?_
  refine gp zas ?_
  refine gnt ?_
  refine gc_block ?_
  refine gc_loop (α := Nat × RSt × Option Addr × Nat × List (List Value) × List Late) (fun y => [pureR (y.1 ≤ vx ∧ (vx = x ∨ errOf y.2.1 ≠ 0) ∧ Many pLate x (mSt 7 (rstep pAt σ) x) (x - y.1) y.2.1 y.2.2.2.2.2 ∧ (∀ c ∈ y.2.2.2.2.1, c.length = 5 ∧ ∀ v ∈ c, v.oneCell' = true) ∧ y.2.2.2.2.2.length = y.1), rowR 179 5 y.2.2.1 y.1 y.2.2.2.1 y.2.2.2.2.1.flatten, ElR (RdLate) y.2.2.2.2.1 y.2.2.2.2.2, blk b3 56 [.int .i64 (x10 : Int), .int .i64 (y14 : Int), .slice y.2.2.1 y.1 y.2.2.2.1], blk b1 143 [.pointer (some ⟨g, 0, none⟩)], blk b2 56 [.int .i64 0, .int .i64 0, .slice none 0 0], InR g a c B y.2.1]) (fun y => [(5, .int .i64 (y.1 : Int))]) [6, 19, 20, 21, 22, 23, 24, 25, 26, 27, 28, 29, 30, 31, 32, 33, 34, 35, 36, 37, 38, 39, 40, 41, 42, 43, 44, 45, 46, 47, 48, 49] (fun y => vx - y.1) (0, (mSt 7 (rstep pAt σ) x), none, 0, [], []) ?_ ?_ ?_
  · refine env_start (by kernel_rfl)
  · exact fun w' hw => zlp ⟨Nat.zero_le _, hvx, Many.start, (by intro c hc; cases hc), rfl⟩ (by repeat (first | exact Sel.nil | (apply Sel.cons; · (repeat (first | exact Pick.here | apply Pick.there))))) w' (hw.mapL fun F' hF' => stars_row_nil (e := 179) (size := 5) (el_nil (rd := RdLate) hF'))
  · intro y u
    obtain ⟨ky, τy, ay, cy, cssy, ly⟩ := y
    refine gc_pureR (fun hk => ?_)
    obtain ⟨hky, hvxy, hmanyy, hcs0, hlly⟩ := hk
    replace hky : ky ≤ vx := hky
    replace hlly : ly.length = ky := hlly
    have hcs1y : ∀ c ∈ cssy, ∀ v ∈ c, v.oneCell' = true := fun c hc => (hcs0 c hc).2
    have hcssy : ∀ c ∈ cssy, c.length = 5 := fun c hc => (hcs0 c hc).1
    replace hvxy : vx = x ∨ errOf τy ≠ 0 := hvxy
    replace hmanyy : Many pLate x (mSt 7 (rstep pAt σ) x) (x - ky) τy ly := hmanyy
    refine gc_seq ?_
    refine gc_seq ?_
    by_cases hkxy : ky < vx
    · refine gc_region ?_
      refine gp zmv ?_
      refine gp zmv ?_
      refine gp (r_bool (c := true) zlt (decide_eq_true (by omega))) ?_
      refine gp zmv ?_
      refine gq zfa ?_
      refine gq zl ?_
      refine gq znc ?_
      refine gq zfa ?_
      refine gq (r_inerr rfl Ty.row_3 (by repeat (first | exact Pick.here | apply Pick.there))) ?_
      refine gq zei ?_
      refine gp zpk ?_
      refine gnt ?_
      refine gif rfl (fun hc29 => ?_) (fun hc29 => ?_)
      · try simp only at hc29
        have he2 : errOf τy = 0 := by omega
        have hvq : vx = x := hvxy.resolve_right (fun h => h he2)
        refine gc_skip ?_
        refine gx_then ?_
        refine gc_seq ?_
        refine gc_block ?_
        refine gsr ?_
        refine gp (r_build (cs := (.int .i64 0 :: .int .i64 0 :: [.int .i64 0, .slice none 0 0, .slice none 0 0])) Ty.zc_179 Ty.pl_179 (by kernel_rfl)) ?_
        refine zal fun b6 => ?_
        refine gl_eqc (cs' := (.int .i64 0 :: .int .i64 0 :: [.int .i64 0, .slice none 0 0, .slice none 0 0])) (by repeat (first | exact Pick.here | apply Pick.there)) (by kernel_rfl) ?_
        refine zsA (new := (.int .i64 0 :: .int .i64 0 :: [.int .i64 0, .slice none 0 0, .slice none 0 0])) (by first | rfl | simp only [List.length_cons, List.length_append, List.length_nil, dc_length, len_L]) (by repeat (first | exact all_nil' | exact dc_one _ | exact One.h | refine all_cons' rfl ?_ | refine all_app' (dc_one _) ?_ | refine all_app' One.h ?_)) ?_
        refine gnt ?_
        refine gsr ?_
        refine gp zfa ?_
        refine gp zl ?_
        refine zc (fun x35 => ?_) (c := fun w1 F1 F2 h1 h2 hd hst => inum_ok (wd := 1) h1 (hB.mv hst.still) hc hl (by decide) (by decide))
        refine gl_pureR (fun hp35 => ?_)
        obtain ⟨g35, _⟩ := hp35
        replace g35 : Ag (pNum 1) _ (x35 : Int) := g35
        refine gp zfa ?_
        refine zs1 ?_
        refine gnt ?_
        refine gsr ?_
        refine gp zfa ?_
        refine gp zl ?_
        refine zc (fun y39 => ?_) (c := fun w1 F1 F2 h1 h2 hd hst => inum_ok (wd := 6) h1 (hB.mv hst.still) hc hl (by decide) (by decide))
        refine gl_pureR (fun hp39 => ?_)
        obtain ⟨g39, _⟩ := hp39
        replace g39 : Ag (pNum 6) _ (y39 : Int) := g39
        refine gp zfa ?_
        refine zs1 ?_
        refine gnt ?_
        refine gsr ?_
        refine gp zL ?_
        refine zc ?_ (c := fun w1 F1 F2 h1 h2 hd hst => isig_ok h1 (hB.mv hst.still) hc hl)
        rintro ⟨q42, v42⟩
        refine gl_pureR (fun hp42 => ?_)
        obtain ⟨g42, z42, o42⟩ := hp42
        replace z42 : q42.length = _ := z42
        replace g42 : Ag pSig _ v42 := g42
        have i42 := Len.of z42
        have j42 := One.of (show ∀ v ∈ q42, v.oneCell' = true from o42)
        refine gp zfa ?_
        refine zsN ?_
        refine gnt ?_
        refine gc_region ?_
        refine gp zfa ?_
        refine gp zl ?_
        refine gp (zLa (cs := .int .i64 (x35 : Int) :: .int .i64 (y39 : Int) :: q42)) ?_
        obtain ⟨cs, hcs⟩ : ∃ cs, cs = .int .i64 (x35 : Int) :: .int .i64 (y39 : Int) :: q42 := ⟨_, rfl⟩
        obtain ⟨v, hv⟩ : ∃ v : Late, v = ⟨x35, y39, v42⟩ := ⟨_, rfl⟩
        have hcl : cs.length = 5 := by rw [hcs]; simp [z42]
        have hco : ∀ v ∈ cs, v.oneCell' = true := by rw [hcs]; exact all_cons' rfl (all_cons' rfl o42)
        have hag : Ag pLate τy v := by rw [hv]; exact g35.bind (g39.bind (g42.bind (Ag.pure _)))
        have hre : rstep pLate τy = rstep pSig (rstep (pNum 6) (rstep (pNum 1) τy)) := by rw [pLate, rstep_bind g35, rstep_bind g39, rstep_bind g42, rstep_pure]
        rw [← hre, ← hcs]
        have i1 := Len.of hcl
        have i2 := One.of hco
        refine gl_conv (M := [VlR RdSig q42 v42]) (N := [VlR RdLate cs v]) (by repeat (first | exact Sel.nil | (apply Sel.cons; · (repeat (first | exact Pick.here | apply Pick.there))))) (fun _ _ hh => by rw [hcs, hv]; exact vl_late hh) ?_
        refine zeN fun b47 => ?_
        refine zapo (news := cs) (fun a48 c48 => ?_)
        refine gp zfa ?_
        refine zs1 ?_
        refine gl_nil ?_
        refine gx_block_normal ?_
        refine gx_then ?_
        refine gc_region ?_
        refine gp zmv ?_
        refine gp zad ?_
        refine gp zas ?_
        refine gl_nil ?_
        refine zrd ((ky + 1, rstep pLate τy, a48, c48, cssy ++ [cs], ly ++ [v])) ?_ ?_
        · show vx - (ky + 1) < vx - ky
          omega
        · rintro w' hw
          have h1 := hw.conv (M := [ElR (RdLate) cssy ly, VlR (RdLate) cs v]) (by repeat (first | exact Sel.nil | (apply Sel.cons; · (repeat (first | exact Pick.here | apply Pick.there))))) (fun _ _ => el_snoc)
          refine zlq (M' := [rowR 179 5 a48 (ky + 1) c48 (cssy.flatten ++ cs), ElR (RdLate) (cssy ++ [cs]) (ly ++ [v]), blk b3 56 [.int .i64 (x10 : Int), .int .i64 (y14 : Int), .slice a48 (ky + 1) c48], blk b1 143 [.pointer (some ⟨g, 0, none⟩)], blk b2 56 [.int .i64 0, .int .i64 0, .slice none 0 0], InR g a c B (rstep pLate τy)]) ⟨?_, ?_, ?_, ?_, ?_⟩ (by simp) (by repeat (first | exact Sel.nil | (apply Sel.cons; · (repeat (first | exact Pick.here | apply Pick.there))))) w' h1
          · show ky + 1 ≤ vx; omega
          · exact .inl hvq
          · rw [show x - ky = x - (ky + 1) + 1 by omega] at hmanyy; exact hmanyy.next hag
          · intro c' hc'; rcases List.mem_append.1 hc' with h | h; exact ⟨hcssy c' h, hcs1y c' h⟩; rw [List.mem_singleton.1 h]; exact ⟨hcl, hco⟩
          · simp [hlly]
      · try simp only at hc29
        have he2 : ¬ errOf τy = 0 := by omega
        refine gc_exit ?_
        refine gx_then_exit ?_
        refine gx_round_exit ?_
        refine gx_block_hit ?_
        refine gx_then ?_
        refine gsr ?_
        refine gp (zLa (cs := [.int .i64 (x10 : Int), .int .i64 (y14 : Int), .slice ay ky cy])) ?_
        refine zsA (new := [.int .i64 (x10 : Int), .int .i64 (y14 : Int), .slice ay ky cy]) (by first | rfl | simp only [List.length_cons, List.length_append, List.length_nil, dc_length, len_L]) (by repeat (first | exact all_nil' | exact dc_one _ | exact One.h | refine all_cons' rfl ?_ | refine all_app' (dc_one _) ?_ | refine all_app' One.h ?_)) ?_
        refine gnt ?_
        refine gc_ret ?_
        refine gx_retc rfl rfl (ld_aggS Ty.row_56 Ty.sz_56 (by repeat (first | exact Pick.here | apply Pick.there)) (by (simp only [List.drop_succ_cons, List.drop_zero, List.take_succ_cons, List.take_zero, List.cons_append, List.nil_append, List.append_assoc, drop_dc, drop_dc', take_dc, take_dc', drop_L, drop_L', take_L, take_L', len_L, Nat.reduceLeDiff, Nat.reduceSub, Nat.reduceAdd, Nat.le_refl, List.length_cons, List.length_append, List.length_nil, dc_length, List.drop_nil, List.take_nil, List.append_nil, List.length_map, List.length_replicate]; first | done | rfl)) (by first | rfl | (simp only [List.drop_succ_cons, List.drop_zero, List.take_succ_cons, List.take_zero, List.cons_append, List.nil_append, List.append_assoc, drop_dc, drop_dc', take_dc, take_dc', drop_L, drop_L', take_L, take_L', len_L, Nat.reduceLeDiff, Nat.reduceSub, Nat.reduceAdd, Nat.le_refl, List.length_cons, List.length_append, List.length_nil, dc_length, List.drop_nil, List.take_nil, List.append_nil, List.length_map, List.length_replicate]; first | done | omega))) ?_
        have hcs2 : (if errOf (rstep (pNum 1) (rstep pAt σ)) = 0 ∧ 7 < x then failE 1 (rstep (pNum 1) (rstep pAt σ)) else rstep (pNum 1) (rstep pAt σ)) = mSt 7 (rstep pAt σ) x := rfl
        have hdy : rstep (pMany pLate x) (mSt 7 (rstep pAt σ) x) = τy ∧ Ag (pMany pLate x) (mSt 7 (rstep pAt σ) x) ly := by by_cases he3 : errOf τy = 0 <;> first | (have hb := hmanyy.bad he3; exact ⟨hb.1, hb.2 _⟩) | (have hvq := hvxy.resolve_right (fun h => h he3); have hm0 : x - ky = 0 := (by omega); rw [hm0] at hmanyy; exact hmanyy.done)
        have hfiny := list_fin hxx hcs2 hdy
        have gL := hfiny.2
        have ha : Ag pTC σ ⟨x10, y14, ly⟩ := gA14.bind (gL.bind (Ag.pure _))
        have hr : rstep pTC σ = rstep (pList pLate 7) (rstep pAt (σ)) := by rw [pTC, rstep_bind gA14, rstep_bind gL, rstep_pure]
        rw [hr]
        rw [hfiny.1]
        intro w' hw
        have hle := (hw.rowLe (e := 179) (size := 5) (a := ay) (m := ky) (c := cy) (xs := cssy.flatten) (by repeat (first | exact Pick.here | apply Pick.there))).1
        refine ⟨([.int .i64 (x10 : Int), .int .i64 (y14 : Int), .slice ay ky cy], ⟨x10, y14, ly⟩), rfl, St.pureI ⟨ha, by first | rfl | simp only [List.length_cons, List.length_append, List.length_nil, dc_length, len_L] , all_cons' rfl (all_cons' rfl (all_cons' rfl all_nil'))⟩ ?_⟩
        exact (hw.conv (M := [rowR 179 5 ay ky cy cssy.flatten, ElR RdLate cssy ly]) (by repeat (first | exact Sel.nil | (apply Sel.cons; · (repeat (first | exact Pick.here | apply Pick.there))))) (fun _ _ hh => vl_tc hle (ls_of hcssy hh))).sel (by repeat (first | exact Sel.nil | (apply Sel.cons; · (repeat (first | exact Pick.here | apply Pick.there)))))
    · refine gc_region ?_
      refine gp zmv ?_
      refine gp zmv ?_
      refine gp (r_bool (c := false) zlt (decide_eq_false (by omega))) ?_
      refine gp zmv ?_
      refine gn ?_
      refine gn ?_
      refine gn ?_
      refine gn ?_
      refine gn ?_
      refine gn ?_
      refine gp zpk ?_
      refine gnt ?_
      refine gc_condF rfl rfl ?_
      refine gc_exit ?_
      refine gx_then_exit ?_
      refine gx_round_exit ?_
      refine gx_block_hit ?_
      refine gx_then ?_
      refine gsr ?_
      refine gp (zLa (cs := [.int .i64 (x10 : Int), .int .i64 (y14 : Int), .slice ay ky cy])) ?_
      refine zsA (new := [.int .i64 (x10 : Int), .int .i64 (y14 : Int), .slice ay ky cy]) (by first | rfl | simp only [List.length_cons, List.length_append, List.length_nil, dc_length, len_L]) (by repeat (first | exact all_nil' | exact dc_one _ | exact One.h | refine all_cons' rfl ?_ | refine all_app' (dc_one _) ?_ | refine all_app' One.h ?_)) ?_
      refine gnt ?_
      refine gc_ret ?_
      refine gx_retc rfl rfl (ld_aggS Ty.row_56 Ty.sz_56 (by repeat (first | exact Pick.here | apply Pick.there)) (by (simp only [List.drop_succ_cons, List.drop_zero, List.take_succ_cons, List.take_zero, List.cons_append, List.nil_append, List.append_assoc, drop_dc, drop_dc', take_dc, take_dc', drop_L, drop_L', take_L, take_L', len_L, Nat.reduceLeDiff, Nat.reduceSub, Nat.reduceAdd, Nat.le_refl, List.length_cons, List.length_append, List.length_nil, dc_length, List.drop_nil, List.take_nil, List.append_nil, List.length_map, List.length_replicate]; first | done | rfl)) (by first | rfl | (simp only [List.drop_succ_cons, List.drop_zero, List.take_succ_cons, List.take_zero, List.cons_append, List.nil_append, List.append_assoc, drop_dc, drop_dc', take_dc, take_dc', drop_L, drop_L', take_L, take_L', len_L, Nat.reduceLeDiff, Nat.reduceSub, Nat.reduceAdd, Nat.le_refl, List.length_cons, List.length_append, List.length_nil, dc_length, List.drop_nil, List.take_nil, List.append_nil, List.length_map, List.length_replicate]; first | done | omega))) ?_
      have hcs2 : (if errOf (rstep (pNum 1) (rstep pAt σ)) = 0 ∧ 7 < x then failE 1 (rstep (pNum 1) (rstep pAt σ)) else rstep (pNum 1) (rstep pAt σ)) = mSt 7 (rstep pAt σ) x := rfl
      have hdy : rstep (pMany pLate x) (mSt 7 (rstep pAt σ) x) = τy ∧ Ag (pMany pLate x) (mSt 7 (rstep pAt σ) x) ly := by by_cases he3 : errOf τy = 0 <;> first | (have hb := hmanyy.bad he3; exact ⟨hb.1, hb.2 _⟩) | (have hvq := hvxy.resolve_right (fun h => h he3); have hm0 : x - ky = 0 := (by omega); rw [hm0] at hmanyy; exact hmanyy.done)
      have hfiny := list_fin hxx hcs2 hdy
      have gL := hfiny.2
      have ha : Ag pTC σ ⟨x10, y14, ly⟩ := gA14.bind (gL.bind (Ag.pure _))
      have hr : rstep pTC σ = rstep (pList pLate 7) (rstep pAt (σ)) := by rw [pTC, rstep_bind gA14, rstep_bind gL, rstep_pure]
      rw [hr]
      rw [hfiny.1]
      intro w' hw
      have hle := (hw.rowLe (e := 179) (size := 5) (a := ay) (m := ky) (c := cy) (xs := cssy.flatten) (by repeat (first | exact Pick.here | apply Pick.there))).1
      refine ⟨([.int .i64 (x10 : Int), .int .i64 (y14 : Int), .slice ay ky cy], ⟨x10, y14, ly⟩), rfl, St.pureI ⟨ha, by first | rfl | simp only [List.length_cons, List.length_append, List.length_nil, dc_length, len_L] , all_cons' rfl (all_cons' rfl (all_cons' rfl all_nil'))⟩ ?_⟩
      exact (hw.conv (M := [rowR 179 5 ay ky cy cssy.flatten, ElR RdLate cssy ly]) (by repeat (first | exact Sel.nil | (apply Sel.cons; · (repeat (first | exact Pick.here | apply Pick.there))))) (fun _ _ hh => vl_tc hle (ls_of hcssy hh))).sel (by repeat (first | exact Sel.nil | (apply Sel.cons; · (repeat (first | exact Pick.here | apply Pick.there)))))

end Go.Proofs.YtkgbbnhdioghmaaGreatDoor

/- Walks, by program (wg.py) out of a spec. -/
namespace Go.Proofs.YtkgbbnhdioghmaaGreatDoor
open Go
set_option linter.unusedVariables false
set_option linter.unusedSimpArgs false

attribute [local irreducible] Gl Gc Gx Gs Runs Wt

set_option maxHeartbeats 400000 in
theorem iblock_ok {w : World} {F : Nat → Prop} {g c : Nat} {a : Option Addr} {B : List UInt8} {σ : RSt} (h : stars [InR g a c B σ] w F) (hB : RdRow w (fun k => ¬ F k) 1 a B.length (B.map B8)) (hc : B.length ≤ c) (hl : B.length ≤ 40000)  :
    Calls Tryz.prog 69 #[.agg (List.toArray [.pointer (some ⟨g, 0, none⟩)])] w (Post w F (fun r : List Value × Block => .agg r.1.toArray) (fun r => [pureR (Ag pBlock σ r.2 ∧ r.1.length = 39 ∧ ∀ v ∈ r.1, v.oneCell' = true), VlR RdBlock r.1 r.2, InR g a c B (rstep pBlock σ)])) := by
  refine g_enter (env := [(0, .agg (List.toArray [.pointer (some ⟨g, 0, none⟩)]))]) Tryz.func69 rfl h Tryz.ntmps69 rfl rfl ?_
  refine gsr ?_
  refine zbN fun b1 => ?_
  refine zal fun b2 => ?_
  refine gl_eqc (cs' := (.int .i64 0 :: .int .i64 0 :: (dc dig0 ++ ((.int .i64 0 :: .int .i64 0 :: (dc dig0 ++ [.slice none 0 0])) ++ [.slice none 0 0, .slice none 0 0])))) (by repeat (first | exact Pick.here | apply Pick.there)) (by kernel_rfl) ?_
  refine gnt ?_
  refine gsr ?_
  refine gp (r_build (cs := (.int .i64 0 :: .int .i64 0 :: (dc dig0 ++ ((.int .i64 0 :: .int .i64 0 :: (dc dig0 ++ [.slice none 0 0])) ++ [.slice none 0 0, .slice none 0 0])))) Ty.zc_30 Ty.pl_30 (by kernel_rfl)) ?_
  refine zal fun b3 => ?_
  refine gl_eqc (cs' := (.int .i64 0 :: .int .i64 0 :: (dc dig0 ++ ((.int .i64 0 :: .int .i64 0 :: (dc dig0 ++ [.slice none 0 0])) ++ [.slice none 0 0, .slice none 0 0])))) (by repeat (first | exact Pick.here | apply Pick.there)) (by kernel_rfl) ?_
  refine zsA (new := (.int .i64 0 :: .int .i64 0 :: (dc dig0 ++ ((.int .i64 0 :: .int .i64 0 :: (dc dig0 ++ [.slice none 0 0])) ++ [.slice none 0 0, .slice none 0 0])))) (by first | rfl | simp only [List.length_cons, List.length_append, List.length_nil, dc_length, len_L]) (by repeat (first | exact all_nil' | exact dc_one _ | exact One.h | refine all_cons' rfl ?_ | refine all_app' (dc_one _) ?_ | refine all_app' One.h ?_)) ?_
  refine gnt ?_
  refine gsr ?_
  refine gp zfa ?_
  refine gp zl ?_
  refine zc (fun x11 => ?_) (c := fun w1 F1 F2 h1 h2 hd hst => inum_ok (wd := 4) h1 (hB.mv hst.still) hc hl (by decide) (by decide))
  refine gl_pureR (fun hp11 => ?_)
  obtain ⟨g11, _⟩ := hp11
  replace g11 : Ag (pNum 4) _ (x11 : Int) := g11
  refine gp zfa ?_
  refine zs1 ?_
  refine gnt ?_
  refine gsr ?_
  refine gp zfa ?_
  refine gp zl ?_
  refine zc (fun y15 => ?_) (c := fun w1 F1 F2 h1 h2 hd hst => inum_ok (wd := 6) h1 (hB.mv hst.still) hc hl (by decide) (by decide))
  refine gl_pureR (fun hp15 => ?_)
  obtain ⟨g15, _⟩ := hp15
  replace g15 : Ag (pNum 6) _ (y15 : Int) := g15
  have gA15 : Ag pAt σ ((x11 : Int), (y15 : Int)) := g11.bind (g15.bind (Ag.pure _))
  have rA15 : rstep pAt σ = rstep (pNum 6) (rstep (pNum 4) σ) := by rw [pAt, rstep_bind g11, rstep_bind g15, rstep_pure]
  rw [← rA15]
  refine gp zfa ?_
  refine zs1 ?_
  refine gnt ?_
  refine gsr ?_
  refine gp zL ?_
  refine zc (fun d18 => ?_) (c := fun w1 F1 F2 h1 h2 hd hst => idigest_ok h1 (hB.mv hst.still) hc hl)
  refine gl_pureR (fun g18 => ?_)
  replace g18 : Ag pDig _ d18 := g18
  refine gp zfa ?_
  refine zsN ?_
  refine gnt ?_
  refine gsr ?_
  refine gp zL ?_
  refine zc ?_ (c := fun w1 F1 F2 h1 h2 hd hst => iqc_ok h1 (hB.mv hst.still) hc hl)
  rintro ⟨q21, v21⟩
  refine gl_pureR (fun hp21 => ?_)
  obtain ⟨g21, z21, o21⟩ := hp21
  replace z21 : q21.length = _ := z21
  replace g21 : Ag pQC _ v21 := g21
  have i21 := Len.of z21
  have j21 := One.of (show ∀ v ∈ q21, v.oneCell' = true from o21)
  refine gp zfa ?_
  refine zsN ?_
  refine gnt ?_
  refine gsr ?_
  refine gp zfa ?_
  refine gp zl ?_
  refine zc ?_ (c := fun w1 F1 F2 h1 h2 hd hst => imany_ok (most := 4) h1 (hB.mv hst.still) hc hl (by decide))
  rintro ⟨vx, x⟩
  refine gl_pureR (fun hp25 => ?_)
  obtain ⟨hxx, hvx, hwx⟩ := hp25
  replace hxx : Ag (pNum 1) _ (x : Int) := hxx
  replace hvx : vx = x ∨ errOf (mSt 4 _ x) ≠ 0 := hvx
  replace hwx : vx ≤ 255 := hwx
  refine gp zas ?_
  refine gnt ?_
  refine gc_seq ?_
  refine gsr ?_
  refine gp zas ?_
  refine gnt ?_
  refine gc_block ?_
  refine gc_loop (α := Nat × RSt × Option Addr × Nat × List (List Value) × List (List UInt8)) (fun y => [pureR (y.1 ≤ vx ∧ (vx = x ∨ errOf y.2.1 ≠ 0) ∧ Many (pBytes 16) x (mSt 4 (rstep pQC (rstep pDig (rstep pAt σ))) x) (x - y.1) y.2.1 y.2.2.2.2.2 ∧ (∀ c ∈ y.2.2.2.2.1, c.length = 1 ∧ ∀ v ∈ c, v.oneCell' = true) ∧ y.2.2.2.2.2.length = y.1), rowR 36 1 y.2.2.1 y.1 y.2.2.2.1 y.2.2.2.2.1.flatten, ElR (RdBytes) y.2.2.2.2.1 y.2.2.2.2.2, blk b3 30 (.int .i64 (x11 : Int) :: .int .i64 (y15 : Int) :: (dc d18 ++ (q21 ++ [.slice y.2.2.1 y.1 y.2.2.2.1, .slice none 0 0]))), blk b1 143 [.pointer (some ⟨g, 0, none⟩)], blk b2 30 (.int .i64 0 :: .int .i64 0 :: (dc dig0 ++ ((.int .i64 0 :: .int .i64 0 :: (dc dig0 ++ [.slice none 0 0])) ++ [.slice none 0 0, .slice none 0 0]))), VlR RdQC q21 v21, InR g a c B y.2.1]) (fun y => [(5, .int .i64 (y.1 : Int))]) [26, 27, 28, 29, 30, 31, 32, 33, 34, 35, 36, 37, 38, 39, 40, 41, 42, 43, 44, 45, 46] (fun y => vx - y.1) (0, (mSt 4 (rstep pQC (rstep pDig (rstep pAt σ))) x), none, 0, [], []) ?_ ?_ ?_
  · refine env_start (by kernel_rfl)
  · exact fun w' hw => zlp ⟨Nat.zero_le _, hvx, Many.start, (by intro c hc; cases hc), rfl⟩ (by repeat (first | exact Sel.nil | (apply Sel.cons; · (repeat (first | exact Pick.here | apply Pick.there))))) w' (hw.mapL fun F' hF' => stars_row_nil (e := 36) (size := 1) (el_nil (rd := RdBytes) hF'))
  · intro y u
    obtain ⟨ky, τy, ay, cy, cssy, ly⟩ := y
    refine gc_pureR (fun hk => ?_)
    obtain ⟨hky, hvxy, hmanyy, hcs0, hlly⟩ := hk
    replace hky : ky ≤ vx := hky
    replace hlly : ly.length = ky := hlly
    have hcs1y : ∀ c ∈ cssy, ∀ v ∈ c, v.oneCell' = true := fun c hc => (hcs0 c hc).2
    have hcssy : ∀ c ∈ cssy, c.length = 1 := fun c hc => (hcs0 c hc).1
    replace hvxy : vx = x ∨ errOf τy ≠ 0 := hvxy
    replace hmanyy : Many (pBytes 16) x (mSt 4 (rstep pQC (rstep pDig (rstep pAt σ))) x) (x - ky) τy ly := hmanyy
    refine gc_seq ?_
    refine gc_seq ?_
    by_cases hkxy : ky < vx
    · refine gc_region ?_
      refine gp zmv ?_
      refine gp zmv ?_
      refine gp (r_bool (c := true) zlt (decide_eq_true (by omega))) ?_
      refine gp zmv ?_
      refine gq zfa ?_
      refine gq zl ?_
      refine gq znc ?_
      refine gq zfa ?_
      refine gq (r_inerr rfl Ty.row_3 (by repeat (first | exact Pick.here | apply Pick.there))) ?_
      refine gq zei ?_
      refine gp zpk ?_
      refine gnt ?_
      refine gif rfl (fun hc36 => ?_) (fun hc36 => ?_)
      · try simp only at hc36
        have he2 : errOf τy = 0 := by omega
        have hvq : vx = x := hvxy.resolve_right (fun h => h he2)
        refine gc_skip ?_
        refine gx_then ?_
        refine gc_seq ?_
        refine gc_block ?_
        refine gc_regionZ 8 ([blk b1 143 [.pointer (some ⟨g, 0, none⟩)], blk b3 30 (.int .i64 (x11 : Int) :: .int .i64 (y15 : Int) :: (dc d18 ++ (q21 ++ [.slice ay ky cy, .slice none 0 0])))]) ?_
        refine yps 0 rfl zfa ?_
        refine yps 1 rfl zl ?_
        refine yps 2 rfl zfa ?_
        refine yps 3 rfl zl ?_
        refine yos 4 rfl ?_
        refine zc ?_ (c := fun w1 F1 F2 h1 h2 hd hst => ibytes_ok (most := 16) h1 (hB.mv hst.still) hc hl (by decide))
        rintro ⟨a43, c43, v⟩
        refine gl_pureR (fun hag => ?_)
        replace hag : Ag (pBytes 16) _ v := hag
        refine gl_conv (M := [rowR 5 1 a43 v.length c43 (v.map B8)]) (N := [VlR RdBytes [.slice a43 v.length c43] v]) (by repeat (first | exact Sel.nil | (apply Sel.cons; · (repeat (first | exact Pick.here | apply Pick.there))))) (fun _ _ => vl_bytes) ?_
        obtain ⟨cs, hcs⟩ : ∃ cs : List Value, cs = [.slice a43 v.length c43] := ⟨_, rfl⟩
        have hcl : cs.length = 1 := by rw [hcs]; rfl
        have hco : ∀ v ∈ cs, v.oneCell' = true := by rw [hcs]; exact all_cons' rfl all_nil'
        have i1 := Len.of hcl
        have i2 := One.of hco
        refine yxs ?_
        refine yos 5 rfl ?_
        refine ze1 fun b44 => ?_
        rw [← hcs]
        refine yxs ?_
        refine yos 6 rfl ?_
        refine zapo (news := cs) (fun a45 c45 => ?_)
        refine yxs ?_
        refine yps 7 rfl zfa ?_
        refine yzs rfl ?_
        refine zs1 ?_
        refine gl_nil ?_
        refine gx_block_normal ?_
        refine gx_then ?_
        refine gc_region ?_
        refine gp zmv ?_
        refine gp zad ?_
        refine gp zas ?_
        refine gl_nil ?_
        refine zrd ((ky + 1, rstep (pBytes 16) τy, a45, c45, cssy ++ [cs], ly ++ [v])) ?_ ?_
        · show vx - (ky + 1) < vx - ky
          omega
        · rintro w' hw
          have h1 := hw.conv (M := [ElR (RdBytes) cssy ly, VlR (RdBytes) cs v]) (by repeat (first | exact Sel.nil | (apply Sel.cons; · (repeat (first | exact Pick.here | apply Pick.there))))) (fun _ _ => el_snoc)
          refine zlq (M' := [rowR 36 1 a45 (ky + 1) c45 (cssy.flatten ++ cs), ElR (RdBytes) (cssy ++ [cs]) (ly ++ [v]), blk b3 30 (.int .i64 (x11 : Int) :: .int .i64 (y15 : Int) :: (dc d18 ++ (q21 ++ [.slice a45 (ky + 1) c45, .slice none 0 0]))), blk b1 143 [.pointer (some ⟨g, 0, none⟩)], blk b2 30 (.int .i64 0 :: .int .i64 0 :: (dc dig0 ++ ((.int .i64 0 :: .int .i64 0 :: (dc dig0 ++ [.slice none 0 0])) ++ [.slice none 0 0, .slice none 0 0]))), VlR RdQC q21 v21, InR g a c B (rstep (pBytes 16) τy)]) ⟨?_, ?_, ?_, ?_, ?_⟩ (by simp) (by repeat (first | exact Sel.nil | (apply Sel.cons; · (repeat (first | exact Pick.here | apply Pick.there))))) w' h1
          · show ky + 1 ≤ vx; omega
          · exact .inl hvq
          · rw [show x - ky = x - (ky + 1) + 1 by omega] at hmanyy; exact hmanyy.next hag
          · intro c' hc'; rcases List.mem_append.1 hc' with h | h; exact ⟨hcssy c' h, hcs1y c' h⟩; rw [List.mem_singleton.1 h]; exact ⟨hcl, hco⟩
          · simp [hlly]
      · try simp only at hc36
        have he2 : ¬ errOf τy = 0 := by omega
        refine gc_exit ?_
        refine gx_then_exit ?_
        refine gx_round_exit ?_
        refine gx_block_hit ?_
        refine gx_then ?_
        refine gsr ?_
        have hcs2 : (if errOf (rstep (pNum 1) (rstep pQC (rstep pDig (rstep pAt σ)))) = 0 ∧ 4 < x then failE 1 (rstep (pNum 1) (rstep pQC (rstep pDig (rstep pAt σ)))) else rstep (pNum 1) (rstep pQC (rstep pDig (rstep pAt σ)))) = mSt 4 (rstep pQC (rstep pDig (rstep pAt σ))) x := rfl
        have hdy : rstep (pMany (pBytes 16) x) (mSt 4 (rstep pQC (rstep pDig (rstep pAt σ))) x) = τy ∧ Ag (pMany (pBytes 16) x) (mSt 4 (rstep pQC (rstep pDig (rstep pAt σ))) x) ly := by by_cases he3 : errOf τy = 0 <;> first | (have hb := hmanyy.bad he3; exact ⟨hb.1, hb.2 _⟩) | (have hvq := hvxy.resolve_right (fun h => h he3); have hm0 : x - ky = 0 := (by omega); rw [hm0] at hmanyy; exact hmanyy.done)
        have hfiny := list_fin hxx hcs2 hdy
        have gP : Ag (pList (pBytes 16) 4) _ ly := hfiny.2
        refine gl_fact (p := ky ≤ cy) (fun w hw => (hw.rowLe (e := 36) (size := 1) (a := ay) (m := ky) (c := cy) (xs := cssy.flatten) (by repeat (first | exact Pick.here | apply Pick.there))).1) (fun hley => ?_)
        refine gl_conv (M := [rowR 36 1 ay ky cy cssy.flatten, ElR RdBytes cssy ly]) (N := [LsR RdBytes 1 ay ky ly]) (by repeat (first | exact Sel.nil | (apply Sel.cons; · (repeat (first | exact Pick.here | apply Pick.there))))) (fun _ _ => ls_of hcssy) ?_
        rw [← hfiny.1]
        refine gp zfa ?_
        refine gp zl ?_
        refine zc ?_ (c := fun w1 F1 F2 h1 h2 hd hst => imany_ok (most := 7) h1 (hB.mv hst.still) hc hl (by decide))
        rintro ⟨vu2, u2⟩
        refine gl_pureR (fun hp49 => ?_)
        obtain ⟨hxu2, hvu2, hwu2⟩ := hp49
        replace hxu2 : Ag (pNum 1) _ (u2 : Int) := hxu2
        replace hvu2 : vu2 = u2 ∨ errOf (mSt 7 _ u2) ≠ 0 := hvu2
        replace hwu2 : vu2 ≤ 255 := hwu2
        refine gp zas ?_
        refine gnt ?_
        refine gc_seq ?_
        refine gsr ?_
        refine gp zas ?_
        refine gnt ?_
        refine gc_block ?_
        refine gc_loop (α := Nat × RSt × Option Addr × Nat × List (List Value) × List Vdr) (fun y => [pureR (y.1 ≤ vu2 ∧ (vu2 = u2 ∨ errOf y.2.1 ≠ 0) ∧ Many pVdr u2 (mSt 7 (rstep (pList (pBytes 16) 4) (rstep pQC (rstep pDig (rstep pAt σ)))) u2) (u2 - y.1) y.2.1 y.2.2.2.2.2 ∧ (∀ c ∈ y.2.2.2.2.1, c.length = 17 ∧ ∀ v ∈ c, v.oneCell' = true) ∧ y.2.2.2.2.2.length = y.1), rowR 191 17 y.2.2.1 y.1 y.2.2.2.1 y.2.2.2.2.1.flatten, ElR (fun _ _ => RdVdr) y.2.2.2.2.1 y.2.2.2.2.2, blk b3 30 (.int .i64 (x11 : Int) :: .int .i64 (y15 : Int) :: (dc d18 ++ (q21 ++ [.slice ay ky cy, .slice y.2.2.1 y.1 y.2.2.2.1]))), blk b1 143 [.pointer (some ⟨g, 0, none⟩)], blk b2 30 (.int .i64 0 :: .int .i64 0 :: (dc dig0 ++ ((.int .i64 0 :: .int .i64 0 :: (dc dig0 ++ [.slice none 0 0])) ++ [.slice none 0 0, .slice none 0 0]))), VlR RdQC q21 v21, LsR RdBytes 1 ay ky ly, InR g a c B y.2.1]) (fun y => [(6, .int .i64 (y.1 : Int))]) [7, 50, 51, 52, 53, 54, 55, 56, 57, 58, 59, 60, 61, 62, 63, 64, 65, 66, 67, 68, 69, 70, 71, 72, 73, 74, 75, 76] (fun y => vu2 - y.1) (0, (mSt 7 (rstep (pList (pBytes 16) 4) (rstep pQC (rstep pDig (rstep pAt σ)))) u2), none, 0, [], []) ?_ ?_ ?_
        · refine env_start (by kernel_rfl)
        · exact fun w' hw => zlp ⟨Nat.zero_le _, hvu2, Many.start, (by intro c hc; cases hc), rfl⟩ (by repeat (first | exact Sel.nil | (apply Sel.cons; · (repeat (first | exact Pick.here | apply Pick.there))))) w' (hw.mapL fun F' hF' => stars_row_nil (e := 191) (size := 17) (el_nil (rd := fun _ _ => RdVdr) hF'))
        · intro y u
          obtain ⟨kz, τz, az, cz, cssz, lz⟩ := y
          refine gc_pureR (fun hk => ?_)
          obtain ⟨hkz, hvxz, hmanyz, hcs0, hllz⟩ := hk
          replace hkz : kz ≤ vu2 := hkz
          replace hllz : lz.length = kz := hllz
          have hcs1z : ∀ c ∈ cssz, ∀ v ∈ c, v.oneCell' = true := fun c hc => (hcs0 c hc).2
          have hcssz : ∀ c ∈ cssz, c.length = 17 := fun c hc => (hcs0 c hc).1
          replace hvxz : vu2 = u2 ∨ errOf τz ≠ 0 := hvxz
          replace hmanyz : Many pVdr u2 (mSt 7 (rstep (pList (pBytes 16) 4) (rstep pQC (rstep pDig (rstep pAt σ)))) u2) (u2 - kz) τz lz := hmanyz
          refine gc_seq ?_
          refine gc_seq ?_
          by_cases hkxz : kz < vu2
          · refine gc_region ?_
            refine gp zmv ?_
            refine gp zmv ?_
            refine gp (r_bool (c := true) zlt (decide_eq_true (by omega))) ?_
            refine gp zmv ?_
            refine gq zfa ?_
            refine gq zl ?_
            refine gq znc ?_
            refine gq zfa ?_
            refine gq (r_inerr rfl Ty.row_3 (by repeat (first | exact Pick.here | apply Pick.there))) ?_
            refine gq zei ?_
            refine gp zpk ?_
            refine gnt ?_
            refine gif rfl (fun hc60 => ?_) (fun hc60 => ?_)
            · try simp only at hc60
              have he2 : errOf τz = 0 := by omega
              have hvq : vu2 = u2 := hvxz.resolve_right (fun h => h he2)
              refine gc_skip ?_
              refine gx_then ?_
              refine gc_seq ?_
              refine gc_block ?_
              refine gsr ?_
              refine gp (r_build (cs := (dc dig0 ++ [.int .i64 0])) Ty.zc_191 Ty.pl_191 (by kernel_rfl)) ?_
              refine zal fun b7 => ?_
              refine gl_eqc (cs' := (dc dig0 ++ [.int .i64 0])) (by repeat (first | exact Pick.here | apply Pick.there)) (by kernel_rfl) ?_
              refine zsA (new := (dc dig0 ++ [.int .i64 0])) (by first | rfl | simp only [List.length_cons, List.length_append, List.length_nil, dc_length, len_L]) (by repeat (first | exact all_nil' | exact dc_one _ | exact One.h | refine all_cons' rfl ?_ | refine all_app' (dc_one _) ?_ | refine all_app' One.h ?_)) ?_
              refine gnt ?_
              refine gsr ?_
              refine gp zL ?_
              refine zc (fun d65 => ?_) (c := fun w1 F1 F2 h1 h2 hd hst => idigest_ok h1 (hB.mv hst.still) hc hl)
              refine gl_pureR (fun g65 => ?_)
              replace g65 : Ag pDig _ d65 := g65
              refine gp zfa ?_
              refine zsN ?_
              refine gnt ?_
              refine gsr ?_
              refine gp zfa ?_
              refine gp zl ?_
              refine zc (fun y69 => ?_) (c := fun w1 F1 F2 h1 h2 hd hst => inum_ok (wd := 6) h1 (hB.mv hst.still) hc hl (by decide) (by decide))
              refine gl_pureR (fun hp69 => ?_)
              obtain ⟨g69, _⟩ := hp69
              replace g69 : Ag (pNum 6) _ (y69 : Int) := g69
              refine gp zfa ?_
              refine zs1 ?_
              refine gnt ?_
              refine gc_region ?_
              refine gp zfa ?_
              refine gp zl ?_
              refine gp (zLa (cs := dc d65 ++ [.int .i64 (y69 : Int)])) ?_
              obtain ⟨cs, hcs⟩ : ∃ cs, cs = dc d65 ++ [.int .i64 (y69 : Int)] := ⟨_, rfl⟩
              obtain ⟨v, hv⟩ : ∃ v : Vdr, v = ⟨d65, y69⟩ := ⟨_, rfl⟩
              have hcl : cs.length = 17 := by rw [hcs]; simp [dc_length]
              have hco : ∀ v ∈ cs, v.oneCell' = true := by rw [hcs]; exact all_app' (dc_one _) (all_cons' rfl all_nil')
              have hag : Ag pVdr τz v := by rw [hv]; exact g65.bind (g69.bind (Ag.pure _))
              have hre : rstep pVdr τz = rstep (pNum 6) (rstep pDig τz) := by rw [pVdr, rstep_bind g65, rstep_bind g69, rstep_pure]
              rw [← hre, ← hcs]
              have i1 := Len.of hcl
              have i2 := One.of hco
              refine gl_conv (M := []) (N := [VlR (fun _ _ => RdVdr) cs v]) Sel.nil (fun w F hF => vl_pure (show RdVdr cs v by rw [hcs, hv]; rfl) hF) ?_
              refine zeN fun b74 => ?_
              refine zapo (news := cs) (fun a75 c75 => ?_)
              refine gp zfa ?_
              refine zs1 ?_
              refine gl_nil ?_
              refine gx_block_normal ?_
              refine gx_then ?_
              refine gc_region ?_
              refine gp zmv ?_
              refine gp zad ?_
              refine gp zas ?_
              refine gl_nil ?_
              refine zrd ((kz + 1, rstep pVdr τz, a75, c75, cssz ++ [cs], lz ++ [v])) ?_ ?_
              · show vu2 - (kz + 1) < vu2 - kz
                omega
              · rintro w' hw
                have h1 := hw.conv (M := [ElR (fun _ _ => RdVdr) cssz lz, VlR (fun _ _ => RdVdr) cs v]) (by repeat (first | exact Sel.nil | (apply Sel.cons; · (repeat (first | exact Pick.here | apply Pick.there))))) (fun _ _ => el_snoc)
                refine zlq (M' := [rowR 191 17 a75 (kz + 1) c75 (cssz.flatten ++ cs), ElR (fun _ _ => RdVdr) (cssz ++ [cs]) (lz ++ [v]), blk b3 30 (.int .i64 (x11 : Int) :: .int .i64 (y15 : Int) :: (dc d18 ++ (q21 ++ [.slice ay ky cy, .slice a75 (kz + 1) c75]))), blk b1 143 [.pointer (some ⟨g, 0, none⟩)], blk b2 30 (.int .i64 0 :: .int .i64 0 :: (dc dig0 ++ ((.int .i64 0 :: .int .i64 0 :: (dc dig0 ++ [.slice none 0 0])) ++ [.slice none 0 0, .slice none 0 0]))), VlR RdQC q21 v21, LsR RdBytes 1 ay ky ly, InR g a c B (rstep pVdr τz)]) ⟨?_, ?_, ?_, ?_, ?_⟩ (by simp) (by repeat (first | exact Sel.nil | (apply Sel.cons; · (repeat (first | exact Pick.here | apply Pick.there))))) w' h1
                · show kz + 1 ≤ vu2; omega
                · exact .inl hvq
                · rw [show u2 - kz = u2 - (kz + 1) + 1 by omega] at hmanyz; exact hmanyz.next hag
                · intro c' hc'; rcases List.mem_append.1 hc' with h | h; exact ⟨hcssz c' h, hcs1z c' h⟩; rw [List.mem_singleton.1 h]; exact ⟨hcl, hco⟩
                · simp [hllz]
            · try simp only at hc60
              have he2 : ¬ errOf τz = 0 := by omega
              refine gc_exit ?_
              refine gx_then_exit ?_
              refine gx_round_exit ?_
              refine gx_block_hit ?_
              refine gx_then ?_
              refine gsr ?_
              refine gp (zLa (cs := (.int .i64 (x11 : Int) :: .int .i64 (y15 : Int) :: (dc d18 ++ (q21 ++ [.slice ay ky cy, .slice az kz cz]))))) ?_
              refine zsA (new := (.int .i64 (x11 : Int) :: .int .i64 (y15 : Int) :: (dc d18 ++ (q21 ++ [.slice ay ky cy, .slice az kz cz])))) (by first | rfl | simp only [List.length_cons, List.length_append, List.length_nil, dc_length, len_L]) (by repeat (first | exact all_nil' | exact dc_one _ | exact One.h | refine all_cons' rfl ?_ | refine all_app' (dc_one _) ?_ | refine all_app' One.h ?_)) ?_
              refine gnt ?_
              refine gc_ret ?_
              refine gx_retc rfl rfl (ld_aggS Ty.row_30 Ty.sz_30 (by repeat (first | exact Pick.here | apply Pick.there)) (by (simp only [List.drop_succ_cons, List.drop_zero, List.take_succ_cons, List.take_zero, List.cons_append, List.nil_append, List.append_assoc, drop_dc, drop_dc', take_dc, take_dc', drop_L, drop_L', take_L, take_L', len_L, Nat.reduceLeDiff, Nat.reduceSub, Nat.reduceAdd, Nat.le_refl, List.length_cons, List.length_append, List.length_nil, dc_length, List.drop_nil, List.take_nil, List.append_nil, List.length_map, List.length_replicate]; first | done | rfl)) (by first | rfl | (simp only [List.drop_succ_cons, List.drop_zero, List.take_succ_cons, List.take_zero, List.cons_append, List.nil_append, List.append_assoc, drop_dc, drop_dc', take_dc, take_dc', drop_L, drop_L', take_L, take_L', len_L, Nat.reduceLeDiff, Nat.reduceSub, Nat.reduceAdd, Nat.le_refl, List.length_cons, List.length_append, List.length_nil, dc_length, List.drop_nil, List.take_nil, List.append_nil, List.length_map, List.length_replicate]; first | done | omega))) ?_
              have hcs2 : (if errOf (rstep (pNum 1) (rstep (pList (pBytes 16) 4) (rstep pQC (rstep pDig (rstep pAt σ))))) = 0 ∧ 7 < u2 then failE 1 (rstep (pNum 1) (rstep (pList (pBytes 16) 4) (rstep pQC (rstep pDig (rstep pAt σ))))) else rstep (pNum 1) (rstep (pList (pBytes 16) 4) (rstep pQC (rstep pDig (rstep pAt σ))))) = mSt 7 (rstep (pList (pBytes 16) 4) (rstep pQC (rstep pDig (rstep pAt σ)))) u2 := rfl
              have hdz : rstep (pMany pVdr u2) (mSt 7 (rstep (pList (pBytes 16) 4) (rstep pQC (rstep pDig (rstep pAt σ)))) u2) = τz ∧ Ag (pMany pVdr u2) (mSt 7 (rstep (pList (pBytes 16) 4) (rstep pQC (rstep pDig (rstep pAt σ)))) u2) lz := by by_cases he3 : errOf τz = 0 <;> first | (have hb := hmanyz.bad he3; exact ⟨hb.1, hb.2 _⟩) | (have hvq := hvxz.resolve_right (fun h => h he3); have hm0 : u2 - kz = 0 := (by omega); rw [hm0] at hmanyz; exact hmanyz.done)
              have hfinz := list_fin hxu2 hcs2 hdz
              have gV : Ag (pList pVdr 7) _ lz := hfinz.2
              have ha : Ag pBlock σ ⟨x11, y15, d18, v21, ly, lz⟩ := gA15.bind (g18.bind (g21.bind (gP.bind (gV.bind (Ag.pure _)))))
              have hr : rstep pBlock σ = rstep (pList pVdr 7) (rstep (pList (pBytes 16) 4) (rstep pQC (rstep pDig (rstep pAt (σ))))) := by rw [pBlock, rstep_bind gA15, rstep_bind g18, rstep_bind g21, rstep_bind gP, rstep_bind gV, rstep_pure]
              rw [hr]
              rw [hfinz.1]
              intro w' hw
              have hle := (hw.rowLe (e := 191) (size := 17) (a := az) (m := kz) (c := cz) (xs := cssz.flatten) (by repeat (first | exact Pick.here | apply Pick.there))).1
              refine ⟨((.int .i64 (x11 : Int) :: .int .i64 (y15 : Int) :: (dc d18 ++ (q21 ++ [.slice ay ky cy, .slice az kz cz]))), ⟨x11, y15, d18, v21, ly, lz⟩), rfl, St.pureI ⟨ha, by simp only [List.length_cons, List.length_append, List.length_nil, dc_length, len_L], all_cons' rfl (all_cons' rfl (all_app' (dc_one _) (all_app' o21 (all_cons' rfl (all_cons' rfl all_nil')))))⟩ ?_⟩
              have h2 := hw.conv (M := [rowR 191 17 az kz cz cssz.flatten, ElR (fun _ _ => RdVdr) cssz lz]) (N := [LsR (fun _ _ => RdVdr) 17 az kz lz]) (by repeat (first | exact Sel.nil | (apply Sel.cons; · (repeat (first | exact Pick.here | apply Pick.there))))) (fun _ _ => ls_of hcssz)
              exact (h2.conv (M := [VlR RdQC q21 v21, LsR RdBytes 1 ay ky ly, LsR (fun _ _ => RdVdr) 17 az kz lz]) (by repeat (first | exact Sel.nil | (apply Sel.cons; · (repeat (first | exact Pick.here | apply Pick.there))))) (fun _ _ => vl_block hley hle)).sel (by repeat (first | exact Sel.nil | (apply Sel.cons; · (repeat (first | exact Pick.here | apply Pick.there)))))
          · refine gc_region ?_
            refine gp zmv ?_
            refine gp zmv ?_
            refine gp (r_bool (c := false) zlt (decide_eq_false (by omega))) ?_
            refine gp zmv ?_
            refine gn ?_
            refine gn ?_
            refine gn ?_
            refine gn ?_
            refine gn ?_
            refine gn ?_
            refine gp zpk ?_
            refine gnt ?_
            refine gc_condF rfl rfl ?_
            refine gc_exit ?_
            refine gx_then_exit ?_
            refine gx_round_exit ?_
            refine gx_block_hit ?_
            refine gx_then ?_
            refine gsr ?_
            refine gp (zLa (cs := (.int .i64 (x11 : Int) :: .int .i64 (y15 : Int) :: (dc d18 ++ (q21 ++ [.slice ay ky cy, .slice az kz cz]))))) ?_
            refine zsA (new := (.int .i64 (x11 : Int) :: .int .i64 (y15 : Int) :: (dc d18 ++ (q21 ++ [.slice ay ky cy, .slice az kz cz])))) (by first | rfl | simp only [List.length_cons, List.length_append, List.length_nil, dc_length, len_L]) (by repeat (first | exact all_nil' | exact dc_one _ | exact One.h | refine all_cons' rfl ?_ | refine all_app' (dc_one _) ?_ | refine all_app' One.h ?_)) ?_
            refine gnt ?_
            refine gc_ret ?_
            refine gx_retc rfl rfl (ld_aggS Ty.row_30 Ty.sz_30 (by repeat (first | exact Pick.here | apply Pick.there)) (by (simp only [List.drop_succ_cons, List.drop_zero, List.take_succ_cons, List.take_zero, List.cons_append, List.nil_append, List.append_assoc, drop_dc, drop_dc', take_dc, take_dc', drop_L, drop_L', take_L, take_L', len_L, Nat.reduceLeDiff, Nat.reduceSub, Nat.reduceAdd, Nat.le_refl, List.length_cons, List.length_append, List.length_nil, dc_length, List.drop_nil, List.take_nil, List.append_nil, List.length_map, List.length_replicate]; first | done | rfl)) (by first | rfl | (simp only [List.drop_succ_cons, List.drop_zero, List.take_succ_cons, List.take_zero, List.cons_append, List.nil_append, List.append_assoc, drop_dc, drop_dc', take_dc, take_dc', drop_L, drop_L', take_L, take_L', len_L, Nat.reduceLeDiff, Nat.reduceSub, Nat.reduceAdd, Nat.le_refl, List.length_cons, List.length_append, List.length_nil, dc_length, List.drop_nil, List.take_nil, List.append_nil, List.length_map, List.length_replicate]; first | done | omega))) ?_
            have hcs2 : (if errOf (rstep (pNum 1) (rstep (pList (pBytes 16) 4) (rstep pQC (rstep pDig (rstep pAt σ))))) = 0 ∧ 7 < u2 then failE 1 (rstep (pNum 1) (rstep (pList (pBytes 16) 4) (rstep pQC (rstep pDig (rstep pAt σ))))) else rstep (pNum 1) (rstep (pList (pBytes 16) 4) (rstep pQC (rstep pDig (rstep pAt σ))))) = mSt 7 (rstep (pList (pBytes 16) 4) (rstep pQC (rstep pDig (rstep pAt σ)))) u2 := rfl
            have hdz : rstep (pMany pVdr u2) (mSt 7 (rstep (pList (pBytes 16) 4) (rstep pQC (rstep pDig (rstep pAt σ)))) u2) = τz ∧ Ag (pMany pVdr u2) (mSt 7 (rstep (pList (pBytes 16) 4) (rstep pQC (rstep pDig (rstep pAt σ)))) u2) lz := by by_cases he3 : errOf τz = 0 <;> first | (have hb := hmanyz.bad he3; exact ⟨hb.1, hb.2 _⟩) | (have hvq := hvxz.resolve_right (fun h => h he3); have hm0 : u2 - kz = 0 := (by omega); rw [hm0] at hmanyz; exact hmanyz.done)
            have hfinz := list_fin hxu2 hcs2 hdz
            have gV : Ag (pList pVdr 7) _ lz := hfinz.2
            have ha : Ag pBlock σ ⟨x11, y15, d18, v21, ly, lz⟩ := gA15.bind (g18.bind (g21.bind (gP.bind (gV.bind (Ag.pure _)))))
            have hr : rstep pBlock σ = rstep (pList pVdr 7) (rstep (pList (pBytes 16) 4) (rstep pQC (rstep pDig (rstep pAt (σ))))) := by rw [pBlock, rstep_bind gA15, rstep_bind g18, rstep_bind g21, rstep_bind gP, rstep_bind gV, rstep_pure]
            rw [hr]
            rw [hfinz.1]
            intro w' hw
            have hle := (hw.rowLe (e := 191) (size := 17) (a := az) (m := kz) (c := cz) (xs := cssz.flatten) (by repeat (first | exact Pick.here | apply Pick.there))).1
            refine ⟨((.int .i64 (x11 : Int) :: .int .i64 (y15 : Int) :: (dc d18 ++ (q21 ++ [.slice ay ky cy, .slice az kz cz]))), ⟨x11, y15, d18, v21, ly, lz⟩), rfl, St.pureI ⟨ha, by simp only [List.length_cons, List.length_append, List.length_nil, dc_length, len_L], all_cons' rfl (all_cons' rfl (all_app' (dc_one _) (all_app' o21 (all_cons' rfl (all_cons' rfl all_nil')))))⟩ ?_⟩
            have h2 := hw.conv (M := [rowR 191 17 az kz cz cssz.flatten, ElR (fun _ _ => RdVdr) cssz lz]) (N := [LsR (fun _ _ => RdVdr) 17 az kz lz]) (by repeat (first | exact Sel.nil | (apply Sel.cons; · (repeat (first | exact Pick.here | apply Pick.there))))) (fun _ _ => ls_of hcssz)
            exact (h2.conv (M := [VlR RdQC q21 v21, LsR RdBytes 1 ay ky ly, LsR (fun _ _ => RdVdr) 17 az kz lz]) (by repeat (first | exact Sel.nil | (apply Sel.cons; · (repeat (first | exact Pick.here | apply Pick.there))))) (fun _ _ => vl_block hley hle)).sel (by repeat (first | exact Sel.nil | (apply Sel.cons; · (repeat (first | exact Pick.here | apply Pick.there)))))
    · refine gc_region ?_
      refine gp zmv ?_
      refine gp zmv ?_
      refine gp (r_bool (c := false) zlt (decide_eq_false (by omega))) ?_
      refine gp zmv ?_
      refine gn ?_
      refine gn ?_
      refine gn ?_
      refine gn ?_
      refine gn ?_
      refine gn ?_
      refine gp zpk ?_
      refine gnt ?_
      refine gc_condF rfl rfl ?_
      refine gc_exit ?_
      refine gx_then_exit ?_
      refine gx_round_exit ?_
      refine gx_block_hit ?_
      refine gx_then ?_
      refine gsr ?_
      have hcs2 : (if errOf (rstep (pNum 1) (rstep pQC (rstep pDig (rstep pAt σ)))) = 0 ∧ 4 < x then failE 1 (rstep (pNum 1) (rstep pQC (rstep pDig (rstep pAt σ)))) else rstep (pNum 1) (rstep pQC (rstep pDig (rstep pAt σ)))) = mSt 4 (rstep pQC (rstep pDig (rstep pAt σ))) x := rfl
      have hdy : rstep (pMany (pBytes 16) x) (mSt 4 (rstep pQC (rstep pDig (rstep pAt σ))) x) = τy ∧ Ag (pMany (pBytes 16) x) (mSt 4 (rstep pQC (rstep pDig (rstep pAt σ))) x) ly := by by_cases he3 : errOf τy = 0 <;> first | (have hb := hmanyy.bad he3; exact ⟨hb.1, hb.2 _⟩) | (have hvq := hvxy.resolve_right (fun h => h he3); have hm0 : x - ky = 0 := (by omega); rw [hm0] at hmanyy; exact hmanyy.done)
      have hfiny := list_fin hxx hcs2 hdy
      have gP : Ag (pList (pBytes 16) 4) _ ly := hfiny.2
      refine gl_fact (p := ky ≤ cy) (fun w hw => (hw.rowLe (e := 36) (size := 1) (a := ay) (m := ky) (c := cy) (xs := cssy.flatten) (by repeat (first | exact Pick.here | apply Pick.there))).1) (fun hley => ?_)
      refine gl_conv (M := [rowR 36 1 ay ky cy cssy.flatten, ElR RdBytes cssy ly]) (N := [LsR RdBytes 1 ay ky ly]) (by repeat (first | exact Sel.nil | (apply Sel.cons; · (repeat (first | exact Pick.here | apply Pick.there))))) (fun _ _ => ls_of hcssy) ?_
      rw [← hfiny.1]
      refine gp zfa ?_
      refine gp zl ?_
      refine zc ?_ (c := fun w1 F1 F2 h1 h2 hd hst => imany_ok (most := 7) h1 (hB.mv hst.still) hc hl (by decide))
      rintro ⟨vu2, u2⟩
      refine gl_pureR (fun hp49 => ?_)
      obtain ⟨hxu2, hvu2, hwu2⟩ := hp49
      replace hxu2 : Ag (pNum 1) _ (u2 : Int) := hxu2
      replace hvu2 : vu2 = u2 ∨ errOf (mSt 7 _ u2) ≠ 0 := hvu2
      replace hwu2 : vu2 ≤ 255 := hwu2
      refine gp zas ?_
      refine gnt ?_
      refine gc_seq ?_
      refine gsr ?_
      refine gp zas ?_
      refine gnt ?_
      refine gc_block ?_
      refine gc_loop (α := Nat × RSt × Option Addr × Nat × List (List Value) × List Vdr) (fun y => [pureR (y.1 ≤ vu2 ∧ (vu2 = u2 ∨ errOf y.2.1 ≠ 0) ∧ Many pVdr u2 (mSt 7 (rstep (pList (pBytes 16) 4) (rstep pQC (rstep pDig (rstep pAt σ)))) u2) (u2 - y.1) y.2.1 y.2.2.2.2.2 ∧ (∀ c ∈ y.2.2.2.2.1, c.length = 17 ∧ ∀ v ∈ c, v.oneCell' = true) ∧ y.2.2.2.2.2.length = y.1), rowR 191 17 y.2.2.1 y.1 y.2.2.2.1 y.2.2.2.2.1.flatten, ElR (fun _ _ => RdVdr) y.2.2.2.2.1 y.2.2.2.2.2, blk b3 30 (.int .i64 (x11 : Int) :: .int .i64 (y15 : Int) :: (dc d18 ++ (q21 ++ [.slice ay ky cy, .slice y.2.2.1 y.1 y.2.2.2.1]))), blk b1 143 [.pointer (some ⟨g, 0, none⟩)], blk b2 30 (.int .i64 0 :: .int .i64 0 :: (dc dig0 ++ ((.int .i64 0 :: .int .i64 0 :: (dc dig0 ++ [.slice none 0 0])) ++ [.slice none 0 0, .slice none 0 0]))), VlR RdQC q21 v21, LsR RdBytes 1 ay ky ly, InR g a c B y.2.1]) (fun y => [(6, .int .i64 (y.1 : Int))]) [7, 50, 51, 52, 53, 54, 55, 56, 57, 58, 59, 60, 61, 62, 63, 64, 65, 66, 67, 68, 69, 70, 71, 72, 73, 74, 75, 76] (fun y => vu2 - y.1) (0, (mSt 7 (rstep (pList (pBytes 16) 4) (rstep pQC (rstep pDig (rstep pAt σ)))) u2), none, 0, [], []) ?_ ?_ ?_
      · refine env_start (by kernel_rfl)
      · exact fun w' hw => zlp ⟨Nat.zero_le _, hvu2, Many.start, (by intro c hc; cases hc), rfl⟩ (by repeat (first | exact Sel.nil | (apply Sel.cons; · (repeat (first | exact Pick.here | apply Pick.there))))) w' (hw.mapL fun F' hF' => stars_row_nil (e := 191) (size := 17) (el_nil (rd := fun _ _ => RdVdr) hF'))
      · intro y u
        obtain ⟨kz, τz, az, cz, cssz, lz⟩ := y
        refine gc_pureR (fun hk => ?_)
        obtain ⟨hkz, hvxz, hmanyz, hcs0, hllz⟩ := hk
        replace hkz : kz ≤ vu2 := hkz
        replace hllz : lz.length = kz := hllz
        have hcs1z : ∀ c ∈ cssz, ∀ v ∈ c, v.oneCell' = true := fun c hc => (hcs0 c hc).2
        have hcssz : ∀ c ∈ cssz, c.length = 17 := fun c hc => (hcs0 c hc).1
        replace hvxz : vu2 = u2 ∨ errOf τz ≠ 0 := hvxz
        replace hmanyz : Many pVdr u2 (mSt 7 (rstep (pList (pBytes 16) 4) (rstep pQC (rstep pDig (rstep pAt σ)))) u2) (u2 - kz) τz lz := hmanyz
        refine gc_seq ?_
        refine gc_seq ?_
        by_cases hkxz : kz < vu2
        · refine gc_region ?_
          refine gp zmv ?_
          refine gp zmv ?_
          refine gp (r_bool (c := true) zlt (decide_eq_true (by omega))) ?_
          refine gp zmv ?_
          refine gq zfa ?_
          refine gq zl ?_
          refine gq znc ?_
          refine gq zfa ?_
          refine gq (r_inerr rfl Ty.row_3 (by repeat (first | exact Pick.here | apply Pick.there))) ?_
          refine gq zei ?_
          refine gp zpk ?_
          refine gnt ?_
          refine gif rfl (fun hc60 => ?_) (fun hc60 => ?_)
          · try simp only at hc60
            have he2 : errOf τz = 0 := by omega
            have hvq : vu2 = u2 := hvxz.resolve_right (fun h => h he2)
            refine gc_skip ?_
            refine gx_then ?_
            refine gc_seq ?_
            refine gc_block ?_
            refine gsr ?_
            refine gp (r_build (cs := (dc dig0 ++ [.int .i64 0])) Ty.zc_191 Ty.pl_191 (by kernel_rfl)) ?_
            refine zal fun b7 => ?_
            refine gl_eqc (cs' := (dc dig0 ++ [.int .i64 0])) (by repeat (first | exact Pick.here | apply Pick.there)) (by kernel_rfl) ?_
            refine zsA (new := (dc dig0 ++ [.int .i64 0])) (by first | rfl | simp only [List.length_cons, List.length_append, List.length_nil, dc_length, len_L]) (by repeat (first | exact all_nil' | exact dc_one _ | exact One.h | refine all_cons' rfl ?_ | refine all_app' (dc_one _) ?_ | refine all_app' One.h ?_)) ?_
            refine gnt ?_
            refine gsr ?_
            refine gp zL ?_
            refine zc (fun d65 => ?_) (c := fun w1 F1 F2 h1 h2 hd hst => idigest_ok h1 (hB.mv hst.still) hc hl)
            refine gl_pureR (fun g65 => ?_)
            replace g65 : Ag pDig _ d65 := g65
            refine gp zfa ?_
            refine zsN ?_
            refine gnt ?_
            refine gsr ?_
            refine gp zfa ?_
            refine gp zl ?_
            refine zc (fun y69 => ?_) (c := fun w1 F1 F2 h1 h2 hd hst => inum_ok (wd := 6) h1 (hB.mv hst.still) hc hl (by decide) (by decide))
            refine gl_pureR (fun hp69 => ?_)
            obtain ⟨g69, _⟩ := hp69
            replace g69 : Ag (pNum 6) _ (y69 : Int) := g69
            refine gp zfa ?_
            refine zs1 ?_
            refine gnt ?_
            refine gc_region ?_
            refine gp zfa ?_
            refine gp zl ?_
            refine gp (zLa (cs := dc d65 ++ [.int .i64 (y69 : Int)])) ?_
            obtain ⟨cs, hcs⟩ : ∃ cs, cs = dc d65 ++ [.int .i64 (y69 : Int)] := ⟨_, rfl⟩
            obtain ⟨v, hv⟩ : ∃ v : Vdr, v = ⟨d65, y69⟩ := ⟨_, rfl⟩
            have hcl : cs.length = 17 := by rw [hcs]; simp [dc_length]
            have hco : ∀ v ∈ cs, v.oneCell' = true := by rw [hcs]; exact all_app' (dc_one _) (all_cons' rfl all_nil')
            have hag : Ag pVdr τz v := by rw [hv]; exact g65.bind (g69.bind (Ag.pure _))
            have hre : rstep pVdr τz = rstep (pNum 6) (rstep pDig τz) := by rw [pVdr, rstep_bind g65, rstep_bind g69, rstep_pure]
            rw [← hre, ← hcs]
            have i1 := Len.of hcl
            have i2 := One.of hco
            refine gl_conv (M := []) (N := [VlR (fun _ _ => RdVdr) cs v]) Sel.nil (fun w F hF => vl_pure (show RdVdr cs v by rw [hcs, hv]; rfl) hF) ?_
            refine zeN fun b74 => ?_
            refine zapo (news := cs) (fun a75 c75 => ?_)
            refine gp zfa ?_
            refine zs1 ?_
            refine gl_nil ?_
            refine gx_block_normal ?_
            refine gx_then ?_
            refine gc_region ?_
            refine gp zmv ?_
            refine gp zad ?_
            refine gp zas ?_
            refine gl_nil ?_
            refine zrd ((kz + 1, rstep pVdr τz, a75, c75, cssz ++ [cs], lz ++ [v])) ?_ ?_
            · show vu2 - (kz + 1) < vu2 - kz
              omega
            · rintro w' hw
              have h1 := hw.conv (M := [ElR (fun _ _ => RdVdr) cssz lz, VlR (fun _ _ => RdVdr) cs v]) (by repeat (first | exact Sel.nil | (apply Sel.cons; · (repeat (first | exact Pick.here | apply Pick.there))))) (fun _ _ => el_snoc)
              refine zlq (M' := [rowR 191 17 a75 (kz + 1) c75 (cssz.flatten ++ cs), ElR (fun _ _ => RdVdr) (cssz ++ [cs]) (lz ++ [v]), blk b3 30 (.int .i64 (x11 : Int) :: .int .i64 (y15 : Int) :: (dc d18 ++ (q21 ++ [.slice ay ky cy, .slice a75 (kz + 1) c75]))), blk b1 143 [.pointer (some ⟨g, 0, none⟩)], blk b2 30 (.int .i64 0 :: .int .i64 0 :: (dc dig0 ++ ((.int .i64 0 :: .int .i64 0 :: (dc dig0 ++ [.slice none 0 0])) ++ [.slice none 0 0, .slice none 0 0]))), VlR RdQC q21 v21, LsR RdBytes 1 ay ky ly, InR g a c B (rstep pVdr τz)]) ⟨?_, ?_, ?_, ?_, ?_⟩ (by simp) (by repeat (first | exact Sel.nil | (apply Sel.cons; · (repeat (first | exact Pick.here | apply Pick.there))))) w' h1
              · show kz + 1 ≤ vu2; omega
              · exact .inl hvq
              · rw [show u2 - kz = u2 - (kz + 1) + 1 by omega] at hmanyz; exact hmanyz.next hag
              · intro c' hc'; rcases List.mem_append.1 hc' with h | h; exact ⟨hcssz c' h, hcs1z c' h⟩; rw [List.mem_singleton.1 h]; exact ⟨hcl, hco⟩
              · simp [hllz]
          · try simp only at hc60
            have he2 : ¬ errOf τz = 0 := by omega
            refine gc_exit ?_
            refine gx_then_exit ?_
            refine gx_round_exit ?_
            refine gx_block_hit ?_
            refine gx_then ?_
            refine gsr ?_
            refine gp (zLa (cs := (.int .i64 (x11 : Int) :: .int .i64 (y15 : Int) :: (dc d18 ++ (q21 ++ [.slice ay ky cy, .slice az kz cz]))))) ?_
            refine zsA (new := (.int .i64 (x11 : Int) :: .int .i64 (y15 : Int) :: (dc d18 ++ (q21 ++ [.slice ay ky cy, .slice az kz cz])))) (by first | rfl | simp only [List.length_cons, List.length_append, List.length_nil, dc_length, len_L]) (by repeat (first | exact all_nil' | exact dc_one _ | exact One.h | refine all_cons' rfl ?_ | refine all_app' (dc_one _) ?_ | refine all_app' One.h ?_)) ?_
            refine gnt ?_
            refine gc_ret ?_
            refine gx_retc rfl rfl (ld_aggS Ty.row_30 Ty.sz_30 (by repeat (first | exact Pick.here | apply Pick.there)) (by (simp only [List.drop_succ_cons, List.drop_zero, List.take_succ_cons, List.take_zero, List.cons_append, List.nil_append, List.append_assoc, drop_dc, drop_dc', take_dc, take_dc', drop_L, drop_L', take_L, take_L', len_L, Nat.reduceLeDiff, Nat.reduceSub, Nat.reduceAdd, Nat.le_refl, List.length_cons, List.length_append, List.length_nil, dc_length, List.drop_nil, List.take_nil, List.append_nil, List.length_map, List.length_replicate]; first | done | rfl)) (by first | rfl | (simp only [List.drop_succ_cons, List.drop_zero, List.take_succ_cons, List.take_zero, List.cons_append, List.nil_append, List.append_assoc, drop_dc, drop_dc', take_dc, take_dc', drop_L, drop_L', take_L, take_L', len_L, Nat.reduceLeDiff, Nat.reduceSub, Nat.reduceAdd, Nat.le_refl, List.length_cons, List.length_append, List.length_nil, dc_length, List.drop_nil, List.take_nil, List.append_nil, List.length_map, List.length_replicate]; first | done | omega))) ?_
            have hcs2 : (if errOf (rstep (pNum 1) (rstep (pList (pBytes 16) 4) (rstep pQC (rstep pDig (rstep pAt σ))))) = 0 ∧ 7 < u2 then failE 1 (rstep (pNum 1) (rstep (pList (pBytes 16) 4) (rstep pQC (rstep pDig (rstep pAt σ))))) else rstep (pNum 1) (rstep (pList (pBytes 16) 4) (rstep pQC (rstep pDig (rstep pAt σ))))) = mSt 7 (rstep (pList (pBytes 16) 4) (rstep pQC (rstep pDig (rstep pAt σ)))) u2 := rfl
            have hdz : rstep (pMany pVdr u2) (mSt 7 (rstep (pList (pBytes 16) 4) (rstep pQC (rstep pDig (rstep pAt σ)))) u2) = τz ∧ Ag (pMany pVdr u2) (mSt 7 (rstep (pList (pBytes 16) 4) (rstep pQC (rstep pDig (rstep pAt σ)))) u2) lz := by by_cases he3 : errOf τz = 0 <;> first | (have hb := hmanyz.bad he3; exact ⟨hb.1, hb.2 _⟩) | (have hvq := hvxz.resolve_right (fun h => h he3); have hm0 : u2 - kz = 0 := (by omega); rw [hm0] at hmanyz; exact hmanyz.done)
            have hfinz := list_fin hxu2 hcs2 hdz
            have gV : Ag (pList pVdr 7) _ lz := hfinz.2
            have ha : Ag pBlock σ ⟨x11, y15, d18, v21, ly, lz⟩ := gA15.bind (g18.bind (g21.bind (gP.bind (gV.bind (Ag.pure _)))))
            have hr : rstep pBlock σ = rstep (pList pVdr 7) (rstep (pList (pBytes 16) 4) (rstep pQC (rstep pDig (rstep pAt (σ))))) := by rw [pBlock, rstep_bind gA15, rstep_bind g18, rstep_bind g21, rstep_bind gP, rstep_bind gV, rstep_pure]
            rw [hr]
            rw [hfinz.1]
            intro w' hw
            have hle := (hw.rowLe (e := 191) (size := 17) (a := az) (m := kz) (c := cz) (xs := cssz.flatten) (by repeat (first | exact Pick.here | apply Pick.there))).1
            refine ⟨((.int .i64 (x11 : Int) :: .int .i64 (y15 : Int) :: (dc d18 ++ (q21 ++ [.slice ay ky cy, .slice az kz cz]))), ⟨x11, y15, d18, v21, ly, lz⟩), rfl, St.pureI ⟨ha, by simp only [List.length_cons, List.length_append, List.length_nil, dc_length, len_L], all_cons' rfl (all_cons' rfl (all_app' (dc_one _) (all_app' o21 (all_cons' rfl (all_cons' rfl all_nil')))))⟩ ?_⟩
            have h2 := hw.conv (M := [rowR 191 17 az kz cz cssz.flatten, ElR (fun _ _ => RdVdr) cssz lz]) (N := [LsR (fun _ _ => RdVdr) 17 az kz lz]) (by repeat (first | exact Sel.nil | (apply Sel.cons; · (repeat (first | exact Pick.here | apply Pick.there))))) (fun _ _ => ls_of hcssz)
            exact (h2.conv (M := [VlR RdQC q21 v21, LsR RdBytes 1 ay ky ly, LsR (fun _ _ => RdVdr) 17 az kz lz]) (by repeat (first | exact Sel.nil | (apply Sel.cons; · (repeat (first | exact Pick.here | apply Pick.there))))) (fun _ _ => vl_block hley hle)).sel (by repeat (first | exact Sel.nil | (apply Sel.cons; · (repeat (first | exact Pick.here | apply Pick.there)))))
        · refine gc_region ?_
          refine gp zmv ?_
          refine gp zmv ?_
          refine gp (r_bool (c := false) zlt (decide_eq_false (by omega))) ?_
          refine gp zmv ?_
          refine gn ?_
          refine gn ?_
          refine gn ?_
          refine gn ?_
          refine gn ?_
          refine gn ?_
          refine gp zpk ?_
          refine gnt ?_
          refine gc_condF rfl rfl ?_
          refine gc_exit ?_
          refine gx_then_exit ?_
          refine gx_round_exit ?_
          refine gx_block_hit ?_
          refine gx_then ?_
          refine gsr ?_
          refine gp (zLa (cs := (.int .i64 (x11 : Int) :: .int .i64 (y15 : Int) :: (dc d18 ++ (q21 ++ [.slice ay ky cy, .slice az kz cz]))))) ?_
          refine zsA (new := (.int .i64 (x11 : Int) :: .int .i64 (y15 : Int) :: (dc d18 ++ (q21 ++ [.slice ay ky cy, .slice az kz cz])))) (by first | rfl | simp only [List.length_cons, List.length_append, List.length_nil, dc_length, len_L]) (by repeat (first | exact all_nil' | exact dc_one _ | exact One.h | refine all_cons' rfl ?_ | refine all_app' (dc_one _) ?_ | refine all_app' One.h ?_)) ?_
          refine gnt ?_
          refine gc_ret ?_
          refine gx_retc rfl rfl (ld_aggS Ty.row_30 Ty.sz_30 (by repeat (first | exact Pick.here | apply Pick.there)) (by (simp only [List.drop_succ_cons, List.drop_zero, List.take_succ_cons, List.take_zero, List.cons_append, List.nil_append, List.append_assoc, drop_dc, drop_dc', take_dc, take_dc', drop_L, drop_L', take_L, take_L', len_L, Nat.reduceLeDiff, Nat.reduceSub, Nat.reduceAdd, Nat.le_refl, List.length_cons, List.length_append, List.length_nil, dc_length, List.drop_nil, List.take_nil, List.append_nil, List.length_map, List.length_replicate]; first | done | rfl)) (by first | rfl | (simp only [List.drop_succ_cons, List.drop_zero, List.take_succ_cons, List.take_zero, List.cons_append, List.nil_append, List.append_assoc, drop_dc, drop_dc', take_dc, take_dc', drop_L, drop_L', take_L, take_L', len_L, Nat.reduceLeDiff, Nat.reduceSub, Nat.reduceAdd, Nat.le_refl, List.length_cons, List.length_append, List.length_nil, dc_length, List.drop_nil, List.take_nil, List.append_nil, List.length_map, List.length_replicate]; first | done | omega))) ?_
          have hcs2 : (if errOf (rstep (pNum 1) (rstep (pList (pBytes 16) 4) (rstep pQC (rstep pDig (rstep pAt σ))))) = 0 ∧ 7 < u2 then failE 1 (rstep (pNum 1) (rstep (pList (pBytes 16) 4) (rstep pQC (rstep pDig (rstep pAt σ))))) else rstep (pNum 1) (rstep (pList (pBytes 16) 4) (rstep pQC (rstep pDig (rstep pAt σ))))) = mSt 7 (rstep (pList (pBytes 16) 4) (rstep pQC (rstep pDig (rstep pAt σ)))) u2 := rfl
          have hdz : rstep (pMany pVdr u2) (mSt 7 (rstep (pList (pBytes 16) 4) (rstep pQC (rstep pDig (rstep pAt σ)))) u2) = τz ∧ Ag (pMany pVdr u2) (mSt 7 (rstep (pList (pBytes 16) 4) (rstep pQC (rstep pDig (rstep pAt σ)))) u2) lz := by by_cases he3 : errOf τz = 0 <;> first | (have hb := hmanyz.bad he3; exact ⟨hb.1, hb.2 _⟩) | (have hvq := hvxz.resolve_right (fun h => h he3); have hm0 : u2 - kz = 0 := (by omega); rw [hm0] at hmanyz; exact hmanyz.done)
          have hfinz := list_fin hxu2 hcs2 hdz
          have gV : Ag (pList pVdr 7) _ lz := hfinz.2
          have ha : Ag pBlock σ ⟨x11, y15, d18, v21, ly, lz⟩ := gA15.bind (g18.bind (g21.bind (gP.bind (gV.bind (Ag.pure _)))))
          have hr : rstep pBlock σ = rstep (pList pVdr 7) (rstep (pList (pBytes 16) 4) (rstep pQC (rstep pDig (rstep pAt (σ))))) := by rw [pBlock, rstep_bind gA15, rstep_bind g18, rstep_bind g21, rstep_bind gP, rstep_bind gV, rstep_pure]
          rw [hr]
          rw [hfinz.1]
          intro w' hw
          have hle := (hw.rowLe (e := 191) (size := 17) (a := az) (m := kz) (c := cz) (xs := cssz.flatten) (by repeat (first | exact Pick.here | apply Pick.there))).1
          refine ⟨((.int .i64 (x11 : Int) :: .int .i64 (y15 : Int) :: (dc d18 ++ (q21 ++ [.slice ay ky cy, .slice az kz cz]))), ⟨x11, y15, d18, v21, ly, lz⟩), rfl, St.pureI ⟨ha, by simp only [List.length_cons, List.length_append, List.length_nil, dc_length, len_L], all_cons' rfl (all_cons' rfl (all_app' (dc_one _) (all_app' o21 (all_cons' rfl (all_cons' rfl all_nil')))))⟩ ?_⟩
          have h2 := hw.conv (M := [rowR 191 17 az kz cz cssz.flatten, ElR (fun _ _ => RdVdr) cssz lz]) (N := [LsR (fun _ _ => RdVdr) 17 az kz lz]) (by repeat (first | exact Sel.nil | (apply Sel.cons; · (repeat (first | exact Pick.here | apply Pick.there))))) (fun _ _ => ls_of hcssz)
          exact (h2.conv (M := [VlR RdQC q21 v21, LsR RdBytes 1 ay ky ly, LsR (fun _ _ => RdVdr) 17 az kz lz]) (by repeat (first | exact Sel.nil | (apply Sel.cons; · (repeat (first | exact Pick.here | apply Pick.there))))) (fun _ _ => vl_block hley hle)).sel (by repeat (first | exact Sel.nil | (apply Sel.cons; · (repeat (first | exact Pick.here | apply Pick.there)))))

set_option maxHeartbeats 400000 in
theorem ichange_ok {w : World} {F : Nat → Prop} {g c : Nat} {a : Option Addr} {B : List UInt8} {σ : RSt} (h : stars [InR g a c B σ] w F) (hB : RdRow w (fun k => ¬ F k) 1 a B.length (B.map B8)) (hc : B.length ≤ c) (hl : B.length ≤ 40000)  :
    Calls Tryz.prog 70 #[.agg (List.toArray [.pointer (some ⟨g, 0, none⟩)])] w (Post w F (fun r : List Value × Chg => .agg r.1.toArray) (fun r => [pureR (r.2.blocks.length = 3 ∧ Ag pChg σ r.2 ∧ r.1.length = 136 ∧ ∀ v ∈ r.1, v.oneCell' = true), VlR RdChg r.1 r.2, InR g a c B (rstep pChg σ)])) := by
  refine g_enter (env := [(0, .agg (List.toArray [.pointer (some ⟨g, 0, none⟩)]))]) Tryz.func70 rfl h Tryz.ntmps70 rfl rfl ?_
  refine gsr ?_
  refine zbN fun b1 => ?_
  refine zal fun b2 => ?_
  refine gl_eqc (cs' := chgC) (by repeat (first | exact Pick.here | apply Pick.there)) (by kernel_rfl) ?_
  refine gnt ?_
  refine gsr ?_
  refine gp (r_build (cs := chgC) Ty.zc_33 Ty.pl_33 (by kernel_rfl)) ?_
  refine zal fun b3 => ?_
  refine gl_eqc (cs' := chgC) (by repeat (first | exact Pick.here | apply Pick.there)) (by kernel_rfl) ?_
  refine zsA (new := chgC) (by first | rfl | simp only [List.length_cons, List.length_append, List.length_nil, dc_length, len_L]) (by repeat (first | exact all_nil' | exact dc_one _ | exact One.h | refine all_cons' rfl ?_ | refine all_app' (dc_one _) ?_ | refine all_app' One.h ?_)) ?_
  refine gl_eqc (cs' := chgAt [] 0) (by repeat (first | exact Pick.here | apply Pick.there)) (by kernel_rfl) ?_
  refine gnt ?_
  refine gc_seq ?_
  refine gsr ?_
  refine gp zmv ?_
  refine gnt ?_
  refine gc_block ?_
  refine gc_loop (α := Nat × RSt × List (List Value) × List Block) (fun y => [pureR (y.1 ≤ 3 ∧ Many pBlock 3 σ (3 - y.1) y.2.1 y.2.2.2 ∧ (∀ c ∈ y.2.2.1, c.length = 39 ∧ ∀ v ∈ c, v.oneCell' = true) ∧ y.2.2.1.length = y.1 ∧ y.2.2.2.length = y.1), blk b3 33 (chgAt y.2.2.1 y.1), ElR RdBlock y.2.2.1 y.2.2.2, InR g a c B y.2.1, blk b1 143 [.pointer (some ⟨g, 0, none⟩)], blk b2 33 chgC]) (fun y => [(6, .int .i64 (y.1 : Int))]) [4, 7, 8, 9, 10, 11, 12, 13, 14] (fun y => 3 - y.1) (0, σ, [], []) ?_ ?_ ?_
  · refine env_start (by kernel_rfl)
  · exact fun w' hw => zlp ⟨Nat.zero_le _, Many.start, (by intro c hc; cases hc), rfl, rfl⟩ (by repeat (first | exact Sel.nil | (apply Sel.cons; · (repeat (first | exact Pick.here | apply Pick.there))))) w' (hw.mapL fun F' hF' => el_nil (rd := RdBlock) hF')
  · intro y u
    obtain ⟨k, τ, css, l⟩ := y
    refine gc_pureR (fun hk => ?_)
    obtain ⟨hk, hmany, hcss, hcl, hll⟩ := hk
    replace hk : k ≤ 3 := hk
    replace hcss : ∀ c ∈ css, c.length = 39 ∧ ∀ v ∈ c, v.oneCell' = true := hcss
    have hcs1 := fun c hc v hv => (hcss c hc).2 v hv
    replace hcss := fun c hc => (hcss c hc).1
    replace hcl : css.length = k := hcl
    replace hll : l.length = k := hll
    replace hmany : Many pBlock 3 σ (3 - k) τ l := hmany
    refine gsr ?_
    refine gp zlt ?_
    refine gnt ?_
    refine gc_seq ?_
    refine gif rfl (fun hc7 => ?_) (fun hc7 => ?_)
    · try simp only at hc7
      have hk' : k < 3 := by omega
      refine gc_skip ?_
      refine gx_then ?_
      refine gc_seq ?_
      refine gc_block ?_
      refine gsr ?_
      refine gp zmv ?_
      refine gp zas ?_
      refine gnt ?_
      refine gc_region ?_
      refine gp zmv ?_
      refine gp zL ?_
      refine zc ?_ (c := fun w1 F1 F2 h1 h2 hd hst => iblock_ok h1 (hB.mv hst.still) hc hl)
      rintro ⟨q11, v11⟩
      refine gl_pureR (fun hp11 => ?_)
      obtain ⟨g11, z11, o11⟩ := hp11
      replace z11 : q11.length = _ := z11
      replace g11 : Ag pBlock _ v11 := g11
      have i11 := Len.of z11
      have j11 := One.of (show ∀ v ∈ q11, v.oneCell' = true from o11)
      refine gp zfa ?_
      refine gp (zib) ?_
      refine gl_storeN (wt0 rfl) rfl rfl Ty.sz_30 z11 (by repeat (first | exact Pick.here | apply Pick.there)) (by rw [chg_len hcss hcl hk]; omega) o11 (chg_store hcss hcl hk' z11 (by omega)) ?_
      refine gl_nil ?_
      refine gx_block_normal ?_
      refine gx_then ?_
      refine gc_region ?_
      refine gp zad ?_
      refine gp zmv ?_
      refine gl_nil ?_
      refine zrd ((k + 1, rstep pBlock τ, css ++ [q11], l ++ [v11])) ?_ ?_
      · show 3 - (k + 1) < 3 - k
        omega
      · rintro w' hw
        have h1 := hw.conv (M := [ElR RdBlock css l, VlR RdBlock q11 v11]) (by repeat (first | exact Sel.nil | (apply Sel.cons; · (repeat (first | exact Pick.here | apply Pick.there))))) (fun _ _ => el_snoc)
        refine zlp ⟨?_, ?_, ?_, ?_, ?_⟩ (by repeat (first | exact Sel.nil | (apply Sel.cons; · (repeat (first | exact Pick.here | apply Pick.there))))) w' h1
        · show k + 1 ≤ 3; omega
        · rw [show 3 - k = 3 - (k + 1) + 1 by omega] at hmany; exact hmany.next g11
        · intro c' hc'; rcases List.mem_append.1 hc' with h | h; exact ⟨hcss c' h, hcs1 c' h⟩; rw [List.mem_singleton.1 h]; exact ⟨z11, o11⟩
        · simp [hcl]
        · simp [hll]
    · try simp only at hc7
      have hk' : k = 3 := by omega
      subst hk'
      have hm := hmany.done
      have hfl : css.flatten.length = 117 := by rw [flatten_len hcss, hcl]
      have hi := Len.of hfl
      have hone : One css.flatten := One.of (fun v hv => by obtain ⟨c, hc, hvc⟩ := List.mem_flatten.1 hv; exact hcs1 c hc v hvc)
      refine gc_eqc (cs' := css.flatten ++ qcC) (by repeat (first | exact Pick.here | apply Pick.there)) (by rw [← hcl]; simp [chgAt, hcl]) ?_
      refine gc_exit ?_
      refine gx_then_exit ?_
      refine gx_round_exit ?_
      refine gx_block_hit ?_
      refine gx_then ?_
      refine gsr ?_
      refine gp zL ?_
      refine zc ?_ (c := fun w1 F1 F2 h1 h2 hd hst => iqc_ok h1 (hB.mv hst.still) hc hl)
      rintro ⟨q16, v16⟩
      refine gl_pureR (fun hp16 => ?_)
      obtain ⟨g16, z16, o16⟩ := hp16
      replace z16 : q16.length = _ := z16
      replace g16 : Ag pQC _ v16 := g16
      have i16 := Len.of z16
      have j16 := One.of (show ∀ v ∈ q16, v.oneCell' = true from o16)
      refine gp zfa ?_
      refine zsN ?_
      refine gnt ?_
      refine gsr ?_
      refine gp (zLa (cs := css.flatten ++ q16)) ?_
      refine zsA (new := (css.flatten ++ q16)) (by first | rfl | simp only [List.length_cons, List.length_append, List.length_nil, dc_length, len_L]) (all_app' One.h o16) ?_
      refine gnt ?_
      refine gc_ret ?_
      refine gx_retc rfl rfl (ld_aggS Ty.row_33 Ty.sz_33 (by repeat (first | exact Pick.here | apply Pick.there)) (by (simp only [List.drop_succ_cons, List.drop_zero, List.take_succ_cons, List.take_zero, List.cons_append, List.nil_append, List.append_assoc, drop_dc, drop_dc', take_dc, take_dc', drop_L, drop_L', take_L, take_L', len_L, Nat.reduceLeDiff, Nat.reduceSub, Nat.reduceAdd, Nat.le_refl, List.length_cons, List.length_append, List.length_nil, dc_length, List.drop_nil, List.take_nil, List.append_nil, List.length_map, List.length_replicate]; first | done | rfl)) (by first | rfl | (simp only [List.drop_succ_cons, List.drop_zero, List.take_succ_cons, List.take_zero, List.cons_append, List.nil_append, List.append_assoc, drop_dc, drop_dc', take_dc, take_dc', drop_L, drop_L', take_L, take_L', len_L, Nat.reduceLeDiff, Nat.reduceSub, Nat.reduceAdd, Nat.le_refl, List.length_cons, List.length_append, List.length_nil, dc_length, List.drop_nil, List.take_nil, List.append_nil, List.length_map, List.length_replicate]; first | done | omega))) ?_
      have ha : Ag pChg σ ⟨l, v16⟩ := hm.2.bind ((show Ag pQC (rstep (pMany pBlock 3) σ) v16 by rw [hm.1]; exact g16).bind (Ag.pure _))
      have hr : rstep pChg σ = rstep pQC τ := by rw [pChg, rstep_bind hm.2, hm.1, rstep_bind g16, rstep_pure]
      rw [hr]
      intro w' hw
      refine ⟨(css.flatten ++ q16, ⟨l, v16⟩), rfl, St.pureI ⟨hll, ha, by simp only [List.length_append, len_L], ?_⟩ ?_⟩
      · exact all_app' One.h o16
      · exact (hw.conv (M := [ElR RdBlock css l, VlR RdQC q16 v16]) (by repeat (first | exact Sel.nil | (apply Sel.cons; · (repeat (first | exact Pick.here | apply Pick.there))))) (fun _ _ => vl_chg hcss hll)).sel (by repeat (first | exact Sel.nil | (apply Sel.cons; · (repeat (first | exact Pick.here | apply Pick.there)))))

end Go.Proofs.YtkgbbnhdioghmaaGreatDoor

/- Walks, by program (wg.py) out of a spec. -/
namespace Go.Proofs.YtkgbbnhdioghmaaGreatDoor
open Go
set_option linter.unusedVariables false
set_option linter.unusedSimpArgs false

attribute [local irreducible] Gl Gc Gx Gs Runs Wt

attribute [local irreducible] voteC tmoC propC blkC chgC sgnC tcC qcC dc

set_option maxRecDepth 20000

set_option maxHeartbeats 400000 in
theorem idecode_ok {w : World} {F : Nat → Prop} {c : Nat} {a : Option Addr} {B : List UInt8} (h : stars [] w F) (hB : RdRow w (fun k => ¬ F k) 1 a B.length (B.map B8)) (hc : B.length ≤ c) (hl : B.length ≤ 40000) :
    Calls Tryz.prog 22 #[.slice a B.length c] w (Post w F (fun r : List Value => .tuple #[.agg r.toArray, .int .i64 ((allE pMsg (msg0 0) B).1 : Int)]) (fun r => [pureR (r.length = 304 ∧ ∀ v ∈ r, v.oneCell' = true), VlR RdMsg r (allE pMsg (msg0 0) B).2])) := by
  refine g_enter (env := [(0, .slice a B.length c)]) Tryz.func22 rfl h Tryz.ntmps22 rfl rfl ?_
  refine gsr ?_
  refine zal fun b2 => ?_
  refine gl_eqc (cs' := msgC 0 dig0 dig0) (by repeat (first | exact Pick.here | apply Pick.there)) (by kernel_rfl) ?_
  refine gp zas ?_
  refine gnt ?_
  refine gsr ?_
  refine gp zmv ?_
  refine gp (r_build (cs := [.slice a B.length c, .int .i64 0, .int .i64 0]) Ty.zc_141 Ty.pl_141 (by kernel_rfl)) ?_
  refine zbN fun b9 => ?_
  refine gp zbu ?_
  refine zal fun b4 => ?_
  refine zsN ?_
  refine gnt ?_
  refine gsr ?_
  refine gp zfa ?_
  refine gp zl ?_
  refine gl_conv (M := [blk b9 141 [.slice a B.length c, .int .i64 0, .int .i64 0]]) (N := [InR b9 a c B (.ok B)]) (by repeat (first | exact Sel.nil | (apply Sel.cons; · (repeat (first | exact Pick.here | apply Pick.there))))) (fun w F hF => in_mk (r := ⟨0, 0⟩) hF rfl rfl rfl (Nat.zero_le _)) ?_
  refine zc (fun x => ?_) (c := fun w1 F1 F2 h1 h2 hd hst => inum_ok (wd := 1) h1 (hB.mv hst.still) hc hl (by decide) (by decide))
  refine gl_pureR (fun hp13 => ?_)
  obtain ⟨g13, hx255⟩ := hp13
  replace g13 : Ag (pNum 1) (.ok B) (x : Int) := g13
  obtain ⟨σ1, hσ1⟩ : ∃ σ1, σ1 = rstep (pNum 1) (.ok B) := ⟨_, rfl⟩
  rw [← hσ1]
  refine gp (r_build (cs := .int .i64 (x : Int) :: (voteC ++ (tmoC ++ (propC ++ (dc dig0 ++ (dc dig0 ++ (blkC ++ chgC))))))) Ty.zc_66 Ty.pl_66 (by kernel_rfl)) ?_
  refine zal fun b5 => ?_
  refine gl_eqc (cs' := .int .i64 0 :: (voteC ++ (tmoC ++ (propC ++ (dc dig0 ++ (dc dig0 ++ (blkC ++ chgC))))))) (by repeat (first | exact Pick.here | apply Pick.there)) (by kernel_rfl) ?_
  refine zsA (new := .int .i64 (x : Int) :: (voteC ++ (tmoC ++ (propC ++ (dc dig0 ++ (dc dig0 ++ (blkC ++ chgC))))))) (by simp only [List.length_cons, List.length_append, List.length_nil, dc_length, len_L]) (by repeat (first | exact all_nil' | exact dc_one _ | exact One.h | refine all_app' (dc_one _) ?_ | refine all_app' One.h ?_ | refine all_cons' rfl ?_)) ?_
  refine gnt ?_
  refine gc_seq ?_
  refine gsr ?_
  refine gp zfa ?_
  refine gp zl ?_
  refine gnt ?_
  refine gc_block ?_
  refine gc_seq ?_
  by_cases hx1 : x = 1
  · refine gc_region ?_
    refine gp (r_bool (c := true) zei (decide_eq_true (by omega))) ?_
    refine gp zas ?_
    refine gnt ?_
    refine gc_condT rfl rfl ?_
    refine gsr ?_
    have hk : x = 1 := by omega
    subst hk
    refine gl_eqc (cs' := .int .i64 1 :: ((.int .i64 0 :: .int .i64 0 :: (dc dig0 ++ sgnC)) ++ (tmoC ++ (propC ++ (dc dig0 ++ (dc dig0 ++ (blkC ++ chgC))))))) (by repeat (first | exact Pick.here | apply Pick.there)) (by kernel_rfl) ?_
    refine gp zfa ?_
    refine gp zl ?_
    refine zc (fun x24 => ?_) (c := fun w1 F1 F2 h1 h2 hd hst => inum_ok (wd := 4) h1 (hB.mv hst.still) hc hl (by decide) (by decide))
    refine gl_pureR (fun hp24 => ?_)
    obtain ⟨g24, _⟩ := hp24
    replace g24 : Ag (pNum 4) _ (x24 : Int) := g24
    refine gp zfa ?_
    refine gp zfa ?_
    refine zs1 ?_
    refine gnt ?_
    refine gsr ?_
    refine gp zfa ?_
    refine gp zl ?_
    refine zc (fun y29 => ?_) (c := fun w1 F1 F2 h1 h2 hd hst => inum_ok (wd := 6) h1 (hB.mv hst.still) hc hl (by decide) (by decide))
    refine gl_pureR (fun hp29 => ?_)
    obtain ⟨g29, _⟩ := hp29
    replace g29 : Ag (pNum 6) _ (y29 : Int) := g29
    have gA29 : Ag pAt σ1 ((x24 : Int), (y29 : Int)) := g24.bind (g29.bind (Ag.pure _))
    have rA29 : rstep pAt σ1 = rstep (pNum 6) (rstep (pNum 4) σ1) := by rw [pAt, rstep_bind g24, rstep_bind g29, rstep_pure]
    rw [← rA29]
    refine gp zfa ?_
    refine gp zfa ?_
    refine zs1 ?_
    refine gnt ?_
    refine gsr ?_
    refine gp zL ?_
    refine zc (fun d33 => ?_) (c := fun w1 F1 F2 h1 h2 hd hst => idigest_ok h1 (hB.mv hst.still) hc hl)
    refine gl_pureR (fun g33 => ?_)
    replace g33 : Ag pDig _ d33 := g33
    refine gp zfa ?_
    refine gp zfa ?_
    refine zsN ?_
    refine gnt ?_
    refine gc_region ?_
    refine gp zL ?_
    refine zc ?_ (c := fun w1 F1 F2 h1 h2 hd hst => isigned_ok h1 (hB.mv hst.still) hc hl)
    rintro ⟨q37, v37⟩
    refine gl_pureR (fun hp37 => ?_)
    obtain ⟨g37, z37, o37⟩ := hp37
    replace z37 : q37.length = _ := z37
    replace g37 : Ag pSigned _ v37 := g37
    have i37 := Len.of z37
    have j37 := One.of (show ∀ v ∈ q37, v.oneCell' = true from o37)
    refine gp zfa ?_
    refine gp zfa ?_
    refine zsN ?_
    refine gl_nil ?_
    refine gx_block_normal ?_
    refine gx_then ?_
    refine gc_seq ?_
    refine gsr ?_
    refine gp zfa ?_
    refine gp zl ?_
    have hv1 : Ag pVote σ1 ⟨x24, y29, d33, v37⟩ := gA29.bind (g33.bind (g37.bind (Ag.pure _)))
    have hb0 : pBody ((1 : Nat) : Int) = pBind pVote (fun v => pPure { msg0 1 with vote := v }) := rfl
    have hb1 : Ag (pBody ((1 : Nat) : Int)) σ1 { msg0 1 with vote := ⟨x24, y29, d33, v37⟩ } := by rw [hb0]; exact hv1.bind (Ag.pure _)
    have hr1 : rstep (pBody ((1 : Nat) : Int)) σ1 = rstep pSigned (rstep pDig (rstep pAt (σ1))) := by rw [hb0, rstep_bind hv1, rstep_pure]; rw [pVote, rstep_bind gA29, rstep_bind g33, rstep_bind g37, rstep_pure]
    have ha : Ag pMsg (.ok B) { msg0 1 with vote := ⟨x24, y29, d33, v37⟩ } := g13.bind (by rw [← hσ1]; exact hb1)
    have hrM : rstep pMsg (.ok B) = rstep pSigned (rstep pDig (rstep pAt (σ1))) := by rw [pMsg, rstep_bind g13, ← hσ1]; exact hr1
    rw [← hrM]
    refine gl_conv (M := [VlR RdSigned q37 v37]) (N := [VlR RdMsg (.int .i64 1 :: .int .i64 (x24 : Int) :: .int .i64 (y29 : Int) :: (dc d33 ++ (q37 ++ (tmoC ++ (propC ++ (dc dig0 ++ (dc dig0 ++ (blkC ++ chgC)))))))) { msg0 1 with vote := ⟨x24, y29, d33, v37⟩ }]) (by repeat (first | exact Sel.nil | (apply Sel.cons; · (repeat (first | exact Pick.here | apply Pick.there))))) (fun _ _ => vl_vote (by first | rfl | simp only [List.cons_append, List.append_assoc])) ?_
    obtain ⟨q, hq⟩ : ∃ q, q = .int .i64 1 :: .int .i64 (x24 : Int) :: .int .i64 (y29 : Int) :: (dc d33 ++ (q37 ++ (tmoC ++ (propC ++ (dc dig0 ++ (dc dig0 ++ (blkC ++ chgC))))))) := ⟨_, rfl⟩
    rw [← hq]
    have hql : q.length = 304 := by rw [hq]; simp only [msgC, List.length_cons, List.length_append, List.length_nil, dc_length, len_L]
    have hqo : ∀ v ∈ q, v.oneCell' = true := by rw [hq]; (try unfold msgC); exact (by repeat (first | exact all_nil' | exact dc_one _ | exact One.h | refine all_app' (dc_one _) ?_ | refine all_app' One.h ?_ | refine all_cons' rfl ?_))
    have iq := Len.of hql
    have jq := One.of hqo
    obtain ⟨v, hv⟩ : ∃ v, v = { msg0 1 with vote := ⟨x24, y29, d33, v37⟩ } := ⟨_, rfl⟩
    rw [← hv] at ha
    rw [← hv]
    have hfin := allE_fin (z := msg0 0) noz_msg ha
    refine zc (fun _ => ?_) (c := fun w1 F1 F2 h1 h2 hd hst => idone_ok h1 (hB.mv hst.still) hc hl)
    refine gp zas ?_
    refine gnt ?_
    refine gsr ?_
    refine gp zmv ?_
    refine gp (r_bool (c := decide (¬ doneE (rstep pMsg (.ok B)) = 0)) zni (by simp)) ?_
    refine gnt ?_
    refine gif rfl (fun hc103 => ?_) (fun hc103 => ?_)
    · try simp only at hc103
      have hd : ¬ doneE (rstep pMsg (.ok B)) = 0 := by simpa using hc103
      rw [← hfin.1, hfin.2.2 hd]
      refine gsr ?_
      refine gp (r_build (cs := msgC 0 dig0 dig0) Ty.zc_66 Ty.pl_66 (by kernel_rfl)) ?_
      refine gp zmv ?_
      refine zsA (new := msgC 0 dig0 dig0) Len.h One.h ?_
      refine gp zas ?_
      refine gnt ?_
      refine gc_ret ?_
      refine gx_then_ret ?_
      refine gx_retct rfl rfl (by conv => lhs; whnf) (ld_aggS Ty.row_66 Ty.sz_66 (by repeat (first | exact Pick.here | apply Pick.there)) (by (simp only [List.drop_succ_cons, List.drop_zero, List.take_succ_cons, List.take_zero, List.cons_append, List.nil_append, List.append_assoc, drop_dc, drop_dc', take_dc, take_dc', drop_L, drop_L', take_L, take_L', len_L, Nat.reduceLeDiff, Nat.reduceSub, Nat.reduceAdd, Nat.le_refl, List.length_cons, List.length_append, List.length_nil, dc_length, List.drop_nil, List.take_nil, List.append_nil, List.length_map, List.length_replicate]; first | done | rfl)) (by first | rfl | (simp only [List.drop_succ_cons, List.drop_zero, List.take_succ_cons, List.take_zero, List.cons_append, List.nil_append, List.append_assoc, drop_dc, drop_dc', take_dc, take_dc', drop_L, drop_L', take_L, take_L', len_L, Nat.reduceLeDiff, Nat.reduceSub, Nat.reduceAdd, Nat.le_refl, List.length_cons, List.length_append, List.length_nil, dc_length, List.drop_nil, List.take_nil, List.append_nil, List.length_map, List.length_replicate]; first | done | omega))) ?_
      first | exact fun w' hw => ⟨q, rfl, St.pureI ⟨hql, hqo⟩ (hw.sel (by repeat (first | exact Sel.nil | (apply Sel.cons; · (repeat (first | exact Pick.here | apply Pick.there))))))⟩ | exact fun w' hw => ⟨msgC 0 dig0 dig0, rfl, St.pureI ⟨Len.h, One.h⟩ ((hw.mapL fun F' hF' => vl_pure (rd := RdMsg) (show RdMsg _ _ (msgC 0 dig0 dig0) (msg0 0) from rdMsgOf 0 dig0 dig0) hF').sel (by repeat (first | exact Sel.nil | (apply Sel.cons; · (repeat (first | exact Pick.here | apply Pick.there))))))⟩
    · try simp only at hc103
      have hd : doneE (rstep pMsg (.ok B)) = 0 := by simpa using hc103
      rw [← hfin.1, hfin.2.1 hd, hd]
      refine gc_skip ?_
      refine gx_then ?_
      refine gsr ?_
      refine gp (zLa (cs := q)) ?_
      refine zsA (new := q) hql hqo ?_
      refine gp zas ?_
      refine gnt ?_
      refine gc_ret ?_
      refine gx_retct rfl rfl (by conv => lhs; whnf) (ld_aggS Ty.row_66 Ty.sz_66 (by repeat (first | exact Pick.here | apply Pick.there)) (by (simp only [List.drop_succ_cons, List.drop_zero, List.take_succ_cons, List.take_zero, List.cons_append, List.nil_append, List.append_assoc, drop_dc, drop_dc', take_dc, take_dc', drop_L, drop_L', take_L, take_L', len_L, Nat.reduceLeDiff, Nat.reduceSub, Nat.reduceAdd, Nat.le_refl, List.length_cons, List.length_append, List.length_nil, dc_length, List.drop_nil, List.take_nil, List.append_nil, List.length_map, List.length_replicate]; first | done | rfl)) (by first | rfl | (simp only [List.drop_succ_cons, List.drop_zero, List.take_succ_cons, List.take_zero, List.cons_append, List.nil_append, List.append_assoc, drop_dc, drop_dc', take_dc, take_dc', drop_L, drop_L', take_L, take_L', len_L, Nat.reduceLeDiff, Nat.reduceSub, Nat.reduceAdd, Nat.le_refl, List.length_cons, List.length_append, List.length_nil, dc_length, List.drop_nil, List.take_nil, List.append_nil, List.length_map, List.length_replicate]; first | done | omega))) ?_
      first | exact fun w' hw => ⟨q, rfl, St.pureI ⟨hql, hqo⟩ (hw.sel (by repeat (first | exact Sel.nil | (apply Sel.cons; · (repeat (first | exact Pick.here | apply Pick.there))))))⟩ | exact fun w' hw => ⟨msgC 0 dig0 dig0, rfl, St.pureI ⟨Len.h, One.h⟩ ((hw.mapL fun F' hF' => vl_pure (rd := RdMsg) (show RdMsg _ _ (msgC 0 dig0 dig0) (msg0 0) from rdMsgOf 0 dig0 dig0) hF').sel (by repeat (first | exact Sel.nil | (apply Sel.cons; · (repeat (first | exact Pick.here | apply Pick.there))))))⟩
  · refine gc_region ?_
    refine gp (r_bool (c := false) zei (decide_eq_false (by omega))) ?_
    refine gp zas ?_
    refine gnt ?_
    refine gc_condF rfl rfl ?_
    refine gc_seq ?_
    by_cases hx2 : x = 2
    · refine gc_region ?_
      refine gp (r_bool (c := true) zei (decide_eq_true (by omega))) ?_
      refine gp zas ?_
      refine gnt ?_
      refine gc_condT rfl rfl ?_
      refine gsr ?_
      have hk : x = 2 := by omega
      subst hk
      refine gl_eqc (cs' := .int .i64 2 :: (voteC ++ ((.int .i64 0 :: .int .i64 0 :: (qcC ++ (tcC ++ sgnC))) ++ (propC ++ (dc dig0 ++ (dc dig0 ++ (blkC ++ chgC))))))) (by repeat (first | exact Pick.here | apply Pick.there)) (by kernel_rfl) ?_
      refine gp zfa ?_
      refine gp zl ?_
      refine zc (fun x44 => ?_) (c := fun w1 F1 F2 h1 h2 hd hst => inum_ok (wd := 4) h1 (hB.mv hst.still) hc hl (by decide) (by decide))
      refine gl_pureR (fun hp44 => ?_)
      obtain ⟨g44, _⟩ := hp44
      replace g44 : Ag (pNum 4) _ (x44 : Int) := g44
      refine gp zfa ?_
      refine gp zfa ?_
      refine zs1 ?_
      refine gnt ?_
      refine gsr ?_
      refine gp zfa ?_
      refine gp zl ?_
      refine zc (fun y49 => ?_) (c := fun w1 F1 F2 h1 h2 hd hst => inum_ok (wd := 6) h1 (hB.mv hst.still) hc hl (by decide) (by decide))
      refine gl_pureR (fun hp49 => ?_)
      obtain ⟨g49, _⟩ := hp49
      replace g49 : Ag (pNum 6) _ (y49 : Int) := g49
      have gA49 : Ag pAt σ1 ((x44 : Int), (y49 : Int)) := g44.bind (g49.bind (Ag.pure _))
      have rA49 : rstep pAt σ1 = rstep (pNum 6) (rstep (pNum 4) σ1) := by rw [pAt, rstep_bind g44, rstep_bind g49, rstep_pure]
      rw [← rA49]
      refine gp zfa ?_
      refine gp zfa ?_
      refine zs1 ?_
      refine gnt ?_
      refine gsr ?_
      refine gp zL ?_
      refine zc ?_ (c := fun w1 F1 F2 h1 h2 hd hst => iqc_ok h1 (hB.mv hst.still) hc hl)
      rintro ⟨q53, v53⟩
      refine gl_pureR (fun hp53 => ?_)
      obtain ⟨g53, z53, o53⟩ := hp53
      replace z53 : q53.length = _ := z53
      replace g53 : Ag pQC _ v53 := g53
      have i53 := Len.of z53
      have j53 := One.of (show ∀ v ∈ q53, v.oneCell' = true from o53)
      refine gp zfa ?_
      refine gp zfa ?_
      refine zsN ?_
      refine gnt ?_
      refine gsr ?_
      refine gp zL ?_
      refine zc ?_ (c := fun w1 F1 F2 h1 h2 hd hst => itc_ok h1 (hB.mv hst.still) hc hl)
      rintro ⟨q57, v57⟩
      refine gl_pureR (fun hp57 => ?_)
      obtain ⟨g57, z57, o57⟩ := hp57
      replace z57 : q57.length = _ := z57
      replace g57 : Ag pTC _ v57 := g57
      have i57 := Len.of z57
      have j57 := One.of (show ∀ v ∈ q57, v.oneCell' = true from o57)
      refine gp zfa ?_
      refine gp zfa ?_
      refine zsN ?_
      refine gnt ?_
      refine gc_region ?_
      refine gp zL ?_
      refine zc ?_ (c := fun w1 F1 F2 h1 h2 hd hst => isigned_ok h1 (hB.mv hst.still) hc hl)
      rintro ⟨q61, v61⟩
      refine gl_pureR (fun hp61 => ?_)
      obtain ⟨g61, z61, o61⟩ := hp61
      replace z61 : q61.length = _ := z61
      replace g61 : Ag pSigned _ v61 := g61
      have i61 := Len.of z61
      have j61 := One.of (show ∀ v ∈ q61, v.oneCell' = true from o61)
      refine gp zfa ?_
      refine gp zfa ?_
      refine zsN ?_
      refine gl_nil ?_
      refine gx_block_normal ?_
      refine gx_then ?_
      refine gc_seq ?_
      refine gsr ?_
      refine gp zfa ?_
      refine gp zl ?_
      have hv1 : Ag pTmo σ1 ⟨x44, y49, v53, v57, v61⟩ := gA49.bind (g53.bind (g57.bind (g61.bind (Ag.pure _))))
      have hb0 : pBody ((2 : Nat) : Int) = pBind pTmo (fun v => pPure { msg0 2 with tmo := v }) := rfl
      have hb1 : Ag (pBody ((2 : Nat) : Int)) σ1 { msg0 2 with tmo := ⟨x44, y49, v53, v57, v61⟩ } := by rw [hb0]; exact hv1.bind (Ag.pure _)
      have hr1 : rstep (pBody ((2 : Nat) : Int)) σ1 = rstep pSigned (rstep pTC (rstep pQC (rstep pAt (σ1)))) := by rw [hb0, rstep_bind hv1, rstep_pure]; rw [pTmo, rstep_bind gA49, rstep_bind g53, rstep_bind g57, rstep_bind g61, rstep_pure]
      have ha : Ag pMsg (.ok B) { msg0 2 with tmo := ⟨x44, y49, v53, v57, v61⟩ } := g13.bind (by rw [← hσ1]; exact hb1)
      have hrM : rstep pMsg (.ok B) = rstep pSigned (rstep pTC (rstep pQC (rstep pAt (σ1)))) := by rw [pMsg, rstep_bind g13, ← hσ1]; exact hr1
      rw [← hrM]
      refine gl_conv (M := [VlR RdQC q53 v53, VlR RdTC q57 v57, VlR RdSigned q61 v61]) (N := [VlR RdMsg (.int .i64 2 :: (voteC ++ .int .i64 (x44 : Int) :: .int .i64 (y49 : Int) :: (q53 ++ (q57 ++ (q61 ++ (propC ++ (dc dig0 ++ (dc dig0 ++ (blkC ++ chgC))))))))) { msg0 2 with tmo := ⟨x44, y49, v53, v57, v61⟩ }]) (by repeat (first | exact Sel.nil | (apply Sel.cons; · (repeat (first | exact Pick.here | apply Pick.there))))) (fun _ _ => vl_tmo (by first | rfl | simp only [List.cons_append, List.append_assoc])) ?_
      obtain ⟨q, hq⟩ : ∃ q, q = .int .i64 2 :: (voteC ++ .int .i64 (x44 : Int) :: .int .i64 (y49 : Int) :: (q53 ++ (q57 ++ (q61 ++ (propC ++ (dc dig0 ++ (dc dig0 ++ (blkC ++ chgC)))))))) := ⟨_, rfl⟩
      rw [← hq]
      have hql : q.length = 304 := by rw [hq]; simp only [msgC, List.length_cons, List.length_append, List.length_nil, dc_length, len_L]
      have hqo : ∀ v ∈ q, v.oneCell' = true := by rw [hq]; (try unfold msgC); exact (by repeat (first | exact all_nil' | exact dc_one _ | exact One.h | refine all_app' (dc_one _) ?_ | refine all_app' One.h ?_ | refine all_cons' rfl ?_))
      have iq := Len.of hql
      have jq := One.of hqo
      obtain ⟨v, hv⟩ : ∃ v, v = { msg0 2 with tmo := ⟨x44, y49, v53, v57, v61⟩ } := ⟨_, rfl⟩
      rw [← hv] at ha
      rw [← hv]
      have hfin := allE_fin (z := msg0 0) noz_msg ha
      refine zc (fun _ => ?_) (c := fun w1 F1 F2 h1 h2 hd hst => idone_ok h1 (hB.mv hst.still) hc hl)
      refine gp zas ?_
      refine gnt ?_
      refine gsr ?_
      refine gp zmv ?_
      refine gp (r_bool (c := decide (¬ doneE (rstep pMsg (.ok B)) = 0)) zni (by simp)) ?_
      refine gnt ?_
      refine gif rfl (fun hc103 => ?_) (fun hc103 => ?_)
      · try simp only at hc103
        have hd : ¬ doneE (rstep pMsg (.ok B)) = 0 := by simpa using hc103
        rw [← hfin.1, hfin.2.2 hd]
        refine gsr ?_
        refine gp (r_build (cs := msgC 0 dig0 dig0) Ty.zc_66 Ty.pl_66 (by kernel_rfl)) ?_
        refine gp zmv ?_
        refine zsA (new := msgC 0 dig0 dig0) Len.h One.h ?_
        refine gp zas ?_
        refine gnt ?_
        refine gc_ret ?_
        refine gx_then_ret ?_
        refine gx_retct rfl rfl (by conv => lhs; whnf) (ld_aggS Ty.row_66 Ty.sz_66 (by repeat (first | exact Pick.here | apply Pick.there)) (by (simp only [List.drop_succ_cons, List.drop_zero, List.take_succ_cons, List.take_zero, List.cons_append, List.nil_append, List.append_assoc, drop_dc, drop_dc', take_dc, take_dc', drop_L, drop_L', take_L, take_L', len_L, Nat.reduceLeDiff, Nat.reduceSub, Nat.reduceAdd, Nat.le_refl, List.length_cons, List.length_append, List.length_nil, dc_length, List.drop_nil, List.take_nil, List.append_nil, List.length_map, List.length_replicate]; first | done | rfl)) (by first | rfl | (simp only [List.drop_succ_cons, List.drop_zero, List.take_succ_cons, List.take_zero, List.cons_append, List.nil_append, List.append_assoc, drop_dc, drop_dc', take_dc, take_dc', drop_L, drop_L', take_L, take_L', len_L, Nat.reduceLeDiff, Nat.reduceSub, Nat.reduceAdd, Nat.le_refl, List.length_cons, List.length_append, List.length_nil, dc_length, List.drop_nil, List.take_nil, List.append_nil, List.length_map, List.length_replicate]; first | done | omega))) ?_
        first | exact fun w' hw => ⟨q, rfl, St.pureI ⟨hql, hqo⟩ (hw.sel (by repeat (first | exact Sel.nil | (apply Sel.cons; · (repeat (first | exact Pick.here | apply Pick.there))))))⟩ | exact fun w' hw => ⟨msgC 0 dig0 dig0, rfl, St.pureI ⟨Len.h, One.h⟩ ((hw.mapL fun F' hF' => vl_pure (rd := RdMsg) (show RdMsg _ _ (msgC 0 dig0 dig0) (msg0 0) from rdMsgOf 0 dig0 dig0) hF').sel (by repeat (first | exact Sel.nil | (apply Sel.cons; · (repeat (first | exact Pick.here | apply Pick.there))))))⟩
      · try simp only at hc103
        have hd : doneE (rstep pMsg (.ok B)) = 0 := by simpa using hc103
        rw [← hfin.1, hfin.2.1 hd, hd]
        refine gc_skip ?_
        refine gx_then ?_
        refine gsr ?_
        refine gp (zLa (cs := q)) ?_
        refine zsA (new := q) hql hqo ?_
        refine gp zas ?_
        refine gnt ?_
        refine gc_ret ?_
        refine gx_retct rfl rfl (by conv => lhs; whnf) (ld_aggS Ty.row_66 Ty.sz_66 (by repeat (first | exact Pick.here | apply Pick.there)) (by (simp only [List.drop_succ_cons, List.drop_zero, List.take_succ_cons, List.take_zero, List.cons_append, List.nil_append, List.append_assoc, drop_dc, drop_dc', take_dc, take_dc', drop_L, drop_L', take_L, take_L', len_L, Nat.reduceLeDiff, Nat.reduceSub, Nat.reduceAdd, Nat.le_refl, List.length_cons, List.length_append, List.length_nil, dc_length, List.drop_nil, List.take_nil, List.append_nil, List.length_map, List.length_replicate]; first | done | rfl)) (by first | rfl | (simp only [List.drop_succ_cons, List.drop_zero, List.take_succ_cons, List.take_zero, List.cons_append, List.nil_append, List.append_assoc, drop_dc, drop_dc', take_dc, take_dc', drop_L, drop_L', take_L, take_L', len_L, Nat.reduceLeDiff, Nat.reduceSub, Nat.reduceAdd, Nat.le_refl, List.length_cons, List.length_append, List.length_nil, dc_length, List.drop_nil, List.take_nil, List.append_nil, List.length_map, List.length_replicate]; first | done | omega))) ?_
        first | exact fun w' hw => ⟨q, rfl, St.pureI ⟨hql, hqo⟩ (hw.sel (by repeat (first | exact Sel.nil | (apply Sel.cons; · (repeat (first | exact Pick.here | apply Pick.there))))))⟩ | exact fun w' hw => ⟨msgC 0 dig0 dig0, rfl, St.pureI ⟨Len.h, One.h⟩ ((hw.mapL fun F' hF' => vl_pure (rd := RdMsg) (show RdMsg _ _ (msgC 0 dig0 dig0) (msg0 0) from rdMsgOf 0 dig0 dig0) hF').sel (by repeat (first | exact Sel.nil | (apply Sel.cons; · (repeat (first | exact Pick.here | apply Pick.there))))))⟩
    · refine gc_region ?_
      refine gp (r_bool (c := false) zei (decide_eq_false (by omega))) ?_
      refine gp zas ?_
      refine gnt ?_
      refine gc_condF rfl rfl ?_
      refine gc_seq ?_
      by_cases hx3 : x = 3
      · refine gc_region ?_
        refine gp (r_bool (c := true) zei (decide_eq_true (by omega))) ?_
        refine gp zas ?_
        refine gnt ?_
        refine gc_condT rfl rfl ?_
        refine gsr ?_
        have hk : x = 3 := by omega
        subst hk
        refine gl_eqc (cs' := .int .i64 3 :: (voteC ++ (tmoC ++ ((blkC ++ (tcC ++ sgnC)) ++ (dc dig0 ++ (dc dig0 ++ (blkC ++ chgC))))))) (by repeat (first | exact Pick.here | apply Pick.there)) (by kernel_rfl) ?_
        refine gp zL ?_
        refine zc ?_ (c := fun w1 F1 F2 h1 h2 hd hst => iblock_ok h1 (hB.mv hst.still) hc hl)
        rintro ⟨q67, v67⟩
        refine gl_pureR (fun hp67 => ?_)
        obtain ⟨g67, z67, o67⟩ := hp67
        replace z67 : q67.length = _ := z67
        replace g67 : Ag pBlock _ v67 := g67
        have i67 := Len.of z67
        have j67 := One.of (show ∀ v ∈ q67, v.oneCell' = true from o67)
        refine gp zfa ?_
        refine gp zfa ?_
        refine zsN ?_
        refine gnt ?_
        refine gsr ?_
        refine gp zL ?_
        refine zc ?_ (c := fun w1 F1 F2 h1 h2 hd hst => itc_ok h1 (hB.mv hst.still) hc hl)
        rintro ⟨q71, v71⟩
        refine gl_pureR (fun hp71 => ?_)
        obtain ⟨g71, z71, o71⟩ := hp71
        replace z71 : q71.length = _ := z71
        replace g71 : Ag pTC _ v71 := g71
        have i71 := Len.of z71
        have j71 := One.of (show ∀ v ∈ q71, v.oneCell' = true from o71)
        refine gp zfa ?_
        refine gp zfa ?_
        refine zsN ?_
        refine gnt ?_
        refine gc_region ?_
        refine gp zL ?_
        refine zc ?_ (c := fun w1 F1 F2 h1 h2 hd hst => isigned_ok h1 (hB.mv hst.still) hc hl)
        rintro ⟨q75, v75⟩
        refine gl_pureR (fun hp75 => ?_)
        obtain ⟨g75, z75, o75⟩ := hp75
        replace z75 : q75.length = _ := z75
        replace g75 : Ag pSigned _ v75 := g75
        have i75 := Len.of z75
        have j75 := One.of (show ∀ v ∈ q75, v.oneCell' = true from o75)
        refine gp zfa ?_
        refine gp zfa ?_
        refine zsN ?_
        refine gl_nil ?_
        refine gx_block_normal ?_
        refine gx_then ?_
        refine gc_seq ?_
        refine gsr ?_
        refine gp zfa ?_
        refine gp zl ?_
        have hv1 : Ag pProp σ1 ⟨v67, v71, v75⟩ := g67.bind (g71.bind (g75.bind (Ag.pure _)))
        have hb0 : pBody ((3 : Nat) : Int) = pBind pProp (fun v => pPure { msg0 3 with prop := v }) := rfl
        have hb1 : Ag (pBody ((3 : Nat) : Int)) σ1 { msg0 3 with prop := ⟨v67, v71, v75⟩ } := by rw [hb0]; exact hv1.bind (Ag.pure _)
        have hr1 : rstep (pBody ((3 : Nat) : Int)) σ1 = rstep pSigned (rstep pTC (rstep pBlock (σ1))) := by rw [hb0, rstep_bind hv1, rstep_pure]; rw [pProp, rstep_bind g67, rstep_bind g71, rstep_bind g75, rstep_pure]
        have ha : Ag pMsg (.ok B) { msg0 3 with prop := ⟨v67, v71, v75⟩ } := g13.bind (by rw [← hσ1]; exact hb1)
        have hrM : rstep pMsg (.ok B) = rstep pSigned (rstep pTC (rstep pBlock (σ1))) := by rw [pMsg, rstep_bind g13, ← hσ1]; exact hr1
        rw [← hrM]
        refine gl_conv (M := [VlR RdBlock q67 v67, VlR RdTC q71 v71, VlR RdSigned q75 v75]) (N := [VlR RdMsg (.int .i64 3 :: (voteC ++ (tmoC ++ (q67 ++ (q71 ++ (q75 ++ (dc dig0 ++ (dc dig0 ++ (blkC ++ chgC))))))))) { msg0 3 with prop := ⟨v67, v71, v75⟩ }]) (by repeat (first | exact Sel.nil | (apply Sel.cons; · (repeat (first | exact Pick.here | apply Pick.there))))) (fun _ _ => vl_prop (by first | rfl | simp only [List.cons_append, List.append_assoc])) ?_
        obtain ⟨q, hq⟩ : ∃ q, q = .int .i64 3 :: (voteC ++ (tmoC ++ (q67 ++ (q71 ++ (q75 ++ (dc dig0 ++ (dc dig0 ++ (blkC ++ chgC)))))))) := ⟨_, rfl⟩
        rw [← hq]
        have hql : q.length = 304 := by rw [hq]; simp only [msgC, List.length_cons, List.length_append, List.length_nil, dc_length, len_L]
        have hqo : ∀ v ∈ q, v.oneCell' = true := by rw [hq]; (try unfold msgC); exact (by repeat (first | exact all_nil' | exact dc_one _ | exact One.h | refine all_app' (dc_one _) ?_ | refine all_app' One.h ?_ | refine all_cons' rfl ?_))
        have iq := Len.of hql
        have jq := One.of hqo
        obtain ⟨v, hv⟩ : ∃ v, v = { msg0 3 with prop := ⟨v67, v71, v75⟩ } := ⟨_, rfl⟩
        rw [← hv] at ha
        rw [← hv]
        have hfin := allE_fin (z := msg0 0) noz_msg ha
        refine zc (fun _ => ?_) (c := fun w1 F1 F2 h1 h2 hd hst => idone_ok h1 (hB.mv hst.still) hc hl)
        refine gp zas ?_
        refine gnt ?_
        refine gsr ?_
        refine gp zmv ?_
        refine gp (r_bool (c := decide (¬ doneE (rstep pMsg (.ok B)) = 0)) zni (by simp)) ?_
        refine gnt ?_
        refine gif rfl (fun hc103 => ?_) (fun hc103 => ?_)
        · try simp only at hc103
          have hd : ¬ doneE (rstep pMsg (.ok B)) = 0 := by simpa using hc103
          rw [← hfin.1, hfin.2.2 hd]
          refine gsr ?_
          refine gp (r_build (cs := msgC 0 dig0 dig0) Ty.zc_66 Ty.pl_66 (by kernel_rfl)) ?_
          refine gp zmv ?_
          refine zsA (new := msgC 0 dig0 dig0) Len.h One.h ?_
          refine gp zas ?_
          refine gnt ?_
          refine gc_ret ?_
          refine gx_then_ret ?_
          refine gx_retct rfl rfl (by conv => lhs; whnf) (ld_aggS Ty.row_66 Ty.sz_66 (by repeat (first | exact Pick.here | apply Pick.there)) (by (simp only [List.drop_succ_cons, List.drop_zero, List.take_succ_cons, List.take_zero, List.cons_append, List.nil_append, List.append_assoc, drop_dc, drop_dc', take_dc, take_dc', drop_L, drop_L', take_L, take_L', len_L, Nat.reduceLeDiff, Nat.reduceSub, Nat.reduceAdd, Nat.le_refl, List.length_cons, List.length_append, List.length_nil, dc_length, List.drop_nil, List.take_nil, List.append_nil, List.length_map, List.length_replicate]; first | done | rfl)) (by first | rfl | (simp only [List.drop_succ_cons, List.drop_zero, List.take_succ_cons, List.take_zero, List.cons_append, List.nil_append, List.append_assoc, drop_dc, drop_dc', take_dc, take_dc', drop_L, drop_L', take_L, take_L', len_L, Nat.reduceLeDiff, Nat.reduceSub, Nat.reduceAdd, Nat.le_refl, List.length_cons, List.length_append, List.length_nil, dc_length, List.drop_nil, List.take_nil, List.append_nil, List.length_map, List.length_replicate]; first | done | omega))) ?_
          first | exact fun w' hw => ⟨q, rfl, St.pureI ⟨hql, hqo⟩ (hw.sel (by repeat (first | exact Sel.nil | (apply Sel.cons; · (repeat (first | exact Pick.here | apply Pick.there))))))⟩ | exact fun w' hw => ⟨msgC 0 dig0 dig0, rfl, St.pureI ⟨Len.h, One.h⟩ ((hw.mapL fun F' hF' => vl_pure (rd := RdMsg) (show RdMsg _ _ (msgC 0 dig0 dig0) (msg0 0) from rdMsgOf 0 dig0 dig0) hF').sel (by repeat (first | exact Sel.nil | (apply Sel.cons; · (repeat (first | exact Pick.here | apply Pick.there))))))⟩
        · try simp only at hc103
          have hd : doneE (rstep pMsg (.ok B)) = 0 := by simpa using hc103
          rw [← hfin.1, hfin.2.1 hd, hd]
          refine gc_skip ?_
          refine gx_then ?_
          refine gsr ?_
          refine gp (zLa (cs := q)) ?_
          refine zsA (new := q) hql hqo ?_
          refine gp zas ?_
          refine gnt ?_
          refine gc_ret ?_
          refine gx_retct rfl rfl (by conv => lhs; whnf) (ld_aggS Ty.row_66 Ty.sz_66 (by repeat (first | exact Pick.here | apply Pick.there)) (by (simp only [List.drop_succ_cons, List.drop_zero, List.take_succ_cons, List.take_zero, List.cons_append, List.nil_append, List.append_assoc, drop_dc, drop_dc', take_dc, take_dc', drop_L, drop_L', take_L, take_L', len_L, Nat.reduceLeDiff, Nat.reduceSub, Nat.reduceAdd, Nat.le_refl, List.length_cons, List.length_append, List.length_nil, dc_length, List.drop_nil, List.take_nil, List.append_nil, List.length_map, List.length_replicate]; first | done | rfl)) (by first | rfl | (simp only [List.drop_succ_cons, List.drop_zero, List.take_succ_cons, List.take_zero, List.cons_append, List.nil_append, List.append_assoc, drop_dc, drop_dc', take_dc, take_dc', drop_L, drop_L', take_L, take_L', len_L, Nat.reduceLeDiff, Nat.reduceSub, Nat.reduceAdd, Nat.le_refl, List.length_cons, List.length_append, List.length_nil, dc_length, List.drop_nil, List.take_nil, List.append_nil, List.length_map, List.length_replicate]; first | done | omega))) ?_
          first | exact fun w' hw => ⟨q, rfl, St.pureI ⟨hql, hqo⟩ (hw.sel (by repeat (first | exact Sel.nil | (apply Sel.cons; · (repeat (first | exact Pick.here | apply Pick.there))))))⟩ | exact fun w' hw => ⟨msgC 0 dig0 dig0, rfl, St.pureI ⟨Len.h, One.h⟩ ((hw.mapL fun F' hF' => vl_pure (rd := RdMsg) (show RdMsg _ _ (msgC 0 dig0 dig0) (msg0 0) from rdMsgOf 0 dig0 dig0) hF').sel (by repeat (first | exact Sel.nil | (apply Sel.cons; · (repeat (first | exact Pick.here | apply Pick.there))))))⟩
      · refine gc_region ?_
        refine gp (r_bool (c := false) zei (decide_eq_false (by omega))) ?_
        refine gp zas ?_
        refine gnt ?_
        refine gc_condF rfl rfl ?_
        refine gc_seq ?_
        by_cases hx4 : x = 4
        · refine gc_region ?_
          refine gp (r_bool (c := true) zei (decide_eq_true (by omega))) ?_
          refine gp zas ?_
          refine gnt ?_
          refine gc_condT rfl rfl ?_
          refine gsr ?_
          have hk : x = 4 := by omega
          subst hk
          refine gl_eqc (cs' := .int .i64 4 :: (voteC ++ (tmoC ++ (propC ++ (dc dig0 ++ (dc dig0 ++ (blkC ++ chgC))))))) (by repeat (first | exact Pick.here | apply Pick.there)) (by kernel_rfl) ?_
          refine gp zL ?_
          refine zc (fun d81 => ?_) (c := fun w1 F1 F2 h1 h2 hd hst => idigest_ok h1 (hB.mv hst.still) hc hl)
          refine gl_pureR (fun g81 => ?_)
          replace g81 : Ag pDig _ d81 := g81
          refine gp zfa ?_
          refine gp zfa ?_
          refine zsN ?_
          refine gnt ?_
          refine gc_region ?_
          refine gp zL ?_
          refine zc (fun d85 => ?_) (c := fun w1 F1 F2 h1 h2 hd hst => idigest_ok h1 (hB.mv hst.still) hc hl)
          refine gl_pureR (fun g85 => ?_)
          replace g85 : Ag pDig _ d85 := g85
          refine gp zfa ?_
          refine gp zfa ?_
          refine zsN ?_
          refine gl_nil ?_
          refine gx_block_normal ?_
          refine gx_then ?_
          refine gc_seq ?_
          refine gsr ?_
          refine gp zfa ?_
          refine gp zl ?_
          have hb0 : pBody ((4 : Nat) : Int) = pBind pDig fun d => pBind pDig fun e => pPure { msg0 4 with wantFrom := d, wantBlock := e } := rfl
          have hb1 : Ag (pBody ((4 : Nat) : Int)) σ1 { msg0 4 with wantFrom := d81, wantBlock := d85 } := by rw [hb0]; exact g81.bind (g85.bind (Ag.pure _))
          have hr1 : rstep (pBody ((4 : Nat) : Int)) σ1 = rstep pDig (rstep pDig σ1) := by rw [hb0, rstep_bind g81, rstep_bind g85, rstep_pure]
          have ha : Ag pMsg (.ok B) { msg0 4 with wantFrom := d81, wantBlock := d85 } := g13.bind (by rw [← hσ1]; exact hb1)
          have hrM : rstep pMsg (.ok B) = rstep pDig (rstep pDig (σ1)) := by rw [pMsg, rstep_bind g13, ← hσ1]; exact hr1
          rw [← hrM]
          refine gl_conv (M := []) (N := [VlR RdMsg (.int .i64 4 :: (voteC ++ (tmoC ++ (propC ++ (dc d81 ++ (dc d85 ++ (blkC ++ chgC))))))) { msg0 4 with wantFrom := d81, wantBlock := d85 }]) Sel.nil (fun _ _ hF => vl_want (by first | rfl | simp only [List.cons_append, List.append_assoc]) hF) ?_
          obtain ⟨q, hq⟩ : ∃ q, q = .int .i64 4 :: (voteC ++ (tmoC ++ (propC ++ (dc d81 ++ (dc d85 ++ (blkC ++ chgC)))))) := ⟨_, rfl⟩
          rw [← hq]
          have hql : q.length = 304 := by rw [hq]; simp only [msgC, List.length_cons, List.length_append, List.length_nil, dc_length, len_L]
          have hqo : ∀ v ∈ q, v.oneCell' = true := by rw [hq]; (try unfold msgC); exact (by repeat (first | exact all_nil' | exact dc_one _ | exact One.h | refine all_app' (dc_one _) ?_ | refine all_app' One.h ?_ | refine all_cons' rfl ?_))
          have iq := Len.of hql
          have jq := One.of hqo
          obtain ⟨v, hv⟩ : ∃ v, v = { msg0 4 with wantFrom := d81, wantBlock := d85 } := ⟨_, rfl⟩
          rw [← hv] at ha
          rw [← hv]
          have hfin := allE_fin (z := msg0 0) noz_msg ha
          refine zc (fun _ => ?_) (c := fun w1 F1 F2 h1 h2 hd hst => idone_ok h1 (hB.mv hst.still) hc hl)
          refine gp zas ?_
          refine gnt ?_
          refine gsr ?_
          refine gp zmv ?_
          refine gp (r_bool (c := decide (¬ doneE (rstep pMsg (.ok B)) = 0)) zni (by simp)) ?_
          refine gnt ?_
          refine gif rfl (fun hc103 => ?_) (fun hc103 => ?_)
          · try simp only at hc103
            have hd : ¬ doneE (rstep pMsg (.ok B)) = 0 := by simpa using hc103
            rw [← hfin.1, hfin.2.2 hd]
            refine gsr ?_
            refine gp (r_build (cs := msgC 0 dig0 dig0) Ty.zc_66 Ty.pl_66 (by kernel_rfl)) ?_
            refine gp zmv ?_
            refine zsA (new := msgC 0 dig0 dig0) Len.h One.h ?_
            refine gp zas ?_
            refine gnt ?_
            refine gc_ret ?_
            refine gx_then_ret ?_
            refine gx_retct rfl rfl (by conv => lhs; whnf) (ld_aggS Ty.row_66 Ty.sz_66 (by repeat (first | exact Pick.here | apply Pick.there)) (by (simp only [List.drop_succ_cons, List.drop_zero, List.take_succ_cons, List.take_zero, List.cons_append, List.nil_append, List.append_assoc, drop_dc, drop_dc', take_dc, take_dc', drop_L, drop_L', take_L, take_L', len_L, Nat.reduceLeDiff, Nat.reduceSub, Nat.reduceAdd, Nat.le_refl, List.length_cons, List.length_append, List.length_nil, dc_length, List.drop_nil, List.take_nil, List.append_nil, List.length_map, List.length_replicate]; first | done | rfl)) (by first | rfl | (simp only [List.drop_succ_cons, List.drop_zero, List.take_succ_cons, List.take_zero, List.cons_append, List.nil_append, List.append_assoc, drop_dc, drop_dc', take_dc, take_dc', drop_L, drop_L', take_L, take_L', len_L, Nat.reduceLeDiff, Nat.reduceSub, Nat.reduceAdd, Nat.le_refl, List.length_cons, List.length_append, List.length_nil, dc_length, List.drop_nil, List.take_nil, List.append_nil, List.length_map, List.length_replicate]; first | done | omega))) ?_
            first | exact fun w' hw => ⟨q, rfl, St.pureI ⟨hql, hqo⟩ (hw.sel (by repeat (first | exact Sel.nil | (apply Sel.cons; · (repeat (first | exact Pick.here | apply Pick.there))))))⟩ | exact fun w' hw => ⟨msgC 0 dig0 dig0, rfl, St.pureI ⟨Len.h, One.h⟩ ((hw.mapL fun F' hF' => vl_pure (rd := RdMsg) (show RdMsg _ _ (msgC 0 dig0 dig0) (msg0 0) from rdMsgOf 0 dig0 dig0) hF').sel (by repeat (first | exact Sel.nil | (apply Sel.cons; · (repeat (first | exact Pick.here | apply Pick.there))))))⟩
          · try simp only at hc103
            have hd : doneE (rstep pMsg (.ok B)) = 0 := by simpa using hc103
            rw [← hfin.1, hfin.2.1 hd, hd]
            refine gc_skip ?_
            refine gx_then ?_
            refine gsr ?_
            refine gp (zLa (cs := q)) ?_
            refine zsA (new := q) hql hqo ?_
            refine gp zas ?_
            refine gnt ?_
            refine gc_ret ?_
            refine gx_retct rfl rfl (by conv => lhs; whnf) (ld_aggS Ty.row_66 Ty.sz_66 (by repeat (first | exact Pick.here | apply Pick.there)) (by (simp only [List.drop_succ_cons, List.drop_zero, List.take_succ_cons, List.take_zero, List.cons_append, List.nil_append, List.append_assoc, drop_dc, drop_dc', take_dc, take_dc', drop_L, drop_L', take_L, take_L', len_L, Nat.reduceLeDiff, Nat.reduceSub, Nat.reduceAdd, Nat.le_refl, List.length_cons, List.length_append, List.length_nil, dc_length, List.drop_nil, List.take_nil, List.append_nil, List.length_map, List.length_replicate]; first | done | rfl)) (by first | rfl | (simp only [List.drop_succ_cons, List.drop_zero, List.take_succ_cons, List.take_zero, List.cons_append, List.nil_append, List.append_assoc, drop_dc, drop_dc', take_dc, take_dc', drop_L, drop_L', take_L, take_L', len_L, Nat.reduceLeDiff, Nat.reduceSub, Nat.reduceAdd, Nat.le_refl, List.length_cons, List.length_append, List.length_nil, dc_length, List.drop_nil, List.take_nil, List.append_nil, List.length_map, List.length_replicate]; first | done | omega))) ?_
            first | exact fun w' hw => ⟨q, rfl, St.pureI ⟨hql, hqo⟩ (hw.sel (by repeat (first | exact Sel.nil | (apply Sel.cons; · (repeat (first | exact Pick.here | apply Pick.there))))))⟩ | exact fun w' hw => ⟨msgC 0 dig0 dig0, rfl, St.pureI ⟨Len.h, One.h⟩ ((hw.mapL fun F' hF' => vl_pure (rd := RdMsg) (show RdMsg _ _ (msgC 0 dig0 dig0) (msg0 0) from rdMsgOf 0 dig0 dig0) hF').sel (by repeat (first | exact Sel.nil | (apply Sel.cons; · (repeat (first | exact Pick.here | apply Pick.there))))))⟩
        · refine gc_region ?_
          refine gp (r_bool (c := false) zei (decide_eq_false (by omega))) ?_
          refine gp zas ?_
          refine gnt ?_
          refine gc_condF rfl rfl ?_
          refine gc_seq ?_
          by_cases hx5 : x = 5
          · refine gc_region ?_
            refine gp (r_bool (c := true) zei (decide_eq_true (by omega))) ?_
            refine gp zas ?_
            refine gnt ?_
            refine gc_condT rfl rfl ?_
            refine gc_region ?_
            have hk : x = 5 := by omega
            subst hk
            refine gl_eqc (cs' := .int .i64 5 :: (voteC ++ (tmoC ++ (propC ++ (dc dig0 ++ (dc dig0 ++ (blkC ++ chgC))))))) (by repeat (first | exact Pick.here | apply Pick.there)) (by kernel_rfl) ?_
            refine gp zL ?_
            refine zc ?_ (c := fun w1 F1 F2 h1 h2 hd hst => iblock_ok h1 (hB.mv hst.still) hc hl)
            rintro ⟨q91, v91⟩
            refine gl_pureR (fun hp91 => ?_)
            obtain ⟨g91, z91, o91⟩ := hp91
            replace z91 : q91.length = _ := z91
            replace g91 : Ag pBlock _ v91 := g91
            have i91 := Len.of z91
            have j91 := One.of (show ∀ v ∈ q91, v.oneCell' = true from o91)
            refine gp zfa ?_
            refine gp zfa ?_
            refine zsN ?_
            refine gl_nil ?_
            refine gx_block_normal ?_
            refine gx_then ?_
            refine gc_seq ?_
            refine gsr ?_
            refine gp zfa ?_
            refine gp zl ?_
            have hv1 : Ag pBlock σ1 v91 := g91
            have hb0 : pBody ((5 : Nat) : Int) = pBind pBlock (fun v => pPure { msg0 5 with reply := v }) := rfl
            have hb1 : Ag (pBody ((5 : Nat) : Int)) σ1 { msg0 5 with reply := v91 } := by rw [hb0]; exact hv1.bind (Ag.pure _)
            have hr1 : rstep (pBody ((5 : Nat) : Int)) σ1 = rstep pBlock (σ1) := by rw [hb0, rstep_bind hv1, rstep_pure]
            have ha : Ag pMsg (.ok B) { msg0 5 with reply := v91 } := g13.bind (by rw [← hσ1]; exact hb1)
            have hrM : rstep pMsg (.ok B) = rstep pBlock (σ1) := by rw [pMsg, rstep_bind g13, ← hσ1]; exact hr1
            rw [← hrM]
            refine gl_conv (M := [VlR RdBlock q91 v91]) (N := [VlR RdMsg (.int .i64 5 :: (voteC ++ (tmoC ++ (propC ++ (dc dig0 ++ (dc dig0 ++ (q91 ++ chgC))))))) { msg0 5 with reply := v91 }]) (by repeat (first | exact Sel.nil | (apply Sel.cons; · (repeat (first | exact Pick.here | apply Pick.there))))) (fun _ _ => vl_reply (by first | rfl | simp only [List.cons_append, List.append_assoc])) ?_
            obtain ⟨q, hq⟩ : ∃ q, q = .int .i64 5 :: (voteC ++ (tmoC ++ (propC ++ (dc dig0 ++ (dc dig0 ++ (q91 ++ chgC)))))) := ⟨_, rfl⟩
            rw [← hq]
            have hql : q.length = 304 := by rw [hq]; simp only [msgC, List.length_cons, List.length_append, List.length_nil, dc_length, len_L]
            have hqo : ∀ v ∈ q, v.oneCell' = true := by rw [hq]; (try unfold msgC); exact (by repeat (first | exact all_nil' | exact dc_one _ | exact One.h | refine all_app' (dc_one _) ?_ | refine all_app' One.h ?_ | refine all_cons' rfl ?_))
            have iq := Len.of hql
            have jq := One.of hqo
            obtain ⟨v, hv⟩ : ∃ v, v = { msg0 5 with reply := v91 } := ⟨_, rfl⟩
            rw [← hv] at ha
            rw [← hv]
            have hfin := allE_fin (z := msg0 0) noz_msg ha
            refine zc (fun _ => ?_) (c := fun w1 F1 F2 h1 h2 hd hst => idone_ok h1 (hB.mv hst.still) hc hl)
            refine gp zas ?_
            refine gnt ?_
            refine gsr ?_
            refine gp zmv ?_
            refine gp (r_bool (c := decide (¬ doneE (rstep pMsg (.ok B)) = 0)) zni (by simp)) ?_
            refine gnt ?_
            refine gif rfl (fun hc103 => ?_) (fun hc103 => ?_)
            · try simp only at hc103
              have hd : ¬ doneE (rstep pMsg (.ok B)) = 0 := by simpa using hc103
              rw [← hfin.1, hfin.2.2 hd]
              refine gsr ?_
              refine gp (r_build (cs := msgC 0 dig0 dig0) Ty.zc_66 Ty.pl_66 (by kernel_rfl)) ?_
              refine gp zmv ?_
              refine zsA (new := msgC 0 dig0 dig0) Len.h One.h ?_
              refine gp zas ?_
              refine gnt ?_
              refine gc_ret ?_
              refine gx_then_ret ?_
              refine gx_retct rfl rfl (by conv => lhs; whnf) (ld_aggS Ty.row_66 Ty.sz_66 (by repeat (first | exact Pick.here | apply Pick.there)) (by (simp only [List.drop_succ_cons, List.drop_zero, List.take_succ_cons, List.take_zero, List.cons_append, List.nil_append, List.append_assoc, drop_dc, drop_dc', take_dc, take_dc', drop_L, drop_L', take_L, take_L', len_L, Nat.reduceLeDiff, Nat.reduceSub, Nat.reduceAdd, Nat.le_refl, List.length_cons, List.length_append, List.length_nil, dc_length, List.drop_nil, List.take_nil, List.append_nil, List.length_map, List.length_replicate]; first | done | rfl)) (by first | rfl | (simp only [List.drop_succ_cons, List.drop_zero, List.take_succ_cons, List.take_zero, List.cons_append, List.nil_append, List.append_assoc, drop_dc, drop_dc', take_dc, take_dc', drop_L, drop_L', take_L, take_L', len_L, Nat.reduceLeDiff, Nat.reduceSub, Nat.reduceAdd, Nat.le_refl, List.length_cons, List.length_append, List.length_nil, dc_length, List.drop_nil, List.take_nil, List.append_nil, List.length_map, List.length_replicate]; first | done | omega))) ?_
              first | exact fun w' hw => ⟨q, rfl, St.pureI ⟨hql, hqo⟩ (hw.sel (by repeat (first | exact Sel.nil | (apply Sel.cons; · (repeat (first | exact Pick.here | apply Pick.there))))))⟩ | exact fun w' hw => ⟨msgC 0 dig0 dig0, rfl, St.pureI ⟨Len.h, One.h⟩ ((hw.mapL fun F' hF' => vl_pure (rd := RdMsg) (show RdMsg _ _ (msgC 0 dig0 dig0) (msg0 0) from rdMsgOf 0 dig0 dig0) hF').sel (by repeat (first | exact Sel.nil | (apply Sel.cons; · (repeat (first | exact Pick.here | apply Pick.there))))))⟩
            · try simp only at hc103
              have hd : doneE (rstep pMsg (.ok B)) = 0 := by simpa using hc103
              rw [← hfin.1, hfin.2.1 hd, hd]
              refine gc_skip ?_
              refine gx_then ?_
              refine gsr ?_
              refine gp (zLa (cs := q)) ?_
              refine zsA (new := q) hql hqo ?_
              refine gp zas ?_
              refine gnt ?_
              refine gc_ret ?_
              refine gx_retct rfl rfl (by conv => lhs; whnf) (ld_aggS Ty.row_66 Ty.sz_66 (by repeat (first | exact Pick.here | apply Pick.there)) (by (simp only [List.drop_succ_cons, List.drop_zero, List.take_succ_cons, List.take_zero, List.cons_append, List.nil_append, List.append_assoc, drop_dc, drop_dc', take_dc, take_dc', drop_L, drop_L', take_L, take_L', len_L, Nat.reduceLeDiff, Nat.reduceSub, Nat.reduceAdd, Nat.le_refl, List.length_cons, List.length_append, List.length_nil, dc_length, List.drop_nil, List.take_nil, List.append_nil, List.length_map, List.length_replicate]; first | done | rfl)) (by first | rfl | (simp only [List.drop_succ_cons, List.drop_zero, List.take_succ_cons, List.take_zero, List.cons_append, List.nil_append, List.append_assoc, drop_dc, drop_dc', take_dc, take_dc', drop_L, drop_L', take_L, take_L', len_L, Nat.reduceLeDiff, Nat.reduceSub, Nat.reduceAdd, Nat.le_refl, List.length_cons, List.length_append, List.length_nil, dc_length, List.drop_nil, List.take_nil, List.append_nil, List.length_map, List.length_replicate]; first | done | omega))) ?_
              first | exact fun w' hw => ⟨q, rfl, St.pureI ⟨hql, hqo⟩ (hw.sel (by repeat (first | exact Sel.nil | (apply Sel.cons; · (repeat (first | exact Pick.here | apply Pick.there))))))⟩ | exact fun w' hw => ⟨msgC 0 dig0 dig0, rfl, St.pureI ⟨Len.h, One.h⟩ ((hw.mapL fun F' hF' => vl_pure (rd := RdMsg) (show RdMsg _ _ (msgC 0 dig0 dig0) (msg0 0) from rdMsgOf 0 dig0 dig0) hF').sel (by repeat (first | exact Sel.nil | (apply Sel.cons; · (repeat (first | exact Pick.here | apply Pick.there))))))⟩
          · refine gc_region ?_
            refine gp (r_bool (c := false) zei (decide_eq_false (by omega))) ?_
            refine gp zas ?_
            refine gnt ?_
            refine gc_condF rfl rfl ?_
            refine gc_seq ?_
            by_cases hx6 : x = 6
            · refine gc_region ?_
              refine gp (r_bool (c := true) zei (decide_eq_true (by omega))) ?_
              refine gp zas ?_
              refine gnt ?_
              refine gc_condT rfl rfl ?_
              refine gc_region ?_
              have hk : x = 6 := by omega
              subst hk
              refine gl_eqc (cs' := .int .i64 6 :: (voteC ++ (tmoC ++ (propC ++ (dc dig0 ++ (dc dig0 ++ (blkC ++ chgC))))))) (by repeat (first | exact Pick.here | apply Pick.there)) (by kernel_rfl) ?_
              refine gp zL ?_
              refine zc ?_ (c := fun w1 F1 F2 h1 h2 hd hst => ichange_ok h1 (hB.mv hst.still) hc hl)
              rintro ⟨q97, v97⟩
              refine gl_pureR (fun hp97 => ?_)
              obtain ⟨y97, g97, z97, o97⟩ := hp97
              replace z97 : q97.length = _ := z97
              replace g97 : Ag pChg _ v97 := g97
              have i97 := Len.of z97
              have j97 := One.of (show ∀ v ∈ q97, v.oneCell' = true from o97)
              refine gp zfa ?_
              refine zsN ?_
              refine gl_nil ?_
              refine gx_block_normal ?_
              refine gx_then ?_
              refine gc_seq ?_
              refine gsr ?_
              refine gp zfa ?_
              refine gp zl ?_
              have hv1 : Ag pChg σ1 v97 := g97
              have hb0 : pBody ((6 : Nat) : Int) = pBind pChg (fun v => pPure { msg0 6 with chg := v }) := rfl
              have hb1 : Ag (pBody ((6 : Nat) : Int)) σ1 { msg0 6 with chg := v97 } := by rw [hb0]; exact hv1.bind (Ag.pure _)
              have hr1 : rstep (pBody ((6 : Nat) : Int)) σ1 = rstep pChg (σ1) := by rw [hb0, rstep_bind hv1, rstep_pure]
              have ha : Ag pMsg (.ok B) { msg0 6 with chg := v97 } := g13.bind (by rw [← hσ1]; exact hb1)
              have hrM : rstep pMsg (.ok B) = rstep pChg (σ1) := by rw [pMsg, rstep_bind g13, ← hσ1]; exact hr1
              rw [← hrM]
              refine gl_conv (M := [VlR RdChg q97 v97]) (N := [VlR RdMsg (.int .i64 6 :: (voteC ++ (tmoC ++ (propC ++ (dc dig0 ++ (dc dig0 ++ (blkC ++ q97))))))) { msg0 6 with chg := v97 }]) (by repeat (first | exact Sel.nil | (apply Sel.cons; · (repeat (first | exact Pick.here | apply Pick.there))))) (fun _ _ => vl_change (by first | rfl | simp only [List.cons_append, List.append_assoc])) ?_
              obtain ⟨q, hq⟩ : ∃ q, q = .int .i64 6 :: (voteC ++ (tmoC ++ (propC ++ (dc dig0 ++ (dc dig0 ++ (blkC ++ q97)))))) := ⟨_, rfl⟩
              rw [← hq]
              have hql : q.length = 304 := by rw [hq]; simp only [msgC, List.length_cons, List.length_append, List.length_nil, dc_length, len_L]
              have hqo : ∀ v ∈ q, v.oneCell' = true := by rw [hq]; (try unfold msgC); exact (by repeat (first | exact all_nil' | exact dc_one _ | exact One.h | refine all_app' (dc_one _) ?_ | refine all_app' One.h ?_ | refine all_cons' rfl ?_))
              have iq := Len.of hql
              have jq := One.of hqo
              obtain ⟨v, hv⟩ : ∃ v, v = { msg0 6 with chg := v97 } := ⟨_, rfl⟩
              rw [← hv] at ha
              rw [← hv]
              have hfin := allE_fin (z := msg0 0) noz_msg ha
              refine zc (fun _ => ?_) (c := fun w1 F1 F2 h1 h2 hd hst => idone_ok h1 (hB.mv hst.still) hc hl)
              refine gp zas ?_
              refine gnt ?_
              refine gsr ?_
              refine gp zmv ?_
              refine gp (r_bool (c := decide (¬ doneE (rstep pMsg (.ok B)) = 0)) zni (by simp)) ?_
              refine gnt ?_
              refine gif rfl (fun hc103 => ?_) (fun hc103 => ?_)
              · try simp only at hc103
                have hd : ¬ doneE (rstep pMsg (.ok B)) = 0 := by simpa using hc103
                rw [← hfin.1, hfin.2.2 hd]
                refine gsr ?_
                refine gp (r_build (cs := msgC 0 dig0 dig0) Ty.zc_66 Ty.pl_66 (by kernel_rfl)) ?_
                refine gp zmv ?_
                refine zsA (new := msgC 0 dig0 dig0) Len.h One.h ?_
                refine gp zas ?_
                refine gnt ?_
                refine gc_ret ?_
                refine gx_then_ret ?_
                refine gx_retct rfl rfl (by conv => lhs; whnf) (ld_aggS Ty.row_66 Ty.sz_66 (by repeat (first | exact Pick.here | apply Pick.there)) (by (simp only [List.drop_succ_cons, List.drop_zero, List.take_succ_cons, List.take_zero, List.cons_append, List.nil_append, List.append_assoc, drop_dc, drop_dc', take_dc, take_dc', drop_L, drop_L', take_L, take_L', len_L, Nat.reduceLeDiff, Nat.reduceSub, Nat.reduceAdd, Nat.le_refl, List.length_cons, List.length_append, List.length_nil, dc_length, List.drop_nil, List.take_nil, List.append_nil, List.length_map, List.length_replicate]; first | done | rfl)) (by first | rfl | (simp only [List.drop_succ_cons, List.drop_zero, List.take_succ_cons, List.take_zero, List.cons_append, List.nil_append, List.append_assoc, drop_dc, drop_dc', take_dc, take_dc', drop_L, drop_L', take_L, take_L', len_L, Nat.reduceLeDiff, Nat.reduceSub, Nat.reduceAdd, Nat.le_refl, List.length_cons, List.length_append, List.length_nil, dc_length, List.drop_nil, List.take_nil, List.append_nil, List.length_map, List.length_replicate]; first | done | omega))) ?_
                first | exact fun w' hw => ⟨q, rfl, St.pureI ⟨hql, hqo⟩ (hw.sel (by repeat (first | exact Sel.nil | (apply Sel.cons; · (repeat (first | exact Pick.here | apply Pick.there))))))⟩ | exact fun w' hw => ⟨msgC 0 dig0 dig0, rfl, St.pureI ⟨Len.h, One.h⟩ ((hw.mapL fun F' hF' => vl_pure (rd := RdMsg) (show RdMsg _ _ (msgC 0 dig0 dig0) (msg0 0) from rdMsgOf 0 dig0 dig0) hF').sel (by repeat (first | exact Sel.nil | (apply Sel.cons; · (repeat (first | exact Pick.here | apply Pick.there))))))⟩
              · try simp only at hc103
                have hd : doneE (rstep pMsg (.ok B)) = 0 := by simpa using hc103
                rw [← hfin.1, hfin.2.1 hd, hd]
                refine gc_skip ?_
                refine gx_then ?_
                refine gsr ?_
                refine gp (zLa (cs := q)) ?_
                refine zsA (new := q) hql hqo ?_
                refine gp zas ?_
                refine gnt ?_
                refine gc_ret ?_
                refine gx_retct rfl rfl (by conv => lhs; whnf) (ld_aggS Ty.row_66 Ty.sz_66 (by repeat (first | exact Pick.here | apply Pick.there)) (by (simp only [List.drop_succ_cons, List.drop_zero, List.take_succ_cons, List.take_zero, List.cons_append, List.nil_append, List.append_assoc, drop_dc, drop_dc', take_dc, take_dc', drop_L, drop_L', take_L, take_L', len_L, Nat.reduceLeDiff, Nat.reduceSub, Nat.reduceAdd, Nat.le_refl, List.length_cons, List.length_append, List.length_nil, dc_length, List.drop_nil, List.take_nil, List.append_nil, List.length_map, List.length_replicate]; first | done | rfl)) (by first | rfl | (simp only [List.drop_succ_cons, List.drop_zero, List.take_succ_cons, List.take_zero, List.cons_append, List.nil_append, List.append_assoc, drop_dc, drop_dc', take_dc, take_dc', drop_L, drop_L', take_L, take_L', len_L, Nat.reduceLeDiff, Nat.reduceSub, Nat.reduceAdd, Nat.le_refl, List.length_cons, List.length_append, List.length_nil, dc_length, List.drop_nil, List.take_nil, List.append_nil, List.length_map, List.length_replicate]; first | done | omega))) ?_
                first | exact fun w' hw => ⟨q, rfl, St.pureI ⟨hql, hqo⟩ (hw.sel (by repeat (first | exact Sel.nil | (apply Sel.cons; · (repeat (first | exact Pick.here | apply Pick.there))))))⟩ | exact fun w' hw => ⟨msgC 0 dig0 dig0, rfl, St.pureI ⟨Len.h, One.h⟩ ((hw.mapL fun F' hF' => vl_pure (rd := RdMsg) (show RdMsg _ _ (msgC 0 dig0 dig0) (msg0 0) from rdMsgOf 0 dig0 dig0) hF').sel (by repeat (first | exact Sel.nil | (apply Sel.cons; · (repeat (first | exact Pick.here | apply Pick.there))))))⟩
            · refine gc_region ?_
              refine gp (r_bool (c := false) zei (decide_eq_false (by omega))) ?_
              refine gp zas ?_
              refine gnt ?_
              refine gc_condF rfl rfl ?_
              refine gc_region ?_
              refine gp zfa ?_
              refine gp zl ?_
              refine zc (fun _ => ?_) (c := fun w1 F1 F2 h1 h2 hd hst => ofailIn_ok (e := 4) h1 (by decide))
              refine gl_nil ?_
              refine gx_block_normal ?_
              refine gx_then ?_
              refine gc_seq ?_
              refine gsr ?_
              refine gp zfa ?_
              refine gp zl ?_
              have hb0 : pBody (x : Int) = pErr 4 := by unfold pBody; rw [if_neg (by omega), if_neg (by omega), if_neg (by omega), if_neg (by omega), if_neg (by omega), if_neg (by omega)]
              have hb1 : Ag (pBody (x : Int)) σ1 (msg0 (x : Int)) := by rw [hb0]; exact Ag.err _
              have hr1 : rstep (pBody (x : Int)) σ1 = failE 4 σ1 := by rw [hb0, rstep_err]
              have ha : Ag pMsg (.ok B) (msg0 (x : Int)) := g13.bind (by rw [← hσ1]; exact hb1)
              have hrM : rstep pMsg (.ok B) = failE 4 (σ1) := by rw [pMsg, rstep_bind g13, ← hσ1]; exact hr1
              rw [← hrM]
              refine gl_conv (M := []) (N := [VlR RdMsg (.int .i64 (x : Int) :: (voteC ++ (tmoC ++ (propC ++ (dc dig0 ++ (dc dig0 ++ (blkC ++ chgC))))))) (msg0 (x : Int))]) Sel.nil (fun _ _ hF => vl_none (by first | rfl | simp only [List.cons_append, List.append_assoc]) hF) ?_
              obtain ⟨q, hq⟩ : ∃ q, q = .int .i64 (x : Int) :: (voteC ++ (tmoC ++ (propC ++ (dc dig0 ++ (dc dig0 ++ (blkC ++ chgC)))))) := ⟨_, rfl⟩
              rw [← hq]
              have hql : q.length = 304 := by rw [hq]; simp only [msgC, List.length_cons, List.length_append, List.length_nil, dc_length, len_L]
              have hqo : ∀ v ∈ q, v.oneCell' = true := by rw [hq]; (try unfold msgC); exact (by repeat (first | exact all_nil' | exact dc_one _ | exact One.h | refine all_app' (dc_one _) ?_ | refine all_app' One.h ?_ | refine all_cons' rfl ?_))
              have iq := Len.of hql
              have jq := One.of hqo
              obtain ⟨v, hv⟩ : ∃ v, v = (msg0 (x : Int)) := ⟨_, rfl⟩
              rw [← hv] at ha
              rw [← hv]
              have hfin := allE_fin (z := msg0 0) noz_msg ha
              refine zc (fun _ => ?_) (c := fun w1 F1 F2 h1 h2 hd hst => idone_ok h1 (hB.mv hst.still) hc hl)
              refine gp zas ?_
              refine gnt ?_
              refine gsr ?_
              refine gp zmv ?_
              refine gp (r_bool (c := decide (¬ doneE (rstep pMsg (.ok B)) = 0)) zni (by simp)) ?_
              refine gnt ?_
              refine gif rfl (fun hc103 => ?_) (fun hc103 => ?_)
              · try simp only at hc103
                have hd : ¬ doneE (rstep pMsg (.ok B)) = 0 := by simpa using hc103
                rw [← hfin.1, hfin.2.2 hd]
                refine gsr ?_
                refine gp (r_build (cs := msgC 0 dig0 dig0) Ty.zc_66 Ty.pl_66 (by kernel_rfl)) ?_
                refine gp zmv ?_
                refine zsA (new := msgC 0 dig0 dig0) Len.h One.h ?_
                refine gp zas ?_
                refine gnt ?_
                refine gc_ret ?_
                refine gx_then_ret ?_
                refine gx_retct rfl rfl (by conv => lhs; whnf) (ld_aggS Ty.row_66 Ty.sz_66 (by repeat (first | exact Pick.here | apply Pick.there)) (by (simp only [List.drop_succ_cons, List.drop_zero, List.take_succ_cons, List.take_zero, List.cons_append, List.nil_append, List.append_assoc, drop_dc, drop_dc', take_dc, take_dc', drop_L, drop_L', take_L, take_L', len_L, Nat.reduceLeDiff, Nat.reduceSub, Nat.reduceAdd, Nat.le_refl, List.length_cons, List.length_append, List.length_nil, dc_length, List.drop_nil, List.take_nil, List.append_nil, List.length_map, List.length_replicate]; first | done | rfl)) (by first | rfl | (simp only [List.drop_succ_cons, List.drop_zero, List.take_succ_cons, List.take_zero, List.cons_append, List.nil_append, List.append_assoc, drop_dc, drop_dc', take_dc, take_dc', drop_L, drop_L', take_L, take_L', len_L, Nat.reduceLeDiff, Nat.reduceSub, Nat.reduceAdd, Nat.le_refl, List.length_cons, List.length_append, List.length_nil, dc_length, List.drop_nil, List.take_nil, List.append_nil, List.length_map, List.length_replicate]; first | done | omega))) ?_
                first | exact fun w' hw => ⟨q, rfl, St.pureI ⟨hql, hqo⟩ (hw.sel (by repeat (first | exact Sel.nil | (apply Sel.cons; · (repeat (first | exact Pick.here | apply Pick.there))))))⟩ | exact fun w' hw => ⟨msgC 0 dig0 dig0, rfl, St.pureI ⟨Len.h, One.h⟩ ((hw.mapL fun F' hF' => vl_pure (rd := RdMsg) (show RdMsg _ _ (msgC 0 dig0 dig0) (msg0 0) from rdMsgOf 0 dig0 dig0) hF').sel (by repeat (first | exact Sel.nil | (apply Sel.cons; · (repeat (first | exact Pick.here | apply Pick.there))))))⟩
              · try simp only at hc103
                have hd : doneE (rstep pMsg (.ok B)) = 0 := by simpa using hc103
                rw [← hfin.1, hfin.2.1 hd, hd]
                refine gc_skip ?_
                refine gx_then ?_
                refine gsr ?_
                refine gp (zLa (cs := q)) ?_
                refine zsA (new := q) hql hqo ?_
                refine gp zas ?_
                refine gnt ?_
                refine gc_ret ?_
                refine gx_retct rfl rfl (by conv => lhs; whnf) (ld_aggS Ty.row_66 Ty.sz_66 (by repeat (first | exact Pick.here | apply Pick.there)) (by (simp only [List.drop_succ_cons, List.drop_zero, List.take_succ_cons, List.take_zero, List.cons_append, List.nil_append, List.append_assoc, drop_dc, drop_dc', take_dc, take_dc', drop_L, drop_L', take_L, take_L', len_L, Nat.reduceLeDiff, Nat.reduceSub, Nat.reduceAdd, Nat.le_refl, List.length_cons, List.length_append, List.length_nil, dc_length, List.drop_nil, List.take_nil, List.append_nil, List.length_map, List.length_replicate]; first | done | rfl)) (by first | rfl | (simp only [List.drop_succ_cons, List.drop_zero, List.take_succ_cons, List.take_zero, List.cons_append, List.nil_append, List.append_assoc, drop_dc, drop_dc', take_dc, take_dc', drop_L, drop_L', take_L, take_L', len_L, Nat.reduceLeDiff, Nat.reduceSub, Nat.reduceAdd, Nat.le_refl, List.length_cons, List.length_append, List.length_nil, dc_length, List.drop_nil, List.take_nil, List.append_nil, List.length_map, List.length_replicate]; first | done | omega))) ?_
                first | exact fun w' hw => ⟨q, rfl, St.pureI ⟨hql, hqo⟩ (hw.sel (by repeat (first | exact Sel.nil | (apply Sel.cons; · (repeat (first | exact Pick.here | apply Pick.there))))))⟩ | exact fun w' hw => ⟨msgC 0 dig0 dig0, rfl, St.pureI ⟨Len.h, One.h⟩ ((hw.mapL fun F' hF' => vl_pure (rd := RdMsg) (show RdMsg _ _ (msgC 0 dig0 dig0) (msg0 0) from rdMsgOf 0 dig0 dig0) hF').sel (by repeat (first | exact Sel.nil | (apply Sel.cons; · (repeat (first | exact Pick.here | apply Pick.there))))))⟩

end Go.Proofs.YtkgbbnhdioghmaaGreatDoor

/- Walks, by program (wg.py) out of a spec. -/
namespace Go.Proofs.YtkgbbnhdioghmaaGreatDoor
open Go
set_option linter.unusedVariables false
set_option linter.unusedSimpArgs false


theorem RdRow.pre {w : World} {A : Nat → Prop} {a : Option Addr} {n m : Nat} {xs ys : List Value} (h : RdRow w A 1 a m (xs ++ ys)) (hn : n ≤ m) (hx : xs.length = n) : RdRow w A 1 a n xs := by
  refine ⟨by omega, Nat.le_trans hn h.2.1, fun h0 => ?_⟩
  obtain ⟨g, o, ha, hA, hg, hr⟩ := h.2.2 (by omega)
  exact ⟨g, o, ha, hA, hg, fun j v hj => hr j v (by rw [List.getElem?_append_left (List.getElem?_eq_some_iff.1 hj).1]; exact hj)⟩
theorem stars_blk_row0 {w : World} {F : Nat → Prop} {L : List Res} {b e n : Nat} {cs : List Value} (h : stars (blk b e cs :: L) w F) (hl : cs.length = n) (hn : n ≤ maxLen) : stars (rowR e 1 (some ⟨b, 0, none⟩) 0 n [] :: L) w F := by
  obtain ⟨F1, F2, ⟨hF1, fz, h1, hz⟩, h2, hF, hd⟩ := h
  exact ⟨F1, F2, ⟨rfl, Nat.zero_le _, hn, .inr ⟨b, 0, cs.toArray, fz, rfl, hF1, h1, by simpa using hz, by simp; omega, by simp⟩⟩, h2, hF, hd⟩
section
variable {P : Program} {w0 : World} {F0 : Nat → Prop} {L : List Res} {Q : Exit → Act → World → Prop} {n : Nat} {env : Env} {ops : Array Oper} {rest : List Oper} {ty : TypeId} {pos : String} {af : Array Edge} {gd : Option (Nat × Bool)}
theorem gl_mk0 {t : Tmp} {T e bytes m : Nat} {x y : Operand} {z : Value} {k k' : IntKind} (hw : Wt ops n env ⟨some t, .makeSlice T x y, ty, pos, af, gd⟩ true) (ht : ElemT P T e 1 bytes) (hz : (P.info? e).map (·.zero) = some (some z)) (hzc : z.cells = #[z])
    (hx : ev n env x = .int k 0) (hy : ev n env y = .int k' (m : Int)) (hb : bytes * m ≤ 16777216) (hm : m ≤ 16777216)
    (K : ∀ b, Gl P w0 F0 (rowR e 1 (some ⟨b, 0, none⟩) 0 m [] :: L) ops Q rest n ((t, .slice (some ⟨b, 0, none⟩) 0 m) :: env)) : Gl P w0 F0 L ops Q (⟨some t, .makeSlice T x y, ty, pos, af, gd⟩ :: rest) n env := by
  refine gl_effx (α := Nat) (L' := fun b => rowR e 1 (some ⟨b, 0, none⟩) 0 m [] :: L) (v := fun b => .slice (some ⟨b, 0, none⟩) 0 m) hw (fun w hst => ?_) K
  obtain ⟨i, z', hi, hz', hs, hby, _⟩ := ht.info
  have hzz : z' = z := by rw [hi] at hz; simp only [Option.map_some, Option.some.injEq] at hz; rw [hz'] at hz; exact Option.some.inj hz
  subst hzz
  refine ⟨w.heap.size, { w with heap := w.heap.push (.cells (List.replicate m z').toArray e) }, ?_, (hst.new (T := e) (cs := List.replicate m z')).mapL0 fun F hF => stars_blk_row0 hF (by simp) (by simp only [maxLen]; omega)⟩
  have hbb : (i.bytes : Int) * (m : Int) ≤ 281474976710656 := by
    rw [hby, ← Int.natCast_mul]; omega
  have hr := run_makeSlice (P := P) (w := w) T e i z' ht.sl hi hz' k k' 0 (m : Int) (Int.le_refl 0) (by omega) (by simp [hs]; omega) hbb (by omega)
  simp only [execOp, hx, hy, Sem.run_bind, hr, Result.andThen_ok, Sem.run_pure]
  simp only [Int.toNat_natCast, hs, Nat.mul_one, hzc]
  have e1 : madeCells #[z'] m = (List.replicate m z').toArray := by rw [← madeCells_one]
  rw [e1]
  first | rfl | simp [World.alloc]
theorem r_cap_slice {d : Option Tmp} {x : Operand} {T e : TypeId} {a : Option Addr} {m c : Nat} (hx : ev n env x = .slice a m c) (ht : sliceT P T = some e) :
    Runs P w0 F0 L n env ⟨d, .call ⟨.builtin .cap, #[x], #[T]⟩, ty, pos, af, gd⟩ (.int .i64 c) := fun w _ => by
  simp [execOp, resolve, invoke, builtin, Builtin.cap_, hx, run_underlying (run_sliceT ht), goInt]
end
def marks : List UInt8 := [201, 202, 203, 204, 205, 206]
def Le4 {α : Type} (p : PR α) : Prop := ∀ b e, p b = .error e → e ≤ 4
theorem le4_pure {α : Type} (x : α) : Le4 (pPure x) := fun b e h => by cases h
theorem le4_err {α : Type} {e : Nat} (h : e ≤ 4) : Le4 (pErr (α := α) e) := fun b e' hh => by injection hh with hh; omega
theorem le4_take (n : Nat) : Le4 (pTake n) := fun b e h => by unfold pTake at h; split at h; injection h with h; omega; cases h
theorem le4_bind {α β : Type} {p : PR α} {f : α → PR β} (hp : Le4 p) (hf : ∀ x, Le4 (f x)) : Le4 (pBind p f) := fun b e h => by
  unfold pBind at h
  split at h
  · rename_i e' he; injection h with h; subst h; exact hp b e' he
  · exact hf _ _ _ h
theorem le4_num (wd : Nat) : Le4 (pNum wd) := le4_bind (le4_take wd) fun _ => le4_pure _
theorem le4_dig : Le4 pDig := le4_bind (le4_take 16) fun _ => le4_pure _
theorem le4_many {α : Type} {p : PR α} (h : Le4 p) : ∀ n, Le4 (pMany p n)
  | 0 => le4_pure _
  | n + 1 => le4_bind h fun _ => le4_bind (le4_many h n) fun _ => le4_pure _
theorem le4_ite {α : Type} {c : Prop} [Decidable c] {p q : PR α} (hp : Le4 p) (hq : Le4 q) : Le4 (if c then p else q) := by split <;> assumption
theorem le4_list {α : Type} {p : PR α} (h : Le4 p) (most : Nat) : Le4 (pList p most) := le4_bind (le4_num 1) fun _ => le4_ite (le4_err (by decide)) (le4_many h _)
theorem le4_bytes (most : Nat) : Le4 (pBytes most) := le4_bind (le4_num 2) fun _ => le4_ite (le4_err (by decide)) (le4_take _)
theorem le4_sig : Le4 pSig := le4_bind (le4_num 1) fun _ => le4_bind (le4_list le4_dig 68) fun _ => le4_bind (le4_list le4_dig 5) fun _ => le4_pure _
theorem le4_signed : Le4 pSigned := le4_bind (le4_num 1) fun _ => le4_bind le4_sig fun _ => le4_pure _
theorem le4_at : Le4 pAt := le4_bind (le4_num 4) fun _ => le4_bind (le4_num 6) fun _ => le4_pure _
theorem le4_qc : Le4 pQC := le4_bind le4_at fun _ => le4_bind le4_dig fun _ => le4_bind (le4_list le4_signed 7) fun _ => le4_pure _
theorem le4_late : Le4 pLate := le4_bind (le4_num 1) fun _ => le4_bind (le4_num 6) fun _ => le4_bind le4_sig fun _ => le4_pure _
theorem le4_tc : Le4 pTC := le4_bind le4_at fun _ => le4_bind (le4_list le4_late 7) fun _ => le4_pure _
theorem le4_vdr : Le4 pVdr := le4_bind le4_dig fun _ => le4_bind (le4_num 6) fun _ => le4_pure _
theorem le4_block : Le4 pBlock := le4_bind le4_at fun _ => le4_bind le4_dig fun _ => le4_bind le4_qc fun _ => le4_bind (le4_list (le4_bytes 16) 4) fun _ => le4_bind (le4_list le4_vdr 7) fun _ => le4_pure _
theorem le4_chg : Le4 pChg := le4_bind (le4_many le4_block 3) fun _ => le4_bind le4_qc fun _ => le4_pure _
theorem le4_vote : Le4 pVote := le4_bind le4_at fun _ => le4_bind le4_dig fun _ => le4_bind le4_signed fun _ => le4_pure _
theorem le4_tmo : Le4 pTmo := le4_bind le4_at fun _ => le4_bind le4_qc fun _ => le4_bind le4_tc fun _ => le4_bind le4_signed fun _ => le4_pure _
theorem le4_prop : Le4 pProp := le4_bind le4_block fun _ => le4_bind le4_tc fun _ => le4_bind le4_signed fun _ => le4_pure _
theorem le4_body (k : Int) : Le4 (pBody k) := by
  unfold pBody
  exact le4_ite (le4_bind le4_vote fun _ => le4_pure _) (le4_ite (le4_bind le4_tmo fun _ => le4_pure _) (le4_ite (le4_bind le4_prop fun _ => le4_pure _) (le4_ite (le4_bind le4_dig fun _ => le4_bind le4_dig fun _ => le4_pure _)
    (le4_ite (le4_bind le4_block fun _ => le4_pure _) (le4_ite (le4_bind le4_chg fun _ => le4_pure _) (le4_err (by decide)))))))
theorem le4_msg : Le4 pMsg := le4_bind (le4_num 1) le4_body
theorem allE_le {α : Type} {p : PR α} (hp : Le4 p) (z : α) (b : List UInt8) : (allE p z b).1 ≤ 4 := by
  unfold allE; split
  · simp
  · rename_i k hk
    unfold pAll at hk
    split at hk
    · rename_i e he; injection hk with hk; subst hk; exact hp b e he
    · split at hk
      · cases hk
      · injection hk with hk; simp only; omega
theorem allE_good' {α : Type} {p : PR α} {z : α} {b : List UInt8} (hp : NoZ p) (h : (allE p z b).1 = 0) : pAll p b = .ok (allE p z b).2 := by
  unfold allE at h ⊢; split
  · rename_i m hm; rw [hm]
  · rename_i k hk
    rw [hk] at h
    simp only at h
    subst h
    unfold pAll at hk
    split at hk
    · rename_i e he; injection hk with hk; subst hk; exact absurd he (hp b)
    · split at hk
      · cases hk
      · injection hk with hk; cases hk
theorem msg_back {b : List UInt8} (h : (allE pMsg (msg0 0) b).1 = 0) : wEnc (allE pMsg (msg0 0) b).2 = ⟨0, b⟩ := by
  obtain ⟨k1, k6, _, _, _, b', hb, hw⟩ := dec_msg _ _ _ (pAll_ok (allE_good' noz_msg h))
  rw [List.append_nil] at hb
  subst hb
  rw [wEnc, if_neg (by omega)]
  simpa using hw ⟨0, []⟩ rfl
theorem rdBytes_le {w : World} {A : Nat → Prop} {a : Option Addr} {n c : Nat} {b : List UInt8} (h : RdBytes w A [.slice a n c] b) : n ≤ c := by
  obtain ⟨a', n', c', h1, h2, _⟩ := h
  simp only [List.cons.injEq, Value.slice.injEq, and_true] at h1
  obtain ⟨_, rfl, rfl⟩ := h1
  exact h2

attribute [local irreducible] Gl Gc Gx Gs Runs Wt

set_option maxHeartbeats 400000 in
theorem nbytes_ok {w : World} {F : Nat → Prop} {a : Option Addr} {c : Nat} {B : List UInt8} (h : stars [] w F) (hB : RdRow w (fun k => ¬ F k) 1 a B.length (B.map B8)) (hl : B.length ≤ 40000) :
    Calls Tryz.prog 21 #[.slice a B.length c] w (Post w F (fun r : Option Addr × Nat => .slice r.1 B.length r.2) (fun r => [pureR (B.length + 6 ≤ r.2), rowR 5 1 r.1 (B.length + 6) r.2 (B.map B8 ++ (marks.map B8))])) := by
  refine g_enter (env := [(0, .slice a B.length c)]) Tryz.func21 rfl h Tryz.ntmps21 rfl rfl ?_
  refine gsr ?_
  refine gp zas ?_
  refine gnt ?_
  refine gsr ?_
  refine gp zmv ?_
  refine gp zln ?_
  refine gp (r_int (j := ((B.length + 6 : Nat) : Int)) zad (by omega)) ?_
  refine gl_mk0 (z := .int .u8 0) (m := B.length + 6) (wt0 rfl) ELT.h (by kernel_rfl) rfl rfl rfl (by omega) (by omega) (fun b7 => ?_)
  refine gp zmv ?_
  refine gl_append (xs := []) (news := B.map B8) (wt0 rfl) rfl rfl (by repeat (first | exact Pick.here | apply Pick.there)) ELT.h (fun w hw => hw.rdOld hB) (one_B8 _) (by simp only [maxLen]; omega) (by omega) (fun a9 c9 => ?_)
  rw [Nat.zero_add, List.nil_append]
  refine gl_bslice (s := 1) (e := 5) (len := 6) (cs := (marks.map B8)) (z := [.int .u8 0]) (wt0 rfl) Ty.sl_36 (by kernel_rfl) (by decide) (by decide) (by decide) (by kernel_rfl) (by kernel_rfl) rfl (fun b10 => ?_)
  refine zapo (a2 := some ⟨b10, 0, none⟩) (c2 := 6) (news := (marks.map B8)) (fun a11 c11 => ?_) (h1 := one_B8 _)
  refine gl_fact (p := ∃ g o, a11 = some ⟨g, o, none⟩) (fun w hw => (by obtain ⟨g, o, e, _⟩ := (hw.row (a := a11) (m := B.length + 6) (c := c11) (xs := B.map B8 ++ (marks.map B8)) (by repeat (first | exact Pick.here | apply Pick.there))).2.2 (by omega); exact ⟨g, o, e⟩)) (fun ha => ?_)
  obtain ⟨g11, o11, rfl⟩ := ha
  refine gl_fact (p := B.length + 6 ≤ c11) (fun w hw => (hw.rowLe (e := 5) (size := 1) (a := some ⟨g11, o11, none⟩) (m := B.length + 6) (c := c11) (xs := B.map B8 ++ (marks.map B8)) (by repeat (first | exact Pick.here | apply Pick.there))).1) (fun hle => ?_)
  refine gp zas ?_
  refine gnt ?_
  refine gsr ?_
  refine gp zmv ?_
  refine gp zmv ?_
  refine gp zln ?_
  refine gp (r_val (r_slice_slice (a := some ⟨g11, o11, none⟩) (m := B.length + 6) (c := c11) (l := 0) (h := B.length) rfl Ty.sl_36 Ty.sz_5 rfl ⟨_, rfl⟩ (by omega) (by omega)) (by rw [if_neg (by omega), Nat.sub_zero, Nat.sub_zero] <;> rfl)) ?_
  refine gp zas ?_
  refine gnt ?_
  refine gc_ret ?_
  refine gx_ret1 rfl (by conv => lhs; whnf) ?_
  exact fun w' hw => ⟨(some ⟨g11, o11, none⟩, c11), rfl, St.pureI hle (hw.sel (by repeat (first | exact Sel.nil | (apply Sel.cons; · (repeat (first | exact Pick.here | apply Pick.there))))))⟩

set_option maxHeartbeats 400000 in
theorem kept_ok {w : World} {F : Nat → Prop} {a a0 : Option Addr} {c c0 : Nat} {B : List UInt8} (h : stars [rowR 5 1 a (B.length + 6) c (B.map B8 ++ (marks.map B8))] w F) (hB : RdRow w (fun k => ¬ F k) 1 a0 B.length (B.map B8)) (hl : B.length ≤ 40000) (hc : B.length + 6 ≤ c) (hm : c ≤ maxLen) :
    Calls Tryz.prog 23 #[.slice a B.length c, .slice a0 B.length c0] w (Post w F (fun _ : Unit => .bool true) (fun _ => [rowR 5 1 a (B.length + 6) c (B.map B8 ++ (marks.map B8))])) := by
  have hrow := (St.init h).row (e := 5) (size := 1) (a := a) (m := B.length + 6) (c := c) (xs := B.map B8 ++ (marks.map B8)) Pick.here
  obtain ⟨g1, o1, ha, _⟩ := hrow.2.2 (by omega)
  subst ha
  simp only [maxLen] at hm
  refine g_enter (env := [(0, .slice (some ⟨g1, o1, none⟩) B.length c), (1, .slice a0 B.length c0)]) Tryz.func23 rfl h Tryz.ntmps23 rfl rfl ?_
  refine gsr ?_
  refine gp zas ?_
  refine gnt ?_
  refine gsr ?_
  refine gp zmv ?_
  refine gp zmv ?_
  refine gp (r_cap_slice rfl Ty.sl_36) ?_
  refine gp (r_val (r_slice_slice (a := some ⟨g1, o1, none⟩) (m := B.length) (c := c) (l := 0) (h := c) rfl Ty.sl_36 Ty.sz_5 rfl ⟨_, rfl⟩ (by omega) (by omega)) (v' := .slice (some ⟨g1, o1, none⟩) c c) (by rw [if_neg (by omega), Nat.sub_zero] <;> rfl)) ?_
  refine gp zas ?_
  refine gnt ?_
  refine gc_seq ?_
  refine gc_seq ?_
  refine gc_regionS (by kernel_rfl) (by kernel_rfl) ?_
  refine sp zmv ?_
  refine sp zln ?_
  refine sp zmv ?_
  refine sp zln ?_
  refine sp (r_int (j := ((B.length + 6 : Nat) : Int)) zad (by omega)) ?_
  refine sp (r_bool (c := false) zlt (decide_eq_false (by omega))) ?_
  refine sp zmv ?_
  refine sq zmv ?_
  refine sq zmv ?_
  refine sq zln ?_
  refine sq (r_val (r_slice_slice (a := some ⟨g1, o1, none⟩) (m := c) (c := c) (l := 0) (h := B.length) rfl Ty.sl_36 Ty.sz_5 rfl ⟨_, rfl⟩ (by omega) (by omega)) (v' := .slice (some ⟨g1, o1, none⟩) B.length c) (by rw [if_neg (by omega), Nat.sub_zero, Nat.sub_zero] <;> rfl)) ?_
  refine sq (r_str (b := B) rfl Ty.sl_36 Ty.un_5 (by kernel_rfl) (fun w hw => (hw.row (e := 5) (size := 1) (a := some ⟨g1, o1, none⟩) (m := B.length + 6) (c := c) (xs := B.map B8 ++ (marks.map B8)) (by repeat (first | exact Pick.here | apply Pick.there))).pre (by omega) (by simp))) ?_
  refine sq zmv ?_
  refine sq (r_str (b := B) rfl Ty.sl_36 Ty.un_5 (by kernel_rfl) (fun w hw => hw.rdOld hB)) ?_
  refine sq (r_bool (c := false) zns (by simp)) ?_
  refine sp zpk ?_
  refine gs_nil ?_
  refine gx_then ?_
  refine gc_condF rfl rfl ?_
  refine gc_skip ?_
  refine gx_then ?_
  refine gc_seq ?_
  refine gsr ?_
  refine gp zas ?_
  refine gnt ?_
  refine gc_block ?_
  refine gc_loop (α := Nat) (fun k => [pureR (k ≤ 6), rowR 5 1 (some ⟨g1, o1, none⟩) (B.length + 6) c (B.map B8 ++ (marks.map B8))]) (fun k => [(6, .int .i64 (k : Int))]) [4, 27, 28, 29, 30, 31, 32, 33, 34, 35, 36, 37, 38, 39, 40, 41] (fun k => 6 - k) 0 ?_ ?_ ?_
  · refine env_start (by kernel_rfl)
  · exact zlp (Nat.zero_le _)
  · intro k u
    refine gc_pureR (fun hk => ?_)
    replace hk : k ≤ 6 := hk
    refine gc_seq ?_
    refine gsr ?_
    refine gp zmv ?_
    refine gp zlt ?_
    refine gnt ?_
    refine gif rfl (fun hc28 => ?_) (fun hc28 => ?_)
    · try simp only at hc28
      have hk' : k < 6 := by omega
      refine gc_skip ?_
      refine gx_then ?_
      refine gc_seq ?_
      refine gc_block ?_
      refine gsr ?_
      refine gp zmv ?_
      refine gp zmv ?_
      refine gp zln ?_
      refine gp zmv ?_
      refine gp (r_int (j := ((B.length + k : Nat) : Int)) zad (by omega)) ?_
      refine gp (zia) ?_
      refine gp (r_ld1r (v := .int .u8 (201 + (k : Int))) rfl Ty.row_5 (by repeat (first | exact Pick.here | apply Pick.there)) (by rw [show ((B.length + k : Nat) : Int).toNat * 1 = B.length + k by omega, List.getElem?_append_right (by simp), List.length_map, show B.length + k - B.length = k by omega]; (rcases k with _ | _ | _ | _ | _ | _ | k) <;> first | rfl | omega)) ?_
      refine gp zmv ?_
      refine gp zad ?_
      refine gp (r_int (j := (201 + (k : Int))) zci (wrap_u8 (by omega) (by omega))) ?_
      refine gp (r_bool (c := false) zni (by simp)) ?_
      refine gnt ?_
      refine gc_condF rfl rfl ?_
      refine gc_skip ?_
      refine gx_block_normal ?_
      refine gx_then ?_
      refine gc_region ?_
      refine gp zmv ?_
      refine gp zad ?_
      refine gp zas ?_
      refine gl_nil ?_
      refine zrd (k + 1) ?_ ?_
      · show 6 - (k + 1) < 6 - k
        omega
      · exact zlp (show k + 1 ≤ 6 by omega)
    · refine gc_exit ?_
      refine gx_then_exit ?_
      refine gx_round_exit ?_
      refine gx_block_hit ?_
      refine gx_then ?_
      refine gsr ?_
      refine gp zas ?_
      refine gnt ?_
      refine gc_ret ?_
      refine gx_ret1 rfl (by conv => lhs; whnf) ?_
      exact ze ()

end Go.Proofs.YtkgbbnhdioghmaaGreatDoor

