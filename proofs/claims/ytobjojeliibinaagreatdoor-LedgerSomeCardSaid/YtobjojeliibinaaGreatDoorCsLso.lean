/- Part 6. What is proved: see the last part: for every input the law returns true, and the input reads as it did. -/
import Derived.Test.YtobjojeliibinaaGreatDoorCs5
import Derived.Test.YtobjojeliibinaaGreatDoorCards
import Derived.Test.YtobjojeliibinaaGreatDoorTie
import Derived.Deep.DeepHandedRow
import Derived.Deep.DeepWitnessRowRef
/- Walks, by program (wg.py) out of a spec. -/
namespace Go.Proofs.YtobjojeliibinaaGreatDoor
open Go
set_option linter.unusedVariables false
set_option linter.unusedSimpArgs false

theorem cell_mv {w w' : World} {g o : Nat} {v : Value} {F : Nat → Prop} (h : F g ∧ w.cell? ⟨g, o, none⟩ = some v) (hk : ∀ k, k < w.heap.size → F k → w'.heap[k]? = w.heap[k]?) : F g ∧ w'.cell? ⟨g, o, none⟩ = some v :=
  ⟨h.1, by rw [World.cell?_of_block (w := w) (a := ⟨g, o, none⟩) (hk _ (World.block_lt_of_cell? w _ h.2) h.1)]; exact h.2⟩
theorem cell_cells {w : World} {g o : Nat} {v : Value} (h : w.cell? ⟨g, o, none⟩ = some v) : ∃ cs T fz, w.heap[g]? = some (.cells cs T fz) ∧ o < cs.size := by
  unfold World.cell? at h
  split at h
  · rename_i cs T fz hh
    simp at h
    exact ⟨cs, T, fz, hh, (Array.getElem?_eq_some_iff.1 h).1⟩
  · cases h
theorem b8_up (b : UInt8) : Value.int .u8 (IntKind.u8.wrap ((b.toNat : Int) + 1)) = B8 (b + 1) := b8_succ b
section
variable {P : Program} {w0 : World} {F0 : Nat → Prop} {L L' : List Res} {Q : Exit → Act → World → Prop} {n : Fm} {env : Env} {ops : Array Oper} {rest : List Oper} {d : Option Tmp} {ty : TypeId} {pos : String} {af : Array Edge} {gd : Option (Nat × Bool)}
theorem r_ldAny {x : Operand} {T : Nat} {a : Addr} {v : Value} {r : Res} (hx : ev n env x = .pointer (some a)) (hr : rowT P T = some false) (hp : Pick L r L') (hc : ∀ w F, r.on w F → w.cell? a = some v) : Runs P w0 F0 L n env ⟨d, .load T x, ty, pos, af, gd⟩ v := r_load hx fun w hs => by
  obtain ⟨F, hF, _⟩ := hs
  obtain ⟨F1, h1, _⟩ := stars_pick hp hF
  exact run_loadVar_one hr (hc w F1 h1)
theorem okAt_set {w w' : World} {F : Nat → Prop} {g : Nat} {o : Nat} {v : Value} {cs : Array Value} {T : TypeId} {fz : Nat × Nat} (h : ∀ k, F k → okAt w k) (hh : w.heap[g]? = some (.cells cs T fz)) (hg : w'.heap[g]? = some (.cells (cs.setIfInBounds o v) T fz)) (hk : ∀ k, k ≠ g → w'.heap[k]? = w.heap[k]?) : ∀ k, F k → okAt w' k := fun k hF => by
  by_cases e : k = g
  · subst e
    obtain ⟨ob, hob, hf⟩ := h k hF
    rw [hh] at hob; cases hob
    exact ⟨_, hg, by simpa [okObj] using hf⟩
  · exact (h k hF).mv (hk k e)

/-- Where a block holds its first payload's first byte. -/
structure PSpot where
  p1 : Nat
  p1o : Nat
  cp : Nat
  p2 : Nat
  p2o : Nat
  c2 : Nat
  hd : List Value
  nx : Value
  e : Int
def psC (s : PSpot) (r : Int) : List Value := .int .i64 s.e :: .int .i64 r :: (s.hd ++ [.slice (some ⟨s.p1, s.p1o, none⟩) 1 s.c2, s.nx])
theorem psC_pay {s : PSpot} {r : Int} (h : s.hd.length = 35) : (psC s r)[37]? = some (.slice (some ⟨s.p1, s.p1o, none⟩) 1 s.c2) := by
  show (s.hd ++ _)[35]? = _
  rw [List.getElem?_append_right (by omega), h]; rfl
theorem psC_rnd (s : PSpot) (r : Int) : (psC s r)[1]? = some (.int .i64 r) := rfl
def PsRd (s : PSpot) (u : UInt8) (w : World) (F : Nat → Prop) : Prop := (F s.p1 ∧ w.cell? ⟨s.p1, s.p1o, none⟩ = some (.slice (some ⟨s.p2, s.p2o, none⟩) 1 s.cp)) ∧ (F s.p2 ∧ w.cell? ⟨s.p2, s.p2o, none⟩ = some (B8 u))
def PsR (s : PSpot) (u : UInt8) : Res := rdR (PsRd s u) (fun h hk => ⟨cell_mv h.1 hk, cell_mv h.2 hk⟩)
def AnyR : Res := rdR (fun _ _ => True) (fun _ _ => trivial)
theorem vl_ps {cs : List Value} {b : Block} {u : UInt8} (hb : b.payload = [[u]]) {w : World} {F : Nat → Prop} (h : stars [VlR RdBlock cs b] w F) : stars [exR fun s : {s : PSpot // cs = psC s b.round ∧ s.hd.length = 35} => PsR s.1 u] w F := by
  obtain ⟨F1, F2, h1, h2, hF, hd⟩ := h
  obtain ⟨hr, hok⟩ := h1
  obtain ⟨q, a1, n1, c1, a2, n2, c2, rfl, hq, hk1, hp, hk2, hn⟩ := hr
  have hql := hq.len
  rw [hb] at hp
  obtain rfl : n1 = 1 := hp.len (by decide)
  obtain ⟨p1, p1o, e1, y1, rfl, hA1, _, hra1, _, hl1, hrd1⟩ := hp.elem (i := 0) (by decide) (by decide)
  obtain rfl : y1 = [u] := by simpa using hl1.symm
  obtain ⟨a', n', c', rfl, hn', hrb⟩ := hrd1
  obtain rfl : n' = 1 := by have := hrb.1; simp at this; omega
  obtain ⟨p2, p2o, rfl, hA2, _, hra2⟩ := hrb.elem (i := 0) (by decide)
  refine ⟨F1, F2, ⟨⟨⟨p1, p1o, c', p2, p2o, c1, dc b.parent ++ q, .slice a2 n2 c2, b.epoch⟩, by simp [psC], by simp [dc_length, hql]⟩, ⟨⟨hA1, ?_⟩, ⟨hA2, ?_⟩⟩, hok⟩, h2, hF, hd⟩
  · simpa using hra1 0 _ rfl
  · simpa using hra2 0 (B8 u) rfl
variable {s : PSpot} {u : UInt8} {T : TypeId} {x y : Operand}
theorem r_psP (hx : ev n env x = .pointer (some ⟨s.p1, s.p1o, none⟩) := by exact rfl) (hr : rowT P T = some false) (hp : Pick L (PsR s u) L') : Runs P w0 F0 L n env ⟨d, .load T x, ty, pos, af, gd⟩ (.slice (some ⟨s.p2, s.p2o, none⟩) 1 s.cp) := r_ldAny hx hr hp fun w F h => h.1.1.2
theorem r_psB (hx : ev n env x = .pointer (some ⟨s.p2, s.p2o, none⟩) := by exact rfl) (hr : rowT P T = some false) (hp : Pick L (PsR s u) L') : Runs P w0 F0 L n env ⟨d, .load T x, ty, pos, af, gd⟩ (B8 u) := r_ldAny hx hr hp fun w F h => h.1.2.2
theorem gl_psB {v : UInt8} (hw : Wt ops n env ⟨none, .store T x y, ty, pos, af, gd⟩ true) (hx : ev n env x = .pointer (some ⟨s.p2, s.p2o, none⟩)) (hy : ev n env y = B8 v) (hs : szT P T = some 1) (hp : Pick L (PsR s u) L')
    (k : Gl P w0 F0 (AnyR :: L') ops Q rest n env) : Gl P w0 F0 L ops Q (⟨none, .store T x y, ty, pos, af, gd⟩ :: rest) n env := by
  refine gl_stAny (r' := AnyR) hw hx hy hs rfl hp (fun w F h => ?_) k
  obtain ⟨⟨h1, h2⟩, hok⟩ := h
  obtain ⟨cs, T', fz, hh, ho⟩ := cell_cells h2.2
  exact ⟨h2.1, cs, T', fz, hh, ho, fun w' hg hk => ⟨trivial, okAt_set hok hh hg hk⟩⟩
end
theorem findL_le (id : Dig) : ∀ (rs : List LRec) (k : Nat), findL id k rs ≤ (k : Int) + rs.length
  | [], k => by simp [findL]
  | r :: l, k => by
    unfold findL
    have ih := findL_le id l (k + 1)
    split
    · simp; omega
    · simp at ih ⊢; omega
def so10 (x : Int) : Nat := ((IntKind.u64.wrap x).tmod 10).toNat
theorem so10_eq (x : Int) : (IntKind.u64.wrap x).tmod 10 = (so10 x : Int) ∧ so10 x < 10 := u64_rem x (m := 10) (by decide)
theorem ld_all {d : DS} {q g n bs : Nat} {rs : List LRec} {w : World} {F : Nat → Prop} (h : stars [allR [pureR (LdOk d n bs rs), LedR q g (lsOf bs rs), DiskR g d]] w F) : stars [pureR (LdOk d n bs rs), LedR q g (lsOf bs rs), DiskR g d] w F := stars_all h
theorem agR_blk {l : List Op18} {k : Nat} {o : Op18} (h : l[k]? = some o) : blkAt (agR l l.length) k = (smO o).b := by
  have hk : k < l.length := (List.getElem?_eq_some_iff.1 h).1
  apply blkAt_eq
  simp [agR, h]
theorem smO_pay (o : Op18) : (smO o).b.payload = [[o.tx]] := rfl
theorem smO_rnd (o : Op18) : (smO o).b.round = (rndU o.round : Int) := rfl
theorem agR_all {l : List Op18} : ∀ r ∈ agR l l.length, r.Ok := fun r hr => by
  simp [agR] at hr
  obtain ⟨o, _, rfl⟩ := hr
  exact smO_ok o

end Go.Proofs.YtobjojeliibinaaGreatDoor

/- Walks, by program (wg.py) out of a spec. -/
namespace Go.Proofs.YtobjojeliibinaaGreatDoor
open Go
set_option linter.unusedVariables false
set_option linter.unusedSimpArgs false

attribute [local irreducible] Gl Gc Gx Gs Runs Wt

attribute [local irreducible] dc RdRec RdBlock RdQC RdSigned blkC qcC allE smL smQ idOf agR psC

set_option maxHeartbeats 400000 in
theorem ledgerSome_ok {w : World} {F : Nat → Prop} {al : Option Addr} {n cl : Nat} {so : Int} {l : List Op18} {ea : Nat → Addr} (h : stars [] w F) (hN : NErr w (fun k => ¬ F k) ea) (hK : KR w (fun k => ¬ F k)) (hx : RdList (RdOp18 w (fun k => ¬ F k)) w (fun k => ¬ F k) 6 al n l) :
    Calls Tryz.prog 12 #[.slice al n cl, .int .i64 so] w (Post w F (fun _ : Unit => .bool true) (fun _ => [])) := by
  have hE := hN.g
  obtain rfl : n = l.length := hx.len (by decide)
  obtain ⟨hso, hso10⟩ := so10_eq so
  refine g_enterM (env := [(0, .slice al l.length cl), (1, .int .i64 so)]) Tryz.func12 rfl h Tryz.ntmps12 rfl rfl ?_
  refine gsr ?_
  refine zb1 fun b2 => ?_
  refine zb1 fun b3 => ?_
  refine zal fun b4 => ?_
  refine gnt ?_
  refine gc_seq ?_
  refine gsr ?_
  refine zc (fun _ => ?_) (c := fun w1 F1 F2 h1 h2 hd hst => alive18_ok h1 (hE.mv hst.still) (hK.mv hst.still))
  refine gp znt ?_
  refine gnt ?_
  refine gc_condF rfl rfl ?_
  refine gc_skip ?_
  refine gx_then ?_
  refine gc_seq ?_
  refine gsr ?_
  refine gp zl ?_
  refine gp zln ?_
  refine gp zgt ?_
  refine gnt ?_
  refine gif rfl (fun hc23 => ?_) (fun hc23 => ?_)
  · refine gsr ?_
    refine zs1 ?_
    refine gnt ?_
    refine gc_ret ?_
    refine gx_then_ret ?_
    refine gx_mark0 ?_
    refine gx_retc rfl rfl (ld_oneS Ty.row_4 (by repeat (first | exact Pick.here | apply Pick.there)) (by first | rfl | (simp only [List.getElem?_cons_succ, List.getElem?_cons_zero, List.cons_append, List.append_assoc, get_dc, get_L, Nat.reduceLeDiff, Nat.reduceSub, Nat.reduceAdd, Nat.le_refl]; rfl))) ?_
    exact ze ()
  · try simp only at hc23
    have hn8 : l.length ≤ 8 := by omega
    refine gc_skip ?_
    refine gx_then ?_
    refine gsr ?_
    refine zc (fun g => ?_) (c := fun w1 F1 F2 h1 h2 hd hst => new_ok (ea := ea) (n := 400) h1 (by decide) (by decide))
    refine gp zmv ?_
    refine gp zex ?_
    refine gp zex ?_
    refine gp zas ?_
    refine gp zas ?_
    refine gnt ?_
    refine gc_seq ?_
    refine gsr ?_
    refine gp zmv ?_
    refine gp (r_bool (c := false) (r_nenil rfl (by kernel_rfl)) rfl) ?_
    refine gnt ?_
    refine gc_condF rfl rfl ?_
    refine gc_skip ?_
    refine gx_then ?_
    refine gsr ?_
    refine gp zmv ?_
    refine zc (fun q => ?_) (c := fun w1 F1 F2 h1 h2 hd hst => fmtC (n := 400) (bs := 0) h1 (by decide) (by decide) (hE.mv hst.still))
    refine gp zmv ?_
    refine gp zex ?_
    refine gp zex ?_
    refine gp zas ?_
    refine gp zas ?_
    refine gnt ?_
    refine gc_seq ?_
    refine gsr ?_
    refine gp zmv ?_
    refine gp (r_bool (c := false) (r_nenil rfl (by kernel_rfl)) rfl) ?_
    refine gnt ?_
    refine gc_condF rfl rfl ?_
    refine gc_skip ?_
    refine gx_then ?_
    refine gc_seq ?_
    refine gsr ?_
    refine gp zl ?_
    refine gp zln ?_
    refine gp zmv ?_
    refine gnt ?_
    refine gc_block ?_
    refine gc_loop (α := Nat) (fun k => [pureR (k ≤ l.length), LdR q g 400 0 (agR l k), blk b2 102 [.slice al l.length cl], blk b3 3 [.int .i64 so], blk b4 4 [.bool false]]) (fun k => [(39, .int .i64 (k : Int))]) [9, 10, 40, 41, 42, 43, 44, 45, 46, 47, 48, 49, 50, 51, 52, 53, 54, 55, 56, 57] (fun k => l.length - k) 0 ?_ ?_ ?_
    · refine env_start (by kernel_rfl)
    · simp only [agR_zero]
      exact zlp (Nat.zero_le _)
    · intro k u
      refine gc_pureR (fun hk => ?_)
      replace hk : k ≤ l.length := hk
      refine gsr ?_
      refine gp zlt ?_
      refine gnt ?_
      refine gc_seq ?_
      refine gif rfl (fun hc40 => ?_) (fun hc40 => ?_)
      · try simp only at hc40
        have hk' : k < l.length := by omega
        obtain ⟨gx, ox, ce, op, ha, hA, _, hra, hl6, hop, hrd⟩ := hx.elem (i := k) (by decide) hk'
        subst ha
        obtain ⟨oa, on, oc, rfl, _, _⟩ := hrd
        have hlen := agR_len (l := l) (k := k) (by omega)
        have htot := agR_tot l k
        have hsec := smO_sec op
        refine gc_skip ?_
        refine gx_then ?_
        refine gc_seq ?_
        refine gc_block ?_
        refine gsr ?_
        refine gp (r_val (v' := .pointer (some ⟨gx, ox + k * 6, none⟩)) zia (by simp)) ?_
        refine gp (r_ldNo rfl Ty.row_90 Ty.sz_90 hra hl6 (by decide) hA) ?_
        refine zal fun b9 => ?_
        refine zsN ?_
        refine gnt ?_
        refine gsr ?_
        refine gp zfa ?_
        refine gp zl ?_
        refine gp zfa ?_
        refine gp zl ?_
        refine gp zfa ?_
        refine gp zl ?_
        refine zc ?_ (c := fun w1 F1 F2 h1 h2 hd hst => small_ok (i := op.round) (v := op.votes) (tx := op.tx) h1 (hE.mv hst.still) (hK.mv hst.still))
        rintro ⟨xb, xc⟩
        refine gl_pureR (fun hxx => ?_)
        obtain ⟨⟨hlb, hob⟩, hlc, hoc⟩ := hxx
        replace hlb : xb.length = 39 := hlb
        replace hlc : xc.length = 19 := hlc
        have ib := Len.of hlb
        have jb := One.of (show ∀ v ∈ xb, v.oneCell' = true from hob)
        have ic := Len.of hlc
        have jc := One.of (show ∀ v ∈ xc, v.oneCell' = true from hoc)
        rw [smO_eq]
        refine zal fun b10 => ?_
        refine zsN ?_
        refine gnt ?_
        refine gsr ?_
        refine gp zmv ?_
        refine gp zfa ?_
        refine gp (zL (sg := xb)) ?_
        refine gp zfa ?_
        refine gp (zL (sg := xc)) ?_
        refine zc (fun _ => ?_) (c := fun w1 F1 F2 h1 h2 hd hst => appC (b := (smO op).b) (c := (smO op).c) h1 (hE.mv hst.still) (hK.mv hst.still) (vl_rd h2 hd (by repeat (first | exact Pick.here | apply Pick.there))) (vl_rd h2 hd (by repeat (first | exact Pick.here | apply Pick.there))) (smO_ok op) (by show (agR l k).length < 200; omega) (by show 0 + tot (agR l k) + nsec (smO op).data.length + 2 ≤ 400; omega))
        rw [show agR l k ++ [(⟨(smO op).b, (smO op).c⟩ : LRec)] = agR l (k + 1) from (agR_succ hop).symm]
        refine gp (r_bool (c := false) (r_nenil rfl (by kernel_rfl)) rfl) ?_
        refine gnt ?_
        refine gc_condF rfl rfl ?_
        refine gc_skip ?_
        refine gx_block_normal ?_
        refine gx_then ?_
        refine gc_region ?_
        refine gp zad ?_
        refine gp zmv ?_
        refine gl_nil ?_
        refine zrd (k + 1) ?_ ?_
        · show l.length - (k + 1) < l.length - k
          omega
        · exact zlp (show k + 1 ≤ l.length by omega)
      · try simp only at hc40
        obtain rfl : k = l.length := by omega
        have hok : ∀ r ∈ (lsOf 0 (agR l l.length)).rs, r.Ok := agR_all
        have hln : (lsOf 0 (agR l l.length)).rs.length < 4294967296 := by show (agR l l.length).length < _; rw [agR_len (Nat.le_refl _)]; omega
        refine gc_exit ?_
        refine gx_then_exit ?_
        refine gx_round_exit ?_
        refine gx_block_hit ?_
        refine gx_then ?_
        refine gsr ?_
        refine gp zl ?_
        refine gp zci ?_
        refine gp (r_int (j := ((so10 so : Nat) : Int)) zrm hso) ?_
        refine gp (r_int (j := ((so10 so : Nat) : Int)) zci (wrap_i64 (by omega) (by omega))) ?_
        refine zs1 ?_
        refine gnt ?_
        refine gsr ?_
        refine zal fun b11 => ?_
        refine zs1 ?_
        refine gnt ?_
        refine gc_seq ?_
        refine gc_seq ?_
        refine gc_conv (M := [LdR q g 400 0 (agR l l.length)]) (N := [exR fun d : DS => allR [pureR (LdOk d 400 0 (agR l l.length)), LedR q g (lsOf 0 (agR l l.length)), DiskR g d]]) (by repeat (first | exact Sel.nil | (apply Sel.cons; · (repeat (first | exact Pick.here | apply Pick.there))))) (fun _ _ h => h) ?_
        refine gc_exR (fun d => ?_)
        refine gc_conv (M := [allR [pureR (LdOk d 400 0 (agR l l.length)), LedR q g (lsOf 0 (agR l l.length)), DiskR g d]]) (N := [pureR (LdOk d 400 0 (agR l l.length)), LedR q g (lsOf 0 (agR l l.length)), DiskR g d]) (by repeat (first | exact Sel.nil | (apply Sel.cons; · (repeat (first | exact Pick.here | apply Pick.there))))) (fun _ _ => ld_all) ?_
        refine gc_pureR (fun hd0 => ?_)
        refine gc_region ?_
        refine gp zmv ?_
        refine zc (fun bx => ?_) (c := fun w1 F1 F2 h1 h2 hd hst => all_ok h1)
        refine gnt ?_
        refine gc_block ?_
        refine gc_pI (p := 0 ≤ so10 so) (Nat.zero_le _) ?_
        refine gc_range (own := [blk bx 59 [.pointer (some ⟨q, 0, none⟩)], LedR q g (lsOf 0 (agR l l.length))]) (fun i => [pureR (i ≤ so10 so), blk b11 3 [.int .i64 (i : Int)], blk b3 3 [.int .i64 ((so10 so : Nat) : Int)], blk b2 102 [.slice al l.length cl], blk b4 4 [.bool false]]) (fun i cd => [pureR (cd = Code.exit 2 ∧ i = so10 so ∧ i ≤ l.length), blk b11 3 [.int .i64 ((so10 so : Nat) : Int)], blk b3 3 [.int .i64 ((so10 so : Nat) : Int)], blk b2 102 [.slice al l.length cl], blk b4 4 [.bool false]]) (by exact rfl) Ty.call_105 (by repeat (first | exact Sel.nil | (apply Sel.cons; · (repeat (first | exact Pick.here | apply Pick.there))))) (by intros; rfl) (fun lp J Jx w1 F1 F2 h1 h2 hd hst => all1_it h1 (hE.mv hst.still) hok hln) ?_ ?_ ?_
        · intro lp rc rc' i y w1 F1 F2 h1 h2 hd hst
          try dsimp only [List.cons_append, List.nil_append, zipE]
          refine gc_pure1 (p := i < (agR l l.length).length ∧ y.length = 39 ∧ ∀ v ∈ y, v.oneCell' = true) (by repeat (first | exact Pick.here | apply Pick.there)) (fun hi => ?_)
          obtain ⟨hil, hl39, ho39⟩ := hi
          refine gc_pure1 (p := i ≤ so10 so) (by repeat (first | exact Pick.here | apply Pick.there)) (fun hI => ?_)
          rw [agR_len (Nat.le_refl _)] at hil
          obtain ⟨gx, ox, ce, op, ha, hA, _, hra, hl6, hop, hrd⟩ := (RdList.mv hx hst.still fun _ _ h => RdOp18.mv h hst.still : RdList (RdOp18 w1 (fun k => ¬ F1 k)) w1 (fun k => ¬ F1 k) 6 al l.length l).elem (i := i) (by decide) hil
          subst ha
          obtain ⟨oa, on, oc, rfl, _, _⟩ := hrd
          refine gc_conv (M := [VlR RdBlock y (blkAt (agR l l.length) i)]) (N := [exR fun s : {s : PSpot // y = psC s (smO op).b.round ∧ s.hd.length = 35} => PsR s.1 op.tx]) (by repeat (first | exact Sel.nil | (apply Sel.cons; · (repeat (first | exact Pick.here | apply Pick.there))))) (fun _ _ h => vl_ps (smO_pay op) (by rw [agR_blk hop] at h; exact h)) ?_
          refine gc_exR (fun ss => ?_)
          obtain ⟨s, rfl, hs35⟩ := ss
          have i39 := Len.of hl39
          have j39 := One.of (show ∀ v ∈ psC s (smO op).b.round, v.oneCell' = true from ho39)
          have hrl := rnd_lt op.round
          refine gsr ?_
          refine gp zas ?_
          refine gnt ?_
          refine gc_region ?_
          refine zal fun b13 => ?_
          refine gl_eqc (cs' := blkC) (by repeat (first | exact Pick.here | apply Pick.there)) (by kernel_rfl) ?_
          refine zsA hl39 ho39 ?_
          refine gl_nil ?_
          refine gx_lp (by repeat (first | exact Pick.here | apply Pick.there)) ?_
          refine gx_begin ?_
          refine gc_block ?_
          refine gc_seq ?_
          refine gsr ?_
          refine gp zl ?_
          refine gp zl ?_
          refine gp (r_bool (c := decide (i = so10 so)) zei (by rw [Bool.eq_iff_iff]; simp only [decide_eq_true_eq]; omega)) ?_
          refine gnt ?_
          refine gif rfl (fun hc68 => ?_) (fun hc68 => ?_)
          · try simp only at hc68
            have hi68 : i = so10 so := by simpa using hc68
            refine gc_exit ?_
            refine gx_then_exit ?_
            refine gx_block_miss rfl ?_
            refine gx_rde ?_
            exact fun w' hw => (St.pureI (p := Code.exit 2 = Code.exit 2 ∧ i = so10 so ∧ i ≤ l.length) ⟨rfl, hi68, by omega⟩ (hw.sel (M := [blk b11 3 [.int .i64 ((so10 so : Nat) : Int)], blk b3 3 [.int .i64 ((so10 so : Nat) : Int)], blk b2 _ _, blk b4 4 [.bool false], lpR lp rc']) (by rw [← hi68]; exact (by repeat (first | exact Sel.nil | (apply Sel.cons; · (repeat (first | exact Pick.here | apply Pick.there)))))))).sel (by repeat (first | exact Sel.nil | (apply Sel.cons; · (repeat (first | exact Pick.here | apply Pick.there)))))
          · try simp only at hc68
            have hi68 : ¬ i = so10 so := by simpa using hc68
            refine gc_skip ?_
            refine gx_then ?_
            refine gc_seq ?_
            refine gc_seq ?_
            refine gc_regionS (by kernel_rfl) (by kernel_rfl) ?_
            refine sp zmv ?_
            refine sp zl ?_
            refine sp (r_bool (c := false) zni (by simp)) ?_
            refine sp zmv ?_
            refine sq zfa ?_
            refine sq (zl (hv := psC_rnd s _)) ?_
            refine sq zl ?_
            refine sq zmv ?_
            refine sq (r_val (v' := .pointer (some ⟨gx, ox + i * 6, none⟩)) zia (by simp)) ?_
            refine sq zfa ?_
            refine sq (r_ld1o rfl Ty.row_3 (hra 1 _ rfl) hA) ?_
            refine sq zci ?_
            refine sq (r_int (j := (rndU op.round : Int)) zrm (rndU_eq _)) ?_
            refine sq (r_int (j := (rndU op.round : Int)) zci (wrap_i64 (by omega) (by omega))) ?_
            refine sq (r_bool (c := false) zni (by simp [smO_rnd])) ?_
            refine sp zpk ?_
            refine gs_nil ?_
            refine gx_then ?_
            refine gc_condF rfl rfl ?_
            refine gc_skip ?_
            refine gx_then ?_
            refine gsr ?_
            refine gp zfa ?_
            refine gp (zl (hv := psC_pay hs35)) ?_
            refine gp (r_val (v' := .pointer (some ⟨s.p1, s.p1o, none⟩)) zia (by simp)) ?_
            refine gp (r_psP (s := s) rfl Ty.row_86 (by repeat (first | exact Pick.here | apply Pick.there))) ?_
            refine gp (r_val (v' := .pointer (some ⟨s.p2, s.p2o, none⟩)) zia (by simp)) ?_
            refine gp (r_psB (s := s) rfl Ty.row_5 (by repeat (first | exact Pick.here | apply Pick.there))) ?_
            refine gp (r_val (r_add rfl rfl) (b8_up _)) ?_
            refine gp (r_val (v' := .pointer (some ⟨s.p2, s.p2o, none⟩)) zia (by simp)) ?_
            refine gl_psB (s := s) (wt0 rfl) rfl rfl Ty.sz_5 (by repeat (first | exact Pick.here | apply Pick.there)) ?_
            refine gnt ?_
            refine gc_region ?_
            refine gp zl ?_
            refine gp (r_int (j := ((i + 1 : Nat) : Int)) zad (by omega)) ?_
            refine zs1 ?_
            refine gl_nil ?_
            refine gx_block_normal ?_
            refine gx_rdn ?_
            exact fun w' hw => (St.pureI (p := i + 1 ≤ so10 so) (by omega) (hw.sel (M := [lpR lp rc', blk b11 3 [.int .i64 ((i + 1 : Nat) : Int)], blk b3 3 [.int .i64 ((so10 so : Nat) : Int)], blk b2 _ _, blk b4 4 [.bool false]]) (by repeat (first | exact Sel.nil | (apply Sel.cons; · (repeat (first | exact Pick.here | apply Pick.there))))))).sel (by repeat (first | exact Sel.nil | (apply Sel.cons; · (repeat (first | exact Pick.here | apply Pick.there)))))
        · intro bU21 y m hy
          try dsimp only [List.cons_append, List.nil_append]
          have hm : m = l.length := by have e := agR_len (l := l) (Nat.le_refl _); cases y <;> simp_all [allOr, lsOf]
          subst hm
          refine gx_pure1 (p := l.length ≤ so10 so) (by repeat (first | exact Pick.here | apply Pick.there)) (fun hI => ?_)
          refine gx_block_normal ?_
          refine gx_thenM ?_
          refine gc_seq ?_
          refine gsr ?_
          refine gp zmv ?_
          refine zc (fun bx2 => ?_) (c := fun w1 F1 F2 h1 h2 hd hst => all_ok h1)
          refine gnt ?_
          refine gc_block ?_
          refine gc_range (own := [blk bx2 59 [.pointer (some ⟨q, 0, none⟩)], LedR q g (lsOf 0 (agR l l.length))]) (fun i => [blk b11 3 [.int .i64 ((l.length : Nat) : Int)], blk b3 3 [.int .i64 ((so10 so : Nat) : Int)], blk b2 102 [.slice al l.length cl], blk b4 4 [.bool false]]) (fun _ _ => [pureR False]) (by exact rfl) Ty.call_105 (by repeat (first | exact Sel.nil | (apply Sel.cons; · (repeat (first | exact Pick.here | apply Pick.there))))) (by intros; rfl) (fun lp J Jx w1 F1 F2 h1 h2 hd hst => all1_it h1 (hE.mv hst.still) hok hln) ?_ ?_ ?_
          · intro lp rc rc' i y w1 F1 F2 h1 h2 hd hst
            try dsimp only [List.cons_append, List.nil_append, zipE]
            refine gc_pure1 (p := i < (agR l l.length).length ∧ y.length = 39 ∧ ∀ v ∈ y, v.oneCell' = true) (by repeat (first | exact Pick.here | apply Pick.there)) (fun hi => ?_)
            obtain ⟨hil, hl39, ho39⟩ := hi
            rw [agR_len (Nat.le_refl _)] at hil
            obtain ⟨gx, ox, ce, op, ha, hA, _, hra, hl6, hop, hrd⟩ := (RdList.mv hx hst.still fun _ _ h => RdOp18.mv h hst.still : RdList (RdOp18 w1 (fun k => ¬ F1 k)) w1 (fun k => ¬ F1 k) 6 al l.length l).elem (i := i) (by decide) hil
            subst ha
            obtain ⟨oa, on, oc, rfl, _, _⟩ := hrd
            refine gc_conv (M := [VlR RdBlock y (blkAt (agR l l.length) i)]) (N := [exR fun s : {s : PSpot // y = psC s (smO op).b.round ∧ s.hd.length = 35} => PsR s.1 op.tx]) (by repeat (first | exact Sel.nil | (apply Sel.cons; · (repeat (first | exact Pick.here | apply Pick.there))))) (fun _ _ h => vl_ps (smO_pay op) (by rw [agR_blk hop] at h; exact h)) ?_
            refine gc_exR (fun ss => ?_)
            obtain ⟨s, rfl, hs35⟩ := ss
            have i39 := Len.of hl39
            have j39 := One.of (show ∀ v ∈ psC s (smO op).b.round, v.oneCell' = true from ho39)
            have hrl := rnd_lt op.round
            refine gsr ?_
            refine gp zas ?_
            refine gnt ?_
            refine gc_region ?_
            refine zal fun b15 => ?_
            refine gl_eqc (cs' := blkC) (by repeat (first | exact Pick.here | apply Pick.there)) (by kernel_rfl) ?_
            refine zsA hl39 ho39 ?_
            refine gl_nil ?_
            refine gx_lp (by repeat (first | exact Pick.here | apply Pick.there)) ?_
            refine gx_begin ?_
            refine gc_block ?_
            refine gc_seq ?_
            refine gc_regionS (by kernel_rfl) (by kernel_rfl) ?_
            refine sp zfa ?_
            refine sp (zl (hv := psC_pay hs35)) ?_
            refine sp (r_val (v' := .pointer (some ⟨s.p1, s.p1o, none⟩)) zia (by simp)) ?_
            refine sp (r_psP (s := s) rfl Ty.row_86 (by repeat (first | exact Pick.here | apply Pick.there))) ?_
            refine sp (r_val (v' := .pointer (some ⟨s.p2, s.p2o, none⟩)) zia (by simp)) ?_
            refine sp (r_psB (s := s) rfl Ty.row_5 (by repeat (first | exact Pick.here | apply Pick.there))) ?_
            refine sp zl ?_
            refine sp zmv ?_
            refine sp (r_val (v' := .pointer (some ⟨gx, ox + i * 6, none⟩)) zia (by simp)) ?_
            refine sp zfa ?_
            refine sp (r_ld1o rfl Ty.row_5 (hra 4 _ rfl) hA) ?_
            refine sp (r_bool (c := false) zni (by simp)) ?_
            refine gs_nil ?_
            refine gx_then ?_
            refine gc_condF rfl rfl ?_
            refine gc_skip ?_
            refine gx_block_normal ?_
            refine gx_rdn ?_
            exact fun w' hw => hw.sel (by repeat (first | exact Sel.nil | (apply Sel.cons; · (repeat (first | exact Pick.here | apply Pick.there)))))
          · intro bU29 y m hy
            try dsimp only [List.cons_append, List.nil_append]
            have hm : m = l.length := by have e := agR_len (l := l) (Nat.le_refl _); cases y <;> simp_all [allOr, lsOf]
            subst hm
            refine gx_block_normal ?_
            refine gx_thenM ?_
            refine gsr ?_
            refine gp zmv ?_
            refine zc (fun _ => ?_) (c := fun w1 F1 F2 h1 h2 hd hst => get_none (i := -1) h1 (hE.mv hst.still) (.inl (by decide)))
            refine gp zmv ?_
            refine gp zex ?_
            refine gp zex ?_
            refine gp zex ?_
            refine zal fun b16 => ?_
            refine gl_eqc (cs' := blkC) (by repeat (first | exact Pick.here | apply Pick.there)) (by kernel_rfl) ?_
            refine zal fun b17 => ?_
            refine gl_eqc (cs' := qcC) (by repeat (first | exact Pick.here | apply Pick.there)) (by kernel_rfl) ?_
            refine zsA (rdBlock0 (w := w) (A := fun _ => True)).len (rdBlock0 (w := w) (A := fun _ => True)).one ?_
            refine zsA (rdQC0 (w := w) (A := fun _ => True)).len (rdQC0 (w := w) (A := fun _ => True)).one ?_
            refine gp zas ?_
            refine gnt ?_
            refine gsr ?_
            refine gp zl ?_
            refine gp zl ?_
            refine gp zl ?_
            refine gp zln ?_
            refine gp (r_val (v' := .int .i64 ((l.length : Nat) : Int)) r_min (by congr 1; split <;> omega)) ?_
            refine gp (r_bool (c := true) zei (by simp)) ?_
            refine gp zmv ?_
            refine gq zmv ?_
            refine zc (fun _ => ?_) (c := fun w1 F1 F2 h1 h2 hd hst => errNum_ok (n := 9) h1 (hN.mv hst.still) (by decide))
            refine gq (r_bool (c := true) zei (by simp)) ?_
            refine gp zpk ?_
            refine gp zmv ?_
            refine gq zmv ?_
            refine gq (zba (cs := dc dig0) (hf := by kernel_rfl)) ?_
            refine zc (fun _ => ?_) (c := fun w1 F1 F2 h1 h2 hd hst => find_ok (id := dig0) h1)
            refine gq zmv ?_
            refine zc (fun _ => ?_) (c := fun w1 F1 F2 h1 h2 hd hst => lenL_ok h1)
            refine gq (r_bool (c := true) zle (decide_eq_true (by have e := findL_le dig0 (lsOf 0 (agR l l.length)).rs 0; simpa using e))) ?_
            refine gp zpk ?_
            refine zs1 ?_
            refine gnt ?_
            refine gc_ret ?_
            refine gx_mark (by repeat (first | exact Pick.here | apply Pick.there)) ?_
            refine gx_mark (by repeat (first | exact Pick.here | apply Pick.there)) ?_
            refine gx_mark0 ?_
            refine gx_retc rfl rfl (ld_oneS Ty.row_4 (by repeat (first | exact Pick.here | apply Pick.there)) (by first | rfl | (simp only [List.getElem?_cons_succ, List.getElem?_cons_zero, List.cons_append, List.append_assoc, get_dc, get_L, Nat.reduceLeDiff, Nat.reduceSub, Nat.reduceAdd, Nat.le_refl]; rfl))) ?_
            exact ze ()
          · exact fun _ _ _ _ _ => gc_noway
        · intro bU21 y i cd hy
          try dsimp only [List.cons_append, List.nil_append]
          refine gc_pure1 (p := cd = Code.exit 2 ∧ i = so10 so ∧ i ≤ l.length) (by repeat (first | exact Pick.here | apply Pick.there)) (fun hX => ?_)
          obtain ⟨rfl, rfl, hI⟩ := hX
          refine gc_exit ?_
          refine gx_block_hit ?_
          refine gx_thenM ?_
          refine gc_seq ?_
          refine gsr ?_
          refine gp zmv ?_
          refine zc (fun bx2 => ?_) (c := fun w1 F1 F2 h1 h2 hd hst => all_ok h1)
          refine gnt ?_
          refine gc_block ?_
          refine gc_range (own := [blk bx2 59 [.pointer (some ⟨q, 0, none⟩)], LedR q g (lsOf 0 (agR l l.length))]) (fun i => [blk b11 3 [.int .i64 ((so10 so : Nat) : Int)], blk b3 3 [.int .i64 ((so10 so : Nat) : Int)], blk b2 102 [.slice al l.length cl], blk b4 4 [.bool false]]) (fun _ _ => [pureR False]) (by exact rfl) Ty.call_105 (by repeat (first | exact Sel.nil | (apply Sel.cons; · (repeat (first | exact Pick.here | apply Pick.there))))) (by intros; rfl) (fun lp J Jx w1 F1 F2 h1 h2 hd hst => all1_it h1 (hE.mv hst.still) hok hln) ?_ ?_ ?_
          · intro lp rc rc' i y w1 F1 F2 h1 h2 hd hst
            try dsimp only [List.cons_append, List.nil_append, zipE]
            refine gc_pure1 (p := i < (agR l l.length).length ∧ y.length = 39 ∧ ∀ v ∈ y, v.oneCell' = true) (by repeat (first | exact Pick.here | apply Pick.there)) (fun hi => ?_)
            obtain ⟨hil, hl39, ho39⟩ := hi
            rw [agR_len (Nat.le_refl _)] at hil
            obtain ⟨gx, ox, ce, op, ha, hA, _, hra, hl6, hop, hrd⟩ := (RdList.mv hx hst.still fun _ _ h => RdOp18.mv h hst.still : RdList (RdOp18 w1 (fun k => ¬ F1 k)) w1 (fun k => ¬ F1 k) 6 al l.length l).elem (i := i) (by decide) hil
            subst ha
            obtain ⟨oa, on, oc, rfl, _, _⟩ := hrd
            refine gc_conv (M := [VlR RdBlock y (blkAt (agR l l.length) i)]) (N := [exR fun s : {s : PSpot // y = psC s (smO op).b.round ∧ s.hd.length = 35} => PsR s.1 op.tx]) (by repeat (first | exact Sel.nil | (apply Sel.cons; · (repeat (first | exact Pick.here | apply Pick.there))))) (fun _ _ h => vl_ps (smO_pay op) (by rw [agR_blk hop] at h; exact h)) ?_
            refine gc_exR (fun ss => ?_)
            obtain ⟨s, rfl, hs35⟩ := ss
            have i39 := Len.of hl39
            have j39 := One.of (show ∀ v ∈ psC s (smO op).b.round, v.oneCell' = true from ho39)
            have hrl := rnd_lt op.round
            refine gsr ?_
            refine gp zas ?_
            refine gnt ?_
            refine gc_region ?_
            refine zal fun b15 => ?_
            refine gl_eqc (cs' := blkC) (by repeat (first | exact Pick.here | apply Pick.there)) (by kernel_rfl) ?_
            refine zsA hl39 ho39 ?_
            refine gl_nil ?_
            refine gx_lp (by repeat (first | exact Pick.here | apply Pick.there)) ?_
            refine gx_begin ?_
            refine gc_block ?_
            refine gc_seq ?_
            refine gc_regionS (by kernel_rfl) (by kernel_rfl) ?_
            refine sp zfa ?_
            refine sp (zl (hv := psC_pay hs35)) ?_
            refine sp (r_val (v' := .pointer (some ⟨s.p1, s.p1o, none⟩)) zia (by simp)) ?_
            refine sp (r_psP (s := s) rfl Ty.row_86 (by repeat (first | exact Pick.here | apply Pick.there))) ?_
            refine sp (r_val (v' := .pointer (some ⟨s.p2, s.p2o, none⟩)) zia (by simp)) ?_
            refine sp (r_psB (s := s) rfl Ty.row_5 (by repeat (first | exact Pick.here | apply Pick.there))) ?_
            refine sp zl ?_
            refine sp zmv ?_
            refine sp (r_val (v' := .pointer (some ⟨gx, ox + i * 6, none⟩)) zia (by simp)) ?_
            refine sp zfa ?_
            refine sp (r_ld1o rfl Ty.row_5 (hra 4 _ rfl) hA) ?_
            refine sp (r_bool (c := false) zni (by simp)) ?_
            refine gs_nil ?_
            refine gx_then ?_
            refine gc_condF rfl rfl ?_
            refine gc_skip ?_
            refine gx_block_normal ?_
            refine gx_rdn ?_
            exact fun w' hw => hw.sel (by repeat (first | exact Sel.nil | (apply Sel.cons; · (repeat (first | exact Pick.here | apply Pick.there)))))
          · intro bU29 y m hy
            try dsimp only [List.cons_append, List.nil_append]
            have hm : m = l.length := by have e := agR_len (l := l) (Nat.le_refl _); cases y <;> simp_all [allOr, lsOf]
            subst hm
            refine gx_block_normal ?_
            refine gx_thenM ?_
            refine gsr ?_
            refine gp zmv ?_
            refine zc (fun _ => ?_) (c := fun w1 F1 F2 h1 h2 hd hst => get_none (i := -1) h1 (hE.mv hst.still) (.inl (by decide)))
            refine gp zmv ?_
            refine gp zex ?_
            refine gp zex ?_
            refine gp zex ?_
            refine zal fun b16 => ?_
            refine gl_eqc (cs' := blkC) (by repeat (first | exact Pick.here | apply Pick.there)) (by kernel_rfl) ?_
            refine zal fun b17 => ?_
            refine gl_eqc (cs' := qcC) (by repeat (first | exact Pick.here | apply Pick.there)) (by kernel_rfl) ?_
            refine zsA (rdBlock0 (w := w) (A := fun _ => True)).len (rdBlock0 (w := w) (A := fun _ => True)).one ?_
            refine zsA (rdQC0 (w := w) (A := fun _ => True)).len (rdQC0 (w := w) (A := fun _ => True)).one ?_
            refine gp zas ?_
            refine gnt ?_
            refine gsr ?_
            refine gp zl ?_
            refine gp zl ?_
            refine gp zl ?_
            refine gp zln ?_
            refine gp (r_val (v' := .int .i64 ((so10 so : Nat) : Int)) r_min (by congr 1; split <;> omega)) ?_
            refine gp (r_bool (c := true) zei (by simp)) ?_
            refine gp zmv ?_
            refine gq zmv ?_
            refine zc (fun _ => ?_) (c := fun w1 F1 F2 h1 h2 hd hst => errNum_ok (n := 9) h1 (hN.mv hst.still) (by decide))
            refine gq (r_bool (c := true) zei (by simp)) ?_
            refine gp zpk ?_
            refine gp zmv ?_
            refine gq zmv ?_
            refine gq (zba (cs := dc dig0) (hf := by kernel_rfl)) ?_
            refine zc (fun _ => ?_) (c := fun w1 F1 F2 h1 h2 hd hst => find_ok (id := dig0) h1)
            refine gq zmv ?_
            refine zc (fun _ => ?_) (c := fun w1 F1 F2 h1 h2 hd hst => lenL_ok h1)
            refine gq (r_bool (c := true) zle (decide_eq_true (by have e := findL_le dig0 (lsOf 0 (agR l l.length)).rs 0; simpa using e))) ?_
            refine gp zpk ?_
            refine zs1 ?_
            refine gnt ?_
            refine gc_ret ?_
            refine gx_mark (by repeat (first | exact Pick.here | apply Pick.there)) ?_
            refine gx_mark (by repeat (first | exact Pick.here | apply Pick.there)) ?_
            refine gx_mark0 ?_
            refine gx_retc rfl rfl (ld_oneS Ty.row_4 (by repeat (first | exact Pick.here | apply Pick.there)) (by first | rfl | (simp only [List.getElem?_cons_succ, List.getElem?_cons_zero, List.cons_append, List.append_assoc, get_dc, get_L, Nat.reduceLeDiff, Nat.reduceSub, Nat.reduceAdd, Nat.le_refl]; rfl))) ?_
            exact ze ()
          · exact fun _ _ _ _ _ => gc_noway

end Go.Proofs.YtobjojeliibinaaGreatDoor

/- LedgerSome: for every input the law returns true, and the input reads as it did: the row and its card. -/
namespace Go.Proofs.YtobjojeliibinaaGreatDoor
open Go
open Go.ChangeShapes Go.WideShapes Go.ChangeAt Go.RowKit
set_option linter.unusedVariables false

/-- One world that fits: the settled one, the listed variables as their initialisers lay them. -/
noncomputable def ledgerSome_world (os : Os) : World :=
  let w0 := World.holding Tryz.prog os ⟨#[.cells #[.string ⟨#[113, 117, 111, 114, 97, 116, 101, 58, 32, 114, 97, 110, 103, 101]⟩] 365, .cells #[.string ⟨#[113, 117, 111, 114, 97, 116, 101, 58, 32, 115, 104, 111, 114, 116]⟩] 365, .cells #[.string ⟨#[113, 117, 111, 114, 97, 116, 101, 58, 32, 108, 111, 110, 103]⟩] 365, .cells #[.string ⟨#[113, 117, 111, 114, 97, 116, 101, 58, 32, 102, 111, 114, 109]⟩] 365, .cells #[.string ⟨#[113, 117, 111, 114, 97, 116, 101, 58, 32, 115, 112, 101, 110, 116]⟩] 365, .cells #[.string ⟨#[113, 117, 111, 114, 97, 116, 101, 58, 32, 112, 111, 119, 101, 114]⟩] 365, .cells #[.string ⟨#[113, 117, 111, 114, 97, 116, 101, 58, 32, 100, 105, 115, 107]⟩] 365, .cells #[.string ⟨#[113, 117, 111, 114, 97, 116, 101, 58, 32, 102, 117, 108, 108]⟩] 365, .cells #[.string ⟨#[113, 117, 111, 114, 97, 116, 101, 58, 32, 110, 111, 110, 101]⟩] 365, .cells #[.string ⟨#[113, 117, 111, 114, 97, 116, 101, 58, 32, 111, 108, 100]⟩] 365, .cells #[.string ⟨#[113, 117, 111, 114, 97, 116, 101, 58, 32, 115, 101, 116]⟩] 365, .cells #[.string ⟨#[113, 117, 111, 114, 97, 116, 101, 58, 32, 112, 114, 111, 111, 102]⟩] 365, .cells #[.string ⟨#[113, 117, 111, 114, 97, 116, 101, 58, 32, 108, 101, 97, 100, 101, 114]⟩] 365, .cells #[.string ⟨#[113, 117, 111, 114, 97, 116, 101, 58, 32, 114, 111, 117, 110, 100]⟩] 365, .cells #[.string ⟨#[113, 117, 111, 114, 97, 116, 101, 58, 32, 117, 110, 115, 97, 102, 101]⟩] 365, .cells #[.string ⟨#[113, 117, 111, 114, 97, 116, 101, 58, 32, 112, 97, 114, 101, 110, 116]⟩] 365, .cells #[.string ⟨#[113, 117, 111, 114, 97, 116, 101, 58, 32, 116, 119, 105, 99, 101]⟩] 365, .cells #[.string ⟨#[113, 117, 111, 114, 97, 116, 101, 58, 32, 101, 112, 111, 99, 104]⟩] 365], #[], []⟩
  { w0 with heap := ((((((((((((((((((w0.heap.modify 2 fun
      | .cells _ t fz => .cells #[.iface 340 (.pointer (some ⟨lowB + 0, 0, none⟩))] t fz
      | o => o).modify 3 fun
      | .cells _ t fz => .cells #[.iface 340 (.pointer (some ⟨lowB + 1, 0, none⟩))] t fz
      | o => o).modify 4 fun
      | .cells _ t fz => .cells #[.iface 340 (.pointer (some ⟨lowB + 2, 0, none⟩))] t fz
      | o => o).modify 0 fun
      | .cells _ t fz => .cells #[.iface 340 (.pointer (some ⟨lowB + 3, 0, none⟩))] t fz
      | o => o).modify 5 fun
      | .cells _ t fz => .cells #[.iface 340 (.pointer (some ⟨lowB + 4, 0, none⟩))] t fz
      | o => o).modify 6 fun
      | .cells _ t fz => .cells #[.iface 340 (.pointer (some ⟨lowB + 5, 0, none⟩))] t fz
      | o => o).modify 7 fun
      | .cells _ t fz => .cells #[.iface 340 (.pointer (some ⟨lowB + 6, 0, none⟩))] t fz
      | o => o).modify 8 fun
      | .cells _ t fz => .cells #[.iface 340 (.pointer (some ⟨lowB + 7, 0, none⟩))] t fz
      | o => o).modify 9 fun
      | .cells _ t fz => .cells #[.iface 340 (.pointer (some ⟨lowB + 8, 0, none⟩))] t fz
      | o => o).modify 10 fun
      | .cells _ t fz => .cells #[.iface 340 (.pointer (some ⟨lowB + 9, 0, none⟩))] t fz
      | o => o).modify 11 fun
      | .cells _ t fz => .cells #[.iface 340 (.pointer (some ⟨lowB + 10, 0, none⟩))] t fz
      | o => o).modify 1 fun
      | .cells _ t fz => .cells #[.iface 340 (.pointer (some ⟨lowB + 11, 0, none⟩))] t fz
      | o => o).modify 12 fun
      | .cells _ t fz => .cells #[.iface 340 (.pointer (some ⟨lowB + 12, 0, none⟩))] t fz
      | o => o).modify 13 fun
      | .cells _ t fz => .cells #[.iface 340 (.pointer (some ⟨lowB + 13, 0, none⟩))] t fz
      | o => o).modify 14 fun
      | .cells _ t fz => .cells #[.iface 340 (.pointer (some ⟨lowB + 14, 0, none⟩))] t fz
      | o => o).modify 15 fun
      | .cells _ t fz => .cells #[.iface 340 (.pointer (some ⟨lowB + 15, 0, none⟩))] t fz
      | o => o).modify 16 fun
      | .cells _ t fz => .cells #[.iface 340 (.pointer (some ⟨lowB + 16, 0, none⟩))] t fz
      | o => o).modify 17 fun
      | .cells _ t fz => .cells #[.iface 340 (.pointer (some ⟨lowB + 17, 0, none⟩))] t fz
      | o => o).modify 18 fun
      | .cells _ t fz => .cells (kc.map W32).toArray t fz
      | o => o }
def ledgerSome_args : Array Value := #[.slice none 0 0, .int .i64 0]
theorem ledgerSome_laid (os : Os) (args : Array Value) : laidMet Tryz.prog Rows.ledgerSomeRow.laid ((ledgerSome_world os).forCall (fun _ _ => 0) ⟨#[], args, []⟩).memory :=
  laidMet_of_run' 8 (by kernel_rfl) (by kernel_rfl)
theorem ledgerSome_reads (os : Os) {H : Type} (enc : TypeId × Value → H) : ∃ places, DataW.whole enc Tryz.prog ((ledgerSome_world os).forCall (fun _ _ => 0) ⟨#[], ledgerSome_args, []⟩).memory Tryz.f12.params.toList Rows.ledgerSomeSpec.vars false ledgerSome_args.toList 8 = some ([.nil, .lit (.int .i64 0)], [], places) :=
  ⟨[], by kernel_rfl⟩
set_option maxRecDepth 20000 in
theorem ledgerSome_contract (H : Type) (enc : TypeId × Value → H) (W : World) (base : Nat) (args : Array Value) (ds gs : List (DataW H)) (before : List MemPlace)
    (hval : ∀ (j : Nat) t v, Tryz.f12.params[j]? = some t → args[j]? = some v → Value.okWide Tryz.prog W .any base t v)
    (hW : DataW.Whole enc Tryz.prog Tryz.f12.params.toList Rows.ledgerSomeSpec.vars false W args.toList ds gs before) (hL : laidMetH Tryz.prog Rows.ledgerSomeRow.laid W) :
    Calls Tryz.prog 12 args W fun e W' => ∃ v, e = .returned v ∧ Rows.ledgerSomeSpec.post enc Tryz.prog Tryz.f12 false true false false W args v W' := by
  have hW' := hW
  have hlt : ∀ p ∈ before, p.block < W.heap.size := fun p hp => hW.lt p hp
  obtain ⟨p, q, hA0, hV, rfl, hfz, hnd⟩ := hW
  have hA : DataW.TrodAll enc Tryz.prog W 0 (fun _ => true) true Tryz.f12.params.toList args.toList ds p := hA0
  rw [Tryz.params12] at hA hval
  obtain ⟨v0, vs0, d0, ds0, p0, q0, hargs, rfl, rfl, h0, r0⟩ := trodAll_cons hA
  obtain ⟨v1, vs1, d1, ds1, p1, q1, rfl, rfl, rfl, h1, r1⟩ := trodAll_cons r0
  obtain ⟨rfl, rfl, rfl⟩ := trodAll_nil r1
  obtain rfl : args = #[v0, v1] := by cases args; simp_all
  obtain ⟨rfl, rfl⟩ := trodVars_none hV
  obtain ⟨a0, m0, c0, rfl⟩ := okWide_slice (run_sliceT Ty.sl_102) (hval 0 102 v0 rfl rfl)
  obtain ⟨x0, hx0⟩ : ∃ x, RdOps18 W TT [.slice a0 m0 c0] x := by obtain ⟨fuel, hf⟩ := h0; exact o_ops18 fuel _ _ hf
  obtain ⟨n1, rfl, _, _, wf1⟩ := open_int Ty.un_3 (hval 1 3 v1 rfl rfl) h1
  have hL' : laidMet Tryz.prog Rows.ledgerSomeRow.laid W := hL
  obtain ⟨ea, hN⟩ := laid_nerr (r := [("quorate/hash.constants", Rows.laid_quorate_hash_constants)]) (show laidMet Tryz.prog (errNames.map errRow ++ [("quorate/hash.constants", Rows.laid_quorate_hash_constants)]) W from hL')
  have hK := laid_kr hL'.tail.tail.tail.tail.tail.tail.tail.tail.tail.tail.tail.tail.tail.tail.tail.tail.tail.tail
  have walk := ledgerSome_ok (l := x0) (al := a0) (n := m0) (cl := c0) (so := n1) no_res hN hK (RdList.mv (ops18_list hx0) still_id fun _ _ h => h.mv still_id)
  refine Calls.mono (show Calls Tryz.prog 12 #[.slice a0 m0 c0, .int .i64 n1] W _ from walk) fun e W' ⟨_, he, hs⟩ => ?_
  subst he
  have bel := below_of hs
  have eF : Rows.ledgerSomeSpec.fn H ([d0, d1] ++ []) = { results := [.lit (.bool true)], args := [d0, d1] } := rfl
  have l0 : ∀ z ∈ p0, z.block < W.heap.size := fun z hz => hlt z (by simp [hz])
  have l1 : ∀ z ∈ p1, z.block < W.heap.size := fun z hz => hlt z (by simp [hz])
  refine ⟨_, rfl, _, _, _, [], p0 ++ (p1 ++ ([])), [], hW', ?_, ?_, ?_, bel.frame _, fun h => by cases h⟩
  · rw [eF]; exact trodAll_cons_mk (shut_bool Tryz.underlying4 _) trodAll_mk0
  · rw [eF, Tryz.params12]
    exact trodAll_cons_mk (Below.trod laidOut (by kernel_rfl) (of_decide_eq_true (by kernel_rfl)) h0 bel l0) (trodAll_cons_mk (Below.trod laidOut (by kernel_rfl) (of_decide_eq_true (by kernel_rfl)) h1 bel l1) (trodAll_mk0))
  · rw [eF]; rfl

set_option maxRecDepth 100000 in
theorem ledgerSome_lifted (os : Os) (started : os.Started) (H : Type) (enc : TypeId × Value → H) (F : Stop.Interp) :
    ReturnsInHanded {} Tryz.checked os 12 .any ((OpenSpec.ofChange Rows.ledgerSomeSpec).preRow enc Tryz.prog Tryz.f12 Rows.ledgerSomeRow.domain false Rows.ledgerSomeRow.laid) (((OpenSpec.ofChange Rows.ledgerSomeSpec).at F).post enc Tryz.prog Tryz.f12 false true false false) := by
  obtain ⟨places, hx⟩ := ledgerSome_reads os enc
  refine returnsInHanded_of_row (C := Tryz.checked) (s := OpenSpec.ofChange Rows.ledgerSomeSpec) own started (by kernel_rfl) Tryz.func12
    (witness_row_atRef (enc := enc) (C := Tryz.checked) false (ledgerSome_world os) ledgerSome_args rfl (by kernel_rfl) (by kernel_rfl) (by kernel_rfl)
      (OpenSpec.preRow_of_cond 8 hx (by kernel_rfl) (fun k hk => by cases hk) (by kernel_rfl) (ledgerSome_laid os _))) ?_
  intro W base args ds gs before hval hW _ _ _ hL _ _
  exact ledgerSome_contract H enc W base args ds gs before hval hW hL

theorem and_tt {a b : Bool} (h : a = true) (k : b = true) : (a && b) = true := by rw [h, k]; rfl
theorem ledgerSome_k0 : (Rows.ledgerSomeRow.wf (OpenSpec.ofChange (OpenSpec.ofChange Rows.ledgerSomeSpec).bare)) = true := by kernel_rfl
theorem ledgerSome_k1 : (laidOutB Tryz.pinned.checked.prog) = true := by kernel_rfl
theorem ledgerSome_k2 : (mapsRowed Tryz.pinned.checked.prog) = true := by kernel_rfl
theorem ledgerSome_k3 : (Tryz.f12.params.all (Tryz.pinned.checked.prog.readableRec ·)) = true := by kernel_rfl
theorem ledgerSome_k4 : (namedTie Tryz.pinned.checked.prog Rows.ledgerSomeRow.named (OpenSpec.ofChange Rows.ledgerSomeSpec).bare.vars) = true := by kernel_rfl
theorem ledgerSome_k5 : ((Rows.ledgerSomeRow.stops == [])) = true := by kernel_rfl
theorem ledgerSome_k6 : ((Tryz.pinned.checked.prog.stops == [])) = true := by kernel_rfl
theorem ledgerSome_k7 : ((Rows.ledgerSomeRow.knobs == [])) = true := by kernel_rfl
theorem ledgerSome_k8 : ((Tryz.pinned.checked.prog.stopKnobs == [])) = true := by kernel_rfl
theorem ledgerSome_k9 : ((Rows.ledgerSomeRow.inPlace == Tryz.pinned.checked.prog.inPlace 12)) = true := by kernel_rfl
theorem ledgerSome_k10 : ((Rows.ledgerSomeRow.unfollowed == Tryz.pinned.checked.prog.unfollowed 12)) = true := by kernel_rfl
theorem ledgerSome_k11 : ((Rows.ledgerSomeRow.recurses == Tryz.pinned.checked.prog.recurses 12)) = true := by kernel_rfl
theorem ledgerSome_k12 : ((Rows.ledgerSomeRow.named == Tryz.pinned.checked.prog.varsNamed 12)) = true := by kernel_rfl
theorem ledgerSome_k13 : ((Rows.ledgerSomeRow.maps == (Tryz.f12.params.toList ++ (OpenSpec.ofChange Rows.ledgerSomeSpec).bare.plain.varTypes Tryz.pinned.checked.prog).any (Tryz.pinned.checked.prog.mapsRec ·))) = true := by kernel_rfl
theorem ledgerSome_k14 : ((Rows.ledgerSomeRow.ifaces == (Tryz.f12.params.toList ++ (OpenSpec.ofChange Rows.ledgerSomeSpec).bare.plain.varTypes Tryz.pinned.checked.prog).any (Tryz.pinned.checked.prog.ifacesRec ·))) = true := by kernel_rfl
theorem ledgerSome_k15 : ((Rows.ledgerSomeRow.mapsOut == Tryz.pinned.checked.prog.mapsAmong Tryz.f12.resultTypes.toList)) = true := by kernel_rfl
theorem ledgerSome_k16 : ((Rows.ledgerSomeRow.loops == (Tryz.f12.params.toList ++ (OpenSpec.ofChange Rows.ledgerSomeSpec).bare.plain.varTypes Tryz.pinned.checked.prog).any (Tryz.pinned.checked.prog.loopsFrom ·))) = true := by kernel_rfl
theorem ledgerSome_k17 : ((Rows.ledgerSomeRow.wideKeys == (Tryz.f12.params.toList ++ (OpenSpec.ofChange Rows.ledgerSomeSpec).bare.plain.varTypes Tryz.pinned.checked.prog ++ Tryz.f12.resultTypes.toList).any (Tryz.pinned.checked.prog.wideKeysFrom ·))) = true := by kernel_rfl
theorem ledgerSome_k18 : ((OpenSpec.ofChange Rows.ledgerSomeSpec).bare.vars.all (Tryz.pinned.checked.prog.varReadable ·)) = true := by kernel_rfl
theorem ledgerSome_k19 : (Tryz.f12.resultTypes.all (fun t => Tryz.pinned.checked.prog.readableRec t && decide (t < Tryz.pinned.checked.prog.types.size))) = true := by kernel_rfl
theorem ledgerSome_k20 : ((Rows.ledgerSomeRow.ifacesOut == Tryz.f12.resultTypes.toList.any (Tryz.pinned.checked.prog.ifacesRec ·))) = true := by kernel_rfl
theorem ledgerSome_k21 : ((Rows.ledgerSomeRow.loopsOut == Tryz.f12.resultTypes.toList.any (Tryz.pinned.checked.prog.loopsFrom ·))) = true := by kernel_rfl
theorem ledgerSome_k22 : ((Rows.ledgerSomeRow.plainKeys == Tryz.pinned.checked.prog.plainKeys)) = true := by kernel_rfl
theorem ledgerSome_k23 : (Rows.ledgerSomeRow.shortTexts.isNone) = true := by kernel_rfl
theorem ledgerSome_k24 : (Tryz.pinned.checked.prog.stopsHeard) = true := by kernel_rfl
theorem ledgerSome_k25 : (Tryz.pinned.checked.prog.mayEnter) = true := by kernel_rfl
theorem ledgerSome_k26 : ((Rows.ledgerSomeRow.lifted == Tryz.pinned.checked.prog.liftsFinal)) = true := by kernel_rfl
theorem ledgerSome_k27 : ((Tryz.pinned.checked.prog.make == some Rows.ledgerSomeRow.make)) = true := by kernel_rfl
theorem ledgerSome_k28 : ((Rows.ledgerSomeRow.kinds == (if Rows.ledgerSomeRow.domain.isEmpty then [] else Tryz.f12.params.toList.map fun t => match Tryz.pinned.checked.prog.underlying t with | some (.int k) => some k | _ => none))) = true := by kernel_rfl
theorem ledgerSome_k29 : ((Rows.ledgerSomeRow.pinned == Rows.ledgerSomeRow.pinnedBy)) = true := by kernel_rfl
theorem ledgerSome_k30 : ((Rows.ledgerSomeRow.veiled == (Tryz.f12.params.toList ++ (OpenSpec.ofChange Rows.ledgerSomeSpec).bare.plain.varTypes Tryz.pinned.checked.prog ++ Tryz.f12.resultTypes.toList).any (Tryz.pinned.checked.prog.veiledRec ·))) = true := by kernel_rfl
theorem ledgerSome_k31 : (Rows.ledgerSomeRow.veiledFits Tryz.pinned.checked.prog Tryz.f12.params.toList (Tryz.f12.params.toList ++ (OpenSpec.ofChange Rows.ledgerSomeSpec).bare.plain.varTypes Tryz.pinned.checked.prog ++ Tryz.f12.resultTypes.toList)) = true := by kernel_rfl
set_option maxRecDepth 100000 in
theorem ledgerSome_facts : joinedFacts Tryz.pinned.checked.prog 12 Tryz.f12 (OpenSpec.ofChange Rows.ledgerSomeSpec).bare Rows.ledgerSomeRow = true := (and_tt (and_tt (and_tt (and_tt (and_tt (and_tt (and_tt (and_tt (and_tt (and_tt (and_tt (and_tt (and_tt (and_tt (and_tt (and_tt (and_tt (and_tt (and_tt (and_tt (and_tt (and_tt (and_tt (and_tt (and_tt (and_tt (and_tt (and_tt (and_tt (and_tt (and_tt ledgerSome_k0 ledgerSome_k1) ledgerSome_k2) ledgerSome_k3) ledgerSome_k4) ledgerSome_k5) ledgerSome_k6) ledgerSome_k7) ledgerSome_k8) ledgerSome_k9) ledgerSome_k10) ledgerSome_k11) ledgerSome_k12) ledgerSome_k13) ledgerSome_k14) ledgerSome_k15) ledgerSome_k16) ledgerSome_k17) ledgerSome_k18) ledgerSome_k19) ledgerSome_k20) ledgerSome_k21) ledgerSome_k22) ledgerSome_k23) ledgerSome_k24) ledgerSome_k25) ledgerSome_k26) ledgerSome_k27) ledgerSome_k28) ledgerSome_k29) ledgerSome_k30) ledgerSome_k31)
theorem ledgerSome_said : Rows.LedgerSomeSaid :=
  OpenClaim.holds_of_cond 12 Tryz.f12 rfl rfl rfl rfl rfl rfl rfl ⟨rfl, rfl, rfl, rfl, rfl⟩ rfl rfl rfl rfl rfl (by kernel_rfl) Tryz.func12 ledgerSome_facts
    (of_decide_eq_true (by kernel_rfl)) (by unfold Func.isWrapper; first | (rw [if_pos (by decide +kernel)]; kernel_rfl) | (rw [if_neg (by decide +kernel)]; exact ⟨rfl, rfl⟩))
    (fun os started H enc _ F => by rw [OpenClaim.pre_eq_preRow]; exact ledgerSome_lifted os started H enc F)
theorem ledgerSome_plain (f : FuncId) (fn : Func) (hf : Tryz.pinned.checked.prog.funcNamed "quorate/quoratelaw18.LedgerSome" = some f) (hfn : Tryz.pinned.checked.prog.funcs[f]? = some fn) :
    true = Tryz.pinned.checked.prog.looks [] ∧ ∀ (j : Nat) t, fn.params[j]? = some t → Tryz.pinned.checked.prog.wantsStandIn t = false := by
  obtain rfl : f = 12 := Option.some.inj ((show Tryz.prog.funcNamed "quorate/quoratelaw18.LedgerSome" = some 12 by kernel_rfl).symm.trans hf) |>.symm
  obtain rfl : fn = Tryz.f12 := (Option.some.inj (Tryz.func12.symm.trans hfn)).symm
  refine ⟨by kernel_rfl, fun j t ht => ?_⟩
  rw [Tryz.params12] at ht
  have hm := Array.mem_of_getElem? ht
  have h : t = 102 ∨ t = 3 := by simpa using hm
  rcases h with rfl | rfl
  · exact (show Tryz.prog.wantsStandIn 102 = false by kernel_rfl)
  · exact (show Tryz.prog.wantsStandIn 3 = false by kernel_rfl)
theorem ledgerSome_holds : Rows.LedgerSomeCardSaid :=
  Claim7.holds_tied_plain_at .later [] _ _ _ _ ledgerSome_said (fun _ h => by cases h) (by kernel_rfl) (fun _ h => by cases h) ledgerSome_row_tie rfl ⟨rfl, rfl⟩ (by kernel_rfl) rfl ledgerSome_plain (by kernel_rfl)
#print axioms ledgerSome_holds
end Go.Proofs.YtobjojeliibinaaGreatDoor

