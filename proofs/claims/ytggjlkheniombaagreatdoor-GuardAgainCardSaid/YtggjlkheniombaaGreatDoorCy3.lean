/- Part 3. What is proved: see the last part: for every input the law returns true, and the input reads as it did. -/
import Derived.Test.YtggjlkheniombaaGreatDoorCy2
import Derived.RangeFuncLeaves
import Derived.RangeFuncRecord
import Derived.RangeFuncSeq
namespace Go.Proofs.YtggjlkheniombaaGreatDoor
open Go
set_option linter.unusedVariables false
set_option linter.unusedSimpArgs false
set_option linter.unusedSectionVars false
set_option maxHeartbeats 400000
section
structure SL where
  base : Int
  count : Nat
  rec' : List UInt8
def DS.right (d : DS) (b : Int) : Bool := decide (0 ≤ b) && decide (b < (d.n : Int) - 1)
theorem right_iff {d : DS} {b : Int} : d.right b = true ↔ 0 ≤ b ∧ b < (d.n : Int) - 1 := by simp [DS.right]
def fmt (d : DS) (b : Int) : Nat × DS :=
  if d.right b = true then
    if (d.wr b (slotS 0 [])).1 = 0 then
      if ((d.wr b (slotS 0 [])).2.wr (b + 1) sec0).1 = 0 then (if (oper ((d.wr b (slotS 0 [])).2.wr (b + 1) sec0).2).off = true then 6 else 0, ((d.wr b (slotS 0 [])).2.wr (b + 1) sec0).2.syncd)
      else (d.wr b (slotS 0 [])).2.wr (b + 1) sec0
    else d.wr b (slotS 0 [])
  else (1, d)
def better (o : Option SL) (b : Int) : Option (Nat × List UInt8) → Option SL
  | none => o
  | some x => match o with
    | none => some ⟨b, x.1, x.2⟩
    | some s => if s.count < x.1 then some ⟨b, x.1, x.2⟩ else some s
def opnAt (d : DS) (b : Int) : Nat → Option SL
  | 0 => none
  | p + 1 => better (opnAt d b p) b (rdSlot (d.at (b + (p : Int)).toNat) p)
def opn (d : DS) (b : Int) : Option SL := opnAt d b 2
theorem opn_skip {d : DS} {b : Int} {p : Nat} {o : Option SL} (ho : opnAt d b p = o) (h : rdSlot (d.at (b + (p : Int)).toNat) p = none) : opnAt d b (p + 1) = o := by rw [opnAt, h, ho]; rfl
theorem opn_new {d : DS} {b : Int} {p c : Nat} {r : List UInt8} (ho : opnAt d b p = none) (h : rdSlot (d.at (b + (p : Int)).toNat) p = some (c, r)) : opnAt d b (p + 1) = some ⟨b, c, r⟩ := by rw [opnAt, h, ho]; rfl
theorem opn_more {d : DS} {b : Int} {p c : Nat} {r : List UInt8} {s : SL} (ho : opnAt d b p = some s) (h : rdSlot (d.at (b + (p : Int)).toNat) p = some (c, r)) (hc : s.count < c) : opnAt d b (p + 1) = some ⟨b, c, r⟩ := by rw [opnAt, h, ho]; simp only [better, if_pos hc]
theorem opn_less {d : DS} {b : Int} {p c : Nat} {r : List UInt8} {s : SL} (ho : opnAt d b p = some s) (h : rdSlot (d.at (b + (p : Int)).toNat) p = some (c, r)) (hc : ¬ s.count < c) : opnAt d b (p + 1) = some s := by rw [opnAt, h, ho]; simp only [better, if_neg hc]
def put (d : DS) (s : SL) (r : List UInt8) : Nat × DS × SL :=
  if 31 < r.length then (1, d, s) else
  if s.count = 9223372036854775807 then (8, d, s) else
  if (d.wr (s.base + (((s.count + 1) % 2 : Nat) : Int)) (slotS ((s.count + 1 : Nat) : Int) r)).1 = 0 then
    if (oper (d.wr (s.base + (((s.count + 1) % 2 : Nat) : Int)) (slotS ((s.count + 1 : Nat) : Int) r)).2).off = true then (6, (d.wr (s.base + (((s.count + 1) % 2 : Nat) : Int)) (slotS ((s.count + 1 : Nat) : Int) r)).2.syncd, s)
    else (0, (d.wr (s.base + (((s.count + 1) % 2 : Nat) : Int)) (slotS ((s.count + 1 : Nat) : Int) r)).2.syncd, ⟨s.base, s.count + 1, r⟩)
  else ((d.wr (s.base + (((s.count + 1) % 2 : Nat) : Int)) (slotS ((s.count + 1 : Nat) : Int) r)).1, (d.wr (s.base + (((s.count + 1) % 2 : Nat) : Int)) (slotS ((s.count + 1 : Nat) : Int) r)).2, s)
def dZ (f : Nat → Sec) : DS := ⟨2, f, [], false, false, 0⟩
theorem dZ_ok (f : Nat → Sec) : DOk (dZ f) := ⟨show 2 ≤ 4096 by decide, by simp [dZ, keysW], by simp [dZ, keysW], (fun h => by cases h), show (-9223372036854775808 : Int) ≤ 0 ∧ (0 : Int) ≤ 9223372036854775807 by decide⟩
theorem dZ_sync {f : Nat → Sec} {k : Nat} {v : Sec} : ((dZ f).write k v).syncd = dZ (updS f k v) := by
  rw [syncd_calm rfl rfl]
  simp only [DS.sync, DS.write, dZ, putW, DS.mk.injEq, true_and, and_true]
  funext i
  simp only [DS.at, lookW, updS]
  by_cases h : i = k
  · subst h; simp
  · rw [if_neg (by omega), if_neg h]; rfl
theorem dZ_wr {f : Nat → Sec} {k : Nat} {v : Sec} (h : k < 2) : (dZ f).wr k v = (0, (dZ f).write k v) := wr_calm rfl rfl (has_iff.2 ⟨by omega, by show (k : Int) < (2 : Nat); omega⟩)
def fmtF (f : Nat → Sec) : Nat → Sec := updS (updS f 0 (slotS 0 [])) 1 sec0
theorem fmt_Z (f : Nat → Sec) : fmt (dZ f) 0 = (0, dZ (fmtF f)) := by
  have h0 : (dZ f).right 0 = true := rfl
  have h1 : (dZ f).wr 0 (slotS 0 []) = (0, (dZ f).write 0 (slotS 0 [])) := wr_calm rfl rfl rfl
  have h2 : ((dZ f).write 0 (slotS 0 [])).wr (0 + 1) sec0 = (0, ((dZ f).write 0 (slotS 0 [])).write 1 sec0) := wr_calm rfl rfl rfl
  rw [fmt, if_pos h0, h1, if_pos rfl]
  simp only [h2, if_true]
  rw [oper_calm rfl, syncd_calm rfl rfl]
  have e : (((dZ f).write 0 (slotS 0 [])).write 1 sec0).sync = dZ (fmtF f) := by
    simp only [DS.sync, DS.write, dZ, DS.mk.injEq, true_and, and_true]
    funext i
    simp only [DS.at, putW, lookW, fmtF, updS, show ¬ (1 : Int) = 0 by decide, if_false]
    by_cases h0 : i = 0
    · subst h0; rfl
    · by_cases h1 : i = 1
      · subst h1; rfl
      · rw [if_neg (by omega), if_neg (by omega), if_neg h1, if_neg h0]; rfl
  rw [e]; rfl
theorem crash_Z (f : Nat → Sec) (kb : List Bool) : (dZ f).crash kb = dZ f := by rw [crash_idle rfl]; rfl
structure Calm2 (d : DS) : Prop where
  ok : DOk d
  n : d.n = 2
  armed : d.armed = false
  off : d.off = false
theorem put_Z {f : Nat → Sec} {c : Nat} {q r : List UInt8} (hc : c < 9223372036854775807) (hr : r.length ≤ 31) : put (dZ f) ⟨0, c, q⟩ r = (0, dZ (updS f ((c + 1) % 2) (slotS ((c + 1 : Nat) : Int) r)), ⟨0, c + 1, r⟩) := by
  have hk : (c + 1) % 2 < 2 := Nat.mod_lt _ (by decide)
  have hw := dZ_wr (f := f) (v := slotS ((c + 1 : Nat) : Int) r) hk
  rw [put, if_neg (by omega), if_neg (by simp only; omega)]
  simp only [Int.zero_add, hw, if_true]
  rw [oper_calm rfl, if_neg (by show ¬ false = true; decide), dZ_sync]
structure GoodAt (f : Nat → Sec) (c : Nat) (r : List UInt8) : Prop where
  cl : c < 9223372036854775808
  rl : r.length ≤ 31
  me : f (c % 2) = slotS (c : Int) r
  it : ∀ x, rdSlot (f ((c + 1) % 2)) ((c + 1) % 2) = some x → x.1 < c
theorem opn_good {d : DS} {c : Nat} {r : List UInt8} (h : GoodAt d.at c r) : opn d 0 = some ⟨0, c, r⟩ := by
  have h1 := rd_slot (r := r) h.cl h.rl
  rw [← h.me] at h1
  have hit := h.it
  show better (better none 0 (rdSlot (d.at ((0 : Int) + ((0 : Nat) : Int)).toNat) 0)) 0 (rdSlot (d.at ((0 : Int) + ((1 : Nat) : Int)).toNat) 1) = _
  rw [show ((0 : Int) + ((0 : Nat) : Int)).toNat = 0 from rfl, show ((0 : Int) + ((1 : Nat) : Int)).toNat = 1 from rfl]
  rcases (show c % 2 = 0 ∨ c % 2 = 1 by omega) with e | e
  · have e2 : (c + 1) % 2 = 1 := by omega
    rw [e] at h1
    rw [e2] at hit
    rw [h1]
    cases hx : rdSlot (d.at 1) 1 with
    | none => rfl
    | some x =>
      have := hit x hx
      simp only [better]
      rw [if_neg (by omega)]
  · have e2 : (c + 1) % 2 = 0 := by omega
    rw [e] at h1
    rw [e2] at hit
    rw [h1]
    cases hx : rdSlot (d.at 0) 0 with
    | none => rfl
    | some x =>
      have := hit x hx
      simp only [better]
      rw [if_pos this]
theorem good_put {f : Nat → Sec} {c : Nat} {q r : List UInt8} (h : GoodAt f c q) (hc : c + 1 < 9223372036854775808) (hr : r.length ≤ 31) : GoodAt (updS f ((c + 1) % 2) (slotS ((c + 1 : Nat) : Int) r)) (c + 1) r := by
  refine ⟨hc, hr, by rw [updS, if_pos rfl], fun x hx => ?_⟩
  have e : (c + 1 + 1) % 2 = c % 2 := by omega
  rw [e, updS, if_neg (by omega), h.me, rd_slot h.cl h.rl] at hx
  cases hx
  exact Nat.lt_succ_self _
theorem good_fmt (f : Nat → Sec) : GoodAt (fmtF f) 0 [] := ⟨by decide, by decide, rfl, fun x hx => (by rw [show fmtF f ((0 + 1) % 2) = sec0 from rfl, show (0 + 1) % 2 = 1 from rfl, rd_zero1] at hx; cases hx)⟩
end
section
def SlR (g gd : Nat) (s : SL) : Res := exR fun p : Option Addr × Nat => allR [blk g 102 [.pointer (some ⟨gd, 0, none⟩), .int .i64 s.base, .int .i64 (s.count : Int), .slice p.1 s.rec'.length p.2], rowR 5 1 p.1 s.rec'.length p.2 (s.rec'.map B8)]
def OutR (g : Option Nat) (gd : Nat) (o : Option SL) : Res := match g, o with
  | none, none => pureR True
  | some g, some s => SlR g gd s
  | _, _ => pureR False
section
variable {w0 w : World} {F F0 : Nat → Prop} {g gd : Nat} {s : SL} {L : List Res} {Q : Exit → Act → World → Prop} {n : Fm} {env : Env} {ops : Array Oper} {rest : List Oper}
theorem sl_open (h : stars (SlR g gd s :: L) w F) : ∃ a c, stars (blk g 102 [.pointer (some ⟨gd, 0, none⟩), .int .i64 s.base, .int .i64 (s.count : Int), .slice a s.rec'.length c] :: rowR 5 1 a s.rec'.length c (s.rec'.map B8) :: L) w F := by
  obtain ⟨⟨a, c⟩, h⟩ := stars_ex h
  exact ⟨a, c, stars_all h⟩
theorem St.sl {a : Option Addr} {m c : Nat} {base count : Int} {xs : List Value} (h : St w0 F0 (blk g 102 [.pointer (some ⟨gd, 0, none⟩), .int .i64 base, .int .i64 count, .slice a m c] :: rowR 5 1 a m c xs :: L) w)
    (h1 : base = s.base) (h2 : count = (s.count : Int)) (h3 : m = s.rec'.length) (h4 : xs = s.rec'.map B8) : St w0 F0 (SlR g gd s :: L) w := by
  subst h1; subst h2; subst h3; subst h4
  obtain ⟨F, hF, hst⟩ := h
  exact ⟨F, stars_ex_mk (a, c) (stars_all_mk hF), hst⟩
theorem gc_sl {k : Code} {L' : List Res} (hp : Pick L (SlR g gd s) L') (K : ∀ a c, Gc Tryz.prog w0 F0 (blk g 102 [.pointer (some ⟨gd, 0, none⟩), .int .i64 s.base, .int .i64 (s.count : Int), .slice a s.rec'.length c] :: rowR 5 1 a s.rec'.length c (s.rec'.map B8) :: L') k Q n env) : Gc Tryz.prog w0 F0 L k Q n env := fun w hw => by
  obtain ⟨F, hF, hst⟩ := hw.pick hp
  obtain ⟨a, c, h⟩ := sl_open hF
  exact K a c w ⟨F, h, hst⟩
theorem gc_out0 {k : Code} {o : Option SL} {L' : List Res} (hp : Pick L (OutR none gd o) L') (K : o = none → Gc Tryz.prog w0 F0 L' k Q n env) : Gc Tryz.prog w0 F0 L k Q n env := fun w hw => by
  obtain ⟨F, hF, hst⟩ := hw.pick hp
  cases o with
  | none => exact K rfl w ⟨F, (stars_pure hF).2, hst⟩
  | some s => exact (stars_pure hF).1.elim
theorem gc_out1 {k : Code} {o : Option SL} {L' : List Res} (hp : Pick L (OutR (some g) gd o) L') (K : ∀ s, o = some s → Gc Tryz.prog w0 F0 (SlR g gd s :: L') k Q n env) : Gc Tryz.prog w0 F0 L k Q n env := fun w hw => by
  obtain ⟨F, hF, hst⟩ := hw.pick hp
  cases o with
  | none => exact (stars_pure hF).1.elim
  | some s => exact K s rfl w ⟨F, hF, hst⟩
theorem St.out0 {o : Option SL} (e : o = none) (h : St w0 F0 L w) : St w0 F0 (OutR none gd o :: L) w := by
  subst e
  obtain ⟨F, hF, hst⟩ := h
  exact ⟨F, stars_pure_mk trivial hF, hst⟩
theorem St.out1 {o : Option SL} (e : o = some s) (h : St w0 F0 (SlR g gd s :: L) w) : St w0 F0 (OutR (some g) gd o :: L) w := by
  subst e; exact h
end
attribute [local irreducible] Gl Gc Gx Gs Runs Wt
theorem format_ok {w : World} {F : Nat → Prop} {g : Nat} {d : DS} (h : stars [DiskR g d] w F) (hk : DOk d) {ea : Nat → Addr} {es : List Nat} [Has es 1] [Has es 6] [Has es 7] [Has es 8] (hE : GErr es w (fun k => ¬ F k) 241 ea) (hK : KR w (fun k => ¬ F k)) {b : Int} :
    Calls Tryz.prog 13 #[.pointer (some ⟨g, 0, none⟩), .int .i64 b] w (Post w F (fun q : Nat => .tuple #[.pointer (if (fmt d b).1 = 0 then some ⟨q, 0, none⟩ else none), eV 241 ea (fmt d b).1]) (fun q => if (fmt d b).1 = 0 then [SlR q g ⟨b, 0, []⟩, DiskR g (fmt d b).2] else [DiskR g (fmt d b).2])) := by
 have hn4 := hk.n
 refine g_enter (env := [(0, .pointer (some ⟨g, 0, none⟩)), (1, .int .i64 b)]) Tryz.func13 rfl h Tryz.ntmps13 rfl rfl ?_; refine gsr (zxa ?_); refine zxa ?_; refine gnt (gc_seq (gsr (zxm ?_))); refine zxm ?_; refine zc (fun _ => ?_) (c := fun w1 F1 F2 h1 h2 hd hst => slright_ok (i := b) h1 hk)
 rw [show (decide (0 ≤ b) && decide (b < (d.n : Int) - 1)) = d.right b from rfl]; refine gp znt ?_; refine gnt (gif rfl (fun hc12 => ?_) (fun hc12 => ?_))
 ·try simp only at hc12
  have hr : d.right b = false := hc12
  have e : fmt d b = (1, d) := by rw [fmt, if_neg (by rw [hr]; decide)]
  refine gc_seq (gc_regionS (by kernel_rfl) (by kernel_rfl) ?_); refine sp (r_ld1o rfl Ty.row_26 (hE.c 1 Has.h) (hE.n 1 Has.h)) ?_; refine sp zas ?_; refine sp zas ?_; refine gs_nil ?_; refine gx_then (gc_ret (gx_then_ret (gx_ret2 rfl (by conv => lhs; whnf) (by conv => lhs; whnf) ?_))); exact fun w' hw => ⟨0, by rw [e]; rfl, by simp only [e, if_neg (show ¬ (1 : Nat) = 0 by decide)]; exact hw.z⟩
 ·try simp only at hc12
  have hr : d.right b = true := hc12
  obtain ⟨hb0, hb1⟩ := right_iff.1 hr; obtain ⟨w1, hw1⟩ : ∃ w1, w1 = d.wr b (slotS 0 []) := ⟨_, rfl⟩; have hk1 : DOk w1.2 := by rw [hw1]; exact wr_ok hk
  refine gc_skip (gx_then (gc_seq (gsr (zxm ?_)))); refine zxm ?_; refine zc (fun _ => ?_) (c := fun w1 F1 F2 h1 h2 hd hst => slot_ok (c := 0) (r := []) h1 (hK.mv hst.still) RdRow.nil (Nat.le_refl 0))
  refine zc (fun _ => ?_) (c := fun w1 F1 F2 h1 h2 hd hst => write_ok' (i := b) (v := slotS 0 []) h1 hk (hE.mv hst.still))
  rw [← hw1]; refine zxa ?_; refine zxs ?_; refine zxm ?_; refine gp (r_bool (c := decide (¬ w1.1 = 0)) (r_nenil rfl (by kernel_rfl)) (by simp)) ?_; refine gnt (gif rfl (fun hc19 => ?_) (fun hc19 => ?_))
  ·try simp only at hc19
   have e : fmt d b = w1 := by rw [fmt, if_pos hr, ← hw1, if_neg hc19]
   refine gsr (zxm ?_); refine zxa ?_; refine zxa ?_; refine gnt (gc_ret (gx_then_ret (gx_ret2 rfl (by conv => lhs; whnf) (by conv => lhs; whnf) ?_))); exact fun w' hw => ⟨0, by simp only [e, if_neg hc19], by simp only [e, if_neg hc19]; exact hw.z⟩
  ·try simp only at hc19
   have h10 : w1.1 = 0 := by simpa using hc19
   obtain ⟨w2, hw2⟩ : ∃ w2, w2 = w1.2.wr (b + 1) sec0 := ⟨_, rfl⟩; have hk2 : DOk w2.2 := by rw [hw2]; exact wr_ok hk1
   refine gc_skip (gx_then (gc_seq (gsr (zxm ?_)))); refine zxm ?_; refine gp zad ?_; refine gp (zba (cs := sc sec0) (by exact rfl)) ?_; refine zc (fun _ => ?_) (c := fun w1 F1 F2 h1 h2 hd hst => write_ok' (i := b + 1) (v := sec0) h1 hk1 (hE.mv hst.still))
   rw [← hw2]; refine zxa ?_; refine zxs ?_; refine zxm ?_; refine gp (r_bool (c := decide (¬ w2.1 = 0)) (r_nenil rfl (by kernel_rfl)) (by simp)) ?_; refine gnt (gif rfl (fun hc27 => ?_) (fun hc27 => ?_))
   ·try simp only at hc27
    have e : fmt d b = w2 := by rw [fmt, if_pos hr, ← hw1, if_pos h10, ← hw2, if_neg hc27]
    refine gsr (zxm ?_); refine zxa ?_; refine zxa ?_; refine gnt (gc_ret (gx_then_ret (gx_ret2 rfl (by conv => lhs; whnf) (by conv => lhs; whnf) ?_))); exact fun w' hw => ⟨0, by simp only [e, if_neg hc27], by simp only [e, if_neg hc27]; exact hw.z⟩
   ·try simp only at hc27
    have h20 : w2.1 = 0 := by simpa using hc27
    have e : fmt d b = (if (oper w2.2).off = true then 6 else 0, w2.2.syncd) := by rw [fmt, if_pos hr, ← hw1, if_pos h10, ← hw2, if_pos h20]
    refine gc_skip (gx_then (gc_seq (gsr (zxm ?_)))); refine zc (fun _ => ?_) (c := fun w1 F1 F2 h1 h2 hd hst => sync_ok' h1 hk2 (hE.mv hst.still))
    refine zxa ?_; refine zxs ?_; refine zxm ?_; refine gp (r_bool (c := (oper w2.2).off) (r_nenil rfl (by kernel_rfl)) (by cases (oper w2.2).off <;> rfl)) ?_; refine gnt (gif rfl (fun hc32 => ?_) (fun hc32 => ?_))
    ·refine gsr (zxm ?_); refine zxa ?_; refine zxa ?_; refine gnt (gc_ret (gx_then_ret (gx_ret2 rfl (by conv => lhs; whnf) (by conv => lhs; whnf) ?_))); exact fun w' hw => ⟨0, by simp only [e, if_pos hc32, if_neg (show ¬ (6 : Nat) = 0 by decide)], by simp only [e, if_pos hc32, if_neg (show ¬ (6 : Nat) = 0 by decide)]; exact hw.z⟩
    ·refine gc_skip (gx_then (gsr (zxm ?_))); refine zxm ?_; refine gp zbu ?_; refine zbN fun b37 => ?_; refine zxa ?_; refine zxa ?_; refine gnt (gc_ret (gx_ret2 rfl (by conv => lhs; whnf) (by conv => lhs; whnf) ?_)); have ho : (oper w2.2).off = false := hc32
     have e2 : fmt d b = (0, w2.2.syncd) := by rw [e, if_neg (by rw [ho]; decide)]
     exact fun w' hw => ⟨b37, by rw [e2, eV_zero]; rfl, by simp only [e2, if_pos (show (0 : Nat) = 0 from rfl)]; exact St.sl (s := ⟨b, 0, []⟩) (a := none) (m := 0) (c := 0) (hw.rowNil.z) rfl rfl rfl rfl⟩
theorem record_ok {w : World} {F : Nat → Prop} {g gd : Nat} {s : SL} (h : stars [SlR g gd s] w F) (hs : s.rec'.length ≤ 31) :
    Calls Tryz.prog 34 #[.pointer (some ⟨g, 0, none⟩)] w (Post w F (fun x : Option Addr × Nat => .slice x.1 s.rec'.length x.2) (fun x => [rowR 5 1 x.1 s.rec'.length x.2 (s.rec'.map B8), SlR g gd s])) := by
 obtain ⟨a, c, h⟩ := sl_open h; refine g_enter (env := [(0, .pointer (some ⟨g, 0, none⟩))]) Tryz.func34 rfl h Tryz.ntmps34 rfl rfl ?_; refine gsr (zxa ?_); refine zxs ?_; refine zxm ?_; refine gp znc ?_; refine gp zfa ?_; refine gp zl ?_; refine zc (fun x7 => ?_) (c := fun w1 F1 F2 h1 h2 hd hst => cloneBytes_ok (xs := s.rec'.map B8) h1 (rd_row h2 hd (by repeat (first | exact Pick.here | apply Pick.there))) (one_B8 _) (by omega))
 refine zxa ?_; refine gnt (gc_ret (gx_ret1 rfl (by conv => lhs; whnf) ?_)); exact fun w' hw => ⟨x7, rfl, (St.sl (s := s) (gd := gd) (L := [rowR 5 1 x7.1 s.rec'.length x7.2 (s.rec'.map B8)]) (a := a) (hw.z) rfl rfl rfl rfl).z⟩
end
section
attribute [local irreducible] Gl Gc Gx Gs Runs Wt
theorem open_ok {w : World} {F : Nat → Prop} {g : Nat} {d : DS} (h : stars [DiskR g d] w F) (hk : DOk d) (hoff : d.off = false) {ea : Nat → Addr} {es : List Nat} [Has es 1] [Has es 6] [Has es 7] [Has es 8] (hE : GErr es w (fun k => ¬ F k) 241 ea) (hK : KR w (fun k => ¬ F k)) {b : Int} (hrt : d.right b = true) :
    Calls Tryz.prog 32 #[.pointer (some ⟨g, 0, none⟩), .int .i64 b] w (Post w F (fun q : Nat => .tuple #[.pointer ((opn d b).map fun _ => ⟨q, 0, none⟩), eV 241 ea (if (opn d b).isSome then 0 else 7)]) (fun q => match opn d b with | none => [DiskR g d] | some s => [SlR q g s, DiskR g d])) := by
 have hn4 := hk.n
 obtain ⟨hb0, hb1⟩ := right_iff.1 hrt; refine g_enter (env := [(0, .pointer (some ⟨g, 0, none⟩)), (1, .int .i64 b)]) Tryz.func32 rfl h Tryz.ntmps32 rfl rfl ?_; refine gsr (zxa ?_); refine zxa ?_; refine gnt (gc_seq (gsr (zxm ?_))); refine zxm ?_; refine zc (fun _ => ?_) (c := fun w1 F1 F2 h1 h2 hd hst => slright_ok (i := b) h1 hk)
 rw [show (decide (0 ≤ b) && decide (b < (d.n : Int) - 1)) = true from hrt]; refine gp znt ?_; refine gnt (gc_condF rfl rfl ?_); refine gc_skip (gx_then (gsr (zxa ?_))); refine gnt (gc_seq (gsr (zxm ?_))); refine gnt (gc_block (gc_loop (α := Nat × Option Nat) (fun q => [pureR (q.1 ≤ 2), OutR q.2 g (opnAt d b q.1), DiskR g d]) (fun q => [(18, .int .i64 (q.1 : Int)), (6, .pointer (q.2.map fun x => ⟨x, 0, none⟩))]) [4, 5, 7, 8, 9, 10, 11, 12, 19, 20, 21, 22, 23, 24, 25, 26, 27, 28, 29, 30, 31, 32, 33, 34, 35, 36, 37, 38, 39, 40, 41, 42, 43, 44, 45, 46, 47, 48, 49, 50, 51, 52, 53, 54, 55, 56, 57, 58] (fun q => 2 - q.1) (0, none) ?_ ?_ ?_))
 ·refine env_start (by kernel_rfl)
 ·exact fun w' hw => zlp (Nat.zero_le _) (by repeat (first | exact Sel.nil | (apply Sel.cons; · (repeat (first | exact Pick.here | apply Pick.there))))) w' (St.out0 (gd := g) (o := opnAt d b 0) (L := [DiskR g d]) rfl (hw.z))
 ·intro q u; obtain ⟨p, go⟩ := q; refine gc_pureR (fun hp => ?_)
  replace hp : p ≤ 2 := hp
  refine gc_seq ?_; by_cases hgo : go = none
  ·subst hgo; refine gc_out0 (o := opnAt d b p) (by repeat (first | exact Pick.here | apply Pick.there)) (fun ho => ?_)
   refine gc_region (gp zlt ?_); refine gnt (gc_seq (gif rfl (fun hc19 => ?_) (fun hc19 => ?_)))
   ·try simp only at hc19
    have hp' : p < 2 := by omega
    have erd : d.rd (b + (p : Int)) = (0, (d.at (b + (p : Int)).toNat)) := rd_at (has_iff.2 ⟨by omega, by omega⟩) hoff
    refine gc_skip (gx_then (gc_seq (gc_block (gsr (zxm ?_))))); refine zxa ?_; refine zxs ?_; refine zxm ?_; refine zxm ?_; refine zxm ?_; refine gp zad ?_; refine zc (fun _ => ?_) (c := fun w1 F1 F2 h1 h2 hd hst => read_ok (i := b + (p : Int)) h1 (hE.mv hst.still))
    rw [erd]; refine zxm ?_; refine gp zex ?_; refine gp zex ?_; refine zal fun b8 => ?_; refine zsA (new := sc ((d.at (b + (p : Int)).toNat))) (sc_length _) (sc_one _) ?_; refine zxa ?_; refine gnt (gc_seq (gsr (zxm ?_))); refine gp (r_bool (c := false) (r_nenil rfl (by kernel_rfl)) rfl) ?_; refine gnt (gc_condF rfl rfl ?_); refine gc_skip (gx_then (gc_seq ?_)); by_cases hS : rdSlot (d.at (b + (p : Int)).toNat) p = none
    ·refine gc_region (gp (zL (sg := sc (d.at (b + (p : Int)).toNat))) ?_); refine zxm ?_; refine zc (fun _ => ?_) (c := fun w1 F1 F2 h1 h2 hd hst => read_none (s := (d.at (b + (p : Int)).toNat)) (p := p) h1 (hK.mv hst.still) hS)
     refine zxm ?_; refine gp zex ?_; refine gp zex ?_; refine gp zex ?_; refine zxa ?_; refine zxa ?_; refine zxa ?_; refine zxs ?_; refine zxm ?_; refine zxm ?_; refine gn ?_; refine gn ?_; refine gn ?_; refine gn ?_; refine gn ?_; refine gn ?_; refine gn ?_; refine gn ?_; refine gn ?_; refine gn ?_; refine gp zpk ?_; refine gnt (gc_condF rfl rfl ?_); refine gc_skip (gx_block_normal (gx_then (gc_region (gp zad ?_)))); refine zxm ?_; refine gl_nil (zrd ((p + 1, none)) ?_ ?_)
     ·show 2 - (p + 1) < 2 - p
      omega
     ·exact fun w' hw => zlp (show p + 1 ≤ 2 by omega) (by repeat (first | exact Sel.nil | (apply Sel.cons; · (repeat (first | exact Pick.here | apply Pick.there))))) w' (St.out0 (gd := g) (L := [DiskR g d]) (opn_skip ho hS) (hw.z))
    ·obtain ⟨⟨c, r⟩, hS⟩ := Option.ne_none_iff_exists'.1 hS; refine gc_region (gp (zL (sg := sc (d.at (b + (p : Int)).toNat))) ?_); refine zxm ?_; refine zc (fun x35 => ?_) (c := fun w1 F1 F2 h1 h2 hd hst => read_some (s := (d.at (b + (p : Int)).toNat)) (p := p) (c := c) (r := r) h1 (hK.mv hst.still) hS)
     refine zxm ?_; refine gp zex ?_; refine gp zex ?_; refine gp zex ?_; refine zxa ?_; refine zxa ?_; refine zxa ?_; refine zxs ?_; refine zxm ?_; refine zxm ?_; refine gq zmv ?_; refine gq (r_bool (c := true) (r_eqpn rfl Ty.un_37) rfl) ?_; refine gq zmv ?_; refine gn ?_; refine gn ?_; refine gn ?_; refine gn ?_; refine gn ?_; refine gn ?_; refine gq zpk ?_; refine gp zpk ?_; refine gnt (gc_condT rfl rfl ?_); refine gc_region (zxm ?_); refine zxm ?_; refine zxm ?_; refine zxm ?_; refine gp zbu ?_; refine zbN fun b57 => ?_; refine zxa ?_; refine gl_nil (gx_block_normal (gx_then (gc_region (gp zad ?_)))); refine zxm ?_; refine gl_nil (zrd ((p + 1, some b57)) ?_ ?_)
     ·show 2 - (p + 1) < 2 - p
      omega
     ·exact fun w' hw => zlp (show p + 1 ≤ 2 by omega) (by repeat (first | exact Sel.nil | (apply Sel.cons; · (repeat (first | exact Pick.here | apply Pick.there))))) w' (St.out1 (L := [DiskR g d]) (opn_new ho hS) (St.sl (s := ⟨b, c, r⟩) (hw.z) rfl rfl rfl rfl))
   ·try simp only at hc19
    have hp' : p = 2 := by omega
    subst hp'; refine gc_exit ?_; refine gx_then_exit ?_; refine gx_round_exit ?_; refine gx_block_hit ?_; refine gx_then (gc_seq (gsr (zxm ?_))); refine gp (r_bool (c := true) (r_eqpn rfl Ty.un_37) rfl) ?_; refine gnt (gc_condT rfl rfl ?_); refine gc_seq (gc_regionS (by kernel_rfl) (by kernel_rfl) ?_); refine sp (r_ld1o rfl Ty.row_26 (hE.c 7 Has.h) (hE.n 7 Has.h)) ?_; refine sp zas ?_; refine sp zas ?_; refine gs_nil ?_; refine gx_then (gc_ret (gx_then_ret (gx_ret2 rfl (by conv => lhs; whnf) (by conv => lhs; whnf) ?_))); exact fun w' hw => ⟨0, by rw [show opn d b = none from ho]; rfl, by simp only [show opn d b = none from ho]; exact hw.z⟩
  ·obtain ⟨g6, rfl⟩ : ∃ g6, go = some g6 := Option.ne_none_iff_exists'.1 hgo; refine gc_out1 (o := opnAt d b p) (by repeat (first | exact Pick.here | apply Pick.there)) (fun s6 ho => ?_)
   refine gc_region (gp zlt ?_); refine gnt (gc_seq (gif rfl (fun hc19 => ?_) (fun hc19 => ?_)))
   ·try simp only at hc19
    have hp' : p < 2 := by omega
    have erd : d.rd (b + (p : Int)) = (0, (d.at (b + (p : Int)).toNat)) := rd_at (has_iff.2 ⟨by omega, by omega⟩) hoff
    refine gc_skip (gx_then (gc_seq (gc_block (gsr (zxm ?_))))); refine zxa ?_; refine zxs ?_; refine zxm ?_; refine zxm ?_; refine zxm ?_; refine gp zad ?_; refine zc (fun _ => ?_) (c := fun w1 F1 F2 h1 h2 hd hst => read_ok (i := b + (p : Int)) h1 (hE.mv hst.still))
    rw [erd]; refine zxm ?_; refine gp zex ?_; refine gp zex ?_; refine zal fun b8 => ?_; refine zsA (new := sc ((d.at (b + (p : Int)).toNat))) (sc_length _) (sc_one _) ?_; refine zxa ?_; refine gnt (gc_seq (gsr (zxm ?_))); refine gp (r_bool (c := false) (r_nenil rfl (by kernel_rfl)) rfl) ?_; refine gnt (gc_condF rfl rfl ?_); refine gc_skip (gx_then (gc_seq ?_)); by_cases hS : rdSlot (d.at (b + (p : Int)).toNat) p = none
    ·refine gc_region (gp (zL (sg := sc (d.at (b + (p : Int)).toNat))) ?_); refine zxm ?_; refine zc (fun _ => ?_) (c := fun w1 F1 F2 h1 h2 hd hst => read_none (s := (d.at (b + (p : Int)).toNat)) (p := p) h1 (hK.mv hst.still) hS)
     refine zxm ?_; refine gp zex ?_; refine gp zex ?_; refine gp zex ?_; refine zxa ?_; refine zxa ?_; refine zxa ?_; refine zxs ?_; refine zxm ?_; refine zxm ?_; refine gn ?_; refine gn ?_; refine gn ?_; refine gn ?_; refine gn ?_; refine gn ?_; refine gn ?_; refine gn ?_; refine gn ?_; refine gn ?_; refine gp zpk ?_; refine gnt (gc_condF rfl rfl ?_); refine gc_skip (gx_block_normal (gx_then (gc_region (gp zad ?_)))); refine zxm ?_; refine gl_nil (zrd ((p + 1, some g6)) ?_ ?_)
     ·show 2 - (p + 1) < 2 - p
      omega
     ·exact fun w' hw => zlp (show p + 1 ≤ 2 by omega) (by repeat (first | exact Sel.nil | (apply Sel.cons; · (repeat (first | exact Pick.here | apply Pick.there))))) w' (St.out1 (L := [DiskR g d]) (opn_skip ho hS) (hw.z))
    ·obtain ⟨⟨c, r⟩, hS⟩ := Option.ne_none_iff_exists'.1 hS; refine gc_region (gp (zL (sg := sc (d.at (b + (p : Int)).toNat))) ?_); refine zxm ?_; refine zc (fun x35 => ?_) (c := fun w1 F1 F2 h1 h2 hd hst => read_some (s := (d.at (b + (p : Int)).toNat)) (p := p) (c := c) (r := r) h1 (hK.mv hst.still) hS)
     refine zxm ?_; refine gp zex ?_; refine gp zex ?_; refine gp zex ?_; refine zxa ?_; refine zxa ?_; refine zxa ?_; refine gnt (gc_seq ?_); by_cases hcnt : s6.count < c
     ·refine gc_sl (s := s6) (by repeat (first | exact Pick.here | apply Pick.there)) (fun a6 c6 => ?_)
      refine gc_region (zxm ?_); refine zxm ?_; refine gq zmv ?_; refine gq (r_bool (c := false) (r_eqpn rfl Ty.un_37) rfl) ?_; refine gq zmv ?_; refine gq zmv ?_; refine gq zmv ?_; refine gq znc ?_; refine gq zfa ?_; refine gq zl ?_; refine gq (r_bool (c := true) zgt (decide_eq_true (by omega))) ?_; refine gq zpk ?_; refine gp zpk ?_; refine gnt (gc_condT rfl rfl ?_); refine gc_region (zxm ?_); refine zxm ?_; refine zxm ?_; refine zxm ?_; refine gp zbu ?_; refine zbN fun b57 => ?_; refine zxa ?_; refine gl_nil (gx_block_normal (gx_then (gc_region (gp zad ?_)))); refine zxm ?_; refine gl_nil (zrd ((p + 1, some b57)) ?_ ?_)
      ·show 2 - (p + 1) < 2 - p
       omega
      ·exact fun w' hw => zlp (show p + 1 ≤ 2 by omega) (by repeat (first | exact Sel.nil | (apply Sel.cons; · (repeat (first | exact Pick.here | apply Pick.there))))) w' (St.out1 (L := [DiskR g d]) (opn_more ho hS hcnt) (St.sl (s := ⟨b, c, r⟩) (hw.z) rfl rfl rfl rfl))
     ·refine gc_sl (s := s6) (by repeat (first | exact Pick.here | apply Pick.there)) (fun a6 c6 => ?_)
      refine gc_region (zxm ?_); refine zxm ?_; refine gq zmv ?_; refine gq (r_bool (c := false) (r_eqpn rfl Ty.un_37) rfl) ?_; refine gq zmv ?_; refine gq zmv ?_; refine gq zmv ?_; refine gq znc ?_; refine gq zfa ?_; refine gq zl ?_; refine gq (r_bool (c := false) zgt (decide_eq_false (by omega))) ?_; refine gq zpk ?_; refine gp zpk ?_; refine gnt (gc_condF rfl rfl ?_); refine gc_skip (gx_block_normal (gx_then (gc_region (gp zad ?_)))); refine zxm ?_; refine gl_nil (zrd ((p + 1, some g6)) ?_ ?_)
      ·show 2 - (p + 1) < 2 - p
       omega
      ·exact fun w' hw => zlp (show p + 1 ≤ 2 by omega) (by repeat (first | exact Sel.nil | (apply Sel.cons; · (repeat (first | exact Pick.here | apply Pick.there))))) w' (St.out1 (L := [DiskR g d]) (opn_less ho hS hcnt) (St.sl (s := s6) (hw.z) rfl rfl rfl rfl))
   ·try simp only at hc19
    have hp' : p = 2 := by omega
    subst hp'; refine gc_exit ?_; refine gx_then_exit ?_; refine gx_round_exit ?_; refine gx_block_hit ?_; refine gx_then (gc_seq (gsr (zxm ?_))); refine gp (r_bool (c := false) (r_eqpn rfl Ty.un_37) rfl) ?_; refine gnt (gc_condF rfl rfl ?_); refine gc_skip (gx_then (gsr (zxm ?_))); refine zxa ?_; refine zxa ?_; refine gnt (gc_ret (gx_ret2 rfl (by conv => lhs; whnf) (by conv => lhs; whnf) ?_)); exact fun w' hw => ⟨g6, by rw [show opn d b = some s6 from ho]; simp only [Option.map_some, Option.isSome_some, if_true]; rw [eV_zero], by simp only [show opn d b = some s6 from ho]; exact hw.z⟩
theorem put_ok' {w : World} {F : Nat → Prop} {g gd : Nat} {d : DS} {s : SL} (h : stars [SlR g gd s, DiskR gd d] w F) (hk : DOk d) {ea : Nat → Addr} {es : List Nat} [Has es 1] [Has es 6] [Has es 7] [Has es 8] (hE : GErr es w (fun k => ¬ F k) 241 ea) (hK : KR w (fun k => ¬ F k)) (hb : 0 ≤ s.base ∧ s.base ≤ 4096) (hc : s.count < 9223372036854775808) {r : List UInt8} {a : Option Addr} {n cc : Nat} (hr : RdRow w (fun k => ¬ F k) 1 a n (r.map B8)) (hcc : n ≤ cc) :
    Calls Tryz.prog 14 #[.pointer (some ⟨g, 0, none⟩), .slice a n cc] w (Post w F (fun _ : Unit => eV 241 ea (put d s r).1) (fun _ => [SlR g gd (put d s r).2.2, DiskR gd (put d s r).2.1])) := by
 obtain ⟨hb0, hb1⟩ := hb; have hn : n = r.length := by have := hr.1; simp at this; omega
 have hmx := hr.2.1
 simp only [maxLen] at hmx
 obtain ⟨a0, c0, h⟩ := sl_open h; refine g_enter (env := [(0, .pointer (some ⟨g, 0, none⟩)), (1, .slice a n cc)]) Tryz.func14 rfl h Tryz.ntmps14 rfl rfl ?_; refine gsr (zxa ?_); refine gnt (gc_seq (gc_block (gsr (zxm ?_)))); refine gp zln ?_; refine gp zgt ?_; refine zxa ?_; refine gnt (gif rfl (fun hc8 => ?_) (fun hc8 => ?_))
 ·try simp only at hc8
  have e : put d s r = (1, d, s) := by rw [put, if_pos (by omega)]
  refine gsr (gp (r_ld1o rfl Ty.row_26 (hE.c 1 Has.h) (hE.n 1 Has.h)) ?_); refine zxa ?_; refine gnt (gc_ret (gx_block_ret ?_)); refine gx_then_ret (gx_ret1 rfl (by conv => lhs; whnf) ?_); exact fun w' hw => ⟨(), by rw [e], by rw [e]; exact St.sl (s := s) (L := [DiskR gd d]) (hw.z) rfl rfl rfl rfl⟩
 ·try simp only at hc8
  have h31 : ¬ 31 < r.length := by omega
  refine gsr (zxm ?_); refine gp znc ?_; refine gp zfa ?_; refine gp zl ?_; refine gp zei ?_; refine zxa ?_; refine gnt (gif rfl (fun hc13 => ?_) (fun hc13 => ?_))
  ·try simp only at hc13
   have e : put d s r = (8, d, s) := by rw [put, if_neg h31, if_pos (by omega)]
   refine gsr (gp (r_ld1o rfl Ty.row_26 (hE.c 8 Has.h) (hE.n 8 Has.h)) ?_); refine zxa ?_; refine gnt (gc_ret (gx_block_ret ?_)); refine gx_then_ret (gx_ret1 rfl (by conv => lhs; whnf) ?_); exact fun w' hw => ⟨(), by rw [e], by rw [e]; exact St.sl (s := s) (L := [DiskR gd d]) (hw.z) rfl rfl rfl rfl⟩
  ·try simp only at hc13
   have hmx1 : ¬ s.count = 9223372036854775807 := by omega
   obtain ⟨w1, hw1⟩ : ∃ w1, w1 = (d.wr (s.base + (((s.count + 1) % 2 : Nat) : Int)) (slotS ((s.count + 1 : Nat) : Int) r)) := ⟨_, rfl⟩; have hk1 : DOk w1.2 := by rw [hw1]; exact wr_ok hk
   refine gc_skip (gx_block_normal (gx_then (gsr (zxm ?_)))); refine gp znc ?_; refine gp zfa ?_; refine gp zl ?_; refine gp (r_int (j := ((s.count + 1 : Nat) : Int)) zad (by omega)) ?_; refine zxa ?_; refine gnt (gc_seq (gc_seq (gc_regionZ 15 ([blk g 102 [.pointer (some ⟨gd, 0, none⟩), .int .i64 s.base, .int .i64 (s.count : Int), .slice a0 s.rec'.length c0]]) ?_))); refine yps 0 rfl zmv ?_; refine yps 1 rfl znc ?_; refine yps 2 rfl zfa ?_; refine yps 3 rfl zl ?_; refine yps 4 rfl zmv ?_; refine yps 5 rfl znc ?_; refine yps 6 rfl zfa ?_; refine yps 7 rfl zl ?_; refine yps 8 rfl zmv ?_; refine yps 9 rfl (r_int (j := (((s.count + 1) % 2 : Nat) : Int)) zrm rfl) ?_; refine yps 10 rfl zad ?_; refine yps 11 rfl zmv ?_; refine yps 12 rfl zmv ?_; refine yos 13 rfl ?_; refine zc (fun _ => ?_) (c := fun w1 F1 F2 h1 h2 hd hst => slot_ok (c := ((s.count + 1 : Nat) : Int)) (r := r) h1 (hK.mv hst.still) (hr.mv hst.still) hcc)
   refine yxs ?_; refine yos 14 rfl ?_; refine zc (fun _ => ?_) (c := fun w1 F1 F2 h1 h2 hd hst => write_ok' (d := d) (i := s.base + (((s.count + 1) % 2 : Nat) : Int)) (v := slotS ((s.count + 1 : Nat) : Int) r) h1 hk (hE.mv hst.still))
   rw [← hw1]; refine yxs ?_; refine yzs rfl ?_; refine zxa ?_; refine zxs ?_; refine zxm ?_; refine gp (r_bool (c := decide (¬ w1.1 = 0)) (r_nenil rfl (by kernel_rfl)) (by simp)) ?_; refine gnt (gif rfl (fun hc41 => ?_) (fun hc41 => ?_))
   ·try simp only at hc41
    have e : put d s r = (w1.1, w1.2, s) := by rw [put, if_neg h31, if_neg hmx1, ← hw1, if_neg hc41]
    refine gsr (zxm ?_); refine zxa ?_; refine gnt (gc_ret (gx_then_ret (gx_ret1 rfl (by conv => lhs; whnf) ?_))); exact fun w' hw => ⟨(), by rw [e], by rw [e]; exact St.sl (s := s) (L := [DiskR gd w1.2]) (hw.z) rfl rfl rfl rfl⟩
   ·try simp only at hc41
    have h10 : w1.1 = 0 := by simpa using hc41
    refine gc_skip (gx_then (gc_seq (gsr (zxm ?_)))); refine gp znc ?_; refine gp zfa ?_; refine gp zl ?_; refine zc (fun _ => ?_) (c := fun w1 F1 F2 h1 h2 hd hst => sync_ok' h1 hk1 (hE.mv hst.still))
    refine zxa ?_; refine zxs ?_; refine zxm ?_; refine gp (r_bool (c := (oper w1.2).off) (r_nenil rfl (by kernel_rfl)) (by cases (oper w1.2).off <;> rfl)) ?_; refine gnt (gif rfl (fun hc49 => ?_) (fun hc49 => ?_))
    ·try simp only at hc49
     have e : put d s r = (6, w1.2.syncd, s) := by rw [put, if_neg h31, if_neg hmx1, ← hw1, if_pos h10, if_pos hc49]
     refine gsr (zxm ?_); refine zxa ?_; refine gnt (gc_ret (gx_then_ret (gx_ret1 rfl (by conv => lhs; whnf) ?_))); exact fun w' hw => ⟨(), by rw [e, if_pos hc49], by rw [e]; exact St.sl (s := s) (L := [DiskR gd w1.2.syncd]) (hw.z) rfl rfl rfl rfl⟩
    ·try simp only at hc49
     have e : put d s r = (0, w1.2.syncd, ⟨s.base, s.count + 1, r⟩) := by rw [put, if_neg h31, if_neg hmx1, ← hw1, if_pos h10, if_neg (by rw [hc49]; decide)]
     refine gc_skip (gx_then (gsr (zxm ?_))); refine zxm ?_; refine zxm ?_; refine zxm ?_; refine zc (fun x55 => ?_) (c := fun w1 F1 F2 h1 h2 hd hst => cloneBytes_ok (xs := r.map B8) h1 (hr.mv hst.still) (one_B8 _) (by omega))
     refine gp znc ?_; refine gp zfa ?_; refine zs1 ?_; refine gp znc ?_; refine gp zfa ?_; refine zs1 ?_; refine zxs ?_; refine zxa ?_; refine gnt (gc_ret (gx_ret1 rfl (by conv => lhs; whnf) ?_)); exact fun w' hw => ⟨(), by rw [e, eV_zero], by rw [e]; exact St.sl (s := ⟨s.base, s.count + 1, r⟩) (L := [DiskR gd w1.2.syncd]) (hw.z) rfl rfl hn rfl⟩
end
section
structure VSt where
  e : Int
  v : Int
  l : Int
  p : Int
  lf : Int
deriving DecidableEq
def wi (n m : Int) : Bool := decide (0 ≤ n) && decide (n ≤ m)
def VSt.ok (s : VSt) : Bool := wi s.e 1073741824 && (wi s.v 1099511627776 && (wi s.l 1099511627776 && (wi s.p 1099511627776 && wi s.lf 32)))
theorem VSt.okI {s : VSt} (h : s.ok = true) : (0 ≤ s.e ∧ s.e ≤ 1073741824) ∧ (0 ≤ s.v ∧ s.v ≤ 1099511627776) ∧ (0 ≤ s.l ∧ s.l ≤ 1099511627776) ∧ (0 ≤ s.p ∧ s.p ≤ 1099511627776) ∧ 0 ≤ s.lf ∧ s.lf ≤ 32 := by
  simpa [VSt.ok, wi] using h
theorem VSt.okM {s : VSt} (h : (0 ≤ s.e ∧ s.e ≤ 1073741824) ∧ (0 ≤ s.v ∧ s.v ≤ 1099511627776) ∧ (0 ≤ s.l ∧ s.l ≤ 1099511627776) ∧ (0 ≤ s.p ∧ s.p ≤ 1099511627776) ∧ 0 ≤ s.lf ∧ s.lf ≤ 32) : s.ok = true := by
  simpa [VSt.ok, wi] using h
def beginV (s : VSt) (e r : Int) : Nat := if s.ok = true then (if e = s.e then (if r < 1 ∨ 1099511627776 < r then 14 else 0) else 18) else 4
def endV (s : VSt) (old : Bool) : VSt × Nat := if old = true then (s, 10) else if 32 ≤ s.lf then (s, 5) else ({ s with lf := s.lf + 1 }, 0)
def voteV (s : VSt) (e r q g : Int) : VSt × Nat :=
  if beginV s e r = 0 then
    if q < 0 ∨ r ≤ q then (s, 14) else if r ≤ s.v then (s, 10) else if q < s.l then (s, 15)
    else if 32 ≤ s.lf then (s, 5) else ({ s with lf := s.lf + 1, v := r, l := if g ≤ q then max s.l g else s.l }, 0)
  else (s, beginV s e r)
def lateV (s : VSt) (e r : Int) : VSt × Nat :=
  if beginV s e r = 0 then (if 32 ≤ s.lf then (s, 5) else ({ s with lf := s.lf + 1, v := max s.v r }, 0)) else (s, beginV s e r)
def propV (s : VSt) (e r : Int) : VSt × Nat :=
  if beginV s e r = 0 then (if r ≤ s.p then (s, 10) else if 32 ≤ s.lf then (s, 5) else ({ s with lf := s.lf + 1, p := r }, 0)) else (s, beginV s e r)
def enterV (s : VSt) (e : Int) : VSt × Nat := if s.ok = true then (if e ≤ s.e ∨ 1073741824 < e then (s, 18) else (⟨e, 0, 0, 0, s.lf⟩, 0)) else (s, 4)
theorem beginV_ok {s : VSt} {e r : Int} (h : beginV s e r = 0) : s.ok = true ∧ e = s.e ∧ 1 ≤ r ∧ r ≤ 1099511627776 := by
  unfold beginV at h
  split at h
  · split at h
    · split at h
      · cases h
      · exact ⟨by assumption, by assumption, by omega, by omega⟩
    · cases h
  · cases h
theorem voteV_ok {s t : VSt} {e r q g : Int} (h : voteV s e r q g = (t, 0)) : t.ok = true ∧ t.lf = s.lf + 1 := by
  unfold voteV at h
  split at h
  · rename_i hb
    obtain ⟨h1, h2, h3, h4⟩ := beginV_ok hb
    have hi := VSt.okI h1
    repeat' split at h
    all_goals first | (simp at h; done) | skip
    all_goals (simp only [Prod.mk.injEq, and_true] at h; subst h; exact ⟨VSt.okM (by simp only; omega), rfl⟩)
  · rename_i hb
    simp only [Prod.mk.injEq] at h
    exact absurd h.2 hb
theorem lateV_ok {s t : VSt} {e r : Int} (h : lateV s e r = (t, 0)) : t.ok = true ∧ t.lf = s.lf + 1 := by
  unfold lateV at h
  split at h
  · rename_i hb
    obtain ⟨h1, h2, h3, h4⟩ := beginV_ok hb
    have hi := VSt.okI h1
    split at h
    · simp at h
    · simp only [Prod.mk.injEq, and_true] at h; subst h; exact ⟨VSt.okM (by simp only; omega), rfl⟩
  · rename_i hb
    simp only [Prod.mk.injEq] at h
    exact absurd h.2 hb
theorem propV_ok {s t : VSt} {e r : Int} (h : propV s e r = (t, 0)) : t.ok = true ∧ t.lf = s.lf + 1 := by
  unfold propV at h
  split at h
  · rename_i hb
    obtain ⟨h1, h2, h3, h4⟩ := beginV_ok hb
    have hi := VSt.okI h1
    repeat' split at h
    all_goals first | (simp at h; done) | skip
    all_goals (simp only [Prod.mk.injEq, and_true] at h; subst h; exact ⟨VSt.okM (by simp only; omega), rfl⟩)
  · rename_i hb
    simp only [Prod.mk.injEq] at h
    exact absurd h.2 hb
theorem enterV_ok {s t : VSt} {e : Int} (h : enterV s e = (t, 0)) : t = ⟨e, 0, 0, 0, s.lf⟩ ∧ t.ok = true ∧ s.e < e := by
  unfold enterV at h
  split at h
  · rename_i h1
    have hi := VSt.okI h1
    split at h
    · simp at h
    · simp only [Prod.mk.injEq, and_true] at h; subst h; exact ⟨rfl, VSt.okM (by simp only; omega), by omega⟩
  · simp at h
def wSt (s : VSt) (x : WS) : WS := wNum s.lf 1 (wNum s.p 6 (wNum s.l 6 (wNum s.v 6 (wNum s.e 4 x))))
def pSt : PR VSt := pBind (pNum 4) fun e => pBind (pNum 6) fun v => pBind (pNum 6) fun l => pBind (pNum 6) fun p => pBind (pNum 1) fun lf => pPure ⟨e, v, l, p, lf⟩
def bytV (s : VSt) : List UInt8 := beN s.e 4 ++ (beN s.v 6 ++ (beN s.l 6 ++ (beN s.p 6 ++ beN s.lf 1)))
theorem bytV_len (s : VSt) : (bytV s).length = 23 := by simp [bytV, beN_length]
theorem wNum_fit {n m : Int} {wd : Nat} {s : WS} (hm : (2 : Int) ^ (8 * wd) = m) (h0 : 0 ≤ n) (h1 : n < m) (hs : s.err = 0) : wNum n wd s = ⟨0, s.bs ++ beN n wd⟩ := by
  unfold wNum
  rw [if_neg (by rw [hm]; omega)]
  unfold wFix
  rw [if_pos hs]
  cases s; simp_all
theorem wSt_ok {s : VSt} (h : s.ok = true) : wSt s ⟨0, []⟩ = ⟨0, bytV s⟩ := by
  have hi := VSt.okI h
  unfold wSt bytV
  rw [wNum_fit (n := s.e) (m := 4294967296) (by decide) (by omega) (by omega) rfl, wNum_fit (n := s.v) (m := 281474976710656) (by decide) (by omega) (by omega) rfl, wNum_fit (n := s.l) (m := 281474976710656) (by decide) (by omega) (by omega) rfl, wNum_fit (n := s.p) (m := 281474976710656) (by decide) (by omega) (by omega) rfl, wNum_fit (n := s.lf) (m := 256) (by decide) (by omega) (by omega) rfl]
  simp [List.append_assoc]
theorem pSt_ok {s : VSt} (h : s.ok = true) (r : List UInt8) : pSt (bytV s ++ r) = .ok (s, r) := by
  have hi := VSt.okI h
  obtain ⟨e, he⟩ := Int.eq_ofNat_of_zero_le hi.1.1
  obtain ⟨v, hv⟩ := Int.eq_ofNat_of_zero_le hi.2.1.1
  obtain ⟨l, hl⟩ := Int.eq_ofNat_of_zero_le hi.2.2.1.1
  obtain ⟨p, hp⟩ := Int.eq_ofNat_of_zero_le hi.2.2.2.1.1
  obtain ⟨lf, hlf⟩ := Int.eq_ofNat_of_zero_le hi.2.2.2.2.1
  unfold pSt bytV
  rw [he, hv, hl, hp, hlf]
  simp only [List.append_assoc]
  rw [pBind_eq (pNum_app (by omega) _), pBind_eq (pNum_app (by omega) _), pBind_eq (pNum_app (by omega) _), pBind_eq (pNum_app (by omega) _), pBind_eq (pNum_app (by omega) _)]
  simp only [pPure]
  cases s; simp_all
end
section
def b1 (n : Nat) : List UInt8 := [UInt8.ofNat n]
def secC (seed : Dig) (leaf i : Nat) : Dig := dOf Kc 1 [seed.l, b1 leaf, b1 i]
def stepC (leaf i k : Nat) (x : Dig) : Dig := dOf Kc 2 [x.l, b1 leaf, b1 i, b1 k]
def runC (leaf i : Nat) : Nat → Nat → Dig → Dig
  | _, 0, x => x
  | a, n + 1, x => runC leaf i (a + 1) n (stepC leaf i a x)
theorem runC_add (leaf i : Nat) : ∀ (n a m : Nat) (x : Dig), runC leaf i a (n + m) x = runC leaf i (a + n) m (runC leaf i a n x)
  | 0, a, m, x => by simp [runC]
  | n + 1, a, m, x => by
    rw [show n + 1 + m = (n + m) + 1 by omega, runC, runC_add leaf i n (a + 1) m, runC, show a + 1 + n = a + (n + 1) by omega]
theorem runC_snoc (leaf i a n : Nat) (x : Dig) : runC leaf i a (n + 1) x = stepC leaf i (a + n) (runC leaf i a n x) := by rw [runC_add leaf i n a 1]; rfl
def dig2 (b : Nat) : List Nat := [b / 64 % 4, b / 16 % 4, b / 4 % 4, b % 4]
theorem dig2_le {b x : Nat} (h : x ∈ dig2 b) : x ≤ 3 := by simp [dig2] at h; omega
def digs (l : List UInt8) : List Nat := l.flatMap fun c => dig2 c.toNat
def sumD (l : List Nat) : Nat := (l.map fun x => 3 - x).sum
def digC (d : Dig) : List Nat := digs d.l ++ dig2 (sumD (digs d.l))
theorem digs_len : ∀ l : List UInt8, (digs l).length = 4 * l.length
  | [] => rfl
  | c :: l => by
    have := digs_len l
    have e : digs (c :: l) = dig2 c.toNat ++ digs l := by simp [digs]
    rw [e, List.length_append, this, List.length_cons]; simp [dig2]; omega
theorem digC_len (d : Dig) : (digC d).length = 68 := by rw [digC, List.length_append, digs_len, d.h]; rfl
theorem digC_le {d : Dig} {x : Nat} (h : x ∈ digC d) : x ≤ 3 := by
  rcases List.mem_append.1 h with h | h
  · obtain ⟨c, _, hc⟩ := List.mem_flatMap.1 h; exact dig2_le hc
  · exact dig2_le h
def pubC (leaf : Nat) (ends : List Dig) : Dig := dOf Kc 3 [b1 leaf, ends.flatMap fun e => e.l]
def endC (seed : Dig) (leaf i : Nat) : Dig := runC leaf i 0 3 (secC seed leaf i)
def pubK (seed : Dig) (leaf : Nat) : Dig := pubC leaf ((List.range 68).map (endC seed leaf))
def sigC (seed : Dig) (leaf : Nat) (d : Dig) : List Dig := (List.range 68).map fun i => runC leaf i 0 ((digC d).getD i 0) (secC seed leaf i)
def joinT (a b : Dig) : Dig := dOf Kc 4 [a.l, b.l]
def upT : List Dig → List Dig
  | a :: b :: l => joinT a b :: upT l
  | _ => []
theorem upT_at : ∀ {l : List Dig} {j : Nat} {a b : Dig}, l[2 * j]? = some a → l[2 * j + 1]? = some b → (upT l)[j]? = some (joinT a b)
  | [], j, a, b, h, _ => by simp at h
  | [x], j, a, b, _, h => by simp at h
  | x :: y :: l, 0, a, b, h1, h2 => by simp at h1 h2; subst h1; subst h2; rfl
  | x :: y :: l, j + 1, a, b, h1, h2 => by
    rw [upT, List.getElem?_cons_succ]
    exact upT_at (by rw [show 2 * (j + 1) = 2 * j + 1 + 1 by omega] at h1; simpa using h1) (by rw [show 2 * (j + 1) + 1 = 2 * j + 1 + 1 + 1 by omega] at h2; simpa using h2)
theorem upT_len : ∀ l : List Dig, (upT l).length = l.length / 2
  | [] => rfl
  | [x] => by simp [upT]
  | x :: y :: l => by rw [upT, List.length_cons, upT_len l]; simp; omega
def mate (i : Nat) : Nat := if i % 2 = 0 then i + 1 else i - 1
def pathT : Nat → List Dig → Nat → List Dig
  | 0, _, _ => []
  | n + 1, l, i => l.getD (mate i) dig0 :: pathT n (upT l) (i / 2)
def rootT : Nat → List Dig → Dig
  | 0, l => l.getD 0 dig0
  | n + 1, l => rootT n (upT l)
end
section
def gput (d : DS) (sl : SL) (s t : VSt) : Nat × DS × SL × VSt :=
  if t.ok = true then ((put d sl (bytV t)).1, (put d sl (bytV t)).2.1, (put d sl (bytV t)).2.2, if (put d sl (bytV t)).1 = 0 then t else s) else (4, d, sl, s)
def gstep (d : DS) (sl : SL) (s : VSt) (r : VSt × Nat) : Nat × DS × SL × VSt := if r.2 = 0 then gput d sl s r.1 else (r.2, d, sl, s)
def lateG (s : VSt) (e r h : Int) : VSt × Nat := if (lateV s e r).2 = 0 then (if h < 0 ∨ r ≤ h then (s, 14) else lateV s e r) else (s, (lateV s e r).2)
theorem lateG_ok {s t : VSt} {e r h : Int} (hh : lateG s e r h = (t, 0)) : t.ok = true ∧ t.lf = s.lf + 1 := by
  unfold lateG at hh
  split at hh
  · split at hh
    · simp at hh
    · exact lateV_ok hh
  · rename_i hb
    simp only [Prod.mk.injEq] at hh
    exact absurd hh.2 hb
structure GK (f : Nat → Sec) (c : Nat) (s : VSt) : Prop where
  good : GoodAt f c (bytV s)
  ok : s.ok = true
  lt : c < 1000000
def gF (f : Nat → Sec) (c : Nat) (t : VSt) : Nat → Sec := updS f ((c + 1) % 2) (slotS ((c + 1 : Nat) : Int) (bytV t))
theorem gput_Z {f : Nat → Sec} {c : Nat} {q : List UInt8} {s t : VSt} (ht : t.ok = true) (hc : c < 1000000) : gput (dZ f) ⟨0, c, q⟩ s t = (0, dZ (gF f c t), ⟨0, c + 1, bytV t⟩, t) := by
  rw [gput, if_pos ht, put_Z (by omega) (by rw [bytV_len]; omega)]
  simp only [if_true]; rfl
theorem gk_put {f : Nat → Sec} {c : Nat} {q : List UInt8} {t : VSt} (h : GoodAt f c q) (ht : t.ok = true) (hc : c + 1 < 1000000) : GK (gF f c t) (c + 1) t := ⟨good_put h (by omega) (by rw [bytV_len]; omega), ht, hc⟩
theorem gk_opn {f : Nat → Sec} {c : Nat} {s : VSt} (h : GK f c s) : opn (dZ f) 0 = some ⟨0, c, bytV s⟩ := opn_good h.good
end
section
def stC (s : VSt) : List Value := [.int .i64 s.e, .int .i64 s.v, .int .i64 s.l, .int .i64 s.p, .int .i64 s.lf]
theorem stC_len (s : VSt) : (stC s).length = 5 := rfl
theorem stC_one (s : VSt) : ∀ v ∈ stC s, v.oneCell' = true := all_cons' rfl (all_cons' rfl (all_cons' rfl (all_cons' rfl (all_cons' rfl all_nil'))))
instance {s : VSt} : Len (stC s) 5 := ⟨rfl⟩
instance {s : VSt} : One (stC s) := One.of (stC_one s)
theorem wi_f {n m : Int} (h : ¬ wi n m = true) : wi n m = false := by simpa using h
section
variable {P : Program} {w0 : World} {F0 : Nat → Prop} {L : List Res} {Q : Exit → Act → World → Prop} {n : Fm} {env : Env} {ops : Array Oper} {rest : List Oper} {ty : TypeId} {pos : String} {af : Array Edge} {gd : Option (Nat × Bool)}
theorem updL_one {v : Value} : ∀ {l : List Value} {i : Nat}, i < l.length → updL l i [v] = l.set i v
  | [], _, h => by simp at h
  | x :: l, 0, _ => rfl
  | x :: l, i + 1, h => by
    have := updL_one (v := v) (l := l) (i := i) (by simpa using h)
    simp only [updL, List.take_succ_cons, List.cons_append, List.set_cons_succ, List.length_cons, List.length_nil] at this ⊢
    rw [← this, show i + 1 + (0 + 1) = (i + (0 + 1)) + 1 by omega, List.drop_succ_cons]
theorem gl_stI {x y : Operand} {T g o : Nat} {l l' : List Value} {v : Value} {L' : List Res} {T' : Nat} [SZ P T 1] {i : Nat} (hp : Pick L (blk g T' l) L') (hi : i < l.length) (hf : l.set i v = l') (k : Gl P w0 F0 (blk g T' l' :: L') ops Q rest n env) (h1 : v.oneCell' = true := by rfl) (hx : ev n env x = .pointer (some ⟨g, o, none⟩) := by exact rfl) (hy : ev n env y = v := by exact rfl) (ho : o = i := by omega)
    (hw : Wt ops n env ⟨none, .store T x y, ty, pos, af, gd⟩ true := by first | exact wt0 rfl | exact wtgT rfl rfl rfl rfl) :
    Gl P w0 F0 L ops Q (⟨none, .store T x y, ty, pos, af, gd⟩ :: rest) n env := by
  subst ho; subst hf
  exact gl_store1 hw hx hy h1 SZ.h hp (by omega) (updL_one hi) k
end
attribute [local irreducible] Gl Gc Gx Gs Runs Wt
theorem within_ok {w : World} {F : Nat → Prop} {n m : Int} (h : stars [] w F) :
    Calls Tryz.prog 76 #[.int .i64 n, .int .i64 m] w (Post w F (fun _ : Unit => .bool (wi n m)) (fun _ => [])) := by
 refine g_enter (env := [(0, .int .i64 n), (1, .int .i64 m)]) Tryz.func76 rfl h Tryz.ntmps76 rfl rfl ?_; refine gsr (zxa ?_); refine gnt (gc_seq ?_); by_cases hn : 0 ≤ n
 ·refine gc_region (zxm ?_); refine gp (r_bool (c := true) zge (decide_eq_true hn)) ?_; refine zxm ?_; refine gq zmv ?_; refine gq zmv ?_; refine gq (r_bool (c := decide (n ≤ m)) zle rfl) ?_; refine gp zpk ?_; refine zxa ?_; refine gnt (gc_ret (gx_ret1 rfl (by conv => lhs; whnf) ?_)); exact fun w' hw => ⟨(), by rw [wi, decide_eq_true hn, Bool.true_and], hw.z⟩
 ·refine gc_region (zxm ?_); refine gp (r_bool (c := false) zge (decide_eq_false hn)) ?_; refine zxm ?_; refine gn ?_; refine gn ?_; refine gn ?_; refine gp zpk ?_; refine zxa ?_; refine gnt (gc_ret (gx_ret1 rfl (by conv => lhs; whnf) ?_)); exact fun w' hw => ⟨(), by rw [wi, decide_eq_false hn, Bool.false_and], hw.z⟩
theorem vright_ok {w : World} {F : Nat → Prop} {s : VSt} (h : stars [] w F) :
    Calls Tryz.prog 43 #[.agg (stC s).toArray] w (Post w F (fun _ : Unit => .bool s.ok) (fun _ => [])) := by
 refine g_enter (env := [(0, .agg (stC s).toArray)]) Tryz.func43 rfl h Tryz.ntmps43 rfl rfl ?_; refine gsr (zbN fun b1 => ?_); refine zxa ?_; refine gnt (gc_seq ?_); by_cases h0 : wi s.e 1073741824 = true
 ·by_cases h1 : wi s.v 1099511627776 = true
  ·by_cases h2 : wi s.l 1099511627776 = true
   ·by_cases h3 : wi s.p 1099511627776 = true
    ·refine gc_region (gp zfa ?_); refine gp zl ?_; refine zc (fun _ => ?_) (c := fun w1 F1 F2 h1 h2 hd hst => within_ok h1)
     refine gp (r_bool (c := true) zmv (h0)) ?_; refine gq zfa ?_; refine gq zl ?_; refine zc (fun _ => ?_) (c := fun w1 F1 F2 h1 h2 hd hst => within_ok h1)
     refine gp zpk ?_; refine gp (r_bool (c := true) zmv (h1)) ?_; refine gq zfa ?_; refine gq zl ?_; refine zc (fun _ => ?_) (c := fun w1 F1 F2 h1 h2 hd hst => within_ok h1)
     refine gp zpk ?_; refine gp (r_bool (c := true) zmv (h2)) ?_; refine gq zfa ?_; refine gq zl ?_; refine zc (fun _ => ?_) (c := fun w1 F1 F2 h1 h2 hd hst => within_ok h1)
     refine gp zpk ?_; refine gp (r_bool (c := true) zmv (h3)) ?_; refine gq zfa ?_; refine gq zl ?_; refine zc (fun _ => ?_) (c := fun w1 F1 F2 h1 h2 hd hst => within_ok h1)
     refine gp zpk ?_; refine zxa ?_; refine gnt (gc_ret (gx_ret1 rfl (by conv => lhs; whnf) ?_)); exact fun w' hw => ⟨(), by simp [VSt.ok, *], hw.z⟩
    ·refine gc_region (gp zfa ?_); refine gp zl ?_; refine zc (fun _ => ?_) (c := fun w1 F1 F2 h1 h2 hd hst => within_ok h1)
     refine gp (r_bool (c := true) zmv (h0)) ?_; refine gq zfa ?_; refine gq zl ?_; refine zc (fun _ => ?_) (c := fun w1 F1 F2 h1 h2 hd hst => within_ok h1)
     refine gp zpk ?_; refine gp (r_bool (c := true) zmv (h1)) ?_; refine gq zfa ?_; refine gq zl ?_; refine zc (fun _ => ?_) (c := fun w1 F1 F2 h1 h2 hd hst => within_ok h1)
     refine gp zpk ?_; refine gp (r_bool (c := true) zmv (h2)) ?_; refine gq zfa ?_; refine gq zl ?_; refine zc (fun _ => ?_) (c := fun w1 F1 F2 h1 h2 hd hst => within_ok h1)
     refine gp zpk ?_; refine gp (r_bool (c := false) zmv (wi_f h3)) ?_; refine gn ?_; refine gn ?_; refine gn ?_; refine gp zpk ?_; refine zxa ?_; refine gnt (gc_ret (gx_ret1 rfl (by conv => lhs; whnf) ?_)); exact fun w' hw => ⟨(), by simp [VSt.ok, *], hw.z⟩
   ·refine gc_region (gp zfa ?_); refine gp zl ?_; refine zc (fun _ => ?_) (c := fun w1 F1 F2 h1 h2 hd hst => within_ok h1)
    refine gp (r_bool (c := true) zmv (h0)) ?_; refine gq zfa ?_; refine gq zl ?_; refine zc (fun _ => ?_) (c := fun w1 F1 F2 h1 h2 hd hst => within_ok h1)
    refine gp zpk ?_; refine gp (r_bool (c := true) zmv (h1)) ?_; refine gq zfa ?_; refine gq zl ?_; refine zc (fun _ => ?_) (c := fun w1 F1 F2 h1 h2 hd hst => within_ok h1)
    refine gp zpk ?_; refine gp (r_bool (c := false) zmv (wi_f h2)) ?_; refine gn ?_; refine gn ?_; refine gn ?_; refine gp zpk ?_; refine zxm ?_; refine gn ?_; refine gn ?_; refine gn ?_; refine gp zpk ?_; refine zxa ?_; refine gnt (gc_ret (gx_ret1 rfl (by conv => lhs; whnf) ?_)); exact fun w' hw => ⟨(), by simp [VSt.ok, *], hw.z⟩
  ·refine gc_region (gp zfa ?_); refine gp zl ?_; refine zc (fun _ => ?_) (c := fun w1 F1 F2 h1 h2 hd hst => within_ok h1)
   refine gp (r_bool (c := true) zmv (h0)) ?_; refine gq zfa ?_; refine gq zl ?_; refine zc (fun _ => ?_) (c := fun w1 F1 F2 h1 h2 hd hst => within_ok h1)
   refine gp zpk ?_; refine gp (r_bool (c := false) zmv (wi_f h1)) ?_; refine gn ?_; refine gn ?_; refine gn ?_; refine gp zpk ?_; refine zxm ?_; refine gn ?_; refine gn ?_; refine gn ?_; refine gp zpk ?_; refine zxm ?_; refine gn ?_; refine gn ?_; refine gn ?_; refine gp zpk ?_; refine zxa ?_; refine gnt (gc_ret (gx_ret1 rfl (by conv => lhs; whnf) ?_)); exact fun w' hw => ⟨(), by simp [VSt.ok, *], hw.z⟩
 ·refine gc_region (gp zfa ?_); refine gp zl ?_; refine zc (fun _ => ?_) (c := fun w1 F1 F2 h1 h2 hd hst => within_ok h1)
  refine gp (r_bool (c := false) zmv (wi_f h0)) ?_; refine gn ?_; refine gn ?_; refine gn ?_; refine gp zpk ?_; refine zxm ?_; refine gn ?_; refine gn ?_; refine gn ?_; refine gp zpk ?_; refine zxm ?_; refine gn ?_; refine gn ?_; refine gn ?_; refine gp zpk ?_; refine zxm ?_; refine gn ?_; refine gn ?_; refine gn ?_; refine gp zpk ?_; refine zxa ?_; refine gnt (gc_ret (gx_ret1 rfl (by conv => lhs; whnf) ?_)); exact fun w' hw => ⟨(), by simp [VSt.ok, *], hw.z⟩
theorem begin13_ok {w : World} {F : Nat → Prop} {s : VSt} {e r : Int} (h : stars [] w F) {ea : Nat → Addr} {es : List Nat} [Has es 4] [Has es 14] [Has es 18] (hE : GErr es w (fun k => ¬ F k) 241 ea)  :
    Calls Tryz.prog 78 #[.agg (stC s).toArray, .int .i64 e, .int .i64 r] w (Post w F (fun _ : Unit => eV 241 ea (beginV s e r)) (fun _ => [])) := by
 refine g_enter (env := [(0, .agg (stC s).toArray), (1, .int .i64 e), (2, .int .i64 r)]) Tryz.func78 rfl h Tryz.ntmps78 rfl rfl ?_; refine gsr (zbN fun b3 => ?_); refine zxa ?_; refine gnt (gc_seq (gc_block (gsr (gp zL ?_)))); refine zc (fun _ => ?_) (c := fun w1 F1 F2 h1 h2 hd hst => vright_ok h1)
 refine gp znt ?_; refine zxa ?_; refine gnt (gif rfl (fun hc7 => ?_) (fun hc7 => ?_))
 ·try simp only at hc7
  have hk : ¬ s.ok = true := by simpa using hc7
  have e0 : beginV s e r = 4 := by rw [beginV, if_neg hk]
  refine gsr (gp (r_ld1o rfl Ty.row_26 (hE.c 4 Has.h) (hE.n 4 Has.h)) ?_); refine zxa ?_; refine gnt (gc_ret (gx_block_ret ?_)); refine gx_then_ret (gx_ret1 rfl (by conv => lhs; whnf) ?_); exact fun w' hw => ⟨(), by rw [e0], hw.z⟩
 ·try simp only at hc7
  have hk : s.ok = true := by simpa using hc7
  refine gsr (zxm ?_); refine gp zfa ?_; refine gp zl ?_; refine gp zni ?_; refine zxa ?_; refine gnt (gif rfl (fun hc12 => ?_) (fun hc12 => ?_))
  ·try simp only at hc12
   have he : ¬ e = s.e := by simpa using hc12
   have e0 : beginV s e r = 18 := by rw [beginV, if_pos hk, if_neg he]
   refine gsr (gp (r_ld1o rfl Ty.row_26 (hE.c 18 Has.h) (hE.n 18 Has.h)) ?_); refine zxa ?_; refine gnt (gc_ret (gx_block_ret ?_)); refine gx_then_ret (gx_ret1 rfl (by conv => lhs; whnf) ?_); exact fun w' hw => ⟨(), by rw [e0], hw.z⟩
  ·try simp only at hc12
   have he : e = s.e := by simpa using hc12
   refine gc_seq ?_; by_cases hr : r < 1
   ·refine gc_region (zxm ?_); refine gp (r_bool (c := true) zlt (decide_eq_true hr)) ?_; refine zxm ?_; refine gn ?_; refine gn ?_; refine gp zpk ?_; refine zxa ?_; refine gnt (gc_condT rfl rfl ?_); refine gsr (gp (r_ld1o rfl Ty.row_26 (hE.c 14 Has.h) (hE.n 14 Has.h)) ?_); refine zxa ?_; refine gnt (gc_ret (gx_block_ret ?_)); refine gx_then_ret (gx_ret1 rfl (by conv => lhs; whnf) ?_); exact fun w' hw => ⟨(), by rw [beginV, if_pos hk, if_pos he, if_pos (.inl hr)], hw.z⟩
   ·refine gc_region (zxm ?_); refine gp (r_bool (c := false) zlt (decide_eq_false hr)) ?_; refine zxm ?_; refine gq zmv ?_; refine gq zgt ?_; refine gp zpk ?_; refine zxa ?_; refine gnt (gif rfl (fun hc18 => ?_) (fun hc18 => ?_))
    ·try simp only at hc18
     have hr2 : 1099511627776 < r := by simpa using hc18
     refine gsr (gp (r_ld1o rfl Ty.row_26 (hE.c 14 Has.h) (hE.n 14 Has.h)) ?_); refine zxa ?_; refine gnt (gc_ret (gx_block_ret ?_)); refine gx_then_ret (gx_ret1 rfl (by conv => lhs; whnf) ?_); exact fun w' hw => ⟨(), by rw [beginV, if_pos hk, if_pos he, if_pos (.inr hr2)], hw.z⟩
    ·try simp only at hc18
     have hr2 : ¬ 1099511627776 < r := by simpa using hc18
     refine gc_skip (gx_block_normal (gx_then (gsr (zxa ?_)))); refine gnt (gc_ret (gx_ret1 rfl (by conv => lhs; whnf) ?_)); exact fun w' hw => ⟨(), by rw [beginV, if_pos hk, if_pos he, if_neg (by omega), eV_zero], hw.z⟩
theorem end13_ok {w : World} {F : Nat → Prop} {s : VSt} {old : Bool} (h : stars [] w F) (hlf : s.lf ≤ 32 ∧ 0 ≤ s.lf) {ea : Nat → Addr} {es : List Nat} [Has es 5] [Has es 10] (hE : GErr es w (fun k => ¬ F k) 241 ea)  :
    Calls Tryz.prog 79 #[.agg (stC s).toArray, .bool old] w (Post w F (fun _ : Unit => .tuple #[.agg (stC (endV s old).1).toArray, eV 241 ea (endV s old).2]) (fun _ => [])) := by
 refine g_enter (env := [(0, .agg (stC s).toArray), (1, .bool old)]) Tryz.func79 rfl h Tryz.ntmps79 rfl rfl ?_; refine gsr (zbN fun b2 => ?_); refine zal fun b4 => ?_; refine zxa ?_; refine gnt (gc_seq (gc_block (gsr (zxm ?_)))); refine zxa ?_; refine gnt (gif rfl (fun hc6 => ?_) (fun hc6 => ?_))
 ·try simp only at hc6
  have ho : old = true := hc6
  refine gc_seq (gc_regionZ 3 ([blk b2 45 (stC s)]) ?_); refine yps 0 rfl zL ?_; refine yps 1 rfl (r_ld1o rfl Ty.row_26 (hE.c 10 Has.h) (hE.n 10 Has.h)) ?_; refine yos 2 rfl ?_; refine zsN ?_; refine yxs ?_; refine yzs rfl ?_; refine zxa ?_; refine gnt (gc_ret (gx_block_ret ?_)); refine gx_then_ret (gx_retct rfl rfl (by conv => lhs; whnf) (ldA Ty.row_45 Ty.sz_45) ?_); exact fun w' hw => ⟨(), by rw [endV, if_pos ho]; try rfl, hw.z⟩
 ·try simp only at hc6
  have ho : ¬ old = true := by simpa using hc6
  refine gsr (gp zfa ?_); refine gp zl ?_; refine gp zge ?_; refine zxa ?_; refine gnt (gif rfl (fun hc10 => ?_) (fun hc10 => ?_))
  ·try simp only at hc10
   have h32 : 32 ≤ s.lf := by simpa using hc10
   refine gc_seq (gc_regionZ 3 ([blk b2 45 (stC s)]) ?_); refine yps 0 rfl zL ?_; refine yps 1 rfl (r_ld1o rfl Ty.row_26 (hE.c 5 Has.h) (hE.n 5 Has.h)) ?_; refine yos 2 rfl ?_; refine zsN ?_; refine yxs ?_; refine yzs rfl ?_; refine zxa ?_; refine gnt (gc_ret (gx_block_ret ?_)); refine gx_then_ret (gx_retct rfl rfl (by conv => lhs; whnf) (ldA Ty.row_45 Ty.sz_45) ?_); exact fun w' hw => ⟨(), by rw [endV, if_neg ho, if_pos h32]; try rfl, hw.z⟩
  ·try simp only at hc10
   have h32 : ¬ 32 ≤ s.lf := by simpa using hc10
   refine gc_skip (gx_block_normal (gx_then (gsr (gp zfa ?_)))); refine gp zl ?_; refine gp (r_int (j := s.lf + 1) zad (wrap_i64 (by omega) (by omega))) ?_; refine gp zfa ?_; refine zs1 ?_; refine zxs ?_; refine gp zL ?_; refine zsN ?_; refine zxa ?_; refine gnt (gc_ret (gx_retct rfl rfl (by conv => lhs; whnf) (ldA Ty.row_45 Ty.sz_45) ?_)); exact fun w' hw => ⟨(), by rw [endV, if_neg ho, if_neg h32]; simp only [eV_zero]; try rfl, hw.z⟩
end
section
def vn3 (s : VSt) (k : Nat) : Int := if k = 0 then s.v else if k = 1 then s.l else s.p
def w3 (s : VSt) : Nat → WS → WS
  | 0, x => x
  | k + 1, x => wNum (vn3 s k) 6 (w3 s k x)
theorem w3_st (s : VSt) (x : WS) : wNum s.lf 1 (w3 s 3 (wNum s.e 4 x)) = wSt s x := rfl
theorem w3_len (s : VSt) : ∀ (k : Nat) (x : WS), (w3 s k x).bs.length ≤ x.bs.length + 6 * k
  | 0, x => by simp [w3]
  | k + 1, x => by have h1 := w3_len s k x; have h2 := wNum_len (vn3 s k) 6 (w3 s k x); simp only [w3]; omega
attribute [local irreducible] Gl Gc Gx Gs Runs Wt
theorem vbytes_ok {w : World} {F : Nat → Prop} {s : VSt} (h : stars [] w F) (hok : s.ok = true) {ea : Nat → Addr} {es : List Nat} [Has es 1] (hE : GErr es w (fun k => ¬ F k) 241 ea)  :
    Calls Tryz.prog 77 #[.agg (stC s).toArray] w (Post w F (fun a : Option Addr × Nat => .tuple #[.slice a.1 (bytV s).length a.2, eV 241 ea 0]) (fun a => [rowR 5 1 a.1 (bytV s).length a.2 ((bytV s).map B8)])) := by
 have hsw := wSt_ok hok
 have hbl := bytV_len s
 have h0 := wNum_len s.e 4 ⟨0, []⟩
 simp only [List.length_nil] at h0
 refine g_enter (env := [(0, .agg (stC s).toArray)]) Tryz.func77 rfl h Tryz.ntmps77 rfl rfl ?_; refine gsr (zbN fun b1 => ?_); refine zxa ?_; refine zxa ?_; refine gnt (gc_seq (gsr (gp zL ?_))); refine zc (fun _ => ?_) (c := fun w1 F1 F2 h1 h2 hd hst => vright_ok h1)
 refine gp (r_bool (c := false) znt (by rw [hok]; rfl)) ?_; refine gnt (gc_condF rfl rfl ?_); refine gc_skip (gx_then (gsr (zc (fun g => ?_) (c := fun w1 F1 F2 h1 h2 hd hst => newwriter_ok (TE := 241) (ea := ea) h1))))
 refine zxa ?_; refine zxs ?_; refine zxm ?_; refine gp zfa ?_; refine gp zl ?_; refine zc (fun _ => ?_) (c := fun w1 F1 F2 h1 h2 hd hst => number_ok (n := s.e) (wd := 4) h1 (hE.mv hst.still) (by decide) (by decide) (by simp))
 refine gnt (gc_seq (gsr (gp zfa ?_))); refine gp zl ?_; refine gp zfa ?_; refine gp zl ?_; refine gp zfa ?_; refine gp zl ?_; refine gp (zba (cs := [.int .i64 s.v, .int .i64 s.l, .int .i64 s.p]) (by exact rfl)) ?_; refine zxm ?_; refine gnt (gc_block (gc_loop (α := Nat) (fun k => [pureR (k ≤ 3), WrR 241 ea g (w3 s k (wNum s.e 4 ⟨0, []⟩)), blk b1 45 (stC s)]) (fun k => [(23, .int .i64 (k : Int))]) [6, 24, 25, 26, 27, 28, 29] (fun k => 3 - k) 0 ?_ ?_ ?_))
 ·refine env_start (by kernel_rfl)
 ·exact zlp (Nat.zero_le _)
 ·intro k u; refine gc_pureR (fun hk => ?_)
  replace hk : k ≤ 3 := hk
  have h3 := w3_len s k (wNum s.e 4 ⟨0, []⟩)
  refine gsr (gp zlt ?_); refine gnt (gc_seq (gif rfl (fun hc24 => ?_) (fun hc24 => ?_)))
  ·try simp only at hc24
   have hk' : k < 3 := by omega
   refine gc_skip ?_; refine gx_then ?_; refine gc_seq ?_; refine gc_block ?_; refine gsr ?_; refine gp (r_index1 (v := .int .i64 (vn3 s k)) rfl rfl Ty.arr_191 Ty.sz_3 Ty.row_3 (by omega) (by omega) (by have h' : k = 0 ∨ k = 1 ∨ k = 2 := (by omega); rcases h' with rfl | rfl | rfl <;> rfl)) ?_; refine zxa ?_; refine gnt (gc_region (zxm ?_)); refine zxm ?_; refine zc (fun _ => ?_) (c := fun w1 F1 F2 h1 h2 hd hst => number_ok (n := vn3 s k) (wd := 6) h1 (hE.mv hst.still) (by decide) (by decide) (by omega))
   refine gl_nil (gx_block_normal (gx_then (gc_region (gp zad ?_)))); refine zxm ?_; refine gl_nil (zrd (k + 1) ?_ ?_)
   ·show 3 - (k + 1) < 3 - k
    omega
   ·exact zlp (show k + 1 ≤ 3 by omega)
  ·try simp only at hc24
   have hk' : k = 3 := by omega
   subst hk'; refine gc_exit ?_; refine gx_then_exit ?_; refine gx_round_exit ?_; refine gx_block_hit ?_; refine gx_then (gsr (zxm ?_)); refine gp zfa ?_; refine gp zl ?_; refine zc (fun _ => ?_) (c := fun w1 F1 F2 h1 h2 hd hst => number_ok (n := s.lf) (wd := 1) h1 (hE.mv hst.still) (by decide) (by decide) (by omega))
   rw [w3_st, hsw]; refine zxs ?_; refine zxm ?_; refine zc ?_ (c := fun w1 F1 F2 h1 h2 hd hst => done_ok (s := ⟨0, bytV s⟩) h1 (by show (bytV s).length ≤ _; omega))
   rintro ⟨a35, c35⟩
   rw [show wOut ⟨0, bytV s⟩ = bytV s from rfl]; refine gp zex ?_; refine gp zex ?_; refine zxa ?_; refine zxa ?_; refine gnt (gc_ret (gx_ret2 rfl (by conv => lhs; whnf) (by conv => lhs; whnf) ?_)); exact ze (a35, c35)
end
section
def doneE : RSt → Nat
  | .error e => e
  | .ok [] => 0
  | .ok _ => 3
def NoZ {α : Type} (p : PR α) : Prop := ∀ b, p b ≠ .error 0
theorem noz_pure {α : Type} (x : α) : NoZ (pPure x) := fun b h => by cases h
theorem noz_take (n : Nat) : NoZ (pTake n) := fun b h => by unfold pTake at h; split at h <;> cases h
theorem noz_bind {α β : Type} {p : PR α} {f : α → PR β} (hp : NoZ p) (hf : ∀ x, NoZ (f x)) : NoZ (pBind p f) := fun b h => by
  unfold pBind at h
  split at h
  · rename_i e he; injection h with h; subst h; exact hp b he
  · rename_i x he; exact hf _ _ h
theorem noz_num (wd : Nat) : NoZ (pNum wd) := noz_bind (noz_take wd) fun _ => noz_pure _
def allE {α : Type} (p : PR α) (z : α) (b : List UInt8) : Nat × α := match pAll p b with
  | .ok m => (0, m)
  | .error k => (k, z)
theorem allE_fin {α : Type} {p : PR α} {z v : α} {b : List UInt8} (hp : NoZ p) (h : Ag p (.ok b) v) : doneE (rstep p (.ok b)) = (allE p z b).1 ∧ (doneE (rstep p (.ok b)) = 0 → (allE p z b).2 = v) ∧ (doneE (rstep p (.ok b)) ≠ 0 → (allE p z b).2 = z) := by
  unfold allE pAll
  cases hb : p b with
  | error e =>
    have he : e ≠ 0 := fun h0 => hp b (by rw [hb, h0])
    simp only [rstep, hb, doneE]
    exact ⟨trivial, fun h => absurd h he, fun _ => trivial⟩
  | ok x =>
    obtain ⟨y, r⟩ := x
    have hy := h b y r rfl hb
    cases r with
    | nil => simp only [rstep, hb, doneE, if_true]; exact ⟨trivial, fun _ => hy.symm, fun h => absurd rfl h⟩
    | cons c t => simp [rstep, hb, doneE]
def z13 : VSt := ⟨0, 0, 0, 0, 0⟩
def readV (b : List UInt8) : Nat × VSt := if (allE pSt z13 b).1 = 0 then (if (allE pSt z13 b).2.ok = true then (0, (allE pSt z13 b).2) else (4, z13)) else ((allE pSt z13 b).1, z13)
theorem noz_st : NoZ pSt := noz_bind (noz_num 4) fun _ => noz_bind (noz_num 6) fun _ => noz_bind (noz_num 6) fun _ => noz_bind (noz_num 6) fun _ => noz_bind (noz_num 1) fun _ => noz_pure _
theorem readV_byt {s : VSt} (h : s.ok = true) : readV (bytV s) = (0, s) := by
  have h1 := pSt_ok h []
  rw [List.append_nil] at h1
  have h2 : allE pSt z13 (bytV s) = (0, s) := by unfold allE pAll; rw [h1]; rfl
  rw [readV, h2]; simp only [if_true, if_pos h]
def p3 (k : Nat) (s : VSt) (x : Int) : VSt := if k = 0 then { s with v := x } else if k = 1 then { s with l := x } else { s with p := x }
def i3 (k : Nat) (s : VSt) : Prop := (k ≤ 0 → s.v = 0) ∧ (k ≤ 1 → s.l = 0) ∧ (k ≤ 2 → s.p = 0) ∧ s.lf = 0
def q3 : Nat → RSt → RSt
  | 0, σ => σ
  | k + 1, σ => rstep (pNum 6) (q3 k σ)
def a3 (σ : RSt) (s : VSt) (k : Nat) : Prop := ∀ j, j < k → Ag (pNum 6) (q3 j σ) (vn3 s j)
theorem p3_i {k : Nat} {s : VSt} {x : Int} (hk : k < 3) (h : i3 k s) : i3 (k + 1) (p3 k s x) := by
  unfold i3 p3 at *
  obtain ⟨h1, h2, h3, h4⟩ := h
  have h' : k = 0 ∨ k = 1 ∨ k = 2 := by omega
  rcases h' with rfl | rfl | rfl <;> simp_all
theorem p3_e {k : Nat} {s : VSt} {x : Int} : (p3 k s x).e = s.e := by unfold p3; split <;> (try split) <;> rfl
theorem p3_a {σ : RSt} {k : Nat} {s : VSt} {x : Int} (hk : k < 3) (h : a3 σ s k) (hx : Ag (pNum 6) (q3 k σ) x) : a3 σ (p3 k s x) (k + 1) := fun j hj => by
  have h' : k = 0 ∨ k = 1 ∨ k = 2 := by omega
  have hj' : j = 0 ∨ j = 1 ∨ j = 2 := by omega
  rcases h' with rfl | rfl | rfl <;> rcases hj' with rfl | rfl | rfl <;> first | (exfalso; omega) | exact hx | exact h _ (by omega)
theorem stC_p3 {k : Nat} {s : VSt} {x : Int} (hk : k < 3) : (stC s).set (k + 1) (.int .i64 x) = stC (p3 k s x) := by
  have h' : k = 0 ∨ k = 1 ∨ k = 2 := by omega
  rcases h' with rfl | rfl | rfl <;> rfl
theorem st_fin {b : List UInt8} {s : VSt} {lf : Int} (h1 : Ag (pNum 4) (.ok b) s.e) (h3 : a3 (rstep (pNum 4) (.ok b)) s 3) (h5 : Ag (pNum 1) (q3 3 (rstep (pNum 4) (.ok b))) lf) :
    Ag pSt (.ok b) { s with lf := lf } ∧ rstep pSt (.ok b) = rstep (pNum 1) (q3 3 (rstep (pNum 4) (.ok b))) := by
  have g0 := h3 0 (by decide); have g1 := h3 1 (by decide); have g2 := h3 2 (by decide)
  refine ⟨h1.bind (g0.bind (g1.bind (g2.bind (h5.bind (Ag.pure _))))), ?_⟩
  exact (rstep_bind h1).trans ((rstep_bind g0).trans ((rstep_bind g1).trans ((rstep_bind g2).trans ((rstep_bind h5).trans (rstep_pure _)))))
attribute [local irreducible] Gl Gc Gx Gs Runs Wt
theorem rdone_ok {w : World} {F : Nat → Prop} {TE : Nat} {ea : Nat → Addr} {g : Nat} {σ : RSt} (h : stars [RdrR TE ea g σ] w F) {es : List Nat} [Has es 3] (hE : GErr es w (fun k => ¬ F k) TE ea) :
    Calls Tryz.prog 67 #[.pointer (some ⟨g, 0, none⟩)] w (Post w F (fun _ : Unit => eV TE ea (doneE σ)) (fun _ => [RdrR TE ea g σ])) := by
 obtain ⟨s, a, c, hs, hc, h'⟩ := rr_open h; refine g_enter (env := [(0, .pointer (some ⟨g, 0, none⟩))]) Tryz.func67 rfl h' Tryz.ntmps67 rfl rfl ?_; refine gsr (zxa ?_); refine gnt (gc_seq (gc_seq ?_)); by_cases he : s.err = 0
 ·refine gc_region (zxm ?_); refine gp znc ?_; refine gp zfa ?_; refine gp zfa ?_; refine gp zl ?_; refine gp (r_bool (c := true) (r_eqnil rfl (by kernel_rfl)) (decide_eq_true he)) ?_; refine zxm ?_; refine gq zmv ?_; refine gq znc ?_; refine gq zfa ?_; refine gq zl ?_; refine gq zln ?_; refine gq zgt ?_; refine gp zpk ?_; refine gnt (gif rfl (fun hc16 => ?_) (fun hc16 => ?_))
  ·try simp only at hc16
   have e : doneE σ = 3 := by rw [← hs, WS.st, if_pos he]; cases hb : s.bs with | nil => (rw [hb] at hc16; simp at hc16) | cons x r => rfl
   refine gsr (gp (r_ld1o rfl Ty.row_26 (hE.c 3 Has.h) (hE.n 3 Has.h)) ?_); refine zxa ?_; refine gnt (gc_ret (gx_then_ret (gx_ret1 rfl (by conv => lhs; whnf) ?_))); rw [e]; exact fun w' hw => ⟨(), rfl, St.rdr (hw.sel (M := [blk g 171 [_, .slice a _ c], BtR a s.bs none []]) (by repeat (first | exact Sel.nil | (apply Sel.cons; · (repeat (first | exact Pick.here | apply Pick.there)))))) rfl rfl hs hc⟩
  ·try simp only at hc16
   have e : doneE σ = s.err := by rw [← hs, WS.st, if_pos he, he]; cases hb : s.bs with | nil => rfl | cons x r => (rw [hb] at hc16; simp at hc16; omega)
   refine gc_skip (gx_then (gsr (zxm ?_))); refine gp znc ?_; refine gp zfa ?_; refine gp zfa ?_; refine gp zl ?_; refine zxa ?_; refine gnt (gc_ret (gx_ret1 rfl (by conv => lhs; whnf) ?_)); rw [e]; exact fun w' hw => ⟨(), rfl, St.rdr (hw.sel (M := [blk g 171 [_, .slice a _ c], BtR a s.bs none []]) (by repeat (first | exact Sel.nil | (apply Sel.cons; · (repeat (first | exact Pick.here | apply Pick.there)))))) rfl rfl hs hc⟩
 ·refine gc_region (zxm ?_); refine gp znc ?_; refine gp zfa ?_; refine gp zfa ?_; refine gp zl ?_; refine gp (r_bool (c := false) (r_eqnil rfl (by kernel_rfl)) (decide_eq_false he)) ?_; refine zxm ?_; refine gn ?_; refine gn ?_; refine gn ?_; refine gn ?_; refine gn ?_; refine gn ?_; refine gp zpk ?_; refine gnt (gc_condF rfl rfl ?_); refine gc_skip (gx_then (gsr (zxm ?_))); refine gp znc ?_; refine gp zfa ?_; refine gp zfa ?_; refine gp zl ?_; refine zxa ?_; refine gnt (gc_ret (gx_ret1 rfl (by conv => lhs; whnf) ?_)); have e : doneE σ = s.err := by rw [← hs, WS.st, if_neg he]; rfl
  rw [e]; exact fun w' hw => ⟨(), rfl, St.rdr (hw.sel (M := [blk g 171 [_, .slice a _ c], BtR a s.bs none []]) (by repeat (first | exact Sel.nil | (apply Sel.cons; · (repeat (first | exact Pick.here | apply Pick.there)))))) rfl rfl hs hc⟩
theorem vread_ok {w : World} {F : Nat → Prop} {a : Option Addr} {n c : Nat} {b : List UInt8} (h : stars [] w F) {ea : Nat → Addr} {es : List Nat} [Has es 1] [Has es 2] [Has es 3] [Has es 4] (hE : GErr es w (fun k => ¬ F k) 241 ea) (hx : RdRow w (fun k => ¬ F k) 1 a n (b.map B8)) (hb : n ≤ 1099511627776) :
    Calls Tryz.prog 33 #[.slice a n c] w (Post w F (fun _ : Unit => .tuple #[.agg (stC (readV b).2).toArray, eV 241 ea (readV b).1]) (fun _ => [])) := by
 refine g_enter (env := [(0, .slice a n c)]) Tryz.func33 rfl h Tryz.ntmps33 rfl rfl ?_; refine gsr (zal fun b2 => ?_); refine zxa ?_; refine zxs ?_; refine zxm ?_; refine zc (fun g => ?_) (c := fun w1 F1 F2 h1 h2 hd hst => newReader_ok (TE := 241) (ea := ea) h1 (hx.mv hst.still) hb)
 refine zxa ?_; refine zxs ?_; refine zxm ?_; refine zc (fun x12 => ?_) (c := fun w1 F1 F2 h1 h2 hd hst => rnum_ok (wd := 4) h1 (hE.mv hst.still) (by decide) (by decide))
 refine gl_pureR (fun hxx12 => ?_)
 obtain ⟨gx12, _⟩ := hxx12; refine gp (zbu (cs := stC ⟨(x12 : Int), 0, 0, 0, 0⟩)) ?_; refine zal fun b5 => ?_; refine zsA (stC_len _) (stC_one _) ?_; refine gnt (gc_seq (gsr (gp zfa ?_))); refine gp zfa ?_; refine gp zfa ?_; refine gp (zba (cs := [.pointer (some ⟨b5, 1, none⟩), .pointer (some ⟨b5, 2, none⟩), .pointer (some ⟨b5, 3, none⟩)]) (by exact rfl)) ?_; refine zxm ?_; refine gnt (gc_block (gc_loop (α := Nat × VSt) (fun y => [pureR (y.1 ≤ 3 ∧ i3 y.1 y.2 ∧ y.2.e = (x12 : Int) ∧ a3 (rstep (pNum 4) (.ok b)) y.2 y.1), RdrR 241 ea g (q3 y.1 (rstep (pNum 4) (.ok b))), blk b5 45 (stC y.2), blk b2 45 (stC z13)]) (fun y => [(18, .int .i64 (y.1 : Int))]) [7, 19, 20, 21, 22, 23, 24, 25] (fun y => 3 - y.1) (0, ⟨(x12 : Int), 0, 0, 0, 0⟩) ?_ ?_ ?_))
 ·refine env_start (by kernel_rfl)
 ·exact zlp ⟨Nat.zero_le _, ⟨fun _ => rfl, fun _ => rfl, fun _ => rfl, rfl⟩, rfl, fun j hj => absurd hj (Nat.not_lt_zero _)⟩
 ·intro y u; obtain ⟨k, s⟩ := y; refine gc_pureR (fun hk => ?_)
  obtain ⟨hk, hi3, hse, ha3⟩ := hk; replace hk : k ≤ 3 := hk
  replace hi3 : i3 k s := hi3
  replace hse : s.e = (x12 : Int) := hse
  replace ha3 : a3 (rstep (pNum 4) (.ok b)) s k := ha3
  refine gsr (gp zlt ?_); refine gnt (gc_seq (gif rfl (fun hc19 => ?_) (fun hc19 => ?_)))
  ·try simp only at hc19
   have hk' : k < 3 := by omega
   refine gc_skip ?_; refine gx_then ?_; refine gc_seq ?_; refine gc_block ?_; refine gsr ?_; refine gp (r_index1 (v := .pointer (some ⟨b5, k + 1, none⟩)) rfl rfl Ty.arr_139 Ty.sz_138 Ty.row_138 (by omega) (by omega) (by have h' : k = 0 ∨ k = 1 ∨ k = 2 := (by omega); rcases h' with rfl | rfl | rfl <;> rfl)) ?_; refine zxa ?_; refine gnt (gc_region (zxm ?_)); refine zxm ?_; refine zc (fun x23 => ?_) (c := fun w1 F1 F2 h1 h2 hd hst => rnum_ok (wd := 6) h1 (hE.mv hst.still) (by decide) (by decide))
   refine gl_pureR (fun hxx23 => ?_)
   obtain ⟨gx23, _⟩ := hxx23; refine gp znc ?_; refine gl_stI (i := k + 1) (by repeat (first | exact Pick.here | apply Pick.there)) (by show k + 1 < 5; omega) (stC_p3 hk') ?_; refine gl_nil (gx_block_normal (gx_then (gc_region (gp zad ?_)))); refine zxm ?_; refine gl_nil (zrd ((k + 1, p3 k s (x23 : Int))) ?_ ?_)
   ·show 3 - (k + 1) < 3 - k
    omega
   ·exact zlp (show k + 1 ≤ 3 ∧ i3 (k + 1) (p3 k s (x23 : Int)) ∧ (p3 k s (x23 : Int)).e = (x12 : Int) ∧ a3 _ _ (k + 1) from ⟨by omega, p3_i hk' hi3, p3_e.trans hse, p3_a hk' ha3 gx23⟩)
  ·try simp only at hc19
   have hk' : k = 3 := by omega
   subst hk'; refine gc_exit ?_; refine gx_then_exit ?_; refine gx_round_exit ?_; refine gx_block_hit ?_; refine gx_then (gsr (zxm ?_)); refine zc (fun x27 => ?_) (c := fun w1 F1 F2 h1 h2 hd hst => rnum_ok (wd := 1) h1 (hE.mv hst.still) (by decide) (by decide))
   refine gl_pureR (fun hxx27 => ?_)
   obtain ⟨gx27, _⟩ := hxx27; refine gp zfa ?_; refine zs1 ?_; refine gnt (gc_seq (gsr (zxm ?_))); refine zc (fun _ => ?_) (c := fun w1 F1 F2 h1 h2 hd hst => rdone_ok h1 (hE.mv hst.still))
   have hfin := st_fin (s := s) (by rw [hse]; exact gx12) ha3 gx27
   have hal := allE_fin (z := z13) noz_st hfin.1
   rw [← hfin.2]; refine zxa ?_; refine zxs ?_; refine zxm ?_; refine gp (r_bool (c := decide (¬ doneE (rstep pSt (.ok b)) = 0)) (r_nenil rfl (by kernel_rfl)) (by simp)) ?_; refine gnt (gif rfl (fun hc32 => ?_) (fun hc32 => ?_))
   ·try simp only at hc32
    have h0 : ¬ doneE (rstep pSt (.ok b)) = 0 := by simpa using hc32
    have hne : ¬ (allE pSt z13 b).1 = 0 := by rw [← hal.1]; exact h0
    refine gsr (gp (zbu (cs := stC z13)) ?_); refine zxm ?_; refine zsA (stC_len _) (stC_one _) ?_; refine zxa ?_; refine gnt (gc_ret (gx_then_ret (gx_retct rfl rfl (by conv => lhs; whnf) (ldA Ty.row_45 Ty.sz_45) ?_))); exact fun w' hw => ⟨(), by rw [readV, if_neg hne, ← hal.1], hw.z⟩
   ·try simp only at hc32
    have h0 : doneE (rstep pSt (.ok b)) = 0 := by simpa using hc32
    have he0 : (allE pSt z13 b).1 = 0 := by rw [← hal.1]; exact h0
    have hv := hal.2.1 h0
    refine gc_skip (gx_then (gc_seq (gsr (gp (zLa (cs := stC { s with lf := (x27 : Int) })) ?_)))); refine zc (fun _ => ?_) (c := fun w1 F1 F2 h1 h2 hd hst => vright_ok (s := { s with lf := (x27 : Int) }) h1)
    refine gp znt ?_; refine gnt (gif rfl (fun hc37 => ?_) (fun hc37 => ?_))
    ·try simp only at hc37
     have hk : ¬ ({ s with lf := (x27 : Int) }).ok = true := by simpa using hc37
     have e0 : readV b = (4, z13) := by rw [readV, if_pos he0, hv, if_neg hk]
     refine gc_seq (gc_regionZ 3 [] ?_); refine yps 0 rfl (zbu (cs := stC z13)) ?_; refine yps 1 rfl (r_ld1o rfl Ty.row_26 (hE.c 4 Has.h) (hE.n 4 Has.h)) ?_; refine yos 2 rfl ?_; refine zsA (stC_len _) (stC_one _) ?_; refine yxs ?_; refine yzs rfl ?_; refine zxa ?_; refine gnt (gc_ret (gx_then_ret (gx_retct rfl rfl (by conv => lhs; whnf) (ldA Ty.row_45 Ty.sz_45) ?_))); exact fun w' hw => ⟨(), by rw [e0], hw.z⟩
    ·try simp only at hc37
     have hk : ({ s with lf := (x27 : Int) }).ok = true := by simpa using hc37
     have e0 : readV b = (0, { s with lf := (x27 : Int) }) := by rw [readV, if_pos he0, hv, if_pos hk]
     refine gc_skip (gx_then (gsr (gp (zLa (cs := stC { s with lf := (x27 : Int) })) ?_))); refine zsN ?_; refine zxa ?_; refine gnt (gc_ret (gx_retct rfl rfl (by conv => lhs; whnf) (ldA Ty.row_45 Ty.sz_45) ?_)); exact fun w' hw => ⟨(), by rw [e0]; simp only [eV_zero], hw.z⟩
end
section
inductive All2 {α : Type} (rd : List Value → α → Prop) : List Value → List α → Prop
  | nil : All2 rd [] []
  | cons {v : Value} {x : α} {vs : List Value} {l : List α} : rd [v] x → All2 rd vs l → All2 rd (v :: vs) (x :: l)
theorem All2.len {α : Type} {rd : List Value → α → Prop} {vs : List Value} {l : List α} (h : All2 rd vs l) : vs.length = l.length := by
  induction h with
  | nil => rfl
  | cons _ _ ih => simp [ih]
theorem All2.at {α : Type} {rd : List Value → α → Prop} {vs : List Value} {l : List α} (h : All2 rd vs l) : ∀ (i : Nat) (v : Value) (x : α), vs[i]? = some v → l[i]? = some x → rd [v] x := by
  induction h with
  | nil => intro i v x h1 _; simp at h1
  | cons h1 _ ih =>
    intro i v x hv hx
    cases i with
    | zero => simp at hv hx; subst hv; subst hx; exact h1
    | succ i => exact ih i v x (by simpa using hv) (by simpa using hx)
theorem RdList.of1 {α : Type} {rd : List Value → α → Prop} {w : World} {A : Nat → Prop} {a : Option Addr} {n : Nat} {vs : List Value} {l : List α} (hr : RdRow w A 1 a n vs) (h : All2 rd vs l) : RdList rd w A 1 a n l := by
  refine ⟨vs.map fun v => [v], ?_, by simp, by simp [h.len], fun i c x h1 h2 => ?_⟩
  · have e : (vs.map fun v => [v]).flatten = vs := by
      clear hr h
      induction vs with
      | nil => rfl
      | cons v r ih => simp [ih]
    rw [e]; exact hr
  · rw [List.getElem?_map] at h1
    cases hv : vs[i]? with
    | none => rw [hv] at h1; cases h1
    | some v => rw [hv] at h1; simp at h1; subst h1; exact h.at i v x hv h2
theorem RdBytes.row {L L' : List Res} {w : World} {F1 F2 : Nat → Prop} {e n c : Nat} {a : Option Addr} {b : List UInt8} (h2 : stars L w F2) (hd : ∀ k, F1 k → ¬ F2 k) (hp : Pick L (rowR e 1 a n c (b.map B8)) L') : RdBytes w (fun k => ¬ F1 k) [.slice a n c] b :=
  ⟨_, _, _, rfl, rd_le h2 hp, rd_row h2 hd hp⟩
theorem RdBytes.dig {L L' : List Res} {w : World} {F1 F2 : Nat → Prop} {g T : Nat} {d : Dig} (h2 : stars L w F2) (hd : ∀ k, F1 k → ¬ F2 k) (hp : Pick L (blk g T (dc d)) L') : RdBytes w (fun k => ¬ F1 k) [.slice (some ⟨g, 0 + 0 * 1, none⟩) (16 - 0) (16 - 0)] d.l :=
  ⟨_, _, _, rfl, Nat.le_refl _, rd_blk h2 hd hp (by simp only [dc, List.drop_zero]; exact List.take_of_length_le (by simp [d.h])) (by simp [d.h]) (by decide)⟩
attribute [local irreducible] Gl Gc Gx Gs Runs Wt
theorem forVote_ok {w : World} {F : Nat → Prop} {epoch round high : Int} {d : Dig} (h : stars [] w F) (hK : KR w (fun k => ¬ F k))  :
    Calls Tryz.prog 48 #[.int .i64 epoch, .int .i64 round, .agg (dc d).toArray] w (Post w F (fun _ : Unit => .agg (dc (dOf Kc 7 [beN epoch 8, beN round 8, d.l])).toArray) (fun _ => [])) := by
 refine g_enter (env := [(0, .int .i64 epoch), (1, .int .i64 round), (2, .agg (dc d).toArray)]) Tryz.func48 rfl h Tryz.ntmps48 rfl rfl ?_; refine gsr (zbN fun b5 => ?_); refine zal fun b6 => ?_; refine gnt (gc_seq (gc_regionZ 7 [] ?_)); refine yps 0 rfl zmv ?_; refine yps 2 rfl zmv ?_; refine yps 4 rfl (r_slice_arr (l := 0) (h := 16) rfl Ty.arr_32 Ty.sz_5 rfl rfl (by decide) (by decide) (by decide)) ?_; refine yos 1 rfl ?_; refine zc (fun r8 => ?_) (c := fun w1 F1 F2 h1 h2 hd hst => number9_ok h1)
 refine yxs ?_; refine yos 3 rfl ?_; refine zc (fun r10 => ?_) (c := fun w1 F1 F2 h1 h2 hd hst => number9_ok h1)
 refine yxs ?_; refine yos 5 rfl ?_; refine gl_bsls (vs := [.slice r8.1 8 r8.2, .slice r10.1 8 r10.2, .slice (some ⟨b5, 0 + 0 * 1, none⟩) (16 - 0) (16 - 0)]) (wt0 rfl) Ty.sl_182 Ty.sz_22 Ty.zc_22 rfl rfl (all_cons' rfl (all_cons' rfl (all_cons' rfl all_nil'))) rfl rfl rfl ?_; intro b12; refine yxs ?_; refine yos 6 rfl ?_; refine zc (fun _ => ?_) (c := fun w1 F1 F2 h1 h2 hd hst => of_ok (parts := [beN epoch 8, beN round 8, d.l]) h1 (hK.mv hst.still) (.of1 (rd_row (xs := [.slice r8.1 8 r8.2, .slice r10.1 8 r10.2, .slice (some ⟨b5, 0 + 0 * 1, none⟩) (16 - 0) (16 - 0)]) h2 hd (by repeat (first | exact Pick.here | apply Pick.there))) (.cons (.row h2 hd (by repeat (first | exact Pick.here | apply Pick.there))) (.cons (.row h2 hd (by repeat (first | exact Pick.here | apply Pick.there))) (.cons (.dig h2 hd (by repeat (first | exact Pick.here | apply Pick.there))) .nil)))) (by simp [pcost, beN_length, Dig.h]))
 refine yxs ?_; refine yzs rfl ?_; refine zsA (dc_length _) (dc_one _) ?_; refine gnt (gc_ret (gx_retc rfl rfl (ldA Ty.row_32 Ty.sz_32) ?_)); exact ze ()
theorem forLate_ok {w : World} {F : Nat → Prop} {epoch round high : Int} {d : Dig} (h : stars [] w F) (hK : KR w (fun k => ¬ F k))  :
    Calls Tryz.prog 50 #[.int .i64 epoch, .int .i64 round, .int .i64 high] w (Post w F (fun _ : Unit => .agg (dc (dOf Kc 8 [beN epoch 8, beN round 8, beN high 8])).toArray) (fun _ => [])) := by
 refine g_enter (env := [(0, .int .i64 epoch), (1, .int .i64 round), (2, .int .i64 high)]) Tryz.func50 rfl h Tryz.ntmps50 rfl rfl ?_; refine gsr (zal fun b6 => ?_); refine zxs ?_; refine zxm ?_; refine zc (fun r8 => ?_) (c := fun w1 F1 F2 h1 h2 hd hst => number9_ok h1)
 refine zxm ?_; refine zc (fun r10 => ?_) (c := fun w1 F1 F2 h1 h2 hd hst => number9_ok h1)
 refine zxm ?_; refine zc (fun r12 => ?_) (c := fun w1 F1 F2 h1 h2 hd hst => number9_ok h1)
 refine gl_bsls (vs := [.slice r8.1 8 r8.2, .slice r10.1 8 r10.2, .slice r12.1 8 r12.2]) (wt0 rfl) Ty.sl_182 Ty.sz_22 Ty.zc_22 rfl rfl (all_cons' rfl (all_cons' rfl (all_cons' rfl all_nil'))) rfl rfl rfl ?_; intro b13; refine zc (fun _ => ?_) (c := fun w1 F1 F2 h1 h2 hd hst => of_ok (parts := [beN epoch 8, beN round 8, beN high 8]) h1 (hK.mv hst.still) (.of1 (rd_row (xs := [.slice r8.1 8 r8.2, .slice r10.1 8 r10.2, .slice r12.1 8 r12.2]) h2 hd (by repeat (first | exact Pick.here | apply Pick.there))) (.cons (.row h2 hd (by repeat (first | exact Pick.here | apply Pick.there))) (.cons (.row h2 hd (by repeat (first | exact Pick.here | apply Pick.there))) (.cons (.row h2 hd (by repeat (first | exact Pick.here | apply Pick.there))) .nil)))) (by simp [pcost, beN_length, Dig.h]))
 refine zsA (dc_length _) (dc_one _) ?_; refine gnt (gc_ret (gx_retc rfl rfl (ldA Ty.row_32 Ty.sz_32) ?_)); exact ze ()
theorem forProposal_ok {w : World} {F : Nat → Prop} {epoch round high : Int} {d : Dig} (h : stars [] w F) (hK : KR w (fun k => ¬ F k))  :
    Calls Tryz.prog 83 #[.agg (dc d).toArray] w (Post w F (fun _ : Unit => .agg (dc (dOf Kc 9 [d.l])).toArray) (fun _ => [])) := by
 refine g_enter (env := [(0, .agg (dc d).toArray)]) Tryz.func83 rfl h Tryz.ntmps83 rfl rfl ?_; refine gsr (zbN fun b1 => ?_); refine zal fun b2 => ?_; refine zxs ?_; refine gp (r_slice_arr (l := 0) (h := 16) rfl Ty.arr_32 Ty.sz_5 rfl rfl (by decide) (by decide) (by decide)) ?_; refine ze1 fun b4 => ?_; refine zc (fun _ => ?_) (c := fun w1 F1 F2 h1 h2 hd hst => of_ok (parts := [d.l]) h1 (hK.mv hst.still) (.of1 (rd_row (xs := [.slice (some ⟨b1, 0 + 0 * 1, none⟩) (16 - 0) (16 - 0)]) h2 hd (by repeat (first | exact Pick.here | apply Pick.there))) (.cons (.dig h2 hd (by repeat (first | exact Pick.here | apply Pick.there))) .nil)) (by simp [pcost, beN_length, Dig.h]))
 refine zsA (dc_length _) (dc_one _) ?_; refine gnt (gc_ret (gx_retc rfl rfl (ldA Ty.row_32 Ty.sz_32) ?_)); exact ze ()
end
section
section tail
variable {ro : Option Nat} {P : Program} {ops : Array Oper} {Q : Exit → Act → World → Prop} {md : Region.Mode} {S : World → Prop} {z : Nat}
def waitsF (md : Region.Mode) (ops : Array Oper) : Nat → Nat → Nat → Bool
  | 0, _, _ => false
  | f + 1, i, j => match ops[i]? with
    | some o => (o.after.any fun e => Region.binds md e && Nat.beq e.on j) || (o.after.any fun e => Region.binds md e && waitsF md ops f e.on j)
    | none => false
def ClosedL (md : Region.Mode) (ops : Array Oper) (listed : Array Bool) : Prop := ∀ (i : Nat) (o : Oper) (e : Edge), listed.getD i false = true → ops[i]? = some o → e ∈ o.after → Region.binds md e = true → listed.getD e.on false = true
theorem waitsF_listed {listed : Array Bool} (hc : ClosedL md ops listed) {j : Nat} : ∀ {f i : Nat} {o : Oper}, waitsF md ops f i j = true → ops[i]? = some o → (∀ e ∈ o.after, Region.binds md e = true → listed.getD e.on false = true) → listed.getD j false = true
  | 0, _, _, h, _, _ => by cases h
  | f + 1, i, o, h, ho, hall => by
    simp only [waitsF, ho, Bool.or_eq_true] at h
    rcases h with h | h
    · obtain ⟨e, he, hb⟩ := Array.any_eq_true'.1 h
      simp only [Bool.and_eq_true] at hb
      have := hall e he hb.1
      rwa [Nat.eq_of_beq_eq_true hb.2] at this
    · obtain ⟨e, he, hb⟩ := Array.any_eq_true'.1 h
      simp only [Bool.and_eq_true] at hb
      have hl := hall e he hb.1
      cases ho2 : ops[e.on]? with
      | none =>
        have h3 := hb.2
        cases f with
        | zero => cases h3
        | succ f => simp [waitsF, ho2] at h3
      | some o2 => exact waitsF_listed hc hb.2 ho2 fun e2 he2 hb2 => hc e.on o2 e2 hl ho2 he2 hb2
def tailU (md : Region.Mode) (ops : Array Oper) (z : Nat) : Bool := Nat.blt z ops.size && (List.range ops.size).all fun i => Nat.blt i z || match ops[i]? with
  | some o => ((List.range z).all fun j => waitsF md ops 12 i j) && (Nat.beq i z || o.after.any fun e => Region.binds md e && Nat.beq e.on (i - 1))
  | none => false
def listedU (m z : Nat) : Array Bool := ((List.replicate z true) ++ (List.replicate (m - z) false)).toArray
theorem listedU_lo {m z i : Nat} (h : i < z) : (listedU m z)[i]? = some true := by
  simp only [listedU, List.getElem?_toArray]
  rw [List.getElem?_append_left (by simpa using h), List.getElem?_replicate, if_pos h]
theorem listedU_hi {m z i : Nat} (h : z ≤ i) (hm : i < m) : (listedU m z)[i]? = some false := by
  simp only [listedU, List.getElem?_toArray]
  rw [List.getElem?_append_right (by simpa using h), List.getElem?_replicate, if_pos (by simp; omega)]
theorem tailU_at (h : tailU md ops z = true) {i : Nat} (hi : i < ops.size) (hz : z ≤ i) : ∃ o, ops[i]? = some o ∧ (∀ j, j < z → waitsF md ops 12 i j = true) ∧ (i ≠ z → ∃ e ∈ o.after, Region.binds md e = true ∧ e.on = i - 1) := by
  simp only [tailU, Bool.and_eq_true] at h
  have h2 := List.all_eq_true.1 h.2 i (List.mem_range.2 hi)
  cases ho : ops[i]? with
  | none => simp [ho, Nat.not_lt.2 hz] at h2
  | some o =>
    simp only [ho, Bool.or_eq_true, Nat.blt_eq, Bool.and_eq_true] at h2
    rcases h2 with h2 | ⟨h3, h4⟩
    · omega
    · refine ⟨o, rfl, fun j hj => ?_, fun hne => ?_⟩
      · exact List.all_eq_true.1 h3 j (List.mem_range.2 hj)
      · rcases h4 with h4 | h4
        · exact absurd (Nat.eq_of_beq_eq_true h4) hne
        · obtain ⟨e, he, hb⟩ := Array.any_eq_true'.1 h4
          simp only [Bool.and_eq_true] at hb
          exact ⟨e, he, hb.1, Nat.eq_of_beq_eq_true hb.2⟩
def InvU (md : Region.Mode) (ops : Array Oper) (z : Nat) (listed : Array Bool) : Prop := listed.size = ops.size ∧ (∀ i, z ≤ i → i < ops.size → listed[i]? = some false) ∧ ClosedL md ops listed
theorem getD_some {listed : Array Bool} {i : Nat} (hi : i < listed.size) (h : listed.getD i false = true) : listed[i]? = some true := by
  rw [Array.getElem?_eq_getElem hi]
  simpa [hi] using h
theorem tailU_ready (h : tailU md ops z = true) {listed : Array Bool} (hi : InvU md ops z listed) (hz : z ∈ Region.ready md ops listed) : listed = listedU ops.size z := by
  have hlt : z < ops.size := ready_lt hz
  obtain ⟨o, ho, h1, _⟩ := tailU_at h hlt (Nat.le_refl z)
  obtain ⟨_, o', ho', hall⟩ := mem_ready.1 hz
  rw [ho] at ho'
  cases ho'
  apply Array.ext_getElem?
  intro i
  have hs : (listedU ops.size z).size = ops.size := by simp [listedU]; omega
  by_cases hm : i < ops.size
  · by_cases hiz : i < z
    · have := waitsF_listed hi.2.2 (h1 i hiz) ho hall
      rw [getD_some (by rw [hi.1]; exact hm) this, listedU_lo hiz]
    · rw [hi.2.1 i (by omega) hm, listedU_hi (by omega) hm]
  · rw [Array.getElem?_eq_none (by rw [hi.1]; omega), Array.getElem?_eq_none (by rw [hs]; omega)]
theorem tailU_not (h : tailU md ops z = true) {listed : Array Bool} (hi : InvU md ops z listed) {i : Nat} (hr : i ∈ Region.ready md ops listed) (hz : z < i) : False := by
  have hlt := ready_lt hr
  obtain ⟨o, ho, _, h2⟩ := tailU_at h hlt (by omega)
  obtain ⟨_, o', ho', hall⟩ := mem_ready.1 hr
  rw [ho] at ho'
  cases ho'
  obtain ⟨e, he, hb, hon⟩ := h2 (by omega)
  have h3 := hall e he hb
  rw [hon] at h3
  have := getD_some (by rw [hi.1]; omega) h3
  rw [hi.2.1 (i - 1) (by omega) (by omega)] at this
  cases this
theorem wpAnyIn_of_seqU {Q' : Exit → Act → World → Prop} (x : Nat) : ∀ (l : List Oper) (k : Nat) (listed : Array Bool) (a : Act) (w : World), (∀ j, l[j]? = ops[k + j]?) →
    Region.seqB md ops l.length k listed = true → wpListIn (FR ro) 0 P ops Q' l a w → wpAnyIn (FR ro) 0 P md ops Q' (l.length + x) listed a w
  | [], k, listed, a, w, _, hB, h => wpAnyIn_done' (by simpa [Region.seqB] using hB) h _
  | o :: l, k, listed, a, w, hl, hB, h => by
    have h0 : ops[k]? = some o := by simpa using (hl 0).symm
    simp only [List.length_cons, Region.seqB, Bool.and_eq_true, decide_eq_true_eq] at hB
    rw [show (o :: l).length + x = (l.length + x) + 1 by simp; omega]
    refine ⟨fun h1 => (by rw [hB.1] at h1; cases h1), fun i hi => ?_⟩
    rw [hB.1] at hi
    have hik : i = k := by simpa using hi
    subst hik
    have hw : wpOpIn (FR ro) 0 P ops Q' i (wpListIn (FR ro) 0 P ops Q' l) a w := by unfold wpOpIn; simp only [h0]; exact h
    exact wpOpIn_mono (fun a' w' h' => wpAnyIn_of_seqU x l (i + 1) _ a' w' (fun j => by have := hl (j + 1); simpa [Nat.add_assoc, Nat.add_comm 1 j] using this) hB.2 h') hw
theorem wpAnyIn_of_tailU (h : tailU md ops z = true) (hseq : Region.seqB md ops (ops.size - z) z (listedU ops.size z) = true) : ∀ (fuel : Nat) (listed : Array Bool) (a : Act) (w : World), InvU md ops z listed →
    wpAnyT ro P md ops Q S z (wpListIn (FR ro) 0 P ops Q (ops.toList.drop z)) fuel listed a w → wpAnyIn (FR ro) 0 P md ops Q (fuel + (ops.size - z)) listed a w
  | 0, listed, a, w, hi, H => by
    have hz : z ∈ Region.ready md ops listed := by rw [H.1]; simp
    rw [tailU_ready h hi hz, Nat.zero_add]
    have := wpAnyIn_of_seqU (ro := ro) (Q' := Q) 0 (ops.toList.drop z) z (listedU ops.size z) a w (fun j => by simp [List.getElem?_drop]) (by simpa using hseq) H.2
    simpa using this
  | fuel + 1, listed, a, w, hi, H => by
    by_cases hz : z ∈ Region.ready md ops listed
    · have hl := tailU_ready h hi hz
      have hone : Region.ready md ops listed = [z] := by
        have hn := ready_nodup (md := md) (ops := ops) (listed := listed)
        have hall : ∀ i ∈ Region.ready md ops listed, i = z := fun i hr => by
          rcases Nat.lt_trichotomy i z with hlt | he | hgt
          · exfalso
            have h1 := (mem_ready.1 hr).1
            rw [hl] at h1
            have hm := ready_lt hr
            have h2 := listedU_lo (m := ops.size) hlt
            rw [Array.getD_eq_getD_getElem?, h2] at h1
            cases h1
          · exact he
          · exact (tailU_not h hi hr hgt).elim
        generalize Region.ready md ops listed = r at *
        match r with
        | [] => cases hz
        | [y] => rw [hall y (by simp)]
        | y :: y' :: r' =>
          have h1 := hall y (by simp)
          have h2 := hall y' (by simp)
          subst h1; subst h2
          simp at hn
      have hT := H.1 hone
      rw [hl]
      have := wpAnyIn_of_seqU (ro := ro) (Q' := Q) (fuel + 1) (ops.toList.drop z) z (listedU ops.size z) a w (fun j => by simp [List.getElem?_drop]) (by simpa using hseq) hT
      rw [show fuel + 1 + (ops.size - z) = (ops.toList.drop z).length + (fuel + 1) by simp; omega]
      exact this
    · rw [show fuel + 1 + (ops.size - z) = (fuel + (ops.size - z)) + 1 by omega]
      refine ⟨fun h0 => absurd h0 H.2.1, fun i hr => ?_⟩
      have hne : i ≠ z := fun e => hz (e ▸ hr)
      refine wpOpIn_mono (fun a' w' h' => wpAnyIn_of_tailU h hseq fuel _ a' w' ⟨by simpa using hi.1, fun k hk hm => ?_, fun k o e hk ho he hb => ?_⟩ h'.2) (H.2.2 i hr hne)
      · have hik : i ≠ k := fun e => by
          subst e
          rcases Nat.lt_or_ge z i with hgt | hle
          · exact tailU_not h hi hr hgt
          · omega
        rw [Array.getElem?_setIfInBounds_ne hik]
        exact hi.2.1 k hk hm
      · have hup : ∀ j, listed.getD j false = true → (listed.setIfInBounds i true).getD j false = true := fun j hj => by
          rw [Array.getD_eq_getD_getElem?] at hj ⊢
          by_cases hij : i = j
          · subst hij
            rw [Array.getElem?_setIfInBounds_self]
            split
            · rfl
            · rename_i hn
              rw [Array.getElem?_eq_none (by omega)] at hj; cases hj
          · rw [Array.getElem?_setIfInBounds_ne hij]; exact hj
        by_cases hik : i = k
        · subst hik
          obtain ⟨_, o', ho', hall⟩ := mem_ready.1 hr
          rw [ho] at ho'
          cases ho'
          exact hup _ (hall e he hb)
        · refine hup _ (hi.2.2 k o e ?_ ho he hb)
          rw [Array.getD_eq_getD_getElem?, Array.getElem?_setIfInBounds_ne hik] at hk
          rw [Array.getD_eq_getD_getElem?]; exact hk
end tail
def Gu (P : Program) (w0 : World) (F0 : Nat → Prop) (K L : List Res) (ops : Array Oper) (Q : Exit → Act → World → Prop) (z fuel : Nat) (listed : Array Bool) (n : Fm) (env : Env) : Prop :=
  ∀ w, St w0 F0 L w → wpAnyT n.ro P .any ops Q (St w0 F0 K) z (wpListIn (FR n.ro) 0 P ops Q (ops.toList.drop z)) fuel listed (fr n env) w
def NextU (P : Program) (w0 : World) (F0 : Nat → Prop) (K : List Res) (ops : Array Oper) (Q : Exit → Act → World → Prop) (z fuel : Nat) (listed : Array Bool) (n : Fm) (a : Act) (w : World) : Prop :=
  St w0 F0 K w ∧ wpAnyT n.ro P .any ops Q (St w0 F0 K) z (wpListIn (FR n.ro) 0 P ops Q (ops.toList.drop z)) fuel listed a w
section heldu
variable {P : Program} {w0 : World} {F0 : Nat → Prop} {K L : List Res} {Q : Exit → Act → World → Prop} {n : Fm} {env : Env} {ops : Array Oper} {listed : Array Bool} {fuel z : Nat}
theorem gc_regionU {id : Nat} {l : List Oper} (z : Nat) (K : List Res) (h : Gu P w0 F0 K L l.toArray Q z z (Array.replicate l.length false) n env) (hm : P.follows .mixedOrders = true := by kernel_rfl) (hz : tailU .any l.toArray z = true := by kernel_rfl)
    (hs : Region.seqB .any l.toArray (l.length - z) z (listedU l.length z) = true := by kernel_rfl) : Gc P w0 F0 L (.region id l.toArray true) Q n env := fun w hw =>
  wpIn_region_any hm (by
    have hlt : z < l.length := by
      have := hz
      simp only [tailU, Bool.and_eq_true, Nat.blt_eq, List.size_toArray] at this
      exact this.1
    have := wpAnyIn_of_tailU (ops := l.toArray) hz (by simpa using hs) _ (Array.replicate l.length false) _ _ ⟨by simp, fun i _ hi => by simp at hi; simp [hi], fun i o e hi _ _ _ => by
      rw [Array.getD_eq_getD_getElem?, Array.getElem?_replicate] at hi
      split at hi <;> cases hi⟩ (h _ (hw.drawn (w.drawn + 1)))
    rw [show z + (l.toArray.size - z) = l.toArray.size by simp; omega] at this
    simpa using this)
theorem ypu (i : Nat) {t : Tmp} {op : Op} {ty : TypeId} {pos : String} {af : Array Edge} {gd : Option (Nat × Bool)} {v : Value} {L' : List Res} (hi : ops[i]? = some ⟨some t, op, ty, pos, af, gd⟩) (hR : Runs P w0 F0 K n env ⟨some t, op, ty, pos, af, gd⟩ v)
    (k : Gu P w0 F0 K L ops Q z fuel (listed.setIfInBounds i true) n ((t, v) :: env)) (hw : Wt ops n env ⟨some t, op, ty, pos, af, gd⟩ true := by first | exact wt0 rfl | exact wtgT rfl rfl rfl rfl) (hsel : Sel L K L' := by repeat (first | exact Sel.nil | (apply Sel.cons; · (repeat (first | exact Pick.here | apply Pick.there)))))
    (hs : Region.noSelect ops = true := by kernel_rfl) (hd : noDef ops = true := by kernel_rfl) (hf : Region.free .any ops listed i = true := by kernel_rfl) (hr : (Region.ready .any ops listed).contains i = true := by kernel_rfl) (hz : Nat.beq i z = false := by kernel_rfl)
    (hQ : ∀ c a w, Q (.panic c) (a.put (some t) v) w → Q (.panic c) a w := by exact fun _ _ _ h => h) : Gu P w0 F0 K L ops Q z (fuel + 1) listed n env := fun w hst =>
  wpAnyT_first hi (fun e => by subst e; simp at hz) (Region.noSelect_spec hs) hd hQ fuel listed _ _ (Region.free_spec hi hf) (by simpa using hr) (.inl ⟨hw, fun w' hw' => by rw [fr_eval]; exact hR w' hw'⟩) (hst.sel hsel) (by rw [fr_put]; exact k w hst)
theorem you (i : Nat) {o : Oper} (hi : ops[i]? = some o) (k : Gl P w0 F0 L ops (Exit.then (NextU P w0 F0 K ops Q z fuel (listed.setIfInBounds i true) n) Q) [o] n env) (hr : Region.ready .any ops listed = [i] := by kernel_rfl) (hz : Nat.beq i z = false := by kernel_rfl) : Gu P w0 F0 K L ops Q z (fuel + 1) listed n env := fun w hst =>
  ⟨fun h => (by rw [hr] at h; simp only [List.cons.injEq, and_true] at h; subst h; simp at hz), by rw [hr]; simp, fun j hj _ => by
    rw [hr] at hj
    obtain rfl : j = i := by simpa using hj
    exact wpOpIn_of_list hi (k w hst)⟩
theorem yxu {L' : List Res} {Q' : Exit → Act → World → Prop} (k : Gu P w0 F0 K L ops Q z fuel listed n env) (hsel : Sel L K L' := by repeat (first | exact Sel.nil | (apply Sel.cons; · (repeat (first | exact Pick.here | apply Pick.there))))) : Gl P w0 F0 L ops (Exit.then (NextU P w0 F0 K ops Q z fuel listed n) Q') [] n env := gl_nil fun w hw => ⟨hw.sel hsel, k w hw⟩
theorem yzu {l : List Oper} (k : Gl P w0 F0 L ops Q l n env) (hl : ops.toList.drop z = l := by rfl) (hr : Region.ready .any ops listed = [z] := by kernel_rfl) : Gu P w0 F0 K L ops Q z 0 listed n env := fun w hst => ⟨hr, by rw [hl]; exact k w hst⟩
end heldu
end
section
def lpR (l : Nat) (r : Loop) : Res where
  on w F := (∀ k, F k ↔ k = l) ∧ w.heap[l]? = some (.loop r)
  loc := fun ⟨hF, h⟩ hk => ⟨hF, (hk l ((hF l).2 rfl)).trans h⟩
  ok := fun ⟨hF, h⟩ k hk => by rw [(hF k).1 hk]; exact ⟨_, h, trivial⟩
def dfR (b : Nat) : Res where
  on w F := (∀ k, F k ↔ k = b) ∧ w.heap[b]? = some (.deferred (some []))
  loc := fun ⟨hF, h⟩ hk => ⟨hF, (hk b ((hF b).2 rfl)).trans h⟩
  ok := fun ⟨hF, h⟩ k hk => by rw [(hF k).1 hk]; exact ⟨_, h, trivial⟩
def mkD (b : Nat) : Deferred := { target := .collected b, args := #[] }
def RoundsAt (P : Program) (l : Nat) {α : Type} (enc : Nat → α → Array Value) (G : Nat → α → List Res) (J : Nat → Res) (Jx : Res) (w0 : World) (F0 : Nat → Prop) : Prop :=
  ∀ i x w (F1 F2 : Nat → Prop), stars (G i x ++ [J i]) w F1 → (∀ k, F1 k → ¬ F2 k) → Stp w0 F0 w (fun k => F1 k ∨ F2 k) →
    YieldAt (FR none) 0 P l (enc i x) w (Post w F1 (fun b : Bool => .bool b) fun b => [bif b then J (i + 1) else Jx])
theorem pick_app {r : Res} {L : List Res} : ∀ (G : List Res), Pick (G ++ r :: L) r (G ++ L)
  | [] => .here
  | _ :: G => .there (pick_app G)
theorem stars_out1 {r : Res} {G L : List Res} {w : World} {F : Nat → Prop} (h : stars (G ++ r :: L) w F) : stars (r :: (G ++ L)) w F := (pick_app G).stars h
theorem stars_in1 {r : Res} : ∀ {G L : List Res} {w : World} {F : Nat → Prop}, stars (r :: (G ++ L)) w F → stars (G ++ r :: L) w F
  | [], _, _, _, h => h
  | g :: G, L, w, F, h => by
    have h2 : stars (g :: (r :: (G ++ L))) w F := (Pick.there (Pick.here)).stars h
    obtain ⟨F1, F2, h1, h2, hF, hd⟩ := h2
    exact ⟨F1, F2, h1, stars_in1 h2, hF, hd⟩
theorem stars_tail {B : List Res} : ∀ {A : List Res} {w : World} {F : Nat → Prop}, stars (A ++ B) w F → stars (A ++ [allR B]) w F
  | [], w, F, h => stars_one h
  | a :: A, w, F, ⟨F1, F2, h1, h2, hF, hd⟩ => ⟨F1, F2, h1, stars_tail h2, hF, hd⟩
theorem stars_untail {B : List Res} : ∀ {A : List Res} {w : World} {F : Nat → Prop}, stars (A ++ [allR B]) w F → stars (A ++ B) w F
  | [], w, F, h => stars_one' h
  | a :: A, w, F, ⟨F1, F2, h1, h2, hF, hd⟩ => ⟨F1, F2, h1, stars_untail h2, hF, hd⟩
theorem Stp.turn {w0 w : World} {F0 F : Nat → Prop} {b : Nat} {o : Obj} (h : Stp w0 F0 w F) (hb : F b) : Stp w0 F0 (w.putObj b o) F :=
  ⟨h.os, h.tape, h.output, by rw [World.putObj_size]; exact h.size, fun k hk hn => by
    rw [World.putObj_heap_other (fun e => by subst e; exact (h.own _ hb).elim hn (fun h' => absurd h' (by omega)))]
    exact h.block k hk hn, h.own⟩
theorem stars_put {L : List Res} {w : World} {F : Nat → Prop} {b : Nat} {o : Obj} (h : stars L w F) (hb : ¬ F b) : stars L (w.putObj b o) F :=
  stars_loc h fun k hk => World.putObj_heap_other (fun e => hb (e ▸ hk))
theorem St.lp {w0 w : World} {F0 : Nat → Prop} {l : Nat} {r r' : Loop} {L : List Res} (h : St w0 F0 (lpR l r :: L) w) : w.heap[l]? = some (.loop r) ∧ St w0 F0 (lpR l r' :: L) (w.putObj l (.loop r')) := by
  obtain ⟨F, ⟨F1, F2, ⟨hF1, h1⟩, h2, hF, hd⟩, hst⟩ := h
  have hl : F l := (hF l).2 (.inl ((hF1 l).2 rfl))
  exact ⟨h1, F, ⟨F1, F2, ⟨hF1, World.putObj_heap_same (Array.getElem?_eq_some_iff.1 h1).1⟩, stars_put h2 (hd l ((hF1 l).2 rfl)), hF, hd⟩, hst.turn hl⟩
theorem St.lp_out {w0 w : World} {F0 : Nat → Prop} {l : Nat} {r : Loop} {o : Obj} {L : List Res} (h : St w0 F0 (lpR l r :: L) w) : w.heap[l]? = some (.loop r) ∧ St w0 F0 L (w.putObj l o) := by
  obtain ⟨F, ⟨F1, F2, ⟨hF1, h1⟩, h2, hF, hd⟩, hst⟩ := h
  have hl : F l := (hF l).2 (.inl ((hF1 l).2 rfl))
  exact ⟨h1, F2, stars_put h2 (hd l ((hF1 l).2 rfl)), (hst.turn hl).weak fun k hk => (hF k).2 (.inr hk)⟩
theorem St.df_out {w0 w : World} {F0 : Nat → Prop} {b : Nat} {o : Obj} {L L' : List Res} (h : St w0 F0 L w) (hp : Pick L (dfR b) L') : w.heap[b]? = some (.deferred (some [])) ∧ St w0 F0 L' (w.putObj b o) := by
  obtain ⟨F, hF0, hst⟩ := h
  obtain ⟨F1, F2, ⟨hF1, h1⟩, h2, hF, hd⟩ := hp.stars hF0
  have hl : F b := (hF b).2 (.inl ((hF1 b).2 rfl))
  exact ⟨h1, F2, stars_put h2 (hd b ((hF1 b).2 rfl)), (hst.turn hl).weak fun k hk => (hF k).2 (.inr hk)⟩
section
variable {P : Program} {w0 : World} {F0 : Nat → Prop} {L : List Res} {Q : Exit → Act → World → Prop} {n : Fm} {env : Env} {ops : Array Oper} {rest : List Oper}
theorem roundIn_FR {ro : Option Nat} {l : Nat} {f : FuncId} {tmps : Array Value} {asg bd : Code} {w : World} {R : Ending → World → Prop} : RoundIn (FR ro) 0 P l f tmps asg bd w R ↔ RoundIn (FR none) 0 P l f tmps asg bd w R := Iff.rfl
theorem gl_yield {o : Oper} {l : Nat} {args : Array Value} {L' M : List Res} {α : Type} {V : α → Value} {N : α → List Res} (hw : Wt ops n env o true)
    (he : ∀ w, (execOp (ev n env) o).run P w = (Instr.yield l args).run P w) (hsel : Sel L M L')
    (hc : ∀ w F1 F2, stars M w F1 → stars L' w F2 → (∀ k, F1 k → ¬ F2 k) → Stp w0 F0 w (fun k => F1 k ∨ F2 k) → YieldAt (FR none) 0 P l args w (Post w F1 V N))
    (k : ∀ x, Gl P w0 F0 (N x ++ L') ops Q rest n (pu o.dst (V x) env)) : Gl P w0 F0 L ops Q (o :: rest) n env := by
  intro w hs
  obtain ⟨F, hF, hst⟩ := hs
  obtain ⟨F1, F2, h1, h2, hE, hd⟩ := hsel.split hF
  have hst' : Stp w0 F0 w (fun k => F1 k ∨ F2 k) := by rw [← fp_eq hE]; exact hst
  unfold wpListIn
  rw [if_pos (show Region.wanted o _ = true from hw)]
  obtain ⟨fn, tmps, asg, bd, hy, hr⟩ := hc w F1 F2 h1 h2 hd hst'
  refine Oper.wpIn_round (by rw [fr_eval, he]; exact hy) (RoundIn.mono (roundIn_FR.2 hr) ?_)
  rintro e w' ⟨x, rfl, hx⟩
  exact ⟨V x, rfl, by rw [fr_put]; exact k x w' (St.call hst h2 hE hd hx)⟩
theorem e_yield {d : Option Tmp} {ty : TypeId} {pos : String} {af : Array Edge} {gd : Option (Nat × Bool)} {y : Operand} {l : Nat} {xs : List Operand} {ts : Array TypeId} {vs : List Value} (hy : ev n env y = .func (.yield l) #[] #[]) (hv : xs.map (ev n env) = vs) (w : World) :
    (execOp (ev n env) ⟨d, .call ⟨.value y, xs.toArray, ts⟩, ty, pos, af, gd⟩).run P w = (Instr.yield l vs.toArray).run P w := by
  simp [execOp, resolve, hy, Deferred.ofValue, invoke, hv]
theorem gyd {t : Tmp} {ty : TypeId} {pos : String} {af : Array Edge} {gd : Option (Nat × Bool)} {y : Operand} {l : Nat} {xs : List Operand} {ts : Array TypeId} {vs : List Value} {α : Type} {enc : Nat → α → Array Value} {G : Nat → α → List Res} {J : Nat → Res} {Jx : Res} {L' : List Res}
    (h : RoundsAt P l enc G J Jx w0 F0) (i : Nat) (x : α) (hv2 : enc i x = vs.toArray) (hsel : Sel L (G i x ++ [J i]) L') (k : ∀ b : Bool, Gl P w0 F0 ((bif b then J (i + 1) else Jx) :: L') ops Q rest n ((t, .bool b) :: env))
    (hy : ev n env y = .func (.yield l) #[] #[] := by exact rfl) (hv : xs.map (ev n env) = vs := by exact rfl)
    (hw : Wt ops n env ⟨some t, .call ⟨.value y, xs.toArray, ts⟩, ty, pos, af, gd⟩ true := by exact wt0 rfl) : Gl P w0 F0 L ops Q (⟨some t, .call ⟨.value y, xs.toArray, ts⟩, ty, pos, af, gd⟩ :: rest) n env :=
  gl_yield hw (e_yield hy hv) hsel (fun w F1 F2 h1 _ hd hst => by rw [← hv2]; exact h i x w F1 F2 h1 hd hst) k
theorem gl_pI {p : Prop} (hp : p) (k : Gl P w0 F0 (pureR p :: L) ops Q rest n env) : Gl P w0 F0 L ops Q rest n env := fun w ⟨F, hF, hst⟩ => k w ⟨F, stars_pure_mk hp hF, hst⟩
theorem r_slice3 {d : Option Tmp} {ty : TypeId} {pos : String} {af : Array Edge} {gd : Option (Nat × Bool)} {x lo hi mx : Operand} {T e : TypeId} {a : Option Addr} {m c s l h u : Nat} {k1 k2 k3 : IntKind} (hx : ev n env x = .slice a m c) (ht : sliceT P T = some e) (hs : szT P e = some s)
    (hlo : ev n env lo = .int k1 l) (hhi : ev n env hi = .int k2 h) (hmx : ev n env mx = .int k3 u) (h1 : l ≤ h) (h2 : h ≤ u) (h3 : u ≤ c) :
    Runs P w0 F0 L n env ⟨d, .slice T x (some lo) (some hi) (some mx), ty, pos, af, gd⟩ (.slice (if u = l then a else a.map (·.add (l * s))) (h - l) (u - l)) := fun w _ => by
  have e1 : (Instr.sliceBounds true m c (some (.int k1 l)) (some (.int k2 h)) (some (.int k3 u))).run P w = .ok (l, h, u) w := by
    unfold Instr.sliceBounds
    have a1 : (0:Int) ≤ l ∧ (l:Int) ≤ h := ⟨by omega, by omega⟩
    have a2 : (0:Int) ≤ h ∧ (h:Int) ≤ u := ⟨by omega, by omega⟩
    have a3 : (0:Int) ≤ u ∧ (u:Int) ≤ c := ⟨by omega, by omega⟩
    simp [Instr.sliceBound, asIntOf, h1, h2, h3, Nat.not_lt.2 h1, Nat.not_lt.2 h2, Nat.not_lt.2 h3]
  simp [execOp, hx, hlo, hhi, hmx, Instr.sliceAt, run_underlying (run_sliceT ht), Instr.slice, e1, run_sz hs]
def zipE : List Tmp → List Value → Env → Env
  | t :: ts, v :: vs, e => zipE ts vs ((t, v) :: e)
  | _, _, e => e
theorem fr_zip {n : Fm} : ∀ (ts : List Tmp) (vs : List Value) (e : Env), { (fr n e) with tmps := (ts.zip vs).foldl (fun tmps (t, a) => tmps.setIfInBounds t a) (fr n e).tmps } = fr n (zipE ts vs e)
  | [], _, _ => by simp [zipE, fr]
  | _ :: _, [], _ => by simp [zipE, fr]
  | t :: ts, v :: vs, e => by
    have h : (fr n e).tmps.setIfInBounds t v = (fr n ((t, v) :: e)).tmps := by
      have := fr_put n e (some t) v
      simp only [Act.put, pu] at this
      exact congrArg Act.tmps this
    simp only [List.zip_cons_cons, List.foldl_cons, zipE]
    rw [h]
    exact fr_zip ts vs ((t, v) :: e)
def RoundP (w : World) (F : Nat → Prop) (l : Nat) (r : Loop) (I : Nat → List Res) (X : Nat → Code → List Res) (i : Nat) : Exit → Act → World → Prop
  | .normal, _, w' => St w F (lpR l r :: I (i + 1)) w'
  | .ret, _, w' => St w F (lpR l r :: X i .ret) w'
  | .exit id, _, w' => St w F (lpR l r :: X i (.exit id)) w'
  | _, _, _ => False
def BegK (P : Program) (w : World) (F : Nat → Prop) (l : Nat) (r r' : Loop) (body : Code) (R : Exit → Act → World → Prop) (n : Fm) (a : Act) (w' : World) : Prop :=
  ∃ L env, a = fr n env ∧ St w F (lpR l r :: L) w' ∧ Gc P w F (lpR l r' :: L) body R n env
theorem gx_begin {l : Nat} {r r' : Loop} {body : Code} {R : Exit → Act → World → Prop} (h : Gc P w0 F0 (lpR l r' :: L) body R n env) : Gx w0 F0 (lpR l r :: L) (Exit.then (BegK P w0 F0 l r r' body R n) (fun _ _ _ => False)) .normal n env :=
  fun w hw => ⟨L, env, rfl, hw, h⟩
theorem gx_rdn {l : Nat} {r : Loop} {I : Nat → List Res} {X : Nat → Code → List Res} {i : Nat} (h : ∀ w, St w0 F0 L w → St w0 F0 (lpR l r :: I (i + 1)) w) : Gx w0 F0 L (RoundP w0 F0 l r I X i) .normal n env := h
def IterAt (P : Program) {α β : Type} (gf : Nat) (lb : Array Value) (enc : Nat → α → Array Value) (G : Nat → α → List Res) (fin : β → Option Nat) (O : β → List Res) (vv : β → Value) (l : Nat) (J : Nat → Res) (Jx : Res) (w : World) (F : Nat → Prop) : Prop :=
  RoundsAt P l enc G J Jx w F → Calls P gf (#[.func (.yield l) #[] #[]] ++ lb) w (Post w F vv fun y => (match fin y with | some m => J m | none => Jx) :: O y)
theorem gc_range {g : Operand} {ps : Array Tmp} {assign body : Code} {gf : Nat} {lb : Array Value} {α β : Type} {enc : Nat → α → Array Value} {G : Nat → α → List Res}
    {own L' : List Res} {vv : β → Value} {fin : β → Option Nat} {O : β → List Res} (I : Nat → List Res) (X : Nat → Code → List Res) {ds : List Deferred} {nt : Nat}
    (hg : ev ⟨nt, ds, none⟩ env g = .func (.func gf) #[] lb) (eg : okCall P gf = true) (hsel : Sel L (own ++ I 0) L') (hsz : ∀ i x, (enc i x).size = ps.size)
    (hit : ∀ (l : Nat) (J : Nat → Res) (Jx : Res) w F1 F2, stars (own ++ [J 0]) w F1 → stars L' w F2 → (∀ k, F1 k → ¬ F2 k) → Stp w0 F0 w (fun k => F1 k ∨ F2 k) → IterAt P gf lb enc G fin O vv l J Jx w F1)
    (hrd : ∀ (l : Nat) (r r' : Loop) i x w F1 F2, stars (lpR l r :: (G i x ++ I i)) w F1 → stars L' w F2 → (∀ k, F1 k → ¬ F2 k) → Stp w0 F0 w (fun k => F1 k ∨ F2 k) →
      Gc P w F1 (lpR l r :: (G i x ++ I i)) assign (Exit.then (BegK P w F1 l r r' body (RoundP w F1 l r' I X i) ⟨nt, [], some l⟩) (fun _ _ _ => False)) ⟨nt, [], some l⟩ (zipE ps.toList (enc i x).toList env))
    (hdone : ∀ b y m, fin y = some m → Gx w0 F0 (dfR b :: (I m ++ O y) ++ L') Q .normal ⟨nt, mkD b :: ds, none⟩ env)
    (hstop : ∀ b y i c, fin y = none → Gc P w0 F0 (dfR b :: (X i c ++ O y) ++ L') c Q ⟨nt, mkD b :: ds, none⟩ env) : Gc P w0 F0 L (.rangeFunc g ps assign body) Q ⟨nt, ds, none⟩ env := by
  intro w hw
  refine wpIn_rangeFunc fun fn _ => ?_
  have hrun := run_enterLoop_outer (P := P) (w := w) fn (fr ⟨nt, ds, none⟩ env).tmps ps assign body
  have hl0 : ∀ st pe, ∃ r : Loop, r = { state := st, pending := pe, fn, tmps := (fr ⟨nt, ds, none⟩ env).tmps, params := ps, assign, body, defers := w.heap.size } := fun _ _ => ⟨_, rfl⟩
  obtain ⟨rec, hrec⟩ : ∃ rec : LoopState → Option Code → Loop, rec = fun st pe => { state := st, pending := pe, fn, tmps := (fr ⟨nt, ds, none⟩ env).tmps, params := ps, assign, body, defers := w.heap.size } := ⟨_, rfl⟩
  obtain ⟨F, hF, hst⟩ := hw
  obtain ⟨F1, F2, h1, h2, hE, hd⟩ := hsel.split hF
  have hlt1 := stars_lt h1
  have hlt2 := stars_lt h2
  obtain ⟨wa, hwa⟩ : ∃ wa, (w.alloc (.deferred (some []))).alloc (.loop (rec .ready none)) = wa := ⟨_, rfl⟩
  have hsize : wa.heap.size = w.heap.size + 2 := by rw [← hwa]; simp
  have hold : ∀ k, k < w.heap.size → wa.heap[k]? = w.heap[k]? := fun k hk => by
    rw [← hwa]
    exact (RowKit.Below.heap_alloc _ _ k (by simp; omega)).trans (RowKit.Below.heap_alloc w _ k hk)
  have hL1 : wa.heap[w.heap.size + 1]? = some (.loop (rec .ready none)) := by
    rw [← hwa]; have := World.alloc_heap_new (w.alloc (.deferred (some []))) (.loop (rec .ready none)); rwa [World.size_alloc] at this
  have hB1 : wa.heap[w.heap.size]? = some (.deferred (some [])) := by
    rw [← hwa]; exact (RowKit.Below.heap_alloc _ _ _ (by simp)).trans (World.alloc_heap_new w _)
  have hos : wa.os = w.os ∧ wa.tape = w.tape ∧ wa.output = w.output := by rw [← hwa]; exact ⟨rfl, rfl, rfl⟩
  have h1a : stars (own ++ I 0) wa F1 := stars_loc h1 fun k hk => hold k (hlt1 k hk)
  have h2a : stars L' wa F2 := stars_loc h2 fun k hk => hold k (hlt2 k hk)
  -- what the iterator is handed
  let F1a : Nat → Prop := fun k => k = w.heap.size + 1 ∨ F1 k
  have hown : stars (own ++ lpR (w.heap.size + 1) (rec .ready none) :: I 0) wa F1a :=
    stars_in1 ⟨fun k => k = w.heap.size + 1, F1, ⟨fun k => Iff.rfl, hL1⟩, h1a, fun k => Iff.rfl, fun k hk h => by have := hlt1 k h; omega⟩
  have hown := stars_tail hown
  have hda : ∀ k, F1a k → ¬ F2 k := fun k hk h => hk.elim (fun e => by have := hlt2 k h; omega) (fun h' => hd k h' h)
  let F2a : Nat → Prop := fun k => k = w.heap.size ∨ F2 k
  have h2d : stars (dfR w.heap.size :: L') wa F2a := ⟨fun k => k = w.heap.size, F2, ⟨fun k => Iff.rfl, hB1⟩, h2a, fun k => Iff.rfl, fun k hk h => by have := hlt2 k h; omega⟩
  have hda2 : ∀ k, F1a k → ¬ F2a k := fun k hk h => h.elim (fun e => hk.elim (fun e' => by omega) (fun h' => by have := hlt1 k h'; omega)) (hda k hk)
  have hsta : Stp w0 F0 wa (fun k => F1a k ∨ F2a k) :=
    ⟨hos.1.trans hst.os, hos.2.1.trans hst.tape, hos.2.2.trans hst.output, by rw [hsize]; have := hst.size; omega, fun k hk hn => (hold k (Nat.lt_of_lt_of_le hk hst.size)).trans (hst.block k hk hn),
      fun k hk => by
        have : F k ∨ w.heap.size ≤ k := by
          rcases hk with (h | h) | (h | h)
          · right; omega
          · exact .inl ((hE k).2 (.inl h))
          · right; omega
          · exact .inl ((hE k).2 (.inr h))
        rcases this with h | h
        · exact hst.own k h
        · right; have := hst.size; omega⟩
  let J : Nat → Res := fun i => allR (lpR (w.heap.size + 1) (rec .ready none) :: I i)
  let Jx : Res := exR fun i => exR fun c => allR (lpR (w.heap.size + 1) (rec .done (some c)) :: X i c)
  have hrounds : RoundsAt P (w.heap.size + 1) enc G J Jx wa F1a := by
    intro i x W G1 G2 g1 gd gst
    have g1' : stars (lpR (w.heap.size + 1) (rec .ready none) :: (G i x ++ I i)) W G1 := stars_out1 (stars_untail g1)
    have hl : W.heap[w.heap.size + 1]? = some (.loop (rec .ready none)) := by
      obtain ⟨A, B, ⟨_, h⟩, _⟩ := g1'
      exact h
    have hy := run_yield (P := P) (args := enc i x) hl (by rw [hrec]; exact hsz i x)
    rw [hrec] at hy
    have g2 : stars L' W F2 := stars_loc h2a fun k hk => gst.block k (by have := hlt2 k hk; omega) (fun h => hda k h hk)
    have gd2 : ∀ k, G1 k → ¬ F2 k := fun k hk h => (gst.own k (.inl hk)).elim (fun h' => hda k h' h) (fun h' => by have := hlt2 k h; omega)
    have hall : Stp w0 F0 W (fun k => G1 k ∨ F2 k) := (hsta.trans (gst.frame (F2 := F2a))).weak fun k hk => hk.elim (fun h => .inl (.inl h)) (fun h => .inr (.inr h))
    have hb := hrd (w.heap.size + 1) (rec .ready none) (rec .busy none) i x W G1 F2 g1' g2 gd2 hall
    refine ⟨fn, _, assign, body, hy, roundIn_of_wpIn trivial ?_⟩
    have hA : ({ tmps := ((ps.zip (enc i x)).foldl (fun tmps (t, a) => tmps.setIfInBounds t a) (fr ⟨nt, ds, none⟩ env).tmps), defers := [] } : Act) = fr ⟨nt, [], some (w.heap.size + 1)⟩ (zipE ps.toList (enc i x).toList env) := by
      rw [← fr_zip]
      simp only [fr, Act.mk.injEq, and_true]
      rw [← Array.foldl_toList, Array.toList_zip]
    have hb' := hb W (St.init g1')
    rw [← hA] at hb'
    refine wpIn_mono hb' ?_
    intro e a1 w1 hq
    cases e with
    | normal =>
      obtain ⟨L1, env1, rfl, hs1, hbody⟩ := hq
      obtain ⟨hl1, hs2⟩ := hs1.lp (r' := rec .busy none)
      refine ⟨_, run_beginRound hl1 (by rw [hrec]), ?_⟩
      have hbb := hbody _ (by rw [hrec] at hs2 ⊢; exact hs2)
      rw [hrec] at hbb ⊢
      refine wpIn_mono hbb ?_
      intro e2 a2 w2 hq2
      cases e2 with
      | normal =>
        obtain ⟨hl2, hs3⟩ := St.lp (r' := rec .ready none) hq2
        refine ⟨_, _, run_endRound none hl2, true, rfl, ?_⟩
        rw [hrec] at hs3
        simp only [J, hrec]
        obtain ⟨H, hH, hh⟩ := hs3
        exact ⟨H, stars_all_mk (by rw [List.append_nil]; exact hH), hh⟩
      | ret =>
        obtain ⟨hl2, hs3⟩ := St.lp (r' := rec .done (some .ret)) hq2
        refine ⟨_, _, run_endRound (some .ret) hl2, false, rfl, ?_⟩
        rw [hrec] at hs3
        obtain ⟨H, hH, hh⟩ := hs3
        exact ⟨H, stars_ex_mk i (stars_ex_mk Code.ret (stars_all_mk (by rw [List.append_nil, hrec]; exact hH))), hh⟩
      | exit id =>
        obtain ⟨hl2, hs3⟩ := St.lp (r' := rec .done (some (.exit id))) hq2
        refine ⟨_, _, run_endRound (some (.exit id)) hl2, false, rfl, ?_⟩
        rw [hrec] at hs3
        obtain ⟨H, hH, hh⟩ := hs3
        exact ⟨H, stars_ex_mk i (stars_ex_mk (Code.exit id) (stars_all_mk (by rw [List.append_nil, hrec]; exact hH))), hh⟩
      | goto t => exact hq2.elim
      | panic c => exact hq2.elim
      | outgrown => exact hq2.elim
    | exit id => exact hq.elim
    | ret => exact hq.elim
    | goto t => exact hq.elim
    | panic c => exact hq.elim
    | outgrown => exact hq.elim
  have hcall := hit (w.heap.size + 1) J Jx wa F1a F2 hown h2a hda (hsta.weak fun k hk => hk.elim .inl (fun h => .inr (.inr h))) hrounds
  refine ⟨w.heap.size + 1, [mkD w.heap.size], wa, { target := .fn (.func gf) lb, args := #[.func (.yield (w.heap.size + 1)) #[] #[]] }, wa, gf, #[.func (.yield (w.heap.size + 1)) #[] #[]] ++ lb, wa, ?_, ?_, ?_, ?_, ?_, ?_⟩
  · rw [show (FR (⟨nt, ds, none⟩ : Fm).ro).round = none from rfl, ← hwa, hrec]; exact hrun
  · have hg' : (fr ⟨nt, ds, none⟩ env).eval g = .func (.func gf) #[] lb := by rw [fr_eval]; exact hg
    simp only [resolve, hg']
    simp [go_sem]
  · intro f' _; trivial
  · unfold okCall at eg
    cases hp : P.funcs[gf]? with
    | none => simp [hp] at eg
    | some fn' =>
      cases hb : fn'.body with
      | none => simp [hp, hb] at eg
      | some c =>
        have hn : ¬ fn'.name = "runtime.NumGoroutine" := by simpa [hp, hb] using eg
        simp [invoke, callFunc, program, Sem.run, hp, hb, hn]
  · exact deep_FR _
  · refine callsIn_FR.2 (hcall.mono ?_)
    rintro e w2 ⟨y, rfl, hs⟩
    have hs2 := St.call hsta h2d (fun k => Iff.rfl) hda2 hs
    cases hy : fin y with
    | some m =>
      simp only [hy] at hs2
      have hs3 : St w0 F0 (lpR (w.heap.size + 1) (rec .ready none) :: ((I m ++ O y) ++ (dfR w.heap.size :: L'))) w2 := by
        obtain ⟨H, hH, hh⟩ := hs2
        exact ⟨H, by simpa using stars_all hH, hh⟩
      obtain ⟨hl, hs4⟩ := St.lp_out (o := .loop { (rec .ready none) with state := .exhausted }) hs3
      have hpe : (rec .ready none).pending = none := by rw [hrec]
      refine ⟨none, _, (run_endLoop (P := P) hl (by rw [hrec]; simp)).trans (congrArg (fun p => Result.ok p _) hpe), ?_⟩
      exact hdone w.heap.size y m hy _ (by
        obtain ⟨H, hH, hh⟩ := hs4
        exact ⟨H, stars_out1 hH, hh⟩)
    | none =>
      simp only [hy] at hs2
      obtain ⟨H, hH, hh⟩ := hs2
      obtain ⟨i, hH⟩ := stars_ex hH
      obtain ⟨c, hH⟩ := stars_ex hH
      have hH := stars_all hH
      have hs3 : St w0 F0 (lpR (w.heap.size + 1) (rec .done (some c)) :: ((X i c ++ O y) ++ (dfR w.heap.size :: L'))) w2 := ⟨H, by simpa using hH, hh⟩
      obtain ⟨hl, hs4⟩ := St.lp_out (o := .loop { (rec .done (some c)) with state := .exhausted }) hs3
      have hpe : (rec .done (some c)).pending = some c := by rw [hrec]
      refine ⟨some c, _, (run_endLoop (P := P) hl (by rw [hrec]; simp)).trans (congrArg (fun p => Result.ok p _) hpe), ?_⟩
      exact hstop w.heap.size y i c hy _ (by
        obtain ⟨H, hH, hh⟩ := hs4
        exact ⟨H, stars_out1 hH, hh⟩)
theorem gc_noway {c : Code} {b : Nat} {O L' : List Res} : Gc P w0 F0 (dfR b :: ([pureR False] ++ O) ++ L') c Q n env := fun w hw => by
  obtain ⟨F, hF, _⟩ := hw
  obtain ⟨F1, F2, _, h2, _⟩ := hF
  exact (stars_pure h2).1.elim
theorem gx_thenM {n m : Fm} {y : Code} {Q' : Exit → Act → World → Prop} (h : Gc P w0 F0 L y Q n env) (hr : m.ro = n.ro := by rfl) : Gx w0 F0 L (Exit.then (cwp m P y Q) Q') .normal n env := fun w hw => by
  show y.wpIn (FR m.ro) 0 P Q _ w
  rw [hr]; exact h w hw
def bodyPostN (P : Program) (fn : Func) (R : Ending → World → Prop) : Exit → Act → World → Prop
  | .normal, a, w | .ret, a, w => LeavesInM (FR none) 0 P fn a.tmps R a.defers .returning w
  | _, _, _ => False
theorem g_enterM {f : FuncId} {fn : Func} {c : Code} {args : Array Value} {w : World} {F : Nat → Prop} {R : Ending → World → Prop} (hf : P.funcs[f]? = some fn) (hb : fn.body = some c)
    (hs : stars L w F) {nt : Nat} (hnt : fn.ntmps = nt) (hn : Nat.ble args.size nt = true) (henv : enumE 0 args.toList = env) (h : Gc P w F L c (bodyPostN P fn R) ⟨nt, [], none⟩ env) : Calls P f args w R :=
  callsIn_FR.1 (callsIn_of_wp_marks (F := FR none) (n := 0) hf hb trivial (by subst hnt; subst henv; rw [fr_init _ _ (by exact Nat.le_of_ble_eq_true hn)]; exact wpIn_mono (h w (St.init hs)) (fun e a w' hq => by cases e <;> first | exact hq | exact hq.elim)))
theorem gx_mark {fn : Func} {R : Ending → World → Prop} {b nt : Nat} {ds : List Deferred} {ro : Option Nat} {L' : List Res} (hp : Pick L (dfR b) L') (h : Gx w0 F0 L' (bodyPostN P fn R) .ret ⟨nt, ds, ro⟩ env) : Gx w0 F0 L (bodyPostN P fn R) .ret ⟨nt, mkD b :: ds, ro⟩ env := fun w hw => by
  obtain ⟨hb, hs⟩ := hw.df_out (o := .deferred none) hp
  exact ⟨by simp, .inl ⟨b, _, rfl, run_takeDeferred hb, h _ hs⟩⟩
theorem gx_mark0 {fn : Func} {R : Ending → World → Prop} {nt : Nat} {ro : Option Nat} (h : Gx w0 F0 L (bodyPost P fn R) .ret ⟨nt, [], ro⟩ env) : Gx w0 F0 L (bodyPostN P fn R) .ret ⟨nt, [], ro⟩ env := fun w hw => (h w hw).2
theorem gx_mark0' {fn : Func} {R : Ending → World → Prop} {nt : Nat} {ro : Option Nat} (h : Gx w0 F0 L (bodyPost P fn R) .normal ⟨nt, [], ro⟩ env) : Gx w0 F0 L (bodyPostN P fn R) .normal ⟨nt, [], ro⟩ env := fun w hw => (h w hw).2
end
end
section
def RdMap (w : World) (A : Nat → Prop) (g : Nat) (l : List (Value × Value)) : Prop := A g ∧ ∃ es clock, w.heap[g]? = some (.map es clock) ∧ kvs es = l
theorem RdMap.mv {w w' : World} {A A' : Nat → Prop} {g : Nat} {l : List (Value × Value)} (h : RdMap w A g l) (hk : ∀ k, k < w.heap.size → A k → w'.heap[k]? = w.heap[k]? ∧ A' k) : RdMap w' A' g l := by
  obtain ⟨hA, es, clock, hh, hkv⟩ := h
  have := hk g (Array.getElem?_eq_some_iff.1 hh).1 hA
  exact ⟨this.2, es, clock, this.1.trans hh, hkv⟩
theorem mapR.rd {g : Nat} {l : List (Value × Value)} {w : World} {F : Nat → Prop} (h : (mapR g l).on w F) : RdMap w F g l := by
  obtain ⟨hF, es, clock, hh, hk, _⟩ := h
  exact ⟨(hF g).2 rfl, es, clock, hh, hk⟩
section
variable {P : Program} {w0 : World} {F0 : Nat → Prop} {L : List Res} {Q : Exit → Act → World → Prop} {n : Fm} {env : Env} {ops : Array Oper} {rest : List Oper}
variable {d : Option Tmp} {t : Tmp} {ty : TypeId} {pos : String} {af : Array Edge} {gd : Option (Nat × Bool)}
section
variable {α : Type} [DecidableEq α] {K : α → Value}
end
theorem gx_lp {l : Nat} {r : Loop} {L' : List Res} {e : Exit} (hp : Pick L (lpR l r) L') (h : Gx w0 F0 (lpR l r :: L') Q e n env) : Gx w0 F0 L Q e n env := fun w hw => h w (hw.pick hp)
end
end
section
def RoundsH (P : Program) (l : Nat) {α : Type} (enc : Nat → α → Array Value) (G : Nat → α → List Res) (H : Nat → α → Res) (J : Nat → Res) (Jx : Res) (w0 : World) (F0 : Nat → Prop) : Prop :=
  ∀ i x w (F1 F2 : Nat → Prop), stars (G i x ++ [J i]) w F1 → (∀ k, F1 k → ¬ F2 k) → Stp w0 F0 w (fun k => F1 k ∨ F2 k) →
    YieldAt (FR none) 0 P l (enc i x) w (Post w F1 (fun b : Bool => .bool b) fun b => [bif b then J (i + 1) else Jx, H i x])
def IterH (P : Program) {α β : Type} (gf : Nat) (lb : Array Value) (enc : Nat → α → Array Value) (G : Nat → α → List Res) (H : Nat → α → Res) (fin : β → Option Nat) (O : β → List Res) (vv : β → Value) (l : Nat) (J : Nat → Res) (Jx : Res) (w : World) (F : Nat → Prop) : Prop :=
  RoundsH P l enc G H J Jx w F → Calls P gf (#[.func (.yield l) #[] #[]] ++ lb) w (Post w F vv fun y => (match fin y with | some m => J m | none => Jx) :: O y)
section
variable {P : Program} {w0 : World} {F0 : Nat → Prop} {L : List Res} {Q : Exit → Act → World → Prop} {n : Fm} {env : Env} {ops : Array Oper} {rest : List Oper}
theorem gydH {t : Tmp} {ty : TypeId} {pos : String} {af : Array Edge} {gd : Option (Nat × Bool)} {y : Operand} {l : Nat} {xs : List Operand} {ts : Array TypeId} {vs : List Value} {α : Type} {enc : Nat → α → Array Value} {G : Nat → α → List Res} {H : Nat → α → Res} {J : Nat → Res} {Jx : Res} {L' : List Res}
    (h : RoundsH P l enc G H J Jx w0 F0) (i : Nat) (x : α) (hv2 : enc i x = vs.toArray) (hsel : Sel L (G i x ++ [J i]) L') (k : ∀ b : Bool, Gl P w0 F0 ((bif b then J (i + 1) else Jx) :: H i x :: L') ops Q rest n ((t, .bool b) :: env))
    (hy : ev n env y = .func (.yield l) #[] #[] := by exact rfl) (hv : xs.map (ev n env) = vs := by exact rfl)
    (hw : Wt ops n env ⟨some t, .call ⟨.value y, xs.toArray, ts⟩, ty, pos, af, gd⟩ true := by exact wt0 rfl) : Gl P w0 F0 L ops Q (⟨some t, .call ⟨.value y, xs.toArray, ts⟩, ty, pos, af, gd⟩ :: rest) n env :=
  gl_yield hw (e_yield hy hv) hsel (fun w F1 F2 h1 _ hd hst => by rw [← hv2]; exact h i x w F1 F2 h1 hd hst) k
theorem gc_rangeH {g : Operand} {ps : Array Tmp} {assign body : Code} {gf : Nat} {lb : Array Value} {α β : Type} {enc : Nat → α → Array Value} {G : Nat → α → List Res} {H : Nat → α → Res}
    {own L' : List Res} {vv : β → Value} {fin : β → Option Nat} {O : β → List Res} (I : Nat → List Res) (X : Nat → Code → List Res) {ds : List Deferred} {nt : Nat}
    (hg : ev ⟨nt, ds, none⟩ env g = .func (.func gf) #[] lb) (eg : okCall P gf = true) (hsel : Sel L (own ++ I 0) L') (hsz : ∀ i x, (enc i x).size = ps.size)
    (hit : ∀ (l : Nat) (J : Nat → Res) (Jx : Res) w F1 F2, stars (own ++ [J 0]) w F1 → stars L' w F2 → (∀ k, F1 k → ¬ F2 k) → Stp w0 F0 w (fun k => F1 k ∨ F2 k) → IterH P gf lb enc G H fin O vv l J Jx w F1)
    (hrd : ∀ (l : Nat) (r r' : Loop) i x w F1 F2, stars (lpR l r :: (G i x ++ I i)) w F1 → stars L' w F2 → (∀ k, F1 k → ¬ F2 k) → Stp w0 F0 w (fun k => F1 k ∨ F2 k) →
      Gc P w F1 (lpR l r :: (G i x ++ I i)) assign (Exit.then (BegK P w F1 l r r' body (RoundP w F1 l r' (fun j => I j ++ [H i x]) (fun j c => X j c ++ [H i x]) i) ⟨nt, [], some l⟩) (fun _ _ _ => False)) ⟨nt, [], some l⟩ (zipE ps.toList (enc i x).toList env))
    (hdone : ∀ b y m, fin y = some m → Gx w0 F0 (dfR b :: (I m ++ O y) ++ L') Q .normal ⟨nt, mkD b :: ds, none⟩ env)
    (hstop : ∀ b y i c, fin y = none → Gc P w0 F0 (dfR b :: (X i c ++ O y) ++ L') c Q ⟨nt, mkD b :: ds, none⟩ env) : Gc P w0 F0 L (.rangeFunc g ps assign body) Q ⟨nt, ds, none⟩ env := by
  intro w hw
  refine wpIn_rangeFunc fun fn _ => ?_
  have hrun := run_enterLoop_outer (P := P) (w := w) fn (fr ⟨nt, ds, none⟩ env).tmps ps assign body
  have hl0 : ∀ st pe, ∃ r : Loop, r = { state := st, pending := pe, fn, tmps := (fr ⟨nt, ds, none⟩ env).tmps, params := ps, assign, body, defers := w.heap.size } := fun _ _ => ⟨_, rfl⟩
  obtain ⟨rec, hrec⟩ : ∃ rec : LoopState → Option Code → Loop, rec = fun st pe => { state := st, pending := pe, fn, tmps := (fr ⟨nt, ds, none⟩ env).tmps, params := ps, assign, body, defers := w.heap.size } := ⟨_, rfl⟩
  obtain ⟨F, hF, hst⟩ := hw
  obtain ⟨F1, F2, h1, h2, hE, hd⟩ := hsel.split hF
  have hlt1 := stars_lt h1
  have hlt2 := stars_lt h2
  obtain ⟨wa, hwa⟩ : ∃ wa, (w.alloc (.deferred (some []))).alloc (.loop (rec .ready none)) = wa := ⟨_, rfl⟩
  have hsize : wa.heap.size = w.heap.size + 2 := by rw [← hwa]; simp
  have hold : ∀ k, k < w.heap.size → wa.heap[k]? = w.heap[k]? := fun k hk => by
    rw [← hwa]
    exact (RowKit.Below.heap_alloc _ _ k (by simp; omega)).trans (RowKit.Below.heap_alloc w _ k hk)
  have hL1 : wa.heap[w.heap.size + 1]? = some (.loop (rec .ready none)) := by
    rw [← hwa]; have := World.alloc_heap_new (w.alloc (.deferred (some []))) (.loop (rec .ready none)); rwa [World.size_alloc] at this
  have hB1 : wa.heap[w.heap.size]? = some (.deferred (some [])) := by
    rw [← hwa]; exact (RowKit.Below.heap_alloc _ _ _ (by simp)).trans (World.alloc_heap_new w _)
  have hos : wa.os = w.os ∧ wa.tape = w.tape ∧ wa.output = w.output := by rw [← hwa]; exact ⟨rfl, rfl, rfl⟩
  have h1a : stars (own ++ I 0) wa F1 := stars_loc h1 fun k hk => hold k (hlt1 k hk)
  have h2a : stars L' wa F2 := stars_loc h2 fun k hk => hold k (hlt2 k hk)
  -- what the iterator is handed
  let F1a : Nat → Prop := fun k => k = w.heap.size + 1 ∨ F1 k
  have hown : stars (own ++ lpR (w.heap.size + 1) (rec .ready none) :: I 0) wa F1a :=
    stars_in1 ⟨fun k => k = w.heap.size + 1, F1, ⟨fun k => Iff.rfl, hL1⟩, h1a, fun k => Iff.rfl, fun k hk h => by have := hlt1 k h; omega⟩
  have hown := stars_tail hown
  have hda : ∀ k, F1a k → ¬ F2 k := fun k hk h => hk.elim (fun e => by have := hlt2 k h; omega) (fun h' => hd k h' h)
  let F2a : Nat → Prop := fun k => k = w.heap.size ∨ F2 k
  have h2d : stars (dfR w.heap.size :: L') wa F2a := ⟨fun k => k = w.heap.size, F2, ⟨fun k => Iff.rfl, hB1⟩, h2a, fun k => Iff.rfl, fun k hk h => by have := hlt2 k h; omega⟩
  have hda2 : ∀ k, F1a k → ¬ F2a k := fun k hk h => h.elim (fun e => hk.elim (fun e' => by omega) (fun h' => by have := hlt1 k h'; omega)) (hda k hk)
  have hsta : Stp w0 F0 wa (fun k => F1a k ∨ F2a k) :=
    ⟨hos.1.trans hst.os, hos.2.1.trans hst.tape, hos.2.2.trans hst.output, by rw [hsize]; have := hst.size; omega, fun k hk hn => (hold k (Nat.lt_of_lt_of_le hk hst.size)).trans (hst.block k hk hn),
      fun k hk => by
        have : F k ∨ w.heap.size ≤ k := by
          rcases hk with (h | h) | (h | h)
          · right; omega
          · exact .inl ((hE k).2 (.inl h))
          · right; omega
          · exact .inl ((hE k).2 (.inr h))
        rcases this with h | h
        · exact hst.own k h
        · right; have := hst.size; omega⟩
  let J : Nat → Res := fun i => allR (lpR (w.heap.size + 1) (rec .ready none) :: I i)
  let Jx : Res := exR fun i => exR fun c => allR (lpR (w.heap.size + 1) (rec .done (some c)) :: X i c)
  have hrounds : RoundsH P (w.heap.size + 1) enc G H J Jx wa F1a := by
    intro i x W G1 G2 g1 gd gst
    have g1' : stars (lpR (w.heap.size + 1) (rec .ready none) :: (G i x ++ I i)) W G1 := stars_out1 (stars_untail g1)
    have hl : W.heap[w.heap.size + 1]? = some (.loop (rec .ready none)) := by
      obtain ⟨A, B, ⟨_, h⟩, _⟩ := g1'
      exact h
    have hy := run_yield (P := P) (args := enc i x) hl (by rw [hrec]; exact hsz i x)
    rw [hrec] at hy
    have g2 : stars L' W F2 := stars_loc h2a fun k hk => gst.block k (by have := hlt2 k hk; omega) (fun h => hda k h hk)
    have gd2 : ∀ k, G1 k → ¬ F2 k := fun k hk h => (gst.own k (.inl hk)).elim (fun h' => hda k h' h) (fun h' => by have := hlt2 k h; omega)
    have hall : Stp w0 F0 W (fun k => G1 k ∨ F2 k) := (hsta.trans (gst.frame (F2 := F2a))).weak fun k hk => hk.elim (fun h => .inl (.inl h)) (fun h => .inr (.inr h))
    have hb := hrd (w.heap.size + 1) (rec .ready none) (rec .busy none) i x W G1 F2 g1' g2 gd2 hall
    refine ⟨fn, _, assign, body, hy, roundIn_of_wpIn trivial ?_⟩
    have hA : ({ tmps := ((ps.zip (enc i x)).foldl (fun tmps (t, a) => tmps.setIfInBounds t a) (fr ⟨nt, ds, none⟩ env).tmps), defers := [] } : Act) = fr ⟨nt, [], some (w.heap.size + 1)⟩ (zipE ps.toList (enc i x).toList env) := by
      rw [← fr_zip]
      simp only [fr, Act.mk.injEq, and_true]
      rw [← Array.foldl_toList, Array.toList_zip]
    have hb' := hb W (St.init g1')
    rw [← hA] at hb'
    refine wpIn_mono hb' ?_
    intro e a1 w1 hq
    cases e with
    | normal =>
      obtain ⟨L1, env1, rfl, hs1, hbody⟩ := hq
      obtain ⟨hl1, hs2⟩ := hs1.lp (r' := rec .busy none)
      refine ⟨_, run_beginRound hl1 (by rw [hrec]), ?_⟩
      have hbb := hbody _ (by rw [hrec] at hs2 ⊢; exact hs2)
      rw [hrec] at hbb ⊢
      refine wpIn_mono hbb ?_
      intro e2 a2 w2 hq2
      cases e2 with
      | normal =>
        obtain ⟨hl2, hs3⟩ := St.lp (r' := rec .ready none) hq2
        refine ⟨_, _, run_endRound none hl2, true, rfl, ?_⟩
        rw [hrec] at hs3
        simp only [J, hrec]
        obtain ⟨Z, hH, hh⟩ := hs3
        exact ⟨Z, stars_all_mk (by exact hH), hh⟩
      | ret =>
        obtain ⟨hl2, hs3⟩ := St.lp (r' := rec .done (some .ret)) hq2
        refine ⟨_, _, run_endRound (some .ret) hl2, false, rfl, ?_⟩
        rw [hrec] at hs3
        obtain ⟨Z, hH, hh⟩ := hs3
        exact ⟨Z, stars_ex_mk i (stars_ex_mk Code.ret (stars_all_mk (by rw [hrec]; exact hH))), hh⟩
      | exit id =>
        obtain ⟨hl2, hs3⟩ := St.lp (r' := rec .done (some (.exit id))) hq2
        refine ⟨_, _, run_endRound (some (.exit id)) hl2, false, rfl, ?_⟩
        rw [hrec] at hs3
        obtain ⟨Z, hH, hh⟩ := hs3
        exact ⟨Z, stars_ex_mk i (stars_ex_mk (Code.exit id) (stars_all_mk (by rw [hrec]; exact hH))), hh⟩
      | goto t => exact hq2.elim
      | panic c => exact hq2.elim
      | outgrown => exact hq2.elim
    | exit id => exact hq.elim
    | ret => exact hq.elim
    | goto t => exact hq.elim
    | panic c => exact hq.elim
    | outgrown => exact hq.elim
  have hcall := hit (w.heap.size + 1) J Jx wa F1a F2 hown h2a hda (hsta.weak fun k hk => hk.elim .inl (fun h => .inr (.inr h))) hrounds
  refine ⟨w.heap.size + 1, [mkD w.heap.size], wa, { target := .fn (.func gf) lb, args := #[.func (.yield (w.heap.size + 1)) #[] #[]] }, wa, gf, #[.func (.yield (w.heap.size + 1)) #[] #[]] ++ lb, wa, ?_, ?_, ?_, ?_, ?_, ?_⟩
  · rw [show (FR (⟨nt, ds, none⟩ : Fm).ro).round = none from rfl, ← hwa, hrec]; exact hrun
  · have hg' : (fr ⟨nt, ds, none⟩ env).eval g = .func (.func gf) #[] lb := by rw [fr_eval]; exact hg
    simp only [resolve, hg']
    simp [go_sem]
  · intro f' _; trivial
  · unfold okCall at eg
    cases hp : P.funcs[gf]? with
    | none => simp [hp] at eg
    | some fn' =>
      cases hb : fn'.body with
      | none => simp [hp, hb] at eg
      | some c =>
        have hn : ¬ fn'.name = "runtime.NumGoroutine" := by simpa [hp, hb] using eg
        simp [invoke, callFunc, program, Sem.run, hp, hb, hn]
  · exact deep_FR _
  · refine callsIn_FR.2 (hcall.mono ?_)
    rintro e w2 ⟨y, rfl, hs⟩
    have hs2 := St.call hsta h2d (fun k => Iff.rfl) hda2 hs
    cases hy : fin y with
    | some m =>
      simp only [hy] at hs2
      have hs3 : St w0 F0 (lpR (w.heap.size + 1) (rec .ready none) :: ((I m ++ O y) ++ (dfR w.heap.size :: L'))) w2 := by
        obtain ⟨H, hH, hh⟩ := hs2
        exact ⟨H, by simpa using stars_all hH, hh⟩
      obtain ⟨hl, hs4⟩ := St.lp_out (o := .loop { (rec .ready none) with state := .exhausted }) hs3
      have hpe : (rec .ready none).pending = none := by rw [hrec]
      refine ⟨none, _, (run_endLoop (P := P) hl (by rw [hrec]; simp)).trans (congrArg (fun p => Result.ok p _) hpe), ?_⟩
      exact hdone w.heap.size y m hy _ (by
        obtain ⟨H, hH, hh⟩ := hs4
        exact ⟨H, stars_out1 hH, hh⟩)
    | none =>
      simp only [hy] at hs2
      obtain ⟨H, hH, hh⟩ := hs2
      obtain ⟨i, hH⟩ := stars_ex hH
      obtain ⟨c, hH⟩ := stars_ex hH
      have hH := stars_all hH
      have hs3 : St w0 F0 (lpR (w.heap.size + 1) (rec .done (some c)) :: ((X i c ++ O y) ++ (dfR w.heap.size :: L'))) w2 := ⟨H, by simpa using hH, hh⟩
      obtain ⟨hl, hs4⟩ := St.lp_out (o := .loop { (rec .done (some c)) with state := .exhausted }) hs3
      have hpe : (rec .done (some c)).pending = some c := by rw [hrec]
      refine ⟨some c, _, (run_endLoop (P := P) hl (by rw [hrec]; simp)).trans (congrArg (fun p => Result.ok p _) hpe), ?_⟩
      exact hstop w.heap.size y i c hy _ (by
        obtain ⟨H, hH, hh⟩ := hs4
        exact ⟨H, stars_out1 hH, hh⟩)
def RoundKF {α : Type} (w0 : World) (F0 : Nat → Prop) (Ls : α → List Res) (slots : α → Env) (junk : List Nat) (μ : α → Nat) (nf : α → Fm) (env : Env) (m : Nat) (act : Act) (w : World) : Prop :=
  ∃ a u, μ a < m ∧ act = fr (nf a) (headE slots junk env a u) ∧ St w0 F0 (Ls a) w
theorem gc_loopF {α : Type} {c : Code} (nf : α → Fm) (Ls : α → List Res) (slots : α → Env) (junk : List Nat) (μ : α → Nat) (a0 : α) (hnf : ∀ a, (nf a).ro = n.ro) (hn0 : nf a0 = n)
    (henv : fr n env = fr n (headE slots junk env a0 (Env.get env))) (h0 : ∀ w, St w0 F0 L w → St w0 F0 (Ls a0) w)
    (round : ∀ a u, Gc P w0 F0 (Ls a) c (Exit.then (RoundKF w0 F0 Ls slots junk μ nf env (μ a)) Q) (nf a) (headE slots junk env a u)) : Gc P w0 F0 L (.loop c) Q n env := by
  intro w hw
  have henv' : fr n env = fr (nf a0) (headE slots junk env a0 (Env.get env)) := by rw [hn0]; exact henv
  rw [henv']
  have round' : ∀ a u w, St w0 F0 (Ls a) w → Code.wpIn (FR n.ro) 0 P c (Exit.then (RoundKF w0 F0 Ls slots junk μ nf env (μ a)) Q) (fr (nf a) (headE slots junk env a u)) w := fun a u w hs => by
    have h := round a u w hs
    rw [show FR n.ro = FR (nf a).ro by rw [hnf]]
    exact h
  intro b k cs hro hb hr
  have key : ∀ m a u w, μ a = m → St w0 F0 (Ls a) w →
      ∃ e a' w', Q e a' w' ∧ ArrivesIn (Machine.fenced P (FR n.ro)) P (lone (b.atR (fr (nf a) (headE slots junk env a u)) (.code c :: .inLoop c :: k)) cs w) b k cs e a' w' := by
    intro m
    induction m using Nat.strongRecOn with
    | _ m ih =>
      intro a u w hm hs
      obtain ⟨e, a₁, w₁, hq, harr⟩ := round' a u w hs b (.inLoop c :: k) cs hro hb hr
      cases e with
      | normal =>
        obtain ⟨a', u', hlt, rfl, hs'⟩ := hq
        obtain ⟨e₂, a₂, w₂, hq₂, harr₂⟩ := ih (μ a') (hm ▸ hlt) a' u' w₁ rfl hs'
        exact ⟨e₂, a₂, w₂, hq₂, .of_steps (StepsIn.trans harr (.one (fenced_calm hb hr rfl) stepR_inLoop)) harr₂⟩
      | exit id => exact ⟨_, a₁, w₁, hq, .pass (x := .inLoop c) rfl (fun _ _ => .inl (by simp)) harr⟩
      | goto l => exact ⟨_, a₁, w₁, hq, .pass (x := .inLoop c) rfl (fun _ _ => .inl (by simp)) harr⟩
      | ret => exact ⟨_, a₁, w₁, hq, .pass (x := .inLoop c) rfl (fun _ _ => .inl (by simp)) harr⟩
      | panic ch => exact ⟨_, a₁, w₁, hq, .pass (x := .inLoop c) rfl (fun _ _ => .inl (by simp)) harr⟩
      | outgrown => exact ⟨_, a₁, w₁, hq, .pass (x := .inLoop c) rfl (fun _ _ => .inl (by simp)) harr⟩
  obtain ⟨e, a', w', hq, harr⟩ := key _ a0 (Env.get env) w rfl (h0 w hw)
  exact ⟨e, a', w', hq, .of_steps (.one (fenced_calm hb hr rfl) stepR_loop) harr⟩
theorem zrdF {α : Type} {Ls : α → List Res} {slots : α → Env} {junk : List Nat} {μ : α → Nat} {nf : α → Fm} {env0 : Env} {m : Nat} {a0 : α} {u : Nat → Value} {f : List Nat} (a : α) (hm : μ a < m) (hL : ∀ w, St w0 F0 L w → St w0 F0 (Ls a) w) (hn : nf a = n := by rfl)
    (hf : Front (headE slots junk env0 a0 u) env f := by repeat (first | exact Front.here | apply Front.there)) (hs : (slots a).map (fun p => Env.get env p.1) = (slots a).map Prod.snd := by kernel_rfl)
    (hk : f.all (fun t => ((slots a).map Prod.fst).contains t || junk.contains t) = true := by kernel_rfl) (hkeys : (slots a0).map Prod.fst = (slots a).map Prod.fst := by rfl) :
    Gx w0 F0 L (Exit.then (RoundKF w0 F0 Ls slots junk μ nf env0 m) Q) .normal n env := fun w hw => ⟨a, Env.get env, hm, by rw [hn]; exact env_next hf hs hk hkeys, hL w hw⟩
def dfsR : List Nat → List Res
  | [] => []
  | b :: bs => dfR b :: dfsR bs
theorem leaves_marks {fn : Func} {R : Ending → World → Prop} {tmps : Array Value} {ro : Option Nat} : ∀ (bs : List Nat) {L' : List Res} {w : World}, St w0 F0 (dfsR bs ++ L') w → (∀ w, St w0 F0 L' w → LeavesInM (FR ro) 0 P fn tmps R [] .returning w) → LeavesInM (FR ro) 0 P fn tmps R (bs.map mkD) .returning w
  | [], _, w, hs, h => h w hs
  | b :: bs, L', w, hs, h => by
    obtain ⟨hb, hs'⟩ := St.df_out (o := .deferred none) hs .here
    exact ⟨by simp, .inl ⟨b, _, rfl, run_takeDeferred hb, leaves_marks bs hs' h⟩⟩
theorem gx_marks' {fn : Func} {R : Ending → World → Prop} {bs : List Nat} {nt : Nat} {ro : Option Nat} {L' : List Res} (hp : Pick L (allR (dfsR bs)) L') (h : Gx w0 F0 L' (bodyPostN P fn R) .normal ⟨nt, [], ro⟩ env) : Gx w0 F0 L (bodyPostN P fn R) .normal ⟨nt, bs.map mkD, ro⟩ env := fun w hw => by
  obtain ⟨F, hF, hst⟩ := hw.pick hp
  exact leaves_marks bs ⟨F, stars_all hF, hst⟩ (fun w hs => h w hs)
end
end
section
section
variable {w0 w : World} {F F0 : Nat → Prop} {L L' : List Res} {Q : Exit → Act → World → Prop} {n : Fm} {env : Env} {ops : Array Oper} {rest : List Oper} {P : Program}
theorem St.rowAt {e size a m c} {xs : List Value} (hw : St w0 F0 L w) (hp : Pick L (rowR e size a m c xs) L') (hm : 0 < m) : m ≤ c ∧ ∃ g o, a = some ⟨g, o, none⟩ := by
  obtain ⟨F, hF, _⟩ := hw
  obtain ⟨F1, ⟨h1, h2, h3, h4⟩, _⟩ := stars_pick hp hF
  refine ⟨h2, ?_⟩
  rcases h4 with ⟨_, hc, _⟩ | ⟨g, o, _, _, ha, _⟩
  · omega
  · exact ⟨g, o, ha⟩
theorem r_ldRow {d : Option Tmp} {ty : TypeId} {pos : String} {af : Array Edge} {gd : Option (Nat × Bool)} {x : Operand} {T e g o m c s i : Nat} {css : List (List Value)} {cs : List Value} {L' : List Res} (hx : ev n env x = .pointer (some ⟨g, o + i * s, none⟩)) (hr : rowT P T = some true) (hs : szT P T = some s)
    (hp : Pick L (rowR e s (some ⟨g, o, none⟩) m c css.flatten) L') (hcs : ∀ c ∈ css, c.length = s) (hi : css[i]? = some cs) (him : i < m) : Runs P w0 F0 L n env ⟨d, .load T x, ty, pos, af, gd⟩ (.agg cs.toArray) := r_load hx fun w hw => by
  obtain ⟨g', o', ha, _, _, hra⟩ := (hw.row hp).elem him
  cases ha
  rw [flatten_at hcs hi] at hra
  exact run_loadVar_agg hr hs (hcs cs (List.mem_of_getElem? hi)) fun j v hj => hra j v hj
end
theorem add_at (g o k : Nat) : (some (⟨g, o, none⟩ : Addr)).map (·.add k) = some ⟨g, o + k, none⟩ := by simp [Addr.add_mid]
def allOr (n : Nat) (y : Bool) : Option Nat := if y = true then some n else none
def I64 (n : Nat) : Value := .int .i64 (n : Int)
theorem runC_next (leaf i k : Nat) (x : Dig) : runC leaf i 0 (k + 1) x = dOf Kc 2 [(runC leaf i 0 k x).l, b1 leaf, b1 i, b1 k] := by rw [runC_snoc, Nat.zero_add]; rfl
theorem wrap_nat {m : Nat} (h : m < 4294967296) : IntKind.i64.wrap (m : Int) = (m : Int) := wrap_i64 (by omega) (by omega)
theorem sub3w {x : Nat} (h : x ≤ 3) : IntKind.i64.wrap (3 - (x : Int)) = ((3 - x : Nat) : Int) := by rw [wrap_i64 (by omega) (by omega)]; omega
theorem add_w {a b : Nat} (h : a + b < 4294967296) : IntKind.i64.wrap ((a : Int) + (b : Int)) = ((a + b : Nat) : Int) := by rw [wrap_i64 (by omega) (by omega)]; omega
theorem shr_b {b j : Nat} {k : IntKind} {i : Int} (hi : i = 6 - 2 * (j : Int)) (hj : j < 4) (hb : 8 ≤ k.bits) : ((b : Nat) : Int).fdiv (2 ^ (min i.toNat k.bits)) = ((b / 2 ^ (6 - 2 * j) : Nat) : Int) := by
  subst hi
  have h' : j = 0 ∨ j = 1 ∨ j = 2 ∨ j = 3 := by omega
  have e : min (6 - 2 * (j : Int)).toNat k.bits = 6 - 2 * j := by omega
  rw [e, Int.fdiv_eq_ediv_of_nonneg _ (by exact Int.le_of_lt (Int.pow_pos (by omega)))]
  rcases h' with rfl | rfl | rfl | rfl <;> simp
theorem and3 {m : Nat} (h : m < 4294967296) : bitop .and .i64 (m : Int) 3 = ((m % 4 : Nat) : Int) := by
  have h0 : (BitVec.ofInt IntKind.i64.bits (m : Int)).toNat = m := by
    show (BitVec.ofInt 64 _).toNat = _
    rw [BitVec.ofInt_natCast, BitVec.toNat_ofNat]
    exact Nat.mod_eq_of_lt (Nat.lt_trans h (by decide))
  have h1 : (BitVec.ofInt IntKind.i64.bits (m : Int) &&& BitVec.ofInt IntKind.i64.bits 3).toNat = m % 4 := by
    rw [BitVec.toNat_and, h0]
    exact Nat.and_two_pow_sub_one_eq_mod m 2
  show IntKind.i64.wrap ((BitVec.ofInt IntKind.i64.bits (m : Int) &&& BitVec.ofInt IntKind.i64.bits 3).toNat : Int) = _
  rw [h1, wrap_i64 (by omega) (by omega)]
theorem dig2_get {b j : Nat} (hj : j < 4) : (dig2 b)[j]? = some (b / 2 ^ (6 - 2 * j) % 4) := by
  have h' : j = 0 ∨ j = 1 ∨ j = 2 ∨ j = 3 := by omega
  rcases h' with rfl | rfl | rfl | rfl <;> simp [dig2]
theorem dig2_take {b j : Nat} (hj : j < 4) : (dig2 b).take (j + 1) = (dig2 b).take j ++ [b / 2 ^ (6 - 2 * j) % 4] := by rw [List.take_add_one, dig2_get hj]; rfl
theorem sumD_snoc (l : List Nat) (x : Nat) : sumD (l ++ [x]) = sumD l + (3 - x) := by simp [sumD]
theorem sumD_app (l m : List Nat) : sumD (l ++ m) = sumD l + sumD m := by simp [sumD]
theorem sumD_le : ∀ l : List Nat, sumD l ≤ 3 * l.length
  | [] => by simp [sumD]
  | x :: l => by have := sumD_le l; rw [List.length_cons, show x :: l = [x] ++ l from rfl, sumD_app]; simp [sumD] at *; omega
theorem digs_take {l : List UInt8} {k : Nat} (h : k < l.length) : digs (l.take (k + 1)) = digs (l.take k) ++ dig2 (l.getD k 0).toNat := by
  rw [take_snoc' h]; simp [digs]
theorem map_I64 (l : List Nat) (x : Nat) : (l ++ [x]).map I64 = l.map I64 ++ [I64 x] := by simp
theorem digs_take_len {l : List UInt8} {k : Nat} (h : k ≤ l.length) : (digs (l.take k)).length = 4 * k := by rw [digs_len, List.length_take]; omega
attribute [local irreducible] Gl Gc Gx Gs Runs Wt
theorem small_ok {w : World} {F : Nat → Prop} {n : Nat} (h : stars [] w F) (hn : n ≤ 255) :
    Calls Tryz.prog 95 #[.int .i64 (n : Int)] w (Post w F (fun b : Nat => .slice (some ⟨b, 0, none⟩) 1 1) (fun b => [rowR 5 1 (some ⟨b, 0, none⟩) 1 1 ((b1 n).map B8)])) := by
 refine g_enter (env := [(0, .int .i64 (n : Int))]) Tryz.func95 rfl h Tryz.ntmps95 rfl rfl ?_; refine gsr (zxa ?_); refine zxs ?_; refine zxm ?_; refine gp (r_val zci (conv_len (m := n) (by omega))) ?_; refine ze1 fun b5 => ?_; refine zxa ?_; refine gnt (gc_ret (gx_ret1 rfl (by conv => lhs; whnf) ?_)); exact ze b5
theorem cright_ok {w : World} {F : Nat → Prop} {n : Nat} (h : stars [] w F) (hn : n < 32) :
    Calls Tryz.prog 57 #[.int .i64 (n : Int)] w (Post w F (fun _ : Unit => .bool true) (fun _ => [])) := by
 refine g_enter (env := [(0, .int .i64 (n : Int))]) Tryz.func57 rfl h Tryz.ntmps57 rfl rfl ?_; refine gsr (zxa ?_); refine zxs ?_; refine zxm ?_; refine gp (r_bool (c := true) zge (decide_eq_true (by omega))) ?_; refine zxm ?_; refine gq zmv ?_; refine gq (r_bool (c := true) zlt (decide_eq_true (by omega))) ?_; refine gp zpk ?_; refine zxa ?_; refine gnt (gc_ret (gx_ret1 rfl (by conv => lhs; whnf) ?_)); exact ze ()
theorem secret_ok {w : World} {F : Nat → Prop} {seed : Dig} {leaf i : Nat} (h : stars [] w F) (hl : leaf < 32) (hi : i < 68) (hK : KR w (fun k => ¬ F k))  :
    Calls Tryz.prog 61 #[.agg (dc seed).toArray, .int .i64 (leaf : Int), .int .i64 (i : Int)] w (Post w F (fun _ : Unit => .agg (dc (secC seed leaf i)).toArray) (fun _ => [])) := by
 refine g_enter (env := [(0, .agg (dc seed).toArray), (1, .int .i64 (leaf : Int)), (2, .int .i64 (i : Int))]) Tryz.func61 rfl h Tryz.ntmps61 rfl rfl ?_; refine gsr (zbN fun b3 => ?_); refine zal fun b6 => ?_; refine gnt (gc_seq (gc_regionZ 7 [] ?_)); refine yps 0 rfl (r_slice_arr (l := 0) (h := 16) rfl Ty.arr_32 Ty.sz_5 rfl rfl (by decide) (by decide) (by decide)) ?_; refine yps 1 rfl zmv ?_; refine yps 3 rfl zmv ?_; refine yos 2 rfl ?_; refine zc (fun b9 => ?_) (c := fun w1 F1 F2 h1 h2 hd hst => small_ok (n := leaf) h1 (by omega))
 refine yxs ?_; refine yos 4 rfl ?_; refine zc (fun b11 => ?_) (c := fun w1 F1 F2 h1 h2 hd hst => small_ok (n := i) h1 (by omega))
 refine yxs ?_; refine yos 5 rfl ?_; refine gl_bsls (vs := [.slice (some ⟨b3, 0 + 0 * 1, none⟩) (16 - 0) (16 - 0), .slice (some ⟨b9, 0, none⟩) 1 1, .slice (some ⟨b11, 0, none⟩) 1 1]) (wt0 rfl) Ty.sl_182 Ty.sz_22 Ty.zc_22 rfl rfl (all_cons' rfl (all_cons' rfl (all_cons' rfl all_nil'))) rfl rfl rfl ?_; intro b12; refine yxs ?_; refine yos 6 rfl ?_; refine zc (fun _ => ?_) (c := fun w1 F1 F2 h1 h2 hd hst => of_ok (dom := 1) (parts := [seed.l, b1 leaf, b1 i]) h1 (hK.mv hst.still) (.of1 (rd_row (xs := [.slice (some ⟨b3, 0 + 0 * 1, none⟩) (16 - 0) (16 - 0), .slice (some ⟨b9, 0, none⟩) 1 1, .slice (some ⟨b11, 0, none⟩) 1 1]) h2 hd (by repeat (first | exact Pick.here | apply Pick.there))) (.cons (.dig h2 hd (by repeat (first | exact Pick.here | apply Pick.there))) (.cons (.row h2 hd (by repeat (first | exact Pick.here | apply Pick.there))) (.cons (.row h2 hd (by repeat (first | exact Pick.here | apply Pick.there))) .nil)))) (by simp [pcost, b1, Dig.h]))
 refine yxs ?_; refine yzs rfl ?_; refine zsA (dc_length _) (dc_one _) ?_; refine gnt (gc_ret (gx_retc rfl rfl (ldA Ty.row_32 Ty.sz_32) ?_)); exact ze ()
theorem run_ok' {w : World} {F : Nat → Prop} {x : Dig} {leaf i m : Nat} (h : stars [] w F) (hl : leaf < 32) (hi : i < 68) (hm : m ≤ 3) (hK : KR w (fun k => ¬ F k))  :
    Calls Tryz.prog 60 #[.agg (dc x).toArray, .int .i64 (leaf : Int), .int .i64 (i : Int), .int .i64 0, .int .i64 (m : Int)] w (Post w F (fun _ : Unit => .agg (dc (runC leaf i 0 m x)).toArray) (fun _ => [])) := by
 refine g_enter (env := [(0, .agg (dc x).toArray), (1, .int .i64 (leaf : Int)), (2, .int .i64 (i : Int)), (3, .int .i64 0), (4, .int .i64 (m : Int))]) Tryz.func60 rfl h Tryz.ntmps60 rfl rfl ?_; refine gsr (zbN fun b5 => ?_); refine zal fun b10 => ?_; refine gnt (gc_seq (gsr (zxm ?_))); refine gp (r_int (j := ((0 : Nat) : Int)) r_max rfl) ?_; refine zxa ?_; refine gnt (gc_block (gc_loop (α := Nat) (fun k => [pureR (k ≤ m), blk b5 32 (dc (runC leaf i 0 k x)), blk b10 32 zD]) (fun k => [(11, .int .i64 (k : Int))]) [14, 15, 16, 17, 18, 19, 20, 21, 22, 23, 24, 25, 26, 27, 28] (fun k => m - k) 0 ?_ ?_ ?_))
 ·refine env_start (by kernel_rfl)
 ·exact zlp (Nat.zero_le _)
 ·intro k u; refine gc_pureR (fun hk => ?_)
  replace hk : k ≤ m := hk
  refine gc_seq (gsr (zxm ?_)); refine zxm ?_; refine gp (r_int (j := (m : Int)) r_min (by split <;> omega)) ?_; refine gp zlt ?_; refine gnt (gif rfl (fun hc17 => ?_) (fun hc17 => ?_))
  ·try simp only at hc17
   have hk' : k < m := by omega
   refine gc_skip (gx_then (gc_seq (gc_block (gc_regionZ 9 [] ?_)))); refine yps 0 rfl (r_slice_arr (l := 0) (h := 16) rfl Ty.arr_32 Ty.sz_5 rfl rfl (by decide) (by decide) (by decide)) ?_; refine yps 1 rfl zmv ?_; refine yps 3 rfl zmv ?_; refine yps 5 rfl zmv ?_; refine yos 2 rfl ?_; refine zc (fun b22 => ?_) (c := fun w1 F1 F2 h1 h2 hd hst => small_ok (n := leaf) h1 (by omega))
   refine yxs ?_; refine yos 4 rfl ?_; refine zc (fun b24 => ?_) (c := fun w1 F1 F2 h1 h2 hd hst => small_ok (n := i) h1 (by omega))
   refine yxs ?_; refine yos 6 rfl ?_; refine zc (fun b26 => ?_) (c := fun w1 F1 F2 h1 h2 hd hst => small_ok (n := k) h1 (by omega))
   refine yxs ?_; refine yos 7 rfl ?_; refine gl_bsls (vs := [.slice (some ⟨b5, 0 + 0 * 1, none⟩) (16 - 0) (16 - 0), .slice (some ⟨b22, 0, none⟩) 1 1, .slice (some ⟨b24, 0, none⟩) 1 1, .slice (some ⟨b26, 0, none⟩) 1 1]) (wt0 rfl) Ty.sl_182 Ty.sz_22 Ty.zc_22 rfl rfl (all_cons' rfl (all_cons' rfl (all_cons' rfl (all_cons' rfl all_nil')))) rfl rfl rfl ?_; intro b27; refine yxs ?_; refine yos 8 rfl ?_; refine zc (fun _ => ?_) (c := fun w1 F1 F2 h1 h2 hd hst => of_ok (dom := 2) (parts := [(runC leaf i 0 k x).l, b1 leaf, b1 i, b1 k]) h1 (hK.mv hst.still) (.of1 (rd_row (xs := [.slice (some ⟨b5, 0 + 0 * 1, none⟩) (16 - 0) (16 - 0), .slice (some ⟨b22, 0, none⟩) 1 1, .slice (some ⟨b24, 0, none⟩) 1 1, .slice (some ⟨b26, 0, none⟩) 1 1]) h2 hd (by repeat (first | exact Pick.here | apply Pick.there))) (.cons (.dig h2 hd (by repeat (first | exact Pick.here | apply Pick.there))) (.cons (.row h2 hd (by repeat (first | exact Pick.here | apply Pick.there))) (.cons (.row h2 hd (by repeat (first | exact Pick.here | apply Pick.there))) (.cons (.row h2 hd (by repeat (first | exact Pick.here | apply Pick.there))) .nil))))) (by simp [pcost, b1, Dig.h]))
   refine yxs ?_; refine yzs rfl ?_; refine zsA (dc_length _) (dc_one _) ?_; refine gl_nil (gx_block_normal (gx_then (gc_region (zxm ?_)))); refine gp zad ?_; refine zxa ?_; refine gl_nil (zrd (k + 1) ?_ ?_)
   ·show m - (k + 1) < m - k
    omega
   ·rw [runC_next]; exact zlp (show k + 1 ≤ m by omega)
  ·try simp only at hc17
   have hk' : k = m := by omega
   subst hk'; refine gc_exit ?_; refine gx_then_exit ?_; refine gx_round_exit ?_; refine gx_block_hit ?_; refine gx_then (gsr (gp zL ?_)); refine zsA (dc_length _) (dc_one _) ?_; refine gnt (gc_ret (gx_retc rfl rfl (ldA Ty.row_32 Ty.sz_32) ?_)); exact ze ()
end
section
def EndsR (b : Nat) (bs : List UInt8) : Res := exR fun p : Option Addr × Nat => allR [blk b 22 [.slice p.1 bs.length p.2], rowR 5 1 p.1 bs.length p.2 (bs.map B8)]
def DgsR (b : Nat) (xs : List Dig) : Res := exR fun p : Option Addr × Nat => allR [blk b 61 [.slice p.1 xs.length p.2], rowR 32 16 p.1 xs.length p.2 (xs.map dc).flatten]
section
variable {w0 w : World} {F F0 : Nat → Prop} {L L' : List Res} {Q : Exit → Act → World → Prop} {n : Fm} {env : Env} {ops : Array Oper} {rest : List Oper} {b m : Nat} {bs : List UInt8} {ds : List Dig} {a : Option Addr} {c : Nat} {xs : List Value} {P : Program}
theorem gc_ends {k : Code} (hp : Pick L (EndsR b bs) L') (K : ∀ a c, Gc Tryz.prog w0 F0 (blk b 22 [.slice a bs.length c] :: rowR 5 1 a bs.length c (bs.map B8) :: L') k Q n env) : Gc Tryz.prog w0 F0 L k Q n env := fun w hw => by
  obtain ⟨F, hF, hst⟩ := hw.pick hp
  obtain ⟨⟨a, c⟩, h⟩ := stars_ex hF
  exact K a c w ⟨F, stars_all h, hst⟩
theorem St.ends (h : St w0 F0 (blk b 22 [.slice a m c] :: rowR 5 1 a m c xs :: L) w) (h1 : m = bs.length) (h2 : xs = bs.map B8) : St w0 F0 (EndsR b bs :: L) w := by
  subst h1; subst h2
  obtain ⟨F, hF, hst⟩ := h
  exact ⟨F, stars_ex_mk (a, c) (stars_all_mk hF), hst⟩
theorem gc_dgs {k : Code} (hp : Pick L (DgsR b ds) L') (K : ∀ a c, Gc Tryz.prog w0 F0 (blk b 61 [.slice a ds.length c] :: rowR 32 16 a ds.length c (ds.map dc).flatten :: L') k Q n env) : Gc Tryz.prog w0 F0 L k Q n env := fun w hw => by
  obtain ⟨F, hF, hst⟩ := hw.pick hp
  obtain ⟨⟨a, c⟩, h⟩ := stars_ex hF
  exact K a c w ⟨F, stars_all h, hst⟩
theorem St.dgs (h : St w0 F0 (blk b 61 [.slice a m c] :: rowR 32 16 a m c xs :: L) w) (h1 : m = ds.length) (h2 : xs = (ds.map dc).flatten) : St w0 F0 (DgsR b ds :: L) w := by
  subst h1; subst h2
  obtain ⟨F, hF, hst⟩ := h
  exact ⟨F, stars_ex_mk (a, c) (stars_all_mk hF), hst⟩
theorem gc_turn {k : Code} {L2 : List Res} (hs : ∀ w, St w0 F0 L w → St w0 F0 L2 w) (K : Gc P w0 F0 L2 k Q n env) : Gc P w0 F0 L k Q n env := fun w hw => K w (hs w hw)
end
def digE (i : Nat) (x : Dig) : Array Value := #[.agg (dc x).toArray]
def endG (seed : Dig) (leaf : Nat) (i : Nat) (x : Dig) : List Res := [pureR (i < 68 ∧ x = endC seed leaf i)]
def endB (seed : Dig) (leaf : Nat) (i : Nat) : List UInt8 := (List.range i).flatMap fun j => (endC seed leaf j).l
theorem endB_succ (seed : Dig) (leaf i : Nat) : endB seed leaf (i + 1) = endB seed leaf i ++ (endC seed leaf i).l := by simp [endB, List.range_succ]
theorem endB_len (seed : Dig) (leaf : Nat) : ∀ i, (endB seed leaf i).length = 16 * i
  | 0 => rfl
  | i + 1 => by rw [endB_succ, List.length_append, endB_len seed leaf i, Dig.h]; omega
theorem endB_pub (seed : Dig) (leaf : Nat) : dOf Kc 3 [b1 leaf, endB seed leaf 68] = pubK seed leaf := by
  unfold pubK pubC endB; rw [List.flatMap_map]
attribute [local irreducible] Gl Gc Gx Gs Runs Wt
theorem pub1_ok {w : World} {F : Nat → Prop} {seed : Dig} {leaf b1 b2 lp : Nat} {J : Nat → Res} {Jx : Res} (h : stars [blk b1 32 (dc seed), blk b2 3 [.int .i64 (leaf : Int)], J 0] w F) (hl : leaf < 32) (hK : KR w (fun k => ¬ F k)) (hy : RoundsAt Tryz.prog lp digE (endG seed leaf) J Jx w F) :
    Calls Tryz.prog 59 #[.func (.yield lp) #[] #[], .pointer (some ⟨b1, 0, none⟩), .pointer (some ⟨b2, 0, none⟩)] w (Post w F (fun _ : Bool => .tuple #[]) (fun y => (match allOr 68 y with | some m => J m | none => Jx) :: [blk b1 32 (dc seed), blk b2 3 [.int .i64 (leaf : Int)]])) := by
 refine g_enter (env := [(0, .func (.yield lp) #[] #[]), (1, .pointer (some ⟨b1, 0, none⟩)), (2, .pointer (some ⟨b2, 0, none⟩))]) Tryz.func59 rfl h Tryz.ntmps59 rfl rfl ?_; refine gsr (zxm ?_); refine gnt (gc_block (gc_loop (α := Nat) (fun k => [pureR (k ≤ 68), blk b1 32 (dc seed), blk b2 3 [.int .i64 (leaf : Int)], J k]) (fun k => [(5, .int .i64 (k : Int))]) [4, 6, 7, 8, 9, 10, 11, 12, 13, 14, 15, 16, 17, 18] (fun k => 68 - k) 0 ?_ ?_ ?_))
 ·refine env_start (by kernel_rfl)
 ·exact zlp (Nat.zero_le _)
 ·intro k u; refine gc_pureR (fun hk => ?_)
  replace hk : k ≤ 68 := hk
  refine gsr (gp zlt ?_); refine gnt (gc_seq (gif rfl (fun hc6 => ?_) (fun hc6 => ?_)))
  ·try simp only at hc6
   have hk' : k < 68 := by omega
   refine gc_skip (gx_then (gc_seq (gc_block (gsr (zxm ?_))))); refine zxa ?_; refine gnt (gc_seq (gc_regionH ([blk b1 32 (dc seed), blk b2 3 [.int .i64 (leaf : Int)]]) ?_)); refine yp 0 rfl zmv ?_; refine yp 1 rfl zL ?_; refine yp 2 rfl zl ?_; refine yp 3 rfl zmv ?_; refine yp 5 rfl zl ?_; refine yp 6 rfl zmv ?_; refine yo 4 rfl ?_; refine zc (fun _ => ?_) (c := fun w1 F1 F2 h1 h2 hd hst => secret_ok (seed := seed) (leaf := leaf) (i := k) h1 hl hk' (hK.mv hst.still))
   refine yx ?_; refine yo 7 rfl ?_; refine zc (fun _ => ?_) (c := fun w1 F1 F2 h1 h2 hd hst => run_ok' (x := secC seed leaf k) (leaf := leaf) (i := k) (m := 3) h1 hl hk' (by decide) (hK.mv hst.still))
   rw [show runC leaf k 0 3 (secC seed leaf k) = endC seed leaf k from rfl]; refine yx ?_; refine yo 8 rfl ?_; refine gl_pI (p := k < 68 ∧ endC seed leaf k = endC seed leaf k) ⟨hk', rfl⟩ ?_; refine gyd hy k (endC seed leaf k) rfl (by repeat (first | exact Sel.nil | (apply Sel.cons; · (repeat (first | exact Pick.here | apply Pick.there))))) (fun x16 => ?_)
   rcases x16 with _ | _
   ·refine yx ?_; refine yp 9 rfl (r_bool (c := true) znt (rfl)) ?_; refine yd ?_; refine gx_then (gc_condT rfl rfl ?_); refine gc_ret (gx_block_ret ?_); refine gx_then_ret (gx_round_ret ?_); refine gx_block_ret ?_; refine gx_ret0 rfl ?_; exact ze false
   ·refine yx ?_; refine yp 9 rfl (r_bool (c := false) znt (rfl)) ?_; refine yd ?_; refine gx_then (gc_condF rfl rfl ?_); refine gc_skip (gx_block_normal (gx_then (gc_region (gp zad ?_)))); refine zxm ?_; refine gl_nil (zrd (k + 1) ?_ ?_)
    ·show 68 - (k + 1) < 68 - k
     omega
    ·exact zlp (show k + 1 ≤ 68 by omega)
  ·try simp only at hc6
   have hk' : k = 68 := by omega
   subst hk'; refine gc_exit ?_; refine gx_then_exit ?_; refine gx_round_exit ?_; refine gx_block_hit ?_; refine gx_ret0' rfl ?_; exact ze true
theorem pub1_it {w : World} {F : Nat → Prop} {seed : Dig} {leaf b1 b2 lp : Nat} {J : Nat → Res} {Jx : Res} (h : stars [blk b1 32 (dc seed), blk b2 3 [.int .i64 (leaf : Int)], J 0] w F) (hl : leaf < 32) (hK : KR w (fun k => ¬ F k)) :
    IterAt Tryz.prog 59 #[.pointer (some ⟨b1, 0, none⟩), .pointer (some ⟨b2, 0, none⟩)] digE (endG seed leaf) (allOr 68) (fun _ => [blk b1 32 (dc seed), blk b2 3 [.int .i64 (leaf : Int)]]) (fun _ : Bool => .tuple #[]) lp J Jx w F := fun hy => by
  have h2 := pub1_ok h hl hK hy
  exact h2
theorem public_ok {w : World} {F : Nat → Prop} {seed : Dig} {leaf c1 c2 : Nat} (h : stars [blk c1 32 (dc seed), blk c2 3 [.int .i64 (leaf : Int)]] w F) (hl : leaf < 32) (hK : KR w (fun k => ¬ F k))  :
    Calls Tryz.prog 58 #[.int .i64 (leaf : Int), .func (.func 59) #[] #[.pointer (some ⟨c1, 0, none⟩), .pointer (some ⟨c2, 0, none⟩)]] w (Post w F (fun _ : Unit => .agg (dc (pubK seed leaf)).toArray) (fun _ => [])) := by
 refine g_enterM (env := [(0, .int .i64 (leaf : Int)), (1, .func (.func 59) #[] #[.pointer (some ⟨c1, 0, none⟩), .pointer (some ⟨c2, 0, none⟩)])]) Tryz.func58 rfl h Tryz.ntmps58 rfl rfl ?_; refine gsr (zal fun b4 => ?_); refine zxs ?_; refine zal fun b5 => ?_; refine gnt (gc_seq (gsr (zxm ?_))); refine gnt (gc_block (gc_turn (L2 := [EndsR b5 (endB seed leaf 0), blk b4 32 zD, blk c1 32 (dc seed), blk c2 3 [.int .i64 (leaf : Int)]]) (fun w' hw => St.ends (hw.rowNil.sel (M := [blk b5 22 [.slice none 0 0], rowR 5 1 none 0 0 [], blk b4 32 zD, blk c1 32 (dc seed), blk c2 3 [.int .i64 (leaf : Int)]]) (by repeat (first | exact Sel.nil | (apply Sel.cons; · (repeat (first | exact Pick.here | apply Pick.there)))))) rfl rfl) ?_)); refine gc_range (own := [blk c1 32 (dc seed), blk c2 3 [.int .i64 (leaf : Int)]]) (fun i => [EndsR b5 (endB seed leaf i), blk b4 32 zD]) (fun _ _ => [pureR False]) (by exact rfl) Ty.call_59 (by repeat (first | exact Sel.nil | (apply Sel.cons; · (repeat (first | exact Pick.here | apply Pick.there))))) (by intros; rfl) (fun lp J Jx w1 F1 F2 h1 h2 hd hst => pub1_it h1 hl (hK.mv hst.still)) ?_ ?_ ?_
 ·intro lp rc rc' i x w1 F1 F2 h1 h2 hd hst; try dsimp only [List.cons_append, List.nil_append, zipE]
  refine gc_pure1 (p := i < 68 ∧ x = endC seed leaf i) (by repeat (first | exact Pick.here | apply Pick.there)) (fun hx => ?_)
  obtain ⟨hi, hx⟩ := hx; refine gc_ends (by repeat (first | exact Pick.here | apply Pick.there)) (fun a5 c5 => ?_)
  have hbl := endB_len seed leaf i
  refine gc_region (zal fun b6 => ?_); refine zsN ?_; refine gl_nil (gx_lp (by repeat (first | exact Pick.here | apply Pick.there)) ?_); refine gx_begin ?_; refine gc_block (gc_regionT 2 (by kernel_rfl) (by kernel_rfl) ?_); refine sp zl ?_; refine sp (r_slice_arr (l := 0) (h := 16) rfl Ty.arr_32 Ty.sz_5 rfl rfl (by decide) (by decide) (by decide)) ?_; refine gs_nil ?_; refine gl_append (news := dc x) (wt0 rfl) rfl rfl (by repeat (first | exact Pick.here | apply Pick.there)) Ty.el_22 (fun w' hw => (by have hx := hw.rdBlkY (l := x.l) (o := 0) (m := 16) (by repeat (first | exact Pick.here | apply Pick.there)) (by rw [Dig.h]; omega) (by decide); rw [List.drop_zero, List.take_of_length_le (by rw [Dig.h]; omega)] at hx; exact hx)) (dc_one _) (by simp only [maxLen]; omega) (by omega) ?_; intro a11 c11; refine zs1 ?_; refine gl_nil (gx_block_normal (gx_rdn ?_)); intro w' hw; exact (St.ends (bs := endB seed leaf (i + 1)) (hw.sel (M := [blk b5 22 [.slice a11 _ c11], rowR 5 1 a11 _ c11 _, lpR lp rc', blk b4 32 zD]) (by repeat (first | exact Sel.nil | (apply Sel.cons; · (repeat (first | exact Pick.here | apply Pick.there)))))) (by rw [endB_succ, List.length_append, Dig.h]) (by rw [endB_succ, List.map_append, hx]; rfl)).z
 ·intro bU3 y m hy; try dsimp only [List.cons_append, List.nil_append]
  obtain rfl : m = 68 := by cases y <;> simp_all [allOr]
  refine gx_block_normal (gx_thenM ?_); refine gc_seq (gc_ends (by repeat (first | exact Pick.here | apply Pick.there)) (fun a5 c5 => ?_))
  have hbl := endB_len seed leaf 68
  refine gc_regionZ 5 ([blk b5 22 [.slice a5 (endB seed leaf 68).length c5]]) ?_; refine yps 0 rfl zmv ?_; refine yps 2 rfl zl ?_; refine yos 1 rfl ?_; refine zc (fun b13 => ?_) (c := fun w1 F1 F2 h1 h2 hd hst => small_ok (n := leaf) h1 (by omega))
  refine yxs ?_; refine yos 3 rfl ?_; refine gl_bsls (vs := [.slice (some ⟨b13, 0, none⟩) 1 1, .slice a5 (endB seed leaf 68).length c5]) (wt0 rfl) Ty.sl_182 Ty.sz_22 Ty.zc_22 rfl rfl (all_cons' rfl (all_cons' rfl all_nil')) rfl rfl rfl ?_; intro b15; refine yxs ?_; refine yos 4 rfl ?_; refine zc (fun _ => ?_) (c := fun w1 F1 F2 h1 h2 hd hst => of_ok (dom := 3) (parts := [b1 leaf, endB seed leaf 68]) h1 (hK.mv hst.still) (.of1 (rd_row (xs := [.slice (some ⟨b13, 0, none⟩) 1 1, .slice a5 (endB seed leaf 68).length c5]) h2 hd (by repeat (first | exact Pick.here | apply Pick.there))) (.cons (.row h2 hd (by repeat (first | exact Pick.here | apply Pick.there))) (.cons (.row h2 hd (by repeat (first | exact Pick.here | apply Pick.there))) .nil))) (by simp [pcost, b1, hbl]))
  rw [endB_pub]; refine yxs ?_; refine yzs rfl ?_; refine zsA (dc_length _) (dc_one _) ?_; refine gnt (gc_ret (gx_mark (by repeat (first | exact Pick.here | apply Pick.there)) ?_)); refine gx_mark0 ?_; refine gx_retc rfl rfl (ldA Ty.row_32 Ty.sz_32) ?_; exact ze ()
 ·exact fun _ _ _ _ _ => gc_noway
theorem Public_ok {w : World} {F : Nat → Prop} {ea : Nat → Addr} {seed : Dig} {leaf : Nat} (h : stars [] w F) (hl : leaf < 32) (hK : KR w (fun k => ¬ F k))  :
    Calls Tryz.prog 30 #[.agg (dc seed).toArray, .int .i64 (leaf : Int)] w (Post w F (fun _ : Unit => .tuple #[.agg (dc (pubK seed leaf)).toArray, eV 241 ea 0]) (fun _ => [])) := by
 refine g_enter (env := [(0, .agg (dc seed).toArray), (1, .int .i64 (leaf : Int))]) Tryz.func30 rfl h Tryz.ntmps30 rfl rfl ?_; refine gsr (zbN fun b2 => ?_); refine zb1 fun b3 => ?_; refine zal fun b4 => ?_; refine zxa ?_; refine gnt (gc_seq (gsr (gp zl ?_))); refine zc (fun _ => ?_) (c := fun w1 F1 F2 h1 h2 hd hst => cright_ok h1 hl)
 refine gp (r_bool (c := false) znt (rfl)) ?_; refine gnt (gc_condF rfl rfl ?_); refine gc_skip (gx_then (gsr (gp zl ?_))); refine gp zmf ?_; refine zc (fun _ => ?_) (c := fun w1 F1 F2 h1 h2 hd hst => public_ok (seed := seed) h1 hl (hK.mv hst.still))
 refine zsA (dc_length _) (dc_one _) ?_; refine zxa ?_; refine gnt (gc_ret (gx_retct rfl rfl (by conv => lhs; whnf) (ldA Ty.row_32 Ty.sz_32) ?_)); exact fun w' hw => ⟨(), by rw [eV_zero], hw.z⟩
end
section
def lvL (l : List Dig) : Nat → List Dig
  | 0 => l
  | i + 1 => upT (lvL l i)
theorem lvL_len {l : List Dig} (h : l.length = 32) : ∀ i, (lvL l i).length = 32 / 2 ^ i
  | 0 => by simp [lvL, h]
  | i + 1 => by rw [lvL, upT_len, lvL_len h i, Nat.div_div_eq_div_mul, ← Nat.pow_succ]
theorem lvL_up (l : List Dig) : ∀ i, lvL (upT l) i = lvL l (i + 1)
  | 0 => rfl
  | i + 1 => by rw [lvL, lvL_up l i]; rfl
theorem rootT_lv (l : List Dig) : ∀ n, rootT n l = (lvL l n).getD 0 dig0
  | 0 => rfl
  | n + 1 => by
    have h : ∀ n (l : List Dig), rootT n l = (lvL l n).getD 0 dig0 := fun n => by
      induction n with
      | zero => intro l; rfl
      | succ n ih => intro l; rw [rootT, ih, lvL_up]
    exact h (n + 1) l
theorem pathT_snoc : ∀ (n : Nat) (l : List Dig) (i : Nat), pathT (n + 1) l i = pathT n l i ++ [(lvL l n).getD (mate (i / 2 ^ n)) dig0]
  | 0, l, i => by simp [pathT, lvL]
  | n + 1, l, i => by
    rw [pathT, pathT_snoc n (upT l) (i / 2), pathT, lvL_up, Nat.div_div_eq_div_mul, Nat.pow_succ, Nat.mul_comm 2]; rfl
theorem pathT_len : ∀ (n : Nat) (l : List Dig) (i : Nat), (pathT n l i).length = n
  | 0, _, _ => rfl
  | n + 1, l, i => by rw [pathT, List.length_cons, pathT_len n]
theorem upT_take : ∀ {l : List Dig} {j : Nat} {a b : Dig}, l[2 * j]? = some a → l[2 * j + 1]? = some b → (upT l).take (j + 1) = (upT l).take j ++ [joinT a b] := fun h1 h2 => by
  rw [List.take_add_one, upT_at h1 h2]; rfl
theorem xor1 {i : Nat} (h : i < 32) : bitop .xor .i64 (i : Int) 1 = ((mate i : Nat) : Int) := by
  have h' : ∀ j : Fin 32, bitop .xor .i64 ((j.val : Nat) : Int) 1 = ((mate j.val : Nat) : Int) := by decide
  exact h' ⟨i, h⟩
def twoE (g o : Nat) (i : Nat) (_ : Unit) : Array Value := #[.slice (some ⟨g, o + 2 * i * 16, none⟩) 2 2]
def twoG (m : Nat) (i : Nat) (_ : Unit) : List Res := [pureR (i < m)]
def lvE (i : Nat) (x : Option Addr × Nat × List Dig) : Array Value := #[.slice x.1 x.2.2.length x.2.1]
def lvH (i : Nat) (x : Option Addr × Nat × List Dig) : Res := rowR 32 16 x.1 x.2.2.length x.2.1 (x.2.2.map dc).flatten
def lvG (l : List Dig) (i : Nat) (x : Option Addr × Nat × List Dig) : List Res := [pureR (i < 6 ∧ x.2.2 = lvL l i), lvH i x]
def keepR (k : Nat) (R : Res) : Res := if k = 0 then pureR True else R
theorem keep0 {w0 w : World} {F0 : Nat → Prop} {R : Res} {L : List Res} (h : St w0 F0 L w) : St w0 F0 (keepR 0 R :: L) w := by
  obtain ⟨F, hF, hst⟩ := h; exact ⟨F, stars_pure_mk trivial hF, hst⟩
theorem kpS {k : Nat} (R : Res) : keepR (k + 1) R = R := by unfold keepR; rw [if_neg (by omega)]
theorem lv_big {l : List Dig} (h : l.length = 32) {k : Nat} (hk : k ≤ 5) : 1 < (lvL l k).length ↔ k < 5 := by
  have h1 := lvL_len h k
  have h' : k = 0 ∨ k = 1 ∨ k = 2 ∨ k = 3 ∨ k = 4 ∨ k = 5 := by omega
  rcases h' with rfl | rfl | rfl | rfl | rfl | rfl <;> simp [h1]
theorem lv_two {l : List Dig} (h : l.length = 32) {k : Nat} (hk : k < 5) : ∃ m, (lvL l k).length = 2 * m ∧ 1 ≤ m ∧ m ≤ 16 ∧ m = (lvL l (k + 1)).length := by
  have h1 := lvL_len h k
  have h2 := lvL_len h (k + 1)
  have h' : k = 0 ∨ k = 1 ∨ k = 2 ∨ k = 3 ∨ k = 4 := by omega
  refine ⟨_, ?_, ?_, ?_, rfl⟩ <;> simp only [h1, h2] <;> (rcases h' with rfl | rfl | rfl | rfl | rfl <;> decide)
theorem keep_next {w0 w : World} {F0 : Nat → Prop} {L : List Res} {l : List Dig} {k : Nat} {a a0 : Option Addr} {c c0 : Nat} (h0 : k = 0 → a = a0 ∧ c = c0) (hl : l.length = 32)
    (h : St w0 F0 (rowR 32 16 a (lvL l k).length c ((lvL l k).map dc).flatten :: keepR k (rowR 32 16 a0 32 c0 (l.map dc).flatten) :: L) w) : St w0 F0 (rowR 32 16 a0 32 c0 (l.map dc).flatten :: L) w := by
  cases k with
  | zero =>
    obtain ⟨rfl, rfl⟩ := h0 rfl
    have h1 : St w0 F0 (rowR 32 16 a l.length c (l.map dc).flatten :: pureR True :: L) w := h
    rw [hl] at h1
    obtain ⟨F, ⟨F1, F2, g1, g2, hF, hd⟩, hst⟩ := h1
    exact ⟨F, ⟨F1, F2, g1, (stars_pure g2).2, hF, hd⟩, hst⟩
  | succ k =>
    rw [kpS] at h
    obtain ⟨F, ⟨F1, F2, g1, g2, hF, hd⟩, hst⟩ := h
    exact ⟨F2, g2, hst.weak fun k hk => (hF k).2 (.inr hk)⟩
theorem dfs0 {w0 w : World} {F0 : Nat → Prop} {L : List Res} (h : St w0 F0 L w) : St w0 F0 (allR (dfsR []) :: L) w := by
  obtain ⟨F, hF, hst⟩ := h; exact ⟨F, stars_all_mk (by exact hF), hst⟩
theorem dfsS {w0 w : World} {F0 : Nat → Prop} {L : List Res} {b : Nat} {bs : List Nat} (h : St w0 F0 (dfR b :: allR (dfsR bs) :: L) w) : St w0 F0 (allR (dfsR (b :: bs)) :: L) w := by
  obtain ⟨F, ⟨F1, F2, g1, g2, hF, hd⟩, hst⟩ := h
  exact ⟨F, stars_all_mk (show stars (dfR b :: (dfsR bs ++ L)) w F from ⟨F1, F2, g1, stars_all g2, hF, hd⟩), hst⟩
theorem dcs_len (l : List Dig) : ∀ c ∈ l.map dc, List.length c = 16 := fun c hc => by obtain ⟨x, _, rfl⟩ := List.mem_map.1 hc; exact dc_length x
theorem dcs_get {l : List Dig} {i : Nat} {x : Dig} (h : l[i]? = some x) : (l.map dc)[i]? = some (dc x) := by rw [List.getElem?_map, h]; rfl
attribute [local irreducible] Gl Gc Gx Gs Runs Wt
theorem join4_ok {w : World} {F : Nat → Prop} {x y : Dig} (h : stars [] w F) (hK : KR w (fun k => ¬ F k))  :
    Calls Tryz.prog 98 #[.agg (dc x).toArray, .agg (dc y).toArray] w (Post w F (fun _ : Unit => .agg (dc (joinT x y)).toArray) (fun _ => [])) := by
 refine g_enter (env := [(0, .agg (dc x).toArray), (1, .agg (dc y).toArray)]) Tryz.func98 rfl h Tryz.ntmps98 rfl rfl ?_; refine gsr (zbN fun b2 => ?_); refine zbN fun b3 => ?_; refine zal fun b4 => ?_; refine gnt (gc_seq (gc_regionT 2 (by kernel_rfl) (by kernel_rfl) ?_)); refine sp (r_slice_arr (l := 0) (h := 16) rfl Ty.arr_32 Ty.sz_5 rfl rfl (by decide) (by decide) (by decide)) ?_; refine sp (r_slice_arr (l := 0) (h := 16) rfl Ty.arr_32 Ty.sz_5 rfl rfl (by decide) (by decide) (by decide)) ?_; refine gs_nil ?_; refine gl_bsls (vs := [.slice (some ⟨b2, 0 + 0 * 1, none⟩) (16 - 0) (16 - 0), .slice (some ⟨b3, 0 + 0 * 1, none⟩) (16 - 0) (16 - 0)]) (wt0 rfl) Ty.sl_182 Ty.sz_22 Ty.zc_22 rfl rfl (all_cons' rfl (all_cons' rfl all_nil')) rfl rfl rfl ?_; intro b7; refine zc (fun _ => ?_) (c := fun w1 F1 F2 h1 h2 hd hst => of_ok (dom := 4) (parts := [x.l, y.l]) h1 (hK.mv hst.still) (.of1 (rd_row (xs := [.slice (some ⟨b2, 0 + 0 * 1, none⟩) (16 - 0) (16 - 0), .slice (some ⟨b3, 0 + 0 * 1, none⟩) (16 - 0) (16 - 0)]) h2 hd (by repeat (first | exact Pick.here | apply Pick.there))) (.cons (.dig h2 hd (by repeat (first | exact Pick.here | apply Pick.there))) (.cons (.dig h2 hd (by repeat (first | exact Pick.here | apply Pick.there))) .nil))) (by simp [pcost, b1, Dig.h]))
 refine zsA (dc_length _) (dc_one _) ?_; refine gnt (gc_ret (gx_retc rfl rfl (ldA Ty.row_32 Ty.sz_32) ?_)); exact ze ()
theorem chunk2_ok {w : World} {F : Nat → Prop} {a : Option Addr} {n c : Nat} (h : stars [] w F) :
    Calls Tryz.prog 97 #[.slice a n c, .int .i64 2] w (Post w F (fun p : Nat × Nat => .func (.func 119) #[] #[.pointer (some ⟨p.1, 0, none⟩), .pointer (some ⟨p.2, 0, none⟩)]) (fun p => [blk p.1 61 [.slice a n c], blk p.2 3 [.int .i64 2]])) := by
 refine g_enter (env := [(0, .slice a n c), (1, .int .i64 2)]) Tryz.func97 rfl h Tryz.ntmps97 rfl rfl ?_; refine gsr (zb1 fun b2 => ?_); refine zb1 fun b3 => ?_; refine zxa ?_; refine gnt (gc_seq (gsr (gp zl ?_))); refine gp (r_bool (c := false) zlt rfl) ?_; refine gnt (gc_condF rfl rfl ?_); refine gc_skip (gx_then (gsr (gp zmf ?_))); refine zxa ?_; refine gnt (gc_ret (gx_ret1 rfl (by conv => lhs; whnf) ?_)); exact ze (b2, b3)
theorem chunk3_ok {w : World} {F : Nat → Prop} {b1 b2 g o n m c lp : Nat} {J : Nat → Res} {Jx : Res} (h : stars [blk b1 61 [.slice (some ⟨g, o, none⟩) n c], blk b2 3 [.int .i64 2], J 0] w F) (hc : n ≤ c) (hn : n ≤ 32) (hm : n = 2 * m) (hy : RoundsAt Tryz.prog lp (twoE g o) (twoG m) J Jx w F) :
    Calls Tryz.prog 119 #[.func (.yield lp) #[] #[], .pointer (some ⟨b1, 0, none⟩), .pointer (some ⟨b2, 0, none⟩)] w (Post w F (fun _ : Bool => .tuple #[]) (fun y => (match allOr m y with | some m => J m | none => Jx) :: [])) := by
 refine g_enter (env := [(0, .func (.yield lp) #[] #[]), (1, .pointer (some ⟨b1, 0, none⟩)), (2, .pointer (some ⟨b2, 0, none⟩))]) Tryz.func119 rfl h Tryz.ntmps119 rfl rfl ?_; refine gsr (zxa ?_); refine gnt (gc_block (gc_loop (α := Nat) (fun k => [pureR (k ≤ m), blk b1 61 [.slice (some ⟨g, o, none⟩) n c], blk b2 3 [.int .i64 2], J k]) (fun k => [(4, .int .i64 ((2 * k : Nat) : Int))]) [5, 6, 7, 8, 9, 10, 11, 12, 13, 14, 15, 16, 17, 18, 19, 20, 21, 22, 23, 24, 25, 26, 27, 28, 29, 30] (fun k => m - k) 0 ?_ ?_ ?_))
 ·refine env_start (by kernel_rfl)
 ·exact zlp (Nat.zero_le _)
 ·intro k u; refine gc_pureR (fun hk => ?_)
  replace hk : k ≤ m := hk
  refine gc_seq (gsr (zxm ?_)); refine gp zl ?_; refine gp zln ?_; refine gp zlt ?_; refine gnt (gif rfl (fun hc9 => ?_) (fun hc9 => ?_))
  ·try simp only at hc9
   have hk' : k < m := by omega
   refine gc_skip (gx_then (gc_seq (gc_block (gc_seq (gc_regionS (by kernel_rfl) (by kernel_rfl) ?_))))); refine sp zl ?_; refine sp zl ?_; refine sp zmv ?_; refine sp (r_slice_slice (a := some ⟨g, o, none⟩) (m := n) (c := c) (l := 2 * k) (h := n) rfl Ty.sl_61 Ty.sz_32 ⟨_, rfl⟩ rfl (by omega) (by omega)) ?_; refine sp zln ?_; refine sp (r_int (j := ((2 : Nat) : Int)) r_min (by split <;> omega)) ?_; refine sp zas ?_; refine gs_nil ?_; refine gx_then (gsr (zxm ?_)); refine gp zl ?_; refine zxm ?_; refine zxm ?_; refine zxm ?_; refine gp (r_int (j := ((2 * k + 2 : Nat) : Int)) zad (by omega)) ?_; refine zxm ?_; refine zxm ?_; refine gp (r_int (j := ((2 * k + 2 : Nat) : Int)) zad (by omega)) ?_; refine gp (r_val (v' := .slice (some ⟨g, o + 2 * k * 16, none⟩) 2 2) (r_slice3 (a := some ⟨g, o, none⟩) (m := n) (c := c) (l := 2 * k) (h := 2 * k + 2) (u := 2 * k + 2) rfl Ty.sl_61 Ty.sz_32 rfl rfl rfl (by omega) (Nat.le_refl _) (by omega)) (by rw [if_neg (by omega), add_at, Nat.add_sub_cancel_left])) ?_; refine gl_pI (p := k < m) hk' ?_; refine gyd hy k () rfl (by repeat (first | exact Sel.nil | (apply Sel.cons; · (repeat (first | exact Pick.here | apply Pick.there))))) (fun x29 => ?_)
   rcases x29 with _ | _
   ·refine gp znt ?_; refine gnt (gc_condT rfl rfl ?_); refine gc_ret (gx_block_ret ?_); refine gx_then_ret (gx_round_ret ?_); refine gx_block_ret ?_; refine gx_ret0 rfl ?_; exact ze false
   ·refine gp znt ?_; refine gnt (gc_condF rfl rfl ?_); refine gc_skip (gx_block_normal (gx_then (gc_region (zxm ?_)))); refine gp zl ?_; refine gp (r_int (j := ((2 * (k + 1) : Nat) : Int)) zad (by omega)) ?_; refine zxa ?_; refine gl_nil (zrd (k + 1) ?_ ?_)
    ·show m - (k + 1) < m - k
     omega
    ·exact zlp (show k + 1 ≤ m by omega)
  ·try simp only at hc9
   have hk' : k = m := by omega
   subst hk'; refine gc_exit ?_; refine gx_then_exit ?_; refine gx_round_exit ?_; refine gx_block_hit ?_; refine gx_ret0' rfl ?_; exact ze true
theorem chunk3_it {w : World} {F : Nat → Prop} {b1 b2 g o n m c lp : Nat} {J : Nat → Res} {Jx : Res} (h : stars [blk b1 61 [.slice (some ⟨g, o, none⟩) n c], blk b2 3 [.int .i64 2], J 0] w F) (hc : n ≤ c) (hn : n ≤ 32) (hm : n = 2 * m) :
    IterAt Tryz.prog 119 #[.pointer (some ⟨b1, 0, none⟩), .pointer (some ⟨b2, 0, none⟩)] (twoE g o) (twoG m) (allOr m) (fun _ => []) (fun _ : Bool => .tuple #[]) lp J Jx w F := fun hy => by
  have h2 := chunk3_ok h hc hn hm hy
  exact h2
theorem levels_ok {w : World} {F : Nat → Prop} {a : Option Addr} {n c : Nat} (h : stars [] w F) :
    Calls Tryz.prog 62 #[.slice a n c] w (Post w F (fun p : Nat => .func (.func 96) #[] #[.pointer (some ⟨p, 0, none⟩)]) (fun p => [blk p 61 [.slice a n c]])) := by
 refine g_enter (env := [(0, .slice a n c)]) Tryz.func62 rfl h Tryz.ntmps62 rfl rfl ?_; refine gsr (zb1 fun b1 => ?_); refine zxa ?_; refine zxs ?_; refine gp zmf ?_; refine zxa ?_; refine gnt (gc_ret (gx_ret1 rfl (by conv => lhs; whnf) ?_)); exact ze b1
end
section
attribute [local irreducible] Gl Gc Gx Gs Runs Wt
theorem levels1_ok {w : World} {F : Nat → Prop} {l : List Dig} {a0 : Option Addr} {c0 b1 lp : Nat} {J : Nat → Res} {Jx : Res} (h : stars [blk b1 61 [.slice a0 32 c0], rowR 32 16 a0 32 c0 (l.map dc).flatten, J 0] w F) (hl : l.length = 32) (hK : KR w (fun k => ¬ F k)) (hy : RoundsH Tryz.prog lp lvE (lvG l) lvH J Jx w F) :
    Calls Tryz.prog 96 #[.func (.yield lp) #[] #[], .pointer (some ⟨b1, 0, none⟩)] w (Post w F (fun _ : Bool => .tuple #[]) (fun y => (match allOr 6 y with | some m => J m | none => Jx) :: [blk b1 61 [.slice a0 32 c0], rowR 32 16 a0 32 c0 (l.map dc).flatten])) := by
 refine g_enterM (env := [(0, .func (.yield lp) #[] #[]), (1, .pointer (some ⟨b1, 0, none⟩))]) Tryz.func96 rfl h Tryz.ntmps96 rfl rfl ?_; refine gsr (gp zl ?_); refine zxa ?_; refine gnt (gc_block (gc_loopF (α := Nat × Nat × Option Addr × Nat × List Nat) (fun y => ⟨29, y.2.2.2.2.map mkD, none⟩) (fun y => [pureR (y.1 ≤ 5 ∧ y.2.1 = (lvL l y.1).length ∧ (y.1 = 0 → y.2.2.1 = a0 ∧ y.2.2.2.1 = c0)), rowR 32 16 y.2.2.1 y.2.1 y.2.2.2.1 ((lvL l y.1).map dc).flatten, keepR y.1 (rowR 32 16 a0 32 c0 (l.map dc).flatten), blk b1 61 [.slice a0 32 c0], J y.1, allR (dfsR y.2.2.2.2)]) (fun y => [(3, .slice y.2.2.1 y.2.1 y.2.2.2.1)]) [4, 5, 7, 8, 9, 10, 11, 12, 13, 14, 15, 16, 18, 19, 20, 21, 22, 23, 24, 25, 26, 27, 28] (fun y => 5 - y.1) (0, 32, a0, c0, []) (fun _ => rfl) rfl ?_ ?_ ?_))
 ·refine env_start (by kernel_rfl)
 ·intro w' hw; exact zlp ⟨Nat.zero_le _, hl.symm, fun _ => ⟨rfl, rfl⟩⟩ (by repeat (first | exact Sel.nil | (apply Sel.cons; · (repeat (first | exact Pick.here | apply Pick.there))))) w' ((dfs0 (keep0 (R := rowR 32 16 a0 32 c0 (l.map dc).flatten) hw)).sel (M := [rowR 32 16 a0 32 c0 (l.map dc).flatten, keepR 0 (rowR 32 16 a0 32 c0 (l.map dc).flatten), blk b1 61 [.slice a0 32 c0], J 0, allR (dfsR [])]) (by repeat (first | exact Sel.nil | (apply Sel.cons; · (repeat (first | exact Pick.here | apply Pick.there))))))
 ·intro y u; obtain ⟨k, n, a, c, bs⟩ := y; refine gc_pureR (fun hk => ?_)
  obtain ⟨hk, hn, h0⟩ := hk; replace hk : k ≤ 5 := hk
  replace hn : n = (lvL l k).length := hn
  replace h0 : k = 0 → a = a0 ∧ c = c0 := h0
  subst hn; have hbig := lv_big hl hk
  refine gc_seq (gsr (zxm ?_)); refine zxm ?_; refine gl_pI (p := k < 6 ∧ lvL l k = lvL l k) ⟨by omega, rfl⟩ ?_; refine gydH hy k (a, c, lvL l k) rfl (by repeat (first | exact Sel.nil | (apply Sel.cons; · (repeat (first | exact Pick.here | apply Pick.there))))) (fun x9 => ?_)
  rcases x9 with _ | _
  ·refine gp (r_bool (c := false) zmv (rfl)) ?_; refine gn ?_; refine gn ?_; refine gn ?_; refine gp zpk ?_; refine gnt (gc_condF rfl rfl ?_); refine gc_exit ?_; refine gx_then_exit ?_; refine gx_round_exit ?_; refine gx_block_hit ?_; refine gx_marks' (by repeat (first | exact Pick.here | apply Pick.there)) ?_; refine gx_mark0' ?_; refine gx_ret0' rfl ?_; intro w' hw; exact ⟨false, rfl, (keep_next h0 hl (hw.sel (M := [rowR 32 16 a (lvL l k).length c ((lvL l k).map dc).flatten, keepR k (rowR 32 16 a0 32 c0 (l.map dc).flatten), Jx, blk b1 61 [.slice a0 32 c0]]) (by repeat (first | exact Sel.nil | (apply Sel.cons; · (repeat (first | exact Pick.here | apply Pick.there))))))).z⟩
  ·refine gp (r_bool (c := true) zmv (rfl)) ?_; refine gq zmv ?_; refine gq zln ?_; refine gq (r_bool (c := decide (k < 5)) zgt (by rw [Bool.eq_iff_iff]; simp only [decide_eq_true_eq]; omega)) ?_; refine gp zpk ?_; refine gl_nil (gx_thenM ?_); refine gif rfl (fun hc14 => ?_) (fun hc14 => ?_)
   ·try simp only at hc14
    have hk5 : k < 5 := by simpa using hc14
    obtain ⟨mm, hm, hm1, hm16, hml⟩ := lv_two hl hk5; have hup : (upT (lvL l k)).take mm = (lvL l (k + 1)) := List.take_of_length_le (Nat.le_of_eq hml.symm)
    refine gc_fact (fun w' hw => St.rowAt (hw.sel (M := [rowR 32 16 a (lvL l k).length c ((lvL l k).map dc).flatten]) (by repeat (first | exact Sel.nil | (apply Sel.cons; · (repeat (first | exact Pick.here | apply Pick.there)))))) .here (by omega)) (fun hra => ?_)
    obtain ⟨hcc, ga, oa, ha⟩ := hra; subst ha; refine gc_skip (gx_then (gc_block (gsr (zal fun b4 => ?_)))); refine gnt (gc_seq (gsr (zxm ?_))); refine zc ?_ (c := fun w1 F1 F2 h1 h2 hd hst => chunk2_ok h1)
    rintro ⟨q1, q2⟩
    refine gnt (gc_block (gc_turn (L2 := [DgsR b4 ((upT (lvL l k)).take 0), blk q1 61 [.slice (some ⟨ga, oa, none⟩) (lvL l k).length c], blk q2 3 [.int .i64 2], rowR 32 16 (some ⟨ga, oa, none⟩) (lvL l k).length c ((lvL l k).map dc).flatten, keepR k (rowR 32 16 a0 32 c0 (l.map dc).flatten), blk b1 61 [.slice a0 32 c0], J (k + 1), allR (dfsR bs)]) (fun w' hw => St.dgs (hw.rowNil.sel (M := [blk b4 61 [.slice none 0 0], rowR 32 16 none 0 0 [], blk q1 61 [.slice (some ⟨ga, oa, none⟩) (lvL l k).length c], blk q2 3 [.int .i64 2], rowR 32 16 (some ⟨ga, oa, none⟩) (lvL l k).length c ((lvL l k).map dc).flatten, keepR k (rowR 32 16 a0 32 c0 (l.map dc).flatten), blk b1 61 [.slice a0 32 c0], J (k + 1), allR (dfsR bs)]) (by repeat (first | exact Sel.nil | (apply Sel.cons; · (repeat (first | exact Pick.here | apply Pick.there)))))) rfl rfl) ?_)); refine gc_range (own := [blk q1 61 [.slice (some ⟨ga, oa, none⟩) (lvL l k).length c], blk q2 3 [.int .i64 2]]) (fun i => [DgsR b4 ((upT (lvL l k)).take i), rowR 32 16 (some ⟨ga, oa, none⟩) (lvL l k).length c ((lvL l k).map dc).flatten]) (fun _ _ => [pureR False]) (by exact rfl) Ty.call_119 (by repeat (first | exact Sel.nil | (apply Sel.cons; · (repeat (first | exact Pick.here | apply Pick.there))))) (by intros; rfl) (fun lp J Jx w1 F1 F2 h1 h2 hd hst => chunk3_it h1 hcc (by omega) hm) ?_ ?_ ?_
    ·intro lp rc rc' i x w1 F1 F2 h1 h2 hd hst; try dsimp only [List.cons_append, List.nil_append, zipE]
     have hK1 := hK.mv hst.still
     refine gc_pure1 (p := i < mm) (by repeat (first | exact Pick.here | apply Pick.there)) (fun hi => ?_)
     obtain ⟨e1, he1⟩ : ∃ e, (lvL l k)[2 * i]? = some e := ⟨_, List.getElem?_eq_getElem (by omega)⟩; obtain ⟨e2, he2⟩ : ∃ e, (lvL l k)[2 * i + 1]? = some e := ⟨_, List.getElem?_eq_getElem (by omega)⟩; have htl : ((upT (lvL l k)).take i).length ≤ 16 := by rw [List.length_take]; omega
     refine gc_dgs (by repeat (first | exact Pick.here | apply Pick.there)) (fun a4 c4 => ?_)
     refine gc_region (zxa ?_); refine gl_nil (gx_lp (by repeat (first | exact Pick.here | apply Pick.there)) ?_); refine gx_begin ?_; refine gc_block (gc_regionZ 10 ([blk b4 61 [.slice a4 ((upT (lvL l k)).take i).length c4], rowR 32 16 (some ⟨ga, oa, none⟩) (lvL l k).length c ((lvL l k).map dc).flatten]) ?_); refine yps 0 rfl zl ?_; refine yps 1 rfl zmv ?_; refine yps 2 rfl (r_val (v' := .pointer (some ⟨ga, oa + (2 * i) * 16, none⟩)) zia (by simp)) ?_; refine yps 3 rfl (r_ldRow (i := 2 * i) rfl Ty.row_32 Ty.sz_32 (by repeat (first | exact Pick.here | apply Pick.there)) (dcs_len _) (dcs_get he1) (by omega)) ?_; refine yps 4 rfl zmv ?_; refine yps 5 rfl (r_val (v' := .pointer (some ⟨ga, oa + (2 * i + 1) * 16, none⟩)) zia (by first | (simp; done) | (simp; omega))) ?_; refine yps 6 rfl (r_ldRow (i := 2 * i + 1) rfl Ty.row_32 Ty.sz_32 (by repeat (first | exact Pick.here | apply Pick.there)) (dcs_len _) (dcs_get he2) (by omega)) ?_; refine yos 7 rfl ?_; refine zc (fun _ => ?_) (c := fun w1 F1 F2 h1 h2 hd hst => join4_ok (x := e1) (y := e2) h1 (hK1.mv hst.still))
     refine yxs ?_; refine yos 8 rfl ?_; refine zeN fun b26 => ?_; refine yxs ?_; refine yos 9 rfl ?_; refine zapo (m := ((upT (lvL l k)).take i).length) (j := 1) (fun a27 c27 => ?_)
     refine yxs ?_; refine yzs rfl ?_; refine zs1 ?_; refine gl_nil (gx_block_normal (gx_rdn ?_)); intro w' hw; exact (St.dgs (ds := (upT (lvL l k)).take (i + 1)) (hw.sel (M := [blk b4 61 [.slice a27 _ c27], rowR 32 16 a27 _ c27 _, lpR lp rc', rowR 32 16 (some ⟨ga, oa, none⟩) (lvL l k).length c ((lvL l k).map dc).flatten]) (by repeat (first | exact Sel.nil | (apply Sel.cons; · (repeat (first | exact Pick.here | apply Pick.there)))))) (by rw [upT_take he1 he2, List.length_append]; rfl) (by rw [upT_take he1 he2]; simp)).z
    ·intro bU4 y m hy; try dsimp only [List.cons_append, List.nil_append]
     obtain rfl : m = mm := by cases y <;> simp_all [allOr]
     refine gx_block_normal (gx_thenM ?_); rw [hup]; refine gc_dgs (by repeat (first | exact Pick.here | apply Pick.there)) (fun a4 c4 => ?_)
     refine gc_region (gp zl ?_); refine zxa ?_; refine gl_nil (gx_block_normal (zrdF ((k + 1, (lvL l (k + 1)).length, a4, c4, bU4 :: bs)) ?_ ?_))
     ·show 5 - (k + 1) < 5 - k
      omega
     ·intro w' hw; have g1 := dfsS (keep_next h0 hl (hw.sel (M := [rowR 32 16 (some ⟨ga, oa, none⟩) (lvL l k).length c ((lvL l k).map dc).flatten, keepR k (rowR 32 16 a0 32 c0 (l.map dc).flatten), rowR 32 16 a4 (lvL l (k + 1)).length c4 ((lvL l (k + 1)).map dc).flatten, blk b1 61 [.slice a0 32 c0], J (k + 1), dfR bU4, allR (dfsR bs)]) (by repeat (first | exact Sel.nil | (apply Sel.cons; · (repeat (first | exact Pick.here | apply Pick.there)))))) |>.sel (M := [dfR bU4, allR (dfsR bs), rowR 32 16 a0 32 c0 (l.map dc).flatten, rowR 32 16 a4 (lvL l (k + 1)).length c4 ((lvL l (k + 1)).map dc).flatten, blk b1 61 [.slice a0 32 c0], J (k + 1)]) (by repeat (first | exact Sel.nil | (apply Sel.cons; · (repeat (first | exact Pick.here | apply Pick.there))))))
      have g2 : St w F [allR (dfsR (bU4 :: bs)), keepR (k + 1) (rowR 32 16 a0 32 c0 (l.map dc).flatten), rowR 32 16 a4 (lvL l (k + 1)).length c4 ((lvL l (k + 1)).map dc).flatten, blk b1 61 [.slice a0 32 c0], J (k + 1)] w' := by rw [kpS]; exact g1
      exact St.pureI (show k + 1 ≤ 5 ∧ (lvL l (k + 1)).length = (lvL l (k + 1)).length ∧ (k + 1 = 0 → a4 = a0 ∧ c4 = c0) from ⟨by omega, rfl, fun h => absurd h (by omega)⟩) (g2.z)
    ·exact fun _ _ _ _ _ => gc_noway
   ·try simp only at hc14
    have hk5 : k = 5 := by first | omega | (simp at hc14; omega)
    subst hk5; refine gc_exit ?_; refine gx_then_exit ?_; refine gx_round_exit ?_; refine gx_block_hit ?_; refine gx_marks' (by repeat (first | exact Pick.here | apply Pick.there)) ?_; refine gx_mark0' ?_; refine gx_ret0' rfl ?_; intro w' hw; exact ⟨true, rfl, (keep_next h0 hl (hw.sel (M := [rowR 32 16 a (lvL l 5).length c ((lvL l 5).map dc).flatten, keepR 5 (rowR 32 16 a0 32 c0 (l.map dc).flatten), J 6, blk b1 61 [.slice a0 32 c0]]) (by repeat (first | exact Sel.nil | (apply Sel.cons; · (repeat (first | exact Pick.here | apply Pick.there))))))).z⟩
theorem levels1_it {w : World} {F : Nat → Prop} {l : List Dig} {a0 : Option Addr} {c0 b1 lp : Nat} {J : Nat → Res} {Jx : Res} (h : stars [blk b1 61 [.slice a0 32 c0], rowR 32 16 a0 32 c0 (l.map dc).flatten, J 0] w F) (hl : l.length = 32) (hK : KR w (fun k => ¬ F k)) :
    IterH Tryz.prog 96 #[.pointer (some ⟨b1, 0, none⟩)] lvE (lvG l) lvH (allOr 6) (fun _ => [blk b1 61 [.slice a0 32 c0], rowR 32 16 a0 32 c0 (l.map dc).flatten]) (fun _ : Bool => .tuple #[]) lp J Jx w F := fun hy => by
  have h2 := levels1_ok h hl hK hy
  exact h2
end
section
theorem lv_some {l : List Dig} (h : l.length = 32) {i j : Nat} (hi : i < 6) (hj : j < (lvL l i).length) : (lvL l i)[j]? = some ((lvL l i).getD j dig0) := by
  rw [List.getD_eq_getElem?_getD, List.getElem?_eq_getElem hj]; rfl
theorem lv_pos {l : List Dig} (h : l.length = 32) {i : Nat} (hi : i < 6) : 0 < (lvL l i).length ∧ (lvL l i).length ≤ 32 := by
  have h1 := lvL_len h i
  have h' : i = 0 ∨ i = 1 ∨ i = 2 ∨ i = 3 ∨ i = 4 ∨ i = 5 := by omega
  rcases h' with rfl | rfl | rfl | rfl | rfl | rfl <;> simp [h1]
theorem mate_in {l : List Dig} (h : l.length = 32) {i x : Nat} (hi : i < 5) (hx : x < 32) : mate (x / 2 ^ i) < (lvL l i).length := by
  have h1 := lvL_len h i
  have h' : i = 0 ∨ i = 1 ∨ i = 2 ∨ i = 3 ∨ i = 4 := by omega
  rw [h1]
  unfold mate
  rcases h' with rfl | rfl | rfl | rfl | rfl <;> (split <;> omega)
def curR (l : List Dig) (i : Nat) : Dig := if i = 0 then dig0 else (lvL l (i - 1)).getD 0 dig0
attribute [local irreducible] Gl Gc Gx Gs Runs Wt
theorem root4_ok {w : World} {F : Nat → Prop} {ea : Nat → Addr} {l : List Dig} {a0 : Option Addr} {c0 : Nat} (h : stars [rowR 32 16 a0 32 c0 (l.map dc).flatten] w F) (hl : l.length = 32) (hK : KR w (fun k => ¬ F k))  :
    Calls Tryz.prog 31 #[.slice a0 32 c0] w (Post w F (fun _ : Unit => .tuple #[.agg (dc (rootT 5 l)).toArray, eV 241 ea 0]) (fun _ => [rowR 32 16 a0 32 c0 (l.map dc).flatten])) := by
 refine g_enterM (env := [(0, .slice a0 32 c0)]) Tryz.func31 rfl h Tryz.ntmps31 rfl rfl ?_; refine gsr (zal fun b2 => ?_); refine zxa ?_; refine gnt (gc_seq (gsr (zxm ?_))); refine gp zln ?_; refine gp (r_bool (c := false) zni (rfl)) ?_; refine gnt (gc_condF rfl rfl ?_); refine gc_skip (gx_then (gsr (zal fun b4 => ?_))); refine gnt (gc_seq (gsr (zxm ?_))); refine zc (fun q12 => ?_) (c := fun w1 F1 F2 h1 h2 hd hst => levels_ok h1)
 refine gnt (gc_block (gc_rangeH (H := lvH) (own := [blk q12 61 [.slice a0 32 c0], rowR 32 16 a0 32 c0 (l.map dc).flatten]) (fun i => [blk b4 32 (dc (curR l i)), blk b2 32 zD]) (fun _ _ => [pureR False]) (by exact rfl) Ty.call_96 (by repeat (first | exact Sel.nil | (apply Sel.cons; · (repeat (first | exact Pick.here | apply Pick.there))))) (by intros; rfl) (fun lp J Jx w1 F1 F2 h1 h2 hd hst => levels1_it h1 hl (hK.mv hst.still)) ?_ ?_ ?_))
 ·intro lp rc rc' i y w1 F1 F2 h1 h2 hd hst; try dsimp only [List.cons_append, List.nil_append, zipE]
  obtain ⟨xa, xc, xl⟩ := y; refine gc_pure1 (p := i < 6 ∧ xl = lvL l i) (by repeat (first | exact Pick.here | apply Pick.there)) (fun hx => ?_)
  obtain ⟨hi, rfl⟩ := hx; have hps := lv_pos hl hi
  refine gc_fact (fun w' hw => St.rowAt (hw.sel (M := [lvH i (xa, xc, lvL l i)]) (by repeat (first | exact Sel.nil | (apply Sel.cons; · (repeat (first | exact Pick.here | apply Pick.there)))))) .here (by exact hps.1)) (fun hra => ?_)
  obtain ⟨_, ga, oa, ha⟩ := hra; replace ha : xa = _ := ha
  subst ha; refine gc_region (zxa ?_); refine gl_nil (gx_begin ?_); refine gc_block (gc_region (zxm ?_)); refine gp (r_val (v' := .pointer (some ⟨ga, oa + 0 * 16, none⟩)) (zia (g := ga) (o := oa) (m := (lvL l i).length) (c := xc) (i := 0)) (by simp)) ?_; refine gp (r_ldRow (i := 0) (cs := dc ((lvL l i).getD 0 dig0)) rfl Ty.row_32 Ty.sz_32 (by repeat (first | exact Pick.here | apply Pick.there)) (dcs_len _) (dcs_get (lv_some hl hi hps.1)) hps.1) ?_; refine zsN ?_; refine gl_nil (gx_block_normal (gx_rdn ?_)); intro w' hw; exact (hw.sel (M := [lpR lp rc', blk b4 32 (dc ((lvL l i).getD 0 dig0)), blk b2 32 zD, lvH i (some ⟨ga, oa, none⟩, xc, lvL l i)]) (by repeat (first | exact Sel.nil | (apply Sel.cons; · (repeat (first | exact Pick.here | apply Pick.there))))))
 ·intro bU5 y m hy; try dsimp only [List.cons_append, List.nil_append]
  obtain rfl : m = 6 := by cases y <;> simp_all [allOr]
  rw [show curR l 6 = rootT 5 l from (rootT_lv l 5).symm]; refine gx_block_normal (gx_thenM ?_); refine gsr (gp zL ?_); refine zsN ?_; refine zxa ?_; refine gnt (gc_ret (gx_mark (by repeat (first | exact Pick.here | apply Pick.there)) ?_)); refine gx_mark0 ?_; refine gx_retct rfl rfl (by conv => lhs; whnf) (ldA Ty.row_32 Ty.sz_32) ?_; exact fun w' hw => ⟨(), by rw [eV_zero], hw.z⟩
 ·exact fun _ _ _ _ _ => gc_noway
end
section
attribute [local irreducible] Gl Gc Gx Gs Runs Wt
theorem path4_ok {w : World} {F : Nat → Prop} {ea : Nat → Addr} {l : List Dig} {a0 : Option Addr} {c0 x : Nat} (h : stars [rowR 32 16 a0 32 c0 (l.map dc).flatten] w F) (hl : l.length = 32) (hx : x < 32) (hK : KR w (fun k => ¬ F k))  :
    Calls Tryz.prog 108 #[.slice a0 32 c0, .int .i64 (x : Int)] w (Post w F (fun p : Option Addr × Nat => .tuple #[.slice p.1 5 p.2, eV 241 ea 0]) (fun p => [rowR 32 16 p.1 5 p.2 ((pathT 5 l x).map dc).flatten, rowR 32 16 a0 32 c0 (l.map dc).flatten])) := by
 refine g_enterM (env := [(0, .slice a0 32 c0), (1, .int .i64 (x : Int))]) Tryz.func108 rfl h Tryz.ntmps108 rfl rfl ?_; refine gsr (zb1 fun b3 => ?_); refine zxa ?_; refine zxa ?_; refine gnt (gc_seq (gc_block (gsr (zxm ?_)))); refine gp zln ?_; refine gp (r_bool (c := false) zni (rfl)) ?_; refine zxa ?_; refine gnt (gc_condF rfl rfl ?_); refine gsr (gp zl ?_); refine gp (r_bool (c := false) zlt (decide_eq_false (by omega))) ?_; refine zxm ?_; refine gq zl ?_; refine gq (r_bool (c := false) zge (decide_eq_false (by omega))) ?_; refine gp zpk ?_; refine zxa ?_; refine gnt (gc_condF rfl rfl ?_); refine gc_skip (gx_block_normal (gx_then (gsr (zal fun b6 => ?_)))); refine gnt (gc_seq (gsr (zxm ?_))); refine zc (fun q22 => ?_) (c := fun w1 F1 F2 h1 h2 hd hst => levels_ok h1)
 refine gnt (gc_block (gc_turn (L2 := [DgsR b6 (pathT (min 0 5) l x), blk q22 61 [.slice a0 32 c0], rowR 32 16 a0 32 c0 (l.map dc).flatten, blk b3 3 [.int .i64 ((x / 2 ^ 0 : Nat) : Int)]]) (fun w' hw => St.dgs (hw.rowNil.sel (M := [blk b6 61 [.slice none 0 0], rowR 32 16 none 0 0 [], blk q22 61 [.slice a0 32 c0], rowR 32 16 a0 32 c0 (l.map dc).flatten, blk b3 3 [.int .i64 ((x / 2 ^ 0 : Nat) : Int)]]) (by rw [Nat.pow_zero, Nat.div_one]; exact (by repeat (first | exact Sel.nil | (apply Sel.cons; · (repeat (first | exact Pick.here | apply Pick.there))))))) rfl rfl) ?_)); refine gc_rangeH (H := lvH) (own := [blk q22 61 [.slice a0 32 c0], rowR 32 16 a0 32 c0 (l.map dc).flatten]) (fun i => [DgsR b6 (pathT (min i 5) l x), blk b3 3 [.int .i64 ((x / 2 ^ i : Nat) : Int)]]) (fun _ _ => [pureR False]) (by exact rfl) Ty.call_96 (by repeat (first | exact Sel.nil | (apply Sel.cons; · (repeat (first | exact Pick.here | apply Pick.there))))) (by intros; rfl) (fun lp J Jx w1 F1 F2 h1 h2 hd hst => levels1_it h1 hl (hK.mv hst.still)) ?_ ?_ ?_
 ·intro lp rc rc' i y w1 F1 F2 h1 h2 hd hst; try dsimp only [List.cons_append, List.nil_append, zipE]
  obtain ⟨xa, xc, xl⟩ := y; refine gc_pure1 (p := i < 6 ∧ xl = lvL l i) (by repeat (first | exact Pick.here | apply Pick.there)) (fun hx => ?_)
  obtain ⟨hi, rfl⟩ := hx; have hps := lv_pos hl hi
  have hbig := lv_big hl (show i ≤ 5 by omega)
  refine gc_fact (fun w' hw => St.rowAt (hw.sel (M := [lvH i (xa, xc, lvL l i)]) (by repeat (first | exact Sel.nil | (apply Sel.cons; · (repeat (first | exact Pick.here | apply Pick.there)))))) .here (by exact hps.1)) (fun hra => ?_)
  obtain ⟨_, ga, oa, ha⟩ := hra; replace ha : xa = _ := ha
  subst ha; have hpl := pathT_len (min i 5) l x
  refine gc_dgs (by repeat (first | exact Pick.here | apply Pick.there)) (fun a6 c6 => ?_)
  refine gc_region (zxa ?_); refine gl_nil (gx_lp (by repeat (first | exact Pick.here | apply Pick.there)) ?_); refine gx_begin ?_; refine gc_block (gc_seq (gsr (zxm ?_))); refine gp zln ?_; refine gp (r_bool (c := decide (i < 5)) zgt (by rw [Bool.eq_iff_iff]; simp only [decide_eq_true_eq]; show ((((lvL l i).length : Nat) : Int) > 1) ↔ i < 5; omega)) ?_; refine gnt (gif rfl (fun hc26 => ?_) (fun hc26 => ?_))
  ·try simp only at hc26
   have hi5 : i < 5 := by simpa using hc26
   have hmi := mate_in hl hi5 hx
   have hp1 : pathT (min (i + 1) 5) l x = pathT (min i 5) l x ++ [(lvL l i).getD (mate (x / 2 ^ i)) dig0] := by rw [show min (i + 1) 5 = i + 1 by omega, show min i 5 = i by omega]; exact pathT_snoc i l x
   have hxi : x / 2 ^ i < 32 := Nat.lt_of_le_of_lt (Nat.div_le_self _ _) hx
   refine gc_regionZ 8 ([blk b6 61 [.slice a6 (pathT (min i 5) l x).length c6], blk b3 3 [.int .i64 ((x / 2 ^ i : Nat) : Int)], lvH i (some ⟨ga, oa, none⟩, xc, lvL l i)]) ?_; refine yps 0 rfl zl ?_; refine yps 1 rfl zmv ?_; refine yps 2 rfl zl ?_; refine yps 3 rfl (r_int (j := (((mate (x / 2 ^ i)) : Nat) : Int)) zbt (xor1 hxi)) ?_; refine yps 4 rfl (r_val (v' := .pointer (some ⟨ga, oa + (mate (x / 2 ^ i)) * 16, none⟩)) (zia (g := ga) (o := oa) (m := (lvL l i).length) (c := xc) (i := (((mate (x / 2 ^ i)) : Nat) : Int))) (by simp)) ?_; refine yps 5 rfl (r_ldRow (i := (mate (x / 2 ^ i))) (cs := dc ((lvL l i).getD (mate (x / 2 ^ i)) dig0)) rfl Ty.row_32 Ty.sz_32 (by repeat (first | exact Pick.here | apply Pick.there)) (dcs_len _) (dcs_get (lv_some hl hi hmi)) hmi) ?_; refine yos 6 rfl ?_; refine zeN fun b33 => ?_; refine yxs ?_; refine yos 7 rfl ?_; refine zapo (m := (pathT (min i 5) l x).length) (j := 1) (fun a34 c34 => ?_)
   refine yxs ?_; refine yzs rfl ?_; refine zs1 ?_; refine gnt (gc_region (gp zl ?_)); refine gp (r_int (j := ((x / 2 ^ (i + 1) : Nat) : Int)) zqu ((congrArg IntKind.i64.wrap (quo_nat (m := x / 2 ^ i) (k := 2))).trans (by rw [Nat.div_div_eq_div_mul, ← Nat.pow_succ]; exact wrap_nat (Nat.lt_of_le_of_lt (Nat.div_le_self _ _) (by omega))))) ?_; refine zs1 ?_; refine gl_nil (gx_block_normal (gx_rdn ?_)); intro w' hw; exact (St.dgs (ds := pathT (min (i + 1) 5) l x) (hw.sel (M := [blk b6 61 [.slice a34 _ c34], rowR 32 16 a34 _ c34 _, lpR lp rc', blk b3 3 [.int .i64 ((x / 2 ^ (i + 1) : Nat) : Int)], lvH i (some ⟨ga, oa, none⟩, xc, lvL l i)]) (by repeat (first | exact Sel.nil | (apply Sel.cons; · (repeat (first | exact Pick.here | apply Pick.there)))))) (by rw [pathT_len, pathT_len]; omega) (by rw [hp1]; simp)).z
  ·try simp only at hc26
   have hi5 : ¬ i < 5 := by simpa using hc26
   have hp1 : pathT (min (i + 1) 5) l x = pathT (min i 5) l x := by rw [show min (i + 1) 5 = min i 5 by omega]
   refine gc_skip (gx_then (gc_region (gp zl ?_))); refine gp (r_int (j := ((x / 2 ^ (i + 1) : Nat) : Int)) zqu ((congrArg IntKind.i64.wrap (quo_nat (m := x / 2 ^ i) (k := 2))).trans (by rw [Nat.div_div_eq_div_mul, ← Nat.pow_succ]; exact wrap_nat (Nat.lt_of_le_of_lt (Nat.div_le_self _ _) (by omega))))) ?_; refine zs1 ?_; refine gl_nil (gx_block_normal (gx_rdn ?_)); intro w' hw; exact (St.dgs (ds := pathT (min (i + 1) 5) l x) (hw.sel (M := [blk b6 61 [.slice a6 _ c6], rowR 32 16 a6 _ c6 _, lpR lp rc', blk b3 3 [.int .i64 ((x / 2 ^ (i + 1) : Nat) : Int)], lvH i (some ⟨ga, oa, none⟩, xc, lvL l i)]) (by repeat (first | exact Sel.nil | (apply Sel.cons; · (repeat (first | exact Pick.here | apply Pick.there)))))) (by rw [pathT_len, pathT_len]; omega) (by rw [hp1])).z
 ·intro bU7 y m hy; try dsimp only [List.cons_append, List.nil_append]
  obtain rfl : m = 6 := by cases y <;> simp_all [allOr]
  refine gx_block_normal (gx_thenM ?_); refine gc_seq ?_; have hpl := pathT_len 5 l x
  refine gc_dgs (ds := pathT 5 l x) (by repeat (first | exact Pick.here | apply Pick.there)) (fun a6 c6 => ?_)
  rw [hpl]; refine gc_region (gp zl ?_); refine zxa ?_; refine zxa ?_; refine gnt (gc_ret (gx_mark (by repeat (first | exact Pick.here | apply Pick.there)) ?_)); refine gx_mark0 ?_; refine gx_ret2 rfl (by conv => lhs; whnf) (by conv => lhs; whnf) ?_; exact fun w' hw => ⟨(a6, c6), by rw [eV_zero], hw.z⟩
 ·exact fun _ _ _ _ _ => gc_noway
end
section
attribute [local irreducible] Gl Gc Gx Gs Runs Wt
theorem digits_ok {w : World} {F : Nat → Prop} {d : Dig} (h : stars [] w F) :
    Calls Tryz.prog 123 #[.agg (dc d).toArray] w (Post w F (fun x : Option Addr × Nat => .slice x.1 68 x.2) (fun x => [rowR 3 1 x.1 68 x.2 ((digC d).map I64)])) := by
 have hdl := d.h
 refine g_enter (env := [(0, .agg (dc d).toArray)]) Tryz.func123 rfl h Tryz.ntmps123 rfl rfl ?_; refine gsr (zbN fun b1 => ?_); refine zxa ?_; refine zxs ?_; refine zxa ?_; refine zxs ?_; refine zxa ?_; refine gnt (gc_seq (gsr (gp zL ?_))); refine zxm ?_; refine gnt (gc_block (gc_loop (α := Nat × Nat × Nat × Option Addr × Nat) (fun y => [pureR (y.1 ≤ 16 ∧ y.2.1 = 4 * y.1 ∧ y.2.2.1 = sumD (digs (d.l.take y.1))), rowR 3 1 y.2.2.2.1 y.2.1 y.2.2.2.2 ((digs (d.l.take y.1)).map I64)]) (fun y => [(11, .int .i64 (y.1 : Int)), (3, .slice y.2.2.2.1 y.2.1 y.2.2.2.2), (4, .int .i64 (y.2.2.1 : Int))]) [6, 7, 8, 12, 13, 14, 15, 16, 17, 18, 19, 20, 21, 22, 23, 24, 25, 26, 27, 28, 29, 30, 31] (fun y => 16 - y.1) (0, 0, 0, none, 0) ?_ ?_ ?_))
 ·refine env_start (by kernel_rfl)
 ·exact fun w' hw => zlp ⟨Nat.zero_le _, rfl, rfl⟩ (by repeat (first | exact Sel.nil | (apply Sel.cons; · (repeat (first | exact Pick.here | apply Pick.there))))) w' hw.rowNil
 ·intro y u; obtain ⟨k, n, S, a, c⟩ := y; refine gc_pureR (fun hk => ?_)
  obtain ⟨hk, hn, hS⟩ := hk; replace hk : k ≤ 16 := hk
  replace hn : n = 4 * k := hn
  replace hS : S = sumD (digs (d.l.take k)) := hS
  have hsk := sumD_le (digs (d.l.take k))
  rw [digs_take_len (by omega), ← hS] at hsk; refine gsr (gp zlt ?_); refine gnt (gc_seq (gif rfl (fun hc12 => ?_) (fun hc12 => ?_)))
  ·try simp only at hc12
   have hk' : k < 16 := by omega
   have hst2 := digs_take (l := d.l) (k := k) (by omega)
   have hbx := (d.l.getD k 0).toNat_lt
   refine gc_skip (gx_then (gc_seq (gc_block (gsr (gp (r_index1 (v := B8 (d.l.getD k 0)) rfl rfl Ty.arr_32 Ty.sz_5 Ty.row_5 (by omega) (by omega) (row_byte (by omega) (by rw [d.h]; exact hk'))) ?_))))); refine zxa ?_; refine zxs ?_; refine zxa ?_; refine gnt (gc_block (gc_loop (α := Nat × Nat × Nat × Option Addr × Nat) (fun z => [pureR (z.1 ≤ 4 ∧ z.2.1 = n + z.1 ∧ z.2.2.1 = sumD ((digs (d.l.take k)) ++ (dig2 (d.l.getD k 0).toNat).take z.1)), rowR 3 1 z.2.2.2.1 z.2.1 z.2.2.2.2 (((digs (d.l.take k)) ++ (dig2 (d.l.getD k 0).toNat).take z.1).map I64)]) (fun z => [(7, .int .i64 (6 - 2 * (z.1 : Int))), (3, .slice z.2.2.2.1 z.2.1 z.2.2.2.2), (4, .int .i64 (z.2.2.1 : Int))]) [8, 14, 15, 16, 17, 18, 19, 20, 21, 22, 23, 24, 25, 26, 27, 28, 29, 30] (fun z => 4 - z.1) (0, n, S, a, c) ?_ ?_ ?_))
   ·refine env_start (by kernel_rfl)
   ·rw [List.take_zero, List.append_nil]; exact zlp ⟨Nat.zero_le _, rfl, hS⟩
   ·intro z u; obtain ⟨j, n2, S2, a2, c2⟩ := z; refine gc_pureR (fun hj => ?_)
    obtain ⟨hj, hn2, hS2⟩ := hj; replace hj : j ≤ 4 := hj
    replace hn2 : n2 = n + j := hn2
    replace hS2 : S2 = sumD ((digs (d.l.take k)) ++ (dig2 (d.l.getD k 0).toNat).take j) := hS2
    have hsj := sumD_le ((digs (d.l.take k)) ++ (dig2 (d.l.getD k 0).toNat).take j)
    rw [List.length_append, digs_take_len (by omega), ← hS2] at hsj; have hlj : ((dig2 (d.l.getD k 0).toNat).take j).length ≤ 4 := by rw [List.length_take]; exact Nat.le_trans (Nat.min_le_left _ _) hj
    refine gc_seq (gsr (zxm ?_)); refine gp zge ?_; refine gnt (gif rfl (fun hc15 => ?_) (fun hc15 => ?_))
    ·try simp only at hc15
     have hj' : j < 4 := by omega
     have hdj := dig2_take (b := (d.l.getD k 0).toNat) hj'
     have hx4 : ((d.l.getD k 0).toNat / 2 ^ (6 - 2 * j)) % 4 ≤ 3 := by omega
     have hdv : ((d.l.getD k 0).toNat / 2 ^ (6 - 2 * j)) ≤ (d.l.getD k 0).toNat := Nat.div_le_self _ _
     refine gc_skip (gx_then (gc_seq (gc_block (gsr (zxm ?_))))); refine zxm ?_; refine gp (r_val (v' := .int .u8 ((((d.l.getD k 0).toNat / 2 ^ (6 - 2 * j)) : Nat) : Int)) zhr (congrArg (Value.int .u8) (shr_b rfl hj' (by decide)))) ?_; refine gp (r_int (j := ((((d.l.getD k 0).toNat / 2 ^ (6 - 2 * j)) : Nat) : Int)) zci (wrap_nat (by omega))) ?_; refine gp (r_int (j := ((((d.l.getD k 0).toNat / 2 ^ (6 - 2 * j)) % 4 : Nat) : Int)) zbt (and3 (by omega))) ?_; refine zxa ?_; refine zxs ?_; refine zxm ?_; refine zxm ?_; refine ze1 fun b25 => ?_; refine zapo (m := n2) (j := 1) (news := [I64 (((d.l.getD k 0).toNat / 2 ^ (6 - 2 * j)) % 4)]) (fun a26 c26 => ?_)
     refine zxa ?_; refine gnt (gc_region (zxm ?_)); refine zxm ?_; refine gp (r_int (j := ((3 - ((d.l.getD k 0).toNat / 2 ^ (6 - 2 * j)) % 4 : Nat) : Int)) (zsb (h := sub3w hx4)) rfl) ?_; refine gp (r_int (j := ((S2 + (3 - ((d.l.getD k 0).toNat / 2 ^ (6 - 2 * j)) % 4) : Nat) : Int)) (zad (i := (S2 : Int)) (j := ((3 - ((d.l.getD k 0).toNat / 2 ^ (6 - 2 * j)) % 4 : Nat) : Int)) (h := add_w (by omega))) rfl) ?_; refine zxa ?_; refine gl_nil (gx_block_normal (gx_then (gc_region (zxm ?_)))); refine gp (r_int (j := 6 - 2 * ((j + 1 : Nat) : Int)) (zsb (i := 6 - 2 * (j : Int)) (j := 2) (h := wrap_i64 (by omega) (by omega))) (by omega)) ?_; refine zxa ?_; refine gl_nil (zrd ((j + 1, n2 + 1, S2 + (3 - ((d.l.getD k 0).toNat / 2 ^ (6 - 2 * j)) % 4), a26, c26)) ?_ ?_)
     ·show 4 - (j + 1) < 4 - j
      omega
     ·rw [hdj, ← List.append_assoc, map_I64]; exact zlp (show j + 1 ≤ 4 ∧ n2 + 1 = n + (j + 1) ∧ S2 + (3 - ((d.l.getD k 0).toNat / 2 ^ (6 - 2 * j)) % 4) = sumD (((digs (d.l.take k)) ++ (dig2 (d.l.getD k 0).toNat).take j) ++ [((d.l.getD k 0).toNat / 2 ^ (6 - 2 * j)) % 4]) from ⟨by omega, by omega, by rw [sumD_snoc, hS2]⟩)
    ·try simp only at hc15
     have hj' : j = 4 := by omega
     subst hj'; have e4 : (dig2 (d.l.getD k 0).toNat).take 4 = (dig2 (d.l.getD k 0).toNat) := rfl
     rw [e4] at hS2; rw [e4]; refine gc_exit ?_; refine gx_then_exit ?_; refine gx_round_exit ?_; refine gx_block_hit ?_; refine gx_block_normal (gx_then (gc_region (gp zad ?_))); refine zxm ?_; refine gl_nil (zrd ((k + 1, n2, S2, a2, c2)) ?_ ?_)
     ·show 16 - (k + 1) < 16 - k
      omega
     ·rw [← hst2]; exact zlp (show k + 1 ≤ 16 ∧ n2 = 4 * (k + 1) ∧ S2 = sumD (digs (d.l.take (k + 1))) from ⟨by omega, by omega, by rw [hst2]; exact hS2⟩)
  ·try simp only at hc12
   have hk' : k = 16 := by omega
   subst hk'; have e16 : d.l.take 16 = d.l := List.take_of_length_le (by omega)
   rw [e16] at hS; rw [e16]; refine gc_exit ?_; refine gx_then_exit ?_; refine gx_round_exit ?_; refine gx_block_hit ?_; refine gx_then (gc_seq (gsr (zxa ?_))); refine gnt (gc_block (gc_loop (α := Nat × Nat × Option Addr × Nat) (fun z => [pureR (z.1 ≤ 4 ∧ z.2.1 = 64 + z.1), rowR 3 1 z.2.2.1 z.2.1 z.2.2.2 ((digs d.l ++ (dig2 (sumD (digs d.l))).take z.1).map I64)]) (fun z => [(9, .int .i64 (6 - 2 * (z.1 : Int))), (3, .slice z.2.2.1 z.2.1 z.2.2.2)]) [32, 33, 34, 35, 36, 37, 38, 39, 40, 41, 42] (fun z => 4 - z.1) (0, n, a, c) ?_ ?_ ?_))
   ·refine env_start (by kernel_rfl)
   ·rw [List.take_zero, List.append_nil]; exact zlp ⟨Nat.zero_le _, by simp only; omega⟩
   ·intro z u; obtain ⟨j, n2, a2, c2⟩ := z; refine gc_pureR (fun hj => ?_)
    obtain ⟨hj, hn2⟩ := hj; replace hj : j ≤ 4 := hj
    replace hn2 : n2 = 64 + j := hn2
    refine gc_seq (gsr (zxm ?_)); refine gp zge ?_; refine gnt (gif rfl (fun hc33 => ?_) (fun hc33 => ?_))
    ·try simp only at hc33
     have hj' : j < 4 := by omega
     have hdj := dig2_take (b := sumD (digs d.l)) hj'
     have hdv : (sumD (digs d.l) / 2 ^ (6 - 2 * j)) ≤ sumD (digs d.l) := Nat.div_le_self _ _
     refine gc_skip (gx_then (gc_seq (gc_block (gc_region (zxm ?_))))); refine gp (r_int (j := ((sumD (digs d.l) : Nat) : Int)) zmv (by rw [← hS])) ?_; refine zxm ?_; refine gp (r_int (j := (((sumD (digs d.l) / 2 ^ (6 - 2 * j)) : Nat) : Int)) zhr (shr_b rfl hj' (by decide))) ?_; refine gp (r_int (j := (((sumD (digs d.l) / 2 ^ (6 - 2 * j)) % 4 : Nat) : Int)) zbt (and3 (by omega))) ?_; refine ze1 fun b41 => ?_; refine zapo (m := n2) (j := 1) (news := [I64 ((sumD (digs d.l) / 2 ^ (6 - 2 * j)) % 4)]) (fun a42 c42 => ?_)
     refine zxa ?_; refine gl_nil (gx_block_normal (gx_then (gc_region (zxm ?_)))); refine gp (r_int (j := 6 - 2 * ((j + 1 : Nat) : Int)) (zsb (i := 6 - 2 * (j : Int)) (j := 2) (h := wrap_i64 (by omega) (by omega))) (by omega)) ?_; refine zxa ?_; refine gl_nil (zrd ((j + 1, n2 + 1, a42, c42)) ?_ ?_)
     ·show 4 - (j + 1) < 4 - j
      omega
     ·rw [hdj, ← List.append_assoc, map_I64]; exact zlp (show j + 1 ≤ 4 ∧ n2 + 1 = 64 + (j + 1) by omega)
    ·try simp only at hc33
     have hj' : j = 4 := by omega
     subst hj'; have e4 : digs d.l ++ (dig2 (sumD (digs d.l))).take 4 = digC d := rfl
     rw [e4]; have hn68 : n2 = 68 := by omega
     subst hn68; refine gc_exit ?_; refine gx_then_exit ?_; refine gx_round_exit ?_; refine gx_block_hit ?_; refine gx_then (gsr (zxm ?_)); refine zxa ?_; refine gnt (gc_ret (gx_ret1 rfl (by conv => lhs; whnf) ?_)); exact ze (a2, c2)
end
section
def sigE (seed : Dig) (leaf : Nat) (d : Dig) (i : Nat) : Dig := runC leaf i 0 ((digC d).getD i 0) (secC seed leaf i)
def sigT (seed : Dig) (leaf : Nat) (d : Dig) (k : Nat) : List Value := ((List.range k).map fun i => dc (sigE seed leaf d i)).flatten
theorem sigT_succ (seed : Dig) (leaf : Nat) (d : Dig) (k : Nat) : sigT seed leaf d (k + 1) = sigT seed leaf d k ++ dc (sigE seed leaf d k) := by simp [sigT, List.range_succ]
theorem sigT_all (seed : Dig) (leaf : Nat) (d : Dig) : sigT seed leaf d 68 = ((sigC seed leaf d).map dc).flatten := by simp [sigT, sigC, sigE, Function.comp_def]
theorem row_int {l : List Nat} {e j : Nat} (he : e = j) (hj : j < l.length) : (l.map I64)[e]? = some (I64 (l.getD j 0)) := by
  subst he; rw [List.getElem?_map, List.getElem?_eq_getElem hj]; simp [List.getD, List.getElem?_eq_getElem hj]
theorem digC_get {d : Dig} {k : Nat} (hk : k < 68) : (digC d).getD k 0 ≤ 3 := by
  have hl : k < (digC d).length := by rw [digC_len]; exact hk
  rw [List.getD_eq_getElem?_getD, List.getElem?_eq_getElem hl]; exact digC_le (List.getElem_mem hl)
attribute [local irreducible] Gl Gc Gx Gs Runs Wt
theorem csign_ok {w : World} {F : Nat → Prop} {ea : Nat → Addr} {seed d : Dig} {leaf : Nat} (h : stars [] w F) (hl : leaf < 32) (hK : KR w (fun k => ¬ F k))  :
    Calls Tryz.prog 107 #[.agg (dc seed).toArray, .int .i64 (leaf : Int), .agg (dc d).toArray] w (Post w F (fun x : Option Addr × Nat => .tuple #[.slice x.1 68 x.2, eV 241 ea 0]) (fun x => [rowR 32 16 x.1 68 x.2 ((sigC seed leaf d).map dc).flatten])) := by
 refine g_enter (env := [(0, .agg (dc seed).toArray), (1, .int .i64 (leaf : Int)), (2, .agg (dc d).toArray)]) Tryz.func107 rfl h Tryz.ntmps107 rfl rfl ?_; refine gsr (zbN fun b3 => ?_); refine zbN fun b5 => ?_; refine zxa ?_; refine zxa ?_; refine gnt (gc_seq (gsr (zxm ?_))); refine zc (fun _ => ?_) (c := fun w1 F1 F2 h1 h2 hd hst => cright_ok h1 hl)
 refine gp (r_bool (c := false) znt (rfl)) ?_; refine gnt (gc_condF rfl rfl ?_); refine gc_skip (gx_then (gsr (zxa ?_))); refine gnt (gc_seq (gsr (gp zL ?_))); refine zc ?_ (c := fun w1 F1 F2 h1 h2 hd hst => digits_ok (d := d) h1)
 rintro ⟨a16, c16⟩
 refine gp zln ?_; refine zxm ?_; refine gnt (gc_block (gc_loop (α := Nat × Option Addr × Nat) (fun y => [pureR (y.1 ≤ 68), rowR 32 16 y.2.1 y.1 y.2.2 (sigT seed leaf d y.1), rowR 3 1 a16 68 c16 ((digC d).map I64), blk b3 32 (dc seed)]) (fun y => [(18, .int .i64 (y.1 : Int)), (8, .slice y.2.1 y.1 y.2.2)]) [9, 10, 19, 20, 21, 22, 23, 24, 25, 26, 27, 28, 29, 30, 31, 32, 33, 34] (fun y => 68 - y.1) (0, none, 0) ?_ ?_ ?_))
 ·refine env_start (by kernel_rfl)
 ·exact fun w' hw => zlp (Nat.zero_le _) (by repeat (first | exact Sel.nil | (apply Sel.cons; · (repeat (first | exact Pick.here | apply Pick.there))))) w' hw.rowNil
 ·intro y u; obtain ⟨k, a, c⟩ := y; refine gc_pureR (fun hk => ?_)
  replace hk : k ≤ 68 := hk
  refine gsr (gp zlt ?_); refine gnt (gc_seq (gif rfl (fun hc19 => ?_) (fun hc19 => ?_)))
  ·try simp only at hc19
   have hk' : k < 68 := by omega
   have hg := digC_get (d := d) hk'
   refine gc_fact (fun w' hw => St.rowAt (hw.sel (M := [rowR 3 1 a16 68 c16 ((digC d).map I64)]) (by repeat (first | exact Sel.nil | (apply Sel.cons; · (repeat (first | exact Pick.here | apply Pick.there)))))) .here (by omega)) (fun hra => ?_)
   obtain ⟨_, ga, oa, ha⟩ := hra; subst ha; refine gc_skip (gx_then (gc_seq (gc_block (gsr (zxm ?_))))); refine gp zia ?_; refine gp (r_ld1r (v := I64 ((digC d).getD k 0)) rfl Ty.row_3 (by repeat (first | exact Pick.here | apply Pick.there)) (row_int (by omega) (by rw [digC_len]; exact hk'))) ?_; refine zxa ?_; refine zxa ?_; refine gnt (gc_region (zxm ?_)); refine gp zL ?_; refine zxm ?_; refine zxm ?_; refine zc (fun _ => ?_) (c := fun w1 F1 F2 h1 h2 hd hst => secret_ok (seed := seed) (leaf := leaf) (i := k) h1 hl hk' (hK.mv hst.still))
   refine zxm ?_; refine zxm ?_; refine zxm ?_; refine zc (fun _ => ?_) (c := fun w1 F1 F2 h1 h2 hd hst => run_ok' (x := secC seed leaf k) (leaf := leaf) (i := k) (m := (digC d).getD k 0) h1 hl hk' hg (hK.mv hst.still))
   rw [show runC leaf k 0 ((digC d).getD k 0) (secC seed leaf k) = sigE seed leaf d k from rfl]; refine zeN fun b32 => ?_; refine zapo (m := k) (j := 1) (fun a33 c33 => ?_)
   refine zxa ?_; refine gl_nil (gx_block_normal (gx_then (gc_region (gp zad ?_)))); refine zxm ?_; refine gl_nil (zrd ((k + 1, a33, c33)) ?_ ?_)
   ·show 68 - (k + 1) < 68 - k
    omega
   ·rw [sigT_succ]; exact zlp (show k + 1 ≤ 68 by omega)
  ·try simp only at hc19
   have hk' : k = 68 := by omega
   subst hk'; rw [sigT_all]; refine gc_exit ?_; refine gx_then_exit ?_; refine gx_round_exit ?_; refine gx_block_hit ?_; refine gx_then (gsr (zxm ?_)); refine zxa ?_; refine zxa ?_; refine gnt (gc_ret (gx_ret2 rfl (by conv => lhs; whnf) (by conv => lhs; whnf) ?_)); exact fun w' hw => ⟨(a, c), by rw [eV_zero], hw.z⟩
end
section
def leavesK (seed : Dig) : List Dig := (List.range 32).map (pubK seed)
theorem leavesK_len (seed : Dig) : (leavesK seed).length = 32 := by simp [leavesK]
def rootK (seed : Dig) : Dig := rootT 5 (leavesK seed)
def lvsT (seed : Dig) (k : Nat) : List Value := ((List.range k).map fun i => dc (pubK seed i)).flatten
theorem lvsT_succ (seed : Dig) (k : Nat) : lvsT seed (k + 1) = lvsT seed k ++ dc (pubK seed k) := by simp [lvsT, List.range_succ]
theorem lvsT_all (seed : Dig) : lvsT seed 32 = ((leavesK seed).map dc).flatten := by simp [lvsT, leavesK, Function.comp_def]
def KeyR (q : Nat) (seed : Dig) : Res := exR fun p : Option Addr × Nat => allR [blk q 87 (dc seed ++ (.slice p.1 32 p.2 :: dc (rootK seed))), rowR 32 16 p.1 32 p.2 ((leavesK seed).map dc).flatten]
def sgC (leaf : Nat) (x : (Option Addr × Nat) × (Option Addr × Nat)) : List Value := [.int .i64 (leaf : Int), .slice x.1.1 68 x.1.2, .slice x.2.1 5 x.2.2]
def sgZ : List Value := [.int .i64 0, .slice none 0 0, .slice none 0 0]
def sgV (e leaf : Nat) (x : (Option Addr × Nat) × (Option Addr × Nat)) : List Value := if e = 0 then sgC leaf x else sgZ
def SgR (e : Nat) (x : (Option Addr × Nat) × (Option Addr × Nat)) (seed : Dig) (leaf : Nat) (d : Dig) : Res := if e = 0 then allR [rowR 32 16 x.1.1 68 x.1.2 ((sigC seed leaf d).map dc).flatten, rowR 32 16 x.2.1 5 x.2.2 ((pathT 5 (leavesK seed) leaf).map dc).flatten] else pureR True
def xn : (Option Addr × Nat) × (Option Addr × Nat) := ((none, 0), (none, 0))
instance {leaf : Nat} {x : (Option Addr × Nat) × (Option Addr × Nat)} : Len (sgC leaf x) 3 := ⟨rfl⟩
instance {leaf : Nat} {x : (Option Addr × Nat) × (Option Addr × Nat)} : One (sgC leaf x) := One.of (all_cons' rfl (all_cons' rfl (all_cons' rfl all_nil')))
theorem sgC_len (leaf : Nat) (x : (Option Addr × Nat) × (Option Addr × Nat)) : (sgC leaf x).length = 3 := rfl
theorem sgV_0 {e leaf : Nat} {x : (Option Addr × Nat) × (Option Addr × Nat)} (h : e = 0) : sgV e leaf x = sgC leaf x := if_pos h
theorem sgV_n {e leaf : Nat} {x : (Option Addr × Nat) × (Option Addr × Nat)} (h : ¬ e = 0) : sgV e leaf x = sgZ := if_neg h
theorem sgV_len (e leaf : Nat) (x : (Option Addr × Nat) × (Option Addr × Nat)) : (sgV e leaf x).length = 3 := by unfold sgV; split <;> rfl
theorem sgV_one (e leaf : Nat) (x : (Option Addr × Nat) × (Option Addr × Nat)) : ∀ v ∈ sgV e leaf x, v.oneCell' = true := by
  unfold sgV; split
  · exact all_cons' rfl (all_cons' rfl (all_cons' rfl all_nil'))
  · exact all_cons' rfl (all_cons' rfl (all_cons' rfl all_nil'))
instance {e leaf : Nat} {x : (Option Addr × Nat) × (Option Addr × Nat)} : Len (sgV e leaf x) 3 := ⟨sgV_len e leaf x⟩
instance {e leaf : Nat} {x : (Option Addr × Nat) × (Option Addr × Nat)} : One (sgV e leaf x) := One.of (sgV_one e leaf x)
def guC (qk qs : Nat) (s : VSt) : List Value := .pointer (some ⟨qk, 0, none⟩) :: .pointer (some ⟨qs, 0, none⟩) :: stC s
def GdR (g qk qs gd : Nat) (s : VSt) (sl : SL) : Res := allR [blk g 50 (guC qk qs s), SlR qs gd sl]
section
variable {w0 w : World} {F F0 : Nat → Prop} {L L' : List Res} {Q : Exit → Act → World → Prop} {n : Fm} {env : Env} {ops : Array Oper} {rest : List Oper} {P : Program} {q qk qs gd g m : Nat} {seed : Dig} {a : Option Addr} {c : Nat} {s : VSt} {sl : SL}
theorem key_open (h : stars (KeyR q seed :: L) w F) : ∃ a c, stars (blk q 87 (dc seed ++ (.slice a 32 c :: dc (rootK seed))) :: rowR 32 16 a 32 c ((leavesK seed).map dc).flatten :: L) w F := by
  obtain ⟨⟨a, c⟩, h⟩ := stars_ex h
  exact ⟨a, c, stars_all h⟩
theorem St.key (h : St w0 F0 (blk q 87 (dc seed ++ (.slice a 32 c :: dc (rootK seed))) :: rowR 32 16 a 32 c ((leavesK seed).map dc).flatten :: L) w) : St w0 F0 (KeyR q seed :: L) w := by
  obtain ⟨F, hF, hst⟩ := h
  exact ⟨F, stars_ex_mk (a, c) (stars_all_mk hF), hst⟩
theorem gd_open (h : stars (GdR g qk qs gd s sl :: L) w F) : stars (blk g 50 (.pointer (some ⟨qk, 0, none⟩) :: .pointer (some ⟨qs, 0, none⟩) :: stC s) :: SlR qs gd sl :: L) w F := stars_all h
theorem St.gu (h : St w0 F0 (blk g 50 (.pointer (some ⟨qk, 0, none⟩) :: .pointer (some ⟨qs, 0, none⟩) :: stC s) :: SlR qs gd sl :: L) w) : St w0 F0 (GdR g qk qs gd s sl :: L) w := by
  obtain ⟨F, hF, hst⟩ := h
  exact ⟨F, stars_all_mk hF, hst⟩
theorem gc_gd {k : Code} (hp : Pick L (GdR g qk qs gd s sl) L') (K : Gc P w0 F0 (blk g 50 (.pointer (some ⟨qk, 0, none⟩) :: .pointer (some ⟨qs, 0, none⟩) :: stC s) :: SlR qs gd sl :: L') k Q n env) : Gc P w0 F0 L k Q n env := fun w hw => by
  obtain ⟨F, hF, hst⟩ := hw.pick hp
  exact K w ⟨F, gd_open hF, hst⟩
theorem St.sg {x : (Option Addr × Nat) × (Option Addr × Nat)} {d : Dig} {leaf : Nat} (h : St w0 F0 (rowR 32 16 x.1.1 68 x.1.2 ((sigC seed leaf d).map dc).flatten :: rowR 32 16 x.2.1 5 x.2.2 ((pathT 5 (leavesK seed) leaf).map dc).flatten :: L) w) : St w0 F0 (SgR 0 x seed leaf d :: L) w := by
  obtain ⟨F, hF, hst⟩ := h
  exact ⟨F, stars_all_mk hF, hst⟩
theorem St.sgN {e : Nat} {x : (Option Addr × Nat) × (Option Addr × Nat)} {d : Dig} {leaf : Nat} (he : e ≠ 0) (h : St w0 F0 L w) : St w0 F0 (SgR e x seed leaf d :: L) w := by
  obtain ⟨F, hF, hst⟩ := h
  unfold SgR; rw [if_neg he]
  exact ⟨F, stars_pure_mk trivial hF, hst⟩
end
attribute [local irreducible] Gl Gc Gx Gs Runs Wt
theorem knew_ok {w : World} {F : Nat → Prop} {ea : Nat → Addr} {seed : Dig} (h : stars [] w F) (hK : KR w (fun k => ¬ F k))  :
    Calls Tryz.prog 10 #[.agg (dc seed).toArray] w (Post w F (fun q : Nat => .pointer (some ⟨q, 0, none⟩)) (fun q => [KeyR q seed])) := by
 refine g_enter (env := [(0, .agg (dc seed).toArray)]) Tryz.func10 rfl h Tryz.ntmps10 rfl rfl ?_; refine gsr (zbN fun b1 => ?_); refine zxa ?_; refine zxs ?_; refine gp zL ?_; refine gp (zbu (cs := dc seed ++ (.slice none 0 0 :: zD))) ?_; refine zbN fun b11 => ?_; refine zxa ?_; refine gnt (gc_seq (gsr (zxm ?_))); refine gnt (gc_block (gc_loop (α := Nat × Option Addr × Nat) (fun y => [pureR (y.1 ≤ 32), blk b11 87 (dc seed ++ (.slice y.2.1 y.1 y.2.2 :: dc dig0)), rowR 32 16 y.2.1 y.1 y.2.2 (lvsT seed y.1), blk b1 32 (dc seed)]) (fun y => [(12, .int .i64 (y.1 : Int))]) [4, 5, 6, 13, 14, 15, 16, 17, 18, 19, 20, 21, 22, 23, 24, 25, 26, 27, 28, 29, 30, 31, 32, 33] (fun y => 32 - y.1) (0, none, 0) ?_ ?_ ?_))
 ·refine env_start (by kernel_rfl)
 ·exact fun w' hw => zlp (Nat.zero_le _) (by repeat (first | exact Sel.nil | (apply Sel.cons; · (repeat (first | exact Pick.here | apply Pick.there))))) w' hw.rowNil
 ·intro y u; obtain ⟨k, a, c⟩ := y; refine gc_pureR (fun hk => ?_)
  replace hk : k ≤ 32 := hk
  refine gsr (gp zlt ?_); refine gnt (gc_seq (gif rfl (fun hc13 => ?_) (fun hc13 => ?_)))
  ·try simp only at hc13
   have hk' : k < 32 := by omega
   refine gc_skip (gx_then (gc_seq (gc_block (gsr (zxm ?_))))); refine zxa ?_; refine zxs ?_; refine gp zL ?_; refine zxm ?_; refine zc (fun _ => ?_) (c := fun w1 F1 F2 h1 h2 hd hst => Public_ok (ea := ea) (seed := seed) (leaf := k) h1 hk' (hK.mv hst.still))
   refine zxm ?_; refine gp zex ?_; refine gp zex ?_; refine zal fun b5 => ?_; refine zsN ?_; refine zxa ?_; refine zxs ?_; refine zxm ?_; refine gp (r_bool (c := true) (r_eqnil (k := 0) rfl (by kernel_rfl)) rfl) ?_; refine gnt (gc_condT rfl rfl ?_); refine gc_regionU 8 ([blk b11 87 (dc seed ++ (.slice a k c :: dc dig0)), blk b5 32 (dc (pubK seed k))]) ?_; refine ypu 0 rfl zmv ?_; refine ypu 1 rfl zmv ?_; refine ypu 2 rfl znc ?_; refine ypu 3 rfl zfa ?_; refine ypu 4 rfl zl ?_; refine ypu 5 rfl zL ?_; refine you 6 rfl ?_; refine zeN fun b29 => ?_; refine yxu ?_; refine you 7 rfl ?_; refine zapo (m := k) (j := 1) (fun a30 c30 => ?_)
   refine yxu ?_; refine yzu ?_; refine gp znc ?_; refine gp zfa ?_; refine zs1 ?_; refine gl_nil (gx_block_normal (gx_then (gc_region (gp zad ?_)))); refine zxm ?_; refine gl_nil (zrd ((k + 1, a30, c30)) ?_ ?_)
   ·show 32 - (k + 1) < 32 - k
    omega
   ·rw [lvsT_succ]; exact zlp (show k + 1 ≤ 32 by omega)
  ·try simp only at hc13
   have hk' : k = 32 := by omega
   subst hk'; rw [lvsT_all]; refine gc_exit ?_; refine gx_then_exit ?_; refine gx_round_exit ?_; refine gx_block_hit ?_; refine gx_then (gsr (zxm ?_)); refine gp znc ?_; refine gp zfa ?_; refine gp zl ?_; refine zc (fun _ => ?_) (c := fun w1 F1 F2 h1 h2 hd hst => root4_ok (ea := ea) (l := leavesK seed) h1 (leavesK_len seed) (hK.mv hst.still))
   refine zxm ?_; refine gp zex ?_; refine gp zex ?_; refine zal fun b7 => ?_; refine zsN ?_; refine zxa ?_; refine gnt (gc_seq (gsr (zxm ?_))); refine gp (r_bool (c := true) (r_eqnil (k := 0) rfl (by kernel_rfl)) rfl) ?_; refine gnt (gc_condT rfl rfl ?_); refine gc_region (zxm ?_); refine gp zL ?_; refine gp znc ?_; refine gp zfa ?_; refine zsN ?_; refine zxs ?_; refine zxm ?_; refine zxa ?_; refine gnt (gc_ret (gx_ret1 rfl (by conv => lhs; whnf) ?_)); exact fun w' hw => ⟨b11, rfl, St.key (a := a) (c := c) (hw.z)⟩
theorem kroot_ok {w : World} {F : Nat → Prop} {q : Nat} {seed : Dig} (h : stars [KeyR q seed] w F) :
    Calls Tryz.prog 18 #[.pointer (some ⟨q, 0, none⟩)] w (Post w F (fun _ : Unit => .agg (dc (rootK seed)).toArray) (fun _ => [KeyR q seed])) := by
 obtain ⟨a, c, h⟩ := key_open h; refine g_enter (env := [(0, .pointer (some ⟨q, 0, none⟩))]) Tryz.func18 rfl h Tryz.ntmps18 rfl rfl ?_; refine gsr (zal fun b2 => ?_); refine zxs ?_; refine zxm ?_; refine gp znc ?_; refine gp zfa ?_; refine gp zL ?_; refine zsA (dc_length _) (dc_one _) ?_; refine gnt (gc_ret (gx_retc rfl rfl (ldA Ty.row_32 Ty.sz_32) ?_)); exact fun w' hw => ⟨(), rfl, St.key (a := a) (c := c) (hw.z)⟩
end
section
attribute [local irreducible] Gl Gc Gx Gs Runs Wt
theorem ksign_ok {w : World} {F : Nat → Prop} {ea : Nat → Addr} {q leaf : Nat} {seed d : Dig} (h : stars [KeyR q seed] w F) (hl : leaf < 32) (hK : KR w (fun k => ¬ F k))  :
    Calls Tryz.prog 80 #[.pointer (some ⟨q, 0, none⟩), .int .i64 (leaf : Int), .agg (dc d).toArray] w (Post w F (fun x : (Option Addr × Nat) × (Option Addr × Nat) => .tuple #[.agg (sgC leaf x).toArray, eV 241 ea 0]) (fun x => [SgR 0 x seed leaf d, KeyR q seed])) := by
 obtain ⟨a, c, h⟩ := key_open h; refine g_enter (env := [(0, .pointer (some ⟨q, 0, none⟩)), (1, .int .i64 (leaf : Int)), (2, .agg (dc d).toArray)]) Tryz.func80 rfl h Tryz.ntmps80 rfl rfl ?_; refine gsr (zbN fun b5 => ?_); refine zal fun b6 => ?_; refine zxa ?_; refine gnt (gc_seq (gc_block (gsr (zxm ?_)))); refine gp (r_bool (c := false) zlt (decide_eq_false (by omega))) ?_; refine zxa ?_; refine gnt (gc_condF rfl rfl ?_); refine gsr (zxm ?_); refine gp (r_bool (c := false) zge (decide_eq_false (by omega))) ?_; refine zxa ?_; refine gnt (gc_condF rfl rfl ?_); refine gc_skip (gx_block_normal (gx_then (gc_seq (gc_regionZ 11 ([blk q 87 (dc seed ++ (.slice a 32 c :: dc (rootK seed))), blk b5 32 (dc d)]) ?_)))); refine yps 0 rfl zmv ?_; refine yps 1 rfl znc ?_; refine yps 2 rfl zfa ?_; refine yps 3 rfl zL ?_; refine yps 4 rfl zmv ?_; refine yps 5 rfl zL ?_; refine yos 6 rfl ?_; refine zc ?_ (c := fun w1 F1 F2 h1 h2 hd hst => csign_ok (ea := ea) (seed := seed) (d := d) (leaf := leaf) h1 hl (hK.mv hst.still))
 rintro ⟨a28, c28⟩
 refine yxs ?_; refine yps 7 rfl zmv ?_; refine yps 8 rfl zex ?_; refine yps 9 rfl zex ?_; refine yps 10 rfl zas ?_; refine yzs rfl ?_; refine zxa ?_; refine gnt (gc_seq (gsr (zxm ?_))); refine gp (r_bool (c := false) (r_nenil (k := 0) rfl (by kernel_rfl)) rfl) ?_; refine gnt (gc_condF rfl rfl ?_); refine gc_skip (gx_then (gsr (zxm ?_))); refine gp znc ?_; refine gp zfa ?_; refine gp zl ?_; refine zxm ?_; refine zc ?_ (c := fun w1 F1 F2 h1 h2 hd hst => path4_ok (ea := ea) (l := leavesK seed) (x := leaf) h1 (leavesK_len seed) hl (hK.mv hst.still))
 rintro ⟨a41, c41⟩
 refine zxm ?_; refine gp zex ?_; refine gp zex ?_; refine zxa ?_; refine zxa ?_; refine gnt (gc_seq (gsr (zxm ?_))); refine gp (r_bool (c := false) (r_nenil (k := 0) rfl (by kernel_rfl)) rfl) ?_; refine gnt (gc_condF rfl rfl ?_); refine gc_skip (gx_then (gsr (zxm ?_))); refine zxm ?_; refine zxm ?_; refine gp (zbu (cs := sgC leaf ((a28, c28), (a41, c41)))) ?_; refine zsA (sgC_len leaf ((a28, c28), (a41, c41))) One.h ?_; refine zxa ?_; refine gnt (gc_ret (gx_retct rfl rfl (by conv => lhs; whnf) (ldA Ty.row_63 Ty.sz_63) ?_)); exact fun w' hw => ⟨((a28, c28), (a41, c41)), by rw [eV_zero], St.sg (x := ((a28, c28), (a41, c41))) (d := d) (leaf := leaf) ((St.key (a := a) (c := c) (L := [rowR 32 16 a28 68 c28 ((sigC seed leaf d).map dc).flatten, rowR 32 16 a41 5 c41 ((pathT 5 (leavesK seed) leaf).map dc).flatten]) (hw.z)).z)⟩
end
section
attribute [local irreducible] Gl Gc Gx Gs Runs Wt
theorem vvote_ok {w : World} {F : Nat → Prop} {s : VSt} {e r q g : Int} (h : stars [] w F) {ea : Nat → Addr} {es : List Nat} [Has es 4] [Has es 5] [Has es 10] [Has es 14] [Has es 15] [Has es 18] (hE : GErr es w (fun k => ¬ F k) 241 ea)  :
    Calls Tryz.prog 46 #[.agg (stC s).toArray, .int .i64 e, .int .i64 r, .int .i64 q, .int .i64 g] w (Post w F (fun _ : Unit => .tuple #[.agg (stC (voteV s e r q g).1).toArray, eV 241 ea (voteV s e r q g).2]) (fun _ => [])) := by
 refine g_enter (env := [(0, .agg (stC s).toArray), (1, .int .i64 e), (2, .int .i64 r), (3, .int .i64 q), (4, .int .i64 g)]) Tryz.func46 rfl h Tryz.ntmps46 rfl rfl ?_; refine gsr (zbN fun b5 => ?_); refine zal fun b10 => ?_; refine zxa ?_; refine gnt (gc_seq (gsr (gp zL ?_))); refine zxm ?_; refine zxm ?_; refine zc (fun _ => ?_) (c := fun w1 F1 F2 h1 h2 hd hst => begin13_ok (e := e) (r := r) h1 (hE.mv hst.still))
 refine zxa ?_; refine zxs ?_; refine zxm ?_; refine gp (r_bool (c := decide (¬ beginV s e r = 0)) (r_nenil rfl (by kernel_rfl)) (by simp)) ?_; refine gnt (gif rfl (fun hc20 => ?_) (fun hc20 => ?_))
 ·try simp only at hc20
  have hb : ¬ beginV s e r = 0 := by simpa using hc20
  refine gsr (gp zL ?_); refine zxm ?_; refine zsN ?_; refine zxa ?_; refine gnt (gc_ret (gx_then_ret (gx_retct rfl rfl (by conv => lhs; whnf) (ldA Ty.row_45 Ty.sz_45) ?_))); exact fun w' hw => ⟨(), by rw [voteV, if_neg hb]; try rfl, hw.z⟩
 ·try simp only at hc20
  have hb : beginV s e r = 0 := by simpa using hc20
  obtain ⟨hok, he, hr1, hr2⟩ := beginV_ok hb; have hi := VSt.okI hok
  refine gc_skip (gx_then (gc_seq (gc_block (gc_seq ?_)))); by_cases hq : q < 0
  ·refine gc_region (zxm ?_); refine gp (r_bool (c := true) zlt (decide_eq_true hq)) ?_; refine zxm ?_; refine gn ?_; refine gn ?_; refine gn ?_; refine gp zpk ?_; refine zxa ?_; refine gnt (gc_condT rfl rfl ?_); refine gc_seq (gc_regionZ 3 ([blk b5 45 (stC s)]) ?_); refine yps 0 rfl zL ?_; refine yps 1 rfl (r_ld1o rfl Ty.row_26 (hE.c 14 Has.h) (hE.n 14 Has.h)) ?_; refine yos 2 rfl ?_; refine zsN ?_; refine yxs ?_; refine yzs rfl ?_; refine zxa ?_; refine gnt (gc_ret (gx_block_ret ?_)); refine gx_then_ret (gx_retct rfl rfl (by conv => lhs; whnf) (ldA Ty.row_45 Ty.sz_45) ?_); exact fun w' hw => ⟨(), by rw [voteV, if_pos hb, if_pos (.inl hq)]; try rfl, hw.z⟩
  ·refine gc_region (zxm ?_); refine gp (r_bool (c := false) zlt (decide_eq_false hq)) ?_; refine zxm ?_; refine gq zmv ?_; refine gq zmv ?_; refine gq zge ?_; refine gp zpk ?_; refine zxa ?_; refine gnt (gif rfl (fun hc23 => ?_) (fun hc23 => ?_))
   ·try simp only at hc23
    have hq2 : r ≤ q := by simpa using hc23
    refine gc_seq (gc_regionZ 3 ([blk b5 45 (stC s)]) ?_); refine yps 0 rfl zL ?_; refine yps 1 rfl (r_ld1o rfl Ty.row_26 (hE.c 14 Has.h) (hE.n 14 Has.h)) ?_; refine yos 2 rfl ?_; refine zsN ?_; refine yxs ?_; refine yzs rfl ?_; refine zxa ?_; refine gnt (gc_ret (gx_block_ret ?_)); refine gx_then_ret (gx_retct rfl rfl (by conv => lhs; whnf) (ldA Ty.row_45 Ty.sz_45) ?_); exact fun w' hw => ⟨(), by rw [voteV, if_pos hb, if_pos (.inr hq2)]; try rfl, hw.z⟩
   ·try simp only at hc23
    have hq2 : ¬ r ≤ q := by simpa using hc23
    have hq3 : ¬ (q < 0 ∨ r ≤ q) := by omega
    refine gsr (zxm ?_); refine gp zfa ?_; refine gp zl ?_; refine gp zle ?_; refine zxa ?_; refine gnt (gif rfl (fun hc33 => ?_) (fun hc33 => ?_))
    ·try simp only at hc33
     have hv : r ≤ s.v := by simpa using hc33
     refine gc_seq (gc_regionZ 3 ([blk b5 45 (stC s)]) ?_); refine yps 0 rfl zL ?_; refine yps 1 rfl (r_ld1o rfl Ty.row_26 (hE.c 10 Has.h) (hE.n 10 Has.h)) ?_; refine yos 2 rfl ?_; refine zsN ?_; refine yxs ?_; refine yzs rfl ?_; refine zxa ?_; refine gnt (gc_ret (gx_block_ret ?_)); refine gx_then_ret (gx_retct rfl rfl (by conv => lhs; whnf) (ldA Ty.row_45 Ty.sz_45) ?_); exact fun w' hw => ⟨(), by rw [voteV, if_pos hb, if_neg hq3, if_pos hv]; try rfl, hw.z⟩
    ·try simp only at hc33
     have hv : ¬ r ≤ s.v := by simpa using hc33
     refine gsr (zxm ?_); refine gp zfa ?_; refine gp zl ?_; refine gp zlt ?_; refine zxa ?_; refine gnt (gif rfl (fun hc40 => ?_) (fun hc40 => ?_))
     ·try simp only at hc40
      have hl : q < s.l := by simpa using hc40
      refine gc_seq (gc_regionZ 3 ([blk b5 45 (stC s)]) ?_); refine yps 0 rfl zL ?_; refine yps 1 rfl (r_ld1o rfl Ty.row_26 (hE.c 15 Has.h) (hE.n 15 Has.h)) ?_; refine yos 2 rfl ?_; refine zsN ?_; refine yxs ?_; refine yzs rfl ?_; refine zxa ?_; refine gnt (gc_ret (gx_block_ret ?_)); refine gx_then_ret (gx_retct rfl rfl (by conv => lhs; whnf) (ldA Ty.row_45 Ty.sz_45) ?_); exact fun w' hw => ⟨(), by rw [voteV, if_pos hb, if_neg hq3, if_neg hv, if_pos hl]; try rfl, hw.z⟩
     ·try simp only at hc40
      have hl : ¬ q < s.l := by simpa using hc40
      refine gc_skip (gx_block_normal (gx_then (gc_seq ?_))); by_cases h32 : 32 ≤ s.lf
      ·have ee : endV s false = (s, 5) := by rw [endV, if_neg (by decide), if_pos h32]
       refine gc_region (gp zL ?_); refine zc (fun _ => ?_) (c := fun w1 F1 F2 h1 h2 hd hst => end13_ok (old := false) h1 (by omega) (hE.mv hst.still))
       rw [ee]; refine zxm ?_; refine gp zex ?_; refine gp zex ?_; refine zal fun b13 => ?_; refine zsN ?_; refine zxa ?_; refine gnt (gc_seq (gsr (zxm ?_))); refine gp (r_bool (c := true) (r_nenil rfl (by kernel_rfl)) (by simp)) ?_; refine gnt (gc_condT rfl rfl ?_); refine gsr (gp zL ?_); refine zxm ?_; refine zsN ?_; refine zxa ?_; refine gnt (gc_ret (gx_then_ret (gx_retct rfl rfl (by conv => lhs; whnf) (ldA Ty.row_45 Ty.sz_45) ?_))); exact fun w' hw => ⟨(), by rw [voteV, if_pos hb, if_neg hq3, if_neg hv, if_neg hl, if_pos h32]; try rfl, hw.z⟩
      ·have ee : endV s false = ({ s with lf := s.lf + 1 }, 0) := by rw [endV, if_neg (by decide), if_neg h32]
       refine gc_region (gp zL ?_); refine zc (fun _ => ?_) (c := fun w1 F1 F2 h1 h2 hd hst => end13_ok (old := false) h1 (by omega) (hE.mv hst.still))
       rw [ee]; refine zxm ?_; refine gp zex ?_; refine gp zex ?_; refine zal fun b13 => ?_; refine zsN ?_; refine zxa ?_; refine gnt (gc_seq (gsr (zxm ?_))); refine gp (r_bool (c := false) (r_nenil rfl (by kernel_rfl)) (by simp)) ?_; refine gnt (gc_condF rfl rfl ?_); refine gc_skip (gx_then (gsr (zxm ?_))); refine gp zfa ?_; refine gl_stI (l' := stC { s with lf := s.lf + 1, v := r }) (i := 1) (by repeat (first | exact Pick.here | apply Pick.there)) (by show 1 < 5; omega) rfl ?_; refine gnt (gc_seq (gsr (zxm ?_))); refine zxm ?_; refine gp zle ?_; refine gnt (gif rfl (fun hc60 => ?_) (fun hc60 => ?_))
       ·try simp only at hc60
        have hg : g ≤ q := by simpa using hc60
        refine gc_region (gp zfa ?_); refine gp zl ?_; refine zxm ?_; refine gp (r_int (j := max s.l g) r_max (by split <;> omega)) ?_; refine gp zfa ?_; refine gl_stI (l' := stC { s with lf := s.lf + 1, v := r, l := max s.l g }) (i := 2) (by repeat (first | exact Pick.here | apply Pick.there)) (by show 2 < 5; omega) rfl ?_; refine zxs ?_; refine gp zL ?_; refine zsN ?_; refine zxa ?_; refine gnt (gc_ret (gx_retct rfl rfl (by conv => lhs; whnf) (ldA Ty.row_45 Ty.sz_45) ?_)); exact fun w' hw => ⟨(), by rw [voteV, if_pos hb, if_neg hq3, if_neg hv, if_neg hl, if_neg h32, if_pos hg]; simp only [eV_zero]; try rfl, hw.z⟩
       ·try simp only at hc60
        have hg : ¬ g ≤ q := by simpa using hc60
        refine gc_skip (gx_then (gsr (gp zL ?_))); refine zsN ?_; refine zxa ?_; refine gnt (gc_ret (gx_retct rfl rfl (by conv => lhs; whnf) (ldA Ty.row_45 Ty.sz_45) ?_)); exact fun w' hw => ⟨(), by rw [voteV, if_pos hb, if_neg hq3, if_neg hv, if_neg hl, if_neg h32, if_neg hg]; simp only [eV_zero]; try rfl, hw.z⟩
theorem vlate_ok {w : World} {F : Nat → Prop} {s : VSt} {e r : Int} (h : stars [] w F) {ea : Nat → Addr} {es : List Nat} [Has es 4] [Has es 5] [Has es 10] [Has es 14] [Has es 15] [Has es 18] (hE : GErr es w (fun k => ¬ F k) 241 ea)  :
    Calls Tryz.prog 49 #[.agg (stC s).toArray, .int .i64 e, .int .i64 r] w (Post w F (fun _ : Unit => .tuple #[.agg (stC (lateV s e r).1).toArray, eV 241 ea (lateV s e r).2]) (fun _ => [])) := by
 refine g_enter (env := [(0, .agg (stC s).toArray), (1, .int .i64 e), (2, .int .i64 r)]) Tryz.func49 rfl h Tryz.ntmps49 rfl rfl ?_; refine gsr (zbN fun b3 => ?_); refine zal fun b6 => ?_; refine zxa ?_; refine gnt (gc_seq (gsr (gp zL ?_))); refine zxm ?_; refine zxm ?_; refine zc (fun _ => ?_) (c := fun w1 F1 F2 h1 h2 hd hst => begin13_ok (e := e) (r := r) h1 (hE.mv hst.still))
 refine zxa ?_; refine zxs ?_; refine zxm ?_; refine gp (r_bool (c := decide (¬ beginV s e r = 0)) (r_nenil rfl (by kernel_rfl)) (by simp)) ?_; refine gnt (gif rfl (fun hc16 => ?_) (fun hc16 => ?_))
 ·try simp only at hc16
  have hb : ¬ beginV s e r = 0 := by simpa using hc16
  refine gsr (gp zL ?_); refine zxm ?_; refine zsN ?_; refine zxa ?_; refine gnt (gc_ret (gx_then_ret (gx_retct rfl rfl (by conv => lhs; whnf) (ldA Ty.row_45 Ty.sz_45) ?_))); exact fun w' hw => ⟨(), by rw [lateV, if_neg hb]; try rfl, hw.z⟩
 ·try simp only at hc16
  have hb : beginV s e r = 0 := by simpa using hc16
  obtain ⟨hok, he, hr1, hr2⟩ := beginV_ok hb; have hi := VSt.okI hok
  refine gc_skip (gx_then (gc_seq ?_)); by_cases h32 : 32 ≤ s.lf
  ·have ee : endV s false = (s, 5) := by rw [endV, if_neg (by decide), if_pos h32]
   refine gc_region (gp zL ?_); refine zc (fun _ => ?_) (c := fun w1 F1 F2 h1 h2 hd hst => end13_ok (old := false) h1 (by omega) (hE.mv hst.still))
   rw [ee]; refine zxm ?_; refine gp zex ?_; refine gp zex ?_; refine zal fun b9 => ?_; refine zsN ?_; refine zxa ?_; refine gnt (gc_seq (gsr (zxm ?_))); refine gp (r_bool (c := true) (r_nenil rfl (by kernel_rfl)) (by simp)) ?_; refine gnt (gc_condT rfl rfl ?_); refine gsr (gp zL ?_); refine zxm ?_; refine zsN ?_; refine zxa ?_; refine gnt (gc_ret (gx_then_ret (gx_retct rfl rfl (by conv => lhs; whnf) (ldA Ty.row_45 Ty.sz_45) ?_))); exact fun w' hw => ⟨(), by rw [lateV, if_pos hb, if_pos h32]; try rfl, hw.z⟩
  ·have ee : endV s false = ({ s with lf := s.lf + 1 }, 0) := by rw [endV, if_neg (by decide), if_neg h32]
   refine gc_region (gp zL ?_); refine zc (fun _ => ?_) (c := fun w1 F1 F2 h1 h2 hd hst => end13_ok (old := false) h1 (by omega) (hE.mv hst.still))
   rw [ee]; refine zxm ?_; refine gp zex ?_; refine gp zex ?_; refine zal fun b9 => ?_; refine zsN ?_; refine zxa ?_; refine gnt (gc_seq (gsr (zxm ?_))); refine gp (r_bool (c := false) (r_nenil rfl (by kernel_rfl)) (by simp)) ?_; refine gnt (gc_condF rfl rfl ?_); refine gc_skip (gx_then (gsr (gp zfa ?_))); refine gp zl ?_; refine zxm ?_; refine gp (r_int (j := max s.v r) r_max (by split <;> omega)) ?_; refine gp zfa ?_; refine zs1 ?_; refine zxs ?_; refine gp zL ?_; refine zsN ?_; refine zxa ?_; refine gnt (gc_ret (gx_retct rfl rfl (by conv => lhs; whnf) (ldA Ty.row_45 Ty.sz_45) ?_)); exact fun w' hw => ⟨(), by rw [lateV, if_pos hb, if_neg h32]; simp only [eV_zero]; try rfl, hw.z⟩
end
end Go.Proofs.YtggjlkheniombaaGreatDoor
