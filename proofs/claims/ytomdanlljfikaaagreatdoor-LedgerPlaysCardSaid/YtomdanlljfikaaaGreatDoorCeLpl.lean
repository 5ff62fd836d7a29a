/- Part 6. What is proved: see the last part: for every input the law returns true, and the input reads as it did. -/
import Derived.Test.YtomdanlljfikaaaGreatDoorCe5
import Derived.Test.YtomdanlljfikaaaGreatDoorCards
import Derived.Test.YtomdanlljfikaaaGreatDoorTie
import Derived.Deep.DeepHandedRow
import Derived.Deep.DeepWitnessRowRef
namespace Go.Proofs.YtomdanlljfikaaaGreatDoor
open Go
set_option linter.unusedVariables false
set_option linter.unusedSimpArgs false
set_option linter.unusedSectionVars false
set_option maxHeartbeats 400000
section
section
variable {d : DS} {e h x : Nat} {Y : List UInt8}
end
def rdB (d : DS) (bs : Nat) : Bool := match lopen d bs [] with | .ok _ => true | .error _ => false
def rdL (d : DS) (bs : Nat) : List LRec := match lopen d bs [] with | .ok x => x.1 | .error _ => []
def RdRec18 (w : World) (A : Nat → Prop) (cs : List Value) (r : LRec) : Prop := ∃ xb xc, cs = xb ++ xc ∧ RdBlock w A xb r.b ∧ RdQC w A xc r.c
theorem RdRec18.mv {w w' : World} {A A' : Nat → Prop} {cs : List Value} {r : LRec} (h : RdRec18 w A cs r) (hk : Still w A w' A') : RdRec18 w' A' cs r := by
  obtain ⟨xb, xc, h1, h2, h3⟩ := h; exact ⟨xb, xc, h1, h2.mv hk, h3.mv hk⟩
instance : RdK RdRec18 := ⟨fun h k => h.mv k⟩
attribute [local irreducible] Gl Gc Gx Gs Runs Wt
set_option maxRecDepth 20000
attribute [local irreducible] dc blkC qcC allE idOf madeE RdBlock RdQC RdRec18 rdB rdL
end
section
section app2
variable {P : Program} {w0 : World} {F0 : Nat → Prop} {L : List Res} {Q : Exit → Act → World → Prop} {n : Fm} {env : Env} {ops : Array Oper} {rest : List Oper}
end app2
structure LdzOk (d : DS) (n bs : Nat) (rs : List LRec) : Prop where
  ld : LdOk d n bs rs
  z : ∀ j, bs + tot rs < j → d.at j = sec0
theorem LdzOk.at {d : DS} {n bs : Nat} {rs : List LRec} (h : LdzOk d n bs rs) (j : Nat) : d.at (bs + j) = (secsOf 0 rs).getD j sec0 := by
  by_cases h1 : j < tot rs
  · exact h.ld.i.lo.at' j h1
  · have hg : (secsOf 0 rs).getD j sec0 = sec0 := by simp only [List.getD]; rw [List.getElem?_eq_none (by rw [secsOf_len]; omega)]; rfl
    rw [hg]
    by_cases h2 : j = tot rs
    · subst h2; exact h.ld.i.lo.fin
    · exact h.z _ (by omega)
def LdzR (q g n bs : Nat) (rs : List LRec) : Res := exR fun d : DS => allR [pureR (LdzOk d n bs rs), LedR q g (lsOf bs rs), DiskR g d]
section
variable {w w0 : World} {F F0 : Nat → Prop} {q g n bs : Nat} {rs : List LRec} {L : List Res} {ea : Nat → Addr} {es : List Nat}
theorem lz_open (h : stars (LdzR q g n bs rs :: L) w F) : ∃ d, LdzOk d n bs rs ∧ stars (LedR q g (lsOf bs rs) :: DiskR g d :: L) w F := by
  obtain ⟨d, h⟩ := stars_ex h
  obtain ⟨h1, h2⟩ := stars_pure (stars_all h)
  exact ⟨d, h1, h2⟩
theorem St.lz {d : DS} (h : St w0 F0 (LedR q g (lsOf bs rs) :: DiskR g d :: L) w) (hd : LdzOk d n bs rs) : St w0 F0 (LdzR q g n bs rs :: L) w := h.mapL fun F hF => stars_ex_mk d (stars_all_mk (stars_pure_mk hd hF))
theorem gl_lz {P : Program} {Q : Exit → Act → World → Prop} {m : Fm} {env : Env} {ops : Array Oper} {rest : List Oper} {L' : List Res} (hp : Pick L (LdzR q g n bs rs) L') (k : ∀ d, LdzOk d n bs rs → Gl P w0 F0 (LedR q g (lsOf bs rs) :: DiskR g d :: L') ops Q rest m env) : Gl P w0 F0 L ops Q rest m env := fun w hw => by
  obtain ⟨F, hF, hst⟩ := hw.pick hp
  obtain ⟨d, hd, h⟩ := lz_open hF
  exact k d hd w ⟨F, h, hst⟩
theorem fmtZ (h : stars [DiskR g ⟨n, fun _ => sec0, [], false, false, 0⟩] w F) (hn : n ≤ 4096) (hb : bs < n) [Has es 1] [Has es 6] (hE : GErr es w (fun k => ¬ F k) 261 ea) :
    Calls Tryz.prog 7 #[.pointer (some ⟨g, 0, none⟩), .int .i64 (bs : Int)] w (Post w F (fun q : Nat => .tuple #[.pointer (some ⟨q, 0, none⟩), eV 261 ea 0]) (fun q => [LdzR q g n bs []])) := by
  have hc := disk0_calm hn
  obtain ⟨d', e, h1, h2, h3, h4⟩ := fmt_calm hc hb
  obtain ⟨hw, hcw⟩ := hc.wr (i := bs) (v := sec0) hb
  obtain ⟨hs, hc2, ho⟩ := hcw.sync
  have e2 : d' = (DS.write ⟨n, fun _ => sec0, [], false, false, 0⟩ (bs : Int) sec0).sync := by
    have e3 : fmtL ⟨n, fun _ => sec0, [], false, false, 0⟩ (bs : Int) = (0, (DS.write ⟨n, fun _ => sec0, [], false, false, 0⟩ (bs : Int) sec0).sync) := by
      rw [fmtL, if_pos (has_iff.2 ⟨by omega, by show (bs : Int) < (n : Int); omega⟩), hw, if_pos rfl, if_neg (by rw [ho]; decide), hs]
    rw [e] at e3
    exact (Prod.mk.inj e3).2
  have hz : ∀ j, d'.at j = sec0 := fun j => by
    rw [e2, at_sync, at_write]; split <;> rfl
  refine Calls.mono (formatL_ok (b := (bs : Int)) h hc.ok hE) ?_
  rintro o w' ⟨q, ho, hs⟩
  simp only [e, if_true] at ho hs
  exact ⟨q, ho, St.lz (rs := []) (n := n) (L := []) (show St w F [LedR q g (lsOf bs []), DiskR g d'] w' from hs) ⟨⟨h1, h2, h3, h4⟩, fun j _ => hz j⟩⟩
end
end
section
theorem smO_okB (o : Op18) : OkBlock (smO o).b := by
  have h := rnd_lt o.round
  exact ⟨show I64 (1 : Int) by unfold I64; decide, show I64 ((rndU o.round : Nat) : Int) by unfold I64; omega, ⟨show I64 (0 : Int) by unfold I64; decide, show I64 (0 : Int) by unfold I64; decide, fun x hx => by cases hx⟩, fun x hx => by cases hx⟩
theorem smO_okQ (o : Op18) : OkQC (smO o).c := by
  have h := rnd_lt o.round
  exact ⟨show I64 (1 : Int) by unfold I64; decide, show I64 ((rndU o.round : Nat) : Int) by unfold I64; omega, fun x hx => by rw [List.eq_of_mem_replicate (show x ∈ List.replicate _ sgE from hx)]; exact ⟨show I64 (0 : Int) by unfold I64; decide, show I64 (0 : Int) by unfold I64; decide⟩⟩
def spS (rs : List LRec) (i0 : Nat) (v : Sec) (k : Nat) : List Sec := (secsOf 0 rs).set i0 v ++ List.replicate k sec0
theorem rec18_of {w : World} {A : Nat → Prop} {xb xc : List Value} {r : LRec} (h : RdRec18 w A (xb ++ xc) r) (hl : xb.length = 39) : RdBlock w A xb r.b ∧ RdQC w A xc r.c := by
  obtain ⟨b', c', e, h1, h2⟩ := h
  obtain ⟨rfl, rfl⟩ := List.append_inj e (by rw [hl, h1.len])
  exact ⟨h1, h2⟩
end
section
def wX2 (O T U : Nat) (m : List UInt8) (p q : Option Nat) (j : Nat) : Nat := qW m j * O + wC p j * T + wC q j * U
def wW2 (O T U : Nat) (m : List UInt8) (p q : Option Nat) : List Nat := [wX2 O T U m p q 0, wX2 O T U m p q 1, wX2 O T U m p q 2, wX2 O T U m p q 3, wX2 O T U m p q 4, wX2 O T U m p q 5, wX2 O T U m p q 6, wX2 O T U m p q 7, wX2 O T U m p q 8, wX2 O T U m p q 9, wX2 O T U m p q 10, wX2 O T U m p q 11, wX2 O T U m p q 12, wX2 O T U m p q 13, wX2 O T U m p q 14, wX2 O T U m p q 15]
def wS2 (O T U : Nat) (m : List UInt8) (p q : Option Nat) : Nat → List (List Nat)
  | 0 => []
  | n + 1 => wW2 O T U m p q :: wS2 O T U (m.drop 64) (wNext p) (wNext q) n
def wOk2 (m : List UInt8) (p q : Option Nat) : Prop := ∀ v, wOk (setO m p v) q
theorem wOk2.next {m : List UInt8} {p q : Option Nat} (h : wOk2 m p q) : wOk2 (m.drop 64) (wNext p) (wNext q) := fun v => by rw [← setO_drop]; exact (h v).next
theorem wX2_eq {L : Nat} {m : List UInt8} {p q : Option Nat} {t u : Nat → UInt8} {j : Nat} (h : wOk m p) (h2 : wOk2 m p q) : pw (fun l => wordAt (setO (setO m p (t l)) q (u l)) j) L = wX2 (pk (fun _ => 1) L) (pk (fun l => (t l).toNat) L) (pk (fun l => (u l).toNat) L) m p q j := by
  unfold pw wX2
  rw [pk_mul, pk_mul, pk_mul, pk_add, pk_add]
  exact pk_congr fun i _ => by rw [qW_eq, qW_set (h2 (t i)), qW_set h, Nat.mul_one]
theorem wS2_eq {L : Nat} {t u : Nat → UInt8} : ∀ (n : Nat) {m : List UInt8} {p q : Option Nat}, wOk m p → wOk2 m p q → wordsAll L (fun l => setO (setO m p (t l)) q (u l)) n = wS2 (pk (fun _ => 1) L) (pk (fun l => (t l).toNat) L) (pk (fun l => (u l).toNat) L) m p q n
  | 0, m, p, q, h, h2 => rfl
  | n + 1, m, p, q, h, h2 => by
    unfold wordsAll wS2
    have e : (fun l => (setO (setO m p (t l)) q (u l)).drop 64) = fun l => setO (setO (m.drop 64) (wNext p) (t l)) (wNext q) (u l) := funext fun l => by rw [setO_drop, setO_drop]
    rw [e, wS2_eq n h.next h2.next]
    simp only [words16, wX2_eq h h2, wW2]
theorem pk_inj : ∀ {L : Nat} {f g : Nat → Nat}, (∀ i, f i < 2 ^ 64) → (∀ i, g i < 2 ^ 64) → pk f L = pk g L → ∀ i, i < L → f i = g i
  | 0, _, _, _, _, _, i, hi => absurd hi (Nat.not_lt_zero i)
  | L + 1, f, g, hf, hg, h, i, hi => by
    rw [pk_succ, pk_succ] at h
    have h0 := hf 0
    have h1 := hg 0
    have e : f 0 = g 0 := by
      have := congrArg (· % 2 ^ 64) h
      simpa [Nat.add_mul_mod_self_left, Nat.mod_eq_of_lt h0, Nat.mod_eq_of_lt h1] using this
    rw [e] at h
    have e2 := Nat.eq_of_mul_eq_mul_left (show 0 < 2 ^ 64 by decide) (Nat.add_left_cancel h)
    cases i with
    | zero => exact e
    | succ i => exact pk_inj (fun i => hf (i + 1)) (fun i => hg (i + 1)) e2 i (by omega)
theorem pk_const (c L : Nat) : c * pk (fun _ => 1) L = pk (fun _ => c) L := by rw [pk_mul]; exact pk_congr fun i _ => Nat.mul_one _
def noG (g O X : Nat) : Bool := Nat.beq (((X ^^^ (g * O)) + 4294967295 * O) &&& (4294967296 * O)) (4294967296 * O)
theorem noG_ok {g L : Nat} {f : Nat → Nat} (hf : ∀ i, f i < 2 ^ 32) (hg : g < 2 ^ 32) (h : noG g (pk (fun _ => 1) L) (pk f L) = true) : ∀ i, i < L → f i ≠ g := fun i hi e => by
  have h := Nat.eq_of_beq_eq_true h
  rw [pk_const, pk_const, pk_const, pk_xor (fun i => Nat.lt_trans (hf i) (by decide)) (fun _ => Nat.lt_trans hg (by decide)), pk_add, pk_and (fun i => by have := Nat.xor_lt_two_pow (hf i) hg; omega) (fun _ => by decide)] at h
  have h2 := pk_inj (fun i => Nat.lt_of_le_of_lt Nat.and_le_right (by decide)) (fun _ => by decide) h i hi
  simp only [e, Nat.xor_self] at h2
  exact absurd h2 (by decide)
def vO (O : Nat) : List Nat := [v0.a.toNat * O, v0.b.toNat * O, v0.c.toNat * O, v0.d.toNat * O, v0.e.toNat * O, v0.f.toNat * O, v0.g.toNat * O, v0.h.toNat * O]
theorem vO_eq (L : Nat) : vO (pk (fun _ => 1) L) = lanes8 L (fun _ => v0) := by simp only [vO, lanes8, pw_const]
def laneF (g M O T U : Nat) (m : List UInt8) (p q n : Nat) : Bool := fc ((qall M O (ksF Kc 0 64) (vO O) (wS2 O T U m (some p) (some q) n)).headD 0) fun X => noG g O X
theorem lane_ne2 {g L n p q : Nat} {t u : Nat → UInt8} {m : List UInt8} (hg : g < 2 ^ 32) (hm : m.length = 64 * n) (h : wOk m (some p)) (h2 : wOk m (some q)) (hpq : p ≠ q) (ha : laneF g (lmask L) (pk (fun _ => 1) L) (pk (fun l => (t l).toNat) L) (pk (fun l => (u l).toNat) L) m p q n = true) {l : Nat} (hl : l < L) {d : Dig} (hd : qW d.l 0 = g) :
    digN (qnat8 (takes Kc v0 ((m.set p (t l)).set q (u l))).1) ≠ d.l := fun e => by
  have hw2 : wOk2 m (some p) (some q) := fun v => ⟨by show q < (m.set p v).length; rw [List.length_set]; exact h2.1, by show qB (m.set p v) q = 0; rw [qB_set h.1 h.2, if_neg hpq, Nat.add_zero]; exact h2.2⟩
  have h1 := qall_eq Kc L n (fun _ => v0) (fun l => setO (setO m (some p) (t l)) (some q) (u l))
  rw [wS2_eq n h hw2] at h1
  unfold laneF at ha
  rw [fc_eq, vO_eq, h1] at ha
  have h3 := noG_ok (f := fun l => (qtks Kc v0 (setO (setO m (some p) (t l)) (some q) (u l)) n).a.toNat) (fun i => u32_lt _) hg (by simpa [lanes8, pw] using ha) l hl
  apply h3
  rw [← hd, ← e, takes_qtks Kc n v0 ((m.set p (t l)).set q (u l)) (by rw [List.length_set, List.length_set]; exact hm)]
  unfold qnat8
  rw [qW_digN _ _ _ _ _ _ _ _ (u32_lt _)]
  rfl
def onesN : Nat → Nat
  | 0 => 1
  | k + 1 => fc (onesN k) fun x => x + 2 ^ (64 * 2 ^ k) * x
theorem onesN_eq : ∀ k, onesN k = pk (fun _ => 1) (2 ^ k)
  | 0 => rfl
  | k + 1 => by
    rw [onesN, fc_eq, onesN_eq k, show (2 : Nat) ^ (k + 1) = 2 ^ k + 2 ^ k by rw [Nat.pow_succ]; omega, pk_append]
def idN : Nat → Nat
  | 0 => 0
  | k + 1 => fc (idN k) fun x => fc (onesN k) fun o => x + 2 ^ (64 * 2 ^ k) * (x + 2 ^ k * o)
theorem idN_eq : ∀ k, idN k = pk (fun l => l) (2 ^ k)
  | 0 => rfl
  | k + 1 => by
    rw [idN, fc_eq, fc_eq, idN_eq k, onesN_eq k, show (2 : Nat) ^ (k + 1) = 2 ^ k + 2 ^ k by rw [Nat.pow_succ]; omega, pk_append, pk_const, pk_add]
    congr 2
    exact pk_congr fun i _ => Nat.add_comm _ _
def uN : Nat → Nat
  | 0 => idN 8
  | j + 1 => fc (uN j) fun x => x + 2 ^ (64 * 2 ^ (8 + j)) * x
theorem p8 (j : Nat) : (2 : Nat) ^ (8 + j) = 256 * 2 ^ j := by rw [Nat.pow_add]
theorem uN_eq : ∀ j, uN j = pk (fun l => l % 256) (2 ^ (8 + j))
  | 0 => by rw [uN, idN_eq]; exact pk_congr fun i hi => (Nat.mod_eq_of_lt hi).symm
  | j + 1 => by
    rw [uN, fc_eq, uN_eq j, show (2 : Nat) ^ (8 + (j + 1)) = 2 ^ (8 + j) + 2 ^ (8 + j) by rw [← Nat.add_assoc, Nat.pow_succ]; omega, pk_append]
    congr 2
    exact pk_congr fun i _ => by rw [p8, Nat.mul_add_mod]
def qN : Nat → Nat
  | 0 => 0
  | j + 1 => fc (qN j) fun x => fc (onesN (8 + j)) fun o => x + 2 ^ (64 * 2 ^ (8 + j)) * (x + 2 ^ j * o)
theorem pk_zero (L : Nat) : pk (fun _ => 0) L = 0 := by rw [← pk_const, Nat.zero_mul]
theorem qN_eq : ∀ j, qN j = pk (fun l => l / 256) (2 ^ (8 + j))
  | 0 => by
    have e : pk (fun l => l / 256) (2 ^ (8 + 0)) = pk (fun _ => 0) (2 ^ (8 + 0)) := pk_congr fun i hi => Nat.div_eq_of_lt hi
    rw [e, pk_zero]; rfl
  | j + 1 => by
    rw [qN, fc_eq, fc_eq, qN_eq j, onesN_eq, show (2 : Nat) ^ (8 + (j + 1)) = 2 ^ (8 + j) + 2 ^ (8 + j) by rw [← Nat.add_assoc, Nat.pow_succ]; omega, pk_append, pk_const, pk_add]
    congr 2
    exact pk_congr fun i _ => by rw [p8, Nat.mul_add_div (by decide), Nat.add_comm]
def d123 : Dig := ⟨[1, 2, 3, 0, 0, 0, 0, 0, 0, 0, 0, 0, 0, 0, 0, 0], rfl⟩
def smX (h lo tx : UInt8) : List UInt8 := [0, 0, 0, 1] ++ [0, 0, 0, 0, h, lo] ++ List.replicate 16 0 ++ List.replicate 27 0 ++ [1, 0, 1, tx, 0]
def smM (h lo tx : UInt8) : List UInt8 := refPad (framed 6 [smX h lo tx])
theorem beN_6 {n : Nat} (hn : n < 65536) : beN (n : Int) 6 = [0, 0, 0, 0, UInt8.ofNat (n / 256), UInt8.ofNat (n % 256)] := by
  have h : ∀ j, byteAt (n : Int) j = UInt8.ofNat (n / 256 ^ j) := fun j => byteAt_nat n j
  have p : (256 : Nat) ^ 5 = 1099511627776 ∧ (256 : Nat) ^ 4 = 4294967296 ∧ (256 : Nat) ^ 3 = 16777216 ∧ (256 : Nat) ^ 2 = 65536 := by decide
  show [byteAt (n : Int) 5, byteAt (n : Int) 4, byteAt (n : Int) 3, byteAt (n : Int) 2, byteAt (n : Int) 1, byteAt (n : Int) 0] = _
  rw [h, h, h, h, h, h, p.1, p.2.1, p.2.2.1, p.2.2.2, Nat.div_eq_of_lt (show n < 1099511627776 by omega), Nat.div_eq_of_lt (show n < 4294967296 by omega), Nat.div_eq_of_lt (show n < 16777216 by omega), Nat.div_eq_of_lt hn, Nat.pow_one, Nat.pow_zero, Nat.div_one]
  have e : UInt8.ofNat n = UInt8.ofNat (n % 256) := UInt8.toNat_inj.1 (by rw [UInt8.toNat_ofNat', UInt8.toNat_ofNat', Nat.mod_mod])
  rw [e]; rfl
theorem qc_bytes (X : List UInt8) : wQC qc0 ⟨0, X⟩ = ⟨0, X ++ List.replicate 27 0⟩ := by
  have h : wQC qc0 ⟨0, X⟩ = ⟨0, (((X ++ beN 0 4) ++ beN 0 6) ++ dig0.l) ++ beN 0 1⟩ := by rfl
  have e : beN 0 4 ++ (beN 0 6 ++ (dig0.l ++ beN 0 1)) = List.replicate 27 0 := by kernel_rfl
  rw [h, List.append_assoc, List.append_assoc, List.append_assoc, e]
theorem tx_bytes (X : List UInt8) (tx : UInt8) : wPut (fun t => wBytes t 16) [[tx]] 4 ⟨0, X⟩ = ⟨0, X ++ [1, 0, 1, tx]⟩ := by
  have h : wPut (fun t => wBytes t 16) [[tx]] 4 ⟨0, X⟩ = ⟨0, ((X ++ beN 1 1) ++ beN 1 2) ++ [tx]⟩ := by rfl
  have e1 : beN 1 1 = [1] := by kernel_rfl
  have e2 : beN 1 2 = [0, 1] := by kernel_rfl
  rw [h, e1, e2]; simp
theorem vd_bytes (X : List UInt8) : wPut wVdr [] 7 ⟨0, X⟩ = ⟨0, X ++ [0]⟩ := by
  have h : wPut wVdr [] 7 ⟨0, X⟩ = ⟨0, X ++ beN 0 1⟩ := by rfl
  have e1 : beN 0 1 = [0] := by kernel_rfl
  rw [h, e1]
theorem sm_bytes {n : Nat} {tx : UInt8} (h : n < 1000) : wBlock (smB n tx) ⟨0, []⟩ = ⟨0, smX (UInt8.ofNat (n / 256)) (UInt8.ofNat (n % 256)) tx⟩ := by
  have e1 : wAt 1 (n : Int) ⟨0, []⟩ = ⟨0, [0, 0, 0, 1] ++ [0, 0, 0, 0, UInt8.ofNat (n / 256), UInt8.ofNat (n % 256)]⟩ := by
    have p6 : (256 : Nat) ^ 6 = 281474976710656 := by decide
    show wNum (n : Int) 6 (wNum 1 4 ⟨0, []⟩) = _
    rw [show wNum 1 4 ⟨0, []⟩ = ⟨0, [0, 0, 0, 1]⟩ by rfl, wNum_of (by omega) rfl, beN_6 (by omega)]
  unfold wBlock
  show wPut wVdr [] 7 (wPut (fun t => wBytes t 16) [[tx]] 4 (wQC qc0 (wDig dig0 (wAt 1 (n : Int) ⟨0, []⟩)))) = _
  rw [e1, show wDig dig0 ⟨0, [0, 0, 0, 1] ++ [0, 0, 0, 0, UInt8.ofNat (n / 256), UInt8.ofNat (n % 256)]⟩ = ⟨0, ([0, 0, 0, 1] ++ [0, 0, 0, 0, UInt8.ofNat (n / 256), UInt8.ofNat (n % 256)]) ++ dig0.l⟩ from wFix_of rfl, qc_bytes, tx_bytes, vd_bytes]
  simp only [smX, List.append_assoc, List.cons_append, List.nil_append]; rfl
theorem sm_len64 (h : UInt8) : (smM h 0 0).length = 64 * 2 := by kernel_rfl
theorem sm_set (h lo tx : UInt8) : smM h lo tx = ((smM h 0 0).set 14 lo).set 61 tx := by kernel_rfl
theorem sm_z1 (h : UInt8) : qB (smM h 0 0) 14 = 0 := by kernel_rfl
theorem sm_z2 (h : UInt8) : qB (smM h 0 0) 61 = 0 := by kernel_rfl
def smT (a l : Nat) : UInt8 := UInt8.ofNat (16 * (a % 16) + l / 256)
def smU (l : Nat) : UInt8 := UInt8.ofNat (l % 256)
def smAsk (a : Nat) : Bool := fc (onesN 12) fun O => fc (uN 4) fun U => fc (16 * (a % 16) * O + qN 4) fun T => fc (4294967295 * O) fun M => laneF 16909056 M O T U (smM (UInt8.ofNat (a / 16)) 0 0) 14 61 2
theorem smAsk_eq (a : Nat) : smAsk a = laneF 16909056 (lmask 4096) (pk (fun _ => 1) 4096) (pk (fun l => (smT a l).toNat) 4096) (pk (fun l => (smU l).toNat) 4096) (smM (UInt8.ofNat (a / 16)) 0 0) 14 61 2 := by
  have e1 : onesN 12 = pk (fun _ => 1) 4096 := onesN_eq 12
  have e2 : uN 4 = pk (fun l => (smU l).toNat) 4096 := (uN_eq 4).trans (pk_congr fun i _ => by rw [smU, UInt8.toNat_ofNat', Nat.mod_mod])
  have e3 : 16 * (a % 16) * pk (fun _ => 1) 4096 + qN 4 = pk (fun l => (smT a l).toNat) 4096 := by
    rw [show qN 4 = pk (fun l => l / 256) 4096 from qN_eq 4, pk_const, pk_add]
    refine pk_congr fun i hi => ?_
    rw [smT, UInt8.toNat_ofNat']
    omega
  have e4 : 4294967295 * pk (fun _ => 1) 4096 = lmask 4096 := pk_const _ _
  unfold smAsk
  rw [fc_eq, fc_eq, fc_eq, fc_eq, e1, e2, e3, e4]
theorem sm_lane0 : smAsk 0 = true := by kernel_rfl
theorem sm_lane1 : smAsk 1 = true := by kernel_rfl
theorem sm_lane2 : smAsk 2 = true := by kernel_rfl
theorem sm_lane3 : smAsk 3 = true := by kernel_rfl
theorem sm_lane4 : smAsk 4 = true := by kernel_rfl
theorem sm_lane5 : smAsk 5 = true := by kernel_rfl
theorem sm_lane6 : smAsk 6 = true := by kernel_rfl
theorem sm_lane7 : smAsk 7 = true := by kernel_rfl
theorem sm_lane8 : smAsk 8 = true := by kernel_rfl
theorem sm_lane9 : smAsk 9 = true := by kernel_rfl
theorem sm_lane10 : smAsk 10 = true := by kernel_rfl
theorem sm_lane11 : smAsk 11 = true := by kernel_rfl
theorem sm_lane12 : smAsk 12 = true := by kernel_rfl
theorem sm_lane13 : smAsk 13 = true := by kernel_rfl
theorem sm_lane14 : smAsk 14 = true := by kernel_rfl
theorem sm_lane15 : smAsk 15 = true := by kernel_rfl
theorem sm_lane16 : smAsk 16 = true := by kernel_rfl
theorem sm_lane17 : smAsk 17 = true := by kernel_rfl
theorem sm_lane18 : smAsk 18 = true := by kernel_rfl
theorem sm_lane19 : smAsk 19 = true := by kernel_rfl
theorem sm_lane20 : smAsk 20 = true := by kernel_rfl
theorem sm_lane21 : smAsk 21 = true := by kernel_rfl
theorem sm_lane22 : smAsk 22 = true := by kernel_rfl
theorem sm_lane23 : smAsk 23 = true := by kernel_rfl
theorem sm_lane24 : smAsk 24 = true := by kernel_rfl
theorem sm_lane25 : smAsk 25 = true := by kernel_rfl
theorem sm_lane26 : smAsk 26 = true := by kernel_rfl
theorem sm_lane27 : smAsk 27 = true := by kernel_rfl
theorem sm_lane28 : smAsk 28 = true := by kernel_rfl
theorem sm_lane29 : smAsk 29 = true := by kernel_rfl
theorem sm_lane30 : smAsk 30 = true := by kernel_rfl
theorem sm_lane31 : smAsk 31 = true := by kernel_rfl
theorem sm_lane32 : smAsk 32 = true := by kernel_rfl
theorem sm_lane33 : smAsk 33 = true := by kernel_rfl
theorem sm_lane34 : smAsk 34 = true := by kernel_rfl
theorem sm_lane35 : smAsk 35 = true := by kernel_rfl
theorem sm_lane36 : smAsk 36 = true := by kernel_rfl
theorem sm_lane37 : smAsk 37 = true := by kernel_rfl
theorem sm_lane38 : smAsk 38 = true := by kernel_rfl
theorem sm_lane39 : smAsk 39 = true := by kernel_rfl
theorem sm_lane40 : smAsk 40 = true := by kernel_rfl
theorem sm_lane41 : smAsk 41 = true := by kernel_rfl
theorem sm_lane42 : smAsk 42 = true := by kernel_rfl
theorem sm_lane43 : smAsk 43 = true := by kernel_rfl
theorem sm_lane44 : smAsk 44 = true := by kernel_rfl
theorem sm_lane45 : smAsk 45 = true := by kernel_rfl
theorem sm_lane46 : smAsk 46 = true := by kernel_rfl
theorem sm_lane47 : smAsk 47 = true := by kernel_rfl
theorem sm_lane48 : smAsk 48 = true := by kernel_rfl
theorem sm_lane49 : smAsk 49 = true := by kernel_rfl
theorem sm_lane50 : smAsk 50 = true := by kernel_rfl
theorem sm_lane51 : smAsk 51 = true := by kernel_rfl
theorem sm_lane52 : smAsk 52 = true := by kernel_rfl
theorem sm_lane53 : smAsk 53 = true := by kernel_rfl
theorem sm_lane54 : smAsk 54 = true := by kernel_rfl
theorem sm_lane55 : smAsk 55 = true := by kernel_rfl
theorem sm_lane56 : smAsk 56 = true := by kernel_rfl
theorem sm_lane57 : smAsk 57 = true := by kernel_rfl
theorem sm_lane58 : smAsk 58 = true := by kernel_rfl
theorem sm_lane59 : smAsk 59 = true := by kernel_rfl
theorem sm_lane60 : smAsk 60 = true := by kernel_rfl
theorem sm_lane61 : smAsk 61 = true := by kernel_rfl
theorem sm_lane62 : smAsk 62 = true := by kernel_rfl
theorem sm_lanes : ∀ {a : Nat}, a < 63 → smAsk a = true := fun {a} h =>
  match a, h with
  | 0, _ => sm_lane0
  | 1, _ => sm_lane1
  | 2, _ => sm_lane2
  | 3, _ => sm_lane3
  | 4, _ => sm_lane4
  | 5, _ => sm_lane5
  | 6, _ => sm_lane6
  | 7, _ => sm_lane7
  | 8, _ => sm_lane8
  | 9, _ => sm_lane9
  | 10, _ => sm_lane10
  | 11, _ => sm_lane11
  | 12, _ => sm_lane12
  | 13, _ => sm_lane13
  | 14, _ => sm_lane14
  | 15, _ => sm_lane15
  | 16, _ => sm_lane16
  | 17, _ => sm_lane17
  | 18, _ => sm_lane18
  | 19, _ => sm_lane19
  | 20, _ => sm_lane20
  | 21, _ => sm_lane21
  | 22, _ => sm_lane22
  | 23, _ => sm_lane23
  | 24, _ => sm_lane24
  | 25, _ => sm_lane25
  | 26, _ => sm_lane26
  | 27, _ => sm_lane27
  | 28, _ => sm_lane28
  | 29, _ => sm_lane29
  | 30, _ => sm_lane30
  | 31, _ => sm_lane31
  | 32, _ => sm_lane32
  | 33, _ => sm_lane33
  | 34, _ => sm_lane34
  | 35, _ => sm_lane35
  | 36, _ => sm_lane36
  | 37, _ => sm_lane37
  | 38, _ => sm_lane38
  | 39, _ => sm_lane39
  | 40, _ => sm_lane40
  | 41, _ => sm_lane41
  | 42, _ => sm_lane42
  | 43, _ => sm_lane43
  | 44, _ => sm_lane44
  | 45, _ => sm_lane45
  | 46, _ => sm_lane46
  | 47, _ => sm_lane47
  | 48, _ => sm_lane48
  | 49, _ => sm_lane49
  | 50, _ => sm_lane50
  | 51, _ => sm_lane51
  | 52, _ => sm_lane52
  | 53, _ => sm_lane53
  | 54, _ => sm_lane54
  | 55, _ => sm_lane55
  | 56, _ => sm_lane56
  | 57, _ => sm_lane57
  | 58, _ => sm_lane58
  | 59, _ => sm_lane59
  | 60, _ => sm_lane60
  | 61, _ => sm_lane61
  | 62, _ => sm_lane62
  | a + 63, h => absurd h (by omega)
theorem sm_not123 {n : Nat} {tx : UInt8} (h : n < 1000) : idOf (smB n tx) ≠ d123 := fun e => by
  have hb := sm_bytes (tx := tx) h
  have ha := sm_lanes (a := n / 16) (by omega)
  have hh : n / 16 / 16 = n / 256 := by omega
  rw [smAsk_eq, hh] at ha
  have htx := tx.toNat_lt
  have h1 := lane_ne2 (d := d123) (l := 256 * (n % 16) + tx.toNat) (by decide) (sm_len64 _) ⟨by rw [sm_len64]; decide, sm_z1 _⟩ ⟨by rw [sm_len64]; decide, sm_z2 _⟩ (by decide) ha (by omega) rfl
  have et : smT (n / 16) (256 * (n % 16) + tx.toNat) = UInt8.ofNat (n % 256) := congrArg UInt8.ofNat (show 16 * (n / 16 % 16) + (256 * (n % 16) + tx.toNat) / 256 = n % 256 by omega)
  have eu : smU (256 * (n % 16) + tx.toNat) = tx := by unfold smU; rw [show (256 * (n % 16) + tx.toNat) % 256 = tx.toNat by omega, UInt8.ofNat_toNat]
  rw [et, eu, ← sm_set] at h1
  apply h1
  rw [← e, idOf_q (by rw [hb])]
  unfold idQ
  rw [← one_msg Kc _ _ (refPad_len _), hb]
  rfl
end
section
theorem Lost.snoc {d : DS} {bs : Nat} {rs may : List LRec} {r : LRec} (h : Lost d bs rs may) : Lost d bs rs (may ++ [r]) := fun keep => by
  rcases h keep with h1 | ⟨x, m, e, h1⟩
  · exact .inl h1
  · subst e; exact .inr ⟨x, m ++ [r], rfl, h1⟩
def OkR (r : LRec) : Prop := (∃ k tx, k < 1000 ∧ r.b = smB k tx) ∧ OkQC r.c ∧ r.Ok
theorem OkR.blk {r : LRec} (h : OkR r) : OkBlock r.b := by
  obtain ⟨⟨k, tx, hk, e⟩, _⟩ := h
  rw [e]
  exact ⟨show I64 (1 : Int) by unfold I64; decide, show I64 ((k : Nat) : Int) by unfold I64; omega, ⟨show I64 (0 : Int) by unfold I64; decide, show I64 (0 : Int) by unfold I64; decide, fun x hx => by cases hx⟩, fun x hx => by cases hx⟩
theorem OkR.ne {r : LRec} (h : OkR r) : idOf r.b ≠ d123 := by
  obtain ⟨⟨k, tx, hk, e⟩, _⟩ := h
  rw [e]; exact sm_not123 hk
structure BkOk (d : DS) (n bs mk : Nat) (rs may : List LRec) : Prop where
  k : DOk d
  dn : d.n = n
  hn : n ≤ 120
  lt : bs + tot rs < n
  ml : may.length ≤ mk
  st : (d.off = false ∧ d.ws = [] ∧ LInv d (lsOf bs rs) bs ∧ may = []) ∨ (d.off = true ∧ Lost d bs rs may)
  ok : ∀ r ∈ rs ++ may, OkR r
theorem BkOk.len {d : DS} {n bs mk : Nat} {rs may : List LRec} (h : BkOk d n bs mk rs may) : rs.length ≤ 60 := by have := tot_ge rs; have := h.lt; have := h.hn; omega
theorem bk_app {d : DS} {n bs mk : Nat} {rs may : List LRec} {r : LRec} (h : BkOk d n bs mk rs may) (hr : OkR r) (hf : nsec r.data.length + 2 ≤ n - (bs + tot rs)) :
    (∃ d', appL d (lsOf bs rs) r.b r.c = (0, d', lsOf bs (rs ++ [r])) ∧ BkOk d' n bs (mk + 1) (rs ++ [r]) may) ∨ (∃ d', appL d (lsOf bs rs) r.b r.c = (6, d', lsOf bs rs) ∧ d'.off = true ∧ BkOk d' n bs (mk + 1) rs (may ++ [r])) := by
  have hl := h.len
  have hn := h.dn
  have hfit : nsec r.data.length + 2 ≤ d.n - (bs + tot rs) := by rw [hn]; exact hf
  have e := app_ok (d := d) (l := lsOf bs rs) (b := r.b) (c := r.c) (made_zero hr.2.2) (by show rs.length < 200; omega) (by show nsec r.data.length + 2 ≤ d.n - (bs + tot rs); exact hfit)
  have hlen : lenR r = 1 + nsec r.data.length := rfl
  have hok : ∀ x ∈ (rs ++ [r]) ++ may, OkR x := fun x hx => by
    simp only [List.mem_append, List.mem_singleton] at hx
    rcases hx with (hx | rfl) | hx
    · exact h.ok x (List.mem_append.2 (.inl hx))
    · exact hr
    · exact h.ok x (List.mem_append.2 (.inr hx))
  have hok2 : ∀ x ∈ rs ++ (may ++ [r]), OkR x := fun x hx => hok x (by simp only [List.mem_append, List.mem_singleton] at hx ⊢; rcases hx with h | h | h; exact .inl (.inl h); exact .inr h; exact .inl (.inr h))
  rw [e]
  rcases h.st with ⟨ho, hw, hi, rfl⟩ | ⟨ho, hlost⟩
  · rcases appD_power (r := r) ho hw h.k hi hr.2.2 hfit with ⟨d', e1, o1, w1, k1, n1, i1⟩ | ⟨d', e1, o1, k1, n1, l1⟩
    · exact .inl ⟨d', e1, ⟨k1, by omega, h.hn, by rw [tot_snoc]; omega, Nat.zero_le _, .inl ⟨o1, w1, i1, rfl⟩, hok⟩⟩
    · exact .inr ⟨d', e1, o1, ⟨k1, by omega, h.hn, h.lt, by simp, .inr ⟨o1, l1 []⟩, hok2⟩⟩
  · exact .inr ⟨d, appD_off (r := r) ho hfit, ho, ⟨h.k, hn, h.hn, h.lt, by have := h.ml; simp; omega, .inr ⟨ho, hlost.snoc⟩, hok2⟩⟩
theorem bk_no {d : DS} {n bs mk : Nat} {rs may : List LRec} {b : Block} {c : QC} (h : BkOk d n bs mk rs may) (hm : madeE b c = 0) (hf : ¬ nsec (⟨b, c⟩ : LRec).data.length + 2 ≤ n - (bs + tot rs)) : appL d (lsOf bs rs) b c = (8, d, lsOf bs rs) := by
  unfold appL; rw [if_pos hm, if_pos (.inr (by show ¬ _ ≤ d.n - (bs + tot rs); rw [h.dn]; exact hf))]
theorem bk_bad {d : DS} {n bs mk : Nat} {rs may : List LRec} {b : Block} {c : QC} (h : BkOk d n bs mk rs may) (hm : madeE b c ≠ 0) : appL d (lsOf bs rs) b c = (madeE b c, d, lsOf bs rs) := by unfold appL; rw [if_neg hm]
theorem made_le (b : Block) (c : QC) : madeE b c ≤ 12 := by unfold madeE; split; decide; split; decide; split <;> decide
structure BV where
  q : Nat
  d : DS
  rs : List LRec
  may : List LRec
  ah : Option Addr
  ch : Nat
  csh : List (List Value)
  am : Option Addr
  cm : Nat
  csm : List (List Value)
abbrev bkL (p g bs : Nat) (v : BV) : List Res := [blk p 70 [.pointer (some ⟨g, 0, none⟩), .int .i64 (bs : Int), .pointer (some ⟨v.q, 0, none⟩), .slice v.ah v.rs.length v.ch, .slice v.am v.may.length v.cm, .int .i64 ((bs + tot v.rs : Nat) : Int)],
  rowR 47 58 v.ah v.rs.length v.ch v.csh.flatten, ElR RdRec18 v.csh v.rs, rowR 47 58 v.am v.may.length v.cm v.csm.flatten, ElR RdRec18 v.csm v.may, LedR v.q g (lsOf bs v.rs), DiskR g v.d]
structure BvOk (n bs mk : Nat) (v : BV) : Prop where
  bk : BkOk v.d n bs mk v.rs v.may
  lh : ∀ c ∈ v.csh, c.length = 58
  lm : ∀ c ∈ v.csm, c.length = 58
theorem BvOk.up {n bs mk : Nat} {v : BV} (h : BvOk n bs mk v) : BvOk n bs (mk + 1) v := ⟨⟨h.bk.k, h.bk.dn, h.bk.hn, h.bk.lt, Nat.le_succ_of_le h.bk.ml, h.bk.st, h.bk.ok⟩, h.lh, h.lm⟩
def BookR (p g n bs mk : Nat) : Res := exR fun v : BV => allR (pureR (BvOk n bs mk v) :: bkL p g bs v)
section
variable {w w0 : World} {F F0 : Nat → Prop} {p g n bs mk : Nat} {L : List Res}
theorem bk_open (h : stars (BookR p g n bs mk :: L) w F) : ∃ v : BV, BvOk n bs mk v ∧ stars (bkL p g bs v ++ L) w F := by
  obtain ⟨v, h⟩ := stars_ex h
  obtain ⟨h1, h2⟩ := stars_pure (stars_all h)
  exact ⟨v, h1, h2⟩
theorem St.bk (v : BV) (hv : BvOk n bs mk v) (h : St w0 F0 (bkL p g bs v ++ L) w) : St w0 F0 (BookR p g n bs mk :: L) w := h.mapL fun F hF => stars_ex_mk v (stars_all_mk (stars_pure_mk hv hF))
end
theorem el_len58 {css : List (List Value)} {c : List Value} (h : ∀ x ∈ css, x.length = 58) (hc : c.length = 58) : ∀ x ∈ css ++ [c], x.length = 58 := fun x hx => by
  rcases List.mem_append.1 hx with h' | h'
  · exact h x h'
  · rw [List.mem_singleton.1 h']; exact hc
attribute [local irreducible] Gl Gc Gx Gs Runs Wt
set_option maxRecDepth 20000
attribute [local irreducible] dc RdRec RdBlock RdQC blkC qcC allE madeE datE RdRec18 smB idOf tot
theorem bappend_ok {w : World} {F : Nat → Prop} {p g n bs mk : Nat} {cs : List Value} {r : LRec} {ea : Nat → Addr} (h : stars [BookR p g n bs mk, VlR RdRec18 cs r] w F) (hN : NErr w (fun k => ¬ F k) ea) (hK : KR w (fun k => ¬ F k)) (hsm : madeE r.b r.c = 0 → OkR r) (hob' : OkBlock r.b) (hoc' : OkQC r.c) (hmk : mk ≤ 1000) :
    Calls Tryz.prog 20 #[.pointer (some ⟨p, 0, none⟩), .agg cs.toArray] w (Post w F (fun _ : Unit => .bool true) (fun _ => [BookR p g n bs (mk + 1)])) := by
 have hE := hN.g
 obtain ⟨v, hv, h⟩ := bk_open h; have hbk := hv.bk
 have hrl := hbk.len
 have hlt := hbk.lt
 have hn1 := hbk.hn
 have hdn := hbk.dn
 have hml := hbk.ml
 have hld : (lsOf bs v.rs).e < v.d.n := by show bs + tot v.rs < _; omega
 obtain ⟨wv, Av, hrd⟩ := St.vlOf (rd := RdRec18) (cs := cs) (x := r) (St.init h) (by repeat (first | exact Pick.here | apply Pick.there)); unfold RdRec18 at hrd
 obtain ⟨xb, xc, rfl, hb0, hc0⟩ := hrd; have hlb := hb0.len
 have hlc := hc0.len
 have hob := hb0.one
 have hoc := hc0.one
 have ib := Len.of hlb
 have jb := One.of hob
 have ic := Len.of hlc
 have jc := One.of hoc
 have hlx : (xb ++ xc).length = 58 := by rw [List.length_append]; omega
 refine g_enter (env := [(0, .pointer (some ⟨p, 0, none⟩)), (1, .agg (List.toArray (xb ++ xc)))]) Tryz.func20 rfl h Tryz.ntmps20 rfl rfl ?_; refine gsr (zbN fun b3 => ?_); refine zxa ?_; refine zxs ?_; refine gp (zLa (cs := xb ++ xc)) ?_; refine zc ?_ (c := fun w1 F1 F2 h1 h2 hd hst => data18_ok (b := r.b) (c := r.c) h1 (rec18_of (vl_rd h2 hd (by repeat (first | exact Pick.here | apply Pick.there))) hlb).1 (rec18_of (vl_rd h2 hd (by repeat (first | exact Pick.here | apply Pick.there))) hlb).2 hob' hoc')
 rintro ⟨a10, c10⟩
 refine zxm ?_; refine gp zex ?_; refine gp zex ?_; refine zxa ?_; refine zxa ?_; refine gnt (gc_seq (gc_seq ?_)); by_cases e0 : madeE r.b r.c = 0
 ·have hdt : datE r.b r.c = r.data := by rw [datE, if_pos e0]
  rw [e0, hdt]; have hdl := data_len r
  have hR := hsm e0
  have hns9 : nsec r.data.length ≤ 266 := by unfold nsec; omega
  have hlen : lenR r = 1 + nsec r.data.length := rfl
  by_cases hft : nsec r.data.length + 2 ≤ n - (bs + tot v.rs)
  ·have hap := bk_app hbk hR hft
   refine gc_regionH ([blk p 70 [.pointer (some ⟨g, 0, none⟩), .int .i64 (bs : Int), .pointer (some ⟨v.q, 0, none⟩), .slice v.ah v.rs.length v.ch, .slice v.am v.may.length v.cm, .int .i64 ((bs + tot v.rs : Nat) : Int)]]) ?_; refine yp 0 rfl zmv ?_; refine yp 1 rfl (r_bool (c := true) zei (by simp)) ?_; refine yp 2 rfl zmv ?_; refine yp 3 rfl zmv ?_; refine yp 4 rfl znc ?_; refine yp 5 rfl zfa ?_; refine yp 6 rfl zl ?_; refine yp 7 rfl zln ?_; refine yp 8 rfl (r_bool (c := false) zge (decide_eq_false (by omega))) ?_; refine yp 9 rfl zmv ?_; refine yp 10 rfl zmv ?_; refine yp 11 rfl znc ?_; refine yp 12 rfl zfa ?_; refine yp 13 rfl zl ?_; refine yp 14 rfl zmv ?_; refine yp 19 rfl zmv ?_; refine yp 20 rfl znc ?_; refine yp 21 rfl zfa ?_; refine yp 22 rfl zl ?_; refine yo 15 rfl ?_; refine zc ?_ (c := fun w1 F1 F2 h1 h2 hd hst => sectors18_ok (k := 0) (d := r.data) h1 (rd_row (xs := r.data.map B8) h2 hd (by repeat (first | exact Pick.here | apply Pick.there))) (by decide) hdl.2)
   rintro ⟨a28, c28⟩
   refine yx ?_; refine yp 16 rfl zln ?_; refine yp 17 rfl (r_int (j := ((bs + tot v.rs + (1 + nsec r.data.length) : Nat) : Int)) zad (by omega)) ?_; refine yp 18 rfl (r_int (j := ((bs + tot v.rs + (1 + nsec r.data.length) + 1 : Nat) : Int)) zad (by omega)) ?_; refine yo 23 rfl ?_; refine zc (fun _ => ?_) (c := fun w1 F1 F2 h1 h2 hd hst => size_ok h1)
   refine yx ?_; refine yp 24 rfl (r_bool (c := false) zgt (decide_eq_false (by omega))) ?_; refine yp 25 rfl zpk ?_; refine yp 26 rfl zpk ?_; refine yd ?_; refine gx_then (gc_condF rfl rfl ?_); refine gc_skip (gx_then (gc_seq ?_)); by_cases hap2 : ∃ d', appL v.d (lsOf bs v.rs) r.b r.c = (6, d', lsOf bs v.rs) ∧ d'.off = true ∧ BkOk d' n bs (mk + 1) v.rs (v.may ++ [r])
   ·obtain ⟨d', hap, hof, hb'⟩ := hap2; refine gc_regionZ 9 ([blk p 70 [.pointer (some ⟨g, 0, none⟩), .int .i64 (bs : Int), .pointer (some ⟨v.q, 0, none⟩), .slice v.ah v.rs.length v.ch, .slice v.am v.may.length v.cm, .int .i64 ((bs + tot v.rs : Nat) : Int)], blk b3 47 (xb ++ xc)]) ?_; refine yps 0 rfl zmv ?_; refine yps 1 rfl znc ?_; refine yps 2 rfl zfa ?_; refine yps 3 rfl zl ?_; refine yps 4 rfl zfa ?_; refine yps 5 rfl (zL (sg := xb)) ?_; refine yps 6 rfl zfa ?_; refine yps 7 rfl (zL (sg := xc)) ?_; refine yos 8 rfl ?_; refine zc (fun _ => ?_) (c := fun w1 F1 F2 h1 h2 hd hst => append_ok (l := lsOf bs v.rs) (d := v.d) (b := r.b) (c := r.c) h1 hbk.k (hE.mv hst.still) (hK.mv hst.still) (rec18_of (vl_rd h2 hd (by repeat (first | exact Pick.here | apply Pick.there))) hlb).1 (rec18_of (vl_rd h2 hd (by repeat (first | exact Pick.here | apply Pick.there))) hlb).2 hld (by show v.rs.length < _; omega))
    rw [hap]; refine yxs ?_; refine yzs rfl ?_; refine zxa ?_; refine gnt (gc_seq (gc_block (gsr (zxm ?_)))); refine gp (r_bool (c := false) zni (by simp)) ?_; refine zxa ?_; refine gnt (gc_condF rfl rfl ?_); refine gsr (zxm ?_); refine zc (fun _ => ?_) (c := fun w1 F1 F2 h1 h2 hd hst => errNum_ok (n := 6) h1 (hN.mv hst.still) (by decide))
    refine gp (r_bool (c := true) zei (by simp)) ?_; refine zxa ?_; refine gnt (gc_condT rfl rfl ?_); refine gc_seq (gc_regionU 8 ([blk p 70 [.pointer (some ⟨g, 0, none⟩), .int .i64 (bs : Int), .pointer (some ⟨v.q, 0, none⟩), .slice v.ah v.rs.length v.ch, .slice v.am v.may.length v.cm, .int .i64 ((bs + tot v.rs : Nat) : Int)], blk b3 47 (xb ++ xc)]) ?_); refine ypu 0 rfl zmv ?_; refine ypu 1 rfl zmv ?_; refine ypu 2 rfl znc ?_; refine ypu 3 rfl zfa ?_; refine ypu 4 rfl zl ?_; refine ypu 5 rfl (zLa (cs := xb ++ xc)) ?_; refine you 6 rfl ?_; refine zeN fun b66 => ?_; refine yxu ?_; refine you 7 rfl ?_; refine zapo (m := v.may.length) (a2 := some ⟨b66, 0, none⟩) (c2 := 1) (news := xb ++ xc) (fun a67 c67 => ?_) (h1 := all_app' hob hoc)
    refine yxu ?_; refine yzu ?_; refine gp znc ?_; refine gp zfa ?_; refine zs1 ?_; refine zxs ?_; refine zxm ?_; refine gp znc ?_; refine gp zfa ?_; refine gp zl ?_; refine zc (fun _ => ?_) (c := fun w1 F1 F2 h1 h2 hd hst => off_ok h1)
    rw [hof]; refine zxa ?_; refine gnt (gc_ret (gx_block_ret ?_)); refine gx_then_ret (gx_ret1 rfl (by conv => lhs; whnf) ?_); intro w' hw; have hw2 := hw.conv (M := [ElR RdRec18 v.csm v.may, VlR RdRec18 (xb ++ xc) r]) (by repeat (first | exact Sel.nil | (apply Sel.cons; · (repeat (first | exact Pick.here | apply Pick.there))))) (fun _ _ => el_snoc)
    have hl9 : (v.may ++ [r]).length = v.may.length + 1 := by simp
    refine ⟨(), rfl, St.bk (L := []) ⟨v.q, d', v.rs, v.may ++ [r], v.ah, v.ch, v.csh, a67, c67, v.csm ++ [xb ++ xc]⟩ ⟨hb', hv.lh, el_len58 hv.lm hlx⟩ ?_⟩
    simp only [bkL, hl9, show (v.csm ++ [xb ++ xc]).flatten = v.csm.flatten ++ (xb ++ xc) by simp]
    exact hw2.z
   ·obtain ⟨d', hap, hb'⟩ := hap.resolve_right hap2; refine gc_regionZ 9 ([blk p 70 [.pointer (some ⟨g, 0, none⟩), .int .i64 (bs : Int), .pointer (some ⟨v.q, 0, none⟩), .slice v.ah v.rs.length v.ch, .slice v.am v.may.length v.cm, .int .i64 ((bs + tot v.rs : Nat) : Int)], blk b3 47 (xb ++ xc)]) ?_; refine yps 0 rfl zmv ?_; refine yps 1 rfl znc ?_; refine yps 2 rfl zfa ?_; refine yps 3 rfl zl ?_; refine yps 4 rfl zfa ?_; refine yps 5 rfl (zL (sg := xb)) ?_; refine yps 6 rfl zfa ?_; refine yps 7 rfl (zL (sg := xc)) ?_; refine yos 8 rfl ?_; refine zc (fun _ => ?_) (c := fun w1 F1 F2 h1 h2 hd hst => append_ok (l := lsOf bs v.rs) (d := v.d) (b := r.b) (c := r.c) h1 hbk.k (hE.mv hst.still) (hK.mv hst.still) (rec18_of (vl_rd h2 hd (by repeat (first | exact Pick.here | apply Pick.there))) hlb).1 (rec18_of (vl_rd h2 hd (by repeat (first | exact Pick.here | apply Pick.there))) hlb).2 hld (by show v.rs.length < _; omega))
    rw [hap]; refine yxs ?_; refine yzs rfl ?_; refine zxa ?_; refine gnt (gc_seq (gc_block (gsr (zxm ?_)))); refine gp (r_bool (c := false) zni (by simp)) ?_; refine zxa ?_; refine gnt (gc_condF rfl rfl ?_); refine gsr (zxm ?_); refine zc (fun _ => ?_) (c := fun w1 F1 F2 h1 h2 hd hst => errNum_ok (n := 0) h1 (hN.mv hst.still) (by decide))
    refine gp (r_bool (c := false) zei (by simp)) ?_; refine zxa ?_; refine gnt (gc_condF rfl rfl ?_); refine gsr (zxm ?_); refine gp (r_bool (c := false) (r_nenil rfl (by kernel_rfl)) rfl) ?_; refine zxa ?_; refine gnt (gc_condF rfl rfl ?_); refine gc_skip (gx_block_normal (gx_then (gc_seq (gc_regionU 8 ([blk p 70 [.pointer (some ⟨g, 0, none⟩), .int .i64 (bs : Int), .pointer (some ⟨v.q, 0, none⟩), .slice v.ah v.rs.length v.ch, .slice v.am v.may.length v.cm, .int .i64 ((bs + tot v.rs : Nat) : Int)], blk b3 47 (xb ++ xc)]) ?_)))); refine ypu 0 rfl zmv ?_; refine ypu 1 rfl zmv ?_; refine ypu 2 rfl znc ?_; refine ypu 3 rfl zfa ?_; refine ypu 4 rfl zl ?_; refine ypu 5 rfl (zLa (cs := xb ++ xc)) ?_; refine you 6 rfl ?_; refine zeN fun b84 => ?_; refine yxu ?_; refine you 7 rfl ?_; refine zapo (m := v.rs.length) (a2 := some ⟨b84, 0, none⟩) (c2 := 1) (news := xb ++ xc) (fun a85 c85 => ?_) (h1 := all_app' hob hoc)
    refine yxu ?_; refine yzu ?_; refine gp znc ?_; refine gp zfa ?_; refine zs1 ?_; refine gnt (gc_seq (gc_regionU 7 ([blk p 70 [.pointer (some ⟨g, 0, none⟩), .int .i64 (bs : Int), .pointer (some ⟨v.q, 0, none⟩), .slice a85 (v.rs.length + 1) c85, .slice v.am v.may.length v.cm, .int .i64 ((bs + tot v.rs : Nat) : Int)]]) ?_)); refine ypu 0 rfl zmv ?_; refine ypu 1 rfl znc ?_; refine ypu 2 rfl zfa ?_; refine ypu 3 rfl zl ?_; refine ypu 4 rfl zmv ?_; refine you 5 rfl ?_; refine zc ?_ (c := fun w1 F1 F2 h1 h2 hd hst => sectors18_ok (k := 0) (d := r.data) h1 (rd_row (xs := r.data.map B8) h2 hd (by repeat (first | exact Pick.here | apply Pick.there))) (by decide) hdl.2)
    rintro ⟨a93, c93⟩
    refine yxu ?_; refine ypu 6 rfl zln ?_; refine yzu ?_; refine gp (r_int (j := ((bs + tot v.rs + (1 + nsec r.data.length) : Nat) : Int)) zad (by omega)) ?_; refine gp znc ?_; refine gp zfa ?_; refine zs1 ?_; refine zxs ?_; refine zxa ?_; refine gnt (gc_ret (gx_ret1 rfl (by conv => lhs; whnf) ?_)); intro w' hw; have hw2 := hw.conv (M := [ElR RdRec18 v.csh v.rs, VlR RdRec18 (xb ++ xc) r]) (by repeat (first | exact Sel.nil | (apply Sel.cons; · (repeat (first | exact Pick.here | apply Pick.there))))) (fun _ _ => el_snoc)
    have hl9 : (v.rs ++ [r]).length = v.rs.length + 1 := by simp
    have ht9 : bs + tot (v.rs ++ [r]) = bs + tot v.rs + (1 + nsec r.data.length) := by rw [tot_snoc, hlen]; omega
    refine ⟨(), rfl, St.bk (L := []) ⟨v.q, d', v.rs ++ [r], v.may, a85, c85, v.csh ++ [xb ++ xc], v.am, v.cm, v.csm⟩ ⟨hb', el_len58 hv.lh hlx, hv.lm⟩ ?_⟩
    simp only [bkL, hl9, ht9, show (v.csh ++ [xb ++ xc]).flatten = v.csh.flatten ++ (xb ++ xc) by simp]
    exact hw2.z
  ·refine gc_regionH ([blk p 70 [.pointer (some ⟨g, 0, none⟩), .int .i64 (bs : Int), .pointer (some ⟨v.q, 0, none⟩), .slice v.ah v.rs.length v.ch, .slice v.am v.may.length v.cm, .int .i64 ((bs + tot v.rs : Nat) : Int)]]) ?_; refine yp 0 rfl zmv ?_; refine yp 1 rfl (r_bool (c := true) zei (by simp)) ?_; refine yp 2 rfl zmv ?_; refine yp 3 rfl zmv ?_; refine yp 4 rfl znc ?_; refine yp 5 rfl zfa ?_; refine yp 6 rfl zl ?_; refine yp 7 rfl zln ?_; refine yp 8 rfl (r_bool (c := false) zge (decide_eq_false (by omega))) ?_; refine yp 9 rfl zmv ?_; refine yp 10 rfl zmv ?_; refine yp 11 rfl znc ?_; refine yp 12 rfl zfa ?_; refine yp 13 rfl zl ?_; refine yp 14 rfl zmv ?_; refine yp 19 rfl zmv ?_; refine yp 20 rfl znc ?_; refine yp 21 rfl zfa ?_; refine yp 22 rfl zl ?_; refine yo 15 rfl ?_; refine zc ?_ (c := fun w1 F1 F2 h1 h2 hd hst => sectors18_ok (k := 0) (d := r.data) h1 (rd_row (xs := r.data.map B8) h2 hd (by repeat (first | exact Pick.here | apply Pick.there))) (by decide) hdl.2)
   rintro ⟨a28, c28⟩
   refine yx ?_; refine yp 16 rfl zln ?_; refine yp 17 rfl (r_int (j := ((bs + tot v.rs + (1 + nsec r.data.length) : Nat) : Int)) zad (by omega)) ?_; refine yp 18 rfl (r_int (j := ((bs + tot v.rs + (1 + nsec r.data.length) + 1 : Nat) : Int)) zad (by omega)) ?_; refine yo 23 rfl ?_; refine zc (fun _ => ?_) (c := fun w1 F1 F2 h1 h2 hd hst => size_ok h1)
   refine yx ?_; refine yp 24 rfl (r_bool (c := true) zgt (decide_eq_true (by omega))) ?_; refine yp 25 rfl zpk ?_; refine yp 26 rfl zpk ?_; refine yd ?_; refine gx_then (gc_condT rfl rfl ?_); refine gc_region (zxa ?_); refine gnt (gc_seq (gc_regionZ 9 ([blk p 70 [.pointer (some ⟨g, 0, none⟩), .int .i64 (bs : Int), .pointer (some ⟨v.q, 0, none⟩), .slice v.ah v.rs.length v.ch, .slice v.am v.may.length v.cm, .int .i64 ((bs + tot v.rs : Nat) : Int)], blk b3 47 (xb ++ xc)]) ?_)); refine yps 0 rfl zmv ?_; refine yps 1 rfl znc ?_; refine yps 2 rfl zfa ?_; refine yps 3 rfl zl ?_; refine yps 4 rfl zfa ?_; refine yps 5 rfl (zL (sg := xb)) ?_; refine yps 6 rfl zfa ?_; refine yps 7 rfl (zL (sg := xc)) ?_; refine yos 8 rfl ?_; refine zc (fun _ => ?_) (c := fun w1 F1 F2 h1 h2 hd hst => append_ok (l := lsOf bs v.rs) (d := v.d) (b := r.b) (c := r.c) h1 hbk.k (hE.mv hst.still) (hK.mv hst.still) (rec18_of (vl_rd h2 hd (by repeat (first | exact Pick.here | apply Pick.there))) hlb).1 (rec18_of (vl_rd h2 hd (by repeat (first | exact Pick.here | apply Pick.there))) hlb).2 hld (by show v.rs.length < _; omega))
   rw [bk_no (c := r.c) hbk e0 hft]; refine yxs ?_; refine yzs rfl ?_; refine zxa ?_; refine gnt (gc_seq (gc_block (gsr (zxm ?_)))); refine gp (r_bool (c := true) zni (by simp)) ?_; refine zxa ?_; refine gnt (gc_condT rfl rfl ?_); refine gsr (zxm ?_); refine zc (fun _ => ?_) (c := fun w1 F1 F2 h1 h2 hd hst => errNum_ok (n := 8) h1 (hN.mv hst.still) (by decide))
   refine zxm ?_; refine gp (r_bool (c := true) zei (by simp)) ?_; refine zxa ?_; refine gnt (gc_ret (gx_block_ret ?_)); refine gx_then_ret (gx_ret1 rfl (by conv => lhs; whnf) ?_); exact fun w' hw => ⟨(), rfl, St.bk (L := []) ⟨v.q, v.d, v.rs, v.may, v.ah, v.ch, v.csh, v.am, v.cm, v.csm⟩ hv.up (hw.z)⟩
 ·refine gc_regionH ([blk p 70 [.pointer (some ⟨g, 0, none⟩), .int .i64 (bs : Int), .pointer (some ⟨v.q, 0, none⟩), .slice v.ah v.rs.length v.ch, .slice v.am v.may.length v.cm, .int .i64 ((bs + tot v.rs : Nat) : Int)]]) ?_; refine yp 0 rfl zmv ?_; refine yp 1 rfl (r_bool (c := false) zei (by simp [e0])) ?_; refine yp 2 rfl zmv ?_; refine yn 3 rfl ?_; refine yn 4 rfl ?_; refine yn 5 rfl ?_; refine yn 6 rfl ?_; refine yn 7 rfl ?_; refine yn 8 rfl ?_; refine yn 9 rfl ?_; refine yn 10 rfl ?_; refine yn 11 rfl ?_; refine yn 12 rfl ?_; refine yn 13 rfl ?_; refine yn 14 rfl ?_; refine yn 15 rfl ?_; refine yn 16 rfl ?_; refine yn 17 rfl ?_; refine yn 18 rfl ?_; refine yn 19 rfl ?_; refine yn 20 rfl ?_; refine yn 21 rfl ?_; refine yn 22 rfl ?_; refine yn 23 rfl ?_; refine yn 24 rfl ?_; refine yn 25 rfl ?_; refine yp 26 rfl zpk ?_; refine yd ?_; refine gx_then (gc_condF rfl rfl ?_); refine gc_skip (gx_then (gc_seq (gc_regionZ 9 ([blk p 70 [.pointer (some ⟨g, 0, none⟩), .int .i64 (bs : Int), .pointer (some ⟨v.q, 0, none⟩), .slice v.ah v.rs.length v.ch, .slice v.am v.may.length v.cm, .int .i64 ((bs + tot v.rs : Nat) : Int)], blk b3 47 (xb ++ xc)]) ?_))); refine yps 0 rfl zmv ?_; refine yps 1 rfl znc ?_; refine yps 2 rfl zfa ?_; refine yps 3 rfl zl ?_; refine yps 4 rfl zfa ?_; refine yps 5 rfl (zL (sg := xb)) ?_; refine yps 6 rfl zfa ?_; refine yps 7 rfl (zL (sg := xc)) ?_; refine yos 8 rfl ?_; refine zc (fun _ => ?_) (c := fun w1 F1 F2 h1 h2 hd hst => append_ok (l := lsOf bs v.rs) (d := v.d) (b := r.b) (c := r.c) h1 hbk.k (hE.mv hst.still) (hK.mv hst.still) (rec18_of (vl_rd h2 hd (by repeat (first | exact Pick.here | apply Pick.there))) hlb).1 (rec18_of (vl_rd h2 hd (by repeat (first | exact Pick.here | apply Pick.there))) hlb).2 hld (by show v.rs.length < _; omega))
  rw [bk_bad hbk e0]; refine yxs ?_; refine yzs rfl ?_; refine zxa ?_; refine gnt (gc_seq (gc_block (gsr (zxm ?_)))); refine gp (r_bool (c := true) zni (by simp [e0])) ?_; refine zxa ?_; refine gnt (gc_condT rfl rfl ?_); refine gsr (zxm ?_); refine zc (fun _ => ?_) (c := fun w1 F1 F2 h1 h2 hd hst => errNum_ok (n := madeE r.b r.c) h1 (hN.mv hst.still) (Nat.le_trans (made_le _ _) (by decide)))
  refine zxm ?_; refine gp (r_bool (c := true) zei (by simp)) ?_; refine zxa ?_; refine gnt (gc_ret (gx_block_ret ?_)); refine gx_then_ret (gx_ret1 rfl (by conv => lhs; whnf) ?_); exact fun w' hw => ⟨(), rfl, St.bk (L := []) ⟨v.q, v.d, v.rs, v.may, v.ah, v.ch, v.csh, v.am, v.cm, v.csm⟩ hv.up (hw.z)⟩
end
section
theorem findL_in {id : Dig} : ∀ (rs : List LRec) (j k : Nat) (r : LRec), rs[k]? = some r → idOf r.b = id → (j : Int) ≤ findL id j rs ∧ findL id j rs ≤ (j : Int) + k
  | [], j, k, r, h, _ => by cases h
  | x :: l, j, k, r, h, he => by
    unfold findL
    split
    · omega
    · rename_i hne
      cases k with
      | zero => cases h; exact absurd he hne
      | succ k =>
        have := findL_in l (j + 1) k r (by simpa using h) he
        omega
section
variable {P : Program} {w0 : World} {F0 : Nat → Prop} {L : List Res} {Q : Exit → Act → World → Prop} {n : Fm} {env : Env}
theorem r_ldRowO {d : Option Tmp} {ty : TypeId} {pos : String} {af : Array Edge} {gd : Option (Nat × Bool)} {x : Operand} {T e g o m c s i j t : Nat} {css : List (List Value)} {cs seg : List Value} {L' : List Res} (hx : ev n env x = .pointer (some ⟨g, o + i * s + j, none⟩)) (hr : rowT P T = some true) (hs : szT P T = some t)
    (hp : Pick L (rowR e s (some ⟨g, o, none⟩) m c css.flatten) L') (hcs : ∀ c ∈ css, c.length = s) (hi : css[i]? = some cs) (him : i < m) (hg : (cs.drop j).take t = seg) (hl : seg.length = t) : Runs P w0 F0 L n env ⟨d, .load T x, ty, pos, af, gd⟩ (.agg seg.toArray) := r_load hx fun w hw => by
  obtain ⟨g', o', ha, _, _, hra⟩ := (hw.row hp).elem him
  cases ha
  rw [flatten_at hcs hi] at hra
  refine run_loadVar_agg hr hs hl fun k v hk => ?_
  have hk2 : k < seg.length := (List.getElem?_eq_some_iff.1 hk).1
  have hc : cs[j + k]? = some v := by
    rw [← hg, List.getElem?_take] at hk
    split at hk
    · rw [List.getElem?_drop] at hk; exact hk
    · cases hk
  have := hra (j + k) v hc
  rw [show o + i * s + j + k = o + i * s + (j + k) by omega]
  exact this
end
section
variable {P : Program} {w0 : World} {F0 : Nat → Prop} {K L : List Res} {Q : Exit → Act → World → Prop} {n : Fm} {env : Env} {ops : Array Oper} {listed : Array Bool} {fuel z : Nat}
theorem you3 (i j l : Nat) {o o2 o3 : Oper} (hi : ops[i]? = some o) (hj : ops[j]? = some o2) (hl : ops[l]? = some o3) (k : Gl P w0 F0 L ops (Exit.then (NextU P w0 F0 K ops Q z fuel (listed.setIfInBounds i true) n) Q) [o] n env)
    (k2 : Gl P w0 F0 L ops (Exit.then (NextU P w0 F0 K ops Q z fuel (listed.setIfInBounds j true) n) Q) [o2] n env) (k3 : Gl P w0 F0 L ops (Exit.then (NextU P w0 F0 K ops Q z fuel (listed.setIfInBounds l true) n) Q) [o3] n env) (hr : Region.ready .any ops listed = [i, j, l] := by kernel_rfl) : Gu P w0 F0 K L ops Q z (fuel + 1) listed n env := fun w hst =>
  ⟨fun h => (by rw [hr] at h; simp at h), by rw [hr]; simp, fun x hx _ => by
    rw [hr] at hx
    simp only [List.mem_cons, List.not_mem_nil, or_false] at hx
    rcases hx with rfl | rfl | rfl
    · exact wpOpIn_of_list hi (k w hst)
    · exact wpOpIn_of_list hj (k2 w hst)
    · exact wpOpIn_of_list hl (k3 w hst)⟩
end
theorem bk_open2 {w : World} {F : Nat → Prop} {p g n bs mk : Nat} {L : List Res} (h : stars (BookR p g n bs mk :: L) w F) : ∃ q d rs may ah ch csh am cm csm, BkOk d n bs mk rs may ∧ (∀ c ∈ csh, List.length c = 58) ∧ (∀ c ∈ csm, List.length c = 58) ∧
    stars (blk p 70 [.pointer (some ⟨g, 0, none⟩), .int .i64 (bs : Int), .pointer (some ⟨q, 0, none⟩), .slice ah rs.length ch, .slice am may.length cm, .int .i64 ((bs + tot rs : Nat) : Int)] :: rowR 47 58 ah rs.length ch csh.flatten :: ElR RdRec18 csh rs :: rowR 47 58 am may.length cm csm.flatten :: ElR RdRec18 csm may :: LedR q g (lsOf bs rs) :: DiskR g d :: L) w F := by
  obtain ⟨⟨q, d, rs, may, ah, ch, csh, am, cm, csm⟩, hv, h⟩ := bk_open h
  exact ⟨q, d, rs, may, ah, ch, csh, am, cm, csm, hv.bk, hv.lh, hv.lm, h⟩
attribute [local irreducible] Gl Gc Gx Gs Runs Wt
set_option maxRecDepth 20000
attribute [local irreducible] dc RdRec RdBlock RdQC blkC qcC allE madeE datE RdRec18 smB idOf tot d123
theorem bsame_ok {w : World} {F : Nat → Prop} {p g n bs mk : Nat} {ea : Nat → Addr} (h : stars [BookR p g n bs mk] w F) (hN : NErr w (fun k => ¬ F k) ea) (hK : KR w (fun k => ¬ F k))  :
    Calls Tryz.prog 24 #[.pointer (some ⟨p, 0, none⟩)] w (Post w F (fun _ : Unit => .bool true) (fun _ => [BookR p g n bs mk])) := by
 have hE := hN.g
 obtain ⟨q, d, rs, may, ah, ch, csh, am, cm, csm, hbk, hlh, hlm, h⟩ := bk_open2 h; have hrl := hbk.len
 have hlt := hbk.lt
 have hn1 := hbk.hn
 have hdn := hbk.dn
 have hml := hbk.ml
 have hld : (lsOf bs rs).e < d.n := by show bs + tot rs < _; omega
 have hall : ∀ r ∈ (lsOf bs rs).rs, r.Ok := fun r hr => (hbk.ok r (List.mem_append.2 (.inl hr))).2.2
 have hln : (lsOf bs rs).rs.length < 4294967296 := by show rs.length < _; omega
 refine g_enterM (env := [(0, .pointer (some ⟨p, 0, none⟩))]) Tryz.func24 rfl h Tryz.ntmps24 rfl rfl ?_; refine gsr (zb1 fun b1 => ?_); refine zal fun b2 => ?_; refine gnt (gc_seq (gc_seq (gc_regionH ([blk b1 68 [.pointer (some ⟨p, 0, none⟩)], blk p 70 [.pointer (some ⟨g, 0, none⟩), .int .i64 (bs : Int), .pointer (some ⟨q, 0, none⟩), .slice ah rs.length ch, .slice am may.length cm, .int .i64 ((bs + tot rs : Nat) : Int)]]) ?_))); refine yp 0 rfl zl ?_; refine yp 1 rfl znc ?_; refine yp 2 rfl zfa ?_; refine yp 3 rfl zl ?_; refine yp 5 rfl zl ?_; refine yp 6 rfl znc ?_; refine yp 7 rfl zfa ?_; refine yp 8 rfl zl ?_; refine yp 9 rfl zln ?_; refine yo 4 rfl ?_; refine zc (fun _ => ?_) (c := fun w1 F1 F2 h1 h2 hd hst => lenL_ok h1)
 refine yx ?_; refine yp 10 rfl (r_bool (c := false) zni (by simp)) ?_; refine yp 11 rfl zmv ?_; refine yp 12 rfl zl ?_; refine yp 13 rfl znc ?_; refine yp 14 rfl zfa ?_; refine yp 15 rfl zl ?_; refine yp 17 rfl zl ?_; refine yp 18 rfl znc ?_; refine yp 19 rfl zfa ?_; refine yp 20 rfl zl ?_; refine yp 22 rfl zl ?_; refine yp 23 rfl znc ?_; refine yp 24 rfl zfa ?_; refine yp 25 rfl zl ?_; refine yo 16 rfl ?_; refine zc (fun _ => ?_) (c := fun w1 F1 F2 h1 h2 hd hst => free_ok h1 hbk.k (by show bs + tot rs ≤ _; omega))
 refine yx ?_; refine yo 21 rfl ?_; refine zc (fun _ => ?_) (c := fun w1 F1 F2 h1 h2 hd hst => size_ok h1)
 refine yx ?_; refine yp 26 rfl (r_int (j := ((d.n - (bs + tot rs) : Nat) : Int)) zsb (by omega)) ?_; refine yp 27 rfl (r_bool (c := false) zni (by simp)) ?_; refine yp 28 rfl zpk ?_; refine yd ?_; refine gx_then (gc_condF rfl rfl ?_); refine gc_skip (gx_then (gc_seq (gsr (gp zl ?_)))); refine gp znc ?_; refine gp zfa ?_; refine gp zl ?_; refine gp zln ?_; refine zxm ?_; refine gnt (gc_block (gc_loop (α := Nat) (fun k => [pureR (k ≤ rs.length), blk b1 68 [.pointer (some ⟨p, 0, none⟩)], blk b2 4 [.bool false], blk p 70 [.pointer (some ⟨g, 0, none⟩), .int .i64 (bs : Int), .pointer (some ⟨q, 0, none⟩), .slice ah rs.length ch, .slice am may.length cm, .int .i64 ((bs + tot rs : Nat) : Int)], rowR 47 58 ah rs.length ch csh.flatten, ElR RdRec18 csh rs, rowR 47 58 am may.length cm csm.flatten, ElR RdRec18 csm may, LedR q g (lsOf bs rs), DiskR g d]) (fun k => [(51, .int .i64 (k : Int))]) [3, 4, 5, 6, 7, 8, 9, 10, 52, 53, 54, 55, 56, 57, 58, 59, 60, 61, 62, 63, 64, 65, 66, 67, 68, 69, 70, 71, 72, 73, 74, 75, 76, 77, 78, 79, 80, 81, 82, 83, 84, 85, 86, 87, 88, 89, 90, 91, 92, 93, 94, 95, 96, 97] (fun k => rs.length - k) 0 ?_ ?_ ?_))
 ·refine env_start (by kernel_rfl)
 ·exact zlp (Nat.zero_le _)
 ·intro k u; refine gc_pureR (fun hk => ?_)
  replace hk : k ≤ rs.length := hk
  refine gsr (gp zlt ?_); refine gnt (gc_seq (gif rfl (fun hc52 => ?_) (fun hc52 => ?_)))
  ·try simp only at hc52
   have hk' : k < rs.length := by omega
   obtain ⟨r, hr⟩ : ∃ r, rs[k]? = some r := ⟨_, List.getElem?_eq_getElem hk'⟩; have hrk := hbk.ok r (List.mem_append.2 (.inl (List.mem_of_getElem? hr)))
   refine gc_fact (fun w' hw => St.el (rd := RdRec18) (css := csh) (l := rs) hw (by repeat (first | exact Pick.here | apply Pick.there))) (fun hel => ?_)
   obtain ⟨hlen, hel⟩ := hel; have hci : csh[k]? = some (csh[k]'(by omega)) := List.getElem?_eq_getElem (by omega)
   generalize hcse : csh[k]'(by omega) = ce at hci
   obtain ⟨wv, A, hrd⟩ := hel k ce r hci hr; unfold RdRec18 at hrd
   obtain ⟨xb, xc, rfl, hb0, hc0⟩ := hrd; have hlb := hb0.len
   have hlc := hc0.len
   have hob := hb0.one
   have hoc := hc0.one
   have ib := Len.of hlb
   have jb := One.of hob
   have ic := Len.of hlc
   have jc := One.of hoc
   refine gc_fact (fun w' hw => St.rowAt (hw.sel (M := [rowR 47 58 ah rs.length ch csh.flatten]) (by repeat (first | exact Sel.nil | (apply Sel.cons; · (repeat (first | exact Pick.here | apply Pick.there)))))) .here (by omega)) (fun hra => ?_)
   obtain ⟨_, gh, oh, ha⟩ := hra; subst ha; have hfi := findL_in rs 0 k r hr rfl
   refine gc_skip (gx_then (gc_seq (gc_block (gsr (zxm ?_))))); refine gp (r_val (v' := .pointer (some ⟨gh, oh + k * 58, none⟩)) (zia (m := rs.length)) (by simp)) ?_; refine gp (r_ldRow (i := k) rfl Ty.row_47 Ty.sz_47 (by repeat (first | exact Pick.here | apply Pick.there)) hlh hci hk') ?_; refine zal fun b4 => ?_; refine zxa ?_; refine zsA (new := xb ++ xc) (by rw [List.length_append]; omega) (all_app' hob hoc) ?_; refine zxs ?_; refine gp zl ?_; refine gp znc ?_; refine gp zfa ?_; refine gp zl ?_; refine zxm ?_; refine zc ?_ (c := fun w1 F1 F2 h1 h2 hd hst => get_some (l := lsOf bs rs) (i := k) h1 (hE.mv hst.still) hr hrk.2.2)
   rintro ⟨yb, yc⟩
   refine gl_pureR (fun hyy => ?_)
   obtain ⟨⟨hlyb, hoyb⟩, hlyc, hoyc⟩ := hyy; replace hlyb : yb.length = 39 := hlyb
   replace hlyc : yc.length = 19 := hlyc
   have iyb := Len.of hlyb
   have jyb := One.of (show ∀ v ∈ yb, v.oneCell' = true from hoyb)
   have iyc := Len.of hlyc
   have jyc := One.of (show ∀ v ∈ yc, v.oneCell' = true from hoyc)
   refine zxm ?_; refine gp zex ?_; refine gp zex ?_; refine gp zex ?_; refine zal fun b5 => ?_; refine zal fun b6 => ?_; refine zsN ?_; refine zsN ?_; refine zxa ?_; refine zxs ?_; refine gp zfa ?_; refine gp (zL (sg := xb)) ?_; refine zc (fun _ => ?_) (c := fun w1 F1 F2 h1 h2 hd hst => rid_ok h1 (rec18_of (el_rd h2 hd (by repeat (first | exact Pick.here | apply Pick.there)) hci hr) hlb).1 hrk.blk)
   refine zxm ?_; refine gp zex ?_; refine gp zex ?_; refine zal fun b8 => ?_; refine zsA (dc_length _) (dc_one _) ?_; refine zxa ?_; refine gnt (gc_seq (gc_regionZ 6 ([blk b1 68 [.pointer (some ⟨p, 0, none⟩)], blk p 70 [.pointer (some ⟨g, 0, none⟩), .int .i64 (bs : Int), .pointer (some ⟨q, 0, none⟩), .slice (some ⟨gh, oh, none⟩) rs.length ch, .slice am may.length cm, .int .i64 ((bs + tot rs : Nat) : Int)], blk b8 38 (dc (idOf r.b))]) ?_)); refine yps 0 rfl zl ?_; refine yps 1 rfl znc ?_; refine yps 2 rfl zfa ?_; refine yps 3 rfl zl ?_; refine yps 4 rfl (zLa (cs := dc (idOf r.b))) ?_; refine yos 5 rfl ?_; refine zc (fun _ => ?_) (c := fun w1 F1 F2 h1 h2 hd hst => find_ok (id := idOf r.b) h1)
   refine yxs ?_; refine yzs rfl ?_; refine zxa ?_; refine zxs ?_; refine zxm ?_; refine gp (r_bool (c := false) (r_nenil rfl (by kernel_rfl)) rfl) ?_; refine zxm ?_; refine gq (zLa (cs := xb ++ xc)) ?_; refine gq (zLa (cs := yb)) ?_; refine gq (zLa (cs := yc)) ?_; refine gq zbu ?_; refine zc (fun _ => ?_) (c := fun w1 F1 F2 h1 h2 hd hst => same18_ok (x := r) (y := r) h1 hlb hlyb hlc hlyc hob hoyb hoc hoyc (rec18_of (el_rd h2 hd (by repeat (first | exact Pick.here | apply Pick.there)) hci hr) hlb).1 (vl_rd h2 hd (by repeat (first | exact Pick.here | apply Pick.there))) (rec18_of (el_rd h2 hd (by repeat (first | exact Pick.here | apply Pick.there)) hci hr) hlb).2 (vl_rd h2 hd (by repeat (first | exact Pick.here | apply Pick.there))))
   refine gq (r_bool (c := false) znt (by simp)) ?_; refine gp zpk ?_; refine zxm ?_; refine gq zmv ?_; refine gq (r_bool (c := false) zlt (decide_eq_false (by show ¬ findL (idOf r.b) 0 rs < 0; omega))) ?_; refine gp zpk ?_; refine zxm ?_; refine gq zmv ?_; refine gq zmv ?_; refine gq (r_bool (c := false) zgt (decide_eq_false (by show ¬ findL (idOf r.b) 0 rs > (k : Int); omega))) ?_; refine gp zpk ?_; refine gnt (gc_condF rfl rfl ?_); refine gc_skip (gx_block_normal (gx_then (gc_region (gp zad ?_)))); refine zxm ?_; refine gl_nil (zrd (k + 1) ?_ ?_)
   ·show rs.length - (k + 1) < rs.length - k
    omega
   ·exact zlp (show k + 1 ≤ rs.length by omega)
  ·refine gc_exit ?_; refine gx_then_exit ?_; refine gx_round_exit ?_; refine gx_block_hit ?_; refine gx_then (gsr (zal fun b11 => ?_)); refine zs1 ?_; refine gnt (gc_seq (gsr (gp zl ?_))); refine gp znc ?_; refine gp zfa ?_; refine gp zl ?_; refine zc (fun bx => ?_) (c := fun w1 F1 F2 h1 h2 hd hst => all_ok h1)
   refine gnt (gc_block (gc_range (own := [blk bx 30 [.pointer (some ⟨q, 0, none⟩)], LedR q g (lsOf bs rs)]) (fun i => [blk b11 3 [.int .i64 (i : Int)], blk b1 68 [.pointer (some ⟨p, 0, none⟩)], blk p 70 [.pointer (some ⟨g, 0, none⟩), .int .i64 (bs : Int), .pointer (some ⟨q, 0, none⟩), .slice ah rs.length ch, .slice am may.length cm, .int .i64 ((bs + tot rs : Nat) : Int)], rowR 47 58 ah rs.length ch csh.flatten, ElR RdRec18 csh rs]) (fun _ _ => [pureR False]) (by exact rfl) Ty.call_85 (by repeat (first | exact Sel.nil | (apply Sel.cons; · (repeat (first | exact Pick.here | apply Pick.there))))) (by intros; rfl) (fun lp J Jx w1 F1 F2 h1 h2 hd hst => all1_it h1 (hE.mv hst.still) hall hln) ?_ ?_ ?_))
   ·intro lp rc rc' i y w1 F1 F2 h1 h2 hd hst; try dsimp only [List.cons_append, List.nil_append, zipE]
    refine gc_pure1 (p := i < rs.length ∧ y.length = 39 ∧ ∀ v ∈ y, v.oneCell' = true) (by repeat (first | exact Pick.here | apply Pick.there)) (fun hi => ?_)
    obtain ⟨hk', hl39, ho39⟩ := hi; have i39 := Len.of hl39
    have j39 := One.of ho39
    obtain ⟨r, hr⟩ : ∃ r, rs[i]? = some r := ⟨_, List.getElem?_eq_getElem hk'⟩; have hrk := hbk.ok r (List.mem_append.2 (.inl (List.mem_of_getElem? hr)))
    refine gc_fact (fun w' hw => St.el (rd := RdRec18) (css := csh) (l := rs) hw (by repeat (first | exact Pick.here | apply Pick.there))) (fun hel => ?_)
    obtain ⟨hlen, hel⟩ := hel; have hci : csh[i]? = some (csh[i]'(by omega)) := List.getElem?_eq_getElem (by omega)
    generalize hcse : csh[i]'(by omega) = ce at hci
    obtain ⟨wv, A, hrd⟩ := hel i ce r hci hr; unfold RdRec18 at hrd
    obtain ⟨xb, xc, rfl, hb0, hc0⟩ := hrd; have hlb := hb0.len
    have hlc := hc0.len
    have hob := hb0.one
    have hoc := hc0.one
    have ib := Len.of hlb
    have jb := One.of hob
    have ic := Len.of hlc
    have jc := One.of hoc
    refine gc_fact (fun w' hw => St.rowAt (hw.sel (M := [rowR 47 58 ah rs.length ch csh.flatten]) (by repeat (first | exact Sel.nil | (apply Sel.cons; · (repeat (first | exact Pick.here | apply Pick.there)))))) .here (by omega)) (fun hra => ?_)
    obtain ⟨_, gh, oh, ha⟩ := hra; subst ha; refine gsr (zxa ?_); refine gnt (gc_region (zal fun b13 => ?_)); refine gl_eqc (cs' := blkC) (by repeat (first | exact Pick.here | apply Pick.there)) (by kernel_rfl) ?_; refine zsA hl39 ho39 ?_; refine gl_nil (gx_lp (by repeat (first | exact Pick.here | apply Pick.there)) ?_); refine gx_begin ?_; refine gc_block (gc_seq (gc_seq (gc_regionH ([blk b11 3 [.int .i64 (i : Int)], blk b13 45 y, blk b1 68 [.pointer (some ⟨p, 0, none⟩)], blk p 70 [.pointer (some ⟨g, 0, none⟩), .int .i64 (bs : Int), .pointer (some ⟨q, 0, none⟩), .slice (some ⟨gh, oh, none⟩) rs.length ch, .slice am may.length cm, .int .i64 ((bs + tot rs : Nat) : Int)], rowR 47 58 (some ⟨gh, oh, none⟩) rs.length ch csh.flatten]) ?_))); refine yp 0 rfl zmv ?_; refine yp 1 rfl zl ?_; refine yp 2 rfl (r_bool (c := false) zni (by simp)) ?_; refine yp 3 rfl zmv ?_; refine yp 4 rfl (zLa (cs := y)) ?_; refine yp 5 rfl zl ?_; refine yp 6 rfl znc ?_; refine yp 7 rfl zfa ?_; refine yp 8 rfl zl ?_; refine yp 9 rfl zmv ?_; refine yp 10 rfl (r_val (v' := .pointer (some ⟨gh, oh + i * 58, none⟩)) (zia (m := rs.length)) (by simp)) ?_; refine yp 11 rfl zfa ?_; refine yp 12 rfl (r_ldRowO (i := i) (j := 0) rfl Ty.row_45 Ty.sz_45 (by repeat (first | exact Pick.here | apply Pick.there)) hlh hci hk' (seg := xb) (by rw [List.drop_zero]; exact List.take_left' hlb) hlb) ?_; refine yo 13 rfl ?_; refine zc (fun _ => ?_) (c := fun w1 F1 F2 h1 h2 hd hst => sameBlock_ok (x := blkAt rs i) (y := r.b) h1 (vl_rd h2 hd (by repeat (first | exact Pick.here | apply Pick.there))) (rec18_of (el_rd h2 hd (by repeat (first | exact Pick.here | apply Pick.there)) hci hr) hlb).1)
    refine yx ?_; refine yp 14 rfl (r_bool (c := false) znt (by simp [blkAt_eq hr])) ?_; refine yp 15 rfl zpk ?_; refine yd ?_; refine gx_then (gc_condF rfl rfl ?_); refine gc_skip (gx_then (gc_region (gp zl ?_))); refine gp (r_int (j := ((i + 1 : Nat) : Int)) zad (by omega)) ?_; refine zs1 ?_; refine gl_nil (gx_block_normal (gx_rdn ?_)); exact fun w' hw => hw.z
   ·intro bU14 y m hy; try dsimp only [List.cons_append, List.nil_append]
    have hm : m = rs.length := by cases y <;> simp_all [allOr, lsOf]
    subst hm; refine gx_block_normal (gx_thenM ?_); refine gc_join (α := Unit) (fun z => [dfR bU14, blk b11 3 [.int .i64 ((rs.length : Nat) : Int)], blk b1 68 [.pointer (some ⟨p, 0, none⟩)], blk b2 4 [.bool false], blk p 70 [.pointer (some ⟨g, 0, none⟩), .int .i64 (bs : Int), .pointer (some ⟨q, 0, none⟩), .slice ah rs.length ch, .slice am may.length cm, .int .i64 ((bs + tot rs : Nat) : Int)], rowR 47 58 ah rs.length ch csh.flatten, ElR RdRec18 csh rs, rowR 47 58 am may.length cm csm.flatten, ElR RdRec18 csm may, LedR q g (lsOf bs rs), DiskR g d]) (fun z => [(16, eV 261 ea 9)]) [14, 15, 123, 124, 125, 126, 127, 128, 129, 130, 131, 132, 133, 134, 135, 136] ?_ ?_
    ·refine gc_regionU 18 ([blk b1 68 [.pointer (some ⟨p, 0, none⟩)], blk p 70 [.pointer (some ⟨g, 0, none⟩), .int .i64 (bs : Int), .pointer (some ⟨q, 0, none⟩), .slice ah rs.length ch, .slice am may.length cm, .int .i64 ((bs + tot rs : Nat) : Int)]]) ?_; refine ypu 0 rfl zl ?_; refine ypu 1 rfl znc ?_; refine ypu 2 rfl zfa ?_; refine ypu 3 rfl zl ?_; refine ypu 4 rfl zl ?_; refine ypu 5 rfl znc ?_; refine ypu 6 rfl zfa ?_; refine ypu 7 rfl zl ?_; refine ypu 8 rfl zln ?_; refine you3 9 14 15 rfl rfl rfl ?_ ?_ ?_
     ·refine zc (fun _ => ?_) (c := fun w1 F1 F2 h1 h2 hd hst => get_none (i := (rs.length : Int)) h1 (hE.mv hst.still) (.inr (Int.le_refl _)))
      refine yxu ?_; refine ypu 10 rfl zmv ?_; refine ypu 11 rfl zex ?_; refine ypu 12 rfl zex ?_; refine ypu 13 rfl zex ?_; refine you2 14 15 rfl rfl ?_ ?_
      ·refine zal fun b14 => ?_; refine gl_eqc (cs' := blkC) (by repeat (first | exact Pick.here | apply Pick.there)) (by kernel_rfl) ?_; refine yxu ?_; refine you 15 rfl ?_; refine zal fun b15 => ?_; refine gl_eqc (cs' := qcC) (by repeat (first | exact Pick.here | apply Pick.there)) (by kernel_rfl) ?_; refine yxu ?_; refine you 16 rfl ?_; refine zsA (rdBlock0 (w := w) (A := fun _ => True)).len (rdBlock0 (w := w) (A := fun _ => True)).one ?_; refine yxu ?_; refine you 17 rfl ?_; refine zsA (rdQC0 (w := w) (A := fun _ => True)).len (rdQC0 (w := w) (A := fun _ => True)).one ?_; refine yxu ?_; refine yzu ?_; refine zxa ?_; refine gl_nil (zjn (()) ?_)
       ·exact zsel
      ·refine zal fun b15 => ?_; refine gl_eqc (cs' := qcC) (by repeat (first | exact Pick.here | apply Pick.there)) (by kernel_rfl) ?_; refine yxu ?_; refine you 14 rfl ?_; refine zal fun b14 => ?_; refine gl_eqc (cs' := blkC) (by repeat (first | exact Pick.here | apply Pick.there)) (by kernel_rfl) ?_; refine yxu ?_; refine you 16 rfl ?_; refine zsA (rdBlock0 (w := w) (A := fun _ => True)).len (rdBlock0 (w := w) (A := fun _ => True)).one ?_; refine yxu ?_; refine you 17 rfl ?_; refine zsA (rdQC0 (w := w) (A := fun _ => True)).len (rdQC0 (w := w) (A := fun _ => True)).one ?_; refine yxu ?_; refine yzu ?_; refine zxa ?_; refine gl_nil (zjn (()) ?_)
       ·exact zsel
     ·refine zal fun b14 => ?_; refine gl_eqc (cs' := blkC) (by repeat (first | exact Pick.here | apply Pick.there)) (by kernel_rfl) ?_; refine yxu ?_; refine you2 9 15 rfl rfl ?_ ?_
      ·refine zc (fun _ => ?_) (c := fun w1 F1 F2 h1 h2 hd hst => get_none (i := (rs.length : Int)) h1 (hE.mv hst.still) (.inr (Int.le_refl _)))
       refine yxu ?_; refine ypu 10 rfl zmv ?_; refine ypu 11 rfl zex ?_; refine ypu 12 rfl zex ?_; refine ypu 13 rfl zex ?_; refine you 15 rfl ?_; refine zal fun b15 => ?_; refine gl_eqc (cs' := qcC) (by repeat (first | exact Pick.here | apply Pick.there)) (by kernel_rfl) ?_; refine yxu ?_; refine you 16 rfl ?_; refine zsA (rdBlock0 (w := w) (A := fun _ => True)).len (rdBlock0 (w := w) (A := fun _ => True)).one ?_; refine yxu ?_; refine you 17 rfl ?_; refine zsA (rdQC0 (w := w) (A := fun _ => True)).len (rdQC0 (w := w) (A := fun _ => True)).one ?_; refine yxu ?_; refine yzu ?_; refine zxa ?_; refine gl_nil (zjn (()) ?_)
       ·exact zsel
      ·refine zal fun b15 => ?_; refine gl_eqc (cs' := qcC) (by repeat (first | exact Pick.here | apply Pick.there)) (by kernel_rfl) ?_; refine yxu ?_; refine you 9 rfl ?_; refine zc (fun _ => ?_) (c := fun w1 F1 F2 h1 h2 hd hst => get_none (i := (rs.length : Int)) h1 (hE.mv hst.still) (.inr (Int.le_refl _)))
       refine yxu ?_; refine ypu 10 rfl zmv ?_; refine ypu 11 rfl zex ?_; refine ypu 12 rfl zex ?_; refine ypu 13 rfl zex ?_; refine you 16 rfl ?_; refine zsA (rdBlock0 (w := w) (A := fun _ => True)).len (rdBlock0 (w := w) (A := fun _ => True)).one ?_; refine yxu ?_; refine you 17 rfl ?_; refine zsA (rdQC0 (w := w) (A := fun _ => True)).len (rdQC0 (w := w) (A := fun _ => True)).one ?_; refine yxu ?_; refine yzu ?_; refine zxa ?_; refine gl_nil (zjn (()) ?_)
       ·exact zsel
     ·refine zal fun b15 => ?_; refine gl_eqc (cs' := qcC) (by repeat (first | exact Pick.here | apply Pick.there)) (by kernel_rfl) ?_; refine yxu ?_; refine you2 9 14 rfl rfl ?_ ?_
      ·refine zc (fun _ => ?_) (c := fun w1 F1 F2 h1 h2 hd hst => get_none (i := (rs.length : Int)) h1 (hE.mv hst.still) (.inr (Int.le_refl _)))
       refine yxu ?_; refine ypu 10 rfl zmv ?_; refine ypu 11 rfl zex ?_; refine ypu 12 rfl zex ?_; refine ypu 13 rfl zex ?_; refine you 14 rfl ?_; refine zal fun b14 => ?_; refine gl_eqc (cs' := blkC) (by repeat (first | exact Pick.here | apply Pick.there)) (by kernel_rfl) ?_; refine yxu ?_; refine you 16 rfl ?_; refine zsA (rdBlock0 (w := w) (A := fun _ => True)).len (rdBlock0 (w := w) (A := fun _ => True)).one ?_; refine yxu ?_; refine you 17 rfl ?_; refine zsA (rdQC0 (w := w) (A := fun _ => True)).len (rdQC0 (w := w) (A := fun _ => True)).one ?_; refine yxu ?_; refine yzu ?_; refine zxa ?_; refine gl_nil (zjn (()) ?_)
       ·exact zsel
      ·refine zal fun b14 => ?_; refine gl_eqc (cs' := blkC) (by repeat (first | exact Pick.here | apply Pick.there)) (by kernel_rfl) ?_; refine yxu ?_; refine you 9 rfl ?_; refine zc (fun _ => ?_) (c := fun w1 F1 F2 h1 h2 hd hst => get_none (i := (rs.length : Int)) h1 (hE.mv hst.still) (.inr (Int.le_refl _)))
       refine yxu ?_; refine ypu 10 rfl zmv ?_; refine ypu 11 rfl zex ?_; refine ypu 12 rfl zex ?_; refine ypu 13 rfl zex ?_; refine you 16 rfl ?_; refine zsA (rdBlock0 (w := w) (A := fun _ => True)).len (rdBlock0 (w := w) (A := fun _ => True)).one ?_; refine yxu ?_; refine you 17 rfl ?_; refine zsA (rdQC0 (w := w) (A := fun _ => True)).len (rdQC0 (w := w) (A := fun _ => True)).one ?_; refine yxu ?_; refine yzu ?_; refine zxa ?_; refine gl_nil (zjn (()) ?_)
       ·exact zsel
    ·intro z u; refine gc_seq (gc_regionZ 21 ([blk b11 3 [.int .i64 ((rs.length : Nat) : Int)], blk b1 68 [.pointer (some ⟨p, 0, none⟩)], blk p 70 [.pointer (some ⟨g, 0, none⟩), .int .i64 (bs : Int), .pointer (some ⟨q, 0, none⟩), .slice ah rs.length ch, .slice am may.length cm, .int .i64 ((bs + tot rs : Nat) : Int)]]) ?_); refine yps 0 rfl zl ?_; refine yps 1 rfl zl ?_; refine yps 2 rfl znc ?_; refine yps 3 rfl zfa ?_; refine yps 4 rfl zl ?_; refine yps 5 rfl zln ?_; refine yps 6 rfl (r_bool (c := true) zei (by simp)) ?_; refine yps 7 rfl zmv ?_; refine yps 8 rfl zmv ?_; refine yos 9 rfl ?_; refine zc (fun _ => ?_) (c := fun w1 F1 F2 h1 h2 hd hst => errNum_ok (n := 9) h1 (hN.mv hst.still) (by decide))
     refine yxs ?_; refine yps 10 rfl (r_bool (c := true) zei (by simp)) ?_; refine yps 11 rfl zpk ?_; refine yps 12 rfl zmv ?_; refine yps 13 rfl zl ?_; refine yps 14 rfl znc ?_; refine yps 15 rfl zfa ?_; refine yps 16 rfl zl ?_; refine yps 17 rfl (zba (cs := dc d123) (hf := by kernel_rfl)) ?_; refine yos 18 rfl ?_; refine zc (fun _ => ?_) (c := fun w1 F1 F2 h1 h2 hd hst => find_ok (id := d123) h1)
     rw [show findL d123 0 (lsOf bs rs).rs = -1 from findL_miss (fun i hi r hr => (hbk.ok r (List.mem_append.2 (.inl (List.mem_of_getElem? hr)))).ne)]; refine yxs ?_; refine yps 19 rfl (r_bool (c := true) zei (by simp)) ?_; refine yps 20 rfl zpk ?_; refine yzs rfl ?_; refine zs1 ?_; refine gnt (gc_ret (gx_mark (by repeat (first | exact Pick.here | apply Pick.there)) ?_)); refine gx_mark0 ?_; refine gx_retc rfl rfl (ldO Ty.row_4) ?_
     exact fun w' hw => ⟨(), rfl, St.bk (L := []) ⟨q, d, rs, may, ah, ch, csh, am, cm, csm⟩ ⟨hbk, hlh, hlm⟩ (hw.z)⟩
   ·exact fun _ _ _ _ _ => gc_noway
end
section
theorem bk_crash {d : DS} {n bs mk : Nat} {rs may : List LRec} (h : BkOk d n bs mk rs may) (kb : List Bool) : BkOk (d.crash kb) n bs mk rs [] ∨ ∃ r m, may = r :: m ∧ BkOk (d.crash kb) n bs mk (rs ++ [r]) [] := by
  have hk := crash_ok (keep := kb) h.k
  have hn : (d.crash kb).n = n := h.dn
  have hdn := h.dn
  have hon : (d.crash kb).off = false := rfl
  have hws : (d.crash kb).ws = [] := rfl
  have hin : ∀ {rs' : List LRec}, LInv (d.crash kb) (lsOf bs rs') bs → (∀ r ∈ rs', OkR r) → BkOk (d.crash kb) n bs mk rs' [] := fun {rs'} hi hr => ⟨hk, hn, h.hn, by have h5 : bs + tot rs' < (d.crash kb).n := hi.lt; omega, Nat.zero_le _, .inl ⟨hon, hws, hi, rfl⟩, fun r hr' => hr r (by simpa using hr')⟩
  have hrs : ∀ r ∈ rs, OkR r := fun r hr => h.ok r (List.mem_append.2 (.inl hr))
  rcases h.st with ⟨ho, hw, hi, rfl⟩ | ⟨ho, hlost⟩
  · exact .inl (hin (crash_keeps (l := lsOf bs rs) (f := d.at) h.k (fun j => (at_ss hw j).symm) rfl hi.lo rfl (by show bs + tot rs < d.n; have := h.lt; omega) (by rw [hw]; intro k hk'; cases hk') kb) hrs)
  · rcases hlost kb with hi | ⟨r, m, rfl, hi⟩
    · exact .inl (hin hi hrs)
    · exact .inr ⟨r, m, rfl, hin hi fun x hx => by
        rcases List.mem_append.1 hx with hx | hx
        · exact hrs x hx
        · rw [List.mem_singleton.1 hx]; exact h.ok r (List.mem_append.2 (.inr (List.mem_cons_self ..)))⟩
theorem BkOk.op {d : DS} {n bs mk : Nat} {rs : List LRec} (h : BkOk d n bs mk rs []) (ho : d.off = false) : openE d (bs : Int) = (0, lsOf bs rs) := by
  rcases h.st with ⟨_, _, hi, _⟩ | ⟨h1, _⟩
  · exact hi.op
  · rw [ho] at h1; cases h1
theorem bk_make {w : World} {F : Nat → Prop} {p g n bs mk q ch : Nat} {d : DS} {rs : List LRec} {ah : Option Addr} {csh : List (List Value)} (hb : BkOk d n bs mk rs []) (hl : ∀ c ∈ csh, List.length c = 58)
    (h : stars [blk p 70 [.pointer (some ⟨g, 0, none⟩), .int .i64 (bs : Int), .pointer (some ⟨q, 0, none⟩), .slice ah rs.length ch, .slice none 0 0, .int .i64 ((bs + tot rs : Nat) : Int)], rowR 47 58 ah rs.length ch csh.flatten, ElR RdRec18 csh rs, LedR q g (lsOf bs rs), DiskR g d] w F) : stars [BookR p g n bs mk] w F := by
  have h1 := stars_row_nil (e := 47) (size := 58) (el_nil (rd := RdRec18) h)
  have h2 := (Pick.there (Pick.there (Pick.there (Pick.there Pick.here)))).stars h1
  have h3 := (Pick.there (Pick.there (Pick.there (Pick.there Pick.here)))).stars h2
  have h4 := (Pick.there (Pick.there (Pick.there (Pick.there Pick.here)))).stars h3
  exact stars_ex_mk ⟨q, d, rs, [], ah, ch, csh, none, 0, []⟩ (stars_all_mk (stars_pure_mk ⟨hb, hl, fun c hc => by cases hc⟩ h4))
theorem el_head {α : Type} {rd : World → (Nat → Prop) → List Value → α → Prop} [RdK rd] {w : World} {F : Nat → Prop} {css : List (List Value)} {l : List α} {c : List Value} {x : α} (h : stars [ElR rd (c :: css) (x :: l)] w F) : stars [VlR rd c x] w F := rdR_mk ((stars_one' h).1.2 0 c x rfl rfl) h
attribute [local irreducible] Gl Gc Gx Gs Runs Wt
set_option maxRecDepth 20000
attribute [local irreducible] dc RdRec RdBlock RdQC blkC qcC allE madeE datE RdRec18 smB idOf tot d123 BookR
theorem bopen_ok {w : World} {F : Nat → Prop} {p g n bs mk : Nat} {ak : Option Addr} {nk ck : Nat} {kb : List Bool} {ea : Nat → Addr} (h : stars [BookR p g n bs mk] w F) (hN : NErr w (fun k => ¬ F k) ea) (hK : KR w (fun k => ¬ F k)) (hb : RdRow w (fun k => ¬ F k) 1 ak nk (kb.map Value.bool)) :
    Calls Tryz.prog 23 #[.pointer (some ⟨p, 0, none⟩), .slice ak nk ck] w (Post w F (fun _ : Unit => .bool true) (fun _ => [BookR p g n bs mk])) := by
 have hE := hN.g
 obtain ⟨q, d, rs, may, ah, ch, csh, am, cm, csm, hbk, hlh, hlm, h⟩ := bk_open2 h; have hrl := hbk.len
 have hlt := hbk.lt
 have hn1 := hbk.hn
 have hdn := hbk.dn
 have hml := hbk.ml
 have hld : (lsOf bs rs).e < d.n := by show bs + tot rs < _; omega
 refine g_enter (env := [(0, .pointer (some ⟨p, 0, none⟩)), (1, .slice ak nk ck)]) Tryz.func23 rfl h Tryz.ntmps23 rfl rfl ?_; refine gsr (zxa ?_); refine gnt (gc_seq ?_); by_cases hc : BkOk (d.crash kb) n bs mk rs []
 ·refine gc_region (zxm ?_); refine gp znc ?_; refine gp zfa ?_; refine gp zl ?_; refine zxm ?_; refine zc (fun _ => ?_) (c := fun w1 F1 F2 h1 h2 hd hst => crash_ok' (d := d) (kb := kb) h1 hbk.k (hb.mv hst.still))
  refine gnt (gc_seq (gc_regionU 13 ([blk p 70 [.pointer (some ⟨g, 0, none⟩), .int .i64 (bs : Int), .pointer (some ⟨q, 0, none⟩), .slice ah rs.length ch, .slice am may.length cm, .int .i64 ((bs + tot rs : Nat) : Int)]]) ?_)); refine ypu 0 rfl zmv ?_; refine ypu 1 rfl znc ?_; refine ypu 2 rfl zfa ?_; refine ypu 3 rfl zl ?_; refine ypu 4 rfl zmv ?_; refine ypu 5 rfl znc ?_; refine ypu 6 rfl zfa ?_; refine ypu 7 rfl zl ?_; refine you 8 rfl ?_; refine zc (fun q2 => ?_) (c := fun w1 F1 F2 h1 h2 hd hst => lopen_ok' (b := (bs : Int)) h1 hc.k (hE.mv hst.still) (hK.mv hst.still) rfl)
  simp only [hc.op rfl, if_true]
  refine yxu ?_; refine ypu 9 rfl zmv ?_; refine ypu 10 rfl zex ?_; refine ypu 11 rfl zex ?_; refine ypu 12 rfl zas ?_; refine yzu ?_; refine zxa ?_; refine gnt (gc_seq (gsr (zxm ?_))); refine gp (r_bool (c := false) (r_nenil rfl (by kernel_rfl)) rfl) ?_; refine zxm ?_; refine gq zmv ?_; refine gq (r_bool (c := false) (r_eqpn rfl Ty.un_30) rfl) ?_; refine gp zpk ?_; refine gnt (gc_condF rfl rfl ?_); refine gc_skip (gx_then (gsr (zxm ?_))); refine zxm ?_; refine gp znc ?_; refine gp zfa ?_; refine zs1 ?_; refine gnt (gc_seq (gc_seq (gc_regionH ([blk p 70 [.pointer (some ⟨g, 0, none⟩), .int .i64 (bs : Int), .pointer (some ⟨q2, 0, none⟩), .slice ah rs.length ch, .slice am may.length cm, .int .i64 ((bs + tot rs : Nat) : Int)]]) ?_))); refine yp 0 rfl zmv ?_; refine yp 2 rfl zmv ?_; refine yp 3 rfl znc ?_; refine yp 4 rfl zfa ?_; refine yp 5 rfl zl ?_; refine yp 6 rfl zln ?_; refine yp 7 rfl (r_int (j := ((rs.length + 1 : Nat) : Int)) zad (by omega)) ?_; refine yo 1 rfl ?_; refine zc (fun _ => ?_) (c := fun w1 F1 F2 h1 h2 hd hst => lenL_ok h1)
  refine yx ?_; refine yp 8 rfl (r_bool (c := false) zei (decide_eq_false (by show ¬ ((rs.length : Nat) : Int) = ((rs.length + 1 : Nat) : Int); omega))) ?_; refine yp 9 rfl zmv ?_; refine yn 10 rfl ?_; refine yn 11 rfl ?_; refine yn 12 rfl ?_; refine yn 13 rfl ?_; refine yn 14 rfl ?_; refine yn 15 rfl ?_; refine yp 16 rfl zpk ?_; refine yd ?_; refine gx_then (gc_condF rfl rfl ?_); refine gc_skip (gx_then (gsr (zxm ?_))); refine gp znc ?_; refine gp zfa ?_; refine zs1 ?_; refine zxs ?_; refine gl_cz (M := [blk p 70 [.pointer (some ⟨g, 0, none⟩), .int .i64 (bs : Int), .pointer (some ⟨q2, 0, none⟩), .slice ah rs.length ch, .slice none 0 0, .int .i64 ((bs + tot rs : Nat) : Int)], rowR 47 58 ah rs.length ch (csh).flatten, ElR RdRec18 (csh) rs, LedR q2 g (lsOf bs rs), DiskR g (d.crash kb)]) (N := [BookR p g n bs mk]) (fun _ _ h => bk_make hc hlh h) ?_; refine zxm ?_; refine zc (fun _ => ?_) (c := fun w1 F1 F2 h1 h2 hd hst => bsame_ok h1 (hN.mv hst.still) (hK.mv hst.still))
  refine zxa ?_; refine gnt (gc_ret (gx_ret1 rfl (by conv => lhs; whnf) ?_)); exact ze ()
 ·have hcc := (bk_crash hbk kb).resolve_left hc
  obtain ⟨r, m, rfl, hcr⟩ := hcc; replace hc := hcr
  have hrk := hbk.ok r (List.mem_append.2 (.inr (List.mem_cons_self ..)))
  have he0 := made_zero hrk.2.2
  have hdt : datE r.b r.c = r.data := by rw [datE, if_pos he0]
  have hdl := data_len r
  have hns9 : nsec r.data.length ≤ 266 := by unfold nsec; omega
  have hlen2 : (rs ++ [r]).length = rs.length + 1 := by simp
  have ht2 : bs + tot (rs ++ [r]) = bs + tot rs + (1 + nsec r.data.length) := by rw [tot_snoc]; show _ + (tot rs + (1 + _)) = _; omega
  refine gc_region (zxm ?_); refine gp znc ?_; refine gp zfa ?_; refine gp zl ?_; refine zxm ?_; refine zc (fun _ => ?_) (c := fun w1 F1 F2 h1 h2 hd hst => crash_ok' (d := d) (kb := kb) h1 hbk.k (hb.mv hst.still))
  refine gnt (gc_seq (gc_regionU 13 ([blk p 70 [.pointer (some ⟨g, 0, none⟩), .int .i64 (bs : Int), .pointer (some ⟨q, 0, none⟩), .slice ah rs.length ch, .slice am (r :: m).length cm, .int .i64 ((bs + tot rs : Nat) : Int)]]) ?_)); refine ypu 0 rfl zmv ?_; refine ypu 1 rfl znc ?_; refine ypu 2 rfl zfa ?_; refine ypu 3 rfl zl ?_; refine ypu 4 rfl zmv ?_; refine ypu 5 rfl znc ?_; refine ypu 6 rfl zfa ?_; refine ypu 7 rfl zl ?_; refine you 8 rfl ?_; refine zc (fun q2 => ?_) (c := fun w1 F1 F2 h1 h2 hd hst => lopen_ok' (b := (bs : Int)) h1 hc.k (hE.mv hst.still) (hK.mv hst.still) rfl)
  simp only [hc.op rfl, if_true]
  refine yxu ?_; refine ypu 9 rfl zmv ?_; refine ypu 10 rfl zex ?_; refine ypu 11 rfl zex ?_; refine ypu 12 rfl zas ?_; refine yzu ?_; refine zxa ?_; refine gnt (gc_seq (gsr (zxm ?_))); refine gp (r_bool (c := false) (r_nenil rfl (by kernel_rfl)) rfl) ?_; refine zxm ?_; refine gq zmv ?_; refine gq (r_bool (c := false) (r_eqpn rfl Ty.un_30) rfl) ?_; refine gp zpk ?_; refine gnt (gc_condF rfl rfl ?_); refine gc_skip (gx_then (gsr (zxm ?_))); refine zxm ?_; refine gp znc ?_; refine gp zfa ?_; refine zs1 ?_; refine gnt (gc_seq (gc_seq (gc_regionH ([blk p 70 [.pointer (some ⟨g, 0, none⟩), .int .i64 (bs : Int), .pointer (some ⟨q2, 0, none⟩), .slice ah rs.length ch, .slice am (r :: m).length cm, .int .i64 ((bs + tot rs : Nat) : Int)]]) ?_))); refine yp 0 rfl zmv ?_; refine yp 2 rfl zmv ?_; refine yp 3 rfl znc ?_; refine yp 4 rfl zfa ?_; refine yp 5 rfl zl ?_; refine yp 6 rfl zln ?_; refine yp 7 rfl (r_int (j := ((rs.length + 1 : Nat) : Int)) zad (by omega)) ?_; refine yo 1 rfl ?_; refine zc (fun _ => ?_) (c := fun w1 F1 F2 h1 h2 hd hst => lenL_ok h1)
  refine yx ?_; refine yp 8 rfl (r_bool (c := true) zei (decide_eq_true (by show (((rs ++ [r]).length : Nat) : Int) = ((rs.length + 1 : Nat) : Int); rw [hlen2]))) ?_; refine yp 9 rfl zmv ?_; refine yp 10 rfl zmv ?_; refine yp 11 rfl znc ?_; refine yp 12 rfl zfa ?_; refine yp 13 rfl zl ?_; refine yp 14 rfl zln ?_; refine yp 15 rfl (r_bool (c := true) zgt (decide_eq_true (by show ((m.length + 1 : Nat) : Int) > 0; omega))) ?_; refine yp 16 rfl zpk ?_; refine yd ?_; refine gx_then (gc_condT rfl rfl ?_); refine gsr (gl_fact (fun w' hw => St.el (rd := RdRec18) (css := csm) (l := r :: m) hw (by repeat (first | exact Pick.here | apply Pick.there))) (fun hel => ?_))
  obtain ⟨hlen, hel⟩ := hel; obtain ⟨ce, cst, rfl⟩ : ∃ ce cst, csm = ce :: cst := by cases csm with | nil => simp at hlen | cons a b => exact ⟨a, b, rfl⟩
  obtain ⟨wv, A, hrd⟩ := hel 0 ce r rfl rfl; unfold RdRec18 at hrd
  obtain ⟨xb, xc, rfl, hb0, hc0⟩ := hrd; have hlb := hb0.len
  have hlc := hc0.len
  have hob := hb0.one
  have hoc := hc0.one
  have ib := Len.of hlb
  have jb := One.of hob
  have ic := Len.of hlc
  have jc := One.of hoc
  have hlx : (xb ++ xc).length = 58 := by rw [List.length_append]; omega
  refine gl_fact (fun w' hw => St.rowAt (hw.sel (M := [rowR 47 58 am (r :: m).length cm ((xb ++ xc) :: cst).flatten]) (by repeat (first | exact Sel.nil | (apply Sel.cons; · (repeat (first | exact Pick.here | apply Pick.there)))))) .here (by simp)) (fun hra => ?_)
  obtain ⟨_, gm, om, ha⟩ := hra; subst ha; refine zxm ?_; refine gp znc ?_; refine gp zfa ?_; refine gp zl ?_; refine gp (r_val (v' := .pointer (some ⟨gm, om + 0 * 58, none⟩)) (zia (m := m.length + 1)) (by simp)) ?_; refine gp (r_ldRow (i := 0) (css := (xb ++ xc) :: cst) (cs := xb ++ xc) rfl Ty.row_47 Ty.sz_47 (by repeat (first | exact Pick.here | apply Pick.there)) hlm rfl (by simp)) ?_; refine zc ?_ (c := fun w1 F1 F2 h1 h2 hd hst => data18_ok (b := r.b) (c := r.c) h1 (rec18_of (el_rd (i := 0) (css := (xb ++ xc) :: cst) (l := r :: m) h2 hd (by repeat (first | exact Pick.here | apply Pick.there)) rfl rfl) hlb).1 (rec18_of (el_rd (i := 0) (css := (xb ++ xc) :: cst) (l := r :: m) h2 hd (by repeat (first | exact Pick.here | apply Pick.there)) rfl rfl) hlb).2 hrk.blk hrk.2.1)
  rintro ⟨a61, c61⟩
  rw [he0, hdt]; refine zxm ?_; refine gp zex ?_; refine gp zex ?_; refine zxa ?_; refine zxa ?_; refine gnt (gc_seq (gc_regionU 13 ([blk p 70 [.pointer (some ⟨g, 0, none⟩), .int .i64 (bs : Int), .pointer (some ⟨q2, 0, none⟩), .slice ah rs.length ch, .slice (some ⟨gm, om, none⟩) (r :: m).length cm, .int .i64 ((bs + tot rs : Nat) : Int)], rowR 47 58 (some ⟨gm, om, none⟩) (r :: m).length cm ((xb ++ xc) :: cst).flatten]) ?_)); refine ypu 0 rfl zmv ?_; refine ypu 1 rfl zmv ?_; refine ypu 2 rfl znc ?_; refine ypu 3 rfl zfa ?_; refine ypu 4 rfl zl ?_; refine ypu 5 rfl zmv ?_; refine ypu 6 rfl znc ?_; refine ypu 7 rfl zfa ?_; refine ypu 8 rfl zl ?_; refine ypu 9 rfl (r_val (v' := .pointer (some ⟨gm, om + 0 * 58, none⟩)) (zia (m := m.length + 1)) (by simp)) ?_; refine ypu 10 rfl (r_ldRow (i := 0) (css := (xb ++ xc) :: cst) (cs := xb ++ xc) rfl Ty.row_47 Ty.sz_47 (by repeat (first | exact Pick.here | apply Pick.there)) hlm rfl (by simp)) ?_; refine you 11 rfl ?_; refine zeN fun b75 => ?_; refine yxu ?_; refine you 12 rfl ?_; refine zapo (m := rs.length) (a2 := some ⟨b75, 0, none⟩) (c2 := 1) (news := xb ++ xc) (fun a76 c76 => ?_) (h1 := all_app' hob hoc)
  refine yxu ?_; refine yzu ?_; refine gp znc ?_; refine gp zfa ?_; refine zs1 ?_; refine gnt (gc_regionU 7 ([blk p 70 [.pointer (some ⟨g, 0, none⟩), .int .i64 (bs : Int), .pointer (some ⟨q2, 0, none⟩), .slice a76 (rs.length + 1) c76, .slice (some ⟨gm, om, none⟩) (r :: m).length cm, .int .i64 ((bs + tot rs : Nat) : Int)]]) ?_); refine ypu 0 rfl zmv ?_; refine ypu 1 rfl znc ?_; refine ypu 2 rfl zfa ?_; refine ypu 3 rfl zl ?_; refine ypu 4 rfl zmv ?_; refine you 5 rfl ?_; refine zc ?_ (c := fun w1 F1 F2 h1 h2 hd hst => sectors18_ok (k := 0) (d := r.data) h1 (rd_row (xs := r.data.map B8) h2 hd (by repeat (first | exact Pick.here | apply Pick.there))) (by decide) hdl.2)
  rintro ⟨a84, c84⟩
  refine yxu ?_; refine ypu 6 rfl zln ?_; refine yzu ?_; refine gp (r_int (j := ((bs + tot rs + (1 + nsec r.data.length) : Nat) : Int)) zad (by omega)) ?_; refine gp znc ?_; refine gp zfa ?_; refine zs1 ?_; refine zxs ?_; refine zxm ?_; refine gp znc ?_; refine gp zfa ?_; refine zs1 ?_; refine zxs ?_; refine gl_cz (M := [ElR RdRec18 ((xb ++ xc) :: cst) (r :: m)]) (N := [VlR RdRec18 (xb ++ xc) r]) (fun _ _ h => el_head h) ?_; refine gl_conv (M := [ElR RdRec18 csh rs, VlR RdRec18 (xb ++ xc) r]) (by repeat (first | exact Sel.nil | (apply Sel.cons; · (repeat (first | exact Pick.here | apply Pick.there))))) (fun _ _ => el_snoc) ?_; rw [show csh.flatten ++ (xb ++ xc) = (csh ++ [xb ++ xc]).flatten by simp, ← hlen2, ← ht2]; refine gl_cz (M := [blk p 70 [.pointer (some ⟨g, 0, none⟩), .int .i64 (bs : Int), .pointer (some ⟨q2, 0, none⟩), .slice a76 (rs ++ [r]).length c76, .slice none 0 0, .int .i64 ((bs + tot (rs ++ [r]) : Nat) : Int)], rowR 47 58 a76 (rs ++ [r]).length c76 (csh ++ [xb ++ xc]).flatten, ElR RdRec18 (csh ++ [xb ++ xc]) (rs ++ [r]), LedR q2 g (lsOf bs (rs ++ [r])), DiskR g (d.crash kb)]) (N := [BookR p g n bs mk]) (fun _ _ h => bk_make hc (el_len58 hlh hlx) h) ?_; refine zxm ?_; refine zc (fun _ => ?_) (c := fun w1 F1 F2 h1 h2 hd hst => bsame_ok h1 (hN.mv hst.still) (hK.mv hst.still))
  refine zxa ?_; refine gnt (gc_ret (gx_ret1 rfl (by conv => lhs; whnf) ?_)); exact ze ()
end
section
theorem BkOk.arm {d : DS} {n bs mk : Nat} {rs may : List LRec} (h : BkOk d n bs mk rs may) {k : Int} (hk : -9223372036854775808 ≤ k ∧ k ≤ 9223372036854775807) : BkOk { d with armed := decide (0 ≤ k), left := k } n bs mk rs may :=
  ⟨⟨h.k.n, h.k.nd, h.k.ks, fun e _ => by simpa using e, hk⟩, h.dn, h.hn, h.lt, h.ml, h.st.imp (fun ⟨h1, h2, h3, h4⟩ => ⟨h1, h2, ⟨h3.ba, h3.lo, h3.e, h3.lt⟩, h4⟩) (fun ⟨h1, h2⟩ => ⟨h1, fun keep => (h2 keep).imp (fun h3 => ⟨h3.ba, h3.lo, h3.e, h3.lt⟩) (fun ⟨r, m, h3, h4⟩ => ⟨r, m, h3, ⟨h4.ba, h4.lo, h4.e, h4.lt⟩⟩)⟩), h.ok⟩
section
variable {w : World} {F : Nat → Prop} {p g n bs mk : Nat}
theorem boff_ok (h : stars [BookR p g n bs mk] w F) : Calls Tryz.prog 21 #[.pointer (some ⟨g, 0, none⟩)] w (Post w F (fun b : Bool => .bool b) (fun _ => [BookR p g n bs mk])) := by
  obtain ⟨q, d, rs, may, ah, ch, csh, am, cm, csm, hbk, hlh, hlm, h⟩ := bk_open2 h
  obtain ⟨F1, F2, h1, h2, hF, hdj⟩ := (Pick.there (Pick.there (Pick.there (Pick.there (Pick.there (Pick.there Pick.here)))))).stars h
  refine Calls.mono (calls_frame (off_ok (stars_one h1)) h2 hF hdj) ?_
  rintro o w' ⟨x, ho, hs⟩
  exact ⟨d.off, ho, St.bk (L := []) ⟨q, d, rs, may, ah, ch, csh, am, cm, csm⟩ ⟨hbk, hlh, hlm⟩ (hs.z)⟩
theorem barm_ok {k : Int} (h : stars [BookR p g n bs mk] w F) (hk : -9223372036854775808 ≤ k ∧ k ≤ 9223372036854775807) : Calls Tryz.prog 22 #[.pointer (some ⟨g, 0, none⟩), .int .i64 k] w (Post w F (fun _ : Unit => .tuple #[]) (fun _ => [BookR p g n bs mk])) := by
  obtain ⟨q, d, rs, may, ah, ch, csh, am, cm, csm, hbk, hlh, hlm, h⟩ := bk_open2 h
  obtain ⟨F1, F2, h1, h2, hF, hdj⟩ := (Pick.there (Pick.there (Pick.there (Pick.there (Pick.there (Pick.there Pick.here)))))).stars h
  refine Calls.mono (calls_frame (arm_ok (n := k) (stars_one h1)) h2 hF hdj) ?_
  rintro o w' ⟨x, ho, hs⟩
  exact ⟨(), ho, St.bk (L := []) ⟨q, { d with armed := decide (0 ≤ k), left := k }, rs, may, ah, ch, csh, am, cm, csm⟩ ⟨hbk.arm hk, hlh, hlm⟩ (hs.z)⟩
theorem book_up (h : stars [BookR p g n bs mk] w F) : stars [BookR p g n bs (mk + 1)] w F := by
  obtain ⟨v, hv, h⟩ := bk_open h
  exact stars_ex_mk v (stars_all_mk (stars_pure_mk hv.up h))
theorem bk_init {q : Nat} {d : DS} (hd : LdzOk d n bs []) (hn : n ≤ 120) (h : stars [blk p 70 [.pointer (some ⟨g, 0, none⟩), .int .i64 (bs : Int), .pointer (some ⟨q, 0, none⟩), .slice none 0 0, .slice none 0 0, .int .i64 (bs : Int)], LedR q g (lsOf bs []), DiskR g d] w F) : stars [BookR p g n bs 0] w F := by
  have h1 := stars_row_nil (e := 47) (size := 58) (el_nil (rd := RdRec18) h)
  have h2 := (Pick.there (Pick.there Pick.here)).stars h1
  have hlt := tot_lt hd.ld
  exact bk_make (rs := []) (ah := none) (ch := 0) (csh := []) ⟨hd.ld.c.ok, hd.ld.n, hn, hlt, Nat.le_refl _, .inl ⟨hd.ld.c.on, hd.ld.ws, hd.ld.i, rfl⟩, fun r hr => by cases hr⟩ (fun c hc => by cases hc) h2
end
theorem vl_mk18 {xb xc xc' : List Value} {b : Block} {c c' : QC} {w : World} {F : Nat → Prop} (hq : ∀ w A, RdQC w A xc c → RdQC w A xc' c') (h : stars [VlR RdBlock xb b, VlR RdQC xc c] w F) : stars [VlR RdRec18 (xb ++ xc') ⟨b, c'⟩] w F := by
  obtain ⟨F1, F2, h1, h2, hF⟩ := stars_two h
  exact rdR_mk ⟨xb, xc', rfl, RdK.mv h1.1 (still_sub fun k hk => (hF k).2 (.inl hk)), (hq _ _ h2.1).mv (still_sub fun k hk => (hF k).2 (.inr hk))⟩ h
theorem rnd_store {xb t : List Value} {e r v : Value} (h : xb.length = 39) : List.take 40 (xb ++ e :: r :: t) ++ (v :: List.drop (40 + 1) (xb ++ e :: r :: t)) = xb ++ e :: v :: t := by
  rw [List.take_append, List.drop_append, List.take_of_length_le (by omega), List.drop_eq_nil_of_le (by omega), h]; simp
theorem pay_store {xb xc : List Value} {v : Value} (h : xb.length = 39) : List.take 37 (xb ++ xc) ++ (v :: List.drop (37 + 1) (xb ++ xc)) = xb.set 37 v ++ xc := by
  rw [List.take_append_of_le_length (by omega), List.drop_append_of_le_length (by omega), List.set_eq_take_append_cons_drop, if_pos (by omega)]
  simp
theorem rd_rnd {w : World} {A : Nat → Prop} {c : QC} {a : Option Addr} {n k : Nat} {r : Int} (h : RdQC w A (.int .i64 c.epoch :: .int .i64 c.round :: (dc c.block ++ [.slice a n k])) c) : RdQC w A (.int .i64 c.epoch :: .int .i64 r :: (dc c.block ++ [.slice a n k])) { c with round := r } := by
  obtain ⟨a', n', k', he, h1, h2⟩ := h
  simp only [List.cons.injEq, true_and] at he
  have := List.append_cancel_left he
  simp only [List.cons.injEq, Value.slice.injEq, and_true] at this
  obtain ⟨rfl, rfl, rfl⟩ := this
  exact ⟨a, n, k, rfl, h1, h2⟩
def pay5 (b : Block) : Block := { b with payload := List.replicate 5 [] }
theorem vl_pay5 {xb xc : List Value} {b : Block} {c : QC} {b1 T : Nat} {w : World} {F : Nat → Prop} (h : stars [VlR RdBlock xb b, VlR RdQC xc c, blk b1 T (List.replicate 5 (.slice none 0 0))] w F) : stars [VlR RdRec18 (xb.set 37 (.slice (some ⟨b1, 0, none⟩) 5 5) ++ xc) ⟨pay5 b, c⟩] w F := by
  have h0 := h
  obtain ⟨F1, F', h1, h', hF, hd1⟩ := h
  obtain ⟨F2, F3, h2, h3, hF2⟩ := stars_two h'
  have hb := RdK.mv (rd := RdBlock) h1.1 (w' := w) (A' := F) (still_sub fun k hk => (hF k).2 (.inl hk))
  have hq : RdQC w F xc c := h2.1.mv (still_sub fun k hk => (hF k).2 (.inr ((hF2 k).2 (.inl hk))))
  have hr3 : RdRow w F3 1 (some ⟨b1, 0, none⟩) 5 (List.replicate 5 (.slice none 0 0)) := RdRow.of_blk h3 (n := 5) (size := 1) (o := 0) (by rw [List.drop_zero]; rfl) (by decide) (by decide)
  have hr := hr3.mv (w' := w) (A' := F) (fun k _ hk => ⟨rfl, (hF k).2 (.inr ((hF2 k).2 (.inr hk)))⟩)
  refine rdR_mk ⟨_, xc, rfl, ?_, hq⟩ h0
  obtain ⟨q, a1, n1, c1, a2, n2, c2, rfl, hx1, hx2, hx3, hx4, hx5⟩ := hb
  refine ⟨q, some ⟨b1, 0, none⟩, 5, 5, a2, n2, c2, ?_, hx1, Nat.le_refl _, ⟨List.replicate 5 [.slice none 0 0], hr, by simp, rfl, fun i cc x hc hx => ?_⟩, hx4, hx5⟩
  · have hl := hx1.len
    show (Value.int .i64 b.epoch :: Value.int .i64 b.round :: (dc b.parent ++ (q ++ [Value.slice a1 n1 c1, Value.slice a2 n2 c2]))).set 37 _ = _
    rw [List.set_cons_succ, List.set_cons_succ, List.set_append_right _ _ (by rw [dc_length]; decide), dc_length, List.set_append_right _ _ (by rw [hl]; decide), hl]
    rfl
  · have e1 := List.eq_of_mem_replicate (List.mem_of_getElem? hc)
    have e2 : x = [] := List.eq_of_mem_replicate (n := 5) (List.mem_of_getElem? hx)
    subst e1; subst e2
    exact ⟨none, 0, 0, rfl, Nat.le_refl _, RdRow.nil⟩
theorem pay5_err (b : Block) (h : b.next = []) : (blkW (pay5 b)).err ≠ 0 := by
  unfold blkW wBlock
  have e1 : ∀ s : WS, (wPut (fun t => wBytes t 16) (pay5 b).payload 4 s).err ≠ 0 := fun s => by
    have : wPut (fun t => wBytes t 16) (pay5 b).payload 4 s = wFail 1 s := if_pos (.inl (show 4 < (List.replicate 5 ([] : List UInt8)).length by decide))
    rw [this]; unfold wFail; split
    · exact (show (1 : Nat) ≠ 0 by decide)
    · assumption
  rw [wPut_bad (fun x s hs => wVdr_bad x s hs) _ _ _ (e1 _)]
  exact e1 _
theorem smO_rnd1 (o : Op18) : ¬ madeE (smO o).b { (smO o).c with round := ((rndU o.round + 1 : Nat) : Int) } = 0 := fun h => by
  have h1 : ((rndU o.round + 1 : Nat) : Int) = ((rndU o.round : Nat) : Int) := (made_ok h).rd
  omega
theorem smO_pay5 (o : Op18) : ¬ madeE (pay5 (smO o).b) (smO o).c = 0 := fun h => pay5_err (smO o).b rfl (made_ok h).eb
theorem smO_okQ1 (o : Op18) : OkQC { (smO o).c with round := ((rndU o.round + 1 : Nat) : Int) } := by
  have h := rnd_lt o.round
  obtain ⟨h1, _, h3⟩ := smO_okQ o
  exact ⟨h1, show I64 ((rndU o.round + 1 : Nat) : Int) by unfold I64; omega, h3⟩
theorem smO_crnd (o : Op18) : (smO o).c.round = ((rndU o.round : Nat) : Int) := rfl
theorem smO_R (o : Op18) : OkR (smO o) := ⟨⟨rndU o.round, o.tx, rnd_lt o.round, rfl⟩, smO_okQ o, smO_ok o⟩
attribute [local irreducible] Gl Gc Gx Gs Runs Wt
set_option maxRecDepth 20000
attribute [local irreducible] dc RdRec RdBlock RdQC blkC qcC allE madeE datE RdRec18 smB idOf tot d123 BookR LdzR smR smO rndU vts
set_option maxHeartbeats 8000000 in
theorem ledgerPlays_ok {w : World} {F : Nat → Prop} {a p1 : Int} {al : Option Addr} {n cl : Nat} {l : List Op18} {ea : Nat → Addr} (h : stars [] w F) (hN : NErr w (fun k => ¬ F k) ea) (hK : KR w (fun k => ¬ F k)) (hx : RdList (RdOp18 w (fun k => ¬ F k)) w (fun k => ¬ F k) 6 al n l) :
    Calls Tryz.prog 4 #[.int .i64 a, .int .i64 p1, .slice al n cl] w (Post w F (fun _ : Unit => .bool true) (fun _ => [])) := by
 have hE := hN.g
 have hnl := hx.len (by decide)
 obtain ⟨hse, hs0⟩ := u64_rem a (m := 120) (by decide); obtain ⟨s0, hs0v⟩ : ∃ s0, s0 = ((IntKind.u64.wrap a).tmod ((120 : Nat) : Int)).toNat := ⟨_, rfl⟩; rw [← hs0v] at hse hs0; obtain ⟨N, hNv⟩ : ∃ N, N = 1 + s0 := ⟨_, rfl⟩; refine g_enter (env := [(0, .int .i64 a), (1, .int .i64 p1), (2, .slice al n cl)]) Tryz.func4 rfl h Tryz.ntmps4 rfl rfl ?_; refine gsr (zxa ?_); refine gnt (gc_seq (gsr (zc (fun _ => ?_) (c := fun w1 F1 F2 h1 h2 hd hst => alive18_ok h1 (hE.mv hst.still) (hK.mv hst.still)))))
 refine gp znt ?_; refine gnt (gc_condF rfl rfl ?_); refine gc_skip (gx_then (gsr (zxm ?_))); refine gp zci ?_; refine gp (r_int (j := (s0 : Int)) zrm hse) ?_; refine gp (r_int (j := (s0 : Int)) zci (wrap_i64 (by omega) (by omega))) ?_; refine gp (r_int (j := (N : Int)) zad (by omega)) ?_; refine zxa ?_; refine gnt (gc_seq (gsr (zxm ?_))); refine gp zln ?_; refine gp zgt ?_; refine gnt (gif rfl (fun hc26 => ?_) (fun hc26 => ?_))
 ·refine gsr (zxa ?_); refine gnt (gc_ret (gx_then_ret (gx_ret1 rfl (by conv => lhs; whnf) ?_))); exact ze ()
 ·try simp only at hc26
  have hn40 : n ≤ 40 := by omega
  refine gc_skip (gx_then (gsr (zxm ?_))); refine zc (fun g => ?_) (c := fun w1 F1 F2 h1 h2 hd hst => new_ok (ea := ea) (n := N) h1 (by omega) (by omega))
  refine zxm ?_; refine gp zex ?_; refine gp zex ?_; refine zxa ?_; refine zxa ?_; refine gnt (gc_seq (gsr (zxm ?_))); refine gp (r_bool (c := false) (r_nenil rfl (by kernel_rfl)) rfl) ?_; refine gnt (gc_condF rfl rfl ?_); refine gc_skip (gx_then (gc_seq ?_)); by_cases hp1 : 0 ≤ p1 ∧ p1 < (N : Int)
  ·obtain ⟨bs, rfl⟩ : ∃ bs : Nat, p1 = (bs : Int) := ⟨p1.toNat, by omega⟩; have hbs : bs < N := by omega
   refine gc_region (zxm ?_); refine zxm ?_; refine zc (fun q => ?_) (c := fun w1 F1 F2 h1 h2 hd hst => fmtZ (n := N) (bs := bs) h1 (by omega) hbs (hE.mv hst.still))
   refine zxm ?_; refine gp zex ?_; refine gp zex ?_; refine zxa ?_; refine zxa ?_; refine gnt (gc_seq (gsr (zxm ?_))); refine gp (r_bool (c := false) zlt (by simp only [decide_eq_false_iff_not]; omega)) ?_; refine zxm ?_; refine gq zmv ?_; refine gq zmv ?_; refine gq (r_bool (c := false) zge (by simp only [decide_eq_false_iff_not]; omega)) ?_; refine gp zpk ?_; refine gnt (gc_condF rfl rfl ?_); refine gc_skip (gx_then (gc_seq (gsr (zxm ?_)))); refine gp (r_bool (c := false) (r_nenil rfl (by kernel_rfl)) rfl) ?_; refine zxm ?_; refine gq zmv ?_; refine gq (r_bool (c := false) (r_eqpn rfl Ty.un_30) rfl) ?_; refine gp zpk ?_; refine gnt (gc_condF rfl rfl ?_); refine gc_skip (gx_then (gsr (zxm ?_))); refine zxm ?_; refine zxm ?_; refine zxm ?_; refine gp (r_build (cs := [.pointer (some ⟨g, 0, none⟩), .int .i64 (bs : Int), .pointer (some ⟨q, 0, none⟩), .slice none 0 0, .slice none 0 0, .int .i64 (bs : Int)]) Ty.zc_70 Ty.pl_70 (by kernel_rfl)) ?_; refine zbN fun b76 => ?_; refine zxa ?_; refine gnt (gc_seq (gsr (gl_lz (by repeat (first | exact Pick.here | apply Pick.there)) (fun d hz => ?_))))
   refine gl_cz (M := [blk b76 70 [.pointer (some ⟨g, 0, none⟩), .int .i64 (bs : Int), .pointer (some ⟨q, 0, none⟩), .slice none 0 0, .slice none 0 0, .int .i64 (bs : Int)], LedR q g (lsOf bs []), DiskR g d]) (N := [BookR b76 g N bs 0]) (fun _ _ h => bk_init hz (by omega) h) ?_; refine zxm ?_; refine gp zln ?_; refine zxm ?_; refine gnt (gc_block (gc_loop (α := Nat) (fun k => [pureR (k ≤ n), BookR b76 g N bs k]) (fun k => [(79, .int .i64 (k : Int))]) [6, 14, 15, 16, 80, 81, 82, 83, 84, 85, 86, 87, 88, 89, 90, 91, 92, 93, 94, 95, 96, 97, 98, 99, 100, 101, 102, 103, 104, 105, 106, 107, 108, 109, 110, 111, 112, 113, 114, 115, 116, 117, 118, 119, 120, 121, 122, 123, 124, 125, 126, 127, 128, 129, 130, 131, 132, 133, 134, 135, 136, 137, 138] (fun k => n - k) 0 ?_ ?_ ?_))
   ·refine env_start (by kernel_rfl)
   ·exact zlp (Nat.zero_le _)
   ·intro k u; refine gc_pureR (fun hk => ?_)
    replace hk : k ≤ n := hk
    refine gsr (gp zlt ?_); refine gnt (gc_seq (gif rfl (fun hc80 => ?_) (fun hc80 => ?_)))
    ·try simp only at hc80
     have hk' : k < n := by omega
     obtain ⟨gx, ox, ce, op, ha, hA, _, hra, hl6, hop, hrd⟩ := hx.elem (i := k) (by decide) hk'; subst ha; obtain ⟨oa, on, oc, rfl, hi64, _, hkeep⟩ := hrd; refine gc_skip (gx_then (gc_seq (gc_block (gsr (gp (r_val (v' := .pointer (some ⟨gx, ox + k * 6, none⟩)) zia (by simp)) ?_))))); refine gp (r_ldNo rfl Ty.row_36 Ty.sz_36 hra hl6 (by decide) hA) ?_; refine zal fun b14 => ?_; refine zsN ?_; refine gnt (gc_seq (gsr (gp zfa ?_))); refine gp zl ?_; refine gp zln ?_; refine gp zgt ?_; refine gnt (gif rfl (fun hc86 => ?_) (fun hc86 => ?_))
     ·refine gsr (zxa ?_); refine gnt (gc_ret (gx_then_ret (gx_block_ret ?_))); refine gx_then_ret (gx_round_ret ?_); refine gx_block_ret ?_; refine gx_then_ret (gx_ret1 rfl (by conv => lhs; whnf) ?_); exact ze ()
     ·refine gc_skip (gx_then (gsr (zxa ?_))); refine gnt (gc_seq (gsr (gp zfa ?_))); refine gp zl ?_; refine gnt (gc_block (gsr (gp zei ?_))); refine zxa ?_; refine gnt (gif rfl (fun hc89 => ?_) (fun hc89 => ?_))
      ·refine gsr (gp zfa ?_); refine gp zl ?_; refine gp zfa ?_; refine gp zl ?_; refine gp zfa ?_; refine gp zl ?_; refine zc ?_ (c := fun w1 F1 F2 h1 h2 hd hst => small_ok (i := op.round) (v := op.votes) (tx := op.tx) h1 (hE.mv hst.still) (hK.mv hst.still))
       rintro ⟨xb, xc⟩
       refine gl_pureR (fun hxx => ?_)
       obtain ⟨⟨hlb, hob⟩, hlc, hoc⟩ := hxx; replace hlb : xb.length = 39 := hlb
       replace hlc : xc.length = 19 := hlc
       have ib := Len.of hlb
       have jb := One.of (show ∀ v ∈ xb, v.oneCell' = true from hob)
       have ic := Len.of hlc
       have jc := One.of (show ∀ v ∈ xc, v.oneCell' = true from hoc)
       rw [smO_eq]; refine zal fun b16 => ?_; refine zsN ?_; refine gnt (gc_seq (gsr (gp zfa ?_))); refine gp zl ?_; refine gnt (gc_block (gsr (gp zei ?_))); refine zxa ?_; refine gnt (gif rfl (fun hc100 => ?_) (fun hc100 => ?_))
       ·refine gc_region (gl_fact (fun w' hw => St.vlOf (rd := RdQC) (cs := xc) (x := (smO op).c) hw (by repeat (first | exact Pick.here | apply Pick.there))) (fun hvl => ?_))
        obtain ⟨wv, A, hvl⟩ := hvl; unfold RdQC at hvl
        obtain ⟨av, nv, kv, rfl, _⟩ := hvl; have hrl := rnd_lt op.round
        have hrr := smO_crnd op
        refine gp zfa ?_; refine gp zfa ?_; refine gp (zl (v := .int .i64 (smO op).c.round) (hv := rc_40 hlb)) ?_; refine gp (r_int (j := ((rndU op.round + 1 : Nat) : Int)) zad (by omega)) ?_; refine gp zfa ?_; refine gp zfa ?_; refine zs1 ?_; refine gl_eqc (g := b16) (cs' := xb ++ (.int .i64 (smO op).c.epoch :: .int .i64 ((rndU op.round + 1 : Nat) : Int) :: (dc (smO op).c.block ++ [.slice av nv kv]))) (by repeat (first | exact Pick.here | apply Pick.there)) (by first | rfl | exact rnd_store hlb) ?_; refine gl_cz (M := [VlR RdBlock xb (smO op).b, VlR RdQC (.int .i64 (smO op).c.epoch :: .int .i64 (smO op).c.round :: (dc (smO op).c.block ++ [.slice av nv kv])) (smO op).c]) (N := [VlR RdRec18 (xb ++ (.int .i64 (smO op).c.epoch :: .int .i64 ((rndU op.round + 1 : Nat) : Int) :: (dc (smO op).c.block ++ [.slice av nv kv]))) ⟨(smO op).b, { (smO op).c with round := ((rndU op.round + 1 : Nat) : Int) }⟩]) (fun _ _ h => vl_mk18 (fun _ _ h => rd_rnd h) h) ?_; refine gl_nil (gx_block_normal (gx_then (gc_region (zxm ?_)))); refine gp (zLa (cs := xb ++ (.int .i64 (smO op).c.epoch :: .int .i64 ((rndU op.round + 1 : Nat) : Int) :: (dc (smO op).c.block ++ [.slice av nv kv])))) ?_; refine zc (fun _ => ?_) (c := fun w1 F1 F2 h1 h2 hd hst => bappend_ok (r := ⟨(smO op).b, { (smO op).c with round := ((rndU op.round + 1 : Nat) : Int) }⟩) h1 (hN.mv hst.still) (hK.mv hst.still) (fun h => absurd h (smO_rnd1 op)) (smO_okB op) (smO_okQ1 op) (by omega))
        refine zxa ?_; refine gl_nil (gx_block_normal (gx_then (gsr (zxm ?_)))); refine gp (r_bool (c := false) znt rfl) ?_; refine zxm ?_; refine gq zmv ?_; refine zc (fun _ => ?_) (c := fun w1 F1 F2 h1 h2 hd hst => bsame_ok h1 (hN.mv hst.still) (hK.mv hst.still))
        refine gq (r_bool (c := false) znt rfl) ?_; refine gp zpk ?_; refine gnt (gc_condF rfl rfl ?_); refine gc_skip (gx_block_normal (gx_then (gc_region (gp zad ?_)))); refine zxm ?_; refine gl_nil (zrd (k + 1) ?_ ?_)
        ·show n - (k + 1) < n - k
         omega
        ·first | exact zlp (show k + 1 ≤ n by omega) | exact fun w' hw => St.pureI (show k + 1 ≤ n by omega) ((hw.conv (M := [BookR b76 g N bs k]) (by repeat (first | exact Sel.nil | (apply Sel.cons; · (repeat (first | exact Pick.here | apply Pick.there))))) (fun _ _ h => book_up h)).z)
       ·refine gsr (gp zei ?_); refine zxa ?_; refine gnt (gif rfl (fun hc108 => ?_) (fun hc108 => ?_))
        ·refine gc_region (gl_mk1 (z := .slice none 0 0) (m := 5) (wt0 rfl) ELT.h (by kernel_rfl) rfl rfl rfl (by omega) (by omega) (fun b110 => ?_))
         refine gp zfa ?_; refine gp zfa ?_; refine zs1 ?_ (hl := by rw [List.length_append]; omega)
         refine gl_eqc (g := b16) (cs' := xb.set 37 (.slice (some ⟨b110, 0, none⟩) 5 5) ++ xc) (by repeat (first | exact Pick.here | apply Pick.there)) (by first | rfl | exact pay_store hlb) ?_; refine gl_cz (M := [VlR RdBlock xb (smO op).b, VlR RdQC xc (smO op).c, blk b110 49 (List.replicate 5 (.slice none 0 0))]) (N := [VlR RdRec18 (xb.set 37 (.slice (some ⟨b110, 0, none⟩) 5 5) ++ xc) ⟨pay5 (smO op).b, (smO op).c⟩]) (fun _ _ h => vl_pay5 h) ?_; refine gl_nil (gx_block_normal (gx_then (gc_region (zxm ?_)))); refine gp (zLa (cs := xb.set 37 (.slice (some ⟨b110, 0, none⟩) 5 5) ++ xc) (hl := by rw [List.length_append, List.length_set]; omega)) ?_; refine zc (fun _ => ?_) (c := fun w1 F1 F2 h1 h2 hd hst => bappend_ok (r := ⟨pay5 (smO op).b, (smO op).c⟩) h1 (hN.mv hst.still) (hK.mv hst.still) (fun h => absurd h (smO_pay5 op)) (smO_okB op) (smO_okQ op) (by omega))
         refine zxa ?_; refine gl_nil (gx_block_normal (gx_then (gsr (zxm ?_)))); refine gp (r_bool (c := false) znt rfl) ?_; refine zxm ?_; refine gq zmv ?_; refine zc (fun _ => ?_) (c := fun w1 F1 F2 h1 h2 hd hst => bsame_ok h1 (hN.mv hst.still) (hK.mv hst.still))
         refine gq (r_bool (c := false) znt rfl) ?_; refine gp zpk ?_; refine gnt (gc_condF rfl rfl ?_); refine gc_skip (gx_block_normal (gx_then (gc_region (gp zad ?_)))); refine zxm ?_; refine gl_nil (zrd (k + 1) ?_ ?_)
         ·show n - (k + 1) < n - k
          omega
         ·first | exact zlp (show k + 1 ≤ n by omega) | exact fun w' hw => St.pureI (show k + 1 ≤ n by omega) ((hw.conv (M := [BookR b76 g N bs k]) (by repeat (first | exact Sel.nil | (apply Sel.cons; · (repeat (first | exact Pick.here | apply Pick.there))))) (fun _ _ h => book_up h)).z)
        ·refine gc_skip (gx_block_normal (gx_then (gc_region (zxm ?_)))); refine gp (zLa (cs := xb ++ xc)) ?_; refine gl_cz (M := [VlR RdBlock xb (smO op).b, VlR RdQC xc (smO op).c]) (N := [VlR RdRec18 (xb ++ xc) (smO op)]) (fun _ _ h => vl_mk18 (fun _ _ h => h) h) ?_; refine zc (fun _ => ?_) (c := fun w1 F1 F2 h1 h2 hd hst => bappend_ok (r := smO op) h1 (hN.mv hst.still) (hK.mv hst.still) (fun _ => smO_R op) (smO_okB op) (smO_okQ op) (by omega))
         refine zxa ?_; refine gl_nil (gx_block_normal (gx_then (gsr (zxm ?_)))); refine gp (r_bool (c := false) znt rfl) ?_; refine zxm ?_; refine gq zmv ?_; refine zc (fun _ => ?_) (c := fun w1 F1 F2 h1 h2 hd hst => bsame_ok h1 (hN.mv hst.still) (hK.mv hst.still))
         refine gq (r_bool (c := false) znt rfl) ?_; refine gp zpk ?_; refine gnt (gc_condF rfl rfl ?_); refine gc_skip (gx_block_normal (gx_then (gc_region (gp zad ?_)))); refine zxm ?_; refine gl_nil (zrd (k + 1) ?_ ?_)
         ·show n - (k + 1) < n - k
          omega
         ·first | exact zlp (show k + 1 ≤ n by omega) | exact fun w' hw => St.pureI (show k + 1 ≤ n by omega) ((hw.conv (M := [BookR b76 g N bs k]) (by repeat (first | exact Sel.nil | (apply Sel.cons; · (repeat (first | exact Pick.here | apply Pick.there))))) (fun _ _ h => book_up h)).z)
      ·refine gsr (gp zei ?_); refine zxa ?_; refine gnt (gif rfl (fun hc116 => ?_) (fun hc116 => ?_))
       ·refine gsr (zxm ?_); refine zc (fun bo => ?_) (c := fun w1 F1 F2 h1 h2 hd hst => boff_ok h1)
        refine gp znt ?_; refine gnt (gif rfl (fun hc120 => ?_) (fun hc120 => ?_))
        ·refine gc_region (zxm ?_); refine gp zfa ?_; refine gp zl ?_; refine zc (fun _ => ?_) (c := fun w1 F1 F2 h1 h2 hd hst => barm_ok (k := op.round) h1 hi64.2.1)
         refine gl_nil (gx_block_normal (gx_then (gsr (zxm ?_)))); refine gp (r_bool (c := false) znt rfl) ?_; refine zxm ?_; refine gq zmv ?_; refine zc (fun _ => ?_) (c := fun w1 F1 F2 h1 h2 hd hst => bsame_ok h1 (hN.mv hst.still) (hK.mv hst.still))
         refine gq (r_bool (c := false) znt rfl) ?_; refine gp zpk ?_; refine gnt (gc_condF rfl rfl ?_); refine gc_skip (gx_block_normal (gx_then (gc_region (gp zad ?_)))); refine zxm ?_; refine gl_nil (zrd (k + 1) ?_ ?_)
         ·show n - (k + 1) < n - k
          omega
         ·first | exact zlp (show k + 1 ≤ n by omega) | exact fun w' hw => St.pureI (show k + 1 ≤ n by omega) ((hw.conv (M := [BookR b76 g N bs k]) (by repeat (first | exact Sel.nil | (apply Sel.cons; · (repeat (first | exact Pick.here | apply Pick.there))))) (fun _ _ h => book_up h)).z)
        ·refine gc_skip (gx_block_normal (gx_then (gsr (zxm ?_)))); refine gp (r_bool (c := false) znt rfl) ?_; refine zxm ?_; refine gq zmv ?_; refine zc (fun _ => ?_) (c := fun w1 F1 F2 h1 h2 hd hst => bsame_ok h1 (hN.mv hst.still) (hK.mv hst.still))
         refine gq (r_bool (c := false) znt rfl) ?_; refine gp zpk ?_; refine gnt (gc_condF rfl rfl ?_); refine gc_skip (gx_block_normal (gx_then (gc_region (gp zad ?_)))); refine zxm ?_; refine gl_nil (zrd (k + 1) ?_ ?_)
         ·show n - (k + 1) < n - k
          omega
         ·first | exact zlp (show k + 1 ≤ n by omega) | exact fun w' hw => St.pureI (show k + 1 ≤ n by omega) ((hw.conv (M := [BookR b76 g N bs k]) (by repeat (first | exact Sel.nil | (apply Sel.cons; · (repeat (first | exact Pick.here | apply Pick.there))))) (fun _ _ h => book_up h)).z)
       ·refine gsr (gp zei ?_); refine zxa ?_; refine gnt (gif rfl (fun hc125 => ?_) (fun hc125 => ?_))
        ·refine gc_region (zxm ?_); refine gp zfa ?_; refine gp zl ?_; refine zc (fun _ => ?_) (c := fun w1 F1 F2 h1 h2 hd hst => bopen_ok (kb := op.keep) h1 (hN.mv hst.still) (hK.mv hst.still) (hkeep.mv hst.still))
         refine zxa ?_; refine gl_nil (gx_block_normal (gx_then (gsr (zxm ?_)))); refine gp (r_bool (c := false) znt rfl) ?_; refine zxm ?_; refine gq zmv ?_; refine zc (fun _ => ?_) (c := fun w1 F1 F2 h1 h2 hd hst => bsame_ok h1 (hN.mv hst.still) (hK.mv hst.still))
         refine gq (r_bool (c := false) znt rfl) ?_; refine gp zpk ?_; refine gnt (gc_condF rfl rfl ?_); refine gc_skip (gx_block_normal (gx_then (gc_region (gp zad ?_)))); refine zxm ?_; refine gl_nil (zrd (k + 1) ?_ ?_)
         ·show n - (k + 1) < n - k
          omega
         ·first | exact zlp (show k + 1 ≤ n by omega) | exact fun w' hw => St.pureI (show k + 1 ≤ n by omega) ((hw.conv (M := [BookR b76 g N bs k]) (by repeat (first | exact Sel.nil | (apply Sel.cons; · (repeat (first | exact Pick.here | apply Pick.there))))) (fun _ _ h => book_up h)).z)
        ·refine gc_skip (gx_block_normal (gx_then (gsr (zxm ?_)))); refine gp (r_bool (c := false) znt rfl) ?_; refine zxm ?_; refine gq zmv ?_; refine zc (fun _ => ?_) (c := fun w1 F1 F2 h1 h2 hd hst => bsame_ok h1 (hN.mv hst.still) (hK.mv hst.still))
         refine gq (r_bool (c := false) znt rfl) ?_; refine gp zpk ?_; refine gnt (gc_condF rfl rfl ?_); refine gc_skip (gx_block_normal (gx_then (gc_region (gp zad ?_)))); refine zxm ?_; refine gl_nil (zrd (k + 1) ?_ ?_)
         ·show n - (k + 1) < n - k
          omega
         ·first | exact zlp (show k + 1 ≤ n by omega) | exact fun w' hw => St.pureI (show k + 1 ≤ n by omega) ((hw.conv (M := [BookR b76 g N bs k]) (by repeat (first | exact Sel.nil | (apply Sel.cons; · (repeat (first | exact Pick.here | apply Pick.there))))) (fun _ _ h => book_up h)).z)
    ·refine gc_exit ?_; refine gx_then_exit ?_; refine gx_round_exit ?_; refine gx_block_hit ?_; refine gx_then (gsr (zxa ?_)); refine gnt (gc_ret (gx_ret1 rfl (by conv => lhs; whnf) ?_)); exact ze ()
  ·have hno : ¬ ((⟨N, fun _ => sec0, [], false, false, 0⟩ : DS)).has p1 = true := fun h => hp1 (has_iff.1 h)
   refine gc_region (zxm ?_); refine zxm ?_; refine zc (fun q => ?_) (c := fun w1 F1 F2 h1 h2 hd hst => formatL_ok (b := p1) h1 (disk0_calm (by omega)).ok (hE.mv hst.still))
   simp only [show fmtL (⟨N, fun _ => sec0, [], false, false, 0⟩ : DS) p1 = (1, (⟨N, fun _ => sec0, [], false, false, 0⟩ : DS)) from if_neg hno, if_neg (show ¬ (1 : Nat) = 0 by decide)]
   refine zxm ?_; refine gp zex ?_; refine gp zex ?_; refine zxa ?_; refine zxa ?_; refine gnt (gc_seq (gc_seq ?_)); by_cases hp2 : p1 < 0
   ·refine gc_region (zxm ?_); refine gp (r_bool (c := true) zlt (decide_eq_true hp2)) ?_; refine zxm ?_; refine gn ?_; refine gn ?_; refine gn ?_; refine gp zpk ?_; refine gnt (gc_condT rfl rfl ?_); refine gsr (zxm ?_); refine zxm ?_; refine zc (fun p => ?_) (c := fun w1 F1 F2 h1 h2 hd hst => lopen_ok' (b := p1) h1 (disk0_calm (by omega)).ok (hE.mv hst.still) (hK.mv hst.still) rfl)
    simp only [show openE (⟨N, fun _ => sec0, [], false, false, 0⟩ : DS) p1 = (1, ⟨p1, [], 0⟩) from if_neg hno, if_neg (show ¬ (1 : Nat) = 0 by decide)]
    refine zxm ?_; refine gp zex ?_; refine gp zex ?_; refine zxa ?_; refine zxa ?_; refine zxs ?_; refine zxm ?_; refine gp (r_bool (c := true) (r_eqpn rfl Ty.un_30) rfl) ?_; refine zxm ?_; refine gq zmv ?_; refine zc (fun _ => ?_) (c := fun w1 F1 F2 h1 h2 hd hst => errNum_ok (n := 1) h1 (hN.mv hst.still) (by decide))
    refine gq (r_bool (c := true) zei (by simp)) ?_; refine gp zpk ?_; refine zxm ?_; refine gq zmv ?_; refine zc (fun _ => ?_) (c := fun w1 F1 F2 h1 h2 hd hst => errNum_ok (n := 1) h1 (hN.mv hst.still) (by decide))
    refine gq (r_bool (c := true) zei (by simp)) ?_; refine gp zpk ?_; refine zxa ?_; refine gnt (gc_ret (gx_then_ret (gx_ret1 rfl (by conv => lhs; whnf) ?_))); exact ze ()
   ·refine gc_region (zxm ?_); refine gp (r_bool (c := false) zlt (decide_eq_false hp2)) ?_; refine zxm ?_; refine gq zmv ?_; refine gq zmv ?_; refine gq (r_bool (c := true) zge (decide_eq_true (by omega))) ?_; refine gp zpk ?_; refine gnt (gc_condT rfl rfl ?_); refine gsr (zxm ?_); refine zxm ?_; refine zc (fun p => ?_) (c := fun w1 F1 F2 h1 h2 hd hst => lopen_ok' (b := p1) h1 (disk0_calm (by omega)).ok (hE.mv hst.still) (hK.mv hst.still) rfl)
    simp only [show openE (⟨N, fun _ => sec0, [], false, false, 0⟩ : DS) p1 = (1, ⟨p1, [], 0⟩) from if_neg hno, if_neg (show ¬ (1 : Nat) = 0 by decide)]
    refine zxm ?_; refine gp zex ?_; refine gp zex ?_; refine zxa ?_; refine zxa ?_; refine zxs ?_; refine zxm ?_; refine gp (r_bool (c := true) (r_eqpn rfl Ty.un_30) rfl) ?_; refine zxm ?_; refine gq zmv ?_; refine zc (fun _ => ?_) (c := fun w1 F1 F2 h1 h2 hd hst => errNum_ok (n := 1) h1 (hN.mv hst.still) (by decide))
    refine gq (r_bool (c := true) zei (by simp)) ?_; refine gp zpk ?_; refine zxm ?_; refine gq zmv ?_; refine zc (fun _ => ?_) (c := fun w1 F1 F2 h1 h2 hd hst => errNum_ok (n := 1) h1 (hN.mv hst.still) (by decide))
    refine gq (r_bool (c := true) zei (by simp)) ?_; refine gp zpk ?_; refine zxa ?_; refine gnt (gc_ret (gx_then_ret (gx_ret1 rfl (by conv => lhs; whnf) ?_))); exact ze ()
end
section
open Go.ChangeShapes Go.WideShapes Go.ChangeAt Go.RowKit
noncomputable def ledgerPlays_world (os : Os) : World :=
  let w0 := World.holding Tryz.prog os ⟨#[.cells #[.string ⟨#[113, 117, 111, 114, 97, 116, 101, 58, 32, 114, 97, 110, 103, 101]⟩] 286, .cells #[.string ⟨#[113, 117, 111, 114, 97, 116, 101, 58, 32, 115, 104, 111, 114, 116]⟩] 286, .cells #[.string ⟨#[113, 117, 111, 114, 97, 116, 101, 58, 32, 108, 111, 110, 103]⟩] 286, .cells #[.string ⟨#[113, 117, 111, 114, 97, 116, 101, 58, 32, 102, 111, 114, 109]⟩] 286, .cells #[.string ⟨#[113, 117, 111, 114, 97, 116, 101, 58, 32, 115, 112, 101, 110, 116]⟩] 286, .cells #[.string ⟨#[113, 117, 111, 114, 97, 116, 101, 58, 32, 112, 111, 119, 101, 114]⟩] 286, .cells #[.string ⟨#[113, 117, 111, 114, 97, 116, 101, 58, 32, 100, 105, 115, 107]⟩] 286, .cells #[.string ⟨#[113, 117, 111, 114, 97, 116, 101, 58, 32, 102, 117, 108, 108]⟩] 286, .cells #[.string ⟨#[113, 117, 111, 114, 97, 116, 101, 58, 32, 110, 111, 110, 101]⟩] 286, .cells #[.string ⟨#[113, 117, 111, 114, 97, 116, 101, 58, 32, 111, 108, 100]⟩] 286, .cells #[.string ⟨#[113, 117, 111, 114, 97, 116, 101, 58, 32, 115, 101, 116]⟩] 286, .cells #[.string ⟨#[113, 117, 111, 114, 97, 116, 101, 58, 32, 112, 114, 111, 111, 102]⟩] 286, .cells #[.string ⟨#[113, 117, 111, 114, 97, 116, 101, 58, 32, 108, 101, 97, 100, 101, 114]⟩] 286, .cells #[.string ⟨#[113, 117, 111, 114, 97, 116, 101, 58, 32, 114, 111, 117, 110, 100]⟩] 286, .cells #[.string ⟨#[113, 117, 111, 114, 97, 116, 101, 58, 32, 117, 110, 115, 97, 102, 101]⟩] 286, .cells #[.string ⟨#[113, 117, 111, 114, 97, 116, 101, 58, 32, 112, 97, 114, 101, 110, 116]⟩] 286, .cells #[.string ⟨#[113, 117, 111, 114, 97, 116, 101, 58, 32, 116, 119, 105, 99, 101]⟩] 286, .cells #[.string ⟨#[113, 117, 111, 114, 97, 116, 101, 58, 32, 101, 112, 111, 99, 104]⟩] 286], #[], []⟩
  { w0 with heap := ((((((((((((((((((w0.heap.modify 0 fun
      | .cells _ t fz => .cells #[.iface 261 (.pointer (some ⟨lowB + 0, 0, none⟩))] t fz
      | o => o).modify 4 fun
      | .cells _ t fz => .cells #[.iface 261 (.pointer (some ⟨lowB + 1, 0, none⟩))] t fz
      | o => o).modify 5 fun
      | .cells _ t fz => .cells #[.iface 261 (.pointer (some ⟨lowB + 2, 0, none⟩))] t fz
      | o => o).modify 1 fun
      | .cells _ t fz => .cells #[.iface 261 (.pointer (some ⟨lowB + 3, 0, none⟩))] t fz
      | o => o).modify 6 fun
      | .cells _ t fz => .cells #[.iface 261 (.pointer (some ⟨lowB + 4, 0, none⟩))] t fz
      | o => o).modify 3 fun
      | .cells _ t fz => .cells #[.iface 261 (.pointer (some ⟨lowB + 5, 0, none⟩))] t fz
      | o => o).modify 7 fun
      | .cells _ t fz => .cells #[.iface 261 (.pointer (some ⟨lowB + 6, 0, none⟩))] t fz
      | o => o).modify 2 fun
      | .cells _ t fz => .cells #[.iface 261 (.pointer (some ⟨lowB + 7, 0, none⟩))] t fz
      | o => o).modify 8 fun
      | .cells _ t fz => .cells #[.iface 261 (.pointer (some ⟨lowB + 8, 0, none⟩))] t fz
      | o => o).modify 9 fun
      | .cells _ t fz => .cells #[.iface 261 (.pointer (some ⟨lowB + 9, 0, none⟩))] t fz
      | o => o).modify 10 fun
      | .cells _ t fz => .cells #[.iface 261 (.pointer (some ⟨lowB + 10, 0, none⟩))] t fz
      | o => o).modify 11 fun
      | .cells _ t fz => .cells #[.iface 261 (.pointer (some ⟨lowB + 11, 0, none⟩))] t fz
      | o => o).modify 12 fun
      | .cells _ t fz => .cells #[.iface 261 (.pointer (some ⟨lowB + 12, 0, none⟩))] t fz
      | o => o).modify 13 fun
      | .cells _ t fz => .cells #[.iface 261 (.pointer (some ⟨lowB + 13, 0, none⟩))] t fz
      | o => o).modify 14 fun
      | .cells _ t fz => .cells #[.iface 261 (.pointer (some ⟨lowB + 14, 0, none⟩))] t fz
      | o => o).modify 15 fun
      | .cells _ t fz => .cells #[.iface 261 (.pointer (some ⟨lowB + 15, 0, none⟩))] t fz
      | o => o).modify 16 fun
      | .cells _ t fz => .cells #[.iface 261 (.pointer (some ⟨lowB + 16, 0, none⟩))] t fz
      | o => o).modify 17 fun
      | .cells _ t fz => .cells #[.iface 261 (.pointer (some ⟨lowB + 17, 0, none⟩))] t fz
      | o => o).modify 18 fun
      | .cells _ t fz => .cells (kc.map W32).toArray t fz
      | o => o }
def ledgerPlays_args : Array Value := #[.int .i64 0, .int .i64 0, .slice none 0 0]
theorem ledgerPlays_laid (os : Os) (args : Array Value) : laidMet Tryz.prog Rows.ledgerPlaysRow.laid ((ledgerPlays_world os).forCall (fun _ _ => 0) ⟨#[], args, []⟩).memory :=
  laidMet_of_run' 8 (by kernel_rfl) (by kernel_rfl)
theorem ledgerPlays_reads (os : Os) {H : Type} (enc : TypeId × Value → H) : ∃ places, DataW.whole enc Tryz.prog ((ledgerPlays_world os).forCall (fun _ _ => 0) ⟨#[], ledgerPlays_args, []⟩).memory Tryz.f4.params.toList Rows.ledgerPlaysSpec.vars false ledgerPlays_args.toList 8 = some ([.lit (.int .i64 0), .lit (.int .i64 0), .nil], [], places) :=
  ⟨[], by kernel_rfl⟩
set_option maxRecDepth 20000 in
theorem ledgerPlays_contract (H : Type) (enc : TypeId × Value → H) (W : World) (base : Nat) (args : Array Value) (ds gs : List (DataW H)) (before : List MemPlace)
    (hval : ∀ (j : Nat) t v, Tryz.f4.params[j]? = some t → args[j]? = some v → Value.okWide Tryz.prog W .any base t v)
    (hW : DataW.Whole enc Tryz.prog Tryz.f4.params.toList Rows.ledgerPlaysSpec.vars false W args.toList ds gs before) (hL : laidMetH Tryz.prog Rows.ledgerPlaysRow.laid W) :
    Calls Tryz.prog 4 args W fun e W' => ∃ v, e = .returned v ∧ Rows.ledgerPlaysSpec.post enc Tryz.prog Tryz.f4 false true false false W args v W' := by
  have hW' := hW
  have hlt : ∀ p ∈ before, p.block < W.heap.size := fun p hp => hW.lt p hp
  obtain ⟨p, q, hA0, hV, rfl, hfz, hnd⟩ := hW
  have hA : DataW.TrodAll enc Tryz.prog W 0 (fun _ => true) true Tryz.f4.params.toList args.toList ds p := hA0
  rw [Tryz.params4] at hA hval
  obtain ⟨v0, vs0, d0, ds0, p0, q0, hargs, rfl, rfl, h0, r0⟩ := trodAll_cons hA
  obtain ⟨v1, vs1, d1, ds1, p1, q1, rfl, rfl, rfl, h1, r1⟩ := trodAll_cons r0
  obtain ⟨v2, vs2, d2, ds2, p2, q2, rfl, rfl, rfl, h2, r2⟩ := trodAll_cons r1
  obtain ⟨rfl, rfl, rfl⟩ := trodAll_nil r2
  obtain rfl : args = #[v0, v1, v2] := by cases args; simp_all
  obtain ⟨rfl, rfl⟩ := trodVars_none hV
  obtain ⟨n0, rfl, _, _, wf0⟩ := open_int Ty.un_3 (hval 0 3 v0 rfl rfl) h0
  obtain ⟨n1, rfl, _, _, wf1⟩ := open_int Ty.un_3 (hval 1 3 v1 rfl rfl) h1
  obtain ⟨a2, m2, c2, rfl⟩ := okWide_slice (run_sliceT Ty.sl_22) (hval 2 22 v2 rfl rfl)
  obtain ⟨x2, hx2⟩ : ∃ x, RdOps18 W TT [.slice a2 m2 c2] x := by obtain ⟨fuel, hf⟩ := h2; exact o_ops18 fuel _ _ hf
  have hL' : laidMet Tryz.prog Rows.ledgerPlaysRow.laid W := hL
  obtain ⟨ea, hN⟩ := laid_nerr (r := [("quorate/hash.constants", Rows.laid_quorate_hash_constants)]) (show laidMet Tryz.prog (errNames.map errRow ++ [("quorate/hash.constants", Rows.laid_quorate_hash_constants)]) W from hL')
  have hK := laid_kr hL'.tail.tail.tail.tail.tail.tail.tail.tail.tail.tail.tail.tail.tail.tail.tail.tail.tail.tail
  have walk := ledgerPlays_ok (a := n0) (p1 := n1) (l := x2) (al := a2) (n := m2) (cl := c2) no_res hN hK (RdList.mv (ops18_list hx2) still_id fun _ _ h => h.mv still_id)
  refine Calls.mono (show Calls Tryz.prog 4 #[.int .i64 n0, .int .i64 n1, .slice a2 m2 c2] W _ from walk) fun e W' ⟨_, he, hs⟩ => ?_
  subst he
  have bel := below_of hs
  have eF : Rows.ledgerPlaysSpec.fn H ([d0, d1, d2] ++ []) = { results := [.lit (.bool true)], args := [d0, d1, d2] } := rfl
  have l0 : ∀ z ∈ p0, z.block < W.heap.size := fun z hz => hlt z (by simp [hz])
  have l1 : ∀ z ∈ p1, z.block < W.heap.size := fun z hz => hlt z (by simp [hz])
  have l2 : ∀ z ∈ p2, z.block < W.heap.size := fun z hz => hlt z (by simp [hz])
  refine ⟨_, rfl, _, _, _, [], p0 ++ (p1 ++ (p2 ++ ([]))), [], hW', ?_, ?_, ?_, bel.frame _, fun h => by cases h⟩
  · rw [eF]; exact trodAll_cons_mk (shut_bool Tryz.underlying4 _) trodAll_mk0
  · rw [eF, Tryz.params4]
    exact trodAll_cons_mk (Below.trod laidOut (by kernel_rfl) (of_decide_eq_true (by kernel_rfl)) h0 bel l0) (trodAll_cons_mk (Below.trod laidOut (by kernel_rfl) (of_decide_eq_true (by kernel_rfl)) h1 bel l1) (trodAll_cons_mk (Below.trod laidOut (by kernel_rfl) (of_decide_eq_true (by kernel_rfl)) h2 bel l2) (trodAll_mk0)))
  · rw [eF]; rfl
set_option maxRecDepth 100000 in
theorem ledgerPlays_lifted (os : Os) (started : os.Started) (H : Type) (enc : TypeId × Value → H) (F : Stop.Interp) :
    ReturnsInHanded {} Tryz.checked os 4 .any ((OpenSpec.ofChange Rows.ledgerPlaysSpec).preRow enc Tryz.prog Tryz.f4 Rows.ledgerPlaysRow.domain false Rows.ledgerPlaysRow.laid) (((OpenSpec.ofChange Rows.ledgerPlaysSpec).at F).post enc Tryz.prog Tryz.f4 false true false false) := by
  obtain ⟨places, hx⟩ := ledgerPlays_reads os enc
  refine returnsInHanded_of_row (C := Tryz.checked) (s := OpenSpec.ofChange Rows.ledgerPlaysSpec) own started (by kernel_rfl) Tryz.func4
    (witness_row_atRef (enc := enc) (C := Tryz.checked) false (ledgerPlays_world os) ledgerPlays_args rfl (by kernel_rfl) (by kernel_rfl) (by kernel_rfl)
      (OpenSpec.preRow_of_cond 8 hx (by kernel_rfl) (fun k hk => by cases hk) (by kernel_rfl) (ledgerPlays_laid os _))) ?_
  intro W base args ds gs before hval hW _ _ _ hL _ _
  exact ledgerPlays_contract H enc W base args ds gs before hval hW hL
theorem and_tt {a b : Bool} (h : a = true) (k : b = true) : (a && b) = true := by rw [h, k]; rfl
theorem ledgerPlays_k0 : (Rows.ledgerPlaysRow.wf (OpenSpec.ofChange (OpenSpec.ofChange Rows.ledgerPlaysSpec).bare)) = true := by kernel_rfl
theorem ledgerPlays_k1 : (laidOutB Tryz.pinned.checked.prog) = true := by kernel_rfl
theorem ledgerPlays_k2 : (mapsRowed Tryz.pinned.checked.prog) = true := by kernel_rfl
theorem ledgerPlays_k3 : (Tryz.f4.params.all (Tryz.pinned.checked.prog.readableRec ·)) = true := by kernel_rfl
theorem ledgerPlays_k4 : (namedTie Tryz.pinned.checked.prog Rows.ledgerPlaysRow.named (OpenSpec.ofChange Rows.ledgerPlaysSpec).bare.vars) = true := by kernel_rfl
theorem ledgerPlays_k5 : ((Rows.ledgerPlaysRow.stops == [])) = true := by kernel_rfl
theorem ledgerPlays_k6 : ((Tryz.pinned.checked.prog.stops == [])) = true := by kernel_rfl
theorem ledgerPlays_k7 : ((Rows.ledgerPlaysRow.knobs == [])) = true := by kernel_rfl
theorem ledgerPlays_k8 : ((Tryz.pinned.checked.prog.stopKnobs == [])) = true := by kernel_rfl
theorem ledgerPlays_k9 : ((Rows.ledgerPlaysRow.inPlace == Tryz.pinned.checked.prog.inPlace 4)) = true := by kernel_rfl
theorem ledgerPlays_k10 : ((Rows.ledgerPlaysRow.unfollowed == Tryz.pinned.checked.prog.unfollowed 4)) = true := by kernel_rfl
theorem ledgerPlays_k11 : ((Rows.ledgerPlaysRow.recurses == Tryz.pinned.checked.prog.recurses 4)) = true := by kernel_rfl
theorem ledgerPlays_k12 : ((Rows.ledgerPlaysRow.named == Tryz.pinned.checked.prog.varsNamed 4)) = true := by kernel_rfl
theorem ledgerPlays_k13 : ((Rows.ledgerPlaysRow.maps == (Tryz.f4.params.toList ++ (OpenSpec.ofChange Rows.ledgerPlaysSpec).bare.plain.varTypes Tryz.pinned.checked.prog).any (Tryz.pinned.checked.prog.mapsRec ·))) = true := by kernel_rfl
theorem ledgerPlays_k14 : ((Rows.ledgerPlaysRow.ifaces == (Tryz.f4.params.toList ++ (OpenSpec.ofChange Rows.ledgerPlaysSpec).bare.plain.varTypes Tryz.pinned.checked.prog).any (Tryz.pinned.checked.prog.ifacesRec ·))) = true := by kernel_rfl
theorem ledgerPlays_k15 : ((Rows.ledgerPlaysRow.mapsOut == Tryz.pinned.checked.prog.mapsAmong Tryz.f4.resultTypes.toList)) = true := by kernel_rfl
theorem ledgerPlays_k16 : ((Rows.ledgerPlaysRow.loops == (Tryz.f4.params.toList ++ (OpenSpec.ofChange Rows.ledgerPlaysSpec).bare.plain.varTypes Tryz.pinned.checked.prog).any (Tryz.pinned.checked.prog.loopsFrom ·))) = true := by kernel_rfl
theorem ledgerPlays_k17 : ((Rows.ledgerPlaysRow.wideKeys == (Tryz.f4.params.toList ++ (OpenSpec.ofChange Rows.ledgerPlaysSpec).bare.plain.varTypes Tryz.pinned.checked.prog ++ Tryz.f4.resultTypes.toList).any (Tryz.pinned.checked.prog.wideKeysFrom ·))) = true := by kernel_rfl
theorem ledgerPlays_k18 : ((OpenSpec.ofChange Rows.ledgerPlaysSpec).bare.vars.all (Tryz.pinned.checked.prog.varReadable ·)) = true := by kernel_rfl
theorem ledgerPlays_k19 : (Tryz.f4.resultTypes.all (fun t => Tryz.pinned.checked.prog.readableRec t && decide (t < Tryz.pinned.checked.prog.types.size))) = true := by kernel_rfl
theorem ledgerPlays_k20 : ((Rows.ledgerPlaysRow.ifacesOut == Tryz.f4.resultTypes.toList.any (Tryz.pinned.checked.prog.ifacesRec ·))) = true := by kernel_rfl
theorem ledgerPlays_k21 : ((Rows.ledgerPlaysRow.loopsOut == Tryz.f4.resultTypes.toList.any (Tryz.pinned.checked.prog.loopsFrom ·))) = true := by kernel_rfl
theorem ledgerPlays_k22 : ((Rows.ledgerPlaysRow.plainKeys == Tryz.pinned.checked.prog.plainKeys)) = true := by kernel_rfl
theorem ledgerPlays_k23 : (Rows.ledgerPlaysRow.shortTexts.isNone) = true := by kernel_rfl
theorem ledgerPlays_k24 : (Tryz.pinned.checked.prog.stopsHeard) = true := by kernel_rfl
theorem ledgerPlays_k25 : (Tryz.pinned.checked.prog.mayEnter) = true := by kernel_rfl
theorem ledgerPlays_k26 : ((Rows.ledgerPlaysRow.lifted == Tryz.pinned.checked.prog.liftsFinal)) = true := by kernel_rfl
theorem ledgerPlays_k27 : ((Tryz.pinned.checked.prog.make == some Rows.ledgerPlaysRow.make)) = true := by kernel_rfl
theorem ledgerPlays_k28 : ((Rows.ledgerPlaysRow.kinds == (if Rows.ledgerPlaysRow.domain.isEmpty then [] else Tryz.f4.params.toList.map fun t => match Tryz.pinned.checked.prog.underlying t with | some (.int k) => some k | _ => none))) = true := by kernel_rfl
theorem ledgerPlays_k29 : ((Rows.ledgerPlaysRow.pinned == Rows.ledgerPlaysRow.pinnedBy)) = true := by kernel_rfl
theorem ledgerPlays_k30 : ((Rows.ledgerPlaysRow.veiled == (Tryz.f4.params.toList ++ (OpenSpec.ofChange Rows.ledgerPlaysSpec).bare.plain.varTypes Tryz.pinned.checked.prog ++ Tryz.f4.resultTypes.toList).any (Tryz.pinned.checked.prog.veiledRec ·))) = true := by kernel_rfl
theorem ledgerPlays_k31 : (Rows.ledgerPlaysRow.veiledFits Tryz.pinned.checked.prog Tryz.f4.params.toList (Tryz.f4.params.toList ++ (OpenSpec.ofChange Rows.ledgerPlaysSpec).bare.plain.varTypes Tryz.pinned.checked.prog ++ Tryz.f4.resultTypes.toList)) = true := by kernel_rfl
set_option maxRecDepth 100000 in
theorem ledgerPlays_facts : joinedFacts Tryz.pinned.checked.prog 4 Tryz.f4 (OpenSpec.ofChange Rows.ledgerPlaysSpec).bare Rows.ledgerPlaysRow = true := (and_tt (and_tt (and_tt (and_tt (and_tt (and_tt (and_tt (and_tt (and_tt (and_tt (and_tt (and_tt (and_tt (and_tt (and_tt (and_tt (and_tt (and_tt (and_tt (and_tt (and_tt (and_tt (and_tt (and_tt (and_tt (and_tt (and_tt (and_tt (and_tt (and_tt (and_tt ledgerPlays_k0 ledgerPlays_k1) ledgerPlays_k2) ledgerPlays_k3) ledgerPlays_k4) ledgerPlays_k5) ledgerPlays_k6) ledgerPlays_k7) ledgerPlays_k8) ledgerPlays_k9) ledgerPlays_k10) ledgerPlays_k11) ledgerPlays_k12) ledgerPlays_k13) ledgerPlays_k14) ledgerPlays_k15) ledgerPlays_k16) ledgerPlays_k17) ledgerPlays_k18) ledgerPlays_k19) ledgerPlays_k20) ledgerPlays_k21) ledgerPlays_k22) ledgerPlays_k23) ledgerPlays_k24) ledgerPlays_k25) ledgerPlays_k26) ledgerPlays_k27) ledgerPlays_k28) ledgerPlays_k29) ledgerPlays_k30) ledgerPlays_k31)
theorem ledgerPlays_said : Rows.LedgerPlaysSaid :=
  OpenClaim.holds_of_cond 4 Tryz.f4 rfl rfl rfl rfl rfl rfl rfl ⟨rfl, rfl, rfl, rfl, rfl⟩ rfl rfl rfl rfl rfl (by kernel_rfl) Tryz.func4 ledgerPlays_facts
    (of_decide_eq_true (by kernel_rfl)) (by unfold Func.isWrapper; first | (rw [if_pos (by decide +kernel)]; kernel_rfl) | (rw [if_neg (by decide +kernel)]; exact ⟨rfl, rfl⟩))
    (fun os started H enc _ F => by rw [OpenClaim.pre_eq_preRow]; exact ledgerPlays_lifted os started H enc F)
theorem ledgerPlays_plain (f : FuncId) (fn : Func) (hf : Tryz.pinned.checked.prog.funcNamed "quorate/quoratelaw18.LedgerPlays" = some f) (hfn : Tryz.pinned.checked.prog.funcs[f]? = some fn) :
    true = Tryz.pinned.checked.prog.looks [] ∧ ∀ (j : Nat) t, fn.params[j]? = some t → Tryz.pinned.checked.prog.wantsStandIn t = false := by
  obtain rfl : f = 4 := Option.some.inj ((show Tryz.prog.funcNamed "quorate/quoratelaw18.LedgerPlays" = some 4 by kernel_rfl).symm.trans hf) |>.symm
  obtain rfl : fn = Tryz.f4 := (Option.some.inj (Tryz.func4.symm.trans hfn)).symm
  refine ⟨by kernel_rfl, fun j t ht => ?_⟩
  rw [Tryz.params4] at ht
  have hm := Array.mem_of_getElem? ht
  have h : t = 3 ∨ t = 3 ∨ t = 22 := by simpa using hm
  rcases h with rfl | rfl | rfl
  · exact (show Tryz.prog.wantsStandIn 3 = false by kernel_rfl)
  · exact (show Tryz.prog.wantsStandIn 3 = false by kernel_rfl)
  · exact (show Tryz.prog.wantsStandIn 22 = false by kernel_rfl)
theorem ledgerPlays_holds : Rows.LedgerPlaysCardSaid :=
  Claim7.holds_tied_plain_at .later [] _ _ _ _ ledgerPlays_said (fun _ h => by cases h) (by kernel_rfl) (fun _ h => by cases h) ledgerPlays_row_tie rfl ⟨rfl, rfl⟩ (by kernel_rfl) rfl ledgerPlays_plain (by kernel_rfl)
#print axioms ledgerPlays_holds
end
end Go.Proofs.YtomdanlljfikaaaGreatDoor
