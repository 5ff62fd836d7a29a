/- Part 5. What is proved: see the last part: for every input the law returns true, and the input reads as it did. -/
import Derived.Test.YtobjojeliibinaaGreatDoorCs4
/- Plain words on ledgers, part 2: a calm disk's appends, small records. -/
namespace Go.Proofs.YtobjojeliibinaaGreatDoor
open Go
set_option linter.unusedVariables false
set_option linter.unusedSimpArgs false
structure Calm (d : DS) : Prop where
  ar : d.armed = false
  on : d.off = false
  ok : DOk d
theorem at_write {d : DS} {i j : Nat} {v : Sec} : (d.write (i : Int) v).at j = if j = i then v else d.at j := by
  simp only [DS.at, DS.write, lookW_put]
  by_cases h : j = i
  · subst h; simp
  · rw [if_neg h, if_neg (by omega)]
theorem at_sync {d : DS} {j : Nat} : d.sync.at j = d.at j := rfl
theorem Calm.wr {d : DS} (h : Calm d) {i : Nat} {v : Sec} (hi : i < d.n) : d.wr (i : Int) v = (0, d.write (i : Int) v) ∧ Calm (d.write (i : Int) v) :=
  ⟨wr_calm h.ar h.on (has_iff.2 ⟨by omega, by omega⟩), h.ar, h.on, write_ok h.ok (by omega) (by omega)⟩
theorem Calm.sync {d : DS} (h : Calm d) : d.syncd = d.sync ∧ Calm d.sync ∧ (oper d).off = false := ⟨syncd_calm h.ar h.on, ⟨h.ar, h.on, sync_ok h.ok⟩, by rw [oper_calm h.ar]; exact h.on⟩
theorem wdat_calm {d : DS} (h : Calm d) (e : Nat) (x : List UInt8) : ∀ i, e + 1 + i ≤ d.n → (wdat d e x i).1 = 0 ∧ Calm (wdat d e x i).2 ∧ (wdat d e x i).2.n = d.n ∧ ∀ j, (wdat d e x i).2.at j = if e + 1 ≤ j ∧ j < e + 1 + i then secData x (j - (e + 1)) else d.at j
  | 0, _ => ⟨rfl, h, rfl, fun j => by rw [if_neg (by omega), wdat_zero]⟩
  | i + 1, hi => by
    obtain ⟨h0, hc, hn, ha⟩ := wdat_calm h e x i (by omega)
    obtain ⟨hw, hc2⟩ := hc.wr (i := e + 1 + i) (v := secData x i) (by omega)
    rw [wdat_step h0, hw]
    refine ⟨rfl, hc2, hn, fun j => ?_⟩
    show ((wdat d e x i).2.write ((e + 1 + i : Nat) : Int) (secData x i)).at j = _
    rw [at_write, ha]
    by_cases h1 : j = e + 1 + i
    · subst h1; rw [if_pos rfl, if_pos (by omega), Nat.add_sub_cancel_left]
    · rw [if_neg h1]
      by_cases h2 : e + 1 ≤ j ∧ j < e + 1 + i
      · rw [if_pos h2, if_pos (by omega)]
      · rw [if_neg h2, if_neg (by omega)]
/-- What lies there once a record is appended. -/
def appF (d : DS) (l : LS) (r : LRec) (j : Nat) : Sec :=
  if j = l.e then headL l.rs.length r.data else if j = l.e + lenR r then sec0 else if l.e + 1 ≤ j ∧ j < l.e + lenR r then secData r.data (j - (l.e + 1)) else d.at j
def LS.add (l : LS) (r : LRec) : LS := ⟨l.base, l.rs ++ [r], l.e + lenR r⟩
theorem appD_calm {d : DS} {l : LS} {r : LRec} (h : Calm d) (hf : nsec r.data.length + 2 ≤ d.n - l.e) : ∃ d', appD d l r = (0, d', l.add r) ∧ Calm d' ∧ d'.n = d.n ∧ d'.ws = [] ∧ ∀ j, d'.at j = appF d l r j := by
  have hl : lenR r = 1 + nsec r.data.length := rfl
  obtain ⟨h0, hc, hn, ha⟩ := wdat_calm h l.e r.data (nsec r.data.length) (by omega)
  obtain ⟨d1, hd1⟩ : ∃ d1, d1 = (wdat d l.e r.data (nsec r.data.length)).2 := ⟨_, rfl⟩
  rw [← hd1] at hc hn ha
  obtain ⟨hw2, hc2⟩ := hc.wr (i := l.e + lenR r) (v := sec0) (by omega)
  obtain ⟨hs3, hc3, ho3⟩ := hc2.sync
  obtain ⟨hw4, hc4⟩ := hc3.wr (i := l.e) (v := headL l.rs.length r.data) (by show l.e < d1.n; omega)
  obtain ⟨hs5, hc5, ho5⟩ := hc4.sync
  refine ⟨_, ?_, hc5, hn, rfl, fun j => ?_⟩
  · unfold appD
    rw [if_pos h0, ← hd1]
    unfold appE
    rw [hw2, if_pos rfl]
    unfold appM
    rw [if_neg (by rw [ho3]; decide), hs3]
    unfold appH
    rw [hw4, if_pos rfl]
    unfold appS
    rw [if_neg (by rw [ho5]; decide), hs5]
    rfl
  · rw [at_sync, at_write, at_sync, at_write, ha]
    unfold appF
    by_cases h1 : j = l.e
    · rw [if_pos h1, if_pos h1]
    · rw [if_neg h1, if_neg h1]
      by_cases h2 : j = l.e + lenR r
      · rw [if_pos h2, if_pos h2]
      · rw [if_neg h2, if_neg h2, hl, show l.e + (1 + nsec r.data.length) = l.e + 1 + nsec r.data.length by omega]
/-- A ledger on its disk. -/
structure LInv (d : DS) (l : LS) (bs : Nat) : Prop where
  ba : l.base = (bs : Int)
  lo : LOk d.at bs l.rs
  e : l.e = bs + tot l.rs
  lt : l.e < d.n
theorem tot_snoc (rs : List LRec) (r : LRec) : tot (rs ++ [r]) = tot rs + lenR r := by simp [tot]
theorem secsR_at {h i : Nat} {r : LRec} (hi : i < nsec r.data.length) : (secsR h r).getD (i + 1) sec0 = secData r.data i := by
  simp [secsR, List.getD, hi]
theorem LInv.add {d d' : DS} {l : LS} {bs : Nat} {r : LRec} (h : LInv d l bs) (hr : r.Ok) (hf : nsec r.data.length + 2 ≤ d.n - l.e) (hn : d'.n = d.n) (ha : ∀ j, d'.at j = appF d l r j) : LInv d' (l.add r) bs := by
  have hl : lenR r = 1 + nsec r.data.length := rfl
  have he := h.e
  refine ⟨h.ba, ⟨fun x hx => ?_, fun i hi => ?_, ?_⟩, by show l.e + lenR r = bs + tot (l.rs ++ [r]); rw [tot_snoc]; omega, by show l.e + lenR r < d'.n; omega⟩
  · rcases List.mem_append.1 hx with hx | hx
    · exact h.lo.ok x hx
    · simp at hx; subst hx; exact hr
  · replace hi : i < tot (l.rs ++ [r]) := hi
    rw [tot_snoc] at hi
    show d'.at (bs + i) = (secsOf 0 (l.rs ++ [r])).getD i sec0
    rw [ha, secsOf_app, Nat.zero_add]
    by_cases h1 : i < tot l.rs
    · rw [appF, if_neg (by omega), if_neg (by omega), if_neg (by omega), h.lo.at' i h1]
      simp only [List.getD]
      rw [List.getElem?_append_left (by rw [secsOf_len]; exact h1)]
    · obtain ⟨k, rfl⟩ : ∃ k, i = tot l.rs + k := ⟨i - tot l.rs, by omega⟩
      have e1 : (secsOf 0 l.rs ++ secsOf l.rs.length [r]).getD (tot l.rs + k) sec0 = (secsR l.rs.length r).getD k sec0 := by
        simp only [List.getD]
        rw [List.getElem?_append_right (by rw [secsOf_len]; omega), secsOf_len, Nat.add_sub_cancel_left]
        simp [secsOf]
      rw [e1, appF]
      cases k with
      | zero => rw [if_pos (by omega)]; rfl
      | succ k => rw [if_neg (by omega), if_neg (by omega), if_pos (by omega), secsR_at (by omega)]; congr 1; omega
  · show d'.at (bs + tot (l.rs ++ [r])) = sec0
    rw [ha, tot_snoc, appF, if_neg (by omega), if_pos (by omega)]
theorem tot_ge : ∀ (rs : List LRec), 2 * rs.length ≤ tot rs
  | [] => Nat.le_refl _
  | r :: l => by
    have := tot_ge l
    have hd := data_len r
    have : 1 ≤ nsec r.data.length := by unfold nsec; omega
    show 2 * (l.length + 1) ≤ lenR r + tot l
    unfold lenR; omega
theorem LInv.ln {d : DS} {l : LS} {bs : Nat} (h : LInv d l bs) (hk : DOk d) : l.rs.length ≤ 2048 := by
  have := tot_ge l.rs; have := h.lt; have := h.e; have := hk.n; omega
theorem LInv.op {d : DS} {l : LS} {bs : Nat} (h : LInv d l bs) : openE d (bs : Int) = (0, l) := by
  have hlt := h.lt
  have he := h.e
  have hh := lopen_ok h.lo (by omega)
  rw [openE, if_pos (has_iff.2 ⟨by omega, by omega⟩), Int.toNat_natCast, hh]
  simp only [Prod.mk.injEq, true_and]
  rw [← he, ← h.ba]
theorem fmt_calm {d : DS} {bs : Nat} (h : Calm d) (hb : bs < d.n) : ∃ d', fmtL d (bs : Int) = (0, d') ∧ Calm d' ∧ d'.n = d.n ∧ d'.ws = [] ∧ LInv d' ⟨bs, [], bs⟩ bs := by
  obtain ⟨hw, hc⟩ := h.wr (i := bs) (v := sec0) hb
  obtain ⟨hs, hc2, ho⟩ := hc.sync
  refine ⟨(d.write (bs : Int) sec0).sync, ?_, hc2, rfl, rfl, rfl, ⟨by simp, fun i hi => absurd hi (Nat.not_lt_zero _), ?_⟩, rfl, hb⟩
  · rw [fmtL, if_pos (has_iff.2 ⟨by omega, by omega⟩), hw, if_pos rfl, if_neg (by rw [ho]; decide), hs]
  · show ((d.write (bs : Int) sec0).sync).at (bs + 0) = sec0
    rw [at_sync, at_write, if_pos (by omega)]
/-! ### Small records -/
def Wr (f : WS → WS) (n : Nat) : Prop := ∀ s, s.err = 0 → (f s).err = 0 ∧ (f s).bs.length = s.bs.length + n
theorem Wr.fix (b : List UInt8) : Wr (wFix b) b.length := fun s h => by rw [wFix_of h]; simp
theorem Wr.num {v : Int} {wd : Nat} (h0 : 0 ≤ v) (h : v < 2 ^ (8 * wd)) : Wr (wNum v wd) wd := fun s hs => by
  unfold wNum
  rw [if_neg (by omega)]
  have := Wr.fix (beN v wd) s hs
  rwa [beN_length] at this
theorem Wr.then {f g : WS → WS} {n m : Nat} (hf : Wr f n) (hg : Wr g m) : Wr (fun s => g (f s)) (n + m) := fun s hs => by
  obtain ⟨h1, h2⟩ := hf s hs
  obtain ⟨h3, h4⟩ := hg (f s) h1
  exact ⟨h3, by rw [h4, h2, Nat.add_assoc]⟩
theorem Wr.dig (d : Dig) : Wr (wDig d) 16 := fun s hs => by have := Wr.fix d.l s hs; rwa [d.h] at this
theorem Wr.fold {α : Type} {wX : α → WS → WS} {c : Nat} : ∀ {l : List α}, (∀ x ∈ l, Wr (wX x) c) → Wr (fun s => l.foldl (fun s x => wX x s) s) (l.length * c)
  | [], _ => fun s hs => ⟨hs, by simp⟩
  | x :: l, h => by
    have h1 := (h x (by simp)).then (Wr.fold (l := l) fun y hy => h y (by simp [hy]))
    rw [show (x :: l).length * c = c + l.length * c by rw [List.length_cons, Nat.add_mul, Nat.one_mul, Nat.add_comm]]
    exact h1
theorem Wr.put {α : Type} {wX : α → WS → WS} {c most : Nat} {l : List α} (hl : l.length ≤ most) (h2 : l.length ≤ 255) (h : ∀ x ∈ l, Wr (wX x) c) : Wr (wPut wX l most) (1 + l.length * c) := fun s hs => by
  unfold wPut
  rw [if_neg (by omega)]
  exact (Wr.num (v := (l.length : Int)) (wd := 1) (by omega) (by show (l.length : Int) < 256; omega)).then (Wr.fold h) s hs
theorem Wr.bytes {b : List UInt8} {most : Nat} (h : b.length ≤ most) (hm : most ≤ 65535) : Wr (wBytes b most) (2 + b.length) := fun s hs => by
  unfold wBytes
  rw [if_neg (by omega)]
  exact (Wr.num (v := (b.length : Int)) (wd := 2) (by omega) (by show (b.length : Int) < 65536; omega)).then (Wr.fix b) s hs
def sgE : Signed := ⟨0, 0, List.replicate 5 dig0, []⟩
def rndU (i : Int) : Nat := ((IntKind.u64.wrap i).tmod 1000).toNat
def vts (i : Int) : Nat := ((IntKind.u64.wrap i).tmod 4).toNat
theorem u64_rem (a : Int) {m : Nat} (hm : 0 < m) : (IntKind.u64.wrap a).tmod (m : Int) = ((((IntKind.u64.wrap a).tmod (m : Int)).toNat : Nat) : Int) ∧ ((IntKind.u64.wrap a).tmod (m : Int)).toNat < m := by
  have h0 : 0 ≤ IntKind.u64.wrap a := by simp [IntKind.wrap, IntKind.bits, IntKind.signed]; omega
  have h1 := Int.tmod_lt_of_pos (IntKind.u64.wrap a) (show (0 : Int) < (m : Int) by omega)
  have h2 := Int.tmod_nonneg (m : Int) h0
  omega
theorem rndU_eq (i : Int) : (IntKind.u64.wrap i).tmod 1000 = (rndU i : Int) := (u64_rem i (m := 1000) (by decide)).1
theorem vts_eq (i : Int) : (IntKind.u64.wrap i).tmod 4 = (vts i : Int) := (u64_rem i (m := 4) (by decide)).1
def smB (n : Nat) (tx : UInt8) : Block := ⟨1, n, dig0, qc0, [[tx]], []⟩
def smC (n : Nat) (tx : UInt8) (v : Nat) : QC := ⟨1, n, idOf (smB n tx), List.replicate v sgE⟩
def smR (n : Nat) (tx : UInt8) (v : Nat) : LRec := ⟨smB n tx, smC n tx v⟩
theorem wr_at {n : Nat} (h : n < 1000) : Wr (wAt 1 n) 10 :=
  (Wr.num (v := 1) (wd := 4) (by decide) (by decide)).then (Wr.num (v := (n : Int)) (wd := 6) (by omega) (by show (n : Int) < 281474976710656; omega))
theorem wr_at0 : Wr (wAt 0 0) 10 := (Wr.num (v := 0) (wd := 4) (by decide) (by decide)).then (Wr.num (v := 0) (wd := 6) (by decide) (by decide))
theorem wr_qc0 : Wr (wQC qc0) 27 := (wr_at0.then (Wr.dig dig0)).then (Wr.put (l := ([] : List Signed)) (c := 0) (by simp) (by simp) (by simp))
theorem wr_smB {n : Nat} {tx : UInt8} (h : n < 1000) : Wr (wBlock (smB n tx)) 58 :=
  ((((wr_at h).then (Wr.dig dig0)).then wr_qc0).then (Wr.put (l := [[tx]]) (most := 4) (c := 3) (by simp) (by simp) (fun x hx => by simp at hx; subst hx; exact Wr.bytes (by simp) (by decide)))).then
    (Wr.put (l := ([] : List Vdr)) (c := 0) (by simp) (by simp) (by simp))
theorem wr_sgE : Wr (wSigned sgE) 84 := fun s hs => by
  have h1 := Wr.num (v := 0) (wd := 1) (by decide) (by decide) s hs
  have h2 := Wr.num (v := 0) (wd := 1) (by decide) (by decide) _ h1.1
  have h3 := Wr.put (wX := wDig) (l := List.replicate 5 dig0) (most := 68) (c := 16) (by simp) (by simp) (fun x _ => Wr.dig x) _ h2.1
  have h4 := Wr.put (wX := wDig) (l := ([] : List Dig)) (most := 5) (c := 0) (by simp) (by simp) (by simp) _ h3.1
  show (wPut wDig [] 5 (wPut wDig (List.replicate 5 dig0) 68 (wNum 0 1 (wNum 0 1 s)))).err = 0 ∧ (wPut wDig [] 5 (wPut wDig (List.replicate 5 dig0) 68 (wNum 0 1 (wNum 0 1 s)))).bs.length = _
  refine ⟨h4.1, h4.2.trans ?_⟩
  rw [h3.2, h2.2, h1.2]; simp
theorem wr_votes (v : Nat) (hv : v < 4) : Wr (wPut wSigned (List.replicate v sgE) 7) (1 + v * 84) := fun s hs => by
  have h := Wr.put (wX := wSigned) (l := List.replicate v sgE) (most := 7) (c := 84) (by simp; omega) (by simp; omega) (fun x hx => by rw [List.eq_of_mem_replicate hx]; exact wr_sgE) s hs
  rwa [List.length_replicate] at h
attribute [local irreducible] wAt wDig wPut wSigned wBytes wVdr in
theorem wr_smC {n v : Nat} {tx : UInt8} (h : n < 1000) (hv : v < 4) : Wr (wBlock (certB (smC n tx v))) (55 + 84 * v) := fun s hs => by
  have h1 := wr_at0 s hs
  have h2 := Wr.dig dig0 _ h1.1
  have h3 := wr_at h _ h2.1
  have h4 := Wr.dig (idOf (smB n tx)) _ h3.1
  have h5 := wr_votes v hv _ h4.1
  have h6 := Wr.put (wX := fun t => wBytes t 16) (l := ([] : List (List UInt8))) (most := 4) (c := 0) (by simp) (by simp) (by simp) _ h5.1
  have h7 := Wr.put (wX := wVdr) (l := ([] : List Vdr)) (most := 7) (c := 0) (by simp) (by simp) (by simp) _ h6.1
  refine ⟨h7.1, h7.2.trans ?_⟩
  rw [h6.2, h5.2, h4.2, h3.2, h2.2, h1.2]; simp; omega
theorem sm_ok {n v : Nat} {tx : UInt8} (h : n < 1000) (hv : v < 4) : (smR n tx v).Ok := ⟨(wr_smB h ⟨0, []⟩ rfl).1, (wr_smC h hv ⟨0, []⟩ rfl).1, by simp only [smR, smC], by simp only [smR, smC, smB], by simp only [smR, smC, smB]⟩
theorem sm_len {n v : Nat} {tx : UInt8} (h : n < 1000) (hv : v < 4) : (smR n tx v).data.length = 117 + 84 * v := by
  have h1 := (wr_smB (tx := tx) h ⟨0, []⟩ rfl).2
  have h2 := (wr_smC (tx := tx) h hv ⟨0, []⟩ rfl).2
  rw [LRec.data, dataL_len]
  show 4 + (wBlock (smB n tx) ⟨0, []⟩).bs.length + (wBlock (certB (smC n tx v)) ⟨0, []⟩).bs.length = _
  rw [h1, h2]; simp; omega
theorem sm_sec {n v : Nat} {tx : UInt8} (h : n < 1000) (hv : v < 4) : nsec (smR n tx v).data.length ≤ 6 := by rw [sm_len h hv]; unfold nsec; omega
theorem rnd_lt (i : Int) : rndU i < 1000 := (u64_rem i (m := 1000) (by decide)).2
theorem vts_lt (i : Int) : vts i < 4 := (u64_rem i (m := 4) (by decide)).2
theorem app_ok {d : DS} {l : LS} {b : Block} {c : QC} (hm : madeE b c = 0) (h2 : l.rs.length < 200) (hf : nsec (⟨b, c⟩ : LRec).data.length + 2 ≤ d.n - l.e) : appL d l b c = appD d l ⟨b, c⟩ := by
  unfold appL; rw [if_pos hm, if_neg (fun h => h.elim (fun h' => by omega) (fun h' => h' hf))]
end Go.Proofs.YtobjojeliibinaaGreatDoor

/- A ledger and its calm disk, as one. -/
namespace Go.Proofs.YtobjojeliibinaaGreatDoor
open Go
set_option linter.unusedVariables false
set_option linter.unusedSimpArgs false
abbrev lsOf (bs : Nat) (rs : List LRec) : LS := ⟨(bs : Int), rs, bs + tot rs⟩
structure LdOk (d : DS) (n bs : Nat) (rs : List LRec) : Prop where
  c : Calm d
  n : d.n = n
  ws : d.ws = []
  i : LInv d (lsOf bs rs) bs
def LdR (q g n bs : Nat) (rs : List LRec) : Res := exR fun d : DS => allR [pureR (LdOk d n bs rs), LedR q g (lsOf bs rs), DiskR g d]
section
variable {w w0 : World} {F F0 : Nat → Prop} {q g n bs : Nat} {rs : List LRec} {L : List Res} {ea : Nat → Addr} {es : List Nat}
theorem ld_open (h : stars (LdR q g n bs rs :: L) w F) : ∃ d, LdOk d n bs rs ∧ stars (LedR q g (lsOf bs rs) :: DiskR g d :: L) w F := by
  obtain ⟨d, h⟩ := stars_ex h
  obtain ⟨h1, h2⟩ := stars_pure (stars_all h)
  exact ⟨d, h1, h2⟩
theorem ld_shut {d : DS} (hd : LdOk d n bs rs) (h : stars (LedR q g (lsOf bs rs) :: DiskR g d :: L) w F) : stars (LdR q g n bs rs :: L) w F := stars_ex_mk d (stars_all_mk (stars_pure_mk hd h))
theorem St.ld {d : DS} (h : St w0 F0 (LedR q g (lsOf bs rs) :: DiskR g d :: L) w) (hd : LdOk d n bs rs) : St w0 F0 (LdR q g n bs rs :: L) w := h.mapL fun F hF => ld_shut hd hF
theorem disk0_calm {n : Nat} (h : n ≤ 4096) : Calm ⟨n, fun _ => sec0, [], false, false, 0⟩ := ⟨rfl, rfl, h, by simp [keysW], by simp [keysW], (fun h => by cases h), by show (-9223372036854775808 : Int) ≤ 0 ∧ (0 : Int) ≤ 9223372036854775807; decide⟩
theorem fmtC (h : stars [DiskR g ⟨n, fun _ => sec0, [], false, false, 0⟩] w F) (hn : n ≤ 4096) (hb : bs < n) [Has es 1] [Has es 6] (hE : GErr es w (fun k => ¬ F k) 340 ea) :
    Calls Tryz.prog 42 #[.pointer (some ⟨g, 0, none⟩), .int .i64 (bs : Int)] w (Post w F (fun q : Nat => .tuple #[.pointer (some ⟨q, 0, none⟩), eV 340 ea 0]) (fun q => [LdR q g n bs []])) := by
  have hc := disk0_calm hn
  obtain ⟨d', e, h1, h2, h3, h4⟩ := fmt_calm hc hb
  refine Calls.mono (formatL_ok (b := (bs : Int)) h hc.ok hE) ?_
  rintro o w' ⟨q, ho, hs⟩
  simp only [e, if_true] at ho hs
  exact ⟨q, ho, St.ld (rs := []) (n := n) (L := []) (show St w F [LedR q g (lsOf bs []), DiskR g d'] w' from hs) ⟨h1, h2, h3, h4⟩⟩
theorem appC {cs qs : List Value} {b : Block} {c : QC} (h : stars [LdR q g n bs rs] w F) [Has es 1] [Has es 4] [Has es 6] [Has es 8] [Has es 12] (hE : GErr es w (fun k => ¬ F k) 340 ea) (hK : KR w (fun k => ¬ F k)) (hx : RdBlock w (fun k => ¬ F k) cs b) (hq : RdQC w (fun k => ¬ F k) qs c)
    (hr : (⟨b, c⟩ : LRec).Ok) (h2 : rs.length < 200) (hf : bs + tot rs + nsec (⟨b, c⟩ : LRec).data.length + 2 ≤ n) :
    Calls Tryz.prog 45 #[.pointer (some ⟨q, 0, none⟩), .agg cs.toArray, .agg qs.toArray] w (Post w F (fun _ : Unit => eV 340 ea 0) (fun _ => [LdR q g n bs (rs ++ [⟨b, c⟩])])) := by
  obtain ⟨d, hd, h⟩ := ld_open h
  have hfit : nsec (⟨b, c⟩ : LRec).data.length + 2 ≤ d.n - (lsOf bs rs).e := by rw [hd.n]; show _ ≤ n - (bs + tot rs); omega
  obtain ⟨d', e, h1, h3, h4, h5⟩ := appD_calm (l := lsOf bs rs) hd.c hfit
  have e2 := (app_ok (d := d) (l := lsOf bs rs) (made_zero hr) h2 hfit).trans e
  refine Calls.mono (append_ok (l := lsOf bs rs) h hd.c.ok hE hK hx hq hd.i.lt (by show rs.length < _; omega)) ?_
  rintro o w' ⟨x, ho, hs⟩
  simp only [e2] at ho hs
  have hi := hd.i.add (d' := d') hr hfit h3 h5
  have el : (lsOf bs rs).add ⟨b, c⟩ = lsOf bs (rs ++ [⟨b, c⟩]) := by simp only [LS.add, lsOf, tot_snoc, Nat.add_assoc]
  rw [el] at hi hs
  exact ⟨(), ho, St.ld hs ⟨h1, by rw [h3, hd.n], h4, hi⟩⟩
theorem openC (h : stars [LdR q g n bs rs] w F) [Has es 1] [Has es 2] [Has es 3] [Has es 4] [Has es 6] [Has es 7] [Has es 12] (hE : GErr es w (fun k => ¬ F k) 340 ea) (hK : KR w (fun k => ¬ F k)) :
    Calls Tryz.prog 46 #[.pointer (some ⟨g, 0, none⟩), .int .i64 (bs : Int)] w (Post w F (fun p : Nat => .tuple #[.pointer (some ⟨p, 0, none⟩), eV 340 ea 0]) (fun p => [LdR p g n bs rs, LedR q g (lsOf bs rs)])) := by
  obtain ⟨d, hd, h⟩ := ld_open h
  obtain ⟨F1, F2, h1, h2, hF, hdj⟩ := (Pick.there (x := LedR q g (lsOf bs rs)) (Pick.here (r := DiskR g d) (L := []))).stars h
  have hst : Still w (fun k => ¬ F k) w (fun k => ¬ F1 k) := fun k _ hk => ⟨rfl, fun h' => hk ((hF k).2 (.inl h'))⟩
  have hc := calls_frame (lopen_ok' (b := (bs : Int)) (stars_one h1) hd.c.ok (hE.mv hst) (hK.mv hst) hd.c.on) h2 hF hdj
  refine Calls.mono hc ?_
  rintro o w' ⟨p, ho, hs⟩
  have e := hd.i.op
  simp only [e, if_true] at ho hs
  exact ⟨p, ho, St.ld hs hd⟩
theorem lenC (h : stars [LdR q g n bs rs] w F) : Calls Tryz.prog 47 #[.pointer (some ⟨q, 0, none⟩)] w (Post w F (fun _ : Unit => .int .i64 (rs.length : Int)) (fun _ => [LdR q g n bs rs])) := by
  obtain ⟨d, hd, h⟩ := ld_open h
  obtain ⟨F1, F2, h1, h2, hF, hdj⟩ := h
  refine Calls.mono (calls_frame (lenL_ok (stars_one h1)) h2 hF hdj) ?_
  rintro o w' ⟨x, ho, hs⟩
  exact ⟨(), ho, St.ld hs hd⟩
theorem crashC (h : stars [LdR q g n bs rs] w F) : Calls Tryz.prog 88 #[.pointer (some ⟨g, 0, none⟩), .slice none 0 0] w (Post w F (fun _ : Unit => .tuple #[]) (fun _ => [LdR q g n bs rs])) := by
  obtain ⟨d, hd, h⟩ := ld_open h
  obtain ⟨F1, F2, h1, h2, hF, hdj⟩ := (Pick.there (x := LedR q g (lsOf bs rs)) (Pick.here (r := DiskR g d) (L := []))).stars h
  refine Calls.mono (calls_frame (crash_ok' (kb := []) (stars_one h1) hd.c.ok RdRow.nil) h2 hF hdj) ?_
  rintro o w' ⟨x, ho, hs⟩
  have e : d.crash [] = d := by
    rw [crash_idle hd.ws]
    have := hd.c.ar; have := hd.c.on
    cases d; simp_all
  rw [e] at hs
  exact ⟨(), ho, St.ld (hs.sel (.cons (.there .here) (.cons .here .nil))) hd⟩
end
end Go.Proofs.YtobjojeliibinaaGreatDoor

/- Walks, by program (wg.py) out of a spec. -/
namespace Go.Proofs.YtobjojeliibinaaGreatDoor
open Go
set_option linter.unusedVariables false
set_option linter.unusedSimpArgs false


def smL (b : Nat) (n : Nat) : List Value := .int .i64 1 :: .int .i64 (n : Int) :: (dc dig0 ++ (qcC ++ [.slice (some ⟨b, 0, none⟩) 1 1, .slice none 0 0]))
theorem smL_len (b n : Nat) : (smL b n).length = 39 := by simp [smL, dc_length, qcC, dc_length]
theorem smL_one (b n : Nat) : ∀ v ∈ smL b n, v.oneCell' = true := all_cons' rfl (all_cons' rfl (all_app' (dc_one _) (all_app' (rdQC0 (w := default) (A := fun _ => True)).one (all_cons' rfl (all_cons' rfl all_nil')))))
theorem rd_smL {w : World} {A : Nat → Prop} {b c n : Nat} {tx : UInt8} (h1 : RdRow w A 1 (some ⟨b, 0, none⟩) 1 [.slice (some ⟨c, 0, none⟩) 1 1]) (h2 : RdRow w A 1 (some ⟨c, 0, none⟩) 1 [B8 tx]) : RdBlock w A (smL b n) (smB n tx) :=
  ⟨qcC, some ⟨b, 0, none⟩, 1, 1, none, 0, 0, rfl, rdQC0, Nat.le_refl _, ⟨[[.slice (some ⟨c, 0, none⟩) 1 1]], h1, by simp, rfl, fun i x y hx hy => by
    match i with
    | 0 => simp at hx; subst hx; cases hy; exact ⟨_, _, _, rfl, Nat.le_refl _, h2⟩
    | i + 1 => simp at hx⟩, Nat.le_refl _, RdList.nil⟩
theorem smL_at (b n : Nat) : (smL b n)[0 + 1]? = some (.int .i64 (n : Int)) := rfl
theorem vl_smL {w : World} {F : Nat → Prop} {b c n e1 e2 : Nat} {tx : UInt8} (h : stars [rowR e1 1 (some ⟨b, 0, none⟩) 1 1 [.slice (some ⟨c, 0, none⟩) 1 1], rowR e2 1 (some ⟨c, 0, none⟩) 1 1 [B8 tx]] w F) : stars [VlR RdBlock (smL b n) (smB n tx)] w F := by
  obtain ⟨F1, F2, h1, h2, hF⟩ := stars_two h
  exact rdR_mk (rd_smL ((rowR.rd h1).mv (still_sub fun k hk => (hF k).2 (.inl hk))) ((rowR.rd h2).mv (still_sub fun k hk => (hF k).2 (.inr hk)))) h
def smQ (id : Dig) (n : Nat) (a : Option Addr) (k c : Nat) : List Value := .int .i64 1 :: .int .i64 (n : Int) :: (dc id ++ [.slice a k c])
theorem smQ_len (id : Dig) (n : Nat) (a : Option Addr) (k c : Nat) : (smQ id n a k c).length = 19 := by simp [smQ, dc_length]
theorem smQ_one (id : Dig) (n : Nat) (a : Option Addr) (k c : Nat) : ∀ v ∈ smQ id n a k c, v.oneCell' = true := all_cons' rfl (all_cons' rfl (all_app' (dc_one _) (all_cons' rfl all_nil')))
theorem smQ_at (id : Dig) (n : Nat) (a : Option Addr) (k c : Nat) : (smQ id n a k c)[0 + 18]? = some (.slice a k c) := by simp [smQ, get_dc]
theorem smQ_upd (id : Dig) (n : Nat) (a a' : Option Addr) (k c k' c' : Nat) : List.take 18 (smQ id n a k c) ++ [.slice a' k' c'] = smQ id n a' k' c' := by
  have h1 : List.take 16 (dc id ++ [Value.slice a k c]) = dc id := List.take_left' (dc_length id)
  simp [smQ, h1]
def rec0 : List Value := blkC ++ qcC
instance : Len rec0 58 := ⟨by simp [rec0, blkC, qcC, dc_length]⟩
def sgL (b : Nat) : List Value := [.int .i64 0, .int .i64 0, .slice (some ⟨b, 0, none⟩) 5 5, .slice none 0 0]
theorem vl_sgL {w : World} {F : Nat → Prop} {b T : Nat} (h : stars [blk b T (List.replicate 5 (dc dig0)).flatten] w F) : stars [VlR RdSigned (sgL b) sgE] w F := by
  have h1 := stars_one' h
  have hl : (List.replicate 5 (dc dig0)).flatten.length = 80 := by decide
  have hr : RdRow w F 16 (some ⟨b, 0, none⟩) 5 (List.replicate 5 (dc dig0)).flatten := RdRow.of_blk h1 (n := 5) (size := 16) (o := 0) (by rw [List.drop_zero, List.take_of_length_le (by omega)]) (by omega) (by decide)
  refine rdR_mk ⟨[.int .i64 0, .slice (some ⟨b, 0, none⟩) 5 5, .slice none 0 0], rfl, some ⟨b, 0, none⟩, 5, 5, none, 0, 0, rfl, Nat.le_refl _, Nat.le_refl _, ?_, RdList.nil⟩ h
  exact ⟨List.replicate 5 (dc dig0), hr, fun c hc => by rw [List.eq_of_mem_replicate hc]; exact dc_length _, by simp [sgE], fun i c x hc hx => by
    have h3 := List.eq_of_mem_replicate (List.mem_of_getElem? hc)
    have h4 : x = dig0 := List.eq_of_mem_replicate (n := 5) (List.mem_of_getElem? hx)
    rw [h3, h4]; rfl⟩
theorem vl_smQ {w : World} {F : Nat → Prop} {e k c n : Nat} {id : Dig} {a : Option Addr} {css : List (List Value)} (h4 : ∀ x ∈ css, List.length x = 4) (h : stars [rowR e 4 a k c css.flatten, ElR RdSigned css (List.replicate k sgE)] w F) :
    stars [VlR RdQC (smQ id n a k c) ⟨1, n, id, List.replicate k sgE⟩] w F := by
  have hk : k ≤ c := by obtain ⟨_, _, h1, _⟩ := h; exact h1.2.1
  exact vl_qc hk (ls_of h4 h)
theorem rep_snoc (k : Nat) : List.replicate k sgE ++ [sgE] = List.replicate (k + 1) sgE := by rw [List.replicate_succ']

attribute [local irreducible] Gl Gc Gx Gs Runs Wt

attribute [local irreducible] dc RdRec RdBlock RdQC RdSigned blkC qcC allE smL smQ idOf

set_option maxHeartbeats 400000 in
theorem small_ok {w : World} {F : Nat → Prop} {i v : Int} {tx : UInt8} (h : stars [] w F) {ea : Nat → Addr} {es : List Nat} [Has es 1] (hE : GErr es w (fun k => ¬ F k) 340 ea) (hK : KR w (fun k => ¬ F k))  :
    Calls Tryz.prog 43 #[.int .i64 i, B8 tx, .int .i64 v] w (Post w F (fun x : List Value × List Value => .agg (x.1 ++ x.2).toArray) (fun x => [pureR ((x.1.length = 39 ∧ ∀ v ∈ x.1, v.oneCell' = true) ∧ x.2.length = 19 ∧ ∀ v ∈ x.2, v.oneCell' = true), VlR RdBlock x.1 (smR (rndU i) tx (vts v)).b, VlR RdQC x.2 (smR (rndU i) tx (vts v)).c])) := by
  have hrn := rnd_lt i
  have hvt := vts_lt v
  refine g_enter (env := [(0, .int .i64 i), (1, B8 tx), (2, .int .i64 v)]) Tryz.func43 rfl h Tryz.ntmps43 rfl rfl ?_
  refine gsr ?_
  refine zal fun b6 => ?_
  refine gl_eqc (cs' := rec0) (by repeat (first | exact Pick.here | apply Pick.there)) (by kernel_rfl) ?_
  refine gnt ?_
  refine gsr ?_
  refine gp zmv ?_
  refine gp zci ?_
  refine gp (r_int (j := (rndU i : Int)) zrm (rndU_eq i)) ?_
  refine gp (r_int (j := (rndU i : Int)) zci (wrap_i64 (by omega) (by omega))) ?_
  refine gp zmv ?_
  refine ze1 fun b16 => ?_
  refine ze1 fun b17 => ?_
  refine gp zbu ?_
  refine zal fun b7 => ?_
  refine zsN ?_
  refine gl_eqc (cs' := smL b17 (rndU i)) (by repeat (first | exact Pick.here | apply Pick.there)) (by kernel_rfl) ?_
  have i7 := Len.of (smL_len b17 (rndU i))
  have j7 := One.of (smL_one b17 (rndU i))
  refine gnt ?_
  refine gsr ?_
  refine gp (zLa (cs := smL b17 (rndU i))) ?_
  refine zc (fun _ => ?_) (c := fun w1 F1 F2 h1 h2 hd hst => id_ok (x := smB (rndU i) tx) h1 (hE.mv hst.still) (hK.mv hst.still) (rd_smL (rd_row h2 hd (by repeat (first | exact Pick.here | apply Pick.there))) (rd_row h2 hd (by repeat (first | exact Pick.here | apply Pick.there)))))
  refine gp zmv ?_
  refine gp zex ?_
  refine gp zex ?_
  refine zal fun b8 => ?_
  refine zsN ?_
  refine gp zas ?_
  refine gnt ?_
  refine gsr ?_
  refine gp zfa ?_
  refine gp (zl (v := .int .i64 (rndU i : Int)) (hv := smL_at _ _)) ?_
  refine gp zL ?_
  refine gp zbu ?_
  refine zal fun b10 => ?_
  refine zsN ?_
  refine gl_eqc (cs' := smQ (idOf (smB (rndU i) tx)) (rndU i) none 0 0) (by repeat (first | exact Pick.here | apply Pick.there)) (by kernel_rfl) ?_
  refine gnt ?_
  refine gc_seq ?_
  refine gsr ?_
  refine gp zmv ?_
  refine gp zci ?_
  refine gp (r_int (j := (vts v : Int)) zrm (vts_eq v)) ?_
  refine gp (r_int (j := (vts v : Int)) zci (wrap_i64 (by omega) (by omega))) ?_
  refine gp zmv ?_
  refine gnt ?_
  refine gc_block ?_
  refine gc_loop (α := Nat × Option Addr × Nat × List (List Value)) (fun y => [pureR (y.1 ≤ vts v ∧ ∀ c ∈ y.2.2.2, List.length c = 4), blk b10 26 (smQ (idOf (smB (rndU i) tx)) (rndU i) y.2.1 y.1 y.2.2.1), rowR 140 4 y.2.1 y.1 y.2.2.1 y.2.2.2.flatten, ElR RdSigned y.2.2.2 (List.replicate y.1 sgE), blk b7 30 (smL b17 (rndU i)), rowR 86 1 (some ⟨b17, 0, none⟩) 1 1 [.slice (some ⟨b16, 0, none⟩) 1 1], rowR 5 1 (some ⟨b16, 0, none⟩) 1 1 [B8 tx], blk b6 97 rec0]) (fun y => [(32, .int .i64 (y.1 : Int))]) [33, 34, 35, 36, 37, 38, 39, 40, 41, 42] (fun y => vts v - y.1) (0, none, 0, []) ?_ ?_ ?_
  · refine env_start (by kernel_rfl)
  · intro w' hw
    have hw := St.mapL hw (fun F' hF' => el_nil (rd := RdSigned) hF')
    exact St.pureI ⟨Nat.zero_le _, by simp⟩ ((hw.rowNil (e := 140) (size := 4)).sel (by repeat (first | exact Sel.nil | (apply Sel.cons; · (repeat (first | exact Pick.here | apply Pick.there))))))
  · intro y u
    obtain ⟨k, a, c, css⟩ := y
    refine gc_pureR (fun hk => ?_)
    obtain ⟨hk, hcs⟩ := hk
    replace hk : k ≤ vts v := hk
    replace hcs : ∀ x ∈ css, List.length x = 4 := hcs
    refine gsr ?_
    refine gp zlt ?_
    refine gnt ?_
    refine gc_seq ?_
    refine gif rfl (fun hc33 => ?_) (fun hc33 => ?_)
    · try simp only at hc33
      have hk' : k < vts v := by omega
      have i10 := Len.of (smQ_len (idOf (smB (rndU i) tx)) (rndU i) a k c)
      refine gc_skip ?_
      refine gx_then ?_
      refine gc_seq ?_
      refine gc_block ?_
      refine gc_regionU 7 ([blk b10 26 (smQ (idOf (smB (rndU i) tx)) (rndU i) a k c)]) ?_
      refine ypu 0 rfl zfa ?_
      refine ypu 1 rfl (zl (v := .slice a k c) (hv := smQ_at _ _ _ _ _)) ?_
      refine you 2 rfl ?_
      refine gl_mkN (m := 5) (z := .agg (List.replicate 16 (Value.int .u8 0)).toArray) (wt0 rfl) ELT.h (by kernel_rfl) rfl rfl (by omega) (by omega) (by omega) (fun b36 => ?_)
      refine gl_eqc (cs' := (List.replicate 5 (dc dig0)).flatten) (by repeat (first | exact Pick.here | apply Pick.there)) (by kernel_rfl) ?_
      refine yxu ?_
      refine ypu 3 rfl zbu ?_
      refine ypu 4 rfl zbu ?_
      refine you 5 rfl ?_
      refine zeN fun b39 => ?_
      refine yxu ?_
      refine you 6 rfl ?_
      refine zapo (news := sgL b36) (h1 := all_cons' rfl (all_cons' rfl (all_cons' rfl (all_cons' rfl all_nil')))) (fun a40 c40 => ?_)
      refine yxu ?_
      refine yzu ?_
      refine gp zfa ?_
      refine zs1 ?_
      refine gl_eqc (g := b10) (cs' := smQ (idOf (smB (rndU i) tx)) (rndU i) a40 (k + 1) c40) (by repeat (first | exact Pick.here | apply Pick.there)) (by exact smQ_upd _ _ a a40 k c (k + 1) c40) ?_
      refine gl_nil ?_
      refine gx_block_normal ?_
      refine gx_then ?_
      refine gc_region ?_
      refine gp zad ?_
      refine gp zmv ?_
      refine gl_nil ?_
      refine zrd ((k + 1, a40, c40, css ++ [sgL b36])) ?_ ?_
      · show vts v - (k + 1) < vts v - k
        omega
      · intro w' hw
        have h1 := hw.conv (M := [blk b36 23 (List.replicate 5 (dc dig0)).flatten]) (by repeat (first | exact Sel.nil | (apply Sel.cons; · (repeat (first | exact Pick.here | apply Pick.there))))) (fun _ _ => vl_sgL)
        have h2 := h1.conv (M := [ElR RdSigned css (List.replicate k sgE), VlR RdSigned (sgL b36) sgE]) (by repeat (first | exact Sel.nil | (apply Sel.cons; · (repeat (first | exact Pick.here | apply Pick.there))))) (fun _ _ => el_snoc)
        rw [rep_snoc] at h2
        refine St.pureI ⟨show k + 1 ≤ vts v by omega, fun x hx => (by rcases List.mem_append.1 hx with h | h; exact hcs x h; (simp at h; subst h; rfl))⟩ ?_
        rw [show (css ++ [sgL b36]).flatten = css.flatten ++ sgL b36 by simp]
        exact h2.sel (by repeat (first | exact Sel.nil | (apply Sel.cons; · (repeat (first | exact Pick.here | apply Pick.there)))))
    · try simp only at hc33
      have hk' : k = vts v := by omega
      subst hk'
      refine gc_exit ?_
      refine gx_then_exit ?_
      refine gx_round_exit ?_
      refine gx_block_hit ?_
      refine gx_then ?_
      refine gsr ?_
      have i10 := Len.of (smQ_len (idOf (smB (rndU i) tx)) (rndU i) a (vts v) c)
      have j10 := One.of (smQ_one (idOf (smB (rndU i) tx)) (rndU i) a (vts v) c)
      refine gp (zLa (cs := smL b17 (rndU i))) ?_
      refine gp (zLa (cs := smQ (idOf (smB (rndU i) tx)) (rndU i) a (vts v) c)) ?_
      refine gp zbu ?_
      refine zsN ?_
      refine gnt ?_
      refine gc_ret ?_
      refine gx_retc rfl rfl (ld_aggS Ty.row_97 Ty.sz_97 (by repeat (first | exact Pick.here | apply Pick.there)) (by (simp only [List.drop_succ_cons, List.drop_zero, List.take_succ_cons, List.take_zero, List.cons_append, List.nil_append, List.append_assoc, drop_dc, drop_dc', take_dc, take_dc', drop_L, drop_L', take_L, take_L', len_L, Nat.reduceLeDiff, Nat.reduceSub, Nat.reduceAdd, Nat.le_refl, List.length_cons, List.length_append, List.length_nil, dc_length, List.drop_nil, List.take_nil, List.append_nil, List.length_map, List.length_replicate]; first | done | rfl)) (by first | rfl | (simp only [List.drop_succ_cons, List.drop_zero, List.take_succ_cons, List.take_zero, List.cons_append, List.nil_append, List.append_assoc, drop_dc, drop_dc', take_dc, take_dc', drop_L, drop_L', take_L, take_L', len_L, Nat.reduceLeDiff, Nat.reduceSub, Nat.reduceAdd, Nat.le_refl, List.length_cons, List.length_append, List.length_nil, dc_length, List.drop_nil, List.take_nil, List.append_nil, List.length_map, List.length_replicate]; first | done | omega))) ?_
      intro w' hw
      have h1 := hw.conv (M := [rowR 86 1 (some ⟨b17, 0, none⟩) 1 1 [.slice (some ⟨b16, 0, none⟩) 1 1], rowR 5 1 (some ⟨b16, 0, none⟩) 1 1 [B8 tx]]) (by repeat (first | exact Sel.nil | (apply Sel.cons; · (repeat (first | exact Pick.here | apply Pick.there))))) (fun _ _ => vl_smL (n := rndU i))
      have h2 := h1.conv (M := [rowR 140 4 a (vts v) c css.flatten, ElR RdSigned css (List.replicate (vts v) sgE)]) (by repeat (first | exact Sel.nil | (apply Sel.cons; · (repeat (first | exact Pick.here | apply Pick.there))))) (fun _ _ => vl_smQ (id := idOf (smB (rndU i) tx)) (n := rndU i) hcs)
      exact ⟨(smL b17 (rndU i), smQ (idOf (smB (rndU i) tx)) (rndU i) a (vts v) c), rfl, St.pureI ⟨⟨smL_len _ _, smL_one _ _⟩, smQ_len _ _ _ _ _, smQ_one _ _ _ _ _⟩ (h2.sel (by repeat (first | exact Sel.nil | (apply Sel.cons; · (repeat (first | exact Pick.here | apply Pick.there))))))⟩

end Go.Proofs.YtobjojeliibinaaGreatDoor

/- Walks, by program (wg.py) out of a spec. -/
namespace Go.Proofs.YtobjojeliibinaaGreatDoor
open Go
set_option linter.unusedVariables false
set_option linter.unusedSimpArgs false


def recsA (f : Nat → LRec) (k : Nat) : List LRec := (List.range k).map f
theorem recsA_succ (f : Nat → LRec) (k : Nat) : recsA f (k + 1) = recsA f k ++ [f k] := by simp [recsA, List.range_succ]
theorem recsA_len (f : Nat → LRec) (k : Nat) : (recsA f k).length = k := by simp [recsA]
theorem recsA_tot {f : Nat → LRec} (h : ∀ i, lenR (f i) ≤ 7) : ∀ k, tot (recsA f k) ≤ 7 * k
  | 0 => Nat.le_refl _
  | k + 1 => by rw [recsA_succ, tot_snoc]; have := recsA_tot h k; have := h k; omega
theorem lenR_sm (i v : Int) (tx : UInt8) : lenR (smR (rndU i) tx (vts v)) ≤ 7 := by have := sm_sec (n := rndU i) (tx := tx) (rnd_lt i) (vts_lt v); rw [lenR_eq]; omega
theorem smU_ok (i v : Int) (tx : UInt8) : (smR (rndU i) tx (vts v)).Ok := sm_ok (rnd_lt i) (vts_lt v)
theorem recsA_zero (f : Nat → LRec) : recsA f 0 = [] := rfl
def alF (i : Nat) : LRec := smR (rndU ((i + 1 : Nat) : Int)) 7 (vts 0)
theorem al_len (i : Nat) : lenR (alF i) ≤ 7 := lenR_sm _ _ _
theorem alF_eq (i : Nat) : alF i = smR (rndU ((i + 1 : Nat) : Int)) 7 (vts 0) := rfl
def secN (a : Int) : Nat := 2 + ((IntKind.u64.wrap a).tmod 100).toNat
def fuF (v : Int) (tx : UInt8) (i : Nat) : LRec := smR (rndU (i : Int)) tx (vts v)
attribute [local irreducible] Gl Gc Gx Gs Runs Wt

attribute [local irreducible] dc RdRec RdBlock RdQC blkC qcC allE smR recsA alF fuF secN tot rndU vts LdR

set_option maxHeartbeats 400000 in
theorem alive18_ok {w : World} {F : Nat → Prop} (h : stars [] w F) {ea : Nat → Addr} {es : List Nat} [Has es 1] [Has es 2] [Has es 3] [Has es 4] [Has es 6] [Has es 7] [Has es 8] [Has es 12] (hE : GErr es w (fun k => ¬ F k) 340 ea) (hK : KR w (fun k => ¬ F k))  :
    Calls Tryz.prog 40 #[] w (Post w F (fun _ : Unit => .bool true) (fun _ => [])) := by
  refine g_enter (env := []) Tryz.func40 rfl h Tryz.ntmps40 rfl rfl ?_
  refine gsr ?_
  refine gp zas ?_
  refine gnt ?_
  refine gsr ?_
  refine zc (fun g => ?_) (c := fun w1 F1 F2 h1 h2 hd hst => new_ok (ea := ea) (n := 40) h1 (by decide) (by decide))
  refine gp zmv ?_
  refine gp zex ?_
  refine gp zex ?_
  refine gp zas ?_
  refine gp zas ?_
  refine gnt ?_
  refine gc_seq ?_
  refine gsr ?_
  refine gp zmv ?_
  refine gp (r_bool (c := false) (r_nenil rfl (by kernel_rfl)) rfl) ?_
  refine gp zmv ?_
  refine gq zmv ?_
  refine gq (r_bool (c := false) (r_eqpn rfl Ty.un_91) rfl) ?_
  refine gp zpk ?_
  refine gnt ?_
  refine gc_condF rfl rfl ?_
  refine gc_skip ?_
  refine gx_then ?_
  refine gsr ?_
  refine gp zmv ?_
  refine zc (fun q => ?_) (c := fun w1 F1 F2 h1 h2 hd hst => fmtC (n := 40) (bs := 0) h1 (by decide) (by decide) (hE.mv hst.still))
  refine gp zmv ?_
  refine gp zex ?_
  refine gp zex ?_
  refine gp zas ?_
  refine gp zas ?_
  refine gnt ?_
  refine gc_seq ?_
  refine gsr ?_
  refine gp zmv ?_
  refine gp (r_bool (c := false) (r_nenil rfl (by kernel_rfl)) rfl) ?_
  refine gp zmv ?_
  refine gq zmv ?_
  refine gq (r_bool (c := false) (r_eqpn rfl Ty.un_59) rfl) ?_
  refine gp zpk ?_
  refine gnt ?_
  refine gc_condF rfl rfl ?_
  refine gc_skip ?_
  refine gx_then ?_
  refine gc_seq ?_
  refine gsr ?_
  refine gp zmv ?_
  refine gnt ?_
  refine gc_block ?_
  refine gc_loop (α := Nat) (fun k => [pureR (k ≤ 2), LdR q g 40 0 (recsA alF k)]) (fun k => [(27, .int .i64 (k : Int))]) [0, 4, 5, 28, 29, 30, 31, 32, 33, 34, 35, 36, 37, 38, 39, 40] (fun k => 2 - k) 0 ?_ ?_ ?_
  · refine env_start (by kernel_rfl)
  · simp only [recsA_zero]
    exact zlp (Nat.zero_le _)
  · intro k u
    refine gc_pureR (fun hk => ?_)
    replace hk : k ≤ 2 := hk
    have hlen := recsA_len alF k
    have htot := recsA_tot al_len k
    have hsec := sm_sec (tx := 7) (rnd_lt ((k + 1 : Nat) : Int)) (vts_lt 0)
    refine gsr ?_
    refine gp zlt ?_
    refine gnt ?_
    refine gc_seq ?_
    refine gif rfl (fun hc28 => ?_) (fun hc28 => ?_)
    · try simp only at hc28
      have hk' : k < 2 := by omega
      refine gc_skip ?_
      refine gx_then ?_
      refine gc_seq ?_
      refine gc_block ?_
      refine gsr ?_
      refine gp zmv ?_
      refine gp zas ?_
      refine gnt ?_
      refine gsr ?_
      refine gp zmv ?_
      refine gp (r_int (j := ((k + 1 : Nat) : Int)) zad (by omega)) ?_
      refine zc ?_ (c := fun w1 F1 F2 h1 h2 hd hst => small_ok (i := ((k + 1 : Nat) : Int)) (v := 0) (tx := 7) h1 (hE.mv hst.still) (hK.mv hst.still))
      rintro ⟨xb, xc⟩
      refine gl_pureR (fun hxx => ?_)
      obtain ⟨⟨hlb, hob⟩, hlc, hoc⟩ := hxx
      replace hlb : xb.length = 39 := hlb
      replace hlc : xc.length = 19 := hlc
      have ib := Len.of hlb
      have jb := One.of (show ∀ v ∈ xb, v.oneCell' = true from hob)
      have ic := Len.of hlc
      have jc := One.of (show ∀ v ∈ xc, v.oneCell' = true from hoc)
      refine zal fun b5 => ?_
      refine zsN ?_
      refine gnt ?_
      refine gsr ?_
      refine gp zmv ?_
      refine gp zfa ?_
      refine gp (zL (sg := xb)) ?_
      refine gp zfa ?_
      refine gp (zL (sg := xc)) ?_
      refine zc (fun _ => ?_) (c := fun w1 F1 F2 h1 h2 hd hst => appC (b := (smR (rndU ((k + 1 : Nat) : Int)) 7 (vts 0)).b) (c := (smR (rndU ((k + 1 : Nat) : Int)) 7 (vts 0)).c) h1 (hE.mv hst.still) (hK.mv hst.still) (vl_rd h2 hd (by repeat (first | exact Pick.here | apply Pick.there))) (vl_rd h2 hd (by repeat (first | exact Pick.here | apply Pick.there))) (smU_ok _ _ _) (by omega) (by show 0 + tot (recsA alF k) + nsec (smR (rndU ((k + 1 : Nat) : Int)) 7 (vts 0)).data.length + 2 ≤ 40; omega))
      refine gp (r_bool (c := false) (r_nenil rfl (by kernel_rfl)) rfl) ?_
      refine gnt ?_
      refine gc_condF rfl rfl ?_
      refine gc_skip ?_
      refine gx_block_normal ?_
      refine gx_then ?_
      refine gc_region ?_
      refine gp zad ?_
      refine gp zmv ?_
      refine gl_nil ?_
      refine zrd (k + 1) ?_ ?_
      · show 2 - (k + 1) < 2 - k
        omega
      · simp only [recsA_succ, alF_eq]
        exact zlp (show k + 1 ≤ 2 by omega)
    · try simp only at hc28
      have hk' : k = 2 := by omega
      subst hk'
      refine gc_exit ?_
      refine gx_then_exit ?_
      refine gx_round_exit ?_
      refine gx_block_hit ?_
      refine gx_then ?_
      refine gsr ?_
      refine gp zmv ?_
      refine zc (fun _ => ?_) (c := fun w1 F1 F2 h1 h2 hd hst => crashC h1)
      refine gnt ?_
      refine gsr ?_
      refine gp zmv ?_
      refine zc (fun p => ?_) (c := fun w1 F1 F2 h1 h2 hd hst => openC h1 (hE.mv hst.still) (hK.mv hst.still))
      refine gp zmv ?_
      refine gp zex ?_
      refine gp zex ?_
      refine gp zas ?_
      refine gp zas ?_
      refine gnt ?_
      refine gsr ?_
      refine gp zmv ?_
      refine gp (r_bool (c := true) (r_eqnil (k := 0) rfl (by kernel_rfl)) rfl) ?_
      refine gp zmv ?_
      refine gq zmv ?_
      refine gq (r_bool (c := true) (r_nepn rfl Ty.un_59) rfl) ?_
      refine gp zpk ?_
      refine gp zmv ?_
      refine gq zmv ?_
      refine zc (fun _ => ?_) (c := fun w1 F1 F2 h1 h2 hd hst => lenC h1)
      refine gq (r_bool (c := true) zei (by simp [recsA_len])) ?_
      refine gp zpk ?_
      refine gp zas ?_
      refine gnt ?_
      refine gc_ret ?_
      refine gx_ret1 rfl (by conv => lhs; whnf) ?_
      exact ze ()

end Go.Proofs.YtobjojeliibinaaGreatDoor

/- Walks, by program (wg.py) out of a spec. -/
namespace Go.Proofs.YtobjojeliibinaaGreatDoor
open Go
set_option linter.unusedVariables false
set_option linter.unusedSimpArgs false


def smO (o : Op18) : LRec := smR (rndU o.round) o.tx (vts o.votes)
def agR (l : List Op18) (k : Nat) : List LRec := (l.take k).map smO
theorem agR_zero (l : List Op18) : agR l 0 = [] := rfl
theorem agR_succ {l : List Op18} {k : Nat} {o : Op18} (h : l[k]? = some o) : agR l (k + 1) = agR l k ++ [smO o] := by simp [agR, List.take_add_one, h]
theorem agR_len {l : List Op18} {k : Nat} (h : k ≤ l.length) : (agR l k).length = k := by simp [agR]; omega
theorem agR_tot (l : List Op18) : ∀ k, tot (agR l k) ≤ 7 * k
  | 0 => Nat.le_refl _
  | k + 1 => by
    have ih := agR_tot l k
    cases h : l[k]? with
    | none =>
      have e : agR l (k + 1) = agR l k := by simp [agR, List.take_add_one, h]
      rw [e]; omega
    | some o => rw [agR_succ h, tot_snoc]; have := lenR_sm o.round o.votes o.tx; unfold smO; omega
theorem smO_eq (o : Op18) : smR (rndU o.round) o.tx (vts o.votes) = smO o := rfl
theorem smO_sec (o : Op18) : nsec (smO o).data.length ≤ 6 := sm_sec (rnd_lt o.round) (vts_lt o.votes)
theorem smO_ok (o : Op18) : (smO o).Ok := smU_ok _ _ _


def bump (d : Dig) : Dig := ⟨d.l.set 3 (d.l.getD 3 0 + 1), by rw [List.length_set, d.h]⟩
theorem b8_succ (b : UInt8) : Value.int .u8 (IntKind.u8.wrap ((b.toNat : Int) + 1)) = B8 (b + 1) := by
  simp only [B8, Value.int.injEq, true_and]
  have h : (b + 1).toNat = (b.toNat + 1) % 256 := by rw [UInt8.toNat_add]; rfl
  rw [h]
  simp only [IntKind.wrap, IntKind.bits, IntKind.signed]
  simp
attribute [local irreducible] wAt wDig wPut wSigned wBytes wVdr in
attribute [local irreducible] Gl Gc Gx Gs Runs Wt

attribute [local irreducible] dc RdBlock RdQC

end Go.Proofs.YtobjojeliibinaaGreatDoor

/- The engine, part V: maps that are read and not owned; delete; one cell written in a block that is owned in some way. -/
namespace Go.Proofs.YtobjojeliibinaaGreatDoor
open Go
set_option linter.unusedVariables false
set_option linter.unusedSimpArgs false

/-- A map that is read. -/
def RdMap (w : World) (A : Nat → Prop) (g : Nat) (l : List (Value × Value)) : Prop := A g ∧ ∃ es clock, w.heap[g]? = some (.map es clock) ∧ kvs es = l
theorem RdMap.mv {w w' : World} {A A' : Nat → Prop} {g : Nat} {l : List (Value × Value)} (h : RdMap w A g l) (hk : ∀ k, k < w.heap.size → A k → w'.heap[k]? = w.heap[k]? ∧ A' k) : RdMap w' A' g l := by
  obtain ⟨hA, es, clock, hh, hkv⟩ := h
  have := hk g (Array.getElem?_eq_some_iff.1 hh).1 hA
  exact ⟨this.2, es, clock, this.1.trans hh, hkv⟩
theorem mapR.rd {g : Nat} {l : List (Value × Value)} {w : World} {F : Nat → Prop} (h : (mapR g l).on w F) : RdMap w F g l := by
  obtain ⟨hF, es, clock, hh, hk, _⟩ := h
  exact ⟨(hF g).2 rfl, es, clock, hh, hk⟩
section
variable {P : Program} {w0 : World} {F0 : Nat → Prop} {L : List Res} {Q : Exit → Act → World → Prop} {n : Fm} {env : Env} {ops : Array Oper} {rest : List Oper}
variable {d : Option Tmp} {t : Tmp} {ty : TypeId} {pos : String} {af : Array Edge} {gd : Option (Nat × Bool)}
section
variable {α : Type} [DecidableEq α] {K : α → Value}
end
/-- One cell of a block that is owned in some way is written. -/
theorem gl_stAny {T : TypeId} {x y : Operand} {g o : Nat} {v : Value} {L' : List Res} {r r' : Res} (hw : Wt ops n env ⟨none, .store T x y, ty, pos, af, gd⟩ true)
    (hx : ev n env x = .pointer (some ⟨g, o, none⟩)) (hy : ev n env y = v) (hs : szT P T = some 1) (h1 : v.oneCell' = true) (hp : Pick L r L')
    (hr : ∀ w F, r.on w F → F g ∧ ∃ cs T fz, w.heap[g]? = some (.cells cs T fz) ∧ o < cs.size ∧ ∀ w' : World, w'.heap[g]? = some (.cells (cs.setIfInBounds o v) T fz) → (∀ k, k ≠ g → w'.heap[k]? = w.heap[k]?) → r'.on w' F)
    (k : Gl P w0 F0 (r' :: L') ops Q rest n env) : Gl P w0 F0 L ops Q (⟨none, .store T x y, ty, pos, af, gd⟩ :: rest) n env :=
  gl_skip hw (fun w hst => by
    obtain ⟨F, hF, hstp⟩ := hst
    obtain ⟨F1, h1r, _⟩ := stars_pick hp hF
    obtain ⟨hg, cs, T', fz, hh, ho, hk⟩ := hr w F1 h1r
    obtain ⟨ob, hob, hfz⟩ := r.ok h1r g hg
    rw [hh] at hob
    cases hob
    have hrun := run_storeCells_blk (P := P) (T := T') (fz := fz) g o [v] 0 cs.toList w hh (by simpa [okObj] using hfz) (by simp; omega) (by simpa using h1)
    have hu : (updL cs.toList (o + 0) [v]).toArray = cs.setIfInBounds o v := by
      rw [Nat.add_zero, updL_cons (by simpa using ho)]
      simp only [updL, List.nil_append, List.length_nil, Nat.add_zero, List.take_append_drop]
      rw [← Array.toList_setIfInBounds]
    rw [hu] at hrun
    refine ⟨_, ?_, St.setR (r := r) (r' := r') (g := g) (o' := .cells (cs.setIfInBounds o v) T' fz) ⟨F, hF, hstp⟩ hp (fun F2 h2 => ?_) (fun w' F2 h2 hg' hk' => ?_)⟩
    · have hc : v.cells.toList = [v] := by cases v <;> first | rfl | (simp [Value.oneCell'] at h1)
      have hv : v.cells.size = 1 := by rw [← Array.length_toList, hc]; rfl
      simp [execOp, hx, hy, Instr.storeAt, Instr.sureAddr, storeVar, hv, run_sz hs, hc, hrun]
    · exact ⟨(hr w F2 h2).1, (Array.getElem?_eq_some_iff.1 hh).1⟩
    · obtain ⟨_, cs2, T2, fz2, hh2, _, hk2⟩ := hr w F2 h2
      rw [hh] at hh2
      cases hh2
      exact hk2 w' hg' hk') k
/-- The loop's record ahead of all. -/
theorem gx_lp {l : Nat} {r : Loop} {L' : List Res} {e : Exit} (hp : Pick L (lpR l r) L') (h : Gx w0 F0 (lpR l r :: L') Q e n env) : Gx w0 F0 L Q e n env := fun w hw => h w (hw.pick hp)
end
end Go.Proofs.YtobjojeliibinaaGreatDoor

