/- Plain words: what the reader of layer 9 makes of bytes; that it undoes the writer, and the writer it. No program in sight. -/
import Derived.Test.YtffkjjakceojfaaDoorPlC
namespace Go.Proofs.YtffkjjakceojfaaDoor
set_option linter.unusedVariables false

/-- A reading: a value and what is left, or an error's number. -/
abbrev PR (α : Type) := List UInt8 → Except Nat (α × List UInt8)
def pBind {α β : Type} (p : PR α) (f : α → PR β) : PR β := fun b => match p b with
  | .error e => .error e
  | .ok x => f x.1 x.2
def pPure {α : Type} (x : α) : PR α := fun b => .ok (x, b)
def pErr {α : Type} (e : Nat) : PR α := fun _ => .error e
def pTake (n : Nat) : PR (List UInt8) := fun b => if b.length < n then .error 2 else .ok (b.take n, b.drop n)
def valN (l : List UInt8) : Nat := l.foldl (fun n c => n * 256 + c.toNat) 0
def pNum (wd : Nat) : PR Int := pBind (pTake wd) fun l => pPure (valN l : Int)
def digOf (l : List UInt8) : Dig := if h : l.length = 16 then ⟨l, h⟩ else dig0
def pDig : PR Dig := pBind (pTake 16) fun l => pPure (digOf l)
def pMany {α : Type} (one : PR α) : Nat → PR (List α)
  | 0 => pPure []
  | k + 1 => pBind one fun x => pBind (pMany one k) fun l => pPure (x :: l)
def pList {α : Type} (one : PR α) (most : Nat) : PR (List α) := pBind (pNum 1) fun n => if (most : Int) < n then pErr 1 else pMany one n.toNat
def pBytes (most : Nat) : PR (List UInt8) := pBind (pNum 2) fun n => if (most : Int) < n then pErr 1 else pTake n.toNat
def pSig : PR Sig := pBind (pNum 1) fun l => pBind (pList pDig 68) fun c => pBind (pList pDig 5) fun p => pPure ⟨l, c, p⟩
def pSigned : PR Signed := pBind (pNum 1) fun w => pBind pSig fun s => pPure ⟨w, s⟩
def pAt : PR (Int × Int) := pBind (pNum 4) fun e => pBind (pNum 6) fun r => pPure (e, r)
def pQC : PR QC := pBind pAt fun a => pBind pDig fun d => pBind (pList pSigned 7) fun v => pPure ⟨a.1, a.2, d, v⟩
def pLate : PR Late := pBind (pNum 1) fun w => pBind (pNum 6) fun h => pBind pSig fun s => pPure ⟨w, h, s⟩
def pTC : PR TC := pBind pAt fun a => pBind (pList pLate 7) fun l => pPure ⟨a.1, a.2, l⟩
def pVdr : PR Vdr := pBind pDig fun k => pBind (pNum 6) fun p => pPure ⟨k, p⟩
def pBlock : PR Block := pBind pAt fun a => pBind pDig fun d => pBind pQC fun q => pBind (pList (pBytes 16) 4) fun t => pBind (pList pVdr 7) fun v => pPure ⟨a.1, a.2, d, q, t, v⟩
def pChg : PR Chg := pBind (pMany pBlock 3) fun bs => pBind pQC fun q => pPure ⟨bs, q⟩
def pVote : PR Vote := pBind pAt fun a => pBind pDig fun d => pBind pSigned fun s => pPure ⟨a.1, a.2, d, s⟩
def pTmo : PR Tmo := pBind pAt fun a => pBind pQC fun q => pBind pTC fun t => pBind pSigned fun s => pPure ⟨a.1, a.2, q, t, s⟩
def pProp : PR Prop' := pBind pBlock fun b => pBind pTC fun t => pBind pSigned fun s => pPure ⟨b, t, s⟩
def sig0 : Sig := ⟨0, [], []⟩
def sgn0 : Signed := ⟨0, sig0⟩
def qc0 : QC := ⟨0, 0, dig0, []⟩
def tc0 : TC := ⟨0, 0, []⟩
def blk0 : Block := ⟨0, 0, dig0, qc0, [], []⟩
def chg0 : Chg := ⟨[blk0, blk0, blk0], qc0⟩
def msg0 (k : Int) : Msg := ⟨k, ⟨0, 0, dig0, sgn0⟩, ⟨0, 0, qc0, tc0, sgn0⟩, ⟨blk0, tc0, sgn0⟩, dig0, dig0, blk0, chg0⟩
def pBody (k : Int) : PR Msg :=
  if k = 1 then pBind pVote fun v => pPure { msg0 k with vote := v }
  else if k = 2 then pBind pTmo fun v => pPure { msg0 k with tmo := v }
  else if k = 3 then pBind pProp fun v => pPure { msg0 k with prop := v }
  else if k = 4 then pBind pDig fun d => pBind pDig fun e => pPure { msg0 k with wantFrom := d, wantBlock := e }
  else if k = 5 then pBind pBlock fun v => pPure { msg0 k with reply := v }
  else if k = 6 then pBind pChg fun v => pPure { msg0 k with chg := v }
  else pErr 4
def pMsg : PR Msg := pBind (pNum 1) pBody
/-- All bytes are read. -/
def pAll {α : Type} (p : PR α) (b : List UInt8) : Except Nat α := match p b with
  | .error e => .error e
  | .ok x => if x.2 = [] then .ok x.1 else .error 3
/-- A message with its kind's fields alone. -/
def plainM (m : Msg) : Msg :=
  if m.kind = 1 then { msg0 m.kind with vote := m.vote }
  else if m.kind = 2 then { msg0 m.kind with tmo := m.tmo }
  else if m.kind = 3 then { msg0 m.kind with prop := m.prop }
  else if m.kind = 4 then { msg0 m.kind with wantFrom := m.wantFrom, wantBlock := m.wantBlock }
  else if m.kind = 5 then { msg0 m.kind with reply := m.reply }
  else if m.kind = 6 then { msg0 m.kind with chg := m.chg }
  else msg0 m.kind

/-! ### Numbers -/
theorem valN_go (l : List UInt8) (a : Nat) : l.foldl (fun n c => n * 256 + c.toNat) a = a * 256 ^ l.length + valN l := by
  unfold valN
  induction l generalizing a with
  | nil => simp
  | cons c l ih =>
    rw [List.foldl_cons, ih, List.foldl_cons, ih (0 * 256 + c.toNat), List.length_cons, Nat.pow_succ, Nat.add_mul, Nat.zero_mul, Nat.zero_add, Nat.mul_comm (256 ^ l.length) 256, ← Nat.mul_assoc]
    omega
theorem valN_cons (c : UInt8) (l : List UInt8) : valN (c :: l) = c.toNat * 256 ^ l.length + valN l := by
  conv => lhs; unfold valN
  rw [List.foldl_cons, valN_go, Nat.zero_mul, Nat.zero_add]
theorem valN_lt (l : List UInt8) : valN l < 256 ^ l.length := by
  induction l with
  | nil => simp [valN]
  | cons c l ih =>
    rw [valN_cons, List.length_cons, Nat.pow_succ]
    have := c.toNat_lt
    have h2 : c.toNat * 256 ^ l.length ≤ 255 * 256 ^ l.length := Nat.mul_le_mul_right _ (by omega)
    omega
theorem beN_succ (n : Int) (wd : Nat) : beN n (wd + 1) = byteAt n wd :: beN n wd := by
  simp only [beN, List.range_succ_eq_map, List.map_cons, List.map_map]
  congr 1
  apply List.map_congr_left
  intro j hj
  simp only [Function.comp]
  congr 1
  omega
theorem byteAt_nat (n i : Nat) : byteAt (n : Int) i = UInt8.ofNat (n / 256 ^ i) := by
  unfold byteAt
  have e : (2 : Int) ^ (8 * i) = ((256 ^ i : Nat) : Int) := by
    rw [Int.pow_mul]; simp
  rw [e, ← Int.natCast_ediv, show ((n / 256 ^ i : Nat) : Int) % 256 = ((n / 256 ^ i % 256 : Nat) : Int) by simp, Int.toNat_natCast]
  apply UInt8.toNat_inj.1
  simp
theorem valN_beN (n wd : Nat) : valN (beN (n : Int) wd) = n % 256 ^ wd := by
  induction wd with
  | zero => simp [beN, valN, Nat.mod_one]
  | succ wd ih =>
    have e : n % 256 ^ (wd + 1) = n % 256 ^ wd + 256 ^ wd * (n / 256 ^ wd % 256) := by rw [Nat.pow_succ, Nat.mod_mul]
    rw [beN_succ, valN_cons, ih, beN_length, byteAt_nat, UInt8.toNat_ofNat', e]
    rw [Nat.add_comm, Nat.mul_comm]
theorem beN_mod (c v k j : Nat) (h : j ≤ k) : beN ((c * 256 ^ k + v : Nat) : Int) j = beN (v : Int) j := by
  induction j with
  | zero => rfl
  | succ j ih =>
    rw [beN_succ, beN_succ, ih (by omega), byteAt_nat, byteAt_nat]
    congr 1
    apply UInt8.toNat_inj.1
    obtain ⟨d, rfl⟩ : ∃ d, k = j + 1 + d := ⟨k - (j + 1), by omega⟩
    have e : c * 256 ^ (j + 1 + d) + v = v + 256 ^ j * (256 * (256 ^ d * c)) := by
      rw [Nat.pow_add, Nat.pow_succ]
      rw [Nat.add_comm]; congr 1
      rw [Nat.mul_comm c, Nat.mul_assoc, Nat.mul_assoc]
    rw [e, UInt8.toNat_ofNat', UInt8.toNat_ofNat', Nat.add_mul_div_left _ _ (Nat.pow_pos (by decide))]
    omega
theorem beN_valN (l : List UInt8) : beN (valN l : Int) l.length = l := by
  induction l with
  | nil => rfl
  | cons c l ih =>
    rw [List.length_cons, beN_succ, valN_cons, beN_mod _ _ _ _ (Nat.le_refl _), ih, byteAt_nat]
    congr 1
    apply UInt8.toNat_inj.1
    rw [UInt8.toNat_ofNat', Nat.mul_comm, Nat.mul_add_div (Nat.pow_pos (by decide)), Nat.div_eq_of_lt (valN_lt l)]
    have := c.toNat_lt
    omega

/-! ### What is written is read -/
/-- What W writes is what p reads. -/
def Enc {α : Type} (W : α → WS → WS) (p : PR α) : Prop := ∀ x s, (W x s).err = 0 → s.err = 0 ∧ ∃ b, (W x s).bs = s.bs ++ b ∧ ∀ r, p (b ++ r) = .ok (x, r)
/-- What p reads is what W writes. -/
def Dec {α : Type} (W : α → WS → WS) (p : PR α) : Prop := ∀ b x r, p b = .ok (x, r) → ∃ b', b = b' ++ r ∧ ∀ s, s.err = 0 → W x s = ⟨0, s.bs ++ b'⟩
/-- What p reads it reads whatever is behind; cut short it is short. -/
def Loc {α : Type} (p : PR α) : Prop := ∀ b x r, p b = .ok (x, r) → ∃ b', b = b' ++ r ∧ (∀ m, p (b' ++ m) = .ok (x, m)) ∧ ∀ k, k < b'.length → p (b'.take k) = .error 2

theorem pBind_ok {α β : Type} {p : PR α} {f : α → PR β} {b r : List UInt8} {y : β} (h : pBind p f b = .ok (y, r)) : ∃ x r1, p b = .ok (x, r1) ∧ f x r1 = .ok (y, r) := by
  unfold pBind at h
  cases hp : p b with
  | error e => rw [hp] at h; cases h
  | ok x => rw [hp] at h; exact ⟨x.1, x.2, rfl, h⟩
theorem pBind_eq {α β : Type} {p : PR α} {f : α → PR β} {b r : List UInt8} {x : α} (h : p b = .ok (x, r)) : pBind p f b = f x r := by
  unfold pBind; rw [h]
theorem pBind_err {α β : Type} {p : PR α} {f : α → PR β} {b : List UInt8} {e : Nat} (h : p b = .error e) : pBind p f b = .error e := by
  unfold pBind; rw [h]
theorem pTake_ok {n : Nat} {b l r : List UInt8} (h : pTake n b = .ok (l, r)) : b = l ++ r ∧ l.length = n := by
  unfold pTake at h
  split at h
  · cases h
  · simp only [Except.ok.injEq, Prod.mk.injEq] at h
    obtain ⟨rfl, rfl⟩ := h
    simp; omega
theorem pTake_app (l r : List UInt8) : pTake l.length (l ++ r) = .ok (l, r) := by
  simp [pTake]
theorem pNum_app {wd n : Nat} (h : n < 256 ^ wd) (r : List UInt8) : pNum wd (beN (n : Int) wd ++ r) = .ok ((n : Int), r) := by
  have := pTake_app (beN (n : Int) wd) r
  rw [beN_length] at this
  rw [pNum, pBind_eq this, valN_beN, Nat.mod_eq_of_lt h]; rfl
theorem pNum_ok {wd : Nat} {b r : List UInt8} {n : Int} (h : pNum wd b = .ok (n, r)) : ∃ m : Nat, n = m ∧ m < 256 ^ wd ∧ b = beN n wd ++ r := by
  obtain ⟨l, r1, h1, h2⟩ := pBind_ok h
  obtain ⟨rfl, rfl⟩ := pTake_ok h1
  simp only [pPure, Except.ok.injEq, Prod.mk.injEq] at h2
  obtain ⟨rfl, rfl⟩ := h2
  exact ⟨valN l, rfl, valN_lt l, by rw [beN_valN]⟩
theorem wNum_ok {n : Int} {wd : Nat} {s : WS} (hw : wd < 8) (h : (wNum n wd s).err = 0) : s.err = 0 ∧ 0 ≤ n ∧ n < 256 ^ wd ∧ wNum n wd s = ⟨0, s.bs ++ beN n wd⟩ := by
  have e : (2 : Int) ^ (8 * wd) = 256 ^ wd := by rw [Int.pow_mul]; rfl
  unfold wNum at h ⊢
  split at h
  · exfalso
    unfold wFail at h
    split at h
    · simp at h
    · contradiction
  · rename_i hn
    rw [if_neg hn]
    have hn' : 0 ≤ n ∧ n < 256 ^ wd := by rw [← e]; omega
    unfold wFix at h ⊢
    split at h
    · rename_i hs
      rw [if_pos hs, hs]
      exact ⟨rfl, hn'.1, hn'.2, rfl⟩
    · contradiction
theorem wNum_of {n wd : Nat} {s : WS} (h : n < 256 ^ wd) (hs : s.err = 0) : wNum (n : Int) wd s = ⟨0, s.bs ++ beN n wd⟩ := by
  have e : (2 : Int) ^ (8 * wd) = ((256 ^ wd : Nat) : Int) := by rw [Int.pow_mul]; simp
  unfold wNum
  rw [e, if_neg (by omega), wFix, if_pos hs, hs]
theorem wFail_err {k : Nat} (hk : k ≠ 0) (s : WS) : (wFail k s).err ≠ 0 := by
  unfold wFail; split
  · exact hk
  · assumption
theorem wFix_ok {b : List UInt8} {s : WS} (h : (wFix b s).err = 0) : s.err = 0 ∧ wFix b s = ⟨0, s.bs ++ b⟩ := by
  unfold wFix at h ⊢
  split at h
  · rename_i hs; rw [if_pos hs, hs]; exact ⟨rfl, rfl⟩
  · contradiction
theorem wFix_of {b : List UInt8} {s : WS} (hs : s.err = 0) : wFix b s = ⟨0, s.bs ++ b⟩ := by rw [wFix, if_pos hs, hs]

theorem enc_num {wd : Nat} (hw : wd < 8) : Enc (fun n s => wNum n wd s) (pNum wd) := fun n s h => by
  obtain ⟨h1, h2, h3, h4⟩ := wNum_ok hw h
  refine ⟨h1, beN n wd, by simp only [h4], fun r => ?_⟩
  obtain ⟨m, rfl⟩ := Int.eq_ofNat_of_zero_le h2
  exact pNum_app (by have : ((m : Nat) : Int) < ((256 ^ wd : Nat) : Int) := by simpa using h3
                     omega) r
theorem dec_num {wd : Nat} : Dec (fun n s => wNum n wd s) (pNum wd) := fun b n r h => by
  obtain ⟨m, rfl, h2, h3⟩ := pNum_ok h
  exact ⟨beN m wd, h3, fun s hs => wNum_of h2 hs⟩
theorem enc_dig : Enc wDig pDig := fun d s h => by
  obtain ⟨h1, h2⟩ := wFix_ok h
  refine ⟨h1, d.l, by simp only [wDig, h2], fun r => ?_⟩
  have := pTake_app d.l r
  rw [d.h] at this
  rw [pDig, pBind_eq this, digOf, dif_pos d.h]; rfl
theorem dec_dig : Dec wDig pDig := fun b d r h => by
  obtain ⟨l, r1, h1, h2⟩ := pBind_ok h
  obtain ⟨rfl, hl⟩ := pTake_ok h1
  simp only [pPure, Except.ok.injEq, Prod.mk.injEq, digOf, dif_pos hl] at h2
  obtain ⟨rfl, rfl⟩ := h2
  exact ⟨l, rfl, fun s hs => wFix_of hs⟩
/-- One behind the other: first a part, then the rest. -/
theorem enc_bind {α β : Type} {W : α → WS → WS} {p : PR α} (h : Enc W p) {V : β → WS → WS} {q : α → PR β} {g : β → α} (hv : ∀ y s, (V y s).err = 0 → s.err = 0 ∧ ∃ b, (V y s).bs = s.bs ++ b ∧ ∀ r, q (g y) (b ++ r) = .ok (y, r)) :
    Enc (fun y s => V y (W (g y) s)) (pBind p q) := fun y s hs => by
  obtain ⟨h1, b2, e2, k2⟩ := hv y _ hs
  obtain ⟨h3, b1, e1, k1⟩ := h _ _ h1
  refine ⟨h3, b1 ++ b2, by rw [e2, e1, List.append_assoc], fun r => ?_⟩
  rw [List.append_assoc, pBind_eq (k1 _), k2]
theorem dec_bind {α β : Type} {W : α → WS → WS} {p : PR α} (h : Dec W p) {V : β → WS → WS} {q : α → PR β} {g : β → α}
    (hv : ∀ a b y r, q a b = .ok (y, r) → g y = a ∧ ∃ b', b = b' ++ r ∧ ∀ s, s.err = 0 → V y s = ⟨0, s.bs ++ b'⟩) : Dec (fun y s => V y (W (g y) s)) (pBind p q) := fun b y r hb => by
  obtain ⟨x, r1, h1, h2⟩ := pBind_ok hb
  obtain ⟨b1, rfl, k1⟩ := h _ _ _ h1
  obtain ⟨rfl, b2, rfl, k2⟩ := hv _ _ _ _ h2
  exact ⟨b1 ++ b2, by rw [List.append_assoc], fun s hs => by show V y (W (g y) s) = _; rw [k1 s hs, k2 _ rfl, List.append_assoc]⟩
theorem foldl_err {α : Type} {W : α → WS → WS} (h : ∀ x s, (W x s).err = 0 → s.err = 0) : ∀ (l : List α) (s : WS), (l.foldl (fun s x => W x s) s).err = 0 → s.err = 0
  | [], s, hs => hs
  | x :: l, s, hs => h x s (foldl_err h l _ hs)
theorem enc_many {α : Type} {W : α → WS → WS} {p : PR α} (h : Enc W p) : ∀ (l : List α) (s : WS), (l.foldl (fun s x => W x s) s).err = 0 → s.err = 0 ∧ ∃ b, (l.foldl (fun s x => W x s) s).bs = s.bs ++ b ∧ ∀ r, pMany p l.length (b ++ r) = .ok (l, r)
  | [], s, hs => ⟨hs, [], by simp, fun r => rfl⟩
  | x :: l, s, hs => by
    obtain ⟨h1, b2, e2, k2⟩ := enc_many h l (W x s) hs
    obtain ⟨h3, b1, e1, k1⟩ := h _ _ h1
    refine ⟨h3, b1 ++ b2, by rw [List.foldl_cons, e2, e1, List.append_assoc], fun r => ?_⟩
    rw [List.append_assoc, List.length_cons, pMany, pBind_eq (k1 _), pBind_eq (k2 _)]; rfl
theorem dec_many {α : Type} {W : α → WS → WS} {p : PR α} (h : Dec W p) : ∀ (n : Nat) (b : List UInt8) (l : List α) (r : List UInt8), pMany p n b = .ok (l, r) → l.length = n ∧ ∃ b', b = b' ++ r ∧ ∀ s, s.err = 0 → l.foldl (fun s x => W x s) s = ⟨0, s.bs ++ b'⟩
  | 0, b, l, r, hb => by
    simp only [pMany, pPure, Except.ok.injEq, Prod.mk.injEq] at hb
    obtain ⟨rfl, rfl⟩ := hb
    exact ⟨rfl, [], rfl, fun s hs => by rw [← hs]; simp⟩
  | n + 1, b, l, r, hb => by
    obtain ⟨x, r1, h1, h2⟩ := pBind_ok hb
    obtain ⟨l', r2, h3, h4⟩ := pBind_ok h2
    simp only [pPure, Except.ok.injEq, Prod.mk.injEq] at h4
    obtain ⟨rfl, rfl⟩ := h4
    obtain ⟨b1, rfl, k1⟩ := h _ _ _ h1
    obtain ⟨hl, b2, rfl, k2⟩ := dec_many h n _ _ _ h3
    exact ⟨by simp [hl], b1 ++ b2, by rw [List.append_assoc], fun s hs => by rw [List.foldl_cons, k1 s hs, k2 _ rfl, List.append_assoc]⟩
theorem enc_list {α : Type} {W : α → WS → WS} {p : PR α} (h : Enc W p) (most : Nat) : Enc (fun l s => wPut W l most s) (pList p most) := fun l s hs => by
  simp only [wPut] at hs ⊢
  split at hs
  · exact absurd hs (wFail_err (by decide) s)
  · rename_i hn
    rw [if_neg hn]
    obtain ⟨h1, b2, e2, k2⟩ := enc_many h l _ hs
    obtain ⟨h3, b1, e1, k1⟩ := enc_num (wd := 1) (by decide) _ _ h1
    refine ⟨h3, b1 ++ b2, by rw [e2, e1, List.append_assoc], fun r => ?_⟩
    rw [List.append_assoc, pList, pBind_eq (k1 _), if_neg (by omega), Int.toNat_natCast, k2]
theorem dec_list {α : Type} {W : α → WS → WS} {p : PR α} (h : Dec W p) (most : Nat) : Dec (fun l s => wPut W l most s) (pList p most) := fun b l r hb => by
  obtain ⟨n, r1, h1, h2⟩ := pBind_ok hb
  obtain ⟨m, rfl, hm, _⟩ := pNum_ok h1
  obtain ⟨b1, rfl, k1⟩ := dec_num _ _ _ h1
  split at h2
  · cases h2
  · rename_i hn
    rw [Int.toNat_natCast] at h2
    obtain ⟨hl, b2, rfl, k2⟩ := dec_many h _ _ _ _ h2
    refine ⟨b1 ++ b2, by rw [List.append_assoc], fun s hs => ?_⟩
    simp only [wPut]
    rw [if_neg (by omega), hl, show wNum (m : Int) 1 s = _ from k1 s hs, k2 _ rfl, List.append_assoc]
theorem enc_bytes {most : Nat} : Enc (fun b s => wBytes b most s) (pBytes most) := fun l s hs => by
  simp only [wBytes] at hs ⊢
  split at hs
  · exact absurd hs (wFail_err (by decide) s)
  · rename_i hn
    rw [if_neg hn]
    obtain ⟨h1, h2⟩ := wFix_ok hs
    obtain ⟨h3, b1, e1, k1⟩ := enc_num (wd := 2) (by decide) _ _ h1
    refine ⟨h3, b1 ++ l, by simp only [h2, e1, List.append_assoc], fun r => ?_⟩
    rw [List.append_assoc, pBytes, pBind_eq (k1 _), if_neg (by omega), Int.toNat_natCast, pTake_app]
theorem dec_bytes {most : Nat} : Dec (fun b s => wBytes b most s) (pBytes most) := fun b l r hb => by
  obtain ⟨n, r1, h1, h2⟩ := pBind_ok hb
  obtain ⟨m, rfl, hm, _⟩ := pNum_ok h1
  obtain ⟨b1, rfl, k1⟩ := dec_num _ _ _ h1
  split at h2
  · cases h2
  · rename_i hn
    rw [Int.toNat_natCast] at h2
    obtain ⟨rfl, hl⟩ := pTake_ok h2
    refine ⟨b1 ++ l, by rw [List.append_assoc], fun s hs => ?_⟩
    simp only [wBytes]
    rw [if_neg (by omega), hl, show wNum (m : Int) 2 s = _ from k1 s hs, wFix_of rfl, List.append_assoc]

/-! ### Cut short -/
theorem loc_pure {α : Type} (x : α) : Loc (pPure x) := fun b y r h => by
  simp only [pPure, Except.ok.injEq, Prod.mk.injEq] at h
  obtain ⟨rfl, rfl⟩ := h
  exact ⟨[], rfl, fun m => rfl, fun k hk => absurd hk (by simp)⟩
theorem loc_err {α : Type} (e : Nat) : Loc (pErr (α := α) e) := fun b y r h => by cases h
theorem loc_take (n : Nat) : Loc (pTake n) := fun b l r h => by
  obtain ⟨rfl, hl⟩ := pTake_ok h
  refine ⟨l, rfl, fun m => by rw [← hl]; exact pTake_app l m, fun k hk => ?_⟩
  unfold pTake
  rw [if_pos (by rw [List.length_take]; omega)]
theorem loc_bind {α β : Type} {p : PR α} {f : α → PR β} (hp : Loc p) (hf : ∀ x, Loc (f x)) : Loc (pBind p f) := fun b y r h => by
  obtain ⟨x, r1, h1, h2⟩ := pBind_ok h
  obtain ⟨b1, rfl, k1, s1⟩ := hp _ _ _ h1
  obtain ⟨b2, rfl, k2, s2⟩ := hf _ _ _ _ h2
  refine ⟨b1 ++ b2, by rw [List.append_assoc], fun m => by rw [List.append_assoc, pBind_eq (k1 _), k2], fun k hk => ?_⟩
  by_cases hk1 : k < b1.length
  · rw [List.take_append_of_le_length (by omega), pBind_err (s1 k hk1)]
  · obtain ⟨j, rfl⟩ : ∃ j, k = b1.length + j := ⟨k - b1.length, by omega⟩
    rw [List.take_append, pBind_eq (x := x) (r := b2.take j)]
    · exact s2 j (by rw [List.length_append] at hk; omega)
    · rw [List.take_of_length_le (by omega), Nat.add_sub_cancel_left]; exact k1 _
theorem loc_num (wd : Nat) : Loc (pNum wd) := loc_bind (loc_take wd) fun _ => loc_pure _
theorem loc_dig : Loc pDig := loc_bind (loc_take 16) fun _ => loc_pure _
theorem loc_many {α : Type} {p : PR α} (h : Loc p) : ∀ n, Loc (pMany p n)
  | 0 => loc_pure _
  | n + 1 => loc_bind h fun _ => loc_bind (loc_many h n) fun _ => loc_pure _
theorem loc_ite {α : Type} {c : Prop} [Decidable c] {p q : PR α} (hp : Loc p) (hq : Loc q) : Loc (if c then p else q) := by split <;> assumption
theorem loc_list {α : Type} {p : PR α} (h : Loc p) (most : Nat) : Loc (pList p most) := loc_bind (loc_num 1) fun _ => loc_ite (loc_err 1) (loc_many h _)
theorem loc_bytes (most : Nat) : Loc (pBytes most) := loc_bind (loc_num 2) fun _ => loc_ite (loc_err 1) (loc_take _)
theorem loc_sig : Loc pSig := loc_bind (loc_num 1) fun _ => loc_bind (loc_list loc_dig 68) fun _ => loc_bind (loc_list loc_dig 5) fun _ => loc_pure _
theorem loc_signed : Loc pSigned := loc_bind (loc_num 1) fun _ => loc_bind loc_sig fun _ => loc_pure _
theorem loc_at : Loc pAt := loc_bind (loc_num 4) fun _ => loc_bind (loc_num 6) fun _ => loc_pure _
theorem loc_qc : Loc pQC := loc_bind loc_at fun _ => loc_bind loc_dig fun _ => loc_bind (loc_list loc_signed 7) fun _ => loc_pure _
theorem loc_late : Loc pLate := loc_bind (loc_num 1) fun _ => loc_bind (loc_num 6) fun _ => loc_bind loc_sig fun _ => loc_pure _
theorem loc_tc : Loc pTC := loc_bind loc_at fun _ => loc_bind (loc_list loc_late 7) fun _ => loc_pure _
theorem loc_vdr : Loc pVdr := loc_bind loc_dig fun _ => loc_bind (loc_num 6) fun _ => loc_pure _
theorem loc_block : Loc pBlock := loc_bind loc_at fun _ => loc_bind loc_dig fun _ => loc_bind loc_qc fun _ => loc_bind (loc_list (loc_bytes 16) 4) fun _ => loc_bind (loc_list loc_vdr 7) fun _ => loc_pure _
theorem loc_chg : Loc pChg := loc_bind (loc_many loc_block 3) fun _ => loc_bind loc_qc fun _ => loc_pure _
theorem loc_vote : Loc pVote := loc_bind loc_at fun _ => loc_bind loc_dig fun _ => loc_bind loc_signed fun _ => loc_pure _
theorem loc_tmo : Loc pTmo := loc_bind loc_at fun _ => loc_bind loc_qc fun _ => loc_bind loc_tc fun _ => loc_bind loc_signed fun _ => loc_pure _
theorem loc_prop : Loc pProp := loc_bind loc_block fun _ => loc_bind loc_tc fun _ => loc_bind loc_signed fun _ => loc_pure _
theorem loc_body (k : Int) : Loc (pBody k) := by
  unfold pBody
  refine loc_ite (loc_bind loc_vote fun _ => loc_pure _) (loc_ite (loc_bind loc_tmo fun _ => loc_pure _) (loc_ite (loc_bind loc_prop fun _ => loc_pure _) (loc_ite (loc_bind loc_dig fun _ => loc_bind loc_dig fun _ => loc_pure _) (loc_ite (loc_bind loc_block fun _ => loc_pure _) (loc_ite (loc_bind loc_chg fun _ => loc_pure _) (loc_err 4))))))
theorem loc_msg : Loc pMsg := loc_bind (loc_num 1) loc_body

/-! ### The parts of messages -/
theorem pPure_ok {α : Type} {x y : α} {b r : List UInt8} (h : pPure x b = .ok (y, r)) : x = y ∧ b = r := by
  simpa only [pPure, Except.ok.injEq, Prod.mk.injEq] using h
/-- The same of one value. -/
def EncAt {β : Type} (f : WS → WS) (p : PR β) (y : β) : Prop := ∀ s, (f s).err = 0 → s.err = 0 ∧ ∃ b, (f s).bs = s.bs ++ b ∧ ∀ r, p (b ++ r) = .ok (y, r)
theorem encAt_pure {β : Type} (y : β) : EncAt (fun s => s) (pPure y) y := fun s h => ⟨h, [], by simp, fun r => rfl⟩
theorem encAt_bind {α β : Type} {f g : WS → WS} {p : PR α} {q : α → PR β} {x : α} {y : β} (h : EncAt f p x) (k : EncAt g (q x) y) : EncAt (fun s => g (f s)) (pBind p q) y := fun s hs => by
  obtain ⟨h1, b2, e2, k2⟩ := k _ hs
  obtain ⟨h3, b1, e1, k1⟩ := h _ h1
  refine ⟨h3, b1 ++ b2, by rw [e2, e1, List.append_assoc], fun r => ?_⟩
  rw [List.append_assoc, pBind_eq (k1 _), k2]
theorem encAt_many {α : Type} {W : α → WS → WS} {p : PR α} (h : Enc W p) (l : List α) : EncAt (fun s => l.foldl (fun s x => W x s) s) (pMany p l.length) l := fun s hs => enc_many h l s hs
theorem dec_manyAt {α : Type} {W : α → WS → WS} {p : PR α} (h : Dec W p) {n : Nat} {b r : List UInt8} {l : List α} (hb : pMany p n b = .ok (l, r)) : ∃ b', b = b' ++ r ∧ ∀ s, s.err = 0 → l.foldl (fun s x => W x s) s = ⟨0, s.bs ++ b'⟩ := (dec_many h n b l r hb).2
def wAtP (x : Int × Int) (s : WS) : WS := wAt x.1 x.2 s
theorem enc_sig : Enc wSig pSig := fun x s hs => by
  simp only [wSig] at hs ⊢
  obtain ⟨h2, b2, e2, k2⟩ := enc_list enc_dig 5 x.path _ hs
  obtain ⟨h1, b1, e1, k1⟩ := enc_list enc_dig 68 x.chains _ h2
  obtain ⟨h0, b0, e0, k0⟩ := enc_num (wd := 1) (by decide) x.leaf _ h1
  simp only at e0 e1 e2
  refine ⟨h0, b0 ++ b1 ++ b2, ?_, fun r => ?_⟩
  · rw [e2, e1, e0]; simp only [List.append_assoc]
  · unfold pSig; simp only [List.append_assoc]; rw [pBind_eq (k0 _), pBind_eq (k1 _), pBind_eq (k2 _)]; rfl
theorem dec_sig : Dec wSig pSig := fun b x r h => by
  obtain ⟨v0, r0, h0, h⟩ := pBind_ok h
  obtain ⟨v1, r1, h1, h⟩ := pBind_ok h
  obtain ⟨v2, r2, h2, h⟩ := pBind_ok h
  obtain ⟨rfl, rfl⟩ := pPure_ok h
  obtain ⟨b0, rfl, k0⟩ := dec_num _ _ _ h0
  obtain ⟨b1, rfl, k1⟩ := dec_list dec_dig 68 _ _ _ h1
  obtain ⟨b2, rfl, k2⟩ := dec_list dec_dig 5 _ _ _ h2
  refine ⟨b0 ++ b1 ++ b2, by simp only [List.append_assoc], fun s hs => ?_⟩
  have g0 := k0 s hs
  have g1 := k1 (⟨0, s.bs ++ b0⟩ : WS) rfl
  have g2 := k2 (⟨0, s.bs ++ b0 ++ b1⟩ : WS) rfl
  simp only [wSig] at g0 g1 g2 ⊢
  rw [g0, g1, g2]
  simp only [List.append_assoc]
theorem enc_signed : Enc wSigned pSigned := fun x s hs => by
  simp only [wSigned] at hs ⊢
  obtain ⟨h1, b1, e1, k1⟩ := enc_sig x.sig _ hs
  obtain ⟨h0, b0, e0, k0⟩ := enc_num (wd := 1) (by decide) x.who _ h1
  simp only at e0 e1
  refine ⟨h0, b0 ++ b1, ?_, fun r => ?_⟩
  · rw [e1, e0]; simp only [List.append_assoc]
  · unfold pSigned; simp only [List.append_assoc]; rw [pBind_eq (k0 _), pBind_eq (k1 _)]; rfl
theorem dec_signed : Dec wSigned pSigned := fun b x r h => by
  obtain ⟨v0, r0, h0, h⟩ := pBind_ok h
  obtain ⟨v1, r1, h1, h⟩ := pBind_ok h
  obtain ⟨rfl, rfl⟩ := pPure_ok h
  obtain ⟨b0, rfl, k0⟩ := dec_num _ _ _ h0
  obtain ⟨b1, rfl, k1⟩ := dec_sig _ _ _ h1
  refine ⟨b0 ++ b1, by simp only [List.append_assoc], fun s hs => ?_⟩
  have g0 := k0 s hs
  have g1 := k1 (⟨0, s.bs ++ b0⟩ : WS) rfl
  simp only [wSigned] at g0 g1 ⊢
  rw [g0, g1]
  simp only [List.append_assoc]
theorem enc_at : Enc wAtP pAt := fun x s hs => by
  simp only [wAtP, wAt] at hs ⊢
  obtain ⟨h1, b1, e1, k1⟩ := enc_num (wd := 6) (by decide) x.2 _ hs
  obtain ⟨h0, b0, e0, k0⟩ := enc_num (wd := 4) (by decide) x.1 _ h1
  simp only at e0 e1
  refine ⟨h0, b0 ++ b1, ?_, fun r => ?_⟩
  · rw [e1, e0]; simp only [List.append_assoc]
  · unfold pAt; simp only [List.append_assoc]; rw [pBind_eq (k0 _), pBind_eq (k1 _)]; rfl
theorem dec_at : Dec wAtP pAt := fun b x r h => by
  obtain ⟨v0, r0, h0, h⟩ := pBind_ok h
  obtain ⟨v1, r1, h1, h⟩ := pBind_ok h
  obtain ⟨rfl, rfl⟩ := pPure_ok h
  obtain ⟨b0, rfl, k0⟩ := dec_num _ _ _ h0
  obtain ⟨b1, rfl, k1⟩ := dec_num _ _ _ h1
  refine ⟨b0 ++ b1, by simp only [List.append_assoc], fun s hs => ?_⟩
  have g0 := k0 s hs
  have g1 := k1 (⟨0, s.bs ++ b0⟩ : WS) rfl
  simp only [wAtP, wAt] at g0 g1 ⊢
  rw [g0, g1]
  simp only [List.append_assoc]
theorem enc_qc : Enc wQC pQC := fun x s hs => by
  simp only [wQC] at hs ⊢
  obtain ⟨h2, b2, e2, k2⟩ := enc_list enc_signed 7 x.votes _ hs
  obtain ⟨h1, b1, e1, k1⟩ := enc_dig x.block _ h2
  obtain ⟨h0, b0, e0, k0⟩ := enc_at (x.epoch, x.round) _ h1
  simp only [wAtP] at e0 e1 e2
  refine ⟨h0, b0 ++ b1 ++ b2, ?_, fun r => ?_⟩
  · rw [e2, e1, e0]; simp only [List.append_assoc]
  · unfold pQC; simp only [List.append_assoc]; rw [pBind_eq (k0 _), pBind_eq (k1 _), pBind_eq (k2 _)]; rfl
theorem dec_qc : Dec wQC pQC := fun b x r h => by
  obtain ⟨v0, r0, h0, h⟩ := pBind_ok h
  obtain ⟨v1, r1, h1, h⟩ := pBind_ok h
  obtain ⟨v2, r2, h2, h⟩ := pBind_ok h
  obtain ⟨rfl, rfl⟩ := pPure_ok h
  obtain ⟨b0, rfl, k0⟩ := dec_at _ _ _ h0
  obtain ⟨b1, rfl, k1⟩ := dec_dig _ _ _ h1
  obtain ⟨b2, rfl, k2⟩ := dec_list dec_signed 7 _ _ _ h2
  refine ⟨b0 ++ b1 ++ b2, by simp only [List.append_assoc], fun s hs => ?_⟩
  have g0 := k0 s hs
  have g1 := k1 (⟨0, s.bs ++ b0⟩ : WS) rfl
  have g2 := k2 (⟨0, s.bs ++ b0 ++ b1⟩ : WS) rfl
  simp only [wQC, wAtP] at g0 g1 g2 ⊢
  rw [g0, g1, g2]
  simp only [List.append_assoc]
theorem enc_late : Enc wLate pLate := fun x s hs => by
  simp only [wLate] at hs ⊢
  obtain ⟨h2, b2, e2, k2⟩ := enc_sig x.sig _ hs
  obtain ⟨h1, b1, e1, k1⟩ := enc_num (wd := 6) (by decide) x.high _ h2
  obtain ⟨h0, b0, e0, k0⟩ := enc_num (wd := 1) (by decide) x.who _ h1
  simp only at e0 e1 e2
  refine ⟨h0, b0 ++ b1 ++ b2, ?_, fun r => ?_⟩
  · rw [e2, e1, e0]; simp only [List.append_assoc]
  · unfold pLate; simp only [List.append_assoc]; rw [pBind_eq (k0 _), pBind_eq (k1 _), pBind_eq (k2 _)]; rfl
theorem dec_late : Dec wLate pLate := fun b x r h => by
  obtain ⟨v0, r0, h0, h⟩ := pBind_ok h
  obtain ⟨v1, r1, h1, h⟩ := pBind_ok h
  obtain ⟨v2, r2, h2, h⟩ := pBind_ok h
  obtain ⟨rfl, rfl⟩ := pPure_ok h
  obtain ⟨b0, rfl, k0⟩ := dec_num _ _ _ h0
  obtain ⟨b1, rfl, k1⟩ := dec_num _ _ _ h1
  obtain ⟨b2, rfl, k2⟩ := dec_sig _ _ _ h2
  refine ⟨b0 ++ b1 ++ b2, by simp only [List.append_assoc], fun s hs => ?_⟩
  have g0 := k0 s hs
  have g1 := k1 (⟨0, s.bs ++ b0⟩ : WS) rfl
  have g2 := k2 (⟨0, s.bs ++ b0 ++ b1⟩ : WS) rfl
  simp only [wLate] at g0 g1 g2 ⊢
  rw [g0, g1, g2]
  simp only [List.append_assoc]
theorem enc_tc : Enc wTC pTC := fun x s hs => by
  simp only [wTC] at hs ⊢
  obtain ⟨h1, b1, e1, k1⟩ := enc_list enc_late 7 x.lates _ hs
  obtain ⟨h0, b0, e0, k0⟩ := enc_at (x.epoch, x.round) _ h1
  simp only [wAtP] at e0 e1
  refine ⟨h0, b0 ++ b1, ?_, fun r => ?_⟩
  · rw [e1, e0]; simp only [List.append_assoc]
  · unfold pTC; simp only [List.append_assoc]; rw [pBind_eq (k0 _), pBind_eq (k1 _)]; rfl
theorem dec_tc : Dec wTC pTC := fun b x r h => by
  obtain ⟨v0, r0, h0, h⟩ := pBind_ok h
  obtain ⟨v1, r1, h1, h⟩ := pBind_ok h
  obtain ⟨rfl, rfl⟩ := pPure_ok h
  obtain ⟨b0, rfl, k0⟩ := dec_at _ _ _ h0
  obtain ⟨b1, rfl, k1⟩ := dec_list dec_late 7 _ _ _ h1
  refine ⟨b0 ++ b1, by simp only [List.append_assoc], fun s hs => ?_⟩
  have g0 := k0 s hs
  have g1 := k1 (⟨0, s.bs ++ b0⟩ : WS) rfl
  simp only [wTC, wAtP] at g0 g1 ⊢
  rw [g0, g1]
  simp only [List.append_assoc]
theorem enc_vdr : Enc wVdr pVdr := fun x s hs => by
  simp only [wVdr] at hs ⊢
  obtain ⟨h1, b1, e1, k1⟩ := enc_num (wd := 6) (by decide) x.power _ hs
  obtain ⟨h0, b0, e0, k0⟩ := enc_dig x.key _ h1
  simp only at e0 e1
  refine ⟨h0, b0 ++ b1, ?_, fun r => ?_⟩
  · rw [e1, e0]; simp only [List.append_assoc]
  · unfold pVdr; simp only [List.append_assoc]; rw [pBind_eq (k0 _), pBind_eq (k1 _)]; rfl
theorem dec_vdr : Dec wVdr pVdr := fun b x r h => by
  obtain ⟨v0, r0, h0, h⟩ := pBind_ok h
  obtain ⟨v1, r1, h1, h⟩ := pBind_ok h
  obtain ⟨rfl, rfl⟩ := pPure_ok h
  obtain ⟨b0, rfl, k0⟩ := dec_dig _ _ _ h0
  obtain ⟨b1, rfl, k1⟩ := dec_num _ _ _ h1
  refine ⟨b0 ++ b1, by simp only [List.append_assoc], fun s hs => ?_⟩
  have g0 := k0 s hs
  have g1 := k1 (⟨0, s.bs ++ b0⟩ : WS) rfl
  simp only [wVdr] at g0 g1 ⊢
  rw [g0, g1]
  simp only [List.append_assoc]
theorem enc_block : Enc wBlock pBlock := fun x s hs => by
  simp only [wBlock] at hs ⊢
  obtain ⟨h4, b4, e4, k4⟩ := enc_list enc_vdr 7 x.next _ hs
  obtain ⟨h3, b3, e3, k3⟩ := enc_list (enc_bytes (most := 16)) 4 x.payload _ h4
  obtain ⟨h2, b2, e2, k2⟩ := enc_qc x.justify _ h3
  obtain ⟨h1, b1, e1, k1⟩ := enc_dig x.parent _ h2
  obtain ⟨h0, b0, e0, k0⟩ := enc_at (x.epoch, x.round) _ h1
  simp only [wAtP] at e0 e1 e2 e3 e4
  refine ⟨h0, b0 ++ b1 ++ b2 ++ b3 ++ b4, ?_, fun r => ?_⟩
  · rw [e4, e3, e2, e1, e0]; simp only [List.append_assoc]
  · unfold pBlock; simp only [List.append_assoc]; rw [pBind_eq (k0 _), pBind_eq (k1 _), pBind_eq (k2 _), pBind_eq (k3 _), pBind_eq (k4 _)]; rfl
theorem dec_block : Dec wBlock pBlock := fun b x r h => by
  obtain ⟨v0, r0, h0, h⟩ := pBind_ok h
  obtain ⟨v1, r1, h1, h⟩ := pBind_ok h
  obtain ⟨v2, r2, h2, h⟩ := pBind_ok h
  obtain ⟨v3, r3, h3, h⟩ := pBind_ok h
  obtain ⟨v4, r4, h4, h⟩ := pBind_ok h
  obtain ⟨rfl, rfl⟩ := pPure_ok h
  obtain ⟨b0, rfl, k0⟩ := dec_at _ _ _ h0
  obtain ⟨b1, rfl, k1⟩ := dec_dig _ _ _ h1
  obtain ⟨b2, rfl, k2⟩ := dec_qc _ _ _ h2
  obtain ⟨b3, rfl, k3⟩ := dec_list (dec_bytes (most := 16)) 4 _ _ _ h3
  obtain ⟨b4, rfl, k4⟩ := dec_list dec_vdr 7 _ _ _ h4
  refine ⟨b0 ++ b1 ++ b2 ++ b3 ++ b4, by simp only [List.append_assoc], fun s hs => ?_⟩
  have g0 := k0 s hs
  have g1 := k1 (⟨0, s.bs ++ b0⟩ : WS) rfl
  have g2 := k2 (⟨0, s.bs ++ b0 ++ b1⟩ : WS) rfl
  have g3 := k3 (⟨0, s.bs ++ b0 ++ b1 ++ b2⟩ : WS) rfl
  have g4 := k4 (⟨0, s.bs ++ b0 ++ b1 ++ b2 ++ b3⟩ : WS) rfl
  simp only [wBlock, wAtP] at g0 g1 g2 g3 g4 ⊢
  rw [g0, g1, g2, g3, g4]
  simp only [List.append_assoc]
theorem enc_vote : Enc wVote pVote := fun x s hs => by
  simp only [wVote] at hs ⊢
  obtain ⟨h2, b2, e2, k2⟩ := enc_signed x.sender _ hs
  obtain ⟨h1, b1, e1, k1⟩ := enc_dig x.block _ h2
  obtain ⟨h0, b0, e0, k0⟩ := enc_at (x.epoch, x.round) _ h1
  simp only [wAtP] at e0 e1 e2
  refine ⟨h0, b0 ++ b1 ++ b2, ?_, fun r => ?_⟩
  · rw [e2, e1, e0]; simp only [List.append_assoc]
  · unfold pVote; simp only [List.append_assoc]; rw [pBind_eq (k0 _), pBind_eq (k1 _), pBind_eq (k2 _)]; rfl
theorem dec_vote : Dec wVote pVote := fun b x r h => by
  obtain ⟨v0, r0, h0, h⟩ := pBind_ok h
  obtain ⟨v1, r1, h1, h⟩ := pBind_ok h
  obtain ⟨v2, r2, h2, h⟩ := pBind_ok h
  obtain ⟨rfl, rfl⟩ := pPure_ok h
  obtain ⟨b0, rfl, k0⟩ := dec_at _ _ _ h0
  obtain ⟨b1, rfl, k1⟩ := dec_dig _ _ _ h1
  obtain ⟨b2, rfl, k2⟩ := dec_signed _ _ _ h2
  refine ⟨b0 ++ b1 ++ b2, by simp only [List.append_assoc], fun s hs => ?_⟩
  have g0 := k0 s hs
  have g1 := k1 (⟨0, s.bs ++ b0⟩ : WS) rfl
  have g2 := k2 (⟨0, s.bs ++ b0 ++ b1⟩ : WS) rfl
  simp only [wVote, wAtP] at g0 g1 g2 ⊢
  rw [g0, g1, g2]
  simp only [List.append_assoc]
theorem enc_tmo : Enc wTmo pTmo := fun x s hs => by
  simp only [wTmo] at hs ⊢
  obtain ⟨h3, b3, e3, k3⟩ := enc_signed x.sender _ hs
  obtain ⟨h2, b2, e2, k2⟩ := enc_tc x.last _ h3
  obtain ⟨h1, b1, e1, k1⟩ := enc_qc x.high _ h2
  obtain ⟨h0, b0, e0, k0⟩ := enc_at (x.epoch, x.round) _ h1
  simp only [wAtP] at e0 e1 e2 e3
  refine ⟨h0, b0 ++ b1 ++ b2 ++ b3, ?_, fun r => ?_⟩
  · rw [e3, e2, e1, e0]; simp only [List.append_assoc]
  · unfold pTmo; simp only [List.append_assoc]; rw [pBind_eq (k0 _), pBind_eq (k1 _), pBind_eq (k2 _), pBind_eq (k3 _)]; rfl
theorem dec_tmo : Dec wTmo pTmo := fun b x r h => by
  obtain ⟨v0, r0, h0, h⟩ := pBind_ok h
  obtain ⟨v1, r1, h1, h⟩ := pBind_ok h
  obtain ⟨v2, r2, h2, h⟩ := pBind_ok h
  obtain ⟨v3, r3, h3, h⟩ := pBind_ok h
  obtain ⟨rfl, rfl⟩ := pPure_ok h
  obtain ⟨b0, rfl, k0⟩ := dec_at _ _ _ h0
  obtain ⟨b1, rfl, k1⟩ := dec_qc _ _ _ h1
  obtain ⟨b2, rfl, k2⟩ := dec_tc _ _ _ h2
  obtain ⟨b3, rfl, k3⟩ := dec_signed _ _ _ h3
  refine ⟨b0 ++ b1 ++ b2 ++ b3, by simp only [List.append_assoc], fun s hs => ?_⟩
  have g0 := k0 s hs
  have g1 := k1 (⟨0, s.bs ++ b0⟩ : WS) rfl
  have g2 := k2 (⟨0, s.bs ++ b0 ++ b1⟩ : WS) rfl
  have g3 := k3 (⟨0, s.bs ++ b0 ++ b1 ++ b2⟩ : WS) rfl
  simp only [wTmo, wAtP] at g0 g1 g2 g3 ⊢
  rw [g0, g1, g2, g3]
  simp only [List.append_assoc]
theorem enc_prop : Enc wProp pProp := fun x s hs => by
  simp only [wProp] at hs ⊢
  obtain ⟨h2, b2, e2, k2⟩ := enc_signed x.sender _ hs
  obtain ⟨h1, b1, e1, k1⟩ := enc_tc x.last _ h2
  obtain ⟨h0, b0, e0, k0⟩ := enc_block x.block _ h1
  refine ⟨h0, b0 ++ b1 ++ b2, ?_, fun r => ?_⟩
  · rw [e2, e1, e0]; simp only [List.append_assoc]
  · unfold pProp; simp only [List.append_assoc]; rw [pBind_eq (k0 _), pBind_eq (k1 _), pBind_eq (k2 _)]; rfl
theorem dec_prop : Dec wProp pProp := fun b x r h => by
  obtain ⟨v0, r0, h0, h⟩ := pBind_ok h
  obtain ⟨v1, r1, h1, h⟩ := pBind_ok h
  obtain ⟨v2, r2, h2, h⟩ := pBind_ok h
  obtain ⟨rfl, rfl⟩ := pPure_ok h
  obtain ⟨b0, rfl, k0⟩ := dec_block _ _ _ h0
  obtain ⟨b1, rfl, k1⟩ := dec_tc _ _ _ h1
  obtain ⟨b2, rfl, k2⟩ := dec_signed _ _ _ h2
  refine ⟨b0 ++ b1 ++ b2, by simp only [List.append_assoc], fun s hs => ?_⟩
  have g0 := k0 s hs
  have g1 := k1 (⟨0, s.bs ++ b0⟩ : WS) rfl
  have g2 := k2 (⟨0, s.bs ++ b0 ++ b1⟩ : WS) rfl
  simp only [wProp] at g0 g1 g2 ⊢
  rw [g0, g1, g2]
  simp only [List.append_assoc]
theorem enc_chg (x : Chg) (h3 : x.blocks.length = 3) : EncAt (wChg x) pChg x := fun s hs => by
  simp only [wChg] at hs ⊢
  obtain ⟨h1, b1, e1, k1⟩ := enc_qc x.qc _ hs
  obtain ⟨h0, b0, e0, k0⟩ := encAt_many enc_block x.blocks _ h1
  rw [h3] at k0
  refine ⟨h0, b0 ++ b1, ?_, fun r => ?_⟩
  · rw [e1, e0]; simp only [List.append_assoc]
  · unfold pChg; simp only [List.append_assoc]; rw [pBind_eq (k0 _), pBind_eq (k1 _)]; rfl
theorem dec_chg : Dec wChg pChg := fun b x r h => by
  obtain ⟨v0, r0, h0, h⟩ := pBind_ok h
  obtain ⟨v1, r1, h1, h⟩ := pBind_ok h
  obtain ⟨rfl, rfl⟩ := pPure_ok h
  obtain ⟨b0, rfl, k0⟩ := dec_manyAt dec_block h0
  obtain ⟨b1, rfl, k1⟩ := dec_qc _ _ _ h1
  refine ⟨b0 ++ b1, by simp only [List.append_assoc], fun s hs => ?_⟩
  have g0 := k0 s hs
  have g1 := k1 (⟨0, s.bs ++ b0⟩ : WS) rfl
  simp only [wChg] at g0 g1 ⊢
  rw [g0, g1]
  simp only [List.append_assoc]
theorem pChg_three {b r : List UInt8} {x : Chg} (h : pChg b = .ok (x, r)) : x.blocks.length = 3 := by
  obtain ⟨l, r1, h1, h⟩ := pBind_ok h
  obtain ⟨q, r2, h2, h⟩ := pBind_ok h
  obtain ⟨rfl, rfl⟩ := pPure_ok h
  exact (dec_many dec_block 3 _ _ _ h1).1
theorem encAt_map {α β : Type} {f : WS → WS} {p : PR α} {x : α} {g : α → β} (h : EncAt f p x) : EncAt f (pBind p fun v => pPure (g v)) (g x) := fun s hs => by
  obtain ⟨h1, b, e, k⟩ := h s hs
  exact ⟨h1, b, e, fun r => by rw [pBind_eq (k r)]; rfl⟩
theorem enc_body (m : Msg) (h3 : m.chg.blocks.length = 3) (k1 : 1 ≤ m.kind) (k6 : m.kind ≤ 6) : EncAt (wBody m) (pBody m.kind) (plainM m) := by
  unfold wBody pBody plainM
  split
  · exact encAt_map (enc_vote m.vote)
  split
  · exact encAt_map (enc_tmo m.tmo)
  split
  · exact encAt_map (enc_prop m.prop)
  split
  · exact encAt_bind (q := fun d => pBind pDig fun e => pPure ({ msg0 m.kind with wantFrom := d, wantBlock := e } : Msg)) (enc_dig m.wantFrom) (encAt_map (g := fun e => ({ msg0 m.kind with wantFrom := m.wantFrom, wantBlock := e } : Msg)) (enc_dig m.wantBlock))
  split
  · exact encAt_map (enc_block m.reply)
  rw [if_pos (show m.kind = 6 by omega), if_pos (show m.kind = 6 by omega)]
  exact encAt_map (enc_chg m.chg h3)
theorem enc_msg (m : Msg) (h3 : m.chg.blocks.length = 3) (k1 : 1 ≤ m.kind) (k6 : m.kind ≤ 6) : EncAt (wMsg m) pMsg (plainM m) := by
  exact encAt_bind (f := wNum m.kind 1) (g := wBody m) (q := pBody) (enc_num (wd := 1) (by decide) m.kind) (enc_body m h3 k1 k6)
theorem dec_map {α β : Type} {W : α → WS → WS} {p : PR α} (h : Dec W p) {g : α → β} {b r : List UInt8} {y : β} (hb : pBind p (fun v => pPure (g v)) b = .ok (y, r)) : ∃ x b', y = g x ∧ b = b' ++ r ∧ p b = .ok (x, r) ∧ ∀ s, s.err = 0 → W x s = ⟨0, s.bs ++ b'⟩ := by
  obtain ⟨x, r1, h1, h2⟩ := pBind_ok hb
  obtain ⟨rfl, rfl⟩ := pPure_ok h2
  obtain ⟨b', rfl, k⟩ := h _ _ _ h1
  exact ⟨x, b', rfl, rfl, h1, k⟩
theorem dec_body (k : Int) (b r : List UInt8) (m : Msg) (h : pBody k b = .ok (m, r)) : m.kind = k ∧ 1 ≤ k ∧ k ≤ 6 ∧ plainM m = m ∧ m.chg.blocks.length = 3 ∧ ∃ b', b = b' ++ r ∧ ∀ s, s.err = 0 → wBody m s = ⟨0, s.bs ++ b'⟩ := by
  unfold pBody at h
  split at h
  · rename_i hk; subst hk
    obtain ⟨x, b', rfl, rfl, _, k⟩ := dec_map dec_vote h
    exact ⟨rfl, by decide, by decide, rfl, rfl, b', rfl, k⟩
  split at h
  · rename_i _ hk; subst hk
    obtain ⟨x, b', rfl, rfl, _, k⟩ := dec_map dec_tmo h
    exact ⟨rfl, by decide, by decide, rfl, rfl, b', rfl, k⟩
  split at h
  · rename_i _ _ hk; subst hk
    obtain ⟨x, b', rfl, rfl, _, k⟩ := dec_map dec_prop h
    exact ⟨rfl, by decide, by decide, rfl, rfl, b', rfl, k⟩
  split at h
  · rename_i _ _ _ hk; subst hk
    obtain ⟨d, r1, h1, h2⟩ := pBind_ok h
    obtain ⟨x, b2, rfl, rfl, _, k2⟩ := dec_map dec_dig h2
    obtain ⟨b1, rfl, k1⟩ := dec_dig _ _ _ h1
    refine ⟨rfl, by decide, by decide, rfl, rfl, b1 ++ b2, by simp only [List.append_assoc], fun s hs => ?_⟩
    show wDig x (wDig d s) = _
    rw [k1 s hs, k2 _ rfl]; simp only [List.append_assoc]
  split at h
  · rename_i _ _ _ _ hk; subst hk
    obtain ⟨x, b', rfl, rfl, _, k⟩ := dec_map dec_block h
    exact ⟨rfl, by decide, by decide, rfl, rfl, b', rfl, k⟩
  split at h
  · rename_i _ _ _ _ _ hk; subst hk
    obtain ⟨x, b', rfl, rfl, hp, k⟩ := dec_map dec_chg h
    exact ⟨rfl, by decide, by decide, rfl, pChg_three hp, b', rfl, k⟩
  · cases h
theorem dec_msg (b r : List UInt8) (m : Msg) (h : pMsg b = .ok (m, r)) : 1 ≤ m.kind ∧ m.kind ≤ 6 ∧ plainM m = m ∧ m.chg.blocks.length = 3 ∧ (∃ c t, b = c :: t ∧ m.kind = (c.toNat : Int)) ∧ ∃ b', b = b' ++ r ∧ ∀ s, s.err = 0 → wMsg m s = ⟨0, s.bs ++ b'⟩ := by
  obtain ⟨k, r1, h1, h2⟩ := pBind_ok h
  obtain ⟨hk, k1, k6, hp, h3, b2, rfl, e2⟩ := dec_body _ _ _ _ h2
  obtain ⟨j, hj, hj2, hb⟩ := pNum_ok h1
  obtain ⟨b1, rfl, e1⟩ := dec_num _ _ _ h1
  subst hk
  refine ⟨k1, k6, hp, h3, ?_, b1 ++ b2, by simp only [List.append_assoc], fun s hs => ?_⟩
  · rw [hb, hj]
    refine ⟨UInt8.ofNat j, b2 ++ r, ?_, ?_⟩
    · rw [beN_succ, byteAt_nat]; simp [beN]
    · rw [UInt8.toNat_ofNat', Nat.mod_eq_of_lt (by omega)]
  · have e := e1 s hs
    simp only at e
    unfold wMsg
    rw [e, e2 _ rfl]; simp only [List.append_assoc]
/-- All bytes of what was written. -/
theorem pAll_enc {β : Type} {f : WS → WS} {p : PR β} {y : β} (h : EncAt f p y) (he : (f ⟨0, []⟩).err = 0) : pAll p (f ⟨0, []⟩).bs = .ok y := by
  obtain ⟨_, b, e, k⟩ := h _ he
  have := k []
  rw [List.append_nil] at this
  have e' : (f ⟨0, []⟩).bs = b := e.trans (by simp)
  rw [e', pAll, this]; rfl
theorem pAll_ok {β : Type} {p : PR β} {b : List UInt8} {y : β} (h : pAll p b = .ok y) : p b = .ok (y, []) := by
  unfold pAll at h
  cases hp : p b with
  | error e => rw [hp] at h; cases h
  | ok x =>
    rw [hp] at h
    obtain ⟨a, r⟩ := x
    by_cases hr : r = []
    · simp only [hr, if_true, Except.ok.injEq] at h; rw [h, hr]
    · simp only [hr, if_false] at h; cases h
theorem pAll_cut {β : Type} {p : PR β} {b : List UInt8} {y : β} (h : pAll p b = .ok y) (hl : Loc p) {k : Nat} (hk : k < b.length) : pAll p (b.take k) = .error 2 := by
  obtain ⟨b', e, _, s⟩ := hl _ _ _ (pAll_ok h)
  rw [List.append_nil] at e; subst e
  rw [pAll, s k hk]
theorem pAll_more {β : Type} {p : PR β} {b m : List UInt8} {y : β} (h : pAll p b = .ok y) (hl : Loc p) (hm : m ≠ []) : pAll p (b ++ m) = .error 3 := by
  obtain ⟨b', e, k, _⟩ := hl _ _ _ (pAll_ok h)
  rw [List.append_nil] at e; subst e
  rw [pAll, k m]
  simp only [hm, if_false]
end Go.Proofs.YtffkjjakceojfaaDoor
