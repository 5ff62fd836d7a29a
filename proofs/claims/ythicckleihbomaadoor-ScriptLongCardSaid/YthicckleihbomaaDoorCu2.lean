/- Part 2. What is proved: see the last part: for every input the law returns true, and the input reads as it did. -/
import Derived.Test.YthicckleihbomaaDoorCu1
import Derived.Lib.ItoaNum
import Derived.Lib.SplitLaws
import Derived.Lib.IndexBytes
import Derived.Shelf.Strings.Split
import Derived.Shelf.Strings.OnBuilder
import Derived.Shelf.Small.Strs
import Derived.Shelf.Small.Wraps
import Derived.Shelf.Strconv.Itoa3
import Derived.RangeFuncLeaves
import Derived.RangeFuncRecord
import Derived.RangeFuncSeq
import Derived.Lib.Builder
import Derived.Lib.UnsafeStr
/- Script: lines, texts and ops in plain words; what is written is read, what is read is written. -/
namespace Go.Proofs.YthicckleihbomaaDoor
open Go Go.Lib
set_option linter.unusedVariables false
set_option linter.unusedSimpArgs false
abbrev Bs := List UInt8
/-! ### pieces -/
def cutB (c : UInt8) : Bs → List Bs
  | [] => [[]]
  | x :: r => if x = c then [] :: cutB c r else match cutB c r with | p :: ps => (x :: p) :: ps | [] => [[x]]
theorem cut_ne (c : UInt8) : ∀ s, cutB c s ≠ []
  | [] => by simp [cutB]
  | x :: r => by
    simp only [cutB]; split
    · simp
    · split <;> simp
theorem cut_one {c : UInt8} : ∀ {a : Bs}, c ∉ a → cutB c a = [a]
  | [], _ => rfl
  | x :: r, h => by
    rw [List.mem_cons, not_or] at h
    simp only [cutB, if_neg (fun e => h.1 (Eq.symm e)), cut_one h.2]
theorem cut_app {c : UInt8} {b : Bs} : ∀ {a : Bs}, c ∉ a → cutB c (a ++ c :: b) = a :: cutB c b
  | [], _ => by simp [cutB]
  | x :: r, h => by
    rw [List.mem_cons, not_or] at h
    simp only [List.cons_append, cutB, if_neg (fun e => h.1 (Eq.symm e)), cut_app h.2]
theorem cut_no {c : UInt8} : ∀ {s : Bs} {p : Bs}, p ∈ cutB c s → c ∉ p
  | [], p, h => by simp only [cutB, List.mem_singleton] at h; subst h; simp
  | x :: r, p, h => by
    simp only [cutB] at h
    split at h
    · rcases List.mem_cons.1 h with rfl | h
      · simp
      · exact cut_no h
    · rename_i hx
      cases e : cutB c r with
      | nil => exact absurd e (cut_ne c r)
      | cons q qs =>
        rw [e] at h
        rcases List.mem_cons.1 h with rfl | h
        · rw [List.mem_cons, not_or]; exact ⟨fun e => hx e.symm, cut_no (s := r) (by rw [e]; simp)⟩
        · exact cut_no (s := r) (by rw [e]; exact List.mem_cons_of_mem _ h)
def joinB (c : UInt8) : List Bs → Bs
  | [] => []
  | [p] => p
  | p :: q :: r => p ++ c :: joinB c (q :: r)
theorem join_cut (c : UInt8) : ∀ s, joinB c (cutB c s) = s
  | [] => rfl
  | x :: r => by
    have ih := join_cut c r
    simp only [cutB]
    cases e : cutB c r with
    | nil => exact absurd e (cut_ne c r)
    | cons q qs =>
      rw [e] at ih
      split
      · rename_i hx
        subst hx
        show [] ++ x :: joinB x (q :: qs) = _
        rw [ih]; rfl
      · cases qs with
        | nil => simp only [joinB] at ih ⊢; rw [ih]
        | cons a b => simp only [joinB, List.cons_append] at ih ⊢; rw [ih]
theorem cut_join {c : UInt8} : ∀ {ps : List Bs}, ps ≠ [] → (∀ p ∈ ps, c ∉ p) → cutB c (joinB c ps) = ps
  | [], h, _ => absurd rfl h
  | [p], _, h => by simp only [joinB]; exact cut_one (h p (by simp))
  | p :: q :: r, _, h => by
    simp only [joinB]
    rw [cut_app (h p (by simp)), cut_join (by simp) (fun x hx => h x (List.mem_cons_of_mem _ hx))]
/-! ### numbers -/
def num1 : Bs → Nat → Option Nat
  | [], n => some n
  | c :: r, n => if c < 48 ∨ 57 < c then none else num1 r (10 * n + (c.toNat - 48))
def numP (s : Bs) : Option Nat := if s = [] ∨ 6 < s.length ∨ (1 < s.length ∧ s.head? = some 48) then none else num1 s 0
def Dg (c : UInt8) : Prop := 48 ≤ c.toNat ∧ c.toNat ≤ 57
def valB (a : Nat) (s : Bs) : Nat := s.foldl (fun a c => 10 * a + (c.toNat - 48)) a
theorem val_app (a : Nat) (s t : Bs) : valB a (s ++ t) = valB (valB a s) t := by simp [valB]
theorem num1_dg {c : UInt8} : ¬ (c < 48 ∨ 57 < c) ↔ Dg c := by simp only [Dg, UInt8.lt_iff_toNat_lt]; show ¬ (c.toNat < 48 ∨ 57 < c.toNat) ↔ _; omega
theorem num1_eq : ∀ {s : Bs} {a n : Nat}, num1 s a = some n ↔ (∀ c ∈ s, Dg c) ∧ n = valB a s
  | [], a, n => by simp [num1, valB, eq_comm]
  | c :: r, a, n => by
    simp only [num1]
    by_cases h : c < 48 ∨ 57 < c
    · rw [if_pos h]; simp; intro h2; exact absurd h (num1_dg.2 h2)
    · rw [if_neg h, num1_eq]; simp [num1_dg.1 h, valB]
theorem dec_small {u : Nat} (h : u < 10) : decDigits u = [UInt8.ofNat (48 + u)] := by rw [decDigits, dif_pos h]
theorem dec_big {u : Nat} (h : ¬ u < 10) : decDigits u = decDigits (u / 10) ++ [UInt8.ofNat (48 + u % 10)] := by rw [decDigits, dif_neg h]
theorem ofN {d : Nat} (h : d < 10) : (UInt8.ofNat (48 + d)).toNat = 48 + d := by rw [UInt8.toNat_ofNat']; omega
theorem dec_dg (u : Nat) : ∀ c ∈ decDigits u, Dg c := by
  induction u using Nat.strongRecOn with
  | _ u ih =>
    by_cases h : u < 10
    · rw [dec_small h]; simp only [List.mem_singleton, forall_eq]; rw [Dg, ofN h]; omega
    · rw [dec_big h]; intro c hc
      rcases List.mem_append.1 hc with hc | hc
      · exact ih (u / 10) (by omega) c hc
      · rw [List.mem_singleton.1 hc, Dg, ofN (by omega)]; omega
theorem val_dec (u : Nat) : valB 0 (decDigits u) = u := by
  induction u using Nat.strongRecOn with
  | _ u ih =>
    by_cases h : u < 10
    · rw [dec_small h]; simp only [valB, List.foldl, ofN h]; omega
    · rw [dec_big h, val_app, ih (u / 10) (by omega)]; simp only [valB, List.foldl, ofN (show u % 10 < 10 by omega)]; omega
theorem dec_head {u : Nat} (h : 1 ≤ u) : (decDigits u).head? ≠ some 48 := by
  induction u using Nat.strongRecOn with
  | _ u ih =>
    by_cases h1 : u < 10
    · rw [dec_small h1]; simp only [List.head?_cons]; intro e; injection e with e
      have := congrArg UInt8.toNat e; rw [ofN h1] at this; have h2 : (48 : UInt8).toNat = 48 := rfl; omega
    · rw [dec_big h1, List.head?_append]
      have hi := ih (u / 10) (by omega) (by omega)
      cases e : (decDigits (u / 10)).head? with
      | none => rw [List.head?_eq_none_iff] at e; have := decDigits_length (u / 10); rw [e] at this; have := nDigits_pos (u / 10); simp at *; omega
      | some x => rw [e] at hi; simpa using hi
theorem dec_ne (u : Nat) : decDigits u ≠ [] := fun e => by have := decDigits_length u; rw [e] at this; have := nDigits_pos u; simp at *; omega
theorem nD_le : ∀ (k u : Nat), u < 10 ^ (k + 1) → nDigits u ≤ k + 1
  | 0, u, h => by rw [nDigits_small (by simpa using h)]; omega
  | k + 1, u, h => by
    by_cases h1 : u < 10
    · rw [nDigits_small h1]; omega
    · rw [nDigits_big h1]; have := nD_le k (u / 10) (by rw [Nat.pow_succ] at h; omega); omega
theorem numP_dec {n : Nat} (h : n ≤ 999999) : numP (decDigits n) = some n := by
  have hl := decDigits_length n
  have h6 := nD_le 5 n (by omega)
  have : ¬ (decDigits n = [] ∨ 6 < (decDigits n).length ∨ (1 < (decDigits n).length ∧ (decDigits n).head? = some 48)) := by
    rintro (e | e | ⟨e1, e2⟩)
    · exact dec_ne n e
    · omega
    · by_cases h0 : n = 0
      · subst h0; rw [hl, nDigits_small (by omega)] at e1; omega
      · exact dec_head (by omega) e2
  rw [numP, if_neg this, num1_eq]
  exact ⟨dec_dg n, (val_dec n).symm⟩
/-! ### bytes -/
def dg16 (c : UInt8) : Option Nat := if 48 ≤ c.toNat ∧ c.toNat ≤ 57 then some (c.toNat - 48) else if 97 ≤ c.toNat ∧ c.toNat ≤ 102 then some (c.toNat - 87) else none
def hexL : Bs → Option Bs
  | [] => some []
  | [_] => none
  | a :: b :: r => match dg16 a, dg16 b, hexL r with
    | some x, some y, some t => some (UInt8.ofNat (16 * x + y) :: t)
    | _, _, _ => none
def hexP (s : Bs) : Option Bs := if s = [45] then some [] else if s = [] then none else hexL s
def hx (n : Nat) : UInt8 := if n < 10 then UInt8.ofNat (48 + n) else UInt8.ofNat (87 + n)
def hexT (d : Bs) : Bs := d.flatMap fun b => [hx (b.toNat / 16), hx (b.toNat % 16)]
def hexW (d : Bs) : Bs := if d = [] then [45] else hexT d
theorem dg_hx {n : Nat} (h : n < 16) : dg16 (hx n) = some n := by
  unfold hx dg16
  split
  · rw [UInt8.toNat_ofNat']; rw [if_pos (by omega)]; congr 1; omega
  · rw [UInt8.toNat_ofNat']; rw [if_neg (by omega), if_pos (by omega)]; congr 1; omega
theorem hx_dg {c : UInt8} {n : Nat} (h : dg16 c = some n) : hx n = c ∧ n < 16 := by
  unfold dg16 at h
  split at h
  · rename_i hc; injection h with h; subst h
    refine ⟨?_, by omega⟩
    rw [hx, if_pos (by omega), show 48 + (c.toNat - 48) = c.toNat by omega]; exact UInt8.ofNat_toNat
  · split at h
    · rename_i hc; injection h with h; subst h
      refine ⟨?_, by omega⟩
      rw [hx, if_neg (by omega), show 87 + (c.toNat - 87) = c.toNat by omega]; exact UInt8.ofNat_toNat
    · cases h
theorem hexL_T : ∀ (d : Bs), hexL (hexT d) = some d
  | [] => rfl
  | b :: r => by
    have hb := b.toNat_lt
    show hexL (hx (b.toNat / 16) :: hx (b.toNat % 16) :: hexT r) = _
    rw [hexL, dg_hx (by omega), dg_hx (by omega), hexL_T r]
    simp only
    rw [show 16 * (b.toNat / 16) + b.toNat % 16 = b.toNat by omega, UInt8.ofNat_toNat]
theorem hexT_L : ∀ {s d : Bs}, hexL s = some d → hexT d = s ∧ s.length = 2 * d.length
  | [], d, h => by rw [hexL] at h; injection h with h; subst h; simp [hexT]
  | [_], d, h => by rw [hexL] at h; cases h
  | a :: b :: r, d, h => by
    rw [hexL] at h
    split at h
    · rename_i x y t hx' hy ht
      injection h with h; subst h
      have ⟨h1, h2⟩ := hexT_L ht
      obtain ⟨ha, hxl⟩ := hx_dg hx'; obtain ⟨hb, hyl⟩ := hx_dg hy
      have e : (UInt8.ofNat (16 * x + y)).toNat = 16 * x + y := by rw [UInt8.toNat_ofNat']; omega
      refine ⟨?_, by simp [h2]; omega⟩
      show hx _ :: hx _ :: hexT t = _
      rw [e, show (16 * x + y) / 16 = x by omega, show (16 * x + y) % 16 = y by omega, ha, hb, h1]
    · cases h
theorem hx_mem {n : Nat} (h : n < 16) : hx n ≠ 32 ∧ hx n ≠ 10 ∧ hx n ≠ 45 := by
  have : ∀ n : Fin 16, hx n.val ≠ 32 ∧ hx n.val ≠ 10 ∧ hx n.val ≠ 45 := by decide
  exact this ⟨n, h⟩
theorem hexT_no {d : Bs} : ∀ c ∈ hexT d, c ≠ 32 ∧ c ≠ 10 ∧ c ≠ 45 := by
  intro c hc
  simp only [hexT, List.mem_flatMap] at hc
  obtain ⟨b, _, hb⟩ := hc
  have h1 := b.toNat_lt
  rcases List.mem_cons.1 hb with rfl | hb
  · exact hx_mem (by omega)
  · rw [List.mem_singleton.1 hb]; exact hx_mem (by omega)
theorem hexP_W (d : Bs) : hexP (hexW d) = some d := by
  unfold hexW
  split
  · rename_i h; subst h; rfl
  · rename_i h
    have hn : hexT d ≠ [] := by cases d with | nil => exact absurd rfl h | cons a b => simp [hexT]
    have h45 : hexT d ≠ [45] := fun e => (hexT_no 45 (by rw [e]; simp)).2.2 rfl
    rw [hexP, if_neg h45, if_neg hn, hexL_T]
/-! ### powers, bits -/
def allP : List Bs → Option (List Nat)
  | [] => some []
  | s :: r => match numP s, allP r with | some n, some l => some (n :: l) | _, _ => none
def powP (s : Bs) : Option (List Nat) := if s = [45] then some [] else match allP (cutB 44 s) with | some l => if l.length ≤ 7 then some l else none | none => none
def powW (l : List Nat) : Bs := if l = [] then [45] else joinB 44 (l.map decDigits)
theorem allP_dec : ∀ {l : List Nat}, (∀ n ∈ l, n ≤ 999999) → allP (l.map decDigits) = some l
  | [], _ => rfl
  | n :: r, h => by rw [List.map_cons, allP, numP_dec (h n (by simp)), allP_dec fun x hx => h x (List.mem_cons_of_mem _ hx)]
theorem dec_no {n : Nat} : ∀ c ∈ decDigits n, c ≠ 32 ∧ c ≠ 10 ∧ c ≠ 45 ∧ c ≠ 44 := by
  intro c hc
  have h := dec_dg n c hc
  refine ⟨?_, ?_, ?_, ?_⟩ <;> (rintro rfl; revert h; unfold Dg; decide)
theorem mem_join {c x : UInt8} : ∀ {ps : List Bs}, x ∈ joinB c ps → x = c ∨ ∃ p ∈ ps, x ∈ p
  | [], h => by cases h
  | [p], h => .inr ⟨p, by simp, h⟩
  | p :: q :: r, h => by
    simp only [joinB] at h
    rcases List.mem_append.1 h with h | h
    · exact .inr ⟨p, by simp, h⟩
    · rcases List.mem_cons.1 h with h | h
      · exact .inl h
      · rcases mem_join h with h | ⟨p', hp, h⟩
        · exact .inl h
        · exact .inr ⟨p', List.mem_cons_of_mem _ hp, h⟩
theorem powW_no {l : List Nat} : ∀ c ∈ joinB 44 (l.map decDigits), c ≠ 32 ∧ c ≠ 10 ∧ c ≠ 45 := by
  intro c hc
  rcases mem_join hc with rfl | ⟨p, hp, hc⟩
  · decide
  · obtain ⟨n, _, rfl⟩ := List.mem_map.1 hp
    have := dec_no c hc
    exact ⟨this.1, this.2.1, this.2.2.1⟩
theorem powP_W {l : List Nat} (h7 : l.length ≤ 7) (h : ∀ n ∈ l, n ≤ 999999) : powP (powW l) = some l := by
  unfold powW
  split
  · rename_i h; subst h; rfl
  · rename_i h0
    have h45 : joinB 44 (l.map decDigits) ≠ [45] := fun e => (powW_no 45 (by rw [e]; simp)).2.2 rfl
    have hc : cutB 44 (joinB 44 (l.map decDigits)) = l.map decDigits := cut_join (by simpa using h0) (fun p hp => by obtain ⟨n, _, rfl⟩ := List.mem_map.1 hp; exact fun hm => (dec_no _ hm).2.2.2 rfl)
    rw [powP, if_neg h45, hc, allP_dec h]; simp only; rw [if_pos h7]
def bitL : Bs → Option (List Bool)
  | [] => some []
  | c :: r => if c = 48 ∨ c = 49 then (bitL r).map fun t => decide (c = 49) :: t else none
def bitP (s : Bs) : Option (List Bool) := if s = [45] then some [] else if s = [] ∨ 64 < s.length then none else bitL s
def bitT (l : List Bool) : Bs := l.map fun b => if b then 49 else 48
def bitW (l : List Bool) : Bs := if l = [] then [45] else bitT l
theorem bitL_T : ∀ l, bitL (bitT l) = some l
  | [] => rfl
  | b :: r => by cases b <;> simp [bitT, bitL] <;> exact bitL_T r
theorem bitT_no {l : List Bool} : ∀ c ∈ bitT l, c ≠ 32 ∧ c ≠ 10 ∧ c ≠ 45 := by
  intro c hc
  obtain ⟨b, _, rfl⟩ := List.mem_map.1 hc
  cases b <;> decide
theorem bitP_W {l : List Bool} (h : l.length ≤ 64) : bitP (bitW l) = some l := by
  unfold bitW
  split
  · rename_i h; subst h; rfl
  · rename_i h0
    have hn : ¬ (bitT l = [] ∨ 64 < (bitT l).length) := by simp [bitT, h0, h]
    have h45 : bitT l ≠ [45] := fun e => (bitT_no 45 (by rw [e]; simp)).2.2 rfl
    rw [bitP, if_neg h45, if_neg hn, bitL_T]
/-! ### ops -/
structure OpS where
  kind : Int
  node : Int
  n : Int
  set : List Int
  keep : List Bool
  data : Bs
structure FormS where
  kind : Nat
  word : Bs
  parts : Bs
deriving DecidableEq
def forms : List FormS := [⟨1, [100, 101, 108, 105, 118, 101, 114], [110]⟩, ⟨2, [100, 114, 111, 112], [110]⟩, ⟨3, [99, 111, 112, 121], [110]⟩, ⟨4, [116, 105, 99, 107], [105]⟩,
  ⟨5, [115, 117, 98, 109, 105, 116], [105, 104]⟩, ⟨6, [114, 101, 99, 111, 110, 102], [105, 112]⟩, ⟨7, [97, 114, 109], [105, 110]⟩, ⟨8, [99, 114, 97, 115, 104], [105, 98]⟩,
  ⟨9, [114, 97, 119], [105, 104]⟩, ⟨10, [102, 111, 114, 103, 101], [105, 110, 104]⟩]
def setP (o : OpS) (c : UInt8) (s : Bs) : Option OpS :=
  if c = 110 then (numP s).map fun (x : Nat) => { o with n := (x : Int) }
  else if c = 105 then (numP s).map fun (x : Nat) => { o with node := (x : Int) }
  else if c = 104 then (hexP s).map fun x => { o with data := x }
  else if c = 112 then (powP s).map fun x => { o with set := x.map Int.ofNat }
  else if c = 98 then (bitP s).map fun x => { o with keep := x }
  else none
def setsP : OpS → Bs → List Bs → Option OpS
  | o, [], _ => some o
  | o, c :: cs, s :: ss => match setP o c s with | some o' => setsP o' cs ss | none => none
  | _, _ :: _, [] => none
def op0 (k : Nat) : OpS := ⟨k, 0, 0, [], [], []⟩
def formW (ws : List Bs) : Option FormS := forms.find? fun f => decide (ws.head? = some f.word ∧ ws.length = 1 + f.parts.length)
def opP (l : Bs) : Option OpS := match formW (cutB 32 l) with | some f => setsP (op0 f.kind) f.parts (cutB 32 l).tail | none => none
def parL : List Bs → Option (List OpS)
  | [] => none
  | [p] => if p = [] then some [] else none
  | p :: q :: r => match opP p, parL (q :: r) with | some o, some l => some (o :: l) | _, _ => none
def parP (s : Bs) : Option (List OpS) := parL (cutB 10 s)
def numW (n : Int) : Option Bs := if 0 ≤ n ∧ n ≤ 999999 then some (itoa n) else none
def numsW : List Int → Option (List Bs)
  | [] => some []
  | n :: r => match numW n, numsW r with | some s, some t => some (s :: t) | _, _ => none
def powsW (l : List Int) : Option Bs := if l = [] then some [45] else if 7 < l.length then none else (numsW l).map (joinB 44)
def getP (o : OpS) (c : UInt8) : Option Bs :=
  if c = 110 then numW o.n
  else if c = 105 then numW o.node
  else if c = 104 then if o.data.length ≤ 65535 then some (hexW o.data) else none
  else if c = 112 then powsW o.set
  else if o.keep.length ≤ 64 then some (bitW o.keep) else none
def getsP (o : OpS) : Bs → Option Bs
  | [] => some []
  | c :: cs => match getP o c, getsP o cs with | some s, some t => some (32 :: (s ++ t)) | _, _ => none
def formK (k : Int) : Option FormS := forms.find? fun f => decide ((f.kind : Int) = k)
def linP (o : OpS) : Option Bs := match formK o.kind with | some f => (getsP o f.parts).map (f.word ++ ·) | none => none
def linsP : List OpS → Option (List Bs)
  | [] => some []
  | o :: r => match linP o, linsP r with | some s, some t => some (s :: t) | _, _ => none
/-- what an op bears of its kind's parts -/
def partO (p o : OpS) (c : UInt8) : OpS :=
  if c = 110 then { o with n := p.n } else if c = 105 then { o with node := p.node } else if c = 104 then { o with data := p.data } else if c = 112 then { o with set := p.set } else { o with keep := p.keep }
def plainO (p : OpS) : OpS := match formK p.kind with | some f => f.parts.foldl (partO p) (op0 f.kind) | none => op0 0
def Good (c : UInt8) : Prop := c = 110 ∨ c = 105 ∨ c = 104 ∨ c = 112 ∨ c = 98
theorem numW_some {n : Int} {s : Bs} (h : numW n = some s) : ∃ k : Nat, n = k ∧ k ≤ 999999 ∧ s = decDigits k := by
  unfold numW at h
  split at h
  · rename_i hn
    injection h with h
    refine ⟨n.toNat, by omega, by omega, ?_⟩
    rw [← h, itoa, if_neg (by omega)]
  · cases h
theorem numW_nat {k : Nat} (h : k ≤ 999999) : numW (k : Int) = some (decDigits k) := by
  rw [numW, if_pos (by omega), itoa, if_neg (by omega)]; rfl
theorem numsW_some : ∀ {l : List Int} {t : List Bs}, numsW l = some t → ∃ m : List Nat, l = m.map Int.ofNat ∧ (∀ k ∈ m, k ≤ 999999) ∧ t = m.map decDigits
  | [], t, h => by rw [numsW] at h; injection h with h; subst h; exact ⟨[], rfl, by simp, rfl⟩
  | n :: r, t, h => by
    rw [numsW] at h
    split at h
    · rename_i s u hs hu
      injection h with h; subst h
      obtain ⟨k, rfl, hk, rfl⟩ := numW_some hs
      obtain ⟨m, rfl, hm, rfl⟩ := numsW_some hu
      exact ⟨k :: m, rfl, fun x hx => (List.mem_cons.1 hx).elim (fun e => e ▸ hk) (hm x), rfl⟩
    · cases h
theorem powsW_some {l : List Int} {s : Bs} (h : powsW l = some s) : ∃ m : List Nat, l = m.map Int.ofNat ∧ (∀ k ∈ m, k ≤ 999999) ∧ m.length ≤ 7 ∧ s = powW m := by
  unfold powsW at h
  split at h
  · rename_i hl; subst hl; injection h with h; exact ⟨[], rfl, by simp, by simp, h.symm⟩
  · rename_i hl
    split at h
    · cases h
    · rename_i h7
      cases e : numsW l with
      | none => rw [e] at h; cases h
      | some t =>
        rw [e] at h; injection h with h
        obtain ⟨m, rfl, hm, rfl⟩ := numsW_some e
        refine ⟨m, rfl, hm, by simpa using h7, ?_⟩
        rw [powW, if_neg (by rintro rfl; exact hl rfl), ← h]
/-- What was written is read. -/
theorem get_set {p : OpS} (o : OpS) {c : UInt8} (hg : Good c) {s : Bs} (h : getP p c = some s) : setP o c s = some (partO p o c) ∧ ∀ x ∈ s, x ≠ 32 ∧ x ≠ 10 := by
  have hnum : ∀ {n : Int} {s : Bs}, numW n = some s → ∃ k : Nat, n = k ∧ numP s = some k ∧ ∀ x ∈ s, x ≠ 32 ∧ x ≠ 10 := fun h => by
    obtain ⟨k, rfl, hk, rfl⟩ := numW_some h
    exact ⟨k, rfl, numP_dec hk, fun x hx => ⟨(dec_no x hx).1, (dec_no x hx).2.1⟩⟩
  rcases hg with rfl | rfl | rfl | rfl | rfl
  · obtain ⟨k, hk, h1, h2⟩ := hnum (n := p.n) h
    exact ⟨by simp [setP, partO, h1, hk], h2⟩
  · obtain ⟨k, hk, h1, h2⟩ := hnum (n := p.node) h
    exact ⟨by simp [setP, partO, h1, hk], h2⟩
  · have h : (if p.data.length ≤ 65535 then some (hexW p.data) else none) = some s := h
    split at h
    · injection h with h; subst h
      refine ⟨by simp [setP, partO, hexP_W], fun x hx => ?_⟩
      unfold hexW at hx
      split at hx
      · rw [List.mem_singleton.1 hx]; decide
      · exact ⟨(hexT_no x hx).1, (hexT_no x hx).2.1⟩
    · cases h
  · obtain ⟨m, hm, h1, h7, rfl⟩ := powsW_some (l := p.set) h
    refine ⟨by simp [setP, partO, powP_W h7 h1, hm], fun x hx => ?_⟩
    unfold powW at hx
    split at hx
    · rw [List.mem_singleton.1 hx]; decide
    · exact ⟨(powW_no x hx).1, (powW_no x hx).2.1⟩
  · have h : (if p.keep.length ≤ 64 then some (bitW p.keep) else none) = some s := h
    split at h
    · rename_i h64
      injection h with h; subst h
      refine ⟨by simp [setP, partO, bitP_W h64], fun x hx => ?_⟩
      unfold bitW at hx
      split at hx
      · rw [List.mem_singleton.1 hx]; decide
      · exact ⟨(bitT_no x hx).1, (bitT_no x hx).2.1⟩
    · cases h
/-! ### lines -/
def flatB (ss : List Bs) : Bs := ss.flatMap fun s => 32 :: s
theorem join_flat (w : Bs) : ∀ ss, joinB 32 (w :: ss) = w ++ flatB ss
  | [] => by simp [joinB, flatB]
  | s :: r => by rw [joinB, join_flat s r]; simp [flatB]
theorem form_mem {k : Int} {f : FormS} (h : formK k = some f) : f ∈ forms ∧ (f.kind : Int) = k := ⟨List.mem_of_find?_eq_some h, by have := List.find?_some h; simpa using this⟩
theorem forms_good : ∀ f ∈ forms, f.parts.Nodup ∧ (∀ c ∈ f.parts, Good c) ∧ (32 : UInt8) ∉ f.word ∧ (10 : UInt8) ∉ f.word := by
  unfold Good; decide
theorem forms_words : ∀ f ∈ forms, ∀ g ∈ forms, f.word = g.word → f = g := by decide
theorem forms_kinds : ∀ f ∈ forms, ∀ g ∈ forms, f.kind = g.kind → f = g := by decide
theorem find_one {α : Type} {p : α → Bool} : ∀ {l : List α} {a : α}, a ∈ l → p a = true → (∀ b ∈ l, p b = true → b = a) → l.find? p = some a
  | x :: r, a, h, hp, hu => by
    rw [List.find?_cons]
    cases e : p x with
    | true => rw [hu x (by simp) e]
    | false =>
      rcases List.mem_cons.1 h with rfl | h
      · rw [hp] at e; cases e
      · exact find_one h hp fun b hb => hu b (List.mem_cons_of_mem _ hb)
theorem formK_of {f : FormS} (h : f ∈ forms) : formK f.kind = some f := find_one h (by simp) fun g hg hp => forms_kinds g hg f h (by have := of_decide_eq_true hp; omega)
theorem formW_of {f : FormS} {ss : List Bs} (h : f ∈ forms) (hl : ss.length = f.parts.length) : formW (f.word :: ss) = some f :=
  find_one h (by simp [hl]; omega) fun g hg hp => forms_words g hg f h (by have := (of_decide_eq_true hp).1; rw [List.head?_cons] at this; injection this with this; exact this.symm)
theorem gets_sets {p : OpS} : ∀ {cs : Bs} {t : Bs}, (∀ c ∈ cs, Good c) → getsP p cs = some t → ∃ ss, t = flatB ss ∧ ss.length = cs.length ∧ (∀ s ∈ ss, 32 ∉ s ∧ 10 ∉ s) ∧ ∀ o, setsP o cs ss = some (cs.foldl (partO p) o)
  | [], t, _, h => by rw [getsP] at h; injection h with h; subst h; exact ⟨[], rfl, rfl, by simp, fun o => by simp [setsP]⟩
  | c :: cs, t, hg, h => by
    rw [getsP] at h
    split at h
    · rename_i s u hs hu
      injection h with h; subst h
      obtain ⟨ss, rfl, hl, hn, hset⟩ := gets_sets (fun x hx => hg x (List.mem_cons_of_mem _ hx)) hu
      refine ⟨s :: ss, by simp [flatB], by simp [hl], fun x hx => ?_, fun o => ?_⟩
      · rcases List.mem_cons.1 hx with rfl | hx
        · have := (get_set (p := p) p (hg c (by simp)) hs).2
          exact ⟨fun h => (this _ h).1 rfl, fun h => (this _ h).2 rfl⟩
        · exact hn x hx
      · rw [setsP, (get_set o (hg c (by simp)) hs).1]; exact hset _
    · cases h
theorem lin_op {p : OpS} {s : Bs} (h : linP p = some s) : opP s = some (plainO p) ∧ 10 ∉ s ∧ ∃ f, f ∈ forms ∧ (f.kind : Int) = p.kind := by
  unfold linP at h
  split at h
  · rename_i f hf
    obtain ⟨hm, hk⟩ := form_mem hf
    obtain ⟨_, hg, hw, hw2⟩ := forms_good f hm
    cases e : getsP p f.parts with
    | none => rw [e] at h; cases h
    | some t =>
      rw [e] at h; injection h with h; subst h
      obtain ⟨ss, rfl, hl, hn, hset⟩ := gets_sets hg e
      have hc : cutB 32 (f.word ++ flatB ss) = f.word :: ss := by
        rw [← join_flat]; exact cut_join (by simp) fun x hx => (List.mem_cons.1 hx).elim (fun e => e ▸ hw) fun hx => (hn x hx).1
      show opP (f.word ++ flatB ss) = _ ∧ 10 ∉ f.word ++ flatB ss ∧ _
      refine ⟨?_, ?_, f, hm, hk⟩
      · rw [opP, hc, formW_of hm hl]
        show setsP _ _ ss = _
        rw [hset, plainO, hf]
      · intro hx
        rcases List.mem_append.1 hx with hx | hx
        · exact hw2 hx
        · simp only [flatB, List.mem_flatMap] at hx
          obtain ⟨s, hs, hx⟩ := hx
          rcases List.mem_cons.1 hx with hx | hx
          · exact absurd hx (by decide)
          · exact (hn s hs).2 hx
  · cases h
/-! ### texts -/
def textB (ls : List Bs) : Bs := ls.flatMap fun l => l ++ [10]
theorem cut_text : ∀ {ls : List Bs}, (∀ l ∈ ls, 10 ∉ l) → cutB 10 (textB ls) = ls ++ [[]]
  | [], _ => rfl
  | l :: r, h => by
    show cutB 10 ((l ++ [10]) ++ textB r) = _
    rw [List.append_assoc, List.singleton_append, cut_app (h l (by simp)), cut_text fun x hx => h x (List.mem_cons_of_mem _ hx)]; rfl
def opsP : List Bs → Option (List OpS)
  | [] => some []
  | l :: r => match opP l, opsP r with | some o, some t => some (o :: t) | _, _ => none
theorem parL_app : ∀ ls : List Bs, parL (ls ++ [[]]) = opsP ls
  | [] => rfl
  | [l] => by simp only [List.singleton_append, parL, opsP]; rfl
  | l :: m :: r => by
    have := parL_app (m :: r)
    rw [List.cons_append] at this
    rw [List.cons_append, List.cons_append, parL, this]; rfl
theorem parP_text {ls : List Bs} (h : ∀ l ∈ ls, 10 ∉ l) : parP (textB ls) = opsP ls := by rw [parP, cut_text h, parL_app]
theorem lins_ops : ∀ {l : List OpS} {ls : List Bs}, linsP l = some ls → opsP ls = some (l.map plainO) ∧ ∀ x ∈ ls, 10 ∉ x
  | [], ls, h => by rw [linsP] at h; injection h with h; subst h; exact ⟨rfl, by simp⟩
  | o :: r, ls, h => by
    rw [linsP] at h
    split at h
    · rename_i s t hs ht
      injection h with h; subst h
      obtain ⟨h1, h2⟩ := lins_ops ht
      obtain ⟨g1, g2, _⟩ := lin_op hs
      exact ⟨by rw [opsP, g1, h1]; rfl, fun x hx => (List.mem_cons.1 hx).elim (fun e => e ▸ g2) (h2 x)⟩
    · cases h
theorem text_parse {l : List OpS} {ls : List Bs} (h : linsP l = some ls) : parP (textB ls) = some (l.map plainO) := by
  obtain ⟨h1, h2⟩ := lins_ops h
  rw [parP_text h2, h1]
end Go.Proofs.YthicckleihbomaaDoor

/- Script: the library's contracts (laid at this program), in the engine's words. -/
namespace Go.Proofs.YthicckleihbomaaDoor
open Go Go.Shelf Go.Lib Go.RowKit
set_option linter.unusedVariables false
set_option linter.unusedSimpArgs false

theorem St.belowS {w0 w w' : World} {F0 : Nat → Prop} {L : List Res} (hs : St w0 F0 L w) (hb : Below w.heap.size w w') : St w0 F0 L w' := by
  obtain ⟨F, hF, hst⟩ := hs
  have hlt := stars_lt hF
  exact ⟨F, stars_loc hF fun k hk => hb.block k (hlt k hk), hst.os ▸ hb.os, hst.tape ▸ hb.tape, hst.output ▸ hb.output, Nat.le_trans hst.size hb.size, fun k hk hn => (hb.block k (Nat.lt_of_lt_of_le hk hst.size)).trans (hst.block k hk hn), hst.own⟩
theorem str_data (b : List UInt8) : (str b).data.toList = b := rfl
theorem ix_none {c : UInt8} : ∀ {b : List UInt8}, c ∉ b → indexByte b c = -1
  | [], _ => rfl
  | x :: r, h => by
    rw [List.mem_cons, not_or] at h
    have hx : (x == c) = false := by simpa using fun e => h.1 (Eq.symm e)
    rw [indexByte, hx, ix_none h.2]; rfl
theorem ix_at {c : UInt8} {r : List UInt8} : ∀ {a : List UInt8}, c ∉ a → indexByte (a ++ c :: r) c = a.length
  | [], _ => by simp [indexByte]
  | x :: l, h => by
    rw [List.mem_cons, not_or] at h
    have hx : (x == c) = false := by simpa using fun e => h.1 (Eq.symm e)
    have hm : ¬ (((l.length : Nat) : Int) == -1) = true := fun e => by have := beq_iff_eq.1 e; omega
    rw [List.cons_append, indexByte, hx, ix_at h.2, if_neg hm]
    simp
/-- s at its first c -/
theorem ix_cases (c : UInt8) (s : List UInt8) : (c ∉ s ∧ indexByte s c = -1) ∨ ∃ a r, s = a ++ c :: r ∧ c ∉ a ∧ indexByte s c = a.length := by
  by_cases h : c ∈ s
  · obtain ⟨a, r, rfl, hn⟩ := List.eq_append_cons_of_mem h
    exact .inr ⟨a, r, rfl, hn, ix_at hn⟩
  · exact .inl ⟨h, ix_none h⟩
theorem splitK_cut (c : UInt8) : ∀ (n : Nat) (s : List UInt8), s.length ≤ n → splitK [c] 0 (count s [c]) s = cutB c s
  | 0, s, h => by
    have : s = [] := List.eq_nil_of_length_eq_zero (by omega)
    subst this; rfl
  | n + 1, s, h => by
    rcases ix_cases c s with ⟨hn, hi⟩ | ⟨a, r, rfl, hn, hi⟩
    · rw [count_miss (by rw [index_one]; exact hi), cut_one hn]; rfl
    · have hx : index (a ++ c :: r) [c] = a.length := by rw [index_one]; exact hi
      have hm : ¬ (((a.length : Nat) : Int) == -1) = true := fun e => by have := beq_iff_eq.1 e; omega
      have hd : (a ++ c :: r).drop (a.length + 1) = r := by simp [List.drop_append]
      rw [count_hit (by simp) hx, Nat.add_comm, splitK, hx, if_neg hm, cut_app hn]
      simp only [Int.toNat_natCast, Nat.add_zero, List.take_left, List.length_singleton]
      rw [hd, splitK_cut c n r (by simp at h; omega)]
theorem splitB_cut (c : UInt8) (s : List UInt8) : splitB ⟨#[c]⟩ 0 (countB (str s) ⟨#[c]⟩) (str s) = (cutB c s).map str := by
  have h := splitB_data ⟨#[c]⟩ 0 (countB (str s) ⟨#[c]⟩) (str s)
  have e : countB (str s) ⟨#[c]⟩ = count s [c] := rfl
  rw [e] at h ⊢
  have h2 := splitK_cut c s.length s (Nat.le_refl _)
  rw [show (⟨#[c]⟩ : ByteArray).data.toList = [c] from rfl, str_data, h2] at h
  rw [← h, List.map_map]
  conv => lhs; rw [← List.map_id (splitB ⟨#[c]⟩ 0 (count s [c]) (str s))]
  refine List.map_congr_left fun x _ => ?_
  show x = str x.data.toList
  rfl
section
variable {w : World} {F : Nat → Prop}
theorem ixb_ok {b : List UInt8} {c : UInt8} (h : stars [] w F) : Calls Tryd.prog 33 #[.string (str b), .int .u8 c.toNat] w (Post w F (fun _ : Unit => .int .i64 (indexByte b c)) (fun _ => [])) :=
  Calls.mono (Any.strings_IndexByte Tryd.ixbA (str b) c.toNat w) fun e w' ⟨he, hw⟩ => ⟨(), by rw [he, str_data]; simp, by rw [hw]; exact St.init h⟩
theorem ix1_ok {b : List UInt8} {c : UInt8} (h : stars [] w F) : Calls Tryd.prog 61 #[.string (str b), .string (str [c])] w (Post w F (fun _ : Unit => .int .i64 (indexByte b c)) (fun _ => [])) :=
  Calls.mono (Any.strings_Index_one Tryd.idxA (str b) c w) fun e w' ⟨he, hw⟩ => ⟨(), by rw [he, str_data], by rw [hw]; exact St.init h⟩
theorem cutS_ok {s p : List UInt8} (h : stars [] w F) (hs : s.length ≤ 9223372036854775807) : Calls Tryd.prog 18 #[.string (str s), .string (str p)] w
    (Post w F (fun _ : Unit => .tuple #[.string (str (trimSuffix s p)), .bool (hasSuffix s p)]) (fun _ => [])) :=
  Calls.mono (Any.strings_CutSuffix Tryd.cutA (str s) (str p) w (by rw [str_size]; exact hs)) fun e w' ⟨he, hw⟩ => ⟨(), by rw [he]; rfl, by rw [hw]; exact St.init h⟩
theorem gsp_ok {s : List UInt8} {c : UInt8} (h : stars [] w F) (hs : s.length < 4294967281) : Calls Tryd.prog 49 #[.string (str s), .string (str [c]), .int .i64 0, .int .i64 (-1)] w
    (Post w F (fun g : Nat => .slice (some ⟨g, 0, none⟩) (cutB c s).length (cutB c s).length) (fun g => [rowR 9 1 (some ⟨g, 0, none⟩) (cutB c s).length (cutB c s).length ((cutB c s).map fun p => .string (str p))])) := by
  have hz : (str s).size < 4294967281 := by rw [str_size]; exact hs
  have hI : ∀ (x : ByteArray) (cs : Array Value), x.size ≤ (str s).size → Calls Tryd.prog 61 #[.string x, .string ⟨#[c]⟩] (w.alloc (.cells cs 9)) fun e w' => e = .returned (.int .i64 (indexB x ⟨#[c]⟩)) ∧ w' = w.alloc (.cells cs 9) := fun x cs _ =>
    Calls.mono (Any.strings_Index_one Tryd.idxA x c _) fun e w' ⟨he, hw⟩ => ⟨by rw [he]; show _ = Ending.returned (.int .i64 (index x.data.toList [c])); rw [index_one], hw⟩
  have hC : Calls Tryd.prog 60 #[.string (str s), .string ⟨#[c]⟩] w fun e w' => e = .returned (.int .i64 (countB (str s) ⟨#[c]⟩)) ∧ w' = w :=
    Calls.mono (Any.strings_Count_one Tryd.cntA (str s) c w) fun e w' ⟨he, hw⟩ => ⟨by rw [he]; show _ = Ending.returned (.int .i64 ((count s [c] : Nat) : Int)); rw [count_one]; rfl, hw⟩
  have hle : countB (str s) ⟨#[c]⟩ ≤ (str s).size := countB_le ⟨#[c]⟩ (Nat.le_refl 1) _ _ (Nat.le_refl _)
  have hg := Any.strings_genSplit_core Tryd.gspA (by kernel_rfl) (str s) ⟨#[c]⟩ 0 (-1) (countB (str s) ⟨#[c]⟩ + 1) w hz (Nat.le_refl 1) (Nat.zero_le _) hI hC (by decide) (by decide) (by rw [if_pos (by decide)]; omega)
  rw [Nat.add_sub_cancel, splitB_cut] at hg
  have hlm : ((cutB c s).map str).length = (cutB c s).length := List.length_map ..
  have hlen : (cutB c s).length = countB (str s) ⟨#[c]⟩ + 1 := by
    rw [← hlm, ← splitB_cut]; exact splitB_all ⟨#[c]⟩ (Nat.le_refl 1) 0 _ (str s) rfl
  have hc2 : cellsOf ((cutB c s).map str) (countB (str s) ⟨#[c]⟩ + 1) = ((cutB c s).map fun p => Value.string (str p)).toArray := by
    rw [← hlen, ← hlm, cellsOf_full, List.map_map]; rfl
  rw [hc2, List.length_map, ← hlen] at hg
  refine Calls.mono hg fun e w' ⟨he, hw⟩ => ⟨w.heap.size, by rw [he], ?_⟩
  subst hw
  refine (St.init h).newRow (w' := w.alloc _) (cs := ((cutB c s).map fun p => Value.string (str p)).toArray) (fz := (0, 0)) rfl rfl rfl rfl (fun j _ h => by simp at h) ?_ (Nat.le_refl _) ?_ ?_
  · rw [List.toList_toArray, Nat.mul_one]; exact List.take_of_length_le (by simp)
  · rw [hlen]; simp only [maxLen]; omega
  · simp
/-- The table of powers of ten. -/
def TenR (w : World) : Prop := TabIs Tryd.prog w "internal/strconv.uint64pow10" .u64 pow10Tab
theorem itoa_ok {n : Int} (h : stars [] w F) (h0 : -9223372036854775808 ≤ n) (h1 : n ≤ 9223372036854775807) (hT : TenR w) : Calls Tryd.prog 54 #[.int .i64 n] w (Post w F (fun _ : Unit => .string (str (itoa n))) (fun _ => [])) := by
  refine Calls.mono (Any.strconv_Itoa Tryd.itoA n h0 h1 w hT) fun e w' ⟨he, k, os, hw⟩ => ⟨(), by rw [he]; rfl, ?_⟩
  subst hw
  refine (St.init h).belowS ⟨rfl, rfl, rfl, by simp [Sort.grow, World.drewN], fun k hk => ?_⟩
  show (w.heap ++ os)[k]? = w.heap[k]?
  rw [Array.getElem?_append_left hk]
end
end Go.Proofs.YthicckleihbomaaDoor

/- Script: the reference's words for an op, and texts of a given length. -/
namespace Go.Proofs.YthicckleihbomaaDoor
open Go Go.Lib
set_option linter.unusedVariables false
set_option linter.unusedSimpArgs false
def okN (n : Int) : Bool := decide (0 ≤ n) && decide (n ≤ 999999)
theorem kinds_of {k : Int} : (∃ f, f ∈ forms ∧ (f.kind : Int) = k) ↔ 1 ≤ k ∧ k ≤ 10 := by
  constructor
  · rintro ⟨f, hf, rfl⟩
    have : ∀ f ∈ forms, 1 ≤ f.kind ∧ f.kind ≤ 10 := by decide
    have := this f hf
    omega
  · intro h
    have h' : k = 1 ∨ k = 2 ∨ k = 3 ∨ k = 4 ∨ k = 5 ∨ k = 6 ∨ k = 7 ∨ k = 8 ∨ k = 9 ∨ k = 10 := by omega
    rcases h' with rfl | rfl | rfl | rfl | rfl | rfl | rfl | rfl | rfl | rfl <;> simp [forms]
theorem numW_ok (n : Int) : (numW n).isSome = okN n := by
  unfold numW okN
  by_cases h : 0 ≤ n ∧ n ≤ 999999
  · rw [if_pos h]; simp [h]
  · rw [if_neg h]
    by_cases h1 : 0 ≤ n
    · have : ¬ n ≤ 999999 := fun h2 => h ⟨h1, h2⟩
      simp [this]
    · simp [h1]
theorem get_n (o : OpS) : (getP o 110).isSome = okN o.n := numW_ok _
theorem get_i (o : OpS) : (getP o 105).isSome = okN o.node := numW_ok _
theorem get_b (o : OpS) : (getP o 98).isSome = decide (o.keep.length ≤ 64) := by
  show (if o.keep.length ≤ 64 then some (bitW o.keep) else none).isSome = _
  by_cases h : o.keep.length ≤ 64 <;> simp [h]
/-- how many bytes a text has -/
def totB (ls : List Bs) : Nat := (ls.map fun l => l.length + 1).sum
theorem textB_len : ∀ ls, (textB ls).length = totB ls
  | [] => rfl
  | l :: r => by have := textB_len r; simp only [textB, totB, List.flatMap_cons, List.map_cons, List.sum_cons, List.length_append, List.length_singleton] at this ⊢; omega
/-- ScriptLong's ops -/
def tickO : OpS := ⟨4, 0, 0, [], [], []⟩
def dropO (k : Nat) : OpS := ⟨2, 0, k, [], [], []⟩
def tickB : Bs := [116, 105, 99, 107, 32, 48]
theorem lin_tick : linP tickO = some tickB := by
  have h0 : decDigits 0 = [48] := by rw [dec_small (by decide)]; rfl
  show (getsP tickO [105]).map _ = _
  rw [getsP, show getP tickO 105 = numW ((0 : Nat) : Int) from rfl, numW_nat (by decide), h0]; rfl
theorem lin_drop {k : Nat} (h : k ≤ 999999) : linP (dropO k) = some ([100, 114, 111, 112, 32] ++ decDigits k) := by
  show (getsP (dropO k) [110]).map _ = _
  rw [getsP, show getP (dropO k) 110 = numW (k : Int) from rfl, numW_nat h]; simp [getsP]
theorem lins_ticks : ∀ m : Nat, linsP (List.replicate m tickO) = some (List.replicate m tickB)
  | 0 => rfl
  | m + 1 => by rw [List.replicate_succ, linsP, lin_tick, lins_ticks m]; rfl
theorem lins_app : ∀ {a b : List OpS} {x y : List Bs}, linsP a = some x → linsP b = some y → linsP (a ++ b) = some (x ++ y)
  | [], b, x, y, h1, h2 => by rw [linsP] at h1; injection h1 with h1; subst h1; exact h2
  | o :: r, b, x, y, h1, h2 => by
    rw [linsP] at h1
    split at h1
    · rename_i s t hs ht
      injection h1 with h1; subst h1
      rw [List.cons_append, linsP, hs, lins_app ht h2]; rfl
    · cases h1
def onesN : Nat → Nat
  | 0 => 0
  | r + 1 => 10 * onesN r + 1
theorem long_lins {m r : Nat} (h : onesN r ≤ 999999) : linsP (List.replicate m tickO ++ [dropO (onesN r)]) = some (List.replicate m tickB ++ [[100, 114, 111, 112, 32] ++ decDigits (onesN r)]) :=
  lins_app (lins_ticks m) (by rw [linsP, lin_drop h]; rfl)
theorem totB_app (a b : List Bs) : totB (a ++ b) = totB a + totB b := by simp [totB]
theorem totB_ticks (m : Nat) : totB (List.replicate m tickB) = 7 * m := by
  simp [totB, tickB]; omega
theorem long_len {m r : Nat} (h1 : 1 ≤ r) (h6 : r ≤ 6) : totB (List.replicate m tickB ++ [[100, 114, 111, 112, 32] ++ decDigits (onesN r)]) = 7 * m + 6 + r := by
  have hd : (decDigits (onesN r)).length = r := by
    rw [decDigits_length]
    have h' : r = 1 ∨ r = 2 ∨ r = 3 ∨ r = 4 ∨ r = 5 ∨ r = 6 := by omega
    rcases h' with rfl | rfl | rfl | rfl | rfl | rfl
    · exact nDigits_unique 0 _ (by decide) (by decide)
    · exact nDigits_unique 1 _ (by decide) (by decide)
    · exact nDigits_unique 2 _ (by decide) (by decide)
    · exact nDigits_unique 3 _ (by decide) (by decide)
    · exact nDigits_unique 4 _ (by decide) (by decide)
    · exact nDigits_unique 5 _ (by decide) (by decide)
  rw [totB_app, totB_ticks]
  simp only [totB, List.map_cons, List.map_nil, List.sum_cons, List.sum_nil, List.length_append, List.length_cons, List.length_nil, hd]; omega
end Go.Proofs.YthicckleihbomaaDoor

/- Script: a text's lines one by one; steps of the loops. -/
namespace Go.Proofs.YthicckleihbomaaDoor
open Go Go.Lib
set_option linter.unusedVariables false
set_option linter.unusedSimpArgs false
def allL {α β : Type} (f : α → Option β) : List α → Option (List β)
  | [] => some []
  | x :: r => match f x, allL f r with | some y, some t => some (y :: t) | _, _ => none
theorem allL_snoc {α β : Type} {f : α → Option β} {x : α} {y : β} : ∀ {l : List α} {t : List β}, allL f l = some t → f x = some y → allL f (l ++ [x]) = some (t ++ [y])
  | [], t, h, hx => by rw [allL] at h; injection h with h; subst h; simp [allL, hx]
  | z :: r, t, h, hx => by
    rw [allL] at h
    split at h
    · rename_i y' t' hy ht
      injection h with h; subst h
      rw [List.cons_append, allL, hy, allL_snoc ht hx]; rfl
    · cases h
theorem allL_none {α β : Type} {f : α → Option β} {x : α} (hx : f x = none) : ∀ {l : List α}, x ∈ l → allL f l = none
  | z :: r, h => by
    rcases List.mem_cons.1 h with rfl | h
    · rw [allL, hx]
    · rw [allL, allL_none hx h]; cases f z <;> rfl
theorem allP_allL : ∀ l, allP l = allL numP l
  | [] => rfl
  | s :: r => by rw [allP, allL, allP_allL r]; cases numP s <;> cases allL numP r <;> rfl
theorem linsP_allL : ∀ l, linsP l = allL linP l
  | [] => rfl
  | s :: r => by rw [linsP, allL, linsP_allL r]; cases linP s <;> cases allL linP r <;> rfl
theorem numsW_allL : ∀ l, numsW l = allL numW l
  | [] => rfl
  | s :: r => by rw [numsW, allL, numsW_allL r]; cases numW s <;> cases allL numW r <;> rfl
def lnsP : List Bs → List Bs
  | [] => []
  | [p] => if p = [] then [] else [p]
  | p :: q :: r => (p ++ [10]) :: lnsP (q :: r)
/-- strings.Lines -/
def linesL (s : Bs) : List Bs := lnsP (cutB 10 s)
theorem lines_nil : linesL [] = [] := rfl
theorem lines_miss {s : Bs} (h : 10 ∉ s) (h0 : s ≠ []) : linesL s = [s] := by rw [linesL, cut_one h, lnsP, if_neg h0]
theorem lines_hit {a r : Bs} (h : 10 ∉ a) : linesL (a ++ 10 :: r) = (a ++ [10]) :: linesL r := by
  rw [linesL, cut_app h, linesL]
  cases e : cutB 10 r with
  | nil => exact absurd e (cut_ne 10 r)
  | cons p q => rfl
/-- one line, its end and all -/
def ln1 (x : Bs) : Option OpS := if hasSuffix x [10] = true then opP (trimSuffix x [10]) else none
theorem suf_hit (a : Bs) : hasSuffix (a ++ [10]) [10] = true ∧ trimSuffix (a ++ [10]) [10] = a := by
  have h : hasSuffix (a ++ [10]) [10] = true := by simp [hasSuffix]
  exact ⟨h, by rw [trimSuffix, if_pos h]; simp⟩
theorem suf_miss {a : Bs} (h : 10 ∉ a) : hasSuffix a [10] = false ∧ trimSuffix a [10] = a := by
  have h1 : hasSuffix a [10] = false := by
    cases e : hasSuffix a [10] with
    | false => rfl
    | true =>
      have : [10] <:+ a := by simpa [hasSuffix] using e
      exact absurd (this.subset (by simp)) h
  exact ⟨h1, by rw [trimSuffix, h1]; simp⟩
theorem parL_lns : ∀ {ps : List Bs}, ps ≠ [] → (∀ p ∈ ps, 10 ∉ p) → parL ps = allL ln1 (lnsP ps)
  | [], h, _ => absurd rfl h
  | [p], _, h => by
    rw [parL, lnsP]
    by_cases hp : p = []
    · rw [if_pos hp, if_pos hp]; rfl
    · rw [if_neg hp, if_neg hp, allL, ln1, (suf_miss (h p (by simp))).1]; rfl
  | p :: q :: r, _, h => by
    rw [parL, lnsP, allL, ln1, (suf_hit p).1, if_pos rfl, (suf_hit p).2, parL_lns (by simp) fun x hx => h x (List.mem_cons_of_mem _ hx)]
    cases opP p <;> cases allL ln1 (lnsP (q :: r)) <;> rfl
theorem parP_lines (s : Bs) : parP s = allL ln1 (linesL s) := parL_lns (cut_ne 10 s) fun p hp => cut_no hp
theorem lines_len {x : Bs} : ∀ {ps : List Bs}, x ∈ lnsP ps → x.length ≤ (joinB 10 ps).length
  | [p], h => by
    rw [lnsP] at h
    split at h
    · cases h
    · rw [List.mem_singleton.1 h]; exact Nat.le_refl _
  | p :: q :: r, h => by
    rw [lnsP] at h
    rw [joinB]
    rcases List.mem_cons.1 h with rfl | h
    · simp
    · have := lines_len h; simp; omega
theorem line_len {x s : Bs} (h : x ∈ linesL s) : x.length ≤ s.length := by have := lines_len h; rwa [join_cut] at this
theorem trim_len (x p : Bs) : (trimSuffix x p).length ≤ x.length := by unfold trimSuffix; split <;> simp
/-- at place k of a list -/
theorem drop_at {α : Type} {l : List α} {k : Nat} (h : k < l.length) : ∃ x r, l.drop k = x :: r ∧ l[k]? = some x ∧ l.drop (k + 1) = r ∧ x ∈ l ∧ l.take (k + 1) = l.take k ++ [x] :=
  ⟨l[k], l.drop (k + 1), List.drop_eq_getElem_cons h, List.getElem?_eq_getElem h, rfl, List.getElem_mem h, (List.take_append_getElem h).symm⟩
theorem drop_cons {α : Type} {l r : List α} {k : Nat} {x : α} (h : l.drop k = x :: r) : k < l.length ∧ l[k]? = some x ∧ l.drop (k + 1) = r ∧ x ∈ l ∧ l.take (k + 1) = l.take k ++ [x] := by
  have hk : k < l.length := by
    rcases Nat.lt_or_ge k l.length with h' | h'
    · exact h'
    · rw [List.drop_eq_nil_of_le h'] at h; cases h
  obtain ⟨y, r', e, h1, h2, h3, h4⟩ := drop_at hk
  rw [h] at e
  injection e with e1 e2
  subst e1; subst e2
  exact ⟨hk, h1, h2, h3, h4⟩
theorem b8_get {s : Bs} {k : Nat} {c : UInt8} (h : s[k]? = some c) : (s.map B8)[k]? = some (B8 c) := by rw [List.getElem?_map, h]; rfl
theorem pow6 {a k : Nat} (h : a < 10 ^ k) (hk : k ≤ 6) : a ≤ 999999 := by
  have : 10 ^ k ≤ 10 ^ 6 := Nat.pow_le_pow_right (by decide) hk
  omega
theorem num_step {c : UInt8} {r : Bs} {a : Nat} (h : ¬ (c.toNat : Int) < 48) (h2 : ¬ (57 : Int) < (c.toNat : Int)) : num1 (c :: r) a = num1 r (10 * a + (c.toNat - 48)) := by
  rw [num1, if_neg (num1_dg.2 ⟨by omega, by omega⟩)]
theorem num_bad {c : UInt8} {r : Bs} {a : Nat} (h : (c.toNat : Int) < 48 ∨ (57 : Int) < (c.toNat : Int)) : num1 (c :: r) a = none := by
  rw [num1, if_pos]
  rcases h with h | h
  · left; rw [UInt8.lt_iff_toNat_lt]; show c.toNat < 48; omega
  · right; rw [UInt8.lt_iff_toNat_lt]; show 57 < c.toNat; omega
theorem numP_long {s : Bs} (h : (6 : Int) < (s.length : Int)) : numP s = none := by rw [numP, if_pos (.inr (.inl (by omega)))]
theorem numP_zero {c : UInt8} {r : Bs} (h : c.toNat = 48) (h1 : (1 : Int) < ((c :: r).length : Int)) : numP (c :: r) = none := by
  have : c = 48 := UInt8.toNat_inj.1 (by rw [h]; rfl)
  rw [numP, if_pos (.inr (.inr ⟨by omega, by rw [this]; rfl⟩))]
theorem numP_go {s : Bs} (h0 : ¬ s = []) (h6 : ¬ (6 : Int) < (s.length : Int)) (h1 : ∀ c r, s = c :: r → (1 : Int) < (s.length : Int) → c.toNat ≠ 48) : numP s = num1 s 0 := by
  rw [numP, if_neg]
  rintro (h | h | ⟨h, h2⟩)
  · exact h0 h
  · omega
  · cases s with
    | nil => cases h2
    | cons c r => rw [List.head?_cons] at h2; injection h2 with h2; exact h1 c r rfl (by omega) (by rw [h2]; rfl)
def bit1 (c : UInt8) : Option Bool := if c = 48 ∨ c = 49 then some (decide (c = 49)) else none
theorem bitL_allL : ∀ l, bitL l = allL bit1 l
  | [] => rfl
  | c :: r => by
    rw [bitL, allL, bit1, bitL_allL r]
    by_cases h : c = 48 ∨ c = 49
    · rw [if_pos h, if_pos h]; cases allL bit1 r <;> rfl
    · rw [if_neg h, if_neg h]
theorem allL_len {α β : Type} {f : α → Option β} : ∀ {l : List α} {t : List β}, allL f l = some t → t.length = l.length
  | [], t, h => by rw [allL] at h; injection h with h; subst h; rfl
  | x :: r, t, h => by
    rw [allL] at h
    split at h
    · rename_i y u hy hu
      injection h with h; subst h
      simp [allL_len hu]
    · cases h
theorem bit1_int {c : UInt8} : (¬ (c.toNat : Int) = 48 → ¬ (c.toNat : Int) = 49 → bit1 c = none) ∧ (((c.toNat : Int) = 48 ∨ (c.toNat : Int) = 49) → bit1 c = some (decide ((c.toNat : Int) = 49))) := by
  have e (n : UInt8) : c = n ↔ (c.toNat : Int) = n.toNat := by rw [← UInt8.toNat_inj]; omega
  have e48 := e 48
  have e49 := e 49
  have h48 : ((48 : UInt8).toNat : Int) = 48 := rfl
  have h49 : ((49 : UInt8).toNat : Int) = 49 := rfl
  rw [h48] at e48
  rw [h49] at e49
  constructor
  · intro h1 h2
    rw [bit1, if_neg (by rw [e48, e49]; exact fun h => h.elim h1 h2)]
  · intro h
    rw [bit1, if_pos (by rw [e48, e49]; exact h)]
    simp only [e49]
theorem bitP_go {s : Bs} (h0 : ¬ s = [45]) : bitP s = if s = [] ∨ 64 < s.length then none else allL bit1 s := by rw [bitP, if_neg h0, bitL_allL]
theorem bit_end {s : Bs} {l : List Bool} (h0 : ¬ s = [45]) (h : ¬ s = []) (hl : allL bit1 s = some l) : (bitP s).isSome = decide ((l.length : Int) ≤ 64) ∧ ∀ l', bitP s = some l' → l = l' := by
  have hn := allL_len hl
  rw [bitP_go h0, hl]
  by_cases h64 : 64 < s.length
  · rw [if_pos (.inr h64)]
    exact ⟨(decide_eq_false (by omega)).symm, fun _ h => by cases h⟩
  · rw [if_neg (fun hh => hh.elim h h64)]
    exact ⟨(decide_eq_true (by omega)).symm, fun _ h => by injection h⟩
theorem hex_cat : ∀ {t l : Bs} (u : Bs), hexL t = some l → hexL (t ++ u) = (hexL u).map (l ++ ·)
  | [], l, u, h => by rw [hexL] at h; injection h with h; subst h; show hexL u = _; cases hexL u <;> rfl
  | [_], l, u, h => by rw [hexL] at h; cases h
  | a :: b :: r, l, u, h => by
    rw [hexL] at h
    split at h
    · rename_i x y t hx' hy ht
      injection h with h; subst h
      rw [List.cons_append, List.cons_append, hexL, hx', hy, hex_cat u ht]
      cases hexL u <;> rfl
    · cases h
/-- IndexByte over the sixteen digits -/
def hexesB : Bs := [48, 49, 50, 51, 52, 53, 54, 55, 56, 57, 97, 98, 99, 100, 101, 102]
def dgI (c : UInt8) : Int := match dg16 c with | some n => (n : Int) | none => -1
theorem hexes_ix (c : UInt8) : indexByte hexesB c = dgI c := by
  have h : ∀ n : Fin 256, indexByte hexesB (UInt8.ofNat n.val) = dgI (UInt8.ofNat n.val) := by decide +kernel
  have := h ⟨c.toNat, c.toNat_lt⟩
  rwa [UInt8.ofNat_toNat] at this
theorem dgI_lt (c : UInt8) : dgI c < 16 ∧ -1 ≤ dgI c := by
  unfold dgI
  cases e : dg16 c with
  | none => simp
  | some n => have := (hx_dg e).2; simp only; omega
theorem dgI_neg {c : UInt8} : dgI c < 0 ↔ dg16 c = none := by
  unfold dgI
  cases e : dg16 c with
  | none => simp
  | some n => simp only; constructor
              · intro h; omega
              · intro h; cases h
theorem hex_two {t l : Bs} {a b : UInt8} (h : hexL t = some l) (ha : ¬ dgI a < 0) (hb : ¬ dgI b < 0) : hexL (t ++ [a, b]) = some (l ++ [UInt8.ofNat (16 * dgI a + dgI b).toNat]) := by
  rw [hex_cat _ h]
  rw [dgI_neg] at ha hb
  obtain ⟨x, hx'⟩ := Option.ne_none_iff_exists'.1 ha
  obtain ⟨y, hy⟩ := Option.ne_none_iff_exists'.1 hb
  rw [hexL, hx', hy, hexL]
  simp only [Option.map_some]
  congr 3
  have h1 : dgI a = x := by unfold dgI; rw [hx']
  have h2 : dgI b = y := by unfold dgI; rw [hy]
  rw [h1, h2, show (16 * (x : Int) + (y : Int)).toNat = 16 * x + y by omega]
theorem hex_bad {t l r : Bs} {a b : UInt8} (h : hexL t = some l) (hab : dgI a < 0 ∨ dgI b < 0) : hexL (t ++ a :: b :: r) = none := by
  rw [hex_cat _ h, hexL]
  rcases hab with h1 | h1
  · rw [dgI_neg] at h1; rw [h1]; rfl
  · rw [dgI_neg] at h1; rw [h1]; cases dg16 a <;> rfl
theorem u8_of {x : Int} (h0 : 0 ≤ x) (h1 : x ≤ 255) : Value.int .u8 (IntKind.u8.wrap x) = B8 (UInt8.ofNat x.toNat) := by
  have e : (UInt8.ofNat x.toNat).toNat = x.toNat := by rw [UInt8.toNat_ofNat']; omega
  have e2 : IntKind.u8.wrap x = x := wrap_u8 h0 (by omega)
  rw [B8, e, e2]; congr 1; omega
theorem drop_two {s : Bs} {i : Nat} (h : 2 * i + 2 ≤ s.length) : ∃ a b r, s = s.take (2 * i) ++ a :: b :: r ∧ s[2 * i]? = some a ∧ s[2 * i + 1]? = some b ∧ s.take (2 * (i + 1)) = s.take (2 * i) ++ [a, b] := by
  obtain ⟨a, r, e1, g1, e2, _, t1⟩ := drop_at (l := s) (k := 2 * i) (by omega)
  obtain ⟨b, r2, e3, g2, e4, _, t2⟩ := drop_at (l := s) (k := 2 * i + 1) (by omega)
  refine ⟨a, b, r2, ?_, g1, g2, ?_⟩
  · rw [← e3, e2, ← e1, List.take_append_drop]
  · rw [show 2 * (i + 1) = 2 * i + 1 + 1 by omega, t2, t1]; simp
theorem hexP_go {s : Bs} (h0 : ¬ s = [45]) : hexP s = if s = [] then none else hexL s := by rw [hexP, if_neg h0]
theorem hex_odd {s : Bs} (h : s.length % 2 ≠ 0) : hexL s = none := by
  cases e : hexL s with
  | none => rfl
  | some l => have := (hexT_L e).2; omega
theorem powP_go {s : Bs} (h0 : ¬ s = [45]) : powP s = match allL numP (cutB 44 s) with | some l => if l.length ≤ 7 then some l else none | none => none := by (rw [powP, if_neg h0, allP_allL]) <;> (cases allL numP (cutB 44 s) <;> rfl)
end Go.Proofs.YthicckleihbomaaDoor

/- The engine, part R: ranges over functions: the iterator's calls of yield, and the statement. -/
namespace Go.Proofs.YthicckleihbomaaDoor
open Go
set_option linter.unusedVariables false
set_option linter.unusedSimpArgs false

/-- A loop's record, and the block of its rounds' deferred calls. -/
def lpR (l : Nat) (r : Loop) : Res where
  on w F := (∀ k, F k ↔ k = l) ∧ w.heap[l]? = some (.loop r)
  loc := fun ⟨hF, h⟩ hk => ⟨hF, (hk l ((hF l).2 rfl)).trans h⟩
  ok := fun ⟨hF, h⟩ k hk => by rw [(hF k).1 hk]; exact ⟨_, h, trivial⟩
def dfR (b : Nat) : Res where
  on w F := (∀ k, F k ↔ k = b) ∧ w.heap[b]? = some (.deferred (some []))
  loc := fun ⟨hF, h⟩ hk => ⟨hF, (hk b ((hF b).2 rfl)).trans h⟩
  ok := fun ⟨hF, h⟩ k hk => by rw [(hF k).1 hk]; exact ⟨_, h, trivial⟩
def mkD (b : Nat) : Deferred := { target := .collected b, args := #[] }

/-- What the rounds promise: at the i-th call of yield, with x. -/
def RoundsAt (P : Program) (l : Nat) {α : Type} (enc : Nat → α → Array Value) (G : Nat → α → List Res) (J : Nat → Res) (Jx : Res) (w0 : World) (F0 : Nat → Prop) : Prop :=
  ∀ i x w (F1 F2 : Nat → Prop), stars (G i x ++ [J i]) w F1 → (∀ k, F1 k → ¬ F2 k) → Stp w0 F0 w (fun k => F1 k ∨ F2 k) →
    YieldAt (FR none) 0 P l (enc i x) w (Post w F1 (fun b : Bool => .bool b) fun b => [bif b then J (i + 1) else Jx])

theorem pick_app {r : Res} {L : List Res} : ∀ (G : List Res), Pick (G ++ r :: L) r (G ++ L)
  | [] => .here
  | _ :: G => .there (pick_app G)
theorem stars_out1 {r : Res} {G L : List Res} {w : World} {F : Nat → Prop} (h : stars (G ++ r :: L) w F) : stars (r :: (G ++ L)) w F := (pick_app G).stars h
theorem stars_in1 {r : Res} : ∀ {G L : List Res} {w : World} {F : Nat → Prop}, stars (r :: (G ++ L)) w F → stars (G ++ r :: L) w F
  | [], _, _, _, h => h
  | g :: G, L, w, F, h => by
    have h2 : stars (g :: (r :: (G ++ L))) w F := (Pick.there (Pick.here)).stars h
    obtain ⟨F1, F2, h1, h2, hF, hd⟩ := h2
    exact ⟨F1, F2, h1, stars_in1 h2, hF, hd⟩

theorem stars_tail {B : List Res} : ∀ {A : List Res} {w : World} {F : Nat → Prop}, stars (A ++ B) w F → stars (A ++ [allR B]) w F
  | [], w, F, h => stars_one h
  | a :: A, w, F, ⟨F1, F2, h1, h2, hF, hd⟩ => ⟨F1, F2, h1, stars_tail h2, hF, hd⟩
theorem stars_untail {B : List Res} : ∀ {A : List Res} {w : World} {F : Nat → Prop}, stars (A ++ [allR B]) w F → stars (A ++ B) w F
  | [], w, F, h => stars_one' h
  | a :: A, w, F, ⟨F1, F2, h1, h2, hF, hd⟩ => ⟨F1, F2, h1, stars_untail h2, hF, hd⟩
/-- An owned block that isn't wanted any more, or stands for something else, is turned. -/
theorem Stp.turn {w0 w : World} {F0 F : Nat → Prop} {b : Nat} {o : Obj} (h : Stp w0 F0 w F) (hb : F b) : Stp w0 F0 (w.putObj b o) F :=
  ⟨h.os, h.tape, h.output, by rw [World.putObj_size]; exact h.size, fun k hk hn => by
    rw [World.putObj_heap_other (fun e => by subst e; exact (h.own _ hb).elim hn (fun h' => absurd h' (by omega)))]
    exact h.block k hk hn, h.own⟩
theorem stars_put {L : List Res} {w : World} {F : Nat → Prop} {b : Nat} {o : Obj} (h : stars L w F) (hb : ¬ F b) : stars L (w.putObj b o) F :=
  stars_loc h fun k hk => World.putObj_heap_other (fun e => hb (e ▸ hk))
theorem St.lp {w0 w : World} {F0 : Nat → Prop} {l : Nat} {r r' : Loop} {L : List Res} (h : St w0 F0 (lpR l r :: L) w) : w.heap[l]? = some (.loop r) ∧ St w0 F0 (lpR l r' :: L) (w.putObj l (.loop r')) := by
  obtain ⟨F, ⟨F1, F2, ⟨hF1, h1⟩, h2, hF, hd⟩, hst⟩ := h
  have hl : F l := (hF l).2 (.inl ((hF1 l).2 rfl))
  exact ⟨h1, F, ⟨F1, F2, ⟨hF1, World.putObj_heap_same (Array.getElem?_eq_some_iff.1 h1).1⟩, stars_put h2 (hd l ((hF1 l).2 rfl)), hF, hd⟩, hst.turn hl⟩
theorem St.lp_out {w0 w : World} {F0 : Nat → Prop} {l : Nat} {r : Loop} {o : Obj} {L : List Res} (h : St w0 F0 (lpR l r :: L) w) : w.heap[l]? = some (.loop r) ∧ St w0 F0 L (w.putObj l o) := by
  obtain ⟨F, ⟨F1, F2, ⟨hF1, h1⟩, h2, hF, hd⟩, hst⟩ := h
  have hl : F l := (hF l).2 (.inl ((hF1 l).2 rfl))
  exact ⟨h1, F2, stars_put h2 (hd l ((hF1 l).2 rfl)), (hst.turn hl).weak fun k hk => (hF k).2 (.inr hk)⟩
theorem St.df_out {w0 w : World} {F0 : Nat → Prop} {b : Nat} {o : Obj} {L L' : List Res} (h : St w0 F0 L w) (hp : Pick L (dfR b) L') : w.heap[b]? = some (.deferred (some [])) ∧ St w0 F0 L' (w.putObj b o) := by
  obtain ⟨F, hF0, hst⟩ := h
  obtain ⟨F1, F2, ⟨hF1, h1⟩, h2, hF, hd⟩ := hp.stars hF0
  have hl : F b := (hF b).2 (.inl ((hF1 b).2 rfl))
  exact ⟨h1, F2, stars_put h2 (hd b ((hF1 b).2 rfl)), (hst.turn hl).weak fun k hk => (hF k).2 (.inr hk)⟩

section
variable {P : Program} {w0 : World} {F0 : Nat → Prop} {L : List Res} {Q : Exit → Act → World → Prop} {n : Fm} {env : Env} {ops : Array Oper} {rest : List Oper}
/-! ### A call of yield -/
theorem roundIn_FR {ro : Option Nat} {l : Nat} {f : FuncId} {tmps : Array Value} {asg bd : Code} {w : World} {R : Ending → World → Prop} : RoundIn (FR ro) 0 P l f tmps asg bd w R ↔ RoundIn (FR none) 0 P l f tmps asg bd w R := Iff.rfl
theorem gl_yield {o : Oper} {l : Nat} {args : Array Value} {L' M : List Res} {α : Type} {V : α → Value} {N : α → List Res} (hw : Wt ops n env o true)
    (he : ∀ w, (execOp (ev n env) o).run P w = (Instr.yield l args).run P w) (hsel : Sel L M L')
    (hc : ∀ w F1 F2, stars M w F1 → stars L' w F2 → (∀ k, F1 k → ¬ F2 k) → Stp w0 F0 w (fun k => F1 k ∨ F2 k) → YieldAt (FR none) 0 P l args w (Post w F1 V N))
    (k : ∀ x, Gl P w0 F0 (N x ++ L') ops Q rest n (pu o.dst (V x) env)) : Gl P w0 F0 L ops Q (o :: rest) n env := by
  intro w hs
  obtain ⟨F, hF, hst⟩ := hs
  obtain ⟨F1, F2, h1, h2, hE, hd⟩ := hsel.split hF
  have hst' : Stp w0 F0 w (fun k => F1 k ∨ F2 k) := by rw [← fp_eq hE]; exact hst
  unfold wpListIn
  rw [if_pos (show Region.wanted o _ = true from hw)]
  obtain ⟨fn, tmps, asg, bd, hy, hr⟩ := hc w F1 F2 h1 h2 hd hst'
  refine Oper.wpIn_round (by rw [fr_eval, he]; exact hy) (RoundIn.mono (roundIn_FR.2 hr) ?_)
  rintro e w' ⟨x, rfl, hx⟩
  exact ⟨V x, rfl, by rw [fr_put]; exact k x w' (St.call hst h2 hE hd hx)⟩
theorem e_yield {d : Option Tmp} {ty : TypeId} {pos : String} {af : Array Edge} {gd : Option (Nat × Bool)} {y : Operand} {l : Nat} {xs : List Operand} {ts : Array TypeId} {vs : List Value} (hy : ev n env y = .func (.yield l) #[] #[]) (hv : xs.map (ev n env) = vs) (w : World) :
    (execOp (ev n env) ⟨d, .call ⟨.value y, xs.toArray, ts⟩, ty, pos, af, gd⟩).run P w = (Instr.yield l vs.toArray).run P w := by
  simp [execOp, resolve, hy, Deferred.ofValue, invoke, hv]
/-- The i-th round. -/
theorem gyd {t : Tmp} {ty : TypeId} {pos : String} {af : Array Edge} {gd : Option (Nat × Bool)} {y : Operand} {l : Nat} {xs : List Operand} {ts : Array TypeId} {vs : List Value} {α : Type} {enc : Nat → α → Array Value} {G : Nat → α → List Res} {J : Nat → Res} {Jx : Res} {L' : List Res}
    (h : RoundsAt P l enc G J Jx w0 F0) (i : Nat) (x : α) (hv2 : enc i x = vs.toArray) (hsel : Sel L (G i x ++ [J i]) L') (k : ∀ b : Bool, Gl P w0 F0 ((bif b then J (i + 1) else Jx) :: L') ops Q rest n ((t, .bool b) :: env))
    (hy : ev n env y = .func (.yield l) #[] #[] := by exact rfl) (hv : xs.map (ev n env) = vs := by exact rfl)
    (hw : Wt ops n env ⟨some t, .call ⟨.value y, xs.toArray, ts⟩, ty, pos, af, gd⟩ true := by exact wt0 rfl) : Gl P w0 F0 L ops Q (⟨some t, .call ⟨.value y, xs.toArray, ts⟩, ty, pos, af, gd⟩ :: rest) n env :=
  gl_yield hw (e_yield hy hv) hsel (fun w F1 F2 h1 _ hd hst => by rw [← hv2]; exact h i x w F1 F2 h1 hd hst) k

theorem gl_pI {p : Prop} (hp : p) (k : Gl P w0 F0 (pureR p :: L) ops Q rest n env) : Gl P w0 F0 L ops Q rest n env := fun w ⟨F, hF, hst⟩ => k w ⟨F, stars_pure_mk hp hF, hst⟩
theorem gx_pure1 {e : Exit} {p : Prop} {L' : List Res} (hp : Pick L (pureR p) L') (k : p → Gx w0 F0 L Q e n env) : Gx w0 F0 L Q e n env := fun w hw => by
  have hw' := hw
  obtain ⟨F, hF, _⟩ := hw'
  obtain ⟨F1, h1, _⟩ := stars_pick hp hF
  exact k h1.2 w hw
/-- xs[lo:hi:max] of a slice. -/
theorem r_slice3 {d : Option Tmp} {ty : TypeId} {pos : String} {af : Array Edge} {gd : Option (Nat × Bool)} {x lo hi mx : Operand} {T e : TypeId} {a : Option Addr} {m c s l h u : Nat} {k1 k2 k3 : IntKind} (hx : ev n env x = .slice a m c) (ht : sliceT P T = some e) (hs : szT P e = some s)
    (hlo : ev n env lo = .int k1 l) (hhi : ev n env hi = .int k2 h) (hmx : ev n env mx = .int k3 u) (h1 : l ≤ h) (h2 : h ≤ u) (h3 : u ≤ c) :
    Runs P w0 F0 L n env ⟨d, .slice T x (some lo) (some hi) (some mx), ty, pos, af, gd⟩ (.slice (if u = l then a else a.map (·.add (l * s))) (h - l) (u - l)) := fun w _ => by
  have e1 : (Instr.sliceBounds true m c (some (.int k1 l)) (some (.int k2 h)) (some (.int k3 u))).run P w = .ok (l, h, u) w := by
    unfold Instr.sliceBounds
    have a1 : (0:Int) ≤ l ∧ (l:Int) ≤ h := ⟨by omega, by omega⟩
    have a2 : (0:Int) ≤ h ∧ (h:Int) ≤ u := ⟨by omega, by omega⟩
    have a3 : (0:Int) ≤ u ∧ (u:Int) ≤ c := ⟨by omega, by omega⟩
    simp [Instr.sliceBound, asIntOf, h1, h2, h3, Nat.not_lt.2 h1, Nat.not_lt.2 h2, Nat.not_lt.2 h3]
  simp [execOp, hx, hlo, hhi, hmx, Instr.sliceAt, run_underlying (run_sliceT ht), Instr.slice, e1, run_sz hs]

/-! ### A round's body -/
def zipE : List Tmp → List Value → Env → Env
  | t :: ts, v :: vs, e => zipE ts vs ((t, v) :: e)
  | _, _, e => e
theorem fr_zip {n : Fm} : ∀ (ts : List Tmp) (vs : List Value) (e : Env), { (fr n e) with tmps := (ts.zip vs).foldl (fun tmps (t, a) => tmps.setIfInBounds t a) (fr n e).tmps } = fr n (zipE ts vs e)
  | [], _, _ => by simp [zipE, fr]
  | _ :: _, [], _ => by simp [zipE, fr]
  | t :: ts, v :: vs, e => by
    have h : (fr n e).tmps.setIfInBounds t v = (fr n ((t, v) :: e)).tmps := by
      have := fr_put n e (some t) v
      simp only [Act.put, pu] at this
      exact congrArg Act.tmps this
    simp only [List.zip_cons_cons, List.foldl_cons, zipE]
    rw [h]
    exact fr_zip ts vs ((t, v) :: e)
/-- How a round ends. -/
def RoundP (w : World) (F : Nat → Prop) (l : Nat) (r : Loop) (I : Nat → List Res) (X : Nat → Code → List Res) (i : Nat) : Exit → Act → World → Prop
  | .normal, _, w' => St w F (lpR l r :: I (i + 1)) w'
  | .ret, _, w' => St w F (lpR l r :: X i .ret) w'
  | .exit id, _, w' => St w F (lpR l r :: X i (.exit id)) w'
  | _, _, _ => False
/-- The body is walked once the left sides are assigned. -/
def BegK (P : Program) (w : World) (F : Nat → Prop) (l : Nat) (r r' : Loop) (body : Code) (R : Exit → Act → World → Prop) (n : Fm) (a : Act) (w' : World) : Prop :=
  ∃ L env, a = fr n env ∧ St w F (lpR l r :: L) w' ∧ Gc P w F (lpR l r' :: L) body R n env
theorem gx_begin {l : Nat} {r r' : Loop} {body : Code} {R : Exit → Act → World → Prop} (h : Gc P w0 F0 (lpR l r' :: L) body R n env) : Gx w0 F0 (lpR l r :: L) (Exit.then (BegK P w0 F0 l r r' body R n) (fun _ _ _ => False)) .normal n env :=
  fun w hw => ⟨L, env, rfl, hw, h⟩
theorem gx_rdn {l : Nat} {r : Loop} {I : Nat → List Res} {X : Nat → Code → List Res} {i : Nat} (h : ∀ w, St w0 F0 L w → St w0 F0 (lpR l r :: I (i + 1)) w) : Gx w0 F0 L (RoundP w0 F0 l r I X i) .normal n env := h
theorem gx_rdr {l : Nat} {r : Loop} {I : Nat → List Res} {X : Nat → Code → List Res} {i : Nat} (h : ∀ w, St w0 F0 L w → St w0 F0 (lpR l r :: X i .ret) w) : Gx w0 F0 L (RoundP w0 F0 l r I X i) .ret n env := h
/-! ### The statement -/
def IterAt (P : Program) {α β : Type} (gf : Nat) (lb : Array Value) (enc : Nat → α → Array Value) (G : Nat → α → List Res) (fin : β → Option Nat) (O : β → List Res) (vv : β → Value) (l : Nat) (J : Nat → Res) (Jx : Res) (w : World) (F : Nat → Prop) : Prop :=
  RoundsAt P l enc G J Jx w F → Calls P gf (#[.func (.yield l) #[] #[]] ++ lb) w (Post w F vv fun y => (match fin y with | some m => J m | none => Jx) :: O y)
theorem gc_range {g : Operand} {ps : Array Tmp} {assign body : Code} {gf : Nat} {lb : Array Value} {α β : Type} {enc : Nat → α → Array Value} {G : Nat → α → List Res}
    {own L' : List Res} {vv : β → Value} {fin : β → Option Nat} {O : β → List Res} (I : Nat → List Res) (X : Nat → Code → List Res) {ds : List Deferred} {nt : Nat}
    (hg : ev ⟨nt, ds, none⟩ env g = .func (.func gf) #[] lb) (eg : okCall P gf = true) (hsel : Sel L (own ++ I 0) L') (hsz : ∀ i x, (enc i x).size = ps.size)
    (hit : ∀ (l : Nat) (J : Nat → Res) (Jx : Res) w F1 F2, stars (own ++ [J 0]) w F1 → stars L' w F2 → (∀ k, F1 k → ¬ F2 k) → Stp w0 F0 w (fun k => F1 k ∨ F2 k) → IterAt P gf lb enc G fin O vv l J Jx w F1)
    (hrd : ∀ (l : Nat) (r r' : Loop) i x w F1 F2, stars (lpR l r :: (G i x ++ I i)) w F1 → stars L' w F2 → (∀ k, F1 k → ¬ F2 k) → Stp w0 F0 w (fun k => F1 k ∨ F2 k) →
      Gc P w F1 (lpR l r :: (G i x ++ I i)) assign (Exit.then (BegK P w F1 l r r' body (RoundP w F1 l r' I X i) ⟨nt, [], some l⟩) (fun _ _ _ => False)) ⟨nt, [], some l⟩ (zipE ps.toList (enc i x).toList env))
    (hdone : ∀ b y m, fin y = some m → Gx w0 F0 (dfR b :: (I m ++ O y) ++ L') Q .normal ⟨nt, mkD b :: ds, none⟩ env)
    (hstop : ∀ b y i c, fin y = none → Gc P w0 F0 (dfR b :: (X i c ++ O y) ++ L') c Q ⟨nt, mkD b :: ds, none⟩ env) : Gc P w0 F0 L (.rangeFunc g ps assign body) Q ⟨nt, ds, none⟩ env := by
  intro w hw
  refine wpIn_rangeFunc fun fn _ => ?_
  have hrun := run_enterLoop_outer (P := P) (w := w) fn (fr ⟨nt, ds, none⟩ env).tmps ps assign body
  have hl0 : ∀ st pe, ∃ r : Loop, r = { state := st, pending := pe, fn, tmps := (fr ⟨nt, ds, none⟩ env).tmps, params := ps, assign, body, defers := w.heap.size } := fun _ _ => ⟨_, rfl⟩
  obtain ⟨rec, hrec⟩ : ∃ rec : LoopState → Option Code → Loop, rec = fun st pe => { state := st, pending := pe, fn, tmps := (fr ⟨nt, ds, none⟩ env).tmps, params := ps, assign, body, defers := w.heap.size } := ⟨_, rfl⟩
  obtain ⟨F, hF, hst⟩ := hw
  obtain ⟨F1, F2, h1, h2, hE, hd⟩ := hsel.split hF
  have hlt1 := stars_lt h1
  have hlt2 := stars_lt h2
  obtain ⟨wa, hwa⟩ : ∃ wa, (w.alloc (.deferred (some []))).alloc (.loop (rec .ready none)) = wa := ⟨_, rfl⟩
  have hsize : wa.heap.size = w.heap.size + 2 := by rw [← hwa]; simp
  have hold : ∀ k, k < w.heap.size → wa.heap[k]? = w.heap[k]? := fun k hk => by
    rw [← hwa]
    exact (RowKit.Below.heap_alloc _ _ k (by simp; omega)).trans (RowKit.Below.heap_alloc w _ k hk)
  have hL1 : wa.heap[w.heap.size + 1]? = some (.loop (rec .ready none)) := by
    rw [← hwa]; have := World.alloc_heap_new (w.alloc (.deferred (some []))) (.loop (rec .ready none)); rwa [World.size_alloc] at this
  have hB1 : wa.heap[w.heap.size]? = some (.deferred (some [])) := by
    rw [← hwa]; exact (RowKit.Below.heap_alloc _ _ _ (by simp)).trans (World.alloc_heap_new w _)
  have hos : wa.os = w.os ∧ wa.tape = w.tape ∧ wa.output = w.output := by rw [← hwa]; exact ⟨rfl, rfl, rfl⟩
  have h1a : stars (own ++ I 0) wa F1 := stars_loc h1 fun k hk => hold k (hlt1 k hk)
  have h2a : stars L' wa F2 := stars_loc h2 fun k hk => hold k (hlt2 k hk)
  -- what the iterator is handed
  let F1a : Nat → Prop := fun k => k = w.heap.size + 1 ∨ F1 k
  have hown : stars (own ++ lpR (w.heap.size + 1) (rec .ready none) :: I 0) wa F1a :=
    stars_in1 ⟨fun k => k = w.heap.size + 1, F1, ⟨fun k => Iff.rfl, hL1⟩, h1a, fun k => Iff.rfl, fun k hk h => by have := hlt1 k h; omega⟩
  have hown := stars_tail hown
  have hda : ∀ k, F1a k → ¬ F2 k := fun k hk h => hk.elim (fun e => by have := hlt2 k h; omega) (fun h' => hd k h' h)
  let F2a : Nat → Prop := fun k => k = w.heap.size ∨ F2 k
  have h2d : stars (dfR w.heap.size :: L') wa F2a := ⟨fun k => k = w.heap.size, F2, ⟨fun k => Iff.rfl, hB1⟩, h2a, fun k => Iff.rfl, fun k hk h => by have := hlt2 k h; omega⟩
  have hda2 : ∀ k, F1a k → ¬ F2a k := fun k hk h => h.elim (fun e => hk.elim (fun e' => by omega) (fun h' => by have := hlt1 k h'; omega)) (hda k hk)
  have hsta : Stp w0 F0 wa (fun k => F1a k ∨ F2a k) :=
    ⟨hos.1.trans hst.os, hos.2.1.trans hst.tape, hos.2.2.trans hst.output, by rw [hsize]; have := hst.size; omega, fun k hk hn => (hold k (Nat.lt_of_lt_of_le hk hst.size)).trans (hst.block k hk hn),
      fun k hk => by
        have : F k ∨ w.heap.size ≤ k := by
          rcases hk with (h | h) | (h | h)
          · right; omega
          · exact .inl ((hE k).2 (.inl h))
          · right; omega
          · exact .inl ((hE k).2 (.inr h))
        rcases this with h | h
        · exact hst.own k h
        · right; have := hst.size; omega⟩
  let J : Nat → Res := fun i => allR (lpR (w.heap.size + 1) (rec .ready none) :: I i)
  let Jx : Res := exR fun i => exR fun c => allR (lpR (w.heap.size + 1) (rec .done (some c)) :: X i c)
  have hrounds : RoundsAt P (w.heap.size + 1) enc G J Jx wa F1a := by
    intro i x W G1 G2 g1 gd gst
    have g1' : stars (lpR (w.heap.size + 1) (rec .ready none) :: (G i x ++ I i)) W G1 := stars_out1 (stars_untail g1)
    have hl : W.heap[w.heap.size + 1]? = some (.loop (rec .ready none)) := by
      obtain ⟨A, B, ⟨_, h⟩, _⟩ := g1'
      exact h
    have hy := run_yield (P := P) (args := enc i x) hl (by rw [hrec]; exact hsz i x)
    rw [hrec] at hy
    have g2 : stars L' W F2 := stars_loc h2a fun k hk => gst.block k (by have := hlt2 k hk; omega) (fun h => hda k h hk)
    have gd2 : ∀ k, G1 k → ¬ F2 k := fun k hk h => (gst.own k (.inl hk)).elim (fun h' => hda k h' h) (fun h' => by have := hlt2 k h; omega)
    have hall : Stp w0 F0 W (fun k => G1 k ∨ F2 k) := (hsta.trans (gst.frame (F2 := F2a))).weak fun k hk => hk.elim (fun h => .inl (.inl h)) (fun h => .inr (.inr h))
    have hb := hrd (w.heap.size + 1) (rec .ready none) (rec .busy none) i x W G1 F2 g1' g2 gd2 hall
    refine ⟨fn, _, assign, body, hy, roundIn_of_wpIn trivial ?_⟩
    have hA : ({ tmps := ((ps.zip (enc i x)).foldl (fun tmps (t, a) => tmps.setIfInBounds t a) (fr ⟨nt, ds, none⟩ env).tmps), defers := [] } : Act) = fr ⟨nt, [], some (w.heap.size + 1)⟩ (zipE ps.toList (enc i x).toList env) := by
      rw [← fr_zip]
      simp only [fr, Act.mk.injEq, and_true]
      rw [← Array.foldl_toList, Array.toList_zip]
    have hb' := hb W (St.init g1')
    rw [← hA] at hb'
    refine wpIn_mono hb' ?_
    intro e a1 w1 hq
    cases e with
    | normal =>
      obtain ⟨L1, env1, rfl, hs1, hbody⟩ := hq
      obtain ⟨hl1, hs2⟩ := hs1.lp (r' := rec .busy none)
      refine ⟨_, run_beginRound hl1 (by rw [hrec]), ?_⟩
      have hbb := hbody _ (by rw [hrec] at hs2 ⊢; exact hs2)
      rw [hrec] at hbb ⊢
      refine wpIn_mono hbb ?_
      intro e2 a2 w2 hq2
      cases e2 with
      | normal =>
        obtain ⟨hl2, hs3⟩ := St.lp (r' := rec .ready none) hq2
        refine ⟨_, _, run_endRound none hl2, true, rfl, ?_⟩
        rw [hrec] at hs3
        simp only [J, hrec]
        obtain ⟨H, hH, hh⟩ := hs3
        exact ⟨H, stars_all_mk (by rw [List.append_nil]; exact hH), hh⟩
      | ret =>
        obtain ⟨hl2, hs3⟩ := St.lp (r' := rec .done (some .ret)) hq2
        refine ⟨_, _, run_endRound (some .ret) hl2, false, rfl, ?_⟩
        rw [hrec] at hs3
        obtain ⟨H, hH, hh⟩ := hs3
        exact ⟨H, stars_ex_mk i (stars_ex_mk Code.ret (stars_all_mk (by rw [List.append_nil, hrec]; exact hH))), hh⟩
      | exit id =>
        obtain ⟨hl2, hs3⟩ := St.lp (r' := rec .done (some (.exit id))) hq2
        refine ⟨_, _, run_endRound (some (.exit id)) hl2, false, rfl, ?_⟩
        rw [hrec] at hs3
        obtain ⟨H, hH, hh⟩ := hs3
        exact ⟨H, stars_ex_mk i (stars_ex_mk (Code.exit id) (stars_all_mk (by rw [List.append_nil, hrec]; exact hH))), hh⟩
      | goto t => exact hq2.elim
      | panic c => exact hq2.elim
      | outgrown => exact hq2.elim
    | exit id => exact hq.elim
    | ret => exact hq.elim
    | goto t => exact hq.elim
    | panic c => exact hq.elim
    | outgrown => exact hq.elim
  have hcall := hit (w.heap.size + 1) J Jx wa F1a F2 hown h2a hda (hsta.weak fun k hk => hk.elim .inl (fun h => .inr (.inr h))) hrounds
  refine ⟨w.heap.size + 1, [mkD w.heap.size], wa, { target := .fn (.func gf) lb, args := #[.func (.yield (w.heap.size + 1)) #[] #[]] }, wa, gf, #[.func (.yield (w.heap.size + 1)) #[] #[]] ++ lb, wa, ?_, ?_, ?_, ?_, ?_, ?_⟩
  · rw [show (FR (⟨nt, ds, none⟩ : Fm).ro).round = none from rfl, ← hwa, hrec]; exact hrun
  · have hg' : (fr ⟨nt, ds, none⟩ env).eval g = .func (.func gf) #[] lb := by rw [fr_eval]; exact hg
    simp only [resolve, hg']
    simp [go_sem]
  · intro f' _; trivial
  · unfold okCall at eg
    cases hp : P.funcs[gf]? with
    | none => simp [hp] at eg
    | some fn' =>
      cases hb : fn'.body with
      | none => simp [hp, hb] at eg
      | some c =>
        have hn : ¬ fn'.name = "runtime.NumGoroutine" := by simpa [hp, hb] using eg
        simp [invoke, callFunc, program, Sem.run, hp, hb, hn]
  · exact deep_FR _
  · refine callsIn_FR.2 (hcall.mono ?_)
    rintro e w2 ⟨y, rfl, hs⟩
    have hs2 := St.call hsta h2d (fun k => Iff.rfl) hda2 hs
    cases hy : fin y with
    | some m =>
      simp only [hy] at hs2
      have hs3 : St w0 F0 (lpR (w.heap.size + 1) (rec .ready none) :: ((I m ++ O y) ++ (dfR w.heap.size :: L'))) w2 := by
        obtain ⟨H, hH, hh⟩ := hs2
        exact ⟨H, by simpa using stars_all hH, hh⟩
      obtain ⟨hl, hs4⟩ := St.lp_out (o := .loop { (rec .ready none) with state := .exhausted }) hs3
      have hpe : (rec .ready none).pending = none := by rw [hrec]
      refine ⟨none, _, (run_endLoop (P := P) hl (by rw [hrec]; simp)).trans (congrArg (fun p => Result.ok p _) hpe), ?_⟩
      exact hdone w.heap.size y m hy _ (by
        obtain ⟨H, hH, hh⟩ := hs4
        exact ⟨H, stars_out1 hH, hh⟩)
    | none =>
      simp only [hy] at hs2
      obtain ⟨H, hH, hh⟩ := hs2
      obtain ⟨i, hH⟩ := stars_ex hH
      obtain ⟨c, hH⟩ := stars_ex hH
      have hH := stars_all hH
      have hs3 : St w0 F0 (lpR (w.heap.size + 1) (rec .done (some c)) :: ((X i c ++ O y) ++ (dfR w.heap.size :: L'))) w2 := ⟨H, by simpa using hH, hh⟩
      obtain ⟨hl, hs4⟩ := St.lp_out (o := .loop { (rec .done (some c)) with state := .exhausted }) hs3
      have hpe : (rec .done (some c)).pending = some c := by rw [hrec]
      refine ⟨some c, _, (run_endLoop (P := P) hl (by rw [hrec]; simp)).trans (congrArg (fun p => Result.ok p _) hpe), ?_⟩
      exact hstop w.heap.size y i c hy _ (by
        obtain ⟨H, hH, hh⟩ := hs4
        exact ⟨H, stars_out1 hH, hh⟩)

theorem gx_thenM {n m : Fm} {y : Code} {Q' : Exit → Act → World → Prop} (h : Gc P w0 F0 L y Q n env) (hr : m.ro = n.ro := by rfl) : Gx w0 F0 L (Exit.then (cwp m P y Q) Q') .normal n env := fun w hw => by
  show y.wpIn (FR m.ro) 0 P Q _ w
  rw [hr]; exact h w hw

/-! ### A function that holds such a statement -/
def bodyPostN (P : Program) (fn : Func) (R : Ending → World → Prop) : Exit → Act → World → Prop
  | .normal, a, w | .ret, a, w => LeavesInM (FR none) 0 P fn a.tmps R a.defers .returning w
  | _, _, _ => False
theorem g_enterM {f : FuncId} {fn : Func} {c : Code} {args : Array Value} {w : World} {F : Nat → Prop} {R : Ending → World → Prop} (hf : P.funcs[f]? = some fn) (hb : fn.body = some c)
    (hs : stars L w F) {nt : Nat} (hnt : fn.ntmps = nt) (hn : Nat.ble args.size nt = true) (henv : enumE 0 args.toList = env) (h : Gc P w F L c (bodyPostN P fn R) ⟨nt, [], none⟩ env) : Calls P f args w R :=
  callsIn_FR.1 (callsIn_of_wp_marks (F := FR none) (n := 0) hf hb trivial (by subst hnt; subst henv; rw [fr_init _ _ (by exact Nat.le_of_ble_eq_true hn)]; exact wpIn_mono (h w (St.init hs)) (fun e a w' hq => by cases e <;> first | exact hq | exact hq.elim)))
theorem gx_mark {fn : Func} {R : Ending → World → Prop} {b nt : Nat} {ds : List Deferred} {ro : Option Nat} {L' : List Res} (hp : Pick L (dfR b) L') (h : Gx w0 F0 L' (bodyPostN P fn R) .ret ⟨nt, ds, ro⟩ env) : Gx w0 F0 L (bodyPostN P fn R) .ret ⟨nt, mkD b :: ds, ro⟩ env := fun w hw => by
  obtain ⟨hb, hs⟩ := hw.df_out (o := .deferred none) hp
  exact ⟨by simp, .inl ⟨b, _, rfl, run_takeDeferred hb, h _ hs⟩⟩
theorem gx_mark0 {fn : Func} {R : Ending → World → Prop} {nt : Nat} {ro : Option Nat} (h : Gx w0 F0 L (bodyPost P fn R) .ret ⟨nt, [], ro⟩ env) : Gx w0 F0 L (bodyPostN P fn R) .ret ⟨nt, [], ro⟩ env := fun w hw => (h w hw).2
end
end Go.Proofs.YthicckleihbomaaDoor

/- Plain words: a disk of layer 6: what was synced, what was written and isn't. -/
namespace Go.Proofs.YthicckleihbomaaDoor
open Go
set_option linter.unusedVariables false
set_option linter.unusedSimpArgs false

structure Sec where
  l : List UInt8
  h : l.length = 64
theorem Sec.ext' {a b : Sec} (h : a.l = b.l) : a = b := by cases a; cases b; cases h; rfl
def sec0 : Sec := ⟨List.replicate 64 0, by simp⟩
def sc (s : Sec) : List Value := s.l.map B8
theorem sc_length (s : Sec) : (sc s).length = 64 := by rw [sc, List.length_map, s.h]
theorem sc_one (s : Sec) : ∀ v ∈ sc s, v.oneCell' = true := one_B8 _
instance {s : Sec} : Len (sc s) 64 := ⟨sc_length s⟩
instance {s : Sec} : One (sc s) := One.of (sc_one s)
def updS (f : Nat → Sec) (i : Nat) (v : Sec) : Nat → Sec := fun j => if j = i then v else f j
/-! ### What was written -/
def lookW (i : Int) : List (Int × Sec) → Option Sec
  | [] => none
  | p :: l => if i = p.1 then some p.2 else lookW i l
def putW (i : Int) (v : Sec) : List (Int × Sec) → List (Int × Sec)
  | [] => [(i, v)]
  | p :: l => if i = p.1 then (i, v) :: l else p :: putW i v l
def keysW (ws : List (Int × Sec)) : List Int := ws.map (·.1)
theorem lookW_none {i : Int} : ∀ {ws : List (Int × Sec)}, i ∉ keysW ws → lookW i ws = none
  | [], _ => rfl
  | p :: l, h => by
    simp only [keysW, List.map_cons, List.mem_cons, not_or] at h
    simp only [lookW, if_neg h.1]; exact lookW_none h.2
theorem lookW_mem {i : Int} {v : Sec} : ∀ {ws : List (Int × Sec)}, (keysW ws).Nodup → (i, v) ∈ ws → lookW i ws = some v
  | p :: l, hn, h => by
    have hn' := List.nodup_cons.1 hn
    rcases List.mem_cons.1 h with rfl | h
    · simp [lookW]
    · have : i ≠ p.1 := fun e => hn'.1 (by show p.1 ∈ l.map (·.1); rw [← e]; exact List.mem_map.2 ⟨_, h, rfl⟩)
      simp only [lookW, if_neg this]; exact lookW_mem hn'.2 h
/-- A disk. -/
structure DS where
  n : Nat
  ss : Nat → Sec
  ws : List (Int × Sec)
  off : Bool
  armed : Bool
  left : Int
def DS.at (d : DS) (i : Nat) : Sec := (lookW (i : Int) d.ws).getD (d.ss i)
def oper (d : DS) : DS := if d.armed = true ∧ d.off = false then { d with off := decide (d.left = 0), left := d.left - 1 } else d
structure DOk (d : DS) : Prop where
  n : d.n ≤ 4096
  nd : (keysW d.ws).Nodup
  ks : ∀ k ∈ keysW d.ws, 0 ≤ k ∧ k < d.n
  lf : d.armed = true → d.off = false → 0 ≤ d.left
  rg : -9223372036854775808 ≤ d.left ∧ d.left ≤ 9223372036854775807
def DS.write (d : DS) (i : Int) (v : Sec) : DS := { d with ws := putW i v d.ws }
def DS.has (d : DS) (i : Int) : Bool := decide (0 ≤ i) && decide (i < d.n)
def DS.wr (d : DS) (i : Int) (v : Sec) : Nat × DS := if d.has i then (if (oper d).off then 6 else 0, if (oper d).off then oper d else (oper d).write i v) else (1, d)
def DS.rd (d : DS) (i : Int) : Nat × Sec := if d.has i then (if d.off then (6, sec0) else (0, d.at i.toNat)) else (1, sec0)
def SyncInv (d : DS) (lw : List (Int × Sec)) (f : Nat → Sec) : Prop := lw.Sublist d.ws ∧ ∀ i : Nat, f i = if (i : Int) ∈ keysW lw then d.ss i else d.at i
theorem SyncInv.start (d : DS) : SyncInv d d.ws d.ss := ⟨List.Sublist.refl _, fun i => by
  split
  · rfl
  · rename_i h; simp [DS.at, lookW_none h]⟩
theorem SyncInv.done {d : DS} {f : Nat → Sec} (h : SyncInv d [] f) (i : Nat) : f i = d.at i := by
  have := h.2 i; simpa [keysW] using this
theorem SyncInv.key {d : DS} {A B : List (Int × Sec)} {k : Int} {v : Sec} {f : Nat → Sec} (h : SyncInv d (A ++ (k, v) :: B) f) (hk : DOk d) : 0 ≤ k ∧ k < d.n :=
  hk.ks k (List.mem_map.2 ⟨(k, v), h.1.subset (by simp), rfl⟩)
theorem SyncInv.step {d : DS} {A B : List (Int × Sec)} {k : Int} {v : Sec} {f : Nat → Sec} (h : SyncInv d (A ++ (k, v) :: B) f) (hk : DOk d) : SyncInv d (A ++ B) (updS f k.toNat v) := by
  have hsub : (A ++ B).Sublist (A ++ (k, v) :: B) := List.Sublist.append (List.Sublist.refl _) (List.sublist_cons_self _ _)
  have hnd : (keysW (A ++ (k, v) :: B)).Nodup := hk.nd.sublist (h.1.map _)
  have h0 := (h.key hk).1
  have hnot : k ∉ keysW (A ++ B) := by
    simp only [keysW, List.map_append, List.map_cons] at hnd ⊢
    have h1 := List.nodup_append.1 hnd
    intro hm
    rcases List.mem_append.1 hm with hm | hm
    · exact h1.2.2 k hm k (by simp) rfl
    · exact (List.nodup_cons.1 h1.2.1).1 hm
  refine ⟨hsub.trans h.1, fun i => ?_⟩
  simp only [updS]
  by_cases hi : i = k.toNat
  · subst hi
    have e : (k.toNat : Int) = k := Int.toNat_of_nonneg h0
    rw [if_pos rfl, e, if_neg hnot, DS.at, e, lookW_mem (v := v) hk.nd (h.1.subset (by simp))]
    rfl
  · rw [if_neg hi, h.2 i]
    have : (i : Int) ∈ keysW (A ++ (k, v) :: B) ↔ (i : Int) ∈ keysW (A ++ B) := by
      have hne : (i : Int) ≠ k := by omega
      simp [keysW, hne]
    simp only [this]
end Go.Proofs.YthicckleihbomaaDoor

/- The engine, part O: make of a slice of rows; a map's iterator in one rule; sectors. -/
namespace Go.Proofs.YthicckleihbomaaDoor
open Go
set_option linter.unusedVariables false
set_option linter.unusedSimpArgs false
section
variable {P : Program} {w0 : World} {F0 : Nat → Prop} {L : List Res} {Q : Exit → Act → World → Prop} {n : Fm} {env : Env} {ops : Array Oper} {rest : List Oper} {ty : TypeId} {pos : String} {af : Array Edge} {gd : Option (Nat × Bool)} {d : Option Tmp}
theorem St.pick {w : World} {r : Res} {L' : List Res} (hw : St w0 F0 L w) (h : Pick L r L') : St w0 F0 (r :: L') w := hw.mapL0 fun F hF => h.stars hF
theorem r_min {x y : Operand} {T1 T2 : TypeId} {k : IntKind} {i j : Int} (hx : ev n env x = .int k i := by exact rfl) (hy : ev n env y = .int k j := by exact rfl) :
    Runs P w0 F0 L n env ⟨d, .call ⟨.builtin .min, #[x, y], #[T1, T2]⟩, ty, pos, af, gd⟩ (.int k (if j < i then j else i)) := fun w _ => by
  simp only [execOp, resolve, invoke, builtin]
  simp [hx, hy, Builtin.min_, Builtin.min2]
theorem r_eqpn {x : Operand} {T T' e : TypeId} {a : Option Addr} (hx : ev n env x = .pointer a := by exact rfl) (ht : P.underlying T = some (.pointer e)) :
    Runs P w0 F0 L n env ⟨d, .binOp .eql T x (.const (.pointer none)) T', ty, pos, af, gd⟩ (.bool a.isNone) := fun w _ => by
  have h : ∀ d : Nat, (Op.equalIn (d + 1) T (.pointer a) (.pointer none)).run P w = .ok a.isNone w := fun d => by
    cases a <;> simp [Op.equalIn, run_underlying ht]
  have h9 := h 9999
  have hc : ev n env (.const (.pointer none)) = .pointer none := rfl
  simp only [execOp, hx, hc]
  simp [eqGuard, binOp, Op.equal, Op.maxDepth, h9]
theorem RdRow.cellV {w : World} {A : Nat → Prop} {g o m : Nat} {α : Type} {V : α → Value} {l : List α} (h : RdRow w A 1 (some ⟨g, o, Option.none⟩) m (l.map V)) {i : Nat} (hi : i < m) (z : α) : w.cell? ⟨g, o + i * 1, Option.none⟩ = some (V (l.getD i z)) ∧ A g := by
  have hl : m = l.length := by have := h.1; simp at this; omega
  obtain ⟨g', o', ha, hA, _, hr⟩ := h.elem hi
  injection ha with ha
  injection ha with h1 h2
  subst h1; subst h2
  refine ⟨hr 0 _ ?_, hA⟩
  simp [List.getD, show i < l.length by omega]
instance : DecidableEq Sec := fun a b => decidable_of_iff (a.l = b.l) ⟨Sec.ext', fun h => h ▸ rfl⟩
def Sec.b (s : Sec) : UInt8 := s.l.getD 0 0
end
section three
variable {P : Program} {w0 : World} {F0 : Nat → Prop} {K L : List Res} {Q : Exit → Act → World → Prop} {n : Fm} {env : Env} {ops : Array Oper} {listed : Array Bool} {fuel z : Nat}
end three
end Go.Proofs.YthicckleihbomaaDoor

/- The engine, part V: maps that are read and not owned; delete; one cell written in a block that is owned in some way. -/
namespace Go.Proofs.YthicckleihbomaaDoor
open Go
set_option linter.unusedVariables false
set_option linter.unusedSimpArgs false

/-- A map that is read. -/
def RdMap (w : World) (A : Nat → Prop) (g : Nat) (l : List (Value × Value)) : Prop := A g ∧ ∃ es clock, w.heap[g]? = some (.map es clock) ∧ kvs es = l
theorem RdMap.mv {w w' : World} {A A' : Nat → Prop} {g : Nat} {l : List (Value × Value)} (h : RdMap w A g l) (hk : ∀ k, k < w.heap.size → A k → w'.heap[k]? = w.heap[k]? ∧ A' k) : RdMap w' A' g l := by
  obtain ⟨hA, es, clock, hh, hkv⟩ := h
  have := hk g (Array.getElem?_eq_some_iff.1 hh).1 hA
  exact ⟨this.2, es, clock, this.1.trans hh, hkv⟩
theorem mapR.rd {g : Nat} {l : List (Value × Value)} {w : World} {F : Nat → Prop} (h : (mapR g l).on w F) : RdMap w F g l := by
  obtain ⟨hF, es, clock, hh, hk, _⟩ := h
  exact ⟨(hF g).2 rfl, es, clock, hh, hk⟩
section
variable {P : Program} {w0 : World} {F0 : Nat → Prop} {L : List Res} {Q : Exit → Act → World → Prop} {n : Fm} {env : Env} {ops : Array Oper} {rest : List Oper}
variable {d : Option Tmp} {t : Tmp} {ty : TypeId} {pos : String} {af : Array Edge} {gd : Option (Nat × Bool)}
section
variable {α : Type} [DecidableEq α] {K : α → Value}
end
/-- The loop's record ahead of all. -/
theorem gx_lp {l : Nat} {r : Loop} {L' : List Res} {e : Exit} (hp : Pick L (lpR l r) L') (h : Gx w0 F0 (lpR l r :: L') Q e n env) : Gx w0 F0 L Q e n env := fun w hw => h w (hw.pick hp)
end
end Go.Proofs.YthicckleihbomaaDoor

/- Walks, by program (wg.py) out of a spec. -/
namespace Go.Proofs.YthicckleihbomaaDoor
open Go
set_option linter.unusedVariables false
set_option linter.unusedSimpArgs false

/-- A reading of cells that stays as long as its blocks stay. -/
class RdK {α : Type} (rd : World → (Nat → Prop) → List Value → α → Prop) : Prop where
  mv : ∀ {w w' : World} {A A' : Nat → Prop} {cs : List Value} {x : α}, rd w A cs x → Still w A w' A' → rd w' A' cs x
instance : RdK (fun _ _ => RdDig) := ⟨fun h _ => h⟩
instance : RdK (fun _ _ => RdVdr) := ⟨fun h _ => h⟩
instance : RdK RdBytes := ⟨fun h k => h.mv k⟩
instance : RdK RdSig := ⟨fun h k => h.mv k⟩
instance : RdK RdSigned := ⟨fun h k => h.mv k⟩
instance : RdK RdLate := ⟨fun h k => h.mv k⟩
instance : RdK RdQC := ⟨fun h k => h.mv k⟩
instance : RdK RdTC := ⟨fun h k => h.mv k⟩
instance : RdK RdBlock := ⟨fun h k => h.mv k⟩
instance : RdK RdVote := ⟨fun h k => h.mv k⟩
instance : RdK RdTmo := ⟨fun h k => h.mv k⟩
instance : RdK RdProp := ⟨fun h k => h.mv k⟩
instance : RdK RdChg := ⟨fun h k => h.mv k⟩
instance : RdK RdMsg := ⟨fun h k => h.mv k⟩
theorem still_of {w w' : World} {F : Nat → Prop} (hk : ∀ k, k < w.heap.size → F k → w'.heap[k]? = w.heap[k]?) : Still w F w' F := fun k h hF => ⟨hk k h hF, hF⟩
theorem still_sub {w : World} {F G : Nat → Prop} (h : ∀ k, F k → G k) : Still w F w G := fun k _ hF => ⟨rfl, h k hF⟩
section
variable {α : Type} (rd : World → (Nat → Prop) → List Value → α → Prop) [RdK rd]
/-- Cells that read as x, in blocks that are owned. -/
def VlR (cs : List Value) (x : α) : Res := rdR (fun w F => rd w F cs x) (fun h hk => RdK.mv h (still_of hk))
/-- A slice that reads as l, all of it owned. -/
def LsR (size : Nat) (a : Option Addr) (n : Nat) (l : List α) : Res := rdR (fun w F => RdList (rd w F) w F size a n l) (fun h hk => RdList.mv h (still_of hk) fun _ _ hc => RdK.mv hc (still_of hk))
/-- Elements: what lies behind their cells. -/
def ElR (css : List (List Value)) (l : List α) : Res := rdR (fun w F => css.length = l.length ∧ ∀ (i : Nat) (c : List Value) (x : α), css[i]? = some c → l[i]? = some x → rd w F c x) (fun h hk => ⟨h.1, fun i c x h1 h2 => RdK.mv (h.2 i c x h1 h2) (still_of hk)⟩)
end
theorem stars_two {r s : Res} {w : World} {F : Nat → Prop} (h : stars [r, s] w F) : ∃ F1 F2, r.on w F1 ∧ s.on w F2 ∧ ∀ k, F k ↔ F1 k ∨ F2 k := by
  obtain ⟨F1, F2, h1, h2, hF, _⟩ := h
  exact ⟨F1, F2, h1, stars_one' h2, hF⟩
theorem stars_cons {r : Res} {L : List Res} {w : World} {F : Nat → Prop} (h : stars (r :: L) w F) : ∃ F1 F2, r.on w F1 ∧ stars L w F2 ∧ ∀ k, F k ↔ F1 k ∨ F2 k := by
  obtain ⟨F1, F2, h1, h2, hF, _⟩ := h; exact ⟨F1, F2, h1, h2, hF⟩
theorem rdR_mk {φ : World → (Nat → Prop) → Prop} {hl} {w : World} {F : Nat → Prop} {L : List Res} (h : φ w F) (hs : stars L w F) : stars [rdR φ hl] w F := stars_one ⟨h, stars_ok hs⟩
section
variable {α : Type} {rd : World → (Nat → Prop) → List Value → α → Prop} [RdK rd]
theorem el_nil {L : List Res} {w : World} {F : Nat → Prop} (h : stars L w F) : stars (ElR rd [] [] :: L) w F :=
  ⟨fun _ => False, F, ⟨⟨rfl, fun i c x h1 _ => by simp at h1⟩, fun _ h => h.elim⟩, h, fun k => by simp, fun _ h => h.elim⟩
theorem el_snoc {css : List (List Value)} {l : List α} {c : List Value} {x : α} {w : World} {F : Nat → Prop} (h : stars [ElR rd css l, VlR rd c x] w F) : stars [ElR rd (css ++ [c]) (l ++ [x])] w F := by
  obtain ⟨F1, F2, h1, h2, hF⟩ := stars_two h
  obtain ⟨⟨he, h1⟩, _⟩ := h1
  refine rdR_mk ⟨by simp [he], fun i c' x' hc hx => ?_⟩ h
  by_cases hi : i < css.length
  · rw [List.getElem?_append_left hi] at hc
    rw [List.getElem?_append_left (by omega)] at hx
    exact RdK.mv (h1 i c' x' hc hx) (still_sub fun k hk => (hF k).2 (.inl hk))
  · have hi' : i = css.length := by
      have := (List.getElem?_eq_some_iff.1 hc).1; simp at this; omega
    subst hi'
    rw [List.getElem?_append_right (by omega)] at hc hx
    simp only [Nat.sub_self, List.getElem?_cons_zero, Option.some.injEq] at hc
    simp only [he, Nat.sub_self, List.getElem?_cons_zero, Option.some.injEq] at hx
    subst hc; subst hx
    exact RdK.mv h2.1 (still_sub fun k hk => (hF k).2 (.inr hk))
theorem ls_of {e size n cap : Nat} {a : Option Addr} {css : List (List Value)} {l : List α} {w : World} {F : Nat → Prop} (hsz : ∀ c ∈ css, c.length = size) (h : stars [rowR e size a n cap css.flatten, ElR rd css l] w F) : stars [LsR rd size a n l] w F := by
  obtain ⟨F1, F2, h1, h2, hF⟩ := stars_two h
  obtain ⟨⟨he, h2⟩, _⟩ := h2
  exact rdR_mk ⟨css, (rowR.rd h1).mv (still_sub fun k hk => (hF k).2 (.inl hk)), hsz, he, fun i c x hc hx => RdK.mv (h2 i c x hc hx) (still_sub fun k hk => (hF k).2 (.inr hk))⟩ h
theorem ls_nil {size : Nat} {L : List Res} {w : World} {F : Nat → Prop} (h : stars L w F) : stars (LsR rd size none 0 [] :: L) w F :=
  ⟨fun _ => False, F, ⟨RdList.nil, fun _ h => h.elim⟩, h, fun k => by simp, fun _ h => h.elim⟩
end
theorem St.pureI {w0 w : World} {F0 : Nat → Prop} {L : List Res} {p : Prop} (hp : p) (h : St w0 F0 L w) : St w0 F0 (pureR p :: L) w := by
  obtain ⟨F, hF, hst⟩ := h; exact ⟨F, stars_pure_mk hp hF, hst⟩
theorem St.rowNil {w0 w : World} {F0 : Nat → Prop} {e size : Nat} {L : List Res} (h : St w0 F0 L w) : St w0 F0 (rowR e size none 0 0 [] :: L) w := by
  obtain ⟨F, hF, hst⟩ := h; exact ⟨F, stars_row_nil hF, hst⟩
theorem RdRow.none {w : World} {A : Nat → Prop} {size n : Nat} {xs : List Value} (h : RdRow w A size none n xs) : n = 0 ∧ xs = [] := by
  have h0 : n = 0 := by
    rcases Nat.eq_zero_or_pos n with h0 | h0
    · exact h0
    · obtain ⟨_, _, ha, _⟩ := h.2.2 h0; cases ha
  subst h0
  exact ⟨rfl, List.length_eq_zero_iff.1 (by simpa using h.1)⟩

attribute [local irreducible] Gl Gc Gx Gs Runs Wt

set_option maxHeartbeats 1000000 in
set_option maxRecDepth 20000 in
theorem snumber_ok {w : World} {F : Nat → Prop} {s : List UInt8} (h : stars [] w F) (hs : s.length ≤ 65535) :
    Calls Tryd.prog 50 #[.string (str s)] w (Post w F (fun _ : Unit => .tuple #[.int .i64 ((numP s).getD 0 : Nat), .bool (numP s).isSome]) (fun _ => [])) := by
  refine g_enter (env := [(0, .string (str s))]) Tryd.func50 rfl h Tryd.ntmps50 rfl rfl ?_
  refine gsr ?_
  refine gp zas ?_
  refine gp zas ?_
  refine gnt ?_
  refine gc_seq ?_
  refine gc_seq ?_
  by_cases g1 : s = []
  · refine gc_region ?_
    refine gp zmv ?_
    refine gp (r_bool (c := true) zes (decide_eq_true g1)) ?_
    refine gp zmv ?_
    refine gn ?_
    refine gn ?_
    refine gn ?_
    refine gp zpk ?_
    refine gp zmv ?_
    refine gn ?_
    refine gn ?_
    refine gn ?_
    refine gn ?_
    refine gn ?_
    refine gn ?_
    refine gn ?_
    refine gn ?_
    refine gp zpk ?_
    refine gnt ?_
    refine gc_condT rfl rfl ?_
    refine gsr ?_
    refine gp zas ?_
    refine gp zas ?_
    refine gnt ?_
    refine gc_ret ?_
    refine gx_then_ret ?_
    refine gx_ret2 rfl (by conv => lhs; whnf) (by conv => lhs; whnf) ?_
    exact fun w' hw => ⟨(), by rw [show numP s = none from by rw [g1]; rfl]; rfl, hw.sel (by repeat (first | exact Sel.nil | (apply Sel.cons; · (repeat (first | exact Pick.here | apply Pick.there)))))⟩
  · by_cases g2 : (6 : Int) < (s.length : Int)
    · refine gc_region ?_
      refine gp zmv ?_
      refine gp (r_bool (c := false) zes (decide_eq_false g1)) ?_
      refine gp zmv ?_
      refine gq zmv ?_
      refine gq zlS ?_
      refine gq (r_bool (c := true) zgt (decide_eq_true g2)) ?_
      refine gp zpk ?_
      refine gp zmv ?_
      refine gn ?_
      refine gn ?_
      refine gn ?_
      refine gn ?_
      refine gn ?_
      refine gn ?_
      refine gn ?_
      refine gn ?_
      refine gp zpk ?_
      refine gnt ?_
      refine gc_condT rfl rfl ?_
      refine gsr ?_
      refine gp zas ?_
      refine gp zas ?_
      refine gnt ?_
      refine gc_ret ?_
      refine gx_then_ret ?_
      refine gx_ret2 rfl (by conv => lhs; whnf) (by conv => lhs; whnf) ?_
      exact fun w' hw => ⟨(), by rw [show numP s = none from numP_long g2]; rfl, hw.sel (by repeat (first | exact Sel.nil | (apply Sel.cons; · (repeat (first | exact Pick.here | apply Pick.there)))))⟩
    · by_cases g3 : (1 : Int) < (s.length : Int)
      · obtain ⟨c0, r0, hs0⟩ : ∃ c r, s = c :: r := by cases s with | nil => exact absurd rfl g1 | cons c r => exact ⟨c, r, rfl⟩
        refine gc_region ?_
        refine gp zmv ?_
        refine gp (r_bool (c := false) zes (decide_eq_false g1)) ?_
        refine gp zmv ?_
        refine gq zmv ?_
        refine gq zlS ?_
        refine gq (r_bool (c := false) zgt (decide_eq_false g2)) ?_
        refine gp zpk ?_
        refine gp zmv ?_
        refine gq zmv ?_
        refine gq zlS ?_
        refine gq (r_bool (c := true) zgt (decide_eq_true g3)) ?_
        refine gq zmv ?_
        refine gq zmv ?_
        refine gq (r_ixs (b := s) (j := 0) (c := c0) (by rw [hs0]; rfl)) ?_
        refine gq zei ?_
        refine gq zpk ?_
        refine gp zpk ?_
        refine gnt ?_
        refine gif rfl (fun hc23 => ?_) (fun hc23 => ?_)
        · refine gsr ?_
          refine gp zas ?_
          refine gp zas ?_
          refine gnt ?_
          refine gc_ret ?_
          refine gx_then_ret ?_
          refine gx_ret2 rfl (by conv => lhs; whnf) (by conv => lhs; whnf) ?_
          exact fun w' hw => ⟨(), by rw [show numP s = none from by subst hs0; exact numP_zero (by omega) g3]; rfl, hw.sel (by repeat (first | exact Sel.nil | (apply Sel.cons; · (repeat (first | exact Pick.here | apply Pick.there)))))⟩
        · try simp only at hc23
          have hgo : numP s = num1 s 0 := numP_go g1 g2 (fun c r e h1 => by first | exact absurd h1 g3 | (subst hs0; injection e with e _; subst e; omega))
          refine gc_skip ?_
          refine gx_then ?_
          refine gsr ?_
          refine gp zas ?_
          refine gnt ?_
          refine gc_seq ?_
          refine gsr ?_
          refine gp zmv ?_
          refine zob fun g25 c25 => ?_
          refine gp zln ?_
          refine gp zmv ?_
          refine gnt ?_
          refine gc_block ?_
          have hgo : numP s = num1 s 0 := numP_go g1 g2 (fun c r e h1 => by first | exact absurd h1 g3 | (subst hs0; injection e with e _; subst e; omega))
          refine gc_loop (α := Nat × Nat × List UInt8) (fun y => [pureR (s.drop y.1 = y.2.2 ∧ y.1 ≤ s.length ∧ num1 s 0 = num1 y.2.2 y.2.1 ∧ y.2.1 < 10 ^ y.1), rowR 5 1 (some ⟨g25, 0, none⟩) s.length c25 (s.map B8)]) (fun y => [(27, .int .i64 (y.1 : Int)), (4, .int .i64 (y.2.1 : Int))]) [2, 3, 6, 28, 29, 30, 31, 32, 33, 34, 35, 36, 37, 38, 39, 40, 41, 42, 43] (fun y => s.length - y.1) (0, 0, s) ?_ ?_ ?_
          · refine env_start (by kernel_rfl)
          · exact zlp ⟨rfl, Nat.zero_le _, rfl, Nat.one_pos⟩
          · intro y u
            obtain ⟨k, a, r⟩ := y
            refine gc_pureR (fun hq => ?_)
            obtain ⟨hd, hk, hn, ha⟩ := hq
            replace hd : s.drop k = r := hd
            replace hk : k ≤ s.length := hk
            replace hn : num1 s 0 = num1 r a := hn
            replace ha : a < 10 ^ k := ha
            refine gsr ?_
            refine gp zlt ?_
            refine gnt ?_
            refine gc_seq ?_
            refine gif rfl (fun hc28 => ?_) (fun hc28 => ?_)
            · try simp only at hc28
              have hk' : k < s.length := by omega
              obtain ⟨c, r', hd2, hget, hdr, _, _⟩ := drop_at hk'
              obtain rfl : r = c :: r' := hd.symm.trans hd2
              have hcl := c.toNat_lt
              have ha6 := pow6 ha (by omega)
              refine gc_skip ?_
              refine gx_then ?_
              refine gc_seq ?_
              refine gc_block ?_
              refine gsr ?_
              refine gp zia ?_
              refine gp (r_ld1r (v := B8 c) rfl Ty.row_5 (by repeat (first | exact Pick.here | apply Pick.there)) (b8_get (by simpa using hget))) ?_
              refine gp zas ?_
              refine gnt ?_
              refine gc_seq ?_
              refine gc_seq ?_
              by_cases g4 : (c.toNat : Int) < 48
              · refine gc_region ?_
                refine gp zmv ?_
                refine gp (r_bool (c := true) zlt (decide_eq_true g4)) ?_
                refine gp zmv ?_
                refine gn ?_
                refine gn ?_
                refine gp zpk ?_
                refine gnt ?_
                refine gc_condT rfl rfl ?_
                refine gsr ?_
                refine gp zas ?_
                refine gp zas ?_
                refine gnt ?_
                refine gc_ret ?_
                refine gx_then_ret ?_
                refine gx_block_ret ?_
                refine gx_then_ret ?_
                refine gx_round_ret ?_
                refine gx_block_ret ?_
                refine gx_then_ret ?_
                refine gx_ret2 rfl (by conv => lhs; whnf) (by conv => lhs; whnf) ?_
                exact fun w' hw => ⟨(), by rw [show numP s = none from by rw [hgo, hn, num_bad (by omega)]]; rfl, hw.sel (by repeat (first | exact Sel.nil | (apply Sel.cons; · (repeat (first | exact Pick.here | apply Pick.there)))))⟩
              · by_cases g5 : (57 : Int) < (c.toNat : Int)
                · refine gc_region ?_
                  refine gp zmv ?_
                  refine gp (r_bool (c := false) zlt (decide_eq_false g4)) ?_
                  refine gp zmv ?_
                  refine gq zmv ?_
                  refine gq (r_bool (c := true) zgt (decide_eq_true g5)) ?_
                  refine gp zpk ?_
                  refine gnt ?_
                  refine gc_condT rfl rfl ?_
                  refine gsr ?_
                  refine gp zas ?_
                  refine gp zas ?_
                  refine gnt ?_
                  refine gc_ret ?_
                  refine gx_then_ret ?_
                  refine gx_block_ret ?_
                  refine gx_then_ret ?_
                  refine gx_round_ret ?_
                  refine gx_block_ret ?_
                  refine gx_then_ret ?_
                  refine gx_ret2 rfl (by conv => lhs; whnf) (by conv => lhs; whnf) ?_
                  exact fun w' hw => ⟨(), by rw [show numP s = none from by rw [hgo, hn, num_bad (by omega)]]; rfl, hw.sel (by repeat (first | exact Sel.nil | (apply Sel.cons; · (repeat (first | exact Pick.here | apply Pick.there)))))⟩
                · refine gc_region ?_
                  refine gp zmv ?_
                  refine gp (r_bool (c := false) zlt (decide_eq_false g4)) ?_
                  refine gp zmv ?_
                  refine gq zmv ?_
                  refine gq (r_bool (c := false) zgt (decide_eq_false g5)) ?_
                  refine gp zpk ?_
                  refine gnt ?_
                  refine gc_condF rfl rfl ?_
                  refine gc_skip ?_
                  refine gx_then ?_
                  refine gc_region ?_
                  refine gp zmv ?_
                  refine gp (r_int (j := ((10 * a : Nat) : Int)) (zml (i := 10) (j := (a : Int)) (h := wrap_i64 (by omega) (by omega))) (by omega)) ?_
                  refine gp zmv ?_
                  refine gp (r_val (v' := .int .u8 ((c.toNat - 48 : Nat) : Int)) zsb (by rw [show ((c.toNat : Int) - 48) = ((c.toNat - 48 : Nat) : Int) by omega]; exact congrArg (Value.int .u8) (wrap_u8 (by omega) (by omega)))) ?_
                  refine gp (r_int (j := ((c.toNat - 48 : Nat) : Int)) zci (wrap_i64 (by omega) (by omega))) ?_
                  refine gp (r_int (j := ((10 * a + (c.toNat - 48) : Nat) : Int)) (zad (i := ((10 * a : Nat) : Int)) (j := ((c.toNat - 48 : Nat) : Int)) (h := wrap_i64 (by omega) (by omega))) (by omega)) ?_
                  refine gp zas ?_
                  refine gl_nil ?_
                  refine gx_block_normal ?_
                  refine gx_then ?_
                  refine gc_region ?_
                  refine gp zad ?_
                  refine gp zmv ?_
                  refine gl_nil ?_
                  refine zrd ((k + 1, 10 * a + (c.toNat - 48), r')) ?_ ?_
                  · show s.length - (k + 1) < s.length - k
                    omega
                  · exact zlp (show s.drop (k + 1) = r' ∧ k + 1 ≤ s.length ∧ num1 s 0 = num1 r' (10 * a + (c.toNat - 48)) ∧ 10 * a + (c.toNat - 48) < 10 ^ (k + 1) from ⟨hdr, by omega, by rw [hn, num_step g4 g5], by rw [Nat.pow_succ]; omega⟩)
            · try simp only at hc28
              have hk' : k = s.length := by omega
              subst hk'
              obtain rfl : r = [] := hd.symm.trans (List.drop_eq_nil_of_le (Nat.le_refl _))
              refine gc_exit ?_
              refine gx_then_exit ?_
              refine gx_round_exit ?_
              refine gx_block_hit ?_
              refine gx_then ?_
              refine gsr ?_
              refine gp zmv ?_
              refine gp zas ?_
              refine gp zas ?_
              refine gnt ?_
              refine gc_ret ?_
              refine gx_ret2 rfl (by conv => lhs; whnf) (by conv => lhs; whnf) ?_
              exact fun w' hw => ⟨(), by rw [hgo, hn]; rfl, hw.sel (by repeat (first | exact Sel.nil | (apply Sel.cons; · (repeat (first | exact Pick.here | apply Pick.there)))))⟩
      · refine gc_region ?_
        refine gp zmv ?_
        refine gp (r_bool (c := false) zes (decide_eq_false g1)) ?_
        refine gp zmv ?_
        refine gq zmv ?_
        refine gq zlS ?_
        refine gq (r_bool (c := false) zgt (decide_eq_false g2)) ?_
        refine gp zpk ?_
        refine gp zmv ?_
        refine gq zmv ?_
        refine gq zlS ?_
        refine gq (r_bool (c := false) zgt (decide_eq_false g3)) ?_
        refine gq zmv ?_
        refine gn ?_
        refine gn ?_
        refine gn ?_
        refine gq zpk ?_
        refine gp zpk ?_
        refine gnt ?_
        refine gc_condF rfl rfl ?_
        refine gc_skip ?_
        refine gx_then ?_
        refine gsr ?_
        refine gp zas ?_
        refine gnt ?_
        refine gc_seq ?_
        refine gsr ?_
        refine gp zmv ?_
        refine zob fun g25 c25 => ?_
        refine gp zln ?_
        refine gp zmv ?_
        refine gnt ?_
        refine gc_block ?_
        have hgo : numP s = num1 s 0 := numP_go g1 g2 (fun c r e h1 => by first | exact absurd h1 g3 | (subst hs0; injection e with e _; subst e; omega))
        refine gc_loop (α := Nat × Nat × List UInt8) (fun y => [pureR (s.drop y.1 = y.2.2 ∧ y.1 ≤ s.length ∧ num1 s 0 = num1 y.2.2 y.2.1 ∧ y.2.1 < 10 ^ y.1), rowR 5 1 (some ⟨g25, 0, none⟩) s.length c25 (s.map B8)]) (fun y => [(27, .int .i64 (y.1 : Int)), (4, .int .i64 (y.2.1 : Int))]) [2, 3, 6, 28, 29, 30, 31, 32, 33, 34, 35, 36, 37, 38, 39, 40, 41, 42, 43] (fun y => s.length - y.1) (0, 0, s) ?_ ?_ ?_
        · refine env_start (by kernel_rfl)
        · exact zlp ⟨rfl, Nat.zero_le _, rfl, Nat.one_pos⟩
        · intro y u
          obtain ⟨k, a, r⟩ := y
          refine gc_pureR (fun hq => ?_)
          obtain ⟨hd, hk, hn, ha⟩ := hq
          replace hd : s.drop k = r := hd
          replace hk : k ≤ s.length := hk
          replace hn : num1 s 0 = num1 r a := hn
          replace ha : a < 10 ^ k := ha
          refine gsr ?_
          refine gp zlt ?_
          refine gnt ?_
          refine gc_seq ?_
          refine gif rfl (fun hc28 => ?_) (fun hc28 => ?_)
          · try simp only at hc28
            have hk' : k < s.length := by omega
            obtain ⟨c, r', hd2, hget, hdr, _, _⟩ := drop_at hk'
            obtain rfl : r = c :: r' := hd.symm.trans hd2
            have hcl := c.toNat_lt
            have ha6 := pow6 ha (by omega)
            refine gc_skip ?_
            refine gx_then ?_
            refine gc_seq ?_
            refine gc_block ?_
            refine gsr ?_
            refine gp zia ?_
            refine gp (r_ld1r (v := B8 c) rfl Ty.row_5 (by repeat (first | exact Pick.here | apply Pick.there)) (b8_get (by simpa using hget))) ?_
            refine gp zas ?_
            refine gnt ?_
            refine gc_seq ?_
            refine gc_seq ?_
            by_cases g4 : (c.toNat : Int) < 48
            · refine gc_region ?_
              refine gp zmv ?_
              refine gp (r_bool (c := true) zlt (decide_eq_true g4)) ?_
              refine gp zmv ?_
              refine gn ?_
              refine gn ?_
              refine gp zpk ?_
              refine gnt ?_
              refine gc_condT rfl rfl ?_
              refine gsr ?_
              refine gp zas ?_
              refine gp zas ?_
              refine gnt ?_
              refine gc_ret ?_
              refine gx_then_ret ?_
              refine gx_block_ret ?_
              refine gx_then_ret ?_
              refine gx_round_ret ?_
              refine gx_block_ret ?_
              refine gx_then_ret ?_
              refine gx_ret2 rfl (by conv => lhs; whnf) (by conv => lhs; whnf) ?_
              exact fun w' hw => ⟨(), by rw [show numP s = none from by rw [hgo, hn, num_bad (by omega)]]; rfl, hw.sel (by repeat (first | exact Sel.nil | (apply Sel.cons; · (repeat (first | exact Pick.here | apply Pick.there)))))⟩
            · by_cases g5 : (57 : Int) < (c.toNat : Int)
              · refine gc_region ?_
                refine gp zmv ?_
                refine gp (r_bool (c := false) zlt (decide_eq_false g4)) ?_
                refine gp zmv ?_
                refine gq zmv ?_
                refine gq (r_bool (c := true) zgt (decide_eq_true g5)) ?_
                refine gp zpk ?_
                refine gnt ?_
                refine gc_condT rfl rfl ?_
                refine gsr ?_
                refine gp zas ?_
                refine gp zas ?_
                refine gnt ?_
                refine gc_ret ?_
                refine gx_then_ret ?_
                refine gx_block_ret ?_
                refine gx_then_ret ?_
                refine gx_round_ret ?_
                refine gx_block_ret ?_
                refine gx_then_ret ?_
                refine gx_ret2 rfl (by conv => lhs; whnf) (by conv => lhs; whnf) ?_
                exact fun w' hw => ⟨(), by rw [show numP s = none from by rw [hgo, hn, num_bad (by omega)]]; rfl, hw.sel (by repeat (first | exact Sel.nil | (apply Sel.cons; · (repeat (first | exact Pick.here | apply Pick.there)))))⟩
              · refine gc_region ?_
                refine gp zmv ?_
                refine gp (r_bool (c := false) zlt (decide_eq_false g4)) ?_
                refine gp zmv ?_
                refine gq zmv ?_
                refine gq (r_bool (c := false) zgt (decide_eq_false g5)) ?_
                refine gp zpk ?_
                refine gnt ?_
                refine gc_condF rfl rfl ?_
                refine gc_skip ?_
                refine gx_then ?_
                refine gc_region ?_
                refine gp zmv ?_
                refine gp (r_int (j := ((10 * a : Nat) : Int)) (zml (i := 10) (j := (a : Int)) (h := wrap_i64 (by omega) (by omega))) (by omega)) ?_
                refine gp zmv ?_
                refine gp (r_val (v' := .int .u8 ((c.toNat - 48 : Nat) : Int)) zsb (by rw [show ((c.toNat : Int) - 48) = ((c.toNat - 48 : Nat) : Int) by omega]; exact congrArg (Value.int .u8) (wrap_u8 (by omega) (by omega)))) ?_
                refine gp (r_int (j := ((c.toNat - 48 : Nat) : Int)) zci (wrap_i64 (by omega) (by omega))) ?_
                refine gp (r_int (j := ((10 * a + (c.toNat - 48) : Nat) : Int)) (zad (i := ((10 * a : Nat) : Int)) (j := ((c.toNat - 48 : Nat) : Int)) (h := wrap_i64 (by omega) (by omega))) (by omega)) ?_
                refine gp zas ?_
                refine gl_nil ?_
                refine gx_block_normal ?_
                refine gx_then ?_
                refine gc_region ?_
                refine gp zad ?_
                refine gp zmv ?_
                refine gl_nil ?_
                refine zrd ((k + 1, 10 * a + (c.toNat - 48), r')) ?_ ?_
                · show s.length - (k + 1) < s.length - k
                  omega
                · exact zlp (show s.drop (k + 1) = r' ∧ k + 1 ≤ s.length ∧ num1 s 0 = num1 r' (10 * a + (c.toNat - 48)) ∧ 10 * a + (c.toNat - 48) < 10 ^ (k + 1) from ⟨hdr, by omega, by rw [hn, num_step g4 g5], by rw [Nat.pow_succ]; omega⟩)
          · try simp only at hc28
            have hk' : k = s.length := by omega
            subst hk'
            obtain rfl : r = [] := hd.symm.trans (List.drop_eq_nil_of_le (Nat.le_refl _))
            refine gc_exit ?_
            refine gx_then_exit ?_
            refine gx_round_exit ?_
            refine gx_block_hit ?_
            refine gx_then ?_
            refine gsr ?_
            refine gp zmv ?_
            refine gp zas ?_
            refine gp zas ?_
            refine gnt ?_
            refine gc_ret ?_
            refine gx_ret2 rfl (by conv => lhs; whnf) (by conv => lhs; whnf) ?_
            exact fun w' hw => ⟨(), by rw [hgo, hn]; rfl, hw.sel (by repeat (first | exact Sel.nil | (apply Sel.cons; · (repeat (first | exact Pick.here | apply Pick.there)))))⟩

set_option maxHeartbeats 200000 in
set_option maxRecDepth 20000 in
theorem sbitted_ok {w : World} {F : Nat → Prop} {s : List UInt8} (h : stars [] w F) (hs : s.length ≤ 65535) :
    Calls Tryd.prog 53 #[.string (str s)] w (Post w F (fun x : (Option Addr × Nat) × List Bool => .tuple #[.slice x.1.1 x.2.length x.1.2, .bool (bitP s).isSome]) (fun x => [pureR (∀ l, bitP s = some l → x.2 = l), rowR 4 1 x.1.1 x.2.length x.1.2 (x.2.map Value.bool)])) := by
  refine g_enter (env := [(0, .string (str s))]) Tryd.func53 rfl h Tryd.ntmps53 rfl rfl ?_
  refine gsr ?_
  refine gp zas ?_
  refine gp zas ?_
  refine gnt ?_
  refine gc_seq ?_
  refine gsr ?_
  refine gp zmv ?_
  refine gp zes ?_
  refine gnt ?_
  refine gif rfl (fun hc8 => ?_) (fun hc8 => ?_)
  · try simp only at hc8
    have g0 : s = [45] := by simpa using hc8
    refine gsr ?_
    refine gp zas ?_
    refine gp zas ?_
    refine gnt ?_
    refine gc_ret ?_
    refine gx_then_ret ?_
    refine gx_ret2 rfl (by conv => lhs; whnf) (by conv => lhs; whnf) ?_
    exact fun w' hw => ⟨((none, 0), []), by rw [show bitP s = some [] from by rw [g0]; rfl]; rfl, St.pureI (fun l hl => by rw [show bitP s = some [] from by rw [g0]; rfl] at hl; cases hl; try rfl) (hw.rowNil.sel (by repeat (first | exact Sel.nil | (apply Sel.cons; · (repeat (first | exact Pick.here | apply Pick.there))))))⟩
  · try simp only at hc8
    have g0 : ¬ s = [45] := by simpa using hc8
    refine gc_skip ?_
    refine gx_then ?_
    refine gsr ?_
    refine gp zas ?_
    refine gnt ?_
    refine gc_seq ?_
    refine gsr ?_
    refine gp zmv ?_
    refine zob fun g10 c10 => ?_
    refine gp zln ?_
    refine gp zmv ?_
    refine gnt ?_
    refine gc_block ?_
    refine gc_loop (α := Nat × Option Addr × Nat × List Bool) (fun y => [pureR (y.1 ≤ s.length ∧ allL bit1 (s.take y.1) = some y.2.2.2), rowR 5 1 (some ⟨g10, 0, none⟩) s.length c10 (s.map B8), rowR 4 1 y.2.1 y.1 y.2.2.1 (y.2.2.2.map Value.bool)]) (fun y => [(12, .int .i64 (y.1 : Int)), (4, .slice y.2.1 y.1 y.2.2.1)]) [2, 3, 6, 13, 14, 15, 16, 17, 18, 19, 20, 21, 22, 23, 24, 25, 26, 27] (fun y => s.length - y.1) (0, none, 0, []) ?_ ?_ ?_
    · refine env_start (by kernel_rfl)
    · exact fun w' hw => zlp ⟨Nat.zero_le _, rfl⟩ (by repeat (first | exact Sel.nil | (apply Sel.cons; · (repeat (first | exact Pick.here | apply Pick.there))))) w' (hw.rowNil (e := 4) (size := 1))
    · intro y u
      obtain ⟨k, a, c, l⟩ := y
      refine gc_pureR (fun hq => ?_)
      obtain ⟨hk, hl⟩ := hq
      replace hk : k ≤ s.length := hk
      replace hl : allL bit1 (s.take k) = some l := hl
      have hll := allL_len hl
      refine gsr ?_
      refine gp zlt ?_
      refine gnt ?_
      refine gc_seq ?_
      refine gif rfl (fun hc13 => ?_) (fun hc13 => ?_)
      · try simp only at hc13
        have hk' : k < s.length := by omega
        obtain ⟨cc, r', hd2, hget, hdr, hmem, htk⟩ := drop_at hk'
        have hcl := cc.toNat_lt
        rw [List.length_take] at hll
        refine gc_skip ?_
        refine gx_then ?_
        refine gc_seq ?_
        refine gc_block ?_
        refine gsr ?_
        refine gp zia ?_
        refine gp (r_ld1r (v := B8 cc) rfl Ty.row_5 (by repeat (first | exact Pick.here | apply Pick.there)) (b8_get (by simpa using hget))) ?_
        refine gp zas ?_
        refine gnt ?_
        refine gc_seq ?_
        refine gc_seq ?_
        by_cases g4 : ¬ (cc.toNat : Int) = 48
        · by_cases g5 : (cc.toNat : Int) = 49
          · refine gc_region ?_
            refine gp zmv ?_
            refine gp (r_bool (c := true) zni (by simpa using g4)) ?_
            refine gp zmv ?_
            refine gq zmv ?_
            refine gq (r_bool (c := false) zni (by simp [g5])) ?_
            refine gp zpk ?_
            refine gnt ?_
            refine gc_condF rfl rfl ?_
            refine gc_skip ?_
            refine gx_then ?_
            refine gc_region ?_
            refine gp zmv ?_
            refine gp zmv ?_
            refine gp (r_bool (c := decide ((cc.toNat : Int) = 49)) zei rfl) ?_
            refine ze1 fun b25 => ?_
            refine zapo (m := k) (j := 1) (fun a26 c26 => ?_)
            refine gp zas ?_
            refine gl_nil ?_
            refine gx_block_normal ?_
            refine gx_then ?_
            refine gc_region ?_
            refine gp zad ?_
            refine gp zmv ?_
            refine gl_nil ?_
            refine zrd ((k + 1, a26, c26, l ++ [decide ((cc.toNat : Int) = 49)])) ?_ ?_
            · show s.length - (k + 1) < s.length - k
              omega
            · simp only [List.length_append, List.map_append, List.length_singleton, List.map_cons, List.map_nil]
              exact zlp (show k + 1 ≤ s.length ∧ allL bit1 (s.take (k + 1)) = some (l ++ [decide ((cc.toNat : Int) = 49)]) from ⟨by omega, by rw [htk]; exact allL_snoc hl (bit1_int.2 (by omega))⟩)
          · refine gc_region ?_
            refine gp zmv ?_
            refine gp (r_bool (c := true) zni (by simpa using g4)) ?_
            refine gp zmv ?_
            refine gq zmv ?_
            refine gq (r_bool (c := true) zni (by simpa using g5)) ?_
            refine gp zpk ?_
            refine gnt ?_
            refine gc_condT rfl rfl ?_
            refine gsr ?_
            refine gp zas ?_
            refine gp zas ?_
            refine gnt ?_
            refine gc_ret ?_
            refine gx_then_ret ?_
            refine gx_block_ret ?_
            refine gx_then_ret ?_
            refine gx_round_ret ?_
            refine gx_block_ret ?_
            refine gx_then_ret ?_
            refine gx_ret2 rfl (by conv => lhs; whnf) (by conv => lhs; whnf) ?_
            exact fun w' hw => ⟨((none, 0), []), by rw [show bitP s = none from by rw [bitP_go g0, allL_none (bit1_int.1 g4 g5) hmem]; split <;> rfl]; rfl, St.pureI (fun l hl => by rw [show bitP s = none from by rw [bitP_go g0, allL_none (bit1_int.1 g4 g5) hmem]; split <;> rfl] at hl; cases hl; try rfl) (hw.rowNil.sel (by repeat (first | exact Sel.nil | (apply Sel.cons; · (repeat (first | exact Pick.here | apply Pick.there))))))⟩
        · refine gc_region ?_
          refine gp zmv ?_
          refine gp (r_bool (c := false) zni (by simpa using g4)) ?_
          refine gp zmv ?_
          refine gn ?_
          refine gn ?_
          refine gp zpk ?_
          refine gnt ?_
          refine gc_condF rfl rfl ?_
          refine gc_skip ?_
          refine gx_then ?_
          refine gc_region ?_
          refine gp zmv ?_
          refine gp zmv ?_
          refine gp (r_bool (c := decide ((cc.toNat : Int) = 49)) zei rfl) ?_
          refine ze1 fun b25 => ?_
          refine zapo (m := k) (j := 1) (fun a26 c26 => ?_)
          refine gp zas ?_
          refine gl_nil ?_
          refine gx_block_normal ?_
          refine gx_then ?_
          refine gc_region ?_
          refine gp zad ?_
          refine gp zmv ?_
          refine gl_nil ?_
          refine zrd ((k + 1, a26, c26, l ++ [decide ((cc.toNat : Int) = 49)])) ?_ ?_
          · show s.length - (k + 1) < s.length - k
            omega
          · simp only [List.length_append, List.map_append, List.length_singleton, List.map_cons, List.map_nil]
            exact zlp (show k + 1 ≤ s.length ∧ allL bit1 (s.take (k + 1)) = some (l ++ [decide ((cc.toNat : Int) = 49)]) from ⟨by omega, by rw [htk]; exact allL_snoc hl (bit1_int.2 (by omega))⟩)
      · try simp only at hc13
        have hk' : k = s.length := by omega
        subst hk'
        rw [List.take_of_length_le (Nat.le_refl _)] at hl hll
        refine gc_exit ?_
        refine gx_then_exit ?_
        refine gx_round_exit ?_
        refine gx_block_hit ?_
        refine gx_then ?_
        refine gc_seq ?_
        by_cases g6 : s = []
        · refine gc_region ?_
          refine gp zmv ?_
          refine gp zmv ?_
          refine gp zln ?_
          refine gp (r_bool (c := false) zgt (decide_eq_false (by show ¬ (0 : Int) < (s.length : Int); rw [g6]; decide))) ?_
          refine gp zmv ?_
          refine gn ?_
          refine gn ?_
          refine gn ?_
          refine gp zpk ?_
          refine gp zas ?_
          refine gp zas ?_
          refine gnt ?_
          refine gc_ret ?_
          refine gx_ret2 rfl (by conv => lhs; whnf) (by conv => lhs; whnf) ?_
          have hz : bitP s = none := by rw [bitP_go g0, if_pos (.inl g6)]
          rw [← hll]
          exact fun w' hw => ⟨((a, c), l), by rw [hz]; rfl, St.pureI (fun l' hl' => by rw [hz] at hl'; cases hl') (hw.sel (by repeat (first | exact Sel.nil | (apply Sel.cons; · (repeat (first | exact Pick.here | apply Pick.there))))))⟩
        · have hpos : 0 < s.length := by cases s with | nil => exact absurd rfl g6 | cons a b => simp
          refine gc_region ?_
          refine gp zmv ?_
          refine gp zmv ?_
          refine gp zln ?_
          refine gp (r_bool (c := true) zgt (decide_eq_true (by show (0 : Int) < (s.length : Int); omega))) ?_
          refine gp zmv ?_
          refine gq zmv ?_
          refine gq zln ?_
          refine gq zle ?_
          refine gp zpk ?_
          refine gp zas ?_
          refine gp zas ?_
          refine gnt ?_
          refine gc_ret ?_
          refine gx_ret2 rfl (by conv => lhs; whnf) (by conv => lhs; whnf) ?_
          rw [← hll]
          exact fun w' hw => ⟨((a, c), l), by rw [(bit_end g0 g6 hl).1], St.pureI (bit_end g0 g6 hl).2 (hw.sel (by repeat (first | exact Sel.nil | (apply Sel.cons; · (repeat (first | exact Pick.here | apply Pick.there))))))⟩

end Go.Proofs.YthicckleihbomaaDoor

/- Walks, by program (wg.py) out of a spec. -/
namespace Go.Proofs.YthicckleihbomaaDoor
open Go
set_option linter.unusedVariables false
set_option linter.unusedSimpArgs false

def allOr (n : Nat) (y : Bool) : Option Nat := if y = true then some n else none

/-- A slice that grows, in a variable. -/
def VarR (b T e : Nat) (xs : List Value) : Res := exR fun p : Option Addr × Nat => allR [blk b T [.slice p.1 xs.length p.2], rowR e 1 p.1 xs.length p.2 xs]
section
variable {w0 w : World} {F F0 : Nat → Prop} {L L' : List Res} {Q : Exit → Act → World → Prop} {n : Fm} {env : Env} {ops : Array Oper} {rest : List Oper} {b m T e : Nat} {a : Option Addr} {c : Nat} {xs ys : List Value} {P : Program}
theorem gc_var {k : Code} (hp : Pick L (VarR b T e xs) L') (K : ∀ a c m, m = xs.length → Gc P w0 F0 (blk b T [.slice a m c] :: rowR e 1 a m c xs :: L') k Q n env) : Gc P w0 F0 L k Q n env := fun w hw => by
  obtain ⟨F, hF, hst⟩ := hw.pick hp
  obtain ⟨⟨a, c⟩, h⟩ := stars_ex hF
  exact K a c _ rfl w ⟨F, stars_all h, hst⟩
theorem St.var (h : St w0 F0 (blk b T [.slice a m c] :: rowR e 1 a m c xs :: L) w) (h1 : m = ys.length) (h2 : xs = ys) : St w0 F0 (VarR b T e ys :: L) w := by
  subst h1; subst h2
  obtain ⟨F, hF, hst⟩ := h
  exact ⟨F, stars_ex_mk (a, c) (stars_all_mk hF), hst⟩
theorem gc_turn {k : Code} {L2 : List Res} (hs : ∀ w, St w0 F0 L w → St w0 F0 L2 w) (K : Gc P w0 F0 L2 k Q n env) : Gc P w0 F0 L k Q n env := fun w hw => K w (hs w hw)
end
def cE (g : Nat) (i : Nat) (_ : Unit) : Array Value := #[.slice (some ⟨g, 0 + 2 * i, none⟩) 2 2]
def cG (m : Nat) (i : Nat) (_ : Unit) : List Res := [pureR (i < m)]

attribute [local irreducible] Gl Gc Gx Gs Runs Wt

set_option maxHeartbeats 400000 in
theorem chunkb_ok {w : World} {F : Nat → Prop} {a : Option Addr} {n c : Nat} (h : stars [] w F) :
    Calls Tryd.prog 62 #[.slice a n c, .int .i64 2] w (Post w F (fun p : Nat × Nat => .func (.func 70) #[] #[.pointer (some ⟨p.1, 0, none⟩), .pointer (some ⟨p.2, 0, none⟩)]) (fun p => [blk p.1 36 [.slice a n c], blk p.2 3 [.int .i64 2]])) := by
  refine g_enter (env := [(0, .slice a n c), (1, .int .i64 2)]) Tryd.func62 rfl h Tryd.ntmps62 rfl rfl ?_
  refine gsr ?_
  refine zb1 fun b2 => ?_
  refine zb1 fun b3 => ?_
  refine gp zas ?_
  refine gnt ?_
  refine gc_seq ?_
  refine gsr ?_
  refine gp zl ?_
  refine gp (r_bool (c := false) zlt rfl) ?_
  refine gnt ?_
  refine gc_condF rfl rfl ?_
  refine gc_skip ?_
  refine gx_then ?_
  refine gsr ?_
  refine gp zmf ?_
  refine gp zas ?_
  refine gnt ?_
  refine gc_ret ?_
  refine gx_ret1 rfl (by conv => lhs; whnf) ?_
  exact ze (b2, b3)

set_option maxHeartbeats 400000 in
theorem chunkb1_ok {w : World} {F : Nat → Prop} {b1 b2 g n m c lp : Nat} {J : Nat → Res} {Jx : Res} (h : stars [blk b1 36 [.slice (some ⟨g, 0, none⟩) n c], blk b2 3 [.int .i64 2], J 0] w F) (hc : n ≤ c) (hn : n ≤ 65536) (hm : n = 2 * m) (hy : RoundsAt Tryd.prog lp (cE g) (cG m) J Jx w F) :
    Calls Tryd.prog 70 #[.func (.yield lp) #[] #[], .pointer (some ⟨b1, 0, none⟩), .pointer (some ⟨b2, 0, none⟩)] w (Post w F (fun _ : Bool => .tuple #[]) (fun y => (match allOr m y with | some m => J m | none => Jx) :: [])) := by
  refine g_enter (env := [(0, .func (.yield lp) #[] #[]), (1, .pointer (some ⟨b1, 0, none⟩)), (2, .pointer (some ⟨b2, 0, none⟩))]) Tryd.func70 rfl h Tryd.ntmps70 rfl rfl ?_
  refine gsr ?_
  refine gp zas ?_
  refine gnt ?_
  refine gc_block ?_
  refine gc_loop (α := Nat) (fun k => [pureR (k ≤ m), blk b1 36 [.slice (some ⟨g, 0, none⟩) n c], blk b2 3 [.int .i64 2], J k]) (fun k => [(4, .int .i64 ((2 * k : Nat) : Int))]) [5, 6, 7, 8, 9, 10, 11, 12, 13, 14, 15, 16, 17, 18, 19, 20, 21, 22, 23, 24, 25, 26, 27, 28, 29, 30] (fun k => m - k) 0 ?_ ?_ ?_
  · refine env_start (by kernel_rfl)
  · exact zlp (Nat.zero_le _)
  · intro k u
    refine gc_pureR (fun hk => ?_)
    replace hk : k ≤ m := hk
    refine gc_seq ?_
    refine gsr ?_
    refine gp zmv ?_
    refine gp zl ?_
    refine gp zln ?_
    refine gp zlt ?_
    refine gnt ?_
    refine gif rfl (fun hc9 => ?_) (fun hc9 => ?_)
    · try simp only at hc9
      have hk' : k < m := by omega
      refine gc_skip ?_
      refine gx_then ?_
      refine gc_seq ?_
      refine gc_block ?_
      refine gc_seq ?_
      refine gc_regionS (by kernel_rfl) (by kernel_rfl) ?_
      refine sp zl ?_
      refine sp zl ?_
      refine sp zmv ?_
      refine sp (r_slice_slice (a := some ⟨g, 0, none⟩) (m := n) (c := c) (l := 2 * k) (h := n) rfl Ty.sl_36 Ty.sz_5 ⟨_, rfl⟩ rfl (by omega) (by omega)) ?_
      refine sp zln ?_
      refine sp (r_int (j := ((2 : Nat) : Int)) r_min (by split <;> omega)) ?_
      refine sp zas ?_
      refine gs_nil ?_
      refine gx_then ?_
      refine gsr ?_
      refine gp zmv ?_
      refine gp zl ?_
      refine gp zmv ?_
      refine gp zmv ?_
      refine gp zmv ?_
      refine gp (r_int (j := ((2 * k + 2 : Nat) : Int)) zad (by omega)) ?_
      refine gp zmv ?_
      refine gp zmv ?_
      refine gp (r_int (j := ((2 * k + 2 : Nat) : Int)) zad (by omega)) ?_
      refine gp (r_val (v' := .slice (some ⟨g, 0 + 2 * k, none⟩) 2 2) (r_slice3 (a := some ⟨g, 0, none⟩) (m := n) (c := c) (l := 2 * k) (h := 2 * k + 2) (u := 2 * k + 2) rfl Ty.sl_36 Ty.sz_5 rfl rfl rfl (by omega) (Nat.le_refl _) (by omega)) (by rw [if_neg (by omega)]; simp [Addr.add]; try omega)) ?_
      refine gl_pI (p := k < m) hk' ?_
      refine gyd hy k () rfl (by repeat (first | exact Sel.nil | (apply Sel.cons; · (repeat (first | exact Pick.here | apply Pick.there))))) (fun x29 => ?_)
      rcases x29 with _ | _
      · refine gp znt ?_
        refine gnt ?_
        refine gc_condT rfl rfl ?_
        refine gc_ret ?_
        refine gx_block_ret ?_
        refine gx_then_ret ?_
        refine gx_round_ret ?_
        refine gx_block_ret ?_
        refine gx_ret0 rfl ?_
        exact ze false
      · refine gp znt ?_
        refine gnt ?_
        refine gc_condF rfl rfl ?_
        refine gc_skip ?_
        refine gx_block_normal ?_
        refine gx_then ?_
        refine gc_region ?_
        refine gp zmv ?_
        refine gp zl ?_
        refine gp (r_int (j := ((2 * (k + 1) : Nat) : Int)) zad (by omega)) ?_
        refine gp zas ?_
        refine gl_nil ?_
        refine zrd (k + 1) ?_ ?_
        · show m - (k + 1) < m - k
          omega
        · exact zlp (show k + 1 ≤ m by omega)
    · try simp only at hc9
      have hk' : k = m := by omega
      subst hk'
      refine gc_exit ?_
      refine gx_then_exit ?_
      refine gx_round_exit ?_
      refine gx_block_hit ?_
      refine gx_ret0' rfl ?_
      exact ze true


theorem chunkb_it {w : World} {F : Nat → Prop} {b1 b2 g n m c lp : Nat} {J : Nat → Res} {Jx : Res} (h : stars [blk b1 36 [.slice (some ⟨g, 0, none⟩) n c], blk b2 3 [.int .i64 2], J 0] w F) (hc : n ≤ c) (hn : n ≤ 65536) (hm : n = 2 * m) :
    IterAt Tryd.prog 70 #[.pointer (some ⟨b1, 0, none⟩), .pointer (some ⟨b2, 0, none⟩)] (cE g) (cG m) (allOr m) (fun _ => []) (fun _ : Bool => .tuple #[]) lp J Jx w F := fun hy => by
  have h2 := chunkb1_ok h hc hn hm hy
  exact h2

set_option maxHeartbeats 400000 in
set_option maxRecDepth 20000 in
theorem shexed_ok {w : World} {F : Nat → Prop} {s : List UInt8} (h : stars [] w F) (hs : s.length ≤ 65535) :
    Calls Tryd.prog 51 #[.string (str s)] w (Post w F (fun x : (Option Addr × Nat) × List UInt8 => .tuple #[.slice x.1.1 x.2.length x.1.2, .bool (hexP s).isSome]) (fun x => [pureR (∀ l, hexP s = some l → x.2 = l), rowR 5 1 x.1.1 x.2.length x.1.2 (x.2.map B8)])) := by
  refine g_enterM (env := [(0, .string (str s))]) Tryd.func51 rfl h Tryd.ntmps51 rfl rfl ?_
  refine gsr ?_
  refine zal fun b2 => ?_
  refine zal fun b3 => ?_
  refine gnt ?_
  refine gc_seq ?_
  refine gsr ?_
  refine gp zmv ?_
  refine gp zes ?_
  refine gnt ?_
  refine gif rfl (fun hc9 => ?_) (fun hc9 => ?_)
  · try simp only at hc9
    have g0 : s = [45] := by simpa using hc9
    refine gsr ?_
    refine zs1 ?_
    refine zs1 ?_
    refine gnt ?_
    refine gc_ret ?_
    refine gx_then_ret ?_
    refine gx_mark0 ?_
    refine gx_retcc rfl rfl rfl (ld_oneS Ty.row_36 (by repeat (first | exact Pick.here | apply Pick.there)) (by first | rfl | (simp only [List.getElem?_cons_succ, List.getElem?_cons_zero, List.cons_append, List.append_assoc, get_dc, get_L, Nat.reduceLeDiff, Nat.reduceSub, Nat.reduceAdd, Nat.le_refl]; rfl))) (ld_oneS Ty.row_4 (by repeat (first | exact Pick.here | apply Pick.there)) (by first | rfl | (simp only [List.getElem?_cons_succ, List.getElem?_cons_zero, List.cons_append, List.append_assoc, get_dc, get_L, Nat.reduceLeDiff, Nat.reduceSub, Nat.reduceAdd, Nat.le_refl]; rfl))) ?_
    have hz : hexP s = some [] := by rw [g0]; rfl
    exact fun w' hw => ⟨((none, 0), []), by rw [hz]; rfl, St.pureI (fun l hl => by rw [hz] at hl; injection hl) (hw.rowNil.sel (by repeat (first | exact Sel.nil | (apply Sel.cons; · (repeat (first | exact Pick.here | apply Pick.there))))))⟩
  · try simp only at hc9
    have g0 : ¬ s = [45] := by simpa using hc9
    refine gc_skip ?_
    refine gx_then ?_
    refine gc_seq ?_
    refine gc_seq ?_
    by_cases g1 : s = []
    · refine gc_region ?_
      refine gp zmv ?_
      refine gp (r_bool (c := true) zes (decide_eq_true g1)) ?_
      refine gp zmv ?_
      refine gn ?_
      refine gn ?_
      refine gn ?_
      refine gn ?_
      refine gp zpk ?_
      refine gnt ?_
      refine gc_condT rfl rfl ?_
      refine gsr ?_
      refine zs1 ?_
      refine zs1 ?_
      refine gnt ?_
      refine gc_ret ?_
      refine gx_then_ret ?_
      refine gx_mark0 ?_
      refine gx_retcc rfl rfl rfl (ld_oneS Ty.row_36 (by repeat (first | exact Pick.here | apply Pick.there)) (by first | rfl | (simp only [List.getElem?_cons_succ, List.getElem?_cons_zero, List.cons_append, List.append_assoc, get_dc, get_L, Nat.reduceLeDiff, Nat.reduceSub, Nat.reduceAdd, Nat.le_refl]; rfl))) (ld_oneS Ty.row_4 (by repeat (first | exact Pick.here | apply Pick.there)) (by first | rfl | (simp only [List.getElem?_cons_succ, List.getElem?_cons_zero, List.cons_append, List.append_assoc, get_dc, get_L, Nat.reduceLeDiff, Nat.reduceSub, Nat.reduceAdd, Nat.le_refl]; rfl))) ?_
      have hz : hexP s = none := by rw [hexP_go g0, if_pos g1]
      exact fun w' hw => ⟨((none, 0), []), by rw [hz]; rfl, St.pureI (fun l hl => by rw [hz] at hl; cases hl) (hw.rowNil.sel (by repeat (first | exact Sel.nil | (apply Sel.cons; · (repeat (first | exact Pick.here | apply Pick.there))))))⟩
    · refine gc_region ?_
      refine gp zmv ?_
      refine gp (r_bool (c := false) zes (decide_eq_false g1)) ?_
      refine gp zmv ?_
      refine gq zmv ?_
      refine gq zlS ?_
      refine gq (r_int (j := ((s.length % 2 : Nat) : Int)) zrm (by rw [Int.tmod_eq_emod_of_nonneg (by omega)]; omega)) ?_
      refine gq zni ?_
      refine gp zpk ?_
      refine gnt ?_
      refine gif rfl (fun hc17 => ?_) (fun hc17 => ?_)
      · refine gsr ?_
        refine zs1 ?_
        refine zs1 ?_
        refine gnt ?_
        refine gc_ret ?_
        refine gx_then_ret ?_
        refine gx_mark0 ?_
        refine gx_retcc rfl rfl rfl (ld_oneS Ty.row_36 (by repeat (first | exact Pick.here | apply Pick.there)) (by first | rfl | (simp only [List.getElem?_cons_succ, List.getElem?_cons_zero, List.cons_append, List.append_assoc, get_dc, get_L, Nat.reduceLeDiff, Nat.reduceSub, Nat.reduceAdd, Nat.le_refl]; rfl))) (ld_oneS Ty.row_4 (by repeat (first | exact Pick.here | apply Pick.there)) (by first | rfl | (simp only [List.getElem?_cons_succ, List.getElem?_cons_zero, List.cons_append, List.append_assoc, get_dc, get_L, Nat.reduceLeDiff, Nat.reduceSub, Nat.reduceAdd, Nat.le_refl]; rfl))) ?_
        have hz : hexP s = none := by rw [hexP_go g0, if_neg g1, hex_odd (by omega)]
        exact fun w' hw => ⟨((none, 0), []), by rw [hz]; rfl, St.pureI (fun l hl => by rw [hz] at hl; cases hl) (hw.rowNil.sel (by repeat (first | exact Sel.nil | (apply Sel.cons; · (repeat (first | exact Pick.here | apply Pick.there))))))⟩
      · try simp only at hc17
        have heven : s.length % 2 = 0 := by omega
        obtain ⟨mm, hm⟩ : ∃ m, s.length = 2 * m := ⟨s.length / 2, by omega⟩
        refine gc_skip ?_
        refine gx_then ?_
        refine gsr ?_
        refine zal fun b4 => ?_
        refine gnt ?_
        refine gc_seq ?_
        refine gsr ?_
        refine gp zmv ?_
        refine zob fun g19 c19 => ?_
        refine zc ?_ (c := fun w1 F1 F2 h1 h2 hd hst => chunkb_ok h1)
        rintro ⟨b20, c20⟩
        refine gnt ?_
        refine gc_block ?_
        refine gc_fact (fun w' hw => St.rowLe (hw.sel (M := [rowR 5 1 (some ⟨g19, 0, none⟩) s.length c19 (s.map B8)]) (by repeat (first | exact Sel.nil | (apply Sel.cons; · (repeat (first | exact Pick.here | apply Pick.there)))))) .here) (fun hrc => ?_)
        refine gc_turn (L2 := ([pureR ((hexL (s.take (2 * 0))).isSome = true ∧ 0 ≤ mm), VarR b4 36 5 (((hexL (s.take (2 * 0))).getD []).map B8), blk b2 36 [.slice none 0 0], blk b3 4 [.bool false], rowR 5 1 (some ⟨g19, 0, none⟩) s.length c19 (s.map B8)]) ++ [blk b20 36 [.slice (some ⟨g19, 0, none⟩) s.length c19], blk c20 3 [.int .i64 2]]) (fun w' hw => St.pureI ⟨rfl, Nat.zero_le _⟩ ((St.var (ys := []) ((hw.rowNil (e := 5) (size := 1)).sel (M := [blk b4 36 [.slice none 0 0], rowR 5 1 none 0 0 [], blk b2 36 [.slice none 0 0], blk b3 4 [.bool false], rowR 5 1 (some ⟨g19, 0, none⟩) s.length c19 (s.map B8), blk b20 36 [.slice (some ⟨g19, 0, none⟩) s.length c19], blk c20 3 [.int .i64 2]]) (by repeat (first | exact Sel.nil | (apply Sel.cons; · (repeat (first | exact Pick.here | apply Pick.there)))))) rfl rfl).sel (by repeat (first | exact Sel.nil | (apply Sel.cons; · (repeat (first | exact Pick.here | apply Pick.there))))))) ?_
        refine gc_range (own := [blk b20 36 [.slice (some ⟨g19, 0, none⟩) s.length c19], blk c20 3 [.int .i64 2]]) (fun i => [pureR ((hexL (s.take (2 * i))).isSome = true ∧ i ≤ mm), VarR b4 36 5 (((hexL (s.take (2 * i))).getD []).map B8), blk b2 36 [.slice none 0 0], blk b3 4 [.bool false], rowR 5 1 (some ⟨g19, 0, none⟩) s.length c19 (s.map B8)]) (fun i cd => [pureR (cd = Code.ret ∧ hexP s = none), blk b2 36 [.slice none 0 0], blk b3 4 [.bool false]]) (by exact rfl) Ty.call_70 (by repeat (first | exact Sel.nil | (apply Sel.cons; · (repeat (first | exact Pick.here | apply Pick.there))))) (by intros; rfl) (fun lp J Jx w1 F1 F2 h1 h2 hd hst => chunkb_it h1 hrc.1 (by omega) hm) ?_ ?_ ?_
        · intro lp rc rc' i x w1 F1 F2 h1 h2 hd hst
          try dsimp only [List.cons_append, List.nil_append, zipE]
          refine gc_pure1 (p := i < mm) (by repeat (first | exact Pick.here | apply Pick.there)) (fun him => ?_)
          refine gc_pure1 (p := (hexL (s.take (2 * i))).isSome = true ∧ i ≤ mm) (by repeat (first | exact Pick.here | apply Pick.there)) (fun hI => ?_)
          obtain ⟨hI, _⟩ := hI
          obtain ⟨l, hl⟩ := Option.isSome_iff_exists.1 hI
          rw [hl, Option.getD_some]
          refine gc_var (by repeat (first | exact Pick.here | apply Pick.there)) (fun a4 c4 n4 hn4 => ?_)
          obtain ⟨ca, cb, r, hsp, hga, hgb, htk⟩ := drop_two (s := s) (i := i) (by omega)
          have hdA := dgI_lt ca
          have hdB := dgI_lt cb
          have hll : l.length ≤ s.length := by have := (hexT_L hl).2; rw [List.length_take] at this; omega
          have hlm : (l.map B8).length = l.length := List.length_map ..
          refine gc_region ?_
          refine gp zas ?_
          refine gl_nil ?_
          refine gx_lp (by repeat (first | exact Pick.here | apply Pick.there)) ?_
          refine gx_begin ?_
          refine gc_block ?_
          refine gc_seq ?_
          refine gc_regionZ 9 ([rowR 5 1 (some ⟨g19, 0, none⟩) s.length c19 (s.map B8)]) ?_
          refine yps 0 rfl zmv ?_
          refine yps 1 rfl (r_val (v' := .pointer (some ⟨g19, 0 + 2 * i, none⟩)) zia (by simp)) ?_
          refine yps 2 rfl (r_ld1r (v := B8 ca) rfl Ty.row_5 (by repeat (first | exact Pick.here | apply Pick.there)) (b8_get hga)) ?_
          refine yps 4 rfl zmv ?_
          refine yps 5 rfl (r_val (v' := .pointer (some ⟨g19, 0 + (2 * i + 1), none⟩)) zia (by simp; try omega)) ?_
          refine yps 6 rfl (r_ld1r (v := B8 cb) rfl Ty.row_5 (by repeat (first | exact Pick.here | apply Pick.there)) (b8_get hgb)) ?_
          refine yos 3 rfl ?_
          refine zc (fun _ => ?_) (c := fun w1 F1 F2 h1 h2 hd hst => ixb_ok (b := hexesB) (c := ca) h1)
          rw [hexes_ix]
          refine yxs ?_
          refine yos 7 rfl ?_
          refine zc (fun _ => ?_) (c := fun w1 F1 F2 h1 h2 hd hst => ixb_ok (b := hexesB) (c := cb) h1)
          rw [hexes_ix]
          refine yxs ?_
          refine yps 8 rfl zas ?_
          refine yzs rfl ?_
          refine gp zas ?_
          refine gnt ?_
          refine gc_seq ?_
          refine gc_seq ?_
          by_cases g4 : dgI ca < 0
          · refine gc_region ?_
            refine gp zmv ?_
            refine gp (r_bool (c := true) zlt (decide_eq_true g4)) ?_
            refine gp zmv ?_
            refine gn ?_
            refine gn ?_
            refine gp zpk ?_
            refine gnt ?_
            refine gc_condT rfl rfl ?_
            refine gsr ?_
            refine zs1 ?_
            refine zs1 ?_
            refine gnt ?_
            refine gc_ret ?_
            refine gx_then_ret ?_
            refine gx_block_ret ?_
            refine gx_rdr ?_
            exact fun w' hw => (St.pureI (p := Code.ret = Code.ret ∧ hexP s = none) ⟨rfl, by rw [hexP_go g0, if_neg g1, hsp]; exact hex_bad hl (by omega)⟩ (hw.sel (M := [lpR lp rc', blk b2 36 [.slice none 0 0], blk b3 4 [.bool false]]) (by repeat (first | exact Sel.nil | (apply Sel.cons; · (repeat (first | exact Pick.here | apply Pick.there))))))).sel (by repeat (first | exact Sel.nil | (apply Sel.cons; · (repeat (first | exact Pick.here | apply Pick.there)))))
          · by_cases g5 : dgI cb < 0
            · refine gc_region ?_
              refine gp zmv ?_
              refine gp (r_bool (c := false) zlt (decide_eq_false g4)) ?_
              refine gp zmv ?_
              refine gq zmv ?_
              refine gq (r_bool (c := true) zlt (decide_eq_true g5)) ?_
              refine gp zpk ?_
              refine gnt ?_
              refine gc_condT rfl rfl ?_
              refine gsr ?_
              refine zs1 ?_
              refine zs1 ?_
              refine gnt ?_
              refine gc_ret ?_
              refine gx_then_ret ?_
              refine gx_block_ret ?_
              refine gx_rdr ?_
              exact fun w' hw => (St.pureI (p := Code.ret = Code.ret ∧ hexP s = none) ⟨rfl, by rw [hexP_go g0, if_neg g1, hsp]; exact hex_bad hl (by omega)⟩ (hw.sel (M := [lpR lp rc', blk b2 36 [.slice none 0 0], blk b3 4 [.bool false]]) (by repeat (first | exact Sel.nil | (apply Sel.cons; · (repeat (first | exact Pick.here | apply Pick.there))))))).sel (by repeat (first | exact Sel.nil | (apply Sel.cons; · (repeat (first | exact Pick.here | apply Pick.there)))))
            · refine gc_region ?_
              refine gp zmv ?_
              refine gp (r_bool (c := false) zlt (decide_eq_false g4)) ?_
              refine gp zmv ?_
              refine gq zmv ?_
              refine gq (r_bool (c := false) zlt (decide_eq_false g5)) ?_
              refine gp zpk ?_
              refine gnt ?_
              refine gc_condF rfl rfl ?_
              refine gc_skip ?_
              refine gx_then ?_
              refine gc_region ?_
              refine gp zl ?_
              refine gp zmv ?_
              refine gp zml ?_
              refine gp zmv ?_
              refine gp zad ?_
              refine gp (r_val (v' := B8 (UInt8.ofNat (16 * dgI ca + dgI cb).toNat)) zci (u8_of (by omega) (by omega))) ?_
              refine ze1 fun b42 => ?_
              refine zapo fun a43 c43 => ?_
              refine zs1 ?_
              refine gl_nil ?_
              refine gx_block_normal ?_
              refine gx_rdn ?_
              intro w' hw
              have hl2 := hex_two hl g4 g5
              rw [← htk] at hl2
              exact (St.pureI (p := (hexL (s.take (2 * (i + 1)))).isSome = true ∧ i + 1 ≤ mm) ⟨by rw [hl2]; rfl, him⟩ (St.var (ys := ((hexL (s.take (2 * (i + 1)))).getD []).map B8) (hw.sel (M := [blk b4 36 [.slice a43 _ c43], rowR 5 1 a43 _ c43 _, lpR lp rc', blk b2 36 [.slice none 0 0], blk b3 4 [.bool false], rowR 5 1 (some ⟨g19, 0, none⟩) s.length c19 (s.map B8)]) (by repeat (first | exact Sel.nil | (apply Sel.cons; · (repeat (first | exact Pick.here | apply Pick.there)))))) (by rw [hl2]; simp; omega) (by rw [hl2]; simp))).sel (by repeat (first | exact Sel.nil | (apply Sel.cons; · (repeat (first | exact Pick.here | apply Pick.there)))))
        · intro bU7 y m hy
          try dsimp only [List.cons_append, List.nil_append]
          obtain rfl : m = mm := by cases y <;> simp_all [allOr]
          refine gx_pure1 (p := (hexL (s.take (2 * m))).isSome = true ∧ m ≤ m) (by repeat (first | exact Pick.here | apply Pick.there)) (fun hI => ?_)
          have hts : s.take (2 * m) = s := List.take_of_length_le (by omega)
          rw [hts] at hI ⊢
          obtain ⟨l, hl⟩ := Option.isSome_iff_exists.1 hI.1
          rw [hl, Option.getD_some]
          have hz : hexP s = some l := by rw [hexP_go g0, if_neg g1, hl]
          refine gx_block_normal ?_
          refine gx_thenM ?_
          refine gc_seq ?_
          refine gc_var (by repeat (first | exact Pick.here | apply Pick.there)) (fun a4 c4 n4 hn4 => ?_)
          obtain rfl : n4 = l.length := by rw [hn4]; exact List.length_map ..
          refine gc_region ?_
          refine gp zl ?_
          refine zs1 ?_
          refine zs1 ?_
          refine gnt ?_
          refine gc_ret ?_
          refine gx_mark (by repeat (first | exact Pick.here | apply Pick.there)) ?_
          refine gx_mark0 ?_
          refine gx_retcc rfl rfl rfl (ld_oneS Ty.row_36 (by repeat (first | exact Pick.here | apply Pick.there)) (by first | rfl | (simp only [List.getElem?_cons_succ, List.getElem?_cons_zero, List.cons_append, List.append_assoc, get_dc, get_L, Nat.reduceLeDiff, Nat.reduceSub, Nat.reduceAdd, Nat.le_refl]; rfl))) (ld_oneS Ty.row_4 (by repeat (first | exact Pick.here | apply Pick.there)) (by first | rfl | (simp only [List.getElem?_cons_succ, List.getElem?_cons_zero, List.cons_append, List.append_assoc, get_dc, get_L, Nat.reduceLeDiff, Nat.reduceSub, Nat.reduceAdd, Nat.le_refl]; rfl))) ?_
          exact fun w' hw => ⟨((a4, c4), l), by rw [hz]; rfl, St.pureI (fun l' hl' => by rw [hz] at hl'; injection hl') (hw.sel (by repeat (first | exact Sel.nil | (apply Sel.cons; · (repeat (first | exact Pick.here | apply Pick.there))))))⟩
        · intro bU7 y i cd hy
          try dsimp only [List.cons_append, List.nil_append]
          refine gc_pure1 (p := cd = Code.ret ∧ hexP s = none) (by repeat (first | exact Pick.here | apply Pick.there)) (fun hX => ?_)
          obtain ⟨rfl, hz⟩ := hX
          refine gc_ret ?_
          refine gx_block_ret ?_
          refine gx_then_ret ?_
          refine gx_mark (by repeat (first | exact Pick.here | apply Pick.there)) ?_
          refine gx_mark0 ?_
          refine gx_retcc rfl rfl rfl (ld_oneS Ty.row_36 (by repeat (first | exact Pick.here | apply Pick.there)) (by first | rfl | (simp only [List.getElem?_cons_succ, List.getElem?_cons_zero, List.cons_append, List.append_assoc, get_dc, get_L, Nat.reduceLeDiff, Nat.reduceSub, Nat.reduceAdd, Nat.le_refl]; rfl))) (ld_oneS Ty.row_4 (by repeat (first | exact Pick.here | apply Pick.there)) (by first | rfl | (simp only [List.getElem?_cons_succ, List.getElem?_cons_zero, List.cons_append, List.append_assoc, get_dc, get_L, Nat.reduceLeDiff, Nat.reduceSub, Nat.reduceAdd, Nat.le_refl]; rfl))) ?_
          exact fun w' hw => ⟨((none, 0), []), by rw [hz]; rfl, St.pureI (fun l hl => by rw [hz] at hl; cases hl) (hw.rowNil.sel (by repeat (first | exact Sel.nil | (apply Sel.cons; · (repeat (first | exact Pick.here | apply Pick.there))))))⟩

end Go.Proofs.YthicckleihbomaaDoor

/- Walks, by program (wg.py) out of a spec. -/
namespace Go.Proofs.YthicckleihbomaaDoor
open Go
set_option linter.unusedVariables false
set_option linter.unusedSimpArgs false


def strE (i : Nat) (x : List UInt8) : Array Value := #[.string (str x)]
def strG (ls : List (List UInt8)) (i : Nat) (x : List UInt8) : List Res := [pureR (ls[i]? = some x)]
theorem take_a {a r : List UInt8} {c : UInt8} : ((a ++ c :: r).take (a.length + 0)).drop 0 = a := by simp
theorem drop_a {a r : List UInt8} {c : UInt8} : ((a ++ c :: r).take (a ++ c :: r).length).drop (a.length + 1) = r := by rw [List.take_of_length_le (Nat.le_refl _)]; simp [List.drop_append]
theorem take_a1 {a r : List UInt8} {c : UInt8} : ((a ++ c :: r).take (a.length + 1)).drop 0 = a ++ [c] := by simp [List.take_append]; exact List.take_of_length_le (by omega)
theorem cut_last {c : UInt8} {s r : List UInt8} {k : Nat} (h : (cutB c s).drop k = cutB c r) (hn : c ∉ r) : (cutB c s)[k]? = some r ∧ (cutB c s).length = k + 1 := by
  rw [cut_one hn] at h
  obtain ⟨h1, h2, h3, _, _⟩ := drop_cons h
  refine ⟨h2, ?_⟩
  have := congrArg List.length h3
  simp at this; omega
theorem cut_next {c : UInt8} {s a r : List UInt8} {k : Nat} (h : (cutB c s).drop k = cutB c (a ++ c :: r)) (hn : c ∉ a) : (cutB c s)[k]? = some a ∧ (cutB c s).drop (k + 1) = cutB c r ∧ k < (cutB c s).length := by
  rw [cut_app hn] at h
  obtain ⟨h1, h2, h3, _, _⟩ := drop_cons h
  exact ⟨h2, h3, h1⟩
theorem ix_in {c : UInt8} {r : List UInt8} (h : c ∈ r) : ∃ a r', r = a ++ c :: r' ∧ c ∉ a ∧ Lib.indexByte r c = a.length := by
  rcases ix_cases c r with ⟨hn, _⟩ | h'
  · exact absurd h hn
  · exact h'
theorem line_next {s a r : List UInt8} {k : Nat} (h : (linesL s).drop k = linesL (a ++ 10 :: r)) (hn : 10 ∉ a) : (linesL s)[k]? = some (a ++ [10]) ∧ (linesL s).drop (k + 1) = linesL r ∧ k < (linesL s).length := by
  rw [lines_hit hn] at h
  obtain ⟨h1, h2, h3, _, _⟩ := drop_cons h
  exact ⟨h2, h3, h1⟩
theorem line_last {s r : List UInt8} {k : Nat} (h : (linesL s).drop k = linesL r) (hn : 10 ∉ r) (h0 : r ≠ []) : (linesL s)[k]? = some r ∧ (linesL s).drop (k + 1) = linesL [] ∧ k < (linesL s).length := by
  rw [lines_miss hn h0] at h
  obtain ⟨h1, h2, h3, _, _⟩ := drop_cons h
  exact ⟨h2, h3, h1⟩
theorem line_end {s : List UInt8} {k : Nat} (h : (linesL s).drop k = linesL []) (hk : k ≤ (linesL s).length) : k = (linesL s).length := by
  have := congrArg List.length h
  simp [lines_nil] at this; omega

attribute [local irreducible] Gl Gc Gx Gs Runs Wt

set_option maxHeartbeats 400000 in
theorem splitSeq_ok {w : World} {F : Nat → Prop} {s : List UInt8} {c : UInt8} (h : stars [] w F) :
    Calls Tryd.prog 71 #[.string (str s), .string (str [c]), .int .i64 0] w (Post w F (fun p : Nat × Nat × Nat => .func (.func 78) #[] #[.pointer (some ⟨p.1, 0, none⟩), .pointer (some ⟨p.2.1, 0, none⟩), .pointer (some ⟨p.2.2, 0, none⟩)]) (fun p => [blk p.1 9 [.string (str [c])], blk p.2.1 9 [.string (str s)], blk p.2.2 3 [.int .i64 0]])) := by
  refine g_enter (env := [(0, .string (str s)), (1, .string (str [c])), (2, .int .i64 0)]) Tryd.func71 rfl h Tryd.ntmps71 rfl rfl ?_
  refine gsr ?_
  refine zb1 fun b3 => ?_
  refine zb1 fun b4 => ?_
  refine zb1 fun b5 => ?_
  refine gp zas ?_
  refine gnt ?_
  refine gsr ?_
  refine gp zmf ?_
  refine gp zas ?_
  refine gnt ?_
  refine gc_ret ?_
  refine gx_ret1 rfl (by conv => lhs; whnf) ?_
  exact ze (b4, b3, b5)

set_option maxHeartbeats 400000 in
theorem SplitSeq_ok {w : World} {F : Nat → Prop} {s : List UInt8} {c : UInt8} (h : stars [] w F) :
    Calls Tryd.prog 63 #[.string (str s), .string (str [c])] w (Post w F (fun p : Nat × Nat × Nat => .func (.func 78) #[] #[.pointer (some ⟨p.1, 0, none⟩), .pointer (some ⟨p.2.1, 0, none⟩), .pointer (some ⟨p.2.2, 0, none⟩)]) (fun p => [blk p.1 9 [.string (str [c])], blk p.2.1 9 [.string (str s)], blk p.2.2 3 [.int .i64 0]])) := by
  refine g_enter (env := [(0, .string (str s)), (1, .string (str [c]))]) Tryd.func63 rfl h Tryd.ntmps63 rfl rfl ?_
  refine gsr ?_
  refine gp zas ?_
  refine gnt ?_
  refine gsr ?_
  refine gp zmv ?_
  refine gp zmv ?_
  refine zc ?_ (c := fun w1 F1 F2 h1 h2 hd hst => splitSeq_ok (s := s) (c := c) h1)
  rintro ⟨x, y, z⟩
  refine gp zas ?_
  refine gnt ?_
  refine gc_ret ?_
  refine gx_ret1 rfl (by conv => lhs; whnf) ?_
  exact ze (x, y, z)

set_option maxHeartbeats 400000 in
set_option maxRecDepth 20000 in
theorem splitSeq1_ok {w : World} {F : Nat → Prop} {s : List UInt8} {c : UInt8} {b1 b2 b3 lp : Nat} {J : Nat → Res} {Jx : Res} (h : stars [blk b1 9 [.string (str [c])], blk b2 9 [.string (str s)], blk b3 3 [.int .i64 0], J 0] w F) (hs : s.length ≤ 65535) (hy : RoundsAt Tryd.prog lp strE (strG (cutB c s)) J Jx w F) :
    Calls Tryd.prog 78 #[.func (.yield lp) #[] #[], .pointer (some ⟨b1, 0, none⟩), .pointer (some ⟨b2, 0, none⟩), .pointer (some ⟨b3, 0, none⟩)] w (Post w F (fun _ : Bool => .tuple #[]) (fun y => (match allOr (cutB c s).length y with | some m => J m | none => Jx) :: [])) := by
  refine g_enter (env := [(0, .func (.yield lp) #[] #[]), (1, .pointer (some ⟨b1, 0, none⟩)), (2, .pointer (some ⟨b2, 0, none⟩)), (3, .pointer (some ⟨b3, 0, none⟩))]) Tryd.func78 rfl h Tryd.ntmps78 rfl rfl ?_
  refine gc_seq ?_
  refine gsr ?_
  refine gp zl ?_
  refine gp zlS ?_
  refine gp (r_bool (c := false) zei (rfl)) ?_
  refine gnt ?_
  refine gc_condF rfl rfl ?_
  refine gc_skip ?_
  refine gx_then ?_
  refine gc_seq ?_
  refine gc_block ?_
  refine gc_loop (α := Nat × List UInt8) (fun y => [pureR ((cutB c s).drop y.1 = cutB c y.2 ∧ y.1 ≤ (cutB c s).length ∧ y.2.length ≤ s.length), blk b1 9 [.string (str [c])], blk b2 9 [.string (str y.2)], blk b3 3 [.int .i64 0], J y.1]) (fun y => []) [7, 8, 29, 30, 31, 32, 33, 34, 35, 36, 37, 38, 39, 40, 41, 42, 43, 44, 45, 46, 47, 48] (fun y => (cutB c s).length - y.1) (0, s) ?_ ?_ ?_
  · refine env_start (by kernel_rfl)
  · exact zlp ⟨rfl, Nat.zero_le _, Nat.le_refl _⟩
  · intro y u
    obtain ⟨k, r⟩ := y
    refine gc_pureR (fun hq => ?_)
    obtain ⟨hd, hk, hrl⟩ := hq
    replace hd : (cutB c s).drop k = cutB c r := hd
    replace hk : k ≤ (cutB c s).length := hk
    replace hrl : r.length ≤ s.length := hrl
    refine gc_block ?_
    refine gc_seq ?_
    by_cases g1 : c ∈ r
    · obtain ⟨a, r', hr, hna, hi⟩ := ix_in g1
      subst hr
      obtain ⟨hget, hdr, hkl⟩ := cut_next hd hna
      have hal : a.length + 1 + r'.length ≤ 65535 := by simp at hrl; omega
      refine gc_region ?_
      refine gp zl ?_
      refine gp zl ?_
      refine zc (fun _ => ?_) (c := fun w1 F1 F2 h1 h2 hd hst => ix1_ok (b := a ++ c :: r') (c := c) h1)
      rw [hi]
      refine gp zas ?_
      refine gnt ?_
      refine gc_seq ?_
      refine gsr ?_
      refine gp zmv ?_
      refine gp (r_bool (c := false) zlt (decide_eq_false (by omega))) ?_
      refine gnt ?_
      refine gc_condF rfl rfl ?_
      refine gc_skip ?_
      refine gx_then ?_
      refine gsr ?_
      refine gp zl ?_
      refine gp zmv ?_
      refine gp zl ?_
      refine gp (r_int (j := ((a.length + 0 : Nat) : Int)) (zad (i := (a.length : Int)) (j := 0) (h := wrap_i64 (by omega) (by omega))) (by omega)) ?_
      refine gp (r_val (v' := .string (str a)) (r_subs (b := a ++ c :: r') (l := 0) (h := a.length + 0) (by omega) (by simp) rfl ⟨_, rfl⟩) (by rw [take_a])) ?_
      refine gp zas ?_
      refine gnt ?_
      refine gc_seq ?_
      refine gsr ?_
      refine gp zmv ?_
      refine gp zmv ?_
      refine gl_pI (p := (cutB c s)[k]? = some a) hget ?_
      refine gyd hy k a rfl (by repeat (first | exact Sel.nil | (apply Sel.cons; · (repeat (first | exact Pick.here | apply Pick.there))))) (fun x41 => ?_)
      rcases x41 with _ | _
      · refine gp znt ?_
        refine gnt ?_
        refine gc_condT rfl rfl ?_
        refine gc_ret ?_
        refine gx_then_ret ?_
        refine gx_block_ret ?_
        refine gx_round_ret ?_
        refine gx_block_ret ?_
        refine gx_then_ret ?_
        refine gx_ret0 rfl ?_
        exact ze false
      · refine gp znt ?_
        refine gnt ?_
        refine gc_condF rfl rfl ?_
        refine gc_skip ?_
        refine gx_then ?_
        refine gc_region ?_
        refine gp zl ?_
        refine gp zmv ?_
        refine gp zl ?_
        refine gp (r_int (j := 1) zlS (by simp)) ?_
        refine gp (r_int (j := ((a.length + 1 : Nat) : Int)) (zad (i := (a.length : Int)) (j := 1) (h := wrap_i64 (by omega) (by omega))) (by omega)) ?_
        refine gp (r_val (v' := .string (str r')) (r_subs (b := a ++ c :: r') (l := a.length + 1) (h := (a ++ c :: r').length) (by simp) (Nat.le_refl _) ⟨_, rfl⟩ rfl) (by rw [drop_a])) ?_
        refine zs1 ?_
        refine gl_nil ?_
        refine gx_block_normal ?_
        refine zrd ((k + 1, r')) ?_ ?_
        · show (cutB c s).length - (k + 1) < (cutB c s).length - k
          omega
        · exact zlp (show (cutB c s).drop (k + 1) = cutB c r' ∧ k + 1 ≤ (cutB c s).length ∧ r'.length ≤ s.length from ⟨hdr, by omega, by simp at hrl; omega⟩)
    · have hi := ix_none g1
      obtain ⟨hget, hlen⟩ := cut_last hd g1
      refine gc_region ?_
      refine gp zl ?_
      refine gp zl ?_
      refine zc (fun _ => ?_) (c := fun w1 F1 F2 h1 h2 hd hst => ix1_ok (b := r) (c := c) h1)
      rw [hi]
      refine gp zas ?_
      refine gnt ?_
      refine gc_seq ?_
      refine gsr ?_
      refine gp zmv ?_
      refine gp (r_bool (c := true) zlt (rfl)) ?_
      refine gnt ?_
      refine gc_condT rfl rfl ?_
      refine gc_exit ?_
      refine gx_then_exit ?_
      refine gx_block_miss rfl ?_
      refine gx_round_exit ?_
      refine gx_block_hit ?_
      refine gx_then ?_
      refine gc_region ?_
      refine gp zmv ?_
      refine gp zl ?_
      refine gl_pI (p := (cutB c s)[k]? = some r) hget ?_
      refine gyd hy k r rfl (by repeat (first | exact Sel.nil | (apply Sel.cons; · (repeat (first | exact Pick.here | apply Pick.there))))) (fun x51 => ?_)
      rw [← hlen]
      refine gl_nil ?_
      refine gx_ret0' rfl ?_
      cases x51
      · exact ze false
      · exact ze true


theorem splitSeq1_it {w : World} {F : Nat → Prop} {s : List UInt8} {c : UInt8} {b1 b2 b3 lp : Nat} {J : Nat → Res} {Jx : Res} (h : stars [blk b1 9 [.string (str [c])], blk b2 9 [.string (str s)], blk b3 3 [.int .i64 0], J 0] w F) (hs : s.length ≤ 65535) :
    IterAt Tryd.prog 78 #[.pointer (some ⟨b1, 0, none⟩), .pointer (some ⟨b2, 0, none⟩), .pointer (some ⟨b3, 0, none⟩)] strE (strG (cutB c s)) (allOr (cutB c s).length) (fun _ => []) (fun _ : Bool => .tuple #[]) lp J Jx w F := fun hy => by
  have h2 := splitSeq1_ok h hs hy
  exact h2

set_option maxHeartbeats 400000 in
theorem Lines_ok {w : World} {F : Nat → Prop} {s : List UInt8} (h : stars [] w F) :
    Calls Tryd.prog 17 #[.string (str s)] w (Post w F (fun p : Nat => .func (.func 32) #[] #[.pointer (some ⟨p, 0, none⟩)]) (fun p => [blk p 9 [.string (str s)]])) := by
  refine g_enter (env := [(0, .string (str s))]) Tryd.func17 rfl h Tryd.ntmps17 rfl rfl ?_
  refine gsr ?_
  refine zb1 fun b1 => ?_
  refine gp zas ?_
  refine gnt ?_
  refine gsr ?_
  refine gp zmf ?_
  refine gp zas ?_
  refine gnt ?_
  refine gc_ret ?_
  refine gx_ret1 rfl (by conv => lhs; whnf) ?_
  exact ze b1

set_option maxHeartbeats 400000 in
set_option maxRecDepth 20000 in
theorem Lines1_ok {w : World} {F : Nat → Prop} {s : List UInt8} {b1 lp : Nat} {J : Nat → Res} {Jx : Res} (h : stars [blk b1 9 [.string (str s)], J 0] w F) (hs : s.length ≤ 65535) (hy : RoundsAt Tryd.prog lp strE (strG (linesL s)) J Jx w F) :
    Calls Tryd.prog 32 #[.func (.yield lp) #[] #[], .pointer (some ⟨b1, 0, none⟩)] w (Post w F (fun _ : Bool => .tuple #[]) (fun y => (match allOr (linesL s).length y with | some m => J m | none => Jx) :: [])) := by
  refine g_enter (env := [(0, .func (.yield lp) #[] #[]), (1, .pointer (some ⟨b1, 0, none⟩))]) Tryd.func32 rfl h Tryd.ntmps32 rfl rfl ?_
  refine gc_block ?_
  refine gc_loop (α := Nat × List UInt8) (fun y => [pureR ((linesL s).drop y.1 = linesL y.2 ∧ y.1 ≤ (linesL s).length ∧ y.2.length ≤ s.length), blk b1 9 [.string (str y.2)], J y.1]) (fun y => []) [3, 4, 5, 6, 7, 8, 9, 10, 11, 12, 13, 14, 15, 16, 17, 18, 19, 20, 21, 22, 23, 24] (fun y => (linesL s).length - y.1) (0, s) ?_ ?_ ?_
  · refine env_start (by kernel_rfl)
  · exact zlp ⟨rfl, Nat.zero_le _, Nat.le_refl _⟩
  · intro y u
    obtain ⟨k, r⟩ := y
    refine gc_pureR (fun hq => ?_)
    obtain ⟨hd, hk, hrl⟩ := hq
    replace hd : (linesL s).drop k = linesL r := hd
    replace hk : k ≤ (linesL s).length := hk
    replace hrl : r.length ≤ s.length := hrl
    refine gc_seq ?_
    refine gc_seq ?_
    by_cases g0 : r = []
    · subst g0
      refine gc_region ?_
      refine gp zl ?_
      refine gp zlS ?_
      refine gp (r_bool (c := false) zgt (rfl)) ?_
      refine gnt ?_
      refine gc_condF rfl rfl ?_
      refine gc_exit ?_
      refine gx_then_exit ?_
      refine gx_round_exit ?_
      refine gx_block_hit ?_
      refine gx_ret0' rfl ?_
      obtain rfl := line_end hd hk
      exact ze true
    · have hr0 : 0 < r.length := by cases r with | nil => exact absurd rfl g0 | cons a b => simp
      refine gc_region ?_
      refine gp zl ?_
      refine gp zlS ?_
      refine gp (r_bool (c := true) zgt (decide_eq_true (show (0 : Int) < ((r.length : Nat) : Int) by omega))) ?_
      refine gnt ?_
      refine gc_condT rfl rfl ?_
      refine gc_skip ?_
      refine gx_then ?_
      refine gc_block ?_
      refine gsr ?_
      refine gp zas ?_
      refine gnt ?_
      refine gc_seq ?_
      refine gc_seq ?_
      by_cases g1 : 10 ∈ r
      · obtain ⟨a, r', hr, hna, hi⟩ := ix_in g1
        subst hr
        obtain ⟨hget, hdr, hkl⟩ := line_next hd hna
        have hal : a.length + 1 + r'.length ≤ 65535 := by simp at hrl; omega
        refine gc_region ?_
        refine gp zl ?_
        refine zc (fun _ => ?_) (c := fun w1 F1 F2 h1 h2 hd hst => ixb_ok (b := a ++ 10 :: r') (c := 10) h1)
        rw [hi]
        refine gp zas ?_
        refine gnt ?_
        refine gsr ?_
        refine gp zmv ?_
        refine gp (r_bool (c := true) zge (decide_eq_true (by omega))) ?_
        refine gnt ?_
        refine gc_condT rfl rfl ?_
        refine gc_regionZ 9 ([blk b1 9 [.string (str (a ++ 10 :: r'))]]) ?_
        refine yps 0 rfl zl ?_
        refine yps 1 rfl zmv ?_
        refine yps 2 rfl (r_int (j := ((a.length + 1 : Nat) : Int)) (zad (i := (a.length : Int)) (j := 1) (h := wrap_i64 (by omega) (by omega))) (by omega)) ?_
        refine yps 3 rfl (r_val (v' := .string (str (a ++ [10]))) (r_subs (b := a ++ 10 :: r') (l := 0) (h := a.length + 1) (by omega) (by simp) rfl ⟨_, rfl⟩) (by rw [take_a1])) ?_
        refine yps 4 rfl zl ?_
        refine yps 5 rfl zmv ?_
        refine yps 6 rfl (r_int (j := ((a.length + 1 : Nat) : Int)) (zad (i := (a.length : Int)) (j := 1) (h := wrap_i64 (by omega) (by omega))) (by omega)) ?_
        refine yps 7 rfl (r_val (v' := .string (str r')) (r_subs (b := a ++ 10 :: r') (l := a.length + 1) (h := (a ++ 10 :: r').length) (by simp) (Nat.le_refl _) ⟨_, rfl⟩ rfl) (by rw [drop_a])) ?_
        refine yps 8 rfl zas ?_
        refine yzs rfl ?_
        refine zs1 ?_
        refine gnt ?_
        refine gsr ?_
        refine gp zmv ?_
        refine gp zmv ?_
        refine gl_pI (p := (linesL s)[k]? = some (a ++ [10])) hget ?_
        refine gyd hy k (a ++ [10]) rfl (by repeat (first | exact Sel.nil | (apply Sel.cons; · (repeat (first | exact Pick.here | apply Pick.there))))) (fun x23 => ?_)
        rcases x23 with _ | _
        · refine gp znt ?_
          refine gnt ?_
          refine gc_condT rfl rfl ?_
          refine gc_ret ?_
          refine gx_block_ret ?_
          refine gx_round_ret ?_
          refine gx_block_ret ?_
          refine gx_ret0 rfl ?_
          exact ze false
        · refine gp znt ?_
          refine gnt ?_
          refine gc_condF rfl rfl ?_
          refine gc_skip ?_
          refine gx_block_normal ?_
          refine zrd ((k + 1, r')) ?_ ?_
          · show (linesL s).length - (k + 1) < (linesL s).length - k
            omega
          · exact zlp (show (linesL s).drop (k + 1) = linesL r' ∧ k + 1 ≤ (linesL s).length ∧ List.length r' ≤ s.length from ⟨hdr, by omega, by simp at hrl; omega⟩)
      · have hi := ix_none g1
        obtain ⟨hget, hdr, hkl⟩ := line_last hd g1 g0
        refine gc_region ?_
        refine gp zl ?_
        refine zc (fun _ => ?_) (c := fun w1 F1 F2 h1 h2 hd hst => ixb_ok (b := r) (c := 10) h1)
        rw [hi]
        refine gp zas ?_
        refine gnt ?_
        refine gsr ?_
        refine gp zmv ?_
        refine gp (r_bool (c := false) zge (rfl)) ?_
        refine gnt ?_
        refine gc_condF rfl rfl ?_
        refine gc_region ?_
        refine gp zl ?_
        refine gp zas ?_
        refine zs1 ?_
        refine gnt ?_
        refine gsr ?_
        refine gp zmv ?_
        refine gp zmv ?_
        refine gl_pI (p := (linesL s)[k]? = some r) hget ?_
        refine gyd hy k r rfl (by repeat (first | exact Sel.nil | (apply Sel.cons; · (repeat (first | exact Pick.here | apply Pick.there))))) (fun x23 => ?_)
        rcases x23 with _ | _
        · refine gp znt ?_
          refine gnt ?_
          refine gc_condT rfl rfl ?_
          refine gc_ret ?_
          refine gx_block_ret ?_
          refine gx_round_ret ?_
          refine gx_block_ret ?_
          refine gx_ret0 rfl ?_
          exact ze false
        · refine gp znt ?_
          refine gnt ?_
          refine gc_condF rfl rfl ?_
          refine gc_skip ?_
          refine gx_block_normal ?_
          refine zrd ((k + 1, [])) ?_ ?_
          · show (linesL s).length - (k + 1) < (linesL s).length - k
            omega
          · exact zlp (show (linesL s).drop (k + 1) = linesL [] ∧ k + 1 ≤ (linesL s).length ∧ List.length [] ≤ s.length from ⟨hdr, by omega, Nat.zero_le _⟩)


theorem Lines1_it {w : World} {F : Nat → Prop} {s : List UInt8} {b1 lp : Nat} {J : Nat → Res} {Jx : Res} (h : stars [blk b1 9 [.string (str s)], J 0] w F) (hs : s.length ≤ 65535) :
    IterAt Tryd.prog 32 #[.pointer (some ⟨b1, 0, none⟩)] strE (strG (linesL s)) (allOr (linesL s).length) (fun _ => []) (fun _ : Bool => .tuple #[]) lp J Jx w F := fun hy => by
  have h2 := Lines1_ok h hs hy
  exact h2

end Go.Proofs.YthicckleihbomaaDoor

/- Walks, by program (wg.py) out of a spec. -/
namespace Go.Proofs.YthicckleihbomaaDoor
open Go
set_option linter.unusedVariables false
set_option linter.unusedSimpArgs false

section
variable {w0 w : World} {F F0 : Nat → Prop} {L L' : List Res} {Q : Exit → Act → World → Prop} {n : Fm} {env : Env} {ops : Array Oper} {rest : List Oper} {P : Program}
theorem St.rowAt {e size a m c} {xs : List Value} (hw : St w0 F0 L w) (hp : Pick L (rowR e size a m c xs) L') (hm : 0 < m) : m ≤ c ∧ ∃ g o, a = some ⟨g, o, none⟩ := by
  obtain ⟨F, hF, _⟩ := hw
  obtain ⟨F1, ⟨h1, h2, h3, h4⟩, _⟩ := stars_pick hp hF
  refine ⟨h2, ?_⟩
  rcases h4 with ⟨_, hc, _⟩ | ⟨g, o, _, _, ha, _⟩
  · omega
  · exact ⟨g, o, ha⟩
theorem r_ldRow {d : Option Tmp} {ty : TypeId} {pos : String} {af : Array Edge} {gd : Option (Nat × Bool)} {x : Operand} {T e g o m c s i : Nat} {css : List (List Value)} {cs : List Value} {L' : List Res} (hx : ev n env x = .pointer (some ⟨g, o + i * s, none⟩)) (hr : rowT P T = some true) (hs : szT P T = some s)
    (hp : Pick L (rowR e s (some ⟨g, o, none⟩) m c css.flatten) L') (hcs : ∀ c ∈ css, c.length = s) (hi : css[i]? = some cs) (him : i < m) : Runs P w0 F0 L n env ⟨d, .load T x, ty, pos, af, gd⟩ (.agg cs.toArray) := r_load hx fun w hw => by
  obtain ⟨g', o', ha, _, _, hra⟩ := (hw.row hp).elem him
  cases ha
  rw [flatten_at hcs hi] at hra
  exact run_loadVar_agg hr hs (hcs cs (List.mem_of_getElem? hi)) fun j v hj => hra j v hj
end
theorem pieces_len {x s : List UInt8} {c : UInt8} (h : x ∈ cutB c s) : x.length ≤ s.length := by
  have h2 : ∀ {ps : List (List UInt8)}, x ∈ ps → x.length ≤ (joinB c ps).length := fun {ps} => by
    induction ps with
    | nil => intro h; cases h
    | cons p r ih =>
      intro h
      cases r with
      | nil => rw [List.mem_singleton.1 h]; exact Nat.le_refl _
      | cons q t =>
        rw [joinB]
        rcases List.mem_cons.1 h with rfl | h
        · simp
        · have := ih h; simp; omega
  have := h2 h; rwa [join_cut] at this
theorem cut_count (c : UInt8) : ∀ s : List UInt8, (cutB c s).length ≤ s.length + 1
  | [] => by simp [cutB]
  | x :: r => by
    have := cut_count c r
    simp only [cutB]
    split
    · simp; omega
    · split
      · rename_i h; rw [h] at this; simp at this ⊢; omega
      · simp

attribute [local irreducible] Gl Gc Gx Gs Runs Wt

set_option maxHeartbeats 400000 in
set_option maxRecDepth 20000 in
theorem spowers_ok {w : World} {F : Nat → Prop} {s : List UInt8} (h : stars [] w F) (hs : s.length ≤ 65535) :
    Calls Tryd.prog 52 #[.string (str s)] w (Post w F (fun x : (Option Addr × Nat) × List Nat => .tuple #[.slice x.1.1 x.2.length x.1.2, .bool (powP s).isSome]) (fun x => [pureR (∀ l, powP s = some l → x.2 = l), rowR 3 1 x.1.1 x.2.length x.1.2 ((x.2).map fun n : Nat => Value.int .i64 (n : Int))])) := by
  refine g_enterM (env := [(0, .string (str s))]) Tryd.func52 rfl h Tryd.ntmps52 rfl rfl ?_
  refine gsr ?_
  refine zal fun b2 => ?_
  refine zal fun b3 => ?_
  refine gnt ?_
  refine gc_seq ?_
  refine gsr ?_
  refine gp zmv ?_
  refine gp zes ?_
  refine gnt ?_
  refine gif rfl (fun hc9 => ?_) (fun hc9 => ?_)
  · try simp only at hc9
    have g0 : s = [45] := by simpa using hc9
    refine gsr ?_
    refine zs1 ?_
    refine zs1 ?_
    refine gnt ?_
    refine gc_ret ?_
    refine gx_then_ret ?_
    refine gx_mark0 ?_
    refine gx_retcc rfl rfl rfl (ld_oneS Ty.row_34 (by repeat (first | exact Pick.here | apply Pick.there)) (by first | rfl | (simp only [List.getElem?_cons_succ, List.getElem?_cons_zero, List.cons_append, List.append_assoc, get_dc, get_L, Nat.reduceLeDiff, Nat.reduceSub, Nat.reduceAdd, Nat.le_refl]; rfl))) (ld_oneS Ty.row_4 (by repeat (first | exact Pick.here | apply Pick.there)) (by first | rfl | (simp only [List.getElem?_cons_succ, List.getElem?_cons_zero, List.cons_append, List.append_assoc, get_dc, get_L, Nat.reduceLeDiff, Nat.reduceSub, Nat.reduceAdd, Nat.le_refl]; rfl))) ?_
    have hz : powP s = some [] := by rw [g0]; rfl
    exact fun w' hw => ⟨((none, 0), []), by rw [hz]; rfl, St.pureI (fun l hl => by rw [hz] at hl; injection hl) (hw.rowNil.sel (by repeat (first | exact Sel.nil | (apply Sel.cons; · (repeat (first | exact Pick.here | apply Pick.there))))))⟩
  · try simp only at hc9
    have g0 : ¬ s = [45] := by simpa using hc9
    refine gc_skip ?_
    refine gx_then ?_
    refine gsr ?_
    refine zal fun b4 => ?_
    refine gnt ?_
    refine gc_seq ?_
    refine gsr ?_
    refine gp zmv ?_
    refine zc ?_ (c := fun w1 F1 F2 h1 h2 hd hst => SplitSeq_ok (s := s) (c := 44) h1)
    rintro ⟨x11, y11, z11⟩
    refine gnt ?_
    refine gc_block ?_
    refine gc_turn (L2 := ([pureR (((allL numP ((cutB 44 s).take 0))).isSome = true ∧ 0 ≤ (cutB 44 s).length), VarR b4 34 3 ((((allL numP ((cutB 44 s).take 0))).getD []).map fun n : Nat => Value.int .i64 (n : Int)), blk b2 34 [.slice none 0 0], blk b3 4 [.bool false]]) ++ [blk x11 9 [.string (str [44])], blk y11 9 [.string (str s)], blk z11 3 [.int .i64 0]]) (fun w' hw => St.pureI ⟨rfl, Nat.zero_le _⟩ ((St.var (ys := []) ((hw.rowNil (e := 3) (size := 1)).sel (M := [blk b4 34 [.slice none 0 0], rowR 3 1 none 0 0 [], blk b2 34 [.slice none 0 0], blk b3 4 [.bool false]] ++ [blk x11 9 [.string (str [44])], blk y11 9 [.string (str s)], blk z11 3 [.int .i64 0]]) (by repeat (first | exact Sel.nil | (apply Sel.cons; · (repeat (first | exact Pick.here | apply Pick.there)))))) rfl rfl).sel (by repeat (first | exact Sel.nil | (apply Sel.cons; · (repeat (first | exact Pick.here | apply Pick.there))))))) ?_
    refine gc_range (own := [blk x11 9 [.string (str [44])], blk y11 9 [.string (str s)], blk z11 3 [.int .i64 0]]) (fun i => [pureR (((allL numP ((cutB 44 s).take i))).isSome = true ∧ i ≤ (cutB 44 s).length), VarR b4 34 3 ((((allL numP ((cutB 44 s).take i))).getD []).map fun n : Nat => Value.int .i64 (n : Int)), blk b2 34 [.slice none 0 0], blk b3 4 [.bool false]]) (fun i cd => [pureR (cd = Code.ret ∧ powP s = none), blk b2 34 [.slice none 0 0], blk b3 4 [.bool false]]) (by exact rfl) Ty.call_78 (by repeat (first | exact Sel.nil | (apply Sel.cons; · (repeat (first | exact Pick.here | apply Pick.there))))) (by intros; rfl) (fun lp J Jx w1 F1 F2 h1 h2 hd hst => splitSeq1_it h1 hs) ?_ ?_ ?_
    · intro lp rc rc' i x w1 F1 F2 h1 h2 hd hst
      try dsimp only [List.cons_append, List.nil_append, zipE]
      refine gc_pure1 (p := (cutB 44 s)[i]? = some x) (by repeat (first | exact Pick.here | apply Pick.there)) (fun hxi => ?_)
      refine gc_pure1 (p := ((allL numP ((cutB 44 s).take i))).isSome = true ∧ i ≤ (cutB 44 s).length) (by repeat (first | exact Pick.here | apply Pick.there)) (fun hI => ?_)
      obtain ⟨hI, _⟩ := hI
      obtain ⟨l, hl⟩ := Option.isSome_iff_exists.1 hI
      rw [hl, Option.getD_some]
      refine gc_var (by repeat (first | exact Pick.here | apply Pick.there)) (fun a4 c4 n4 hn4 => ?_)
      obtain ⟨hik, hix⟩ := List.getElem?_eq_some_iff.1 hxi
      obtain ⟨x2, r2, _, hg2, _, hmem, htk⟩ := drop_at hik
      obtain rfl : x2 = x := by rw [hxi] at hg2; injection hg2 with hg2; exact hg2.symm
      have hxl := pieces_len hmem
      have hll := allL_len hl
      rw [List.length_take] at hll
      have hcc := cut_count 44 s
      rw [List.length_map] at hn4
      refine gc_region ?_
      refine gp zas ?_
      refine gl_nil ?_
      refine gx_lp (by repeat (first | exact Pick.here | apply Pick.there)) ?_
      refine gx_begin ?_
      refine gc_block ?_
      refine gsr ?_
      refine gp zmv ?_
      refine zc (fun _ => ?_) (c := fun w1 F1 F2 h1 h2 hd hst => snumber_ok (s := x2) h1 (by omega))
      refine gp zmv ?_
      refine gp zex ?_
      refine gp zex ?_
      refine gp zas ?_
      refine gp zas ?_
      refine gnt ?_
      refine gc_seq ?_
      refine gc_seq ?_
      by_cases g4 : (numP x2).isSome = true
      · obtain ⟨v, hnp⟩ := Option.isSome_iff_exists.1 g4
        refine gc_region ?_
        refine gp zmv ?_
        refine gp (r_bool (c := false) znt (by rw [g4]; rfl)) ?_
        refine gnt ?_
        refine gc_condF rfl rfl ?_
        refine gc_skip ?_
        refine gx_then ?_
        refine gc_region ?_
        refine gp zl ?_
        refine gp (r_int (j := ((v : Nat) : Int)) zmv (by rw [hnp]; rfl)) ?_
        refine ze1 fun b22 => ?_
        refine zapo fun a23 c23 => ?_
        refine zs1 ?_
        refine gl_nil ?_
        refine gx_block_normal ?_
        refine gx_rdn ?_
        intro w' hw
        have hl2 := allL_snoc hl hnp
        rw [← htk] at hl2
        exact (St.pureI (p := ((allL numP ((cutB 44 s).take (i + 1)))).isSome = true ∧ i + 1 ≤ (cutB 44 s).length) ⟨by rw [hl2]; rfl, hik⟩ (St.var (ys := ((((allL numP ((cutB 44 s).take (i + 1)))).getD []).map fun n : Nat => Value.int .i64 (n : Int))) (hw.sel (M := [blk b4 34 [.slice a23 _ c23], rowR 3 1 a23 _ c23 _, lpR lp rc', blk b2 34 [.slice none 0 0], blk b3 4 [.bool false]]) (by repeat (first | exact Sel.nil | (apply Sel.cons; · (repeat (first | exact Pick.here | apply Pick.there)))))) (by rw [hl2]; simp; omega) (by rw [hl2]; simp))).sel (by repeat (first | exact Sel.nil | (apply Sel.cons; · (repeat (first | exact Pick.here | apply Pick.there)))))
      · have hnp : numP x2 = none := by simpa using g4
        refine gc_region ?_
        refine gp zmv ?_
        refine gp (r_bool (c := true) znt (by rw [hnp]; rfl)) ?_
        refine gnt ?_
        refine gc_condT rfl rfl ?_
        refine gsr ?_
        refine zs1 ?_
        refine zs1 ?_
        refine gnt ?_
        refine gc_ret ?_
        refine gx_then_ret ?_
        refine gx_block_ret ?_
        refine gx_rdr ?_
        exact fun w' hw => (St.pureI (p := Code.ret = Code.ret ∧ powP s = none) ⟨rfl, by rw [powP_go g0, allL_none hnp hmem]⟩ (hw.sel (M := [lpR lp rc', blk b2 34 [.slice none 0 0], blk b3 4 [.bool false]]) (by repeat (first | exact Sel.nil | (apply Sel.cons; · (repeat (first | exact Pick.here | apply Pick.there))))))).sel (by repeat (first | exact Sel.nil | (apply Sel.cons; · (repeat (first | exact Pick.here | apply Pick.there)))))
    · intro bU5 y m hy
      try dsimp only [List.cons_append, List.nil_append]
      obtain rfl : m = (cutB 44 s).length := by cases y <;> simp_all [allOr]
      refine gx_pure1 (p := ((allL numP ((cutB 44 s).take (cutB 44 s).length))).isSome = true ∧ (cutB 44 s).length ≤ (cutB 44 s).length) (by repeat (first | exact Pick.here | apply Pick.there)) (fun hI => ?_)
      rw [List.take_of_length_le (Nat.le_refl _)] at hI ⊢
      obtain ⟨l, hl⟩ := Option.isSome_iff_exists.1 hI.1
      rw [hl, Option.getD_some]
      have hz : powP s = if l.length ≤ 7 then some l else none := by rw [powP_go g0, hl]
      refine gx_block_normal ?_
      refine gx_thenM ?_
      refine gc_seq ?_
      refine gc_var (by repeat (first | exact Pick.here | apply Pick.there)) (fun a4 c4 n4 hn4 => ?_)
      obtain rfl : n4 = l.length := by rw [hn4]; exact List.length_map ..
      refine gc_regionZ 5 ([blk b4 34 [.slice a4 l.length c4]]) ?_
      refine yps 0 rfl zl ?_
      refine yps 1 rfl zl ?_
      refine yps 2 rfl zln ?_
      refine yps 3 rfl zle ?_
      refine yos 4 rfl ?_
      refine zs1 ?_
      refine yxs ?_
      refine yzs rfl ?_
      refine zs1 ?_
      refine gnt ?_
      refine gc_ret ?_
      refine gx_mark (by repeat (first | exact Pick.here | apply Pick.there)) ?_
      refine gx_mark0 ?_
      refine gx_retcc rfl rfl rfl (ld_oneS Ty.row_34 (by repeat (first | exact Pick.here | apply Pick.there)) (by first | rfl | (simp only [List.getElem?_cons_succ, List.getElem?_cons_zero, List.cons_append, List.append_assoc, get_dc, get_L, Nat.reduceLeDiff, Nat.reduceSub, Nat.reduceAdd, Nat.le_refl]; rfl))) (ld_oneS Ty.row_4 (by repeat (first | exact Pick.here | apply Pick.there)) (by first | rfl | (simp only [List.getElem?_cons_succ, List.getElem?_cons_zero, List.cons_append, List.append_assoc, get_dc, get_L, Nat.reduceLeDiff, Nat.reduceSub, Nat.reduceAdd, Nat.le_refl]; rfl))) ?_
      have hq : (powP s).isSome = decide ((l.length : Int) ≤ 7) ∧ ∀ l', powP s = some l' → l = l' := by
        rw [hz]
        by_cases h7 : l.length ≤ 7
        · rw [if_pos h7]; exact ⟨(decide_eq_true (by omega)).symm, fun _ h => by injection h⟩
        · rw [if_neg h7]; exact ⟨(decide_eq_false (by omega)).symm, fun _ h => by cases h⟩
      exact fun w' hw => ⟨((a4, c4), l), by rw [hq.1], St.pureI hq.2 (hw.sel (by repeat (first | exact Sel.nil | (apply Sel.cons; · (repeat (first | exact Pick.here | apply Pick.there))))))⟩
    · intro bU5 y i cd hy
      try dsimp only [List.cons_append, List.nil_append]
      refine gc_pure1 (p := cd = Code.ret ∧ powP s = none) (by repeat (first | exact Pick.here | apply Pick.there)) (fun hX => ?_)
      obtain ⟨rfl, hz⟩ := hX
      refine gc_ret ?_
      refine gx_block_ret ?_
      refine gx_then_ret ?_
      refine gx_mark (by repeat (first | exact Pick.here | apply Pick.there)) ?_
      refine gx_mark0 ?_
      refine gx_retcc rfl rfl rfl (ld_oneS Ty.row_34 (by repeat (first | exact Pick.here | apply Pick.there)) (by first | rfl | (simp only [List.getElem?_cons_succ, List.getElem?_cons_zero, List.cons_append, List.append_assoc, get_dc, get_L, Nat.reduceLeDiff, Nat.reduceSub, Nat.reduceAdd, Nat.le_refl]; rfl))) (ld_oneS Ty.row_4 (by repeat (first | exact Pick.here | apply Pick.there)) (by first | rfl | (simp only [List.getElem?_cons_succ, List.getElem?_cons_zero, List.cons_append, List.append_assoc, get_dc, get_L, Nat.reduceLeDiff, Nat.reduceSub, Nat.reduceAdd, Nat.le_refl]; rfl))) ?_
      exact fun w' hw => ⟨((none, 0), []), by rw [hz]; rfl, St.pureI (fun l hl => by rw [hz] at hl; cases hl) (hw.rowNil.sel (by repeat (first | exact Sel.nil | (apply Sel.cons; · (repeat (first | exact Pick.here | apply Pick.there))))))⟩

end Go.Proofs.YthicckleihbomaaDoor

/- Walks, by program (wg.py) out of a spec. -/
namespace Go.Proofs.YthicckleihbomaaDoor
open Go
set_option linter.unusedVariables false
set_option linter.unusedSimpArgs false


/-- An op where it lies. -/
structure PO where
  o : OpS
  sa : Option Addr
  cs : Nat
  ak : Option Addr
  ck : Nat
  ad : Option Addr
  cd : Nat
abbrev poC (p : PO) : List Value := [.int .i64 p.o.kind, .int .i64 p.o.node, .int .i64 p.o.n, .slice p.sa p.o.set.length p.cs, .slice p.ak p.o.keep.length p.ck, .slice p.ad p.o.data.length p.cd]
def po0 (k : Int) : PO := ⟨⟨k, 0, 0, [], [], []⟩, none, 0, none, 0, none, 0⟩
def RdOpS (w : World) (A : Nat → Prop) (cs : List Value) (o : OpS) : Prop := ∃ (a1 a2 a3 : Option Addr) (c1 c2 c3 : Nat), cs = [.int .i64 o.kind, .int .i64 o.node, .int .i64 o.n, .slice a1 o.set.length c1, .slice a2 o.keep.length c2, .slice a3 o.data.length c3] ∧
  (RdRow w A 1 a1 o.set.length (o.set.map (Value.int .i64)) ∧ o.set.length ≤ c1) ∧ (RdRow w A 1 a2 o.keep.length (o.keep.map Value.bool) ∧ o.keep.length ≤ c2) ∧ RdRow w A 1 a3 o.data.length (o.data.map B8) ∧ o.data.length ≤ c3
instance : RdK RdOpS := ⟨fun ⟨a1, a2, a3, c1, c2, c3, e, h1, h2, h3, h4⟩ k => ⟨a1, a2, a3, c1, c2, c3, e, ⟨h1.1.mv k, h1.2⟩, ⟨h2.1.mv k, h2.2⟩, h3.mv k, h4⟩⟩
theorem RdOpS.len {w : World} {A : Nat → Prop} {cs : List Value} {o : OpS} (h : RdOpS w A cs o) : cs.length = 6 := by obtain ⟨_, _, _, _, _, _, rfl, _⟩ := h; rfl
theorem RdOpS.one {w : World} {A : Nat → Prop} {cs : List Value} {o : OpS} (h : RdOpS w A cs o) : ∀ v ∈ cs, v.oneCell' = true := by
  obtain ⟨_, _, _, _, _, _, rfl, _⟩ := h
  exact all_cons' rfl (all_cons' rfl (all_cons' rfl (all_cons' rfl (all_cons' rfl (all_cons' rfl all_nil')))))
theorem vl_op {p : PO} {w : World} {F : Nat → Prop} (h : stars [rowR 3 1 p.sa p.o.set.length p.cs (p.o.set.map (Value.int .i64)), rowR 4 1 p.ak p.o.keep.length p.ck (p.o.keep.map Value.bool), rowR 5 1 p.ad p.o.data.length p.cd (p.o.data.map B8)] w F) : stars [VlR RdOpS (poC p) p.o] w F := by
  have h' := h
  obtain ⟨F1, F2, h1, h2, hF⟩ := stars_cons h'
  obtain ⟨F3, F4, h3, h4, hF2⟩ := stars_two h2
  have e1 : ∀ k, F1 k → F k := fun k hk => (hF k).2 (.inl hk)
  have e3 : ∀ k, F3 k → F k := fun k hk => (hF k).2 (.inr ((hF2 k).2 (.inl hk)))
  have e4 : ∀ k, F4 k → F k := fun k hk => (hF k).2 (.inr ((hF2 k).2 (.inr hk)))
  exact rdR_mk ⟨p.sa, p.ak, p.ad, p.cs, p.ck, p.cd, rfl, ⟨(rowR.rd h1).mv (still_sub e1), h1.2.1⟩, ⟨(rowR.rd h3).mv (still_sub e3), h3.2.1⟩, (rowR.rd h4).mv (still_sub e4), h4.2.1⟩ h
/-- forms -/
def foC (f : FormS) : List Value := [.int .i64 (f.kind : Int), .string (str f.word), .string (str f.parts)]
theorem foC_len (f : FormS) : (foC f).length = 3 := rfl
theorem foC_one (f : FormS) : ∀ v ∈ foC f, v.oneCell' = true := all_cons' rfl (all_cons' rfl (all_cons' rfl all_nil'))
instance {f : FormS} : Len (foC f) 3 := ⟨rfl⟩
instance {f : FormS} : One (foC f) := One.of (foC_one f)
theorem foCs_len : ∀ c ∈ forms.map foC, List.length c = 3 := fun c hc => by obtain ⟨f, _, rfl⟩ := List.mem_map.1 hc; rfl
def mtW (ws : List Bs) (f : FormS) : Bool := decide (ws.head? = some f.word ∧ ws.length = 1 + f.parts.length)
theorem form_step {ws : List Bs} {k : Nat} {f : FormS} (h : formW ws = (forms.drop k).find? (mtW ws)) (hd : forms.drop k = f :: forms.drop (k + 1)) (hn : mtW ws f = false) : formW ws = (forms.drop (k + 1)).find? (mtW ws) := by
  rw [h, hd, List.find?_cons, hn]
theorem form_hit {ws : List Bs} {k : Nat} {f : FormS} (h : formW ws = (forms.drop k).find? (mtW ws)) (hd : forms.drop k = f :: forms.drop (k + 1)) (hn : mtW ws f = true) : formW ws = some f := by
  rw [h, hd, List.find?_cons, hn]
theorem u8c {c : UInt8} {n : Nat} (h : (c.toNat : Int) = (n : Int)) (hn : n < 256) : c = UInt8.ofNat n := by
  have : c.toNat = n := by omega
  rw [← this, UInt8.ofNat_toNat]
theorem set_n {o : OpS} {s : Bs} : setP o 110 s = (numP s).map fun (x : Nat) => { o with n := (x : Int) } := rfl
theorem set_i {o : OpS} {s : Bs} : setP o 105 s = (numP s).map fun (x : Nat) => { o with node := (x : Int) } := rfl
theorem set_h {o : OpS} {s : Bs} : setP o 104 s = (hexP s).map fun x => { o with data := x } := rfl
theorem set_p {o : OpS} {s : Bs} : setP o 112 s = (powP s).map fun x => { o with set := x.map Int.ofNat } := rfl
theorem set_b {o : OpS} {s : Bs} : setP o 98 s = (bitP s).map fun x => { o with keep := x } := rfl
theorem set_no {o : OpS} {s : Bs} {c : UInt8} (h1 : ¬ (c.toNat : Int) = 110) (h2 : ¬ (c.toNat : Int) = 105) (h3 : ¬ (c.toNat : Int) = 104) (h4 : ¬ (c.toNat : Int) = 112) (h5 : ¬ (c.toNat : Int) = 98) : setP o c s = none := by
  have hne : ∀ n : UInt8, ¬ (c.toNat : Int) = n.toNat → ¬ c = n := fun n h e => h (by rw [e])
  rw [setP, if_neg (hne 110 h1), if_neg (hne 105 h2), if_neg (hne 104 h3), if_neg (hne 112 h4), if_neg (hne 98 h5)]

attribute [local irreducible] Gl Gc Gx Gs Runs Wt

set_option maxHeartbeats 400000 in
theorem splitS_ok {w : World} {F : Nat → Prop} {s : List UInt8} {c : UInt8} (h : stars [] w F) (hs : s.length < 4294967281) :
    Calls Tryd.prog 35 #[.string (str s), .string (str [c])] w (Post w F (fun g : Nat => .slice (some ⟨g, 0, none⟩) (cutB c s).length (cutB c s).length) (fun g => [rowR 9 1 (some ⟨g, 0, none⟩) (cutB c s).length (cutB c s).length ((cutB c s).map fun p => .string (str p))])) := by
  refine g_enter (env := [(0, .string (str s)), (1, .string (str [c]))]) Tryd.func35 rfl h Tryd.ntmps35 rfl rfl ?_
  refine gsr ?_
  refine gp zas ?_
  refine gnt ?_
  refine gsr ?_
  refine gp zmv ?_
  refine gp zmv ?_
  refine zc (fun g7 => ?_) (c := fun w1 F1 F2 h1 h2 hd hst => gsp_ok (s := s) (c := c) h1 hs)
  refine gp zas ?_
  refine gnt ?_
  refine gc_ret ?_
  refine gx_ret1 rfl (by conv => lhs; whnf) ?_
  exact ze g7

set_option maxHeartbeats 400000 in
theorem sforms_ok {w : World} {F : Nat → Prop} (h : stars [] w F) :
    Calls Tryd.prog 26 #[] w (Post w F (fun g : Nat => .slice (some ⟨g, 0, none⟩) 10 10) (fun g => [rowR 67 3 (some ⟨g, 0, none⟩) 10 10 (forms.map foC).flatten])) := by
  refine g_enter (env := []) Tryd.func26 rfl h Tryd.ntmps26 rfl rfl ?_
  refine gsr ?_
  refine gp zas ?_
  refine gnt ?_
  refine gsr ?_
  refine gp zbu ?_
  refine gp zbu ?_
  refine gp zbu ?_
  refine gp zbu ?_
  refine gp zbu ?_
  refine gp zbu ?_
  refine gp zbu ?_
  refine gp zbu ?_
  refine gp zbu ?_
  refine gp zbu ?_
  refine gl_bsl (vs := forms.map fun f => .agg (foC f).toArray) (css := forms.map foC) (wt0 rfl) Ty.sl_65 Ty.sz_67 Ty.zc_67 rfl rfl rfl rfl rfl (by simp [List.map_map, Function.comp_def, Value.cells]) foCs_len rfl (fun b11 => ?_)
  refine gp zas ?_
  refine gnt ?_
  refine gc_ret ?_
  refine gx_ret1 rfl (by conv => lhs; whnf) ?_
  exact ze b11

set_option maxHeartbeats 400000 in
set_option maxRecDepth 20000 in
theorem sset_ok {w : World} {F : Nat → Prop} {p : PO} {b : Nat} {c : UInt8} {s : List UInt8} (h : stars [blk b 38 (poC p), rowR 3 1 p.sa p.o.set.length p.cs (p.o.set.map (Value.int .i64)), rowR 4 1 p.ak p.o.keep.length p.ck (p.o.keep.map Value.bool), rowR 5 1 p.ad p.o.data.length p.cd (p.o.data.map B8)] w F) (hs : s.length ≤ 65535) :
    Calls Tryd.prog 36 #[.pointer (some ⟨b, 0, none⟩), .int .u8 c.toNat, .string (str s)] w (Post w F (fun x : PO => .bool (setP p.o c s).isSome) (fun x => [pureR (∀ o', setP p.o c s = some o' → x.o = o'), blk b 38 (poC x), rowR 3 1 x.sa x.o.set.length x.cs (x.o.set.map (Value.int .i64)), rowR 4 1 x.ak x.o.keep.length x.ck (x.o.keep.map Value.bool), rowR 5 1 x.ad x.o.data.length x.cd (x.o.data.map B8)])) := by
  refine g_enter (env := [(0, .pointer (some ⟨b, 0, none⟩)), (1, .int .u8 c.toNat), (2, .string (str s))]) Tryd.func36 rfl h Tryd.ntmps36 rfl rfl ?_
  refine gsr ?_
  refine gp zas ?_
  refine gnt ?_
  refine gc_seq ?_
  refine gsr ?_
  refine gp zmv ?_
  refine gnt ?_
  refine gc_block ?_
  refine gsr ?_
  refine gp zei ?_
  refine gp zas ?_
  refine gnt ?_
  refine gif rfl (fun hc8 => ?_) (fun hc8 => ?_)
  · try simp only at hc8
    obtain rfl := u8c (n := 110) hc8 (by decide)
    refine gc_region ?_
    refine gp zmv ?_
    refine gp zmv ?_
    refine zc (fun _ => ?_) (c := fun w1 F1 F2 h1 h2 hd hst => snumber_ok (s := s) h1 hs)
    refine gp zmv ?_
    refine gp zex ?_
    refine gp zex ?_
    refine gp znc ?_
    refine gp zfa ?_
    refine zs1 ?_
    refine gp zas ?_
    refine gl_nil ?_
    refine gx_block_normal ?_
    refine gx_then ?_
    refine gsr ?_
    refine gp zmv ?_
    refine gp zas ?_
    refine gnt ?_
    refine gc_ret ?_
    refine gx_ret1 rfl (by conv => lhs; whnf) ?_
    exact fun w' hw => ⟨({ p with o := { p.o with n := ((numP s).getD 0 : Nat) } }), by rw [show setP p.o (UInt8.ofNat 110) s = _ from set_n, Option.isSome_map], St.pureI (fun o' ho => by rw [show setP p.o (UInt8.ofNat 110) s = _ from set_n] at ho; obtain ⟨v, hv, rfl⟩ := Option.map_eq_some_iff.1 ho; rw [hv]; rfl) (hw.sel (by repeat (first | exact Sel.nil | (apply Sel.cons; · (repeat (first | exact Pick.here | apply Pick.there))))))⟩
  · refine gsr ?_
    refine gp zei ?_
    refine gp zas ?_
    refine gnt ?_
    refine gif rfl (fun hc18 => ?_) (fun hc18 => ?_)
    · try simp only at hc18
      obtain rfl := u8c (n := 105) hc18 (by decide)
      refine gc_region ?_
      refine gp zmv ?_
      refine gp zmv ?_
      refine zc (fun _ => ?_) (c := fun w1 F1 F2 h1 h2 hd hst => snumber_ok (s := s) h1 hs)
      refine gp zmv ?_
      refine gp zex ?_
      refine gp zex ?_
      refine gp znc ?_
      refine gp zfa ?_
      refine zs1 ?_
      refine gp zas ?_
      refine gl_nil ?_
      refine gx_block_normal ?_
      refine gx_then ?_
      refine gsr ?_
      refine gp zmv ?_
      refine gp zas ?_
      refine gnt ?_
      refine gc_ret ?_
      refine gx_ret1 rfl (by conv => lhs; whnf) ?_
      exact fun w' hw => ⟨({ p with o := { p.o with node := ((numP s).getD 0 : Nat) } }), by rw [show setP p.o (UInt8.ofNat 105) s = _ from set_i, Option.isSome_map], St.pureI (fun o' ho => by rw [show setP p.o (UInt8.ofNat 105) s = _ from set_i] at ho; obtain ⟨v, hv, rfl⟩ := Option.map_eq_some_iff.1 ho; rw [hv]; rfl) (hw.sel (by repeat (first | exact Sel.nil | (apply Sel.cons; · (repeat (first | exact Pick.here | apply Pick.there))))))⟩
    · refine gsr ?_
      refine gp zei ?_
      refine gp zas ?_
      refine gnt ?_
      refine gif rfl (fun hc28 => ?_) (fun hc28 => ?_)
      · try simp only at hc28
        obtain rfl := u8c (n := 104) hc28 (by decide)
        refine gc_region ?_
        refine gp zmv ?_
        refine gp zmv ?_
        refine zc ?_ (c := fun w1 F1 F2 h1 h2 hd hst => shexed_ok (s := s) h1 hs)
        rintro ⟨⟨a33, c33⟩, l33⟩
        refine gl_pureR (fun hx => ?_)
        refine gp zmv ?_
        refine gp zex ?_
        refine gp zex ?_
        refine gp znc ?_
        refine gp zfa ?_
        refine zs1 ?_
        refine gp zas ?_
        refine gl_nil ?_
        refine gx_block_normal ?_
        refine gx_then ?_
        refine gsr ?_
        refine gp zmv ?_
        refine gp zas ?_
        refine gnt ?_
        refine gc_ret ?_
        refine gx_ret1 rfl (by conv => lhs; whnf) ?_
        exact fun w' hw => ⟨({ p with o := { p.o with data := l33 }, ad := a33, cd := c33 }), by rw [show setP p.o (UInt8.ofNat 104) s = _ from set_h, Option.isSome_map], St.pureI (fun o' ho => by rw [show setP p.o (UInt8.ofNat 104) s = _ from set_h] at ho; obtain ⟨v, hv, rfl⟩ := Option.map_eq_some_iff.1 ho; obtain rfl : l33 = v := hx v hv; rfl) (hw.sel (by repeat (first | exact Sel.nil | (apply Sel.cons; · (repeat (first | exact Pick.here | apply Pick.there))))))⟩
      · refine gsr ?_
        refine gp zei ?_
        refine gp zas ?_
        refine gnt ?_
        refine gif rfl (fun hc38 => ?_) (fun hc38 => ?_)
        · try simp only at hc38
          obtain rfl := u8c (n := 112) hc38 (by decide)
          refine gc_region ?_
          refine gp zmv ?_
          refine gp zmv ?_
          refine zc ?_ (c := fun w1 F1 F2 h1 h2 hd hst => spowers_ok (s := s) h1 hs)
          rintro ⟨⟨a43, c43⟩, l43⟩
          refine gl_pureR (fun hx => ?_)
          refine gp zmv ?_
          refine gp zex ?_
          refine gp zex ?_
          refine gp znc ?_
          refine gp zfa ?_
          refine zs1 ?_
          refine gp zas ?_
          refine gl_nil ?_
          refine gx_block_normal ?_
          refine gx_then ?_
          refine gsr ?_
          refine gp zmv ?_
          refine gp zas ?_
          refine gnt ?_
          refine gc_ret ?_
          refine gx_ret1 rfl (by conv => lhs; whnf) ?_
          have el : (l43.map Int.ofNat).length = l43.length := List.length_map ..
          have em : (l43.map Int.ofNat).map (Value.int .i64) = l43.map fun n : Nat => Value.int .i64 (n : Int) := by rw [List.map_map]; rfl
          exact fun w' hw => ⟨({ p with o := { p.o with set := l43.map Int.ofNat }, sa := a43, cs := c43 }), by rw [show setP p.o (UInt8.ofNat 112) s = _ from set_p, Option.isSome_map], St.pureI (fun o' ho => by rw [show setP p.o (UInt8.ofNat 112) s = _ from set_p] at ho; obtain ⟨v, hv, rfl⟩ := Option.map_eq_some_iff.1 ho; obtain rfl : l43 = v := hx v hv; rfl) (by simp only [poC, el, em]; exact hw.sel (by repeat (first | exact Sel.nil | (apply Sel.cons; · (repeat (first | exact Pick.here | apply Pick.there))))))⟩
        · refine gsr ?_
          refine gp zei ?_
          refine gp zas ?_
          refine gnt ?_
          refine gif rfl (fun hc48 => ?_) (fun hc48 => ?_)
          · try simp only at hc48
            obtain rfl := u8c (n := 98) hc48 (by decide)
            refine gc_region ?_
            refine gp zmv ?_
            refine gp zmv ?_
            refine zc ?_ (c := fun w1 F1 F2 h1 h2 hd hst => sbitted_ok (s := s) h1 hs)
            rintro ⟨⟨a53, c53⟩, l53⟩
            refine gl_pureR (fun hx => ?_)
            refine gp zmv ?_
            refine gp zex ?_
            refine gp zex ?_
            refine gp znc ?_
            refine gp zfa ?_
            refine zs1 ?_
            refine gp zas ?_
            refine gl_nil ?_
            refine gx_block_normal ?_
            refine gx_then ?_
            refine gsr ?_
            refine gp zmv ?_
            refine gp zas ?_
            refine gnt ?_
            refine gc_ret ?_
            refine gx_ret1 rfl (by conv => lhs; whnf) ?_
            exact fun w' hw => ⟨({ p with o := { p.o with keep := l53 }, ak := a53, ck := c53 }), by rw [show setP p.o (UInt8.ofNat 98) s = _ from set_b, Option.isSome_map], St.pureI (fun o' ho => by rw [show setP p.o (UInt8.ofNat 98) s = _ from set_b] at ho; obtain ⟨v, hv, rfl⟩ := Option.map_eq_some_iff.1 ho; obtain rfl : l53 = v := hx v hv; rfl) (hw.sel (by repeat (first | exact Sel.nil | (apply Sel.cons; · (repeat (first | exact Pick.here | apply Pick.there))))))⟩
          · refine gc_skip ?_
            refine gx_block_normal ?_
            refine gx_then ?_
            refine gsr ?_
            refine gp zmv ?_
            refine gp zas ?_
            refine gnt ?_
            refine gc_ret ?_
            refine gx_ret1 rfl (by conv => lhs; whnf) ?_
            have hz := set_no (o := p.o) (s := s) hc8 hc18 hc28 hc38 hc48
            exact fun w' hw => ⟨p, by rw [hz]; rfl, St.pureI (fun o' ho => by rw [hz] at ho; cases ho) (hw.sel (by repeat (first | exact Sel.nil | (apply Sel.cons; · (repeat (first | exact Pick.here | apply Pick.there))))))⟩

end Go.Proofs.YthicckleihbomaaDoor

/- Walks, by program (wg.py) out of a spec. -/
namespace Go.Proofs.YthicckleihbomaaDoor
open Go
set_option linter.unusedVariables false
set_option linter.unusedSimpArgs false


theorem forms_small : ∀ f ∈ forms, f.parts.length ≤ 3 := by decide
attribute [local irreducible] Gl Gc Gx Gs Runs Wt

set_option maxHeartbeats 1000000 in
set_option maxRecDepth 20000 in
theorem sop_ok {w : World} {F : Nat → Prop} {s : List UInt8} (h : stars [] w F) (hs : s.length ≤ 65535) :
    Calls Tryd.prog 19 #[.string (str s)] w (Post w F (fun x : PO => .tuple #[.agg (poC x).toArray, .bool (opP s).isSome]) (fun x => [pureR (∀ o, opP s = some o → x.o = o), rowR 3 1 x.sa x.o.set.length x.cs (x.o.set.map (Value.int .i64)), rowR 4 1 x.ak x.o.keep.length x.ck (x.o.keep.map Value.bool), rowR 5 1 x.ad x.o.data.length x.cd (x.o.data.map B8)])) := by
  refine g_enter (env := [(0, .string (str s))]) Tryd.func19 rfl h Tryd.ntmps19 rfl rfl ?_
  refine gsr ?_
  refine zal fun b2 => ?_
  refine gp zas ?_
  refine gnt ?_
  refine gsr ?_
  refine gp zmv ?_
  refine zc (fun g10 => ?_) (c := fun w1 F1 F2 h1 h2 hd hst => splitS_ok (s := s) (c := 32) h1 (by omega))
  obtain ⟨w0, wr, hws⟩ : ∃ a b, cutB 32 s = a :: b := by cases e : cutB 32 s with | nil => exact absurd e (cut_ne 32 s) | cons a b => exact ⟨a, b, rfl⟩
  have hwl : (cutB 32 s).length = wr.length + 1 := by rw [hws]; rfl
  have hcc := cut_count 32 s
  refine gp zas ?_
  refine gnt ?_
  refine gc_seq ?_
  refine gsr ?_
  refine zc (fun g11 => ?_) (c := fun w1 F1 F2 h1 h2 hd hst => sforms_ok h1)
  refine gp zln ?_
  refine gp zmv ?_
  refine gnt ?_
  refine gc_block ?_
  refine gc_loop (α := Nat) (fun k => [pureR (k ≤ 10 ∧ formW (cutB 32 s) = (forms.drop k).find? (mtW (cutB 32 s))), rowR 9 1 (some ⟨g10, 0, none⟩) (cutB 32 s).length (cutB 32 s).length ((cutB 32 s).map fun p => .string (str p)), rowR 67 3 (some ⟨g11, 0, none⟩) 10 10 (forms.map foC).flatten, blk b2 38 (poC (po0 0))]) (fun k => [(13, .int .i64 (k : Int))]) [3, 6, 7, 8, 14, 15, 16, 17, 18, 19, 20, 21, 22, 23, 24, 25, 26, 27, 28, 29, 30, 31, 32, 33, 34, 35, 36, 37, 38, 39, 40, 41, 42, 43, 44, 45, 46, 47, 48, 49, 50, 51, 52, 53, 54, 55] (fun k => 10 - k) 0 ?_ ?_ ?_
  · refine env_start (by kernel_rfl)
  · exact zlp ⟨Nat.zero_le _, rfl⟩
  · intro k u
    refine gc_pureR (fun hq => ?_)
    obtain ⟨hk, hfw⟩ := hq
    replace hk : k ≤ 10 := hk
    refine gsr ?_
    refine gp zlt ?_
    refine gnt ?_
    refine gc_seq ?_
    refine gif rfl (fun hc14 => ?_) (fun hc14 => ?_)
    · try simp only at hc14
      have hk' : k < 10 := by omega
      obtain ⟨f, _, hfd0, hfg, hfr, hfm, _⟩ := drop_at (l := forms) (k := k) hk'
      have hfd : forms.drop k = f :: forms.drop (k + 1) := by rw [hfd0, ← hfr]
      refine gc_skip ?_
      refine gx_then ?_
      refine gc_seq ?_
      refine gc_block ?_
      refine gsr ?_
      refine gp zia ?_
      refine gp (r_ldRow (css := forms.map foC) (cs := foC f) (i := k) rfl Ty.row_67 Ty.sz_67 (by repeat (first | exact Pick.here | apply Pick.there)) foCs_len (by rw [List.getElem?_map, hfg]; rfl) hk') ?_
      refine zal fun b6 => ?_
      refine zsA (foC_len f) (foC_one f) ?_
      refine gl_eqc (cs' := [.int .i64 (f.kind : Int), .string (str f.word), .string (str f.parts)]) (by repeat (first | exact Pick.here | apply Pick.there)) rfl ?_
      refine gnt ?_
      refine gc_seq ?_
      refine gc_seq ?_
      by_cases g1 : w0 = f.word
      · by_cases g2 : wr.length = f.parts.length
        · have hmt : mtW (cutB 32 s) f = true := decide_eq_true ⟨by rw [hws, g1]; rfl, by omega⟩
          have hform := form_hit hfw hfd hmt
          refine gc_regionS (by kernel_rfl) (by kernel_rfl) ?_
          refine sp zmv ?_
          refine sp zia ?_
          refine sp (r_ld1r (v := .string (str w0)) (o := 0) (i := 0) rfl Ty.row_9 (by repeat (first | exact Pick.here | apply Pick.there)) (by rw [hws]; rfl)) ?_
          refine sp zfa ?_
          refine sp zl ?_
          refine sp (r_bool (c := false) zns (by simp [g1])) ?_
          refine sp zmv ?_
          refine sq zmv ?_
          refine sq zln ?_
          refine sq zfa ?_
          refine sq zl ?_
          refine sq zlS ?_
          refine sq (r_int (j := ((1 + f.parts.length : Nat) : Int)) (zad (i := 1) (j := (f.parts.length : Int)) (h := wrap_i64 (by have := forms_small f hfm; omega) (by have := forms_small f hfm; omega))) (by omega)) ?_
          refine sq (r_bool (c := false) zni (by simp; omega)) ?_
          refine sp zpk ?_
          refine gs_nil ?_
          refine gx_then ?_
          refine gc_condF rfl rfl ?_
          refine gc_skip ?_
          refine gx_then ?_
          refine gsr ?_
          refine gp zfa ?_
          refine gp zl ?_
          refine gp zbu ?_
          refine zal fun b7 => ?_
          refine zsN ?_
          refine gl_eqc (cs' := poC (po0 (f.kind : Int))) (by repeat (first | exact Pick.here | apply Pick.there)) rfl ?_
          refine gnt ?_
          refine gc_seq ?_
          refine gsr ?_
          refine gp zfa ?_
          refine gp zl ?_
          refine gp zlS ?_
          refine gp zmv ?_
          refine gnt ?_
          refine gc_block ?_
          refine gc_loop (α := Nat × PO) (fun y => [pureR (y.1 ≤ f.parts.length ∧ setsP (op0 f.kind) f.parts wr = setsP y.2.o (f.parts.drop y.1) (wr.drop y.1)), blk b7 38 (poC y.2), rowR 3 1 y.2.sa y.2.o.set.length y.2.cs (y.2.o.set.map (Value.int .i64)), rowR 4 1 y.2.ak y.2.o.keep.length y.2.ck (y.2.o.keep.map Value.bool), rowR 5 1 y.2.ad y.2.o.data.length y.2.cd (y.2.o.data.map B8), blk b6 67 [.int .i64 (f.kind : Int), .string (str f.word), .string (str f.parts)], rowR 9 1 (some ⟨g10, 0, none⟩) (cutB 32 s).length (cutB 32 s).length ((cutB 32 s).map fun p => .string (str p)), blk b2 38 (poC (po0 0))]) (fun y => [(38, .int .i64 (y.1 : Int))]) [3, 8, 39, 40, 41, 42, 43, 44, 45, 46, 47, 48, 49, 50, 51, 52, 53] (fun y => f.parts.length - y.1) (0, po0 (f.kind : Int)) ?_ ?_ ?_
          · refine env_start (by kernel_rfl)
          · have hopz : opP s = setsP (op0 f.kind) f.parts wr := by unfold opP; rw [hform, hws]; rfl
            exact fun w' hw => St.pureI ⟨Nat.zero_le _, rfl⟩ ((((hw.rowNil (e := 5) (size := 1)).rowNil (e := 4) (size := 1)).rowNil (e := 3) (size := 1)).sel (M := [blk b7 38 (poC (po0 (f.kind : Int))), rowR 3 1 none 0 0 [], rowR 4 1 none 0 0 [], rowR 5 1 none 0 0 [], blk b6 67 [.int .i64 (f.kind : Int), .string (str f.word), .string (str f.parts)], rowR 9 1 (some ⟨g10, 0, none⟩) (cutB 32 s).length (cutB 32 s).length ((cutB 32 s).map fun p => .string (str p)), blk b2 38 (poC (po0 0))]) (by repeat (first | exact Sel.nil | (apply Sel.cons; · (repeat (first | exact Pick.here | apply Pick.there))))))
          · intro y u
            have hopz : opP s = setsP (op0 f.kind) f.parts wr := by unfold opP; rw [hform, hws]; rfl
            obtain ⟨i, p⟩ := y
            refine gc_pureR (fun hq => ?_)
            obtain ⟨hi, hst8⟩ := hq
            replace hi : i ≤ f.parts.length := hi
            replace hst8 : setsP (op0 f.kind) f.parts wr = setsP p.o (f.parts.drop i) (wr.drop i) := hst8
            refine gsr ?_
            refine gp zlt ?_
            refine gnt ?_
            refine gc_seq ?_
            refine gif rfl (fun hc39 => ?_) (fun hc39 => ?_)
            · try simp only at hc39
              have hi' : i < f.parts.length := by omega
              obtain ⟨pc, pr, hpd, hpg, hpr, hpm, _⟩ := drop_at hi'
              obtain ⟨sw, sr, hsd, hsg, hsr, hsm, _⟩ := drop_at (l := wr) (k := i) (by omega)
              have hswl := pieces_len (x := sw) (c := 32) (s := s) (by rw [hws]; exact List.mem_cons_of_mem _ hsm)
              have hfs := forms_small f hfm
              refine gc_skip ?_
              refine gx_then ?_
              refine gc_seq ?_
              refine gc_block ?_
              refine gsr ?_
              refine gp zmv ?_
              refine gp zas ?_
              refine gnt ?_
              refine gc_seq ?_
              refine gc_regionH ([blk b6 67 [.int .i64 (f.kind : Int), .string (str f.word), .string (str f.parts)], rowR 9 1 (some ⟨g10, 0, none⟩) (cutB 32 s).length (cutB 32 s).length ((cutB 32 s).map fun p => .string (str p))]) ?_
              refine yp 0 rfl zfa ?_
              refine yp 1 rfl zl ?_
              refine yp 2 rfl zmv ?_
              refine yp 3 rfl (r_ixs (b := f.parts) (j := i) (c := pc) hpg) ?_
              refine yp 4 rfl zmv ?_
              refine yp 5 rfl zmv ?_
              refine yp 6 rfl (r_int (j := ((i + 1 : Nat) : Int)) (zad (i := (i : Int)) (j := 1) (h := wrap_i64 (by omega) (by omega))) (by omega)) ?_
              refine yp 7 rfl (r_val (v' := .pointer (some ⟨g10, 0 + (i + 1), none⟩)) zia (by simp)) ?_
              refine yp 8 rfl (r_ld1r (v := .string (str sw)) rfl Ty.row_9 (by repeat (first | exact Pick.here | apply Pick.there)) (by rw [hws, List.map_cons, List.getElem?_cons_succ, List.getElem?_map, hsg]; rfl)) ?_
              refine yo 9 rfl ?_
              refine zc (fun x50 => ?_) (c := fun w1 F1 F2 h1 h2 hd hst => sset_ok (p := p) (c := pc) (s := sw) h1 (by omega))
              refine gl_pureR (fun hx50 => ?_)
              refine yx ?_
              refine yp 10 rfl znt ?_
              refine yd ?_
              refine gx_then ?_
              refine gif rfl (fun hc51 => ?_) (fun hc51 => ?_)
              · try simp only at hc51
                have hn : setP p.o pc sw = none := by simpa using hc51
                have hz : opP s = none := by rw [hopz, hst8, hpd, hsd, setsP, hn]
                refine gsr ?_
                refine gp zL ?_
                refine zsN ?_
                refine gp zas ?_
                refine gnt ?_
                refine gc_ret ?_
                refine gx_block_ret ?_
                refine gx_then_ret ?_
                refine gx_round_ret ?_
                refine gx_block_ret ?_
                refine gx_then_ret ?_
                refine gx_block_ret ?_
                refine gx_then_ret ?_
                refine gx_round_ret ?_
                refine gx_block_ret ?_
                refine gx_then_ret ?_
                refine gx_retct rfl rfl (by conv => lhs; whnf) (ld_aggS Ty.row_38 Ty.sz_38 (by repeat (first | exact Pick.here | apply Pick.there)) (by (simp only [List.drop_succ_cons, List.drop_zero, List.take_succ_cons, List.take_zero, List.cons_append, List.nil_append, List.append_assoc, drop_dc, drop_dc', take_dc, take_dc', drop_L, drop_L', take_L, take_L', len_L, Nat.reduceLeDiff, Nat.reduceSub, Nat.reduceAdd, Nat.le_refl, List.length_cons, List.length_append, List.length_nil, dc_length, List.drop_nil, List.take_nil, List.append_nil, List.length_map, List.length_replicate]; first | done | rfl)) (by first | rfl | (simp only [List.drop_succ_cons, List.drop_zero, List.take_succ_cons, List.take_zero, List.cons_append, List.nil_append, List.append_assoc, drop_dc, drop_dc', take_dc, take_dc', drop_L, drop_L', take_L, take_L', len_L, Nat.reduceLeDiff, Nat.reduceSub, Nat.reduceAdd, Nat.le_refl, List.length_cons, List.length_append, List.length_nil, dc_length, List.drop_nil, List.take_nil, List.append_nil, List.length_map, List.length_replicate]; first | done | omega))) ?_
                exact fun w' hw => ⟨x50, by rw [hz]; rfl, St.pureI (fun o ho => by rw [hz] at ho; cases ho) (hw.sel (by repeat (first | exact Sel.nil | (apply Sel.cons; · (repeat (first | exact Pick.here | apply Pick.there))))))⟩
              · try simp only at hc51
                have hn : (setP p.o pc sw).isSome = true := by simpa using hc51
                obtain ⟨o', ho'⟩ := Option.isSome_iff_exists.1 hn
                have hst9 : setsP (op0 f.kind) f.parts wr = setsP x50.o (f.parts.drop (i + 1)) (wr.drop (i + 1)) := by rw [hst8, hpd, hsd, setsP, ho', hpr, hsr, hx50 o' ho']
                refine gc_skip ?_
                refine gx_block_normal ?_
                refine gx_then ?_
                refine gc_region ?_
                refine gp zad ?_
                refine gp zmv ?_
                refine gl_nil ?_
                refine zrd ((i + 1, x50)) ?_ ?_
                · show f.parts.length - (i + 1) < f.parts.length - i
                  omega
                · exact zlp (show i + 1 ≤ f.parts.length ∧ setsP (op0 f.kind) f.parts wr = setsP x50.o (f.parts.drop (i + 1)) (wr.drop (i + 1)) from ⟨by omega, hst9⟩)
            · try simp only at hc39
              have hi' : i = f.parts.length := by omega
              subst hi'
              have hz : opP s = some p.o := by rw [hopz, hst8, List.drop_eq_nil_of_le (Nat.le_refl _)]; simp [setsP]
              refine gc_exit ?_
              refine gx_then_exit ?_
              refine gx_round_exit ?_
              refine gx_block_hit ?_
              refine gx_then ?_
              refine gsr ?_
              refine gp zL ?_
              refine zsN ?_
              refine gp zas ?_
              refine gnt ?_
              refine gc_ret ?_
              refine gx_block_ret ?_
              refine gx_then_ret ?_
              refine gx_round_ret ?_
              refine gx_block_ret ?_
              refine gx_then_ret ?_
              refine gx_retct rfl rfl (by conv => lhs; whnf) (ld_aggS Ty.row_38 Ty.sz_38 (by repeat (first | exact Pick.here | apply Pick.there)) (by (simp only [List.drop_succ_cons, List.drop_zero, List.take_succ_cons, List.take_zero, List.cons_append, List.nil_append, List.append_assoc, drop_dc, drop_dc', take_dc, take_dc', drop_L, drop_L', take_L, take_L', len_L, Nat.reduceLeDiff, Nat.reduceSub, Nat.reduceAdd, Nat.le_refl, List.length_cons, List.length_append, List.length_nil, dc_length, List.drop_nil, List.take_nil, List.append_nil, List.length_map, List.length_replicate]; first | done | rfl)) (by first | rfl | (simp only [List.drop_succ_cons, List.drop_zero, List.take_succ_cons, List.take_zero, List.cons_append, List.nil_append, List.append_assoc, drop_dc, drop_dc', take_dc, take_dc', drop_L, drop_L', take_L, take_L', len_L, Nat.reduceLeDiff, Nat.reduceSub, Nat.reduceAdd, Nat.le_refl, List.length_cons, List.length_append, List.length_nil, dc_length, List.drop_nil, List.take_nil, List.append_nil, List.length_map, List.length_replicate]; first | done | omega))) ?_
              exact fun w' hw => ⟨p, by rw [hz]; rfl, St.pureI (fun o ho => by rw [hz] at ho; injection ho) (hw.sel (by repeat (first | exact Sel.nil | (apply Sel.cons; · (repeat (first | exact Pick.here | apply Pick.there))))))⟩
        · have hmt : mtW (cutB 32 s) f = false := decide_eq_false (fun hh => g2 (by have := hh.2; omega))
          refine gc_regionS (by kernel_rfl) (by kernel_rfl) ?_
          refine sp zmv ?_
          refine sp zia ?_
          refine sp (r_ld1r (v := .string (str w0)) (o := 0) (i := 0) rfl Ty.row_9 (by repeat (first | exact Pick.here | apply Pick.there)) (by rw [hws]; rfl)) ?_
          refine sp zfa ?_
          refine sp zl ?_
          refine sp (r_bool (c := false) zns (by simp [g1])) ?_
          refine sp zmv ?_
          refine sq zmv ?_
          refine sq zln ?_
          refine sq zfa ?_
          refine sq zl ?_
          refine sq zlS ?_
          refine sq (r_int (j := ((1 + f.parts.length : Nat) : Int)) (zad (i := 1) (j := (f.parts.length : Int)) (h := wrap_i64 (by have := forms_small f hfm; omega) (by have := forms_small f hfm; omega))) (by omega)) ?_
          refine sq (r_bool (c := true) zni (by simp; omega)) ?_
          refine sp zpk ?_
          refine gs_nil ?_
          refine gx_then ?_
          refine gc_condT rfl rfl ?_
          refine gc_exit ?_
          refine gx_then_exit ?_
          refine gx_block_hit ?_
          refine gx_then ?_
          refine gc_region ?_
          refine gp zad ?_
          refine gp zmv ?_
          refine gl_nil ?_
          refine zrd (k + 1) ?_ ?_
          · show 10 - (k + 1) < 10 - k
            omega
          · exact zlp (show k + 1 ≤ 10 ∧ formW (cutB 32 s) = (forms.drop (k + 1)).find? (mtW (cutB 32 s)) from ⟨by omega, form_step hfw hfd hmt⟩)
      · have hmt : mtW (cutB 32 s) f = false := decide_eq_false (fun hh => g1 (by have := hh.1; rw [hws, List.head?_cons] at this; injection this))
        refine gc_regionS (by kernel_rfl) (by kernel_rfl) ?_
        refine sp zmv ?_
        refine sp zia ?_
        refine sp (r_ld1r (v := .string (str w0)) (o := 0) (i := 0) rfl Ty.row_9 (by repeat (first | exact Pick.here | apply Pick.there)) (by rw [hws]; rfl)) ?_
        refine sp zfa ?_
        refine sp zl ?_
        refine sp (r_bool (c := true) zns (by simp [g1])) ?_
        refine sp zmv ?_
        refine sn ?_
        refine sn ?_
        refine sn ?_
        refine sn ?_
        refine sn ?_
        refine sn ?_
        refine sn ?_
        refine sp zpk ?_
        refine gs_nil ?_
        refine gx_then ?_
        refine gc_condT rfl rfl ?_
        refine gc_exit ?_
        refine gx_then_exit ?_
        refine gx_block_hit ?_
        refine gx_then ?_
        refine gc_region ?_
        refine gp zad ?_
        refine gp zmv ?_
        refine gl_nil ?_
        refine zrd (k + 1) ?_ ?_
        · show 10 - (k + 1) < 10 - k
          omega
        · exact zlp (show k + 1 ≤ 10 ∧ formW (cutB 32 s) = (forms.drop (k + 1)).find? (mtW (cutB 32 s)) from ⟨by omega, form_step hfw hfd hmt⟩)
    · try simp only at hc14
      have hk' : k = 10 := by omega
      subst hk'
      have hz : opP s = none := by unfold opP; rw [hfw]; rfl
      refine gc_exit ?_
      refine gx_then_exit ?_
      refine gx_round_exit ?_
      refine gx_block_hit ?_
      refine gx_then ?_
      refine gsr ?_
      refine gp zbu ?_
      refine zsN ?_
      refine gp zas ?_
      refine gnt ?_
      refine gc_ret ?_
      refine gx_retct rfl rfl (by conv => lhs; whnf) (ld_aggS Ty.row_38 Ty.sz_38 (by repeat (first | exact Pick.here | apply Pick.there)) (by (simp only [List.drop_succ_cons, List.drop_zero, List.take_succ_cons, List.take_zero, List.cons_append, List.nil_append, List.append_assoc, drop_dc, drop_dc', take_dc, take_dc', drop_L, drop_L', take_L, take_L', len_L, Nat.reduceLeDiff, Nat.reduceSub, Nat.reduceAdd, Nat.le_refl, List.length_cons, List.length_append, List.length_nil, dc_length, List.drop_nil, List.take_nil, List.append_nil, List.length_map, List.length_replicate]; first | done | rfl)) (by first | rfl | (simp only [List.drop_succ_cons, List.drop_zero, List.take_succ_cons, List.take_zero, List.cons_append, List.nil_append, List.append_assoc, drop_dc, drop_dc', take_dc, take_dc', drop_L, drop_L', take_L, take_L', len_L, Nat.reduceLeDiff, Nat.reduceSub, Nat.reduceAdd, Nat.le_refl, List.length_cons, List.length_append, List.length_nil, dc_length, List.drop_nil, List.take_nil, List.append_nil, List.length_map, List.length_replicate]; first | done | omega))) ?_
      exact fun w' hw => ⟨po0 0, by rw [hz]; rfl, St.pureI (fun o ho => by rw [hz] at ho; cases ho) ((((hw.rowNil (e := 5) (size := 1)).rowNil (e := 4) (size := 1)).rowNil (e := 3) (size := 1)).sel (by repeat (first | exact Sel.nil | (apply Sel.cons; · (repeat (first | exact Pick.here | apply Pick.there))))))⟩

end Go.Proofs.YthicckleihbomaaDoor

/- Walks, by program (wg.py) out of a spec. -/
namespace Go.Proofs.YthicckleihbomaaDoor
open Go
set_option linter.unusedVariables false
set_option linter.unusedSimpArgs false


/-- Ops that grow, in a variable. -/
def OpsV (b T e : Nat) (l : List OpS) : Res := exR fun x : (Option Addr × Nat) × List (List Value) => allR [pureR (∀ c ∈ x.2, List.length c = 6), blk b T [.slice x.1.1 l.length x.1.2], rowR e 6 x.1.1 l.length x.1.2 x.2.flatten, ElR RdOpS x.2 l]
section
variable {w0 w : World} {F F0 : Nat → Prop} {L L' : List Res} {Q : Exit → Act → World → Prop} {n : Fm} {env : Env} {ops : Array Oper} {rest : List Oper} {b m T e : Nat} {a : Option Addr} {c : Nat} {xs : List Value} {css : List (List Value)} {l : List OpS} {P : Program}
theorem gc_opsv {k : Code} (hp : Pick L (OpsV b T e l) L') (K : ∀ a c m css, m = l.length → (∀ c ∈ css, List.length c = 6) → Gc P w0 F0 (blk b T [.slice a m c] :: rowR e 6 a m c (List.flatten css) :: ElR RdOpS css l :: L') k Q n env) : Gc P w0 F0 L k Q n env := fun w hw => by
  obtain ⟨F, hF, hst⟩ := hw.pick hp
  obtain ⟨⟨⟨a, c⟩, css⟩, h⟩ := stars_ex hF
  have h2 := stars_all h
  obtain ⟨h3, h4⟩ := stars_pure h2
  exact K a c _ css rfl h3 w ⟨F, h4, hst⟩
theorem St.opsv (h : St w0 F0 (blk b T [.slice a m c] :: rowR e 6 a m c xs :: ElR RdOpS css l :: L) w) (h1 : m = l.length) (h2 : xs = css.flatten) (h3 : ∀ c ∈ css, List.length c = 6) : St w0 F0 (OpsV b T e l :: L) w := by
  subst h1; subst h2
  obtain ⟨F, hF, hst⟩ := h
  exact ⟨F, stars_ex_mk ((a, c), css) (stars_all_mk (stars_pure_mk h3 hF)), hst⟩
theorem St.elNil (h : St w0 F0 L w) : St w0 F0 (ElR RdOpS [] [] :: L) w := by
  obtain ⟨F, hF, hst⟩ := h; exact ⟨F, el_nil hF, hst⟩
end
def parE (s : Bs) : Nat := if 65535 < s.length then 3 else if (parP s).isSome = true then 0 else 4
def parO (s : Bs) : List OpS := if 65535 < s.length then [] else (parP s).getD []
theorem par_long {s : Bs} (h : (65535 : Int) < (s.length : Int)) : parE s = 3 ∧ parO s = [] := ⟨if_pos (by omega), if_pos (by omega)⟩
theorem par_none {s : Bs} (h : ¬ (65535 : Int) < (s.length : Int)) (hz : parP s = none) : parE s = 4 ∧ parO s = [] := by
  have hn : ¬ 65535 < s.length := by omega
  unfold parE parO; rw [if_neg hn, if_neg hn, hz]; exact ⟨rfl, rfl⟩
theorem par_some {s : Bs} {l : List OpS} (h : ¬ (65535 : Int) < (s.length : Int)) (hz : parP s = some l) : parE s = 0 ∧ parO s = l := by
  have hn : ¬ 65535 < s.length := by omega
  unfold parE parO; rw [if_neg hn, if_neg hn, hz]; exact ⟨rfl, rfl⟩
theorem ln1_bad {x : Bs} (h : Lib.hasSuffix x [10] = false) : ln1 x = none := by rw [ln1, h]; rfl
theorem ln1_ok {x : Bs} (h : Lib.hasSuffix x [10] = true) : ln1 x = opP (Lib.trimSuffix x [10]) := by rw [ln1, if_pos h]
theorem lines_count (s : Bs) : (linesL s).length ≤ s.length + 1 := by
  have h : ∀ ps : List Bs, (lnsP ps).length ≤ ps.length := fun ps => by
    induction ps with
    | nil => exact Nat.le_refl _
    | cons p r ih =>
      cases r with
      | nil => rw [lnsP]; split <;> simp
      | cons q t => rw [lnsP, List.length_cons, List.length_cons]; omega
  have := h (cutB 10 s); have := cut_count 10 s; unfold linesL; omega


theorem St.lsNil {w0 w : World} {F0 : Nat → Prop} {L : List Res} (h : St w0 F0 L w) : St w0 F0 (LsR RdOpS 6 none 0 [] :: L) w := by
  obtain ⟨F, hF, hst⟩ := h; exact ⟨F, ls_nil hF, hst⟩
attribute [local irreducible] Gl Gc Gx Gs Runs Wt

set_option maxHeartbeats 1000000 in
set_option maxRecDepth 20000 in
theorem sparse_ok {w : World} {F : Nat → Prop} {s : List UInt8} (h : stars [] w F) {ea : Nat → Addr} {es : List Nat} [Has es 3] [Has es 4] (hE : GErr es w (fun k => ¬ F k) 153 ea)  :
    Calls Tryd.prog 9 #[.string (str s)] w (Post w F (fun x : Option Addr × Nat => .tuple #[.slice x.1 (parO s).length x.2, eV 153 ea (parE s)]) (fun x => [LsR RdOpS 6 x.1 (parO s).length (parO s)])) := by
  refine g_enterM (env := [(0, .string (str s))]) Tryd.func9 rfl h Tryd.ntmps9 rfl rfl ?_
  refine gsr ?_
  refine zal fun b2 => ?_
  refine zal fun b3 => ?_
  refine gnt ?_
  refine gc_seq ?_
  refine gsr ?_
  refine gp zmv ?_
  refine gp zlS ?_
  refine gp zgt ?_
  refine gnt ?_
  refine gif rfl (fun hc12 => ?_) (fun hc12 => ?_)
  · refine gc_seq ?_
    refine gc_regionZ 2 [] ?_
    refine yps 0 rfl (r_ld1o rfl Ty.row_25 (hE.c 3 Has.h) (hE.n 3 Has.h)) ?_
    refine yos 1 rfl ?_
    refine zs1 ?_
    refine yxs ?_
    refine yzs rfl ?_
    refine zs1 ?_
    refine gnt ?_
    refine gc_ret ?_
    refine gx_then_ret ?_
    refine gx_mark0 ?_
    refine gx_retcc rfl rfl rfl (ld_oneS Ty.row_23 (by repeat (first | exact Pick.here | apply Pick.there)) (by first | rfl | (simp only [List.getElem?_cons_succ, List.getElem?_cons_zero, List.cons_append, List.append_assoc, get_dc, get_L, Nat.reduceLeDiff, Nat.reduceSub, Nat.reduceAdd, Nat.le_refl]; rfl))) (ld_oneS Ty.row_25 (by repeat (first | exact Pick.here | apply Pick.there)) (by first | rfl | (simp only [List.getElem?_cons_succ, List.getElem?_cons_zero, List.cons_append, List.append_assoc, get_dc, get_L, Nat.reduceLeDiff, Nat.reduceSub, Nat.reduceAdd, Nat.le_refl]; rfl))) ?_
    exact fun w' hw => ⟨(none, 0), by rw [(par_long hc12).1, (par_long hc12).2]; rfl, by rw [(par_long hc12).2]; exact St.lsNil (hw.sel (by repeat (first | exact Sel.nil | (apply Sel.cons; · (repeat (first | exact Pick.here | apply Pick.there))))))⟩
  · try simp only at hc12
    have hs : s.length ≤ 65535 := by omega
    refine gc_skip ?_
    refine gx_then ?_
    refine gsr ?_
    refine zal fun b4 => ?_
    refine gnt ?_
    refine gc_seq ?_
    refine gsr ?_
    refine gp zmv ?_
    refine zc (fun x15 => ?_) (c := fun w1 F1 F2 h1 h2 hd hst => Lines_ok (s := s) h1)
    refine gnt ?_
    refine gc_block ?_
    refine gc_turn (L2 := ([pureR (((allL ln1 ((linesL s).take 0))).isSome = true ∧ 0 ≤ (linesL s).length), OpsV b4 23 38 (((allL ln1 ((linesL s).take 0))).getD []), blk b2 23 [.slice none 0 0], blk b3 25 [.nilIface]]) ++ [blk x15 9 [.string (str s)]]) (fun w' hw => St.pureI ⟨rfl, Nat.zero_le _⟩ ((St.opsv (css := []) (l := []) ((St.elNil (hw.rowNil (e := 38) (size := 6))).sel (M := [blk b4 23 [.slice none 0 0], rowR 38 6 none 0 0 [], ElR RdOpS [] [], blk b2 23 [.slice none 0 0], blk b3 25 [.nilIface], blk x15 9 [.string (str s)]]) (by repeat (first | exact Sel.nil | (apply Sel.cons; · (repeat (first | exact Pick.here | apply Pick.there)))))) rfl rfl (by simp)).sel (by repeat (first | exact Sel.nil | (apply Sel.cons; · (repeat (first | exact Pick.here | apply Pick.there))))))) ?_
    refine gc_range (own := [blk x15 9 [.string (str s)]]) (fun i => [pureR (((allL ln1 ((linesL s).take i))).isSome = true ∧ i ≤ (linesL s).length), OpsV b4 23 38 (((allL ln1 ((linesL s).take i))).getD []), blk b2 23 [.slice none 0 0], blk b3 25 [.nilIface]]) (fun i cd => [pureR (cd = Code.ret ∧ parP s = none), blk b2 23 [.slice none 0 0], blk b3 25 [eV 153 ea 4]]) (by exact rfl) Ty.call_32 (by repeat (first | exact Sel.nil | (apply Sel.cons; · (repeat (first | exact Pick.here | apply Pick.there))))) (by intros; rfl) (fun lp J Jx w1 F1 F2 h1 h2 hd hst => Lines1_it h1 hs) ?_ ?_ ?_
    · intro lp rc rc' i x w1 F1 F2 h1 h2 hd hst
      try dsimp only [List.cons_append, List.nil_append, zipE]
      have hE := hE.mv hst.still
      refine gc_pure1 (p := (linesL s)[i]? = some x) (by repeat (first | exact Pick.here | apply Pick.there)) (fun hxi => ?_)
      refine gc_pure1 (p := ((allL ln1 ((linesL s).take i))).isSome = true ∧ i ≤ (linesL s).length) (by repeat (first | exact Pick.here | apply Pick.there)) (fun hI => ?_)
      obtain ⟨hI, _⟩ := hI
      obtain ⟨l, hl⟩ := Option.isSome_iff_exists.1 hI
      rw [hl, Option.getD_some]
      refine gc_opsv (by repeat (first | exact Pick.here | apply Pick.there)) (fun a4 c4 n4 css4 hn4 hcs4 => ?_)
      obtain ⟨hik, hix⟩ := List.getElem?_eq_some_iff.1 hxi
      obtain ⟨x2, r2, _, hg2, _, hmem, htk⟩ := drop_at hik
      obtain rfl : x2 = x := by rw [hxi] at hg2; injection hg2 with hg2; exact hg2.symm
      have hxl := line_len hmem
      have htl := trim_len x2 [10]
      have hll := allL_len hl
      rw [List.length_take] at hll
      have hcc := lines_count s
      refine gc_region ?_
      refine gp zas ?_
      refine gl_nil ?_
      refine gx_lp (by repeat (first | exact Pick.here | apply Pick.there)) ?_
      refine gx_begin ?_
      refine gc_block ?_
      refine gsr ?_
      refine gp zmv ?_
      refine zc (fun _ => ?_) (c := fun w1 F1 F2 h1 h2 hd hst => cutS_ok (s := x2) (p := [10]) h1 (by omega))
      refine gp zmv ?_
      refine gp zex ?_
      refine gp zex ?_
      refine gp zas ?_
      refine gp zas ?_
      refine gnt ?_
      refine gsr ?_
      refine gp zmv ?_
      refine zc (fun x24 => ?_) (c := fun w1 F1 F2 h1 h2 hd hst => sop_ok (s := Lib.trimSuffix x2 [10]) h1 (by omega))
      refine gl_pureR (fun hx24 => ?_)
      refine gp zmv ?_
      refine gp zex ?_
      refine gp zex ?_
      refine zal fun b8 => ?_
      refine zsN ?_
      refine gl_eqc (cs' := poC x24) (by repeat (first | exact Pick.here | apply Pick.there)) rfl ?_
      refine gp zas ?_
      refine gnt ?_
      refine gc_seq ?_
      refine gc_seq ?_
      by_cases g1 : Lib.hasSuffix x2 [10] = true
      · by_cases g2 : (opP (Lib.trimSuffix x2 [10])).isSome = true
        · obtain ⟨o, ho⟩ := Option.isSome_iff_exists.1 g2
          have hln : ln1 x2 = some x24.o := by rw [ln1_ok g1, ho, hx24 o ho]
          refine gc_region ?_
          refine gp zmv ?_
          refine gp (r_bool (c := false) znt (by rw [g1]; rfl)) ?_
          refine gp zmv ?_
          refine gq zmv ?_
          refine gq (r_bool (c := false) znt (by rw [g2]; rfl)) ?_
          refine gp zpk ?_
          refine gnt ?_
          refine gc_condF rfl rfl ?_
          refine gc_skip ?_
          refine gx_then ?_
          refine gc_conv (M := [rowR 3 1 x24.sa x24.o.set.length x24.cs (x24.o.set.map (Value.int .i64)), rowR 4 1 x24.ak x24.o.keep.length x24.ck (x24.o.keep.map Value.bool), rowR 5 1 x24.ad x24.o.data.length x24.cd (x24.o.data.map B8)]) (N := [VlR RdOpS (poC x24) x24.o]) (by repeat (first | exact Sel.nil | (apply Sel.cons; · (repeat (first | exact Pick.here | apply Pick.there))))) (fun _ _ h => vl_op h) ?_
          refine gc_region ?_
          refine gp zl ?_
          refine gp zL ?_
          refine zeN fun b36 => ?_
          refine zapo (m := n4) (j := 1) (fun a37 c37 => ?_)
          refine zs1 ?_
          refine gl_nil ?_
          refine gx_block_normal ?_
          refine gx_rdn ?_
          intro w' hw
          have hl2 := allL_snoc hl hln
          rw [← htk] at hl2
          have hw2 := hw.conv (M := [ElR RdOpS css4 l, VlR RdOpS (poC x24) x24.o]) (N := [ElR RdOpS (css4 ++ [poC x24]) (l ++ [x24.o])]) (by repeat (first | exact Sel.nil | (apply Sel.cons; · (repeat (first | exact Pick.here | apply Pick.there))))) (fun _ _ h => el_snoc h)
          exact (St.pureI (p := ((allL ln1 ((linesL s).take (i + 1)))).isSome = true ∧ i + 1 ≤ (linesL s).length) ⟨by rw [hl2]; rfl, hik⟩ (St.opsv (l := ((allL ln1 ((linesL s).take (i + 1)))).getD []) (css := css4 ++ [poC x24]) (hw2.sel (M := [blk b4 23 [.slice a37 (n4 + 1) c37], rowR 38 6 a37 (n4 + 1) c37 _, ElR RdOpS (css4 ++ [poC x24]) (((allL ln1 ((linesL s).take (i + 1)))).getD []), lpR lp rc', blk b2 23 [.slice none 0 0], blk b3 25 [.nilIface]]) (by rw [hl2]; exact (by repeat (first | exact Sel.nil | (apply Sel.cons; · (repeat (first | exact Pick.here | apply Pick.there))))))) (by rw [hl2]; simp; omega) (by simp) (fun c hc => (List.mem_append.1 hc).elim (hcs4 c) (fun h => by rw [List.mem_singleton.1 h]; rfl)))).sel (by repeat (first | exact Sel.nil | (apply Sel.cons; · (repeat (first | exact Pick.here | apply Pick.there)))))
        · have hln : ln1 x2 = none := by rw [ln1_ok g1]; simpa using g2
          refine gc_region ?_
          refine gp zmv ?_
          refine gp (r_bool (c := false) znt (by rw [g1]; rfl)) ?_
          refine gp zmv ?_
          refine gq zmv ?_
          refine gq (r_bool (c := true) znt (by rw [show (opP (Lib.trimSuffix x2 [10])).isSome = false by simpa using g2]; rfl)) ?_
          refine gp zpk ?_
          refine gnt ?_
          refine gc_condT rfl rfl ?_
          refine gc_seq ?_
          refine gc_regionZ 2 [] ?_
          refine yps 0 rfl (r_ld1o rfl Ty.row_25 (hE.c 4 Has.h) (hE.n 4 Has.h)) ?_
          refine yos 1 rfl ?_
          refine zs1 ?_
          refine yxs ?_
          refine yzs rfl ?_
          refine zs1 ?_
          refine gnt ?_
          refine gc_ret ?_
          refine gx_then_ret ?_
          refine gx_block_ret ?_
          refine gx_rdr ?_
          exact fun w' hw => (St.pureI (p := Code.ret = Code.ret ∧ parP s = none) ⟨rfl, by rw [parP_lines, allL_none hln hmem]⟩ (hw.sel (M := [lpR lp rc', blk b2 23 [.slice none 0 0], blk b3 25 [eV 153 ea 4]]) (by repeat (first | exact Sel.nil | (apply Sel.cons; · (repeat (first | exact Pick.here | apply Pick.there))))))).sel (by repeat (first | exact Sel.nil | (apply Sel.cons; · (repeat (first | exact Pick.here | apply Pick.there)))))
      · have hln : ln1 x2 = none := ln1_bad (by simpa using g1)
        refine gc_region ?_
        refine gp zmv ?_
        refine gp (r_bool (c := true) znt (by rw [show Lib.hasSuffix x2 [10] = false by simpa using g1]; rfl)) ?_
        refine gp zmv ?_
        refine gn ?_
        refine gn ?_
        refine gp zpk ?_
        refine gnt ?_
        refine gc_condT rfl rfl ?_
        refine gc_seq ?_
        refine gc_regionZ 2 [] ?_
        refine yps 0 rfl (r_ld1o rfl Ty.row_25 (hE.c 4 Has.h) (hE.n 4 Has.h)) ?_
        refine yos 1 rfl ?_
        refine zs1 ?_
        refine yxs ?_
        refine yzs rfl ?_
        refine zs1 ?_
        refine gnt ?_
        refine gc_ret ?_
        refine gx_then_ret ?_
        refine gx_block_ret ?_
        refine gx_rdr ?_
        exact fun w' hw => (St.pureI (p := Code.ret = Code.ret ∧ parP s = none) ⟨rfl, by rw [parP_lines, allL_none hln hmem]⟩ (hw.sel (M := [lpR lp rc', blk b2 23 [.slice none 0 0], blk b3 25 [eV 153 ea 4]]) (by repeat (first | exact Sel.nil | (apply Sel.cons; · (repeat (first | exact Pick.here | apply Pick.there))))))).sel (by repeat (first | exact Sel.nil | (apply Sel.cons; · (repeat (first | exact Pick.here | apply Pick.there)))))
    · intro bU5 y m hy
      try dsimp only [List.cons_append, List.nil_append]
      obtain rfl : m = (linesL s).length := by cases y <;> simp_all [allOr]
      refine gx_pure1 (p := ((allL ln1 ((linesL s).take (linesL s).length))).isSome = true ∧ (linesL s).length ≤ (linesL s).length) (by repeat (first | exact Pick.here | apply Pick.there)) (fun hI => ?_)
      rw [List.take_of_length_le (Nat.le_refl _)] at hI ⊢
      obtain ⟨l, hl⟩ := Option.isSome_iff_exists.1 hI.1
      rw [hl, Option.getD_some]
      have hz : parP s = some l := by rw [parP_lines, hl]
      refine gx_block_normal ?_
      refine gx_thenM ?_
      refine gc_seq ?_
      refine gc_opsv (by repeat (first | exact Pick.here | apply Pick.there)) (fun a4 c4 n4 css4 hn4 hcs4 => ?_)
      subst hn4
      refine gc_region ?_
      refine gp zl ?_
      refine zs1 ?_
      refine zs1 ?_
      refine gnt ?_
      refine gc_ret ?_
      refine gx_mark (by repeat (first | exact Pick.here | apply Pick.there)) ?_
      refine gx_mark0 ?_
      refine gx_retcc rfl rfl rfl (ld_oneS Ty.row_23 (by repeat (first | exact Pick.here | apply Pick.there)) (by first | rfl | (simp only [List.getElem?_cons_succ, List.getElem?_cons_zero, List.cons_append, List.append_assoc, get_dc, get_L, Nat.reduceLeDiff, Nat.reduceSub, Nat.reduceAdd, Nat.le_refl]; rfl))) (ld_oneS Ty.row_25 (by repeat (first | exact Pick.here | apply Pick.there)) (by first | rfl | (simp only [List.getElem?_cons_succ, List.getElem?_cons_zero, List.cons_append, List.append_assoc, get_dc, get_L, Nat.reduceLeDiff, Nat.reduceSub, Nat.reduceAdd, Nat.le_refl]; rfl))) ?_
      exact fun w' hw => ⟨(a4, c4), by rw [(par_some (by omega) hz).1, (par_some (by omega) hz).2, eV_zero], by rw [(par_some (by omega) hz).2]; exact (hw.conv (M := [rowR 38 6 a4 l.length c4 css4.flatten, ElR RdOpS css4 l]) (N := [LsR RdOpS 6 a4 l.length l]) (by repeat (first | exact Sel.nil | (apply Sel.cons; · (repeat (first | exact Pick.here | apply Pick.there))))) (fun _ _ h => ls_of hcs4 h)).sel (by repeat (first | exact Sel.nil | (apply Sel.cons; · (repeat (first | exact Pick.here | apply Pick.there)))))⟩
    · intro bU5 y i cd hy
      try dsimp only [List.cons_append, List.nil_append]
      refine gc_pure1 (p := cd = Code.ret ∧ parP s = none) (by repeat (first | exact Pick.here | apply Pick.there)) (fun hX => ?_)
      obtain ⟨rfl, hz⟩ := hX
      refine gc_ret ?_
      refine gx_block_ret ?_
      refine gx_then_ret ?_
      refine gx_mark (by repeat (first | exact Pick.here | apply Pick.there)) ?_
      refine gx_mark0 ?_
      refine gx_retcc rfl rfl rfl (ld_oneS Ty.row_23 (by repeat (first | exact Pick.here | apply Pick.there)) (by first | rfl | (simp only [List.getElem?_cons_succ, List.getElem?_cons_zero, List.cons_append, List.append_assoc, get_dc, get_L, Nat.reduceLeDiff, Nat.reduceSub, Nat.reduceAdd, Nat.le_refl]; rfl))) (ld_oneS Ty.row_25 (by repeat (first | exact Pick.here | apply Pick.there)) (by first | rfl | (simp only [List.getElem?_cons_succ, List.getElem?_cons_zero, List.cons_append, List.append_assoc, get_dc, get_L, Nat.reduceLeDiff, Nat.reduceSub, Nat.reduceAdd, Nat.le_refl]; rfl))) ?_
      exact fun w' hw => ⟨(none, 0), by rw [(par_none (by omega) hz).1, (par_none (by omega) hz).2]; rfl, by rw [(par_none (by omega) hz).2]; exact St.lsNil (hw.sel (by repeat (first | exact Sel.nil | (apply Sel.cons; · (repeat (first | exact Pick.here | apply Pick.there))))))⟩

end Go.Proofs.YthicckleihbomaaDoor

/- Walks, by program (wg.py) out of a spec. -/
namespace Go.Proofs.YthicckleihbomaaDoor
open Go
set_option linter.unusedVariables false
set_option linter.unusedSimpArgs false


theorem St.lsAt {α : Type} {rd : World → (Nat → Prop) → List Value → α → Prop} [RdK rd] {w0 w : World} {F0 : Nat → Prop} {L L' : List Res} {size n : Nat} {a : Option Addr} {l : List α} (hs : St w0 F0 L w) (hp : Pick L (LsR rd size a n l) L') : ∃ A, RdList (rd w A) w A size a n l := by
  obtain ⟨F, hF, _⟩ := hs
  obtain ⟨G1, G2, ⟨h, _⟩, _, _, _⟩ := hp.stars hF
  exact ⟨G1, h⟩
theorem St.lsPtr {α : Type} {rd : World → (Nat → Prop) → List Value → α → Prop} [RdK rd] {w0 w : World} {F0 : Nat → Prop} {L L' : List Res} {size n : Nat} {a : Option Addr} {l : List α} (hs : St w0 F0 L w) (hp : Pick L (LsR rd size a n l) L') (h0 : 0 < n) : ∃ g o, a = some ⟨g, o, none⟩ := by
  obtain ⟨A, css, hr, _⟩ := hs.lsAt hp
  obtain ⟨g, o, ha, _⟩ := hr.2.2 h0
  exact ⟨g, o, ha⟩
/-- An op's kind, out of a list that is owned. -/
theorem r_ldKind {P : Program} {w0 : World} {F0 : Nat → Prop} {L L' : List Res} {n : Fm} {env : Env} {d : Option Tmp} {ty : TypeId} {pos : String} {af : Array Edge} {gd : Option (Nat × Bool)} {x : Operand} {T g o m i : Nat} {l : List OpS} {op : OpS} (hr : rowT P T = some false) (hp : Pick L (LsR RdOpS 6 (some ⟨g, o, none⟩) m l) L') (hi : l[i]? = some op)
    (hx : ev n env x = .pointer (some ⟨g, o + i * 6 + 0, none⟩)) : Runs P w0 F0 L n env ⟨d, .load T x, ty, pos, af, gd⟩ (.int .i64 op.kind) := r_load hx fun w hs => by
  obtain ⟨A, hl⟩ := hs.lsAt hp
  have hn := hl.len (by decide)
  obtain ⟨hil, _⟩ := List.getElem?_eq_some_iff.1 hi
  obtain ⟨g', o', c, x', ha, _, _, hra, _, hx', hrd⟩ := hl.elem (i := i) (by decide) (by omega)
  injection ha with ha; injection ha with e1 e2; subst e1; subst e2
  rw [hi] at hx'; injection hx' with hx'; subst hx'
  obtain ⟨a1, a2, a3, c1, c2, c3, rfl, _⟩ := hrd
  exact run_loadVar_one hr (hra 0 _ rfl)
def aliveS : Bs := [116, 105, 99, 107, 32, 48, 10, 100, 101, 108, 105, 118, 101, 114, 32, 48, 10]
theorem alive_par : parO aliveS = [⟨4, 0, 0, [], [], []⟩, ⟨1, 0, 0, [], [], []⟩] ∧ parE aliveS = 0 := ⟨by rfl, by rfl⟩

attribute [local irreducible] Gl Gc Gx Gs Runs Wt

set_option maxHeartbeats 1000000 in
set_option maxRecDepth 20000 in
theorem alive23_ok {w : World} {F : Nat → Prop} (h : stars [] w F) {ea : Nat → Addr} {es : List Nat} [Has es 3] [Has es 4] (hE : GErr es w (fun k => ¬ F k) 153 ea)  :
    Calls Tryd.prog 8 #[] w (Post w F (fun _ : Unit => .bool true) (fun _ => [])) := by
  refine g_enter (env := []) Tryd.func8 rfl h Tryd.ntmps8 rfl rfl ?_
  refine gsr ?_
  refine gp zas ?_
  refine gnt ?_
  refine gsr ?_
  refine zc ?_ (c := fun w1 F1 F2 h1 h2 hd hst => sparse_ok (s := aliveS) h1 (hE.mv hst.still))
  rintro ⟨a4, c4⟩
  rw [alive_par.1, alive_par.2]
  refine gp zmv ?_
  refine gp zex ?_
  refine gp zex ?_
  refine gp zas ?_
  refine gp zas ?_
  refine gnt ?_
  refine gc_seq ?_
  refine gc_fact (fun w' hw => St.lsPtr hw (rd := RdOpS) (by repeat (first | exact Pick.here | apply Pick.there)) (by decide)) (fun hla => ?_)
  obtain ⟨ga, oa, hla⟩ := hla
  subst hla
  refine gc_region ?_
  refine gp zmv ?_
  refine gp (r_bool (c := true) (r_eqnil (k := 0) rfl (by kernel_rfl)) rfl) ?_
  refine gp zmv ?_
  refine gq zmv ?_
  refine gq zln ?_
  refine gq (r_bool (c := true) zei (rfl)) ?_
  refine gp zpk ?_
  refine gp zmv ?_
  refine gq zmv ?_
  refine gq (r_val (v' := .pointer (some ⟨ga, oa + 0 * 6, none⟩)) (zia (hm := by simp)) (by simp)) ?_
  refine gq zfa ?_
  refine gq (r_ldKind (i := 0) Ty.row_3 (by repeat (first | exact Pick.here | apply Pick.there)) rfl rfl) ?_
  refine gq (r_bool (c := true) zei (rfl)) ?_
  refine gp zpk ?_
  refine gp zmv ?_
  refine gq zmv ?_
  refine gq (r_val (v' := .pointer (some ⟨ga, oa + 1 * 6, none⟩)) (zia (hm := by simp)) (by simp)) ?_
  refine gq zfa ?_
  refine gq (r_ldKind (i := 1) Ty.row_3 (by repeat (first | exact Pick.here | apply Pick.there)) rfl rfl) ?_
  refine gq (r_bool (c := true) zei (rfl)) ?_
  refine gp zpk ?_
  refine gp zas ?_
  refine gnt ?_
  refine gc_ret ?_
  refine gx_ret1 rfl (by conv => lhs; whnf) ?_
  exact ze ()

end Go.Proofs.YthicckleihbomaaDoor

/- The engine, part Y: strings.Builder: a pointer held against itself, unsafe.Pointer, a string made of a row of bytes. -/
namespace Go.Proofs.YthicckleihbomaaDoor
open Go
set_option linter.unusedVariables false
set_option linter.unusedSimpArgs false

section
variable {P : Program} {w0 : World} {F0 : Nat → Prop} {L : List Res} {Q : Exit → Act → World → Prop} {n : Fm} {env : Env} {ops : Array Oper} {rest : List Oper}
variable {d : Option Tmp} {t : Tmp} {ty : TypeId} {pos : String} {af : Array Edge} {gd : Option (Nat × Bool)}
theorem r_nepself {x y : Operand} {T T' e : TypeId} {a : Addr} (ht : P.underlying T = some (.pointer e)) (hj : (P.info? e).isSome = true) (hx : ev n env x = .pointer (some a) := by exact rfl) (hy : ev n env y = .pointer (some a) := by exact rfl) :
    Runs P w0 F0 L n env ⟨d, .binOp .neq T x y T', ty, pos, af, gd⟩ (.bool false) := fun w _ => by
  obtain ⟨j, hj⟩ := Option.isSome_iff_exists.1 hj
  have h := Lib.run_neq_ptr_same (P := P) w a ht hj
  simp [execOp, hx, hy, eqGuard, h]
theorem St.shapeOf {w : World} {b e : Nat} {cs : List Value} {L' : List Res} (hs : St w0 F0 L w) (hp : Pick L (blk b e cs) L') : w.shape? b = some (e, cs.length) := by
  obtain ⟨F, hF, _⟩ := hs
  obtain ⟨F1, F2, ⟨_, fz, hg, _⟩, _⟩ := hp.stars hF
  simp [World.shape?, hg]
theorem r_toUns {x : Operand} {S T t e b : Nat} {cs : List Value} {L' : List Res} {m : Nat} (hs : P.underlying S = some (.pointer t)) (hd : P.underlying T = some .unsafePointer) (hj : (P.info? t).map (·.size) = some (m + 1)) (hp : Pick L (blk b e cs) L') (hl : 0 < cs.length) (hx : ev n env x = .pointer (some ⟨b, 0, none⟩) := by exact rfl) :
    Runs P w0 F0 L n env ⟨d, .convert S T x, ty, pos, af, gd⟩ (.pointer (some ⟨b, 0, none⟩)) := fun w hw => by
  obtain ⟨j, hj, hz⟩ := Option.map_eq_some_iff.1 hj
  have h := Lib.run_to_unsafe (P := P) w ⟨b, 0, none⟩ hs hd hj (by omega) (hw.shapeOf hp) hl
  simp [execOp, hx, h]
theorem r_fromUns {x : Operand} {S T u e b m : Nat} {cs : List Value} {L' : List Res} (hs : P.underlying S = some .unsafePointer) (hd : P.underlying T = some (.pointer u)) (hj : (P.info? u).isSome = true) (hp : Pick L (blk b e cs) L') (hm : cs.length = m) (hl : liesAt P P.depth e (m / P.cellsOf e) 0 u 1 = true) (hx : ev n env x = .pointer (some ⟨b, 0, none⟩) := by exact rfl) :
    Runs P w0 F0 L n env ⟨d, .convert S T x, ty, pos, af, gd⟩ (.pointer (some ⟨b, 0, none⟩)) := fun w hw => by
  obtain ⟨j, hj⟩ := Option.isSome_iff_exists.1 hj
  subst hm
  have h := Lib.run_from_unsafe (P := P) w ⟨b, 0, none⟩ hs hd hj (hw.shapeOf hp) hl
  simp [execOp, hx, h]
theorem r_noEscape {x : Operand} {f : FuncId} {fn : Func} {ts : Array TypeId} {v : Value} (hf : P.funcs[f]? = some fn) (hname : (fn.name == "runtime.NumGoroutine") = false) (hb : fn.body.isNone = true) (hn : Extern.findNext fn = none) (he : Extern.find fn = some Extern.AbiNoEscape.same) (hx : ev n env x = v := by exact rfl) :
    Runs P w0 F0 L n env ⟨d, .call ⟨.value (.func f), #[x], ts⟩, ty, pos, af, gd⟩ v := fun w hw => by
  have h := run_callFunc_extern hf hname hb hn he #[v] w
  rw [Lib.run_noEscape] at h
  have hf' : ev n env (.func f) = .func (.func f) #[] #[] := rfl
  simp [execOp, resolve, hf', Deferred.ofValue, invoke, hx, h]
theorem liesAt_off {e : TypeId} (hc : P.cellsOf e = 1) (count o n : Nat) (hn : o + n ≤ count) : liesAt P P.depth e count o e n = true := by
  have hd : P.depth = (2 * (P.types.size + Made.depth) + 1) + 1 := rfl
  rw [hd]
  simp only [liesAt, Bool.or_eq_true]
  left
  rw [hd]
  simp [rowAt, hc, hn, sameLayout, Nat.mod_one]
/-- unsafe.SliceData -/
theorem r_sdata {x : Operand} {S : TypeId} {a : Option Addr} {m c : Nat} (hc : a = none ∨ c ≠ 0) (hx : ev n env x = .slice a m c := by exact rfl) :
    Runs P w0 F0 L n env ⟨d, .call ⟨.builtin .unsafeSliceData, #[x], #[S]⟩, ty, pos, af, gd⟩ (.pointer a) := fun w hw => by
  have h : (Builtin.unsafeSliceData_ #[S] ty #[.slice a m c]).run P w = .ok (.pointer a) w := by
    cases a with
    | none => exact Lib.run_unsafeSliceData_nil w _ _ _ _
    | some a => exact Lib.run_unsafeSliceData_row w _ _ _ _ _ (hc.resolve_left (by simp))
  simp [execOp, resolve, invoke, hx, builtin, h]
theorem run_uStr {w : World} {pt it ty e g o cells : Nat} (hp : P.underlying pt = some (.pointer e)) (hc : P.cellsOf e = 1) (hsh : w.shape? g = some (e, cells)) (l : List UInt8) (h0 : l ≠ []) (hn : o + l.length ≤ cells) (h63 : l.length ≤ 9223372036854775807)
    (hcell : ∀ j x, l[j]? = some x → w.cell? ((⟨g, o, none⟩ : Addr).add j) = some (.int .u8 x.toNat)) :
    (Builtin.unsafeString_ #[pt, it] ty #[.pointer (some ⟨g, o, none⟩), .int .i64 l.length]).run P w = .ok (.string (str l)) (w.freeze ⟨g, o, none⟩ l.length) := by
  have hl : l.length ≠ 0 := by simpa using h0
  have hlb := Lib.run_loadBytes (P := P) w l ⟨g, o, none⟩ .empty hcell
  have hlies := liesAt_off (P := P) hc (cells / P.cellsOf e) o l.length (by rw [hc]; simpa using hn)
  have h63' : ¬ (9223372036854775807 : Int) < (l.length : Int) := by omega
  have hdef : Builtin.unsafeString_ #[pt, it] ty #[.pointer (some ⟨g, o, none⟩), .int .i64 l.length] =
      (do
        let n ← asInt (.int .i64 l.length)
        if n < 0 then runtimePanic (.error "unsafe.String: len out of range")
        if n > IntKind.i64.max then unsupported (.unsafePointer "String: a length above the largest int")
        if n = 0 then pure (.string .empty)
        else if ← variablesAt ⟨g, o, none⟩ (← elemOf pt) n.toNat then do
          let s ← loadBytes ⟨g, o, none⟩ .empty n.toNat
          freeze ⟨g, o, none⟩ n.toNat
          pure (.string s)
        else unsupported (.unsafePointer "String: not so many bytes at ptr")) := rfl
  rw [hdef]
  have hmax : IntKind.i64.max = 9223372036854775807 := rfl
  have hneg : ¬ (l.length : Int) < 0 := by omega
  simp [asInt, asIntOf, hmax, h63', hneg, hl, variablesAt, hsh, elemOf, run_underlying hp, hlies, hlb, str]
theorem gl_uStr {x y : Operand} {S I e c : Nat} {a : Option Addr} {b : List UInt8} {L' : List Res} (hp : Pick L (rowR e 1 a b.length c (b.map B8)) L') (hS : P.underlying S = some (.pointer e)) (hc : P.cellsOf e = 1) (k : Gl P w0 F0 L' ops Q rest n ((t, .string (str b)) :: env))
    (hx : ev n env x = .pointer a := by exact rfl) (hy : ev n env y = .int .i64 (b.length : Int) := by exact rfl)
    (hw : Wt ops n env ⟨some t, .call ⟨.builtin .unsafeString, #[x, y], #[S, I]⟩, ty, pos, af, gd⟩ true := by first | exact wt0 rfl | exact wtgT rfl rfl rfl rfl) :
    Gl P w0 F0 L ops Q (⟨some t, .call ⟨.builtin .unsafeString, #[x, y], #[S, I]⟩, ty, pos, af, gd⟩ :: rest) n env := by
  refine gl_eff hw (fun w hs => ?_) k
  obtain ⟨F, hF, hst⟩ := hs
  obtain ⟨F1, F2, hrow, h2, hE, hd⟩ := hp.stars hF
  obtain ⟨hxl, hmc, hcm, hcase⟩ := hrow
  by_cases h0 : b = []
  · subst h0
    refine ⟨w, ?_, F2, h2, hst.weak fun k hk => (hE k).2 (.inr hk)⟩
    have h := Lib.run_unsafeString_none (P := P) w S I ty a
    have e0 : (str []) = ByteArray.empty := rfl
    rw [e0]
    have hy' : ev n env y = .int .i64 0 := hy
    simp [execOp, resolve, invoke, hx, hy', builtin, h]
  · have hpos : 0 < b.length := by cases b with | nil => exact absurd rfl h0 | cons _ _ => simp
    rcases hcase with ⟨_, hc0, _⟩ | ⟨g, o, cs, fz, rfl, hF1, hg, hfz, hl, hx'⟩
    · omega
    · have hm : c ≤ 281474976710656 ∨ True := .inr trivial
      have h63 : b.length ≤ 9223372036854775807 := by simp only [maxLen] at hcm; omega
      have h := run_uStr (P := P) (w := w) (pt := S) (it := I) (ty := ty) (g := g) (o := o) (cells := cs.size) hS hc (by simp [World.shape?, hg]) b h0 (by omega) h63 (fun j x hj => by
        rw [Addr.add_mid]
        have hj' := (List.getElem?_eq_some_iff.1 hj).1
        have : (cs.toList.drop o)[j]? = (b.map B8)[j]? := by
          rw [← hx', List.getElem?_take, if_pos (by omega)]
        rw [List.getElem?_drop, List.getElem?_map, hj] at this
        simp only [World.cell?, hg]
        simpa [B8] using this)
      refine ⟨w.freeze ⟨g, o, none⟩ b.length, by simp [execOp, resolve, invoke, hx, hy, builtin, h], ?_⟩
      have hfr : ∀ k, k ≠ g → (w.freeze ⟨g, o, none⟩ b.length).heap[k]? = w.heap[k]? := fun k hk => by
        unfold World.freeze
        split
        · rfl
        · simp only [Array.getElem?_modify]; rw [if_neg (by omega)]
      have hsz : (w.freeze ⟨g, o, none⟩ b.length).heap.size = w.heap.size := by unfold World.freeze; split <;> simp
      have hos : (w.freeze ⟨g, o, none⟩ b.length).os = w.os ∧ (w.freeze ⟨g, o, none⟩ b.length).tape = w.tape ∧ (w.freeze ⟨g, o, none⟩ b.length).output = w.output := by unfold World.freeze; split <;> exact ⟨rfl, rfl, rfl⟩
      refine ⟨F2, stars_loc h2 fun j hj => hfr j fun e => hd j ((hF1 j).2 e) hj, ?_⟩
      refine ⟨hos.1 ▸ hst.os, hos.2.1 ▸ hst.tape, hos.2.2 ▸ hst.output, by rw [hsz]; exact hst.size, fun j hj hn => ?_, fun k hk => hst.own k ((hE k).2 (.inr hk))⟩
      rw [← hst.block j hj hn]
      exact hfr j fun e => (hst.old hj hn).2 ((hE j).2 (.inl ((hF1 j).2 e)))
end
end Go.Proofs.YthicckleihbomaaDoor

/- Script: strings.Join; the powers of ten in every later world; lines and texts that are written. -/
namespace Go.Proofs.YthicckleihbomaaDoor
open Go Go.Shelf Go.Lib Go.RowKit
set_option linter.unusedVariables false
set_option linter.unusedSimpArgs false
theorem joiX : Builder.Extra Tryd.prog Tryd.joiA_ren where
  sizeBuilder := by kernel_rfl
  liesBuilder := by kernel_rfl
  t5 := Tryd.underlying5
  a5 := Tryd.isAgg5
  z5 := Tryd.sizeOf5
  v5 := Tryd.zeroValue5
  infoByte := by kernel_rfl
  cellsByte := by kernel_rfl
  sizeByte := by kernel_rfl
  neB5 := by decide
theorem joinB_lib (c : UInt8) : ∀ ps : List Bs, Lib.join ps [c] = joinB c ps
  | [] => rfl
  | [p] => by rw [join_one]; rfl
  | p :: q :: r => by
    have ih := joinB_lib c (q :: r)
    rw [join_cons] at ih ⊢
    rw [joinB, ← ih]; simp [joinTail]
theorem joi_ok {w : World} {F : Nat → Prop} {bk o c n : Nat} {s : UInt8} {ps : List Bs} (h : stars [] w F) (hr : RdRow w (fun k => ¬ F k) 1 (some ⟨bk, o, none⟩) n (ps.map fun p => .string (str p))) (hnn : n = ps.length) (h0 : 0 < ps.length) (hc : ps.length ≤ c) (hl : (joinB s ps).length ≤ 140737488355328) (hn : ps.length ≤ 140737488355328) :
    Calls Tryd.prog 56 #[.slice (some ⟨bk, o, none⟩) n c, .string (str [s])] w (Post w F (fun _ : Unit => .string (str (joinB s ps))) (fun _ => [])) := by
  subst hnn
  obtain ⟨g', o', ha, _, hlt, hra⟩ := hr.2.2 h0
  injection ha with ha; injection ha with e1 e2; subst e1; subst e2
  have em : (ps.map str).map (·.data.toList) = ps := by
    rw [List.map_map]
    conv => rhs; rw [← List.map_id ps]
    rfl
  have ej : Lib.join ((ps.map str).map (·.data.toList)) (str [s]).data.toList = joinB s ps := by rw [em]; exact joinB_lib s ps
  have hj := Any.strings_Join Tryd.joiA joiX bk o c (ps.map str) (str [s]) w (fun j x hx => by
    rw [List.getElem?_map] at hx
    obtain ⟨p, hp, rfl⟩ := Option.map_eq_some_iff.1 hx
    exact hra j _ (by rw [List.getElem?_map, hp]; rfl)) hlt (by rw [List.length_map]; exact hn) (by rw [List.length_map]; exact hc) (by rw [ej]; exact hl)
  rw [ej, List.length_map] at hj
  exact Calls.mono hj fun e w' ⟨he, hw⟩ => ⟨(), by rw [he]; rfl, (St.init h).belowS hw⟩
/-- The table of powers of ten, where nothing owns it. -/
structure TenG (w : World) (A : Nat → Prop) : Prop where
  t : TenR w
  a : A 21
theorem TenG.mv {w w' : World} {A A' : Nat → Prop} (h : TenG w A) (k : Still w A w' A') : TenG w' A' := by
  have hg : Tryd.prog.globalNamed "internal/strconv.uint64pow10" = some 21 := by kernel_rfl
  have ht := h.t
  unfold TenR TabIs World.var? at ht
  rw [hg, Option.bind_some] at ht
  have hlt : 21 < w.heap.size := by
    rcases Nat.lt_or_ge 21 w.heap.size with h' | h'
    · exact h'
    · rw [Array.getElem?_eq_none h'] at ht; cases ht
  obtain ⟨e, hA⟩ := k _ hlt h.a
  refine ⟨?_, hA⟩
  unfold TenR TabIs World.var?
  rw [hg, Option.bind_some, e]; exact ht
def R64 (x : Int) : Prop := -9223372036854775808 ≤ x ∧ x ≤ 9223372036854775807
/-- An op's numbers are ints. -/
def WfO (o : OpS) : Prop := R64 o.n ∧ R64 o.node ∧ ∀ x ∈ o.set, R64 x
theorem bitT_take {l : List Bool} {k : Nat} {b : Bool} (h : l[k]? = some b) : bitT (l.take (k + 1)) = bitT (l.take k) ++ [if b then 49 else 48] := by
  rw [List.take_add_one, h]; simp [bitT]
theorem take_min {α : Type} (l : List α) (n : Nat) : l.take (min l.length n) = l.take n := by
  rw [List.take_eq_take_iff]; omega
theorem hexT_take {d : Bs} {k : Nat} {c : UInt8} (h : d[k]? = some c) : hexT (d.take (k + 1)) = (hexT (d.take k) ++ [hx (c.toNat / 16)]) ++ [hx (c.toNat % 16)] := by
  rw [List.take_add_one, h]; simp [hexT]
theorem hexT_len (d : Bs) : (hexT d).length = 2 * d.length := by
  induction d with
  | nil => rfl
  | cons a r ih => show (hx _ :: hx _ :: hexT r).length = _; simp [ih]; omega
theorem hexes_at {j : Nat} (h : j < 16) : hexesB[j]? = some (hx j) := by
  have : ∀ n : Fin 16, hexesB[n.val]? = some (hx n.val) := by decide
  exact this ⟨j, h⟩
theorem and15 (c : UInt8) : bitop .and .u8 (c.toNat : Int) 15 = ((c.toNat % 16 : Nat) : Int) := by
  have h : ∀ n : Fin 256, bitop .and .u8 (n.val : Int) 15 = ((n.val % 16 : Nat) : Int) := by decide +kernel
  exact h ⟨c.toNat, c.toNat_lt⟩
theorem shr4 (c : UInt8) : (c.toNat : Int).fdiv (2 ^ (min (4 : Int).toNat IntKind.u8.bits)) = ((c.toNat / 16 : Nat) : Int) := by
  have h : ∀ n : Fin 256, (n.val : Int).fdiv (2 ^ (min (4 : Int).toNat IntKind.u8.bits)) = ((n.val / 16 : Nat) : Int) := by decide +kernel
  exact h ⟨c.toNat, c.toNat_lt⟩
theorem hexW_ne {d : Bs} (h : d ≠ []) : hexW d = hexT d := if_neg h
theorem bitW_ne {l : List Bool} (h : l ≠ []) : bitW l = bitT l := if_neg h
theorem hexW_len {d : Bs} (h : d.length ≤ 65535) : (hexW d).length ≤ 131071 := by
  unfold hexW
  split
  · simp
  · rw [hexT_len]; omega
theorem bitW_len (l : List Bool) : (bitW (l.take 64)).length ≤ 131071 := by
  unfold bitW
  split
  · simp
  · simp [bitT]; omega
theorem numW_eq (n : Int) : numW n = if okN n = true then some (itoa n) else none := by
  unfold numW okN
  by_cases h : 0 ≤ n ∧ n ≤ 999999
  · rw [if_pos h, if_pos (by simp [h])]
  · rw [if_neg h, if_neg (by simp; intro h1; exact Int.not_le.1 fun h2 => h ⟨h1, h2⟩)]
theorem numW_is {n : Int} {s : Bs} (h : numW n = some s) : itoa n = s := by
  unfold numW at h
  split at h
  · injection h
  · cases h
theorem joinB_len {c : UInt8} {m : Nat} : ∀ {ps : List Bs}, (∀ p ∈ ps, p.length ≤ m) → (joinB c ps).length ≤ ps.length * (m + 1)
  | [], _ => by simp [joinB]
  | [p], h => by have := h p (by simp); simp [joinB]; omega
  | p :: q :: r, h => by
    have h1 := h p (by simp)
    have h2 := joinB_len (c := c) (ps := q :: r) fun x hx => h x (List.mem_cons_of_mem _ hx)
    have e : (joinB c (p :: q :: r)).length = p.length + (1 + (joinB c (q :: r)).length) := by simp [joinB]; omega
    have e2 : (p :: q :: r).length * (m + 1) = (q :: r).length * (m + 1) + (m + 1) := by rw [List.length_cons, Nat.succ_mul]
    rw [e, e2]; omega
theorem numsW_len {l : List Int} {ps : List Bs} (h : numsW l = some ps) : ps.length = l.length ∧ ∀ p ∈ ps, p.length ≤ 6 := by
  obtain ⟨m, rfl, hm, rfl⟩ := numsW_some h
  refine ⟨by simp, fun p hp => ?_⟩
  obtain ⟨k, hk, rfl⟩ := List.mem_map.1 hp
  rw [decDigits_length]
  exact nD_le 5 k (by have := hm k hk; omega)
theorem itoa_len {n : Int} (h : R64 n) : (itoa n).length ≤ 21 := by
  unfold R64 at h
  have h1 : ∀ u : Nat, u < 10 ^ 20 → (decDigits u).length ≤ 20 := fun u hu => by rw [decDigits_length]; exact nD_le 19 u hu
  unfold itoa
  split
  · have := h1 n.natAbs (by omega); simp; omega
  · have := h1 n.toNat (by omega); omega
theorem powsW_go {l : List Int} {ps : List Bs} (h0 : ¬ l = []) (h7 : ¬ 7 < l.length) (h : numsW l = some ps) : powsW l = some (joinB 44 ps) := by
  unfold powsW; rw [if_neg h0, if_neg h7, h]; rfl
theorem powsW_bad {l : List Int} (h0 : ¬ l = []) (h7 : ¬ 7 < l.length) (h : numsW l = none) : powsW l = none := by
  unfold powsW; rw [if_neg h0, if_neg h7, h]; rfl
theorem powsW_big {l : List Int} (h0 : ¬ l = []) (h7 : 7 < l.length) : powsW l = none := by
  unfold powsW; rw [if_neg h0, if_pos h7]
theorem textB_snoc (ls : List Bs) (s : Bs) : textB (ls ++ [s]) = textB ls ++ (s ++ [10]) := by simp [textB]
theorem totB_snoc (ls : List Bs) (s : Bs) : totB (ls ++ [s]) = totB ls + (s.length + 1) := by simp [totB]
/-- the pieces of a line one by one -/
theorem gets_snoc {o : OpS} {c : UInt8} {s : Bs} : ∀ {cs : Bs} {t : Bs}, getsP o cs = some t → getP o c = some s → getsP o (cs ++ [c]) = some (t ++ 32 :: s)
  | [], t, h, hs => by rw [getsP] at h; injection h with h; subst h; simp [getsP, hs]
  | d :: cs, t, h, hs => by
    rw [getsP] at h
    split at h
    · rename_i u v hu hv
      injection h with h; subst h
      rw [List.cons_append, getsP, hu, gets_snoc hv hs]; simp
    · cases h
theorem gets_none {o : OpS} {c : UInt8} (hc : getP o c = none) : ∀ {cs : Bs}, c ∈ cs → getsP o cs = none
  | d :: cs, h => by
    rcases List.mem_cons.1 h with rfl | h
    · rw [getsP, hc]
    · rw [getsP, gets_none hc h]; cases getP o d <;> rfl
theorem forms_kind {i : Nat} {f : FormS} (h : forms[i]? = some f) : f.kind = i + 1 := by
  have h' : ∀ i : Fin 10, ∀ f, forms[i.val]? = some f → f.kind = i.val + 1 := by decide
  have hi := (List.getElem?_eq_some_iff.1 h).1
  exact h' ⟨i, hi⟩ f h
theorem forms_wl : ∀ f ∈ forms, f.word.length ≤ 7 := by decide
/-- where a kind's form stands -/
def fixI (k : Int) : Int := if 1 ≤ k ∧ k ≤ 10 then k - 1 else -1
theorem fixI_hit {k : Int} {i : Nat} (hi : i < 10) (h : ((i + 1 : Nat) : Int) = k) : fixI k = (i : Int) := by unfold fixI; rw [if_pos (by omega)]; omega
theorem fixI_miss {k : Int} (h : ∀ i, i < 10 → ¬ ((i + 1 : Nat) : Int) = k) : fixI k = -1 := by
  unfold fixI
  rw [if_neg]
  intro hk
  exact h (k.toNat - 1) (by omega) (by omega)
theorem formK_none {k : Int} (h : ¬ (1 ≤ k ∧ k ≤ 10)) : formK k = none := by
  cases e : formK k with
  | none => rfl
  | some f => exact absurd (kinds_of.1 ⟨f, form_mem e⟩) h
theorem formK_at {k : Int} (h : 1 ≤ k ∧ k ≤ 10) : ∃ f, forms[(k - 1).toNat]? = some f ∧ formK k = some f ∧ f ∈ forms := by
  have hl : (k - 1).toNat < forms.length := by show _ < 10; omega
  refine ⟨forms[(k - 1).toNat], List.getElem?_eq_getElem hl, ?_, List.getElem_mem hl⟩
  have hk := forms_kind (List.getElem?_eq_getElem hl)
  have := formK_of (List.getElem_mem hl)
  rw [hk] at this
  rwa [show (((k - 1).toNat + 1 : Nat) : Int) = k by omega] at this
theorem getP_len {o : OpS} {c : UInt8} {s : Bs} (h : getP o c = some s) (hd : o.data.length ≤ 65535) : s.length ≤ 131071 := by
  have hn : ∀ {n : Int} {s : Bs}, numW n = some s → s.length ≤ 131071 := fun h => by
    obtain ⟨k, rfl, hk, rfl⟩ := numW_some h
    rw [decDigits_length]
    have := nD_le 5 k (by omega); omega
  unfold getP at h
  split at h
  · exact hn h
  · split at h
    · exact hn h
    · split at h
      · injection h with h; subst h; exact hexW_len hd
      · split at h
        · unfold powsW at h
          split at h
          · injection h with h; subst h; simp
          · split at h
            · cases h
            · obtain ⟨ps, hps, rfl⟩ := Option.map_eq_some_iff.1 h
              have h2 := numsW_len hps
              have h3 := joinB_len (c := 44) h2.2
              have h4 : ps.length ≤ 7 := by omega
              have := Nat.mul_le_mul_right 7 h4; omega
        · split at h
          · injection h with h; subst h
            have := bitW_len o.keep
            rwa [List.take_of_length_le (by assumption)] at this
          · cases h
theorem getsP_len {o : OpS} (hd : o.data.length ≤ 65535) : ∀ {cs : Bs} {t : Bs}, getsP o cs = some t → t.length ≤ 131072 * cs.length
  | [], t, h => by rw [getsP] at h; injection h with h; subst h; simp
  | c :: cs, t, h => by
    rw [getsP] at h
    split at h
    · rename_i s u hs hu
      injection h with h; subst h
      have h1 := getP_len hs hd
      have h2 := getsP_len hd hu
      simp; omega
    · cases h
theorem lin_len {o : OpS} {s : Bs} (h : linP o = some s) (hd : o.data.length ≤ 65535) : s.length ≤ 400000 := by
  unfold linP at h
  split at h
  · rename_i f hf
    obtain ⟨hm, _⟩ := form_mem hf
    obtain ⟨t, ht, rfl⟩ := Option.map_eq_some_iff.1 h
    have h1 := getsP_len hd ht
    have h2 := forms_wl f hm
    have h3 : f.parts.length ≤ 3 := (show ∀ f ∈ forms, f.parts.length ≤ 3 by decide) f hm
    simp; omega
  · cases h
def linE (o : OpS) : Nat := if (linP o).isSome = true then 0 else 4
def linO (o : OpS) : Bs := (linP o).getD []
theorem lin_none {o : OpS} (h : linP o = none) : linE o = 4 ∧ linO o = [] := by unfold linE linO; rw [h]; exact ⟨rfl, rfl⟩
theorem lin_is {o : OpS} {s : Bs} (h : linP o = some s) : linE o = 0 ∧ linO o = s := by unfold linE linO; rw [h]; exact ⟨rfl, rfl⟩
def texE (l : List OpS) : Nat := match linsP l with | none => 4 | some ls => if 65535 < totB ls then 3 else 0
def texO (l : List OpS) : Bs := match linsP l with | none => [] | some ls => if 65535 < totB ls then [] else textB ls
theorem tex_none {l : List OpS} (h : linsP l = none) : texE l = 4 ∧ texO l = [] := by unfold texE texO; rw [h]; exact ⟨rfl, rfl⟩
theorem tex_long {l : List OpS} {ls : List Bs} (h : linsP l = some ls) (hl : 65535 < totB ls) : texE l = 3 ∧ texO l = [] := by unfold texE texO; rw [h]; simp only; rw [if_pos hl, if_pos hl]; exact ⟨rfl, rfl⟩
theorem tex_is {l : List OpS} {ls : List Bs} (h : linsP l = some ls) (hl : ¬ 65535 < totB ls) : texE l = 0 ∧ texO l = textB ls := by unfold texE texO; rw [h]; simp only; rw [if_neg hl, if_neg hl]; exact ⟨rfl, rfl⟩
end Go.Proofs.YthicckleihbomaaDoor

/- Walks, by program (wg.py) out of a spec. -/
namespace Go.Proofs.YthicckleihbomaaDoor
open Go
set_option linter.unusedVariables false
set_option linter.unusedSimpArgs false


/-- A strings.Builder that holds bytes. -/
def BldR (b : Nat) (bs : Bs) : Res := exR fun p : (Option Addr × Nat) × Bool => allR [pureR (bs = [] → p.1.1 = none), blk b 73 [.pointer (bif p.2 then some ⟨b, 0, none⟩ else none), .slice p.1.1 bs.length p.1.2], rowR 5 1 p.1.1 bs.length p.1.2 (bs.map B8)]
section
variable {P : Program} {w0 w : World} {F F0 : Nat → Prop} {L L' : List Res} {Q : Exit → Act → World → Prop} {n : Fm} {env : Env} {ops : Array Oper} {rest : List Oper} {b m c : Nat} {bs : Bs} {a : Option Addr} {xs : List Value} {u : Bool}
theorem gc_bld {k : Code} (hp : Pick L (BldR b bs) L') (K : ∀ a c u, (bs = [] → a = none) → bs.length ≤ c → Gc P w0 F0 (blk b 73 [.pointer (bif u then some ⟨b, 0, none⟩ else none), .slice a bs.length c] :: rowR 5 1 a bs.length c (bs.map B8) :: L') k Q n env) : Gc P w0 F0 L k Q n env := fun w hw => by
  obtain ⟨F, hF, hst⟩ := hw.pick hp
  obtain ⟨⟨⟨a, c⟩, u⟩, h⟩ := stars_ex hF
  have h2 := stars_all h
  obtain ⟨h3, h4⟩ := stars_pure h2
  obtain ⟨F1, F2, _, h5, _⟩ := stars_cons h4
  obtain ⟨F3, F4, h6, _⟩ := stars_cons h5
  exact K a c u h3 h6.2.1 w ⟨F, h4, hst⟩
theorem St.bld (h : St w0 F0 (blk b 73 [.pointer (bif u then some ⟨b, 0, none⟩ else none), .slice a m c] :: rowR 5 1 a m c xs :: L) w) (h1 : m = bs.length) (h2 : xs = bs.map B8) (h3 : bs = [] → a = none) : St w0 F0 (BldR b bs :: L) w := by
  subst h1; subst h2
  obtain ⟨F, hF, hst⟩ := h
  exact ⟨F, stars_ex_mk ((a, c), u) (stars_all_mk (stars_pure_mk h3 hF)), hst⟩
end

attribute [local irreducible] Gl Gc Gx Gs Runs Wt

set_option maxHeartbeats 400000 in
theorem copyCheck_ok {w : World} {F : Nat → Prop} {b : Nat} {u : Bool} {v : Value} (h : stars [blk b 73 [.pointer (bif u then some ⟨b, 0, none⟩ else none), v]] w F) (h1v : v.oneCell' = true) :
    Calls Tryd.prog 46 #[.pointer (some ⟨b, 0, none⟩)] w (Post w F (fun _ : Unit => .tuple #[]) (fun _ => [blk b 73 [.pointer (some ⟨b, 0, none⟩), v]])) := by
  refine g_enter (env := [(0, .pointer (some ⟨b, 0, none⟩))]) Tryd.func46 rfl h Tryd.ntmps46 rfl rfl ?_
  refine gc_seq ?_
  by_cases g0 : u = true
  · subst g0
    refine gc_region ?_
    refine gp zmv ?_
    refine gp znc ?_
    refine gp zfa ?_
    refine gp (zl (v := .pointer (some ⟨b, 0, none⟩)) (hv := rfl)) ?_
    refine gp (r_bool (c := false) (r_eqpn rfl Ty.un_71) rfl) ?_
    refine gnt ?_
    refine gc_condF rfl rfl ?_
    refine gsr ?_
    refine gp zmv ?_
    refine gp znc ?_
    refine gp zfa ?_
    refine gp (zl (v := .pointer (some ⟨b, 0, none⟩)) (hv := rfl)) ?_
    refine gp zmv ?_
    refine gp (r_nepself Ty.un_71 (by kernel_rfl)) ?_
    refine gnt ?_
    refine gc_condF rfl rfl ?_
    refine gc_skip ?_
    refine gx_ret0' rfl ?_
    exact ze ()
  · obtain rfl : u = false := by simpa using g0
    refine gc_region ?_
    refine gp zmv ?_
    refine gp znc ?_
    refine gp zfa ?_
    refine gp (zl (v := .pointer none) (hv := rfl)) ?_
    refine gp (r_bool (c := true) (r_eqpn rfl Ty.un_71) rfl) ?_
    refine gnt ?_
    refine gc_condT rfl rfl ?_
    refine gc_region ?_
    refine gp zmv ?_
    refine gp zmv ?_
    refine gp (r_toUns (m := 1) Ty.un_71 Tryd.underlying117 (by kernel_rfl) (by repeat (first | exact Pick.here | apply Pick.there)) (by simp)) ?_
    refine gp (r_noEscape Tryd.func57 (by kernel_rfl) (by kernel_rfl) (by kernel_rfl) (by kernel_rfl)) ?_
    refine gp (r_fromUns (m := 2) Tryd.underlying117 Ty.un_71 (by kernel_rfl) (by repeat (first | exact Pick.here | apply Pick.there)) rfl (by kernel_rfl)) ?_
    refine gp znc ?_
    refine gp zfa ?_
    refine zs1 ?_
    refine gl_nil ?_
    refine gx_ret0' rfl ?_
    exact ze ()

set_option maxHeartbeats 400000 in
theorem bwb_ok {w : World} {F : Nat → Prop} {b : Nat} {bs : Bs} {x : UInt8} (h : stars [BldR b bs] w F) (hl : bs.length ≤ 140737488355327) :
    Calls Tryd.prog 55 #[.pointer (some ⟨b, 0, none⟩), .int .u8 x.toNat] w (Post w F (fun _ : Unit => .nilIface) (fun _ => [BldR b (bs ++ [x])])) := by
  refine g_enter (env := [(0, .pointer (some ⟨b, 0, none⟩)), (1, .int .u8 x.toNat)]) Tryd.func55 rfl h Tryd.ntmps55 rfl rfl ?_
  refine gsr ?_
  refine gp zas ?_
  refine gnt ?_
  refine gc_seq ?_
  refine gc_bld (by repeat (first | exact Pick.here | apply Pick.there)) (fun a c u hn hc0 => ?_)
  refine gc_region ?_
  refine gp zmv ?_
  refine zc (fun _ => ?_) (c := fun w1 F1 F2 h1 h2 hd hst => copyCheck_ok (u := u) (v := .slice a bs.length c) h1 rfl)
  refine gnt ?_
  refine gsr ?_
  refine gp zmv ?_
  refine gp zmv ?_
  refine gp znc ?_
  refine gp zfa ?_
  refine gp zl ?_
  refine gp zmv ?_
  refine ze1 fun b13 => ?_
  refine zapo (m := bs.length) (j := 1) (fun a14 c14 => ?_)
  refine gp znc ?_
  refine gp zfa ?_
  refine zs1 ?_
  refine gnt ?_
  refine gsr ?_
  refine gp zas ?_
  refine gnt ?_
  refine gc_ret ?_
  refine gx_ret1 rfl (by conv => lhs; whnf) ?_
  exact fun w' hw => ⟨(), rfl, (St.bld (u := true) (bs := bs ++ [x]) (hw.sel (M := [blk b 73 [.pointer (some ⟨b, 0, none⟩), .slice a14 (bs.length + 1) c14], rowR 5 1 a14 (bs.length + 1) c14 _]) (by repeat (first | exact Sel.nil | (apply Sel.cons; · (repeat (first | exact Pick.here | apply Pick.there)))))) (by simp) (by simp [B8]) (fun e => by simp at e)).sel (by repeat (first | exact Sel.nil | (apply Sel.cons; · (repeat (first | exact Pick.here | apply Pick.there)))))⟩

set_option maxHeartbeats 400000 in
theorem bws_ok {w : World} {F : Nat → Prop} {b : Nat} {bs s : Bs} (h : stars [BldR b bs] w F) (hl : bs.length + s.length ≤ 140737488355328) (hs : s ≠ []) :
    Calls Tryd.prog 30 #[.pointer (some ⟨b, 0, none⟩), .string (str s)] w (Post w F (fun _ : Unit => .tuple #[.int .i64 (s.length : Int), .nilIface]) (fun _ => [BldR b (bs ++ s)])) := by
  refine g_enter (env := [(0, .pointer (some ⟨b, 0, none⟩)), (1, .string (str s))]) Tryd.func30 rfl h Tryd.ntmps30 rfl rfl ?_
  refine gsr ?_
  refine gp zas ?_
  refine gp zas ?_
  refine gnt ?_
  refine gc_seq ?_
  refine gc_bld (by repeat (first | exact Pick.here | apply Pick.there)) (fun a c u hn hc0 => ?_)
  refine gc_region ?_
  refine gp zmv ?_
  refine zc (fun _ => ?_) (c := fun w1 F1 F2 h1 h2 hd hst => copyCheck_ok (u := u) (v := .slice a bs.length c) h1 rfl)
  refine gnt ?_
  refine gsr ?_
  refine gp zmv ?_
  refine gp zmv ?_
  refine gp znc ?_
  refine gp zfa ?_
  refine gp zl ?_
  refine gp zmv ?_
  refine zaps (m := bs.length) (b := s) (fun a14 c14 => ?_)
  refine gp znc ?_
  refine gp zfa ?_
  refine zs1 ?_
  refine gnt ?_
  refine gsr ?_
  refine gp zmv ?_
  refine gp zlS ?_
  refine gp zas ?_
  refine gp zas ?_
  refine gnt ?_
  refine gc_ret ?_
  refine gx_ret2 rfl (by conv => lhs; whnf) (by conv => lhs; whnf) ?_
  exact fun w' hw => ⟨(), rfl, (St.bld (u := true) (bs := bs ++ s) (hw.sel (M := [blk b 73 [.pointer (some ⟨b, 0, none⟩), .slice a14 (bs.length + s.length) c14], rowR 5 1 a14 (bs.length + s.length) c14 _]) (by repeat (first | exact Sel.nil | (apply Sel.cons; · (repeat (first | exact Pick.here | apply Pick.there)))))) (by simp) (by simp) (fun e => absurd (List.append_eq_nil_iff.1 e).2 hs)).sel (by repeat (first | exact Sel.nil | (apply Sel.cons; · (repeat (first | exact Pick.here | apply Pick.there)))))⟩

set_option maxHeartbeats 400000 in
theorem blen_ok {w : World} {F : Nat → Prop} {b : Nat} {bs : Bs} (h : stars [BldR b bs] w F) :
    Calls Tryd.prog 29 #[.pointer (some ⟨b, 0, none⟩)] w (Post w F (fun _ : Unit => .int .i64 (bs.length : Int)) (fun _ => [BldR b bs])) := by
  refine g_enter (env := [(0, .pointer (some ⟨b, 0, none⟩))]) Tryd.func29 rfl h Tryd.ntmps29 rfl rfl ?_
  refine gsr ?_
  refine gp zas ?_
  refine gnt ?_
  refine gc_seq ?_
  refine gc_bld (by repeat (first | exact Pick.here | apply Pick.there)) (fun a c u hn hc0 => ?_)
  refine gc_region ?_
  refine gp zmv ?_
  refine gp znc ?_
  refine gp zfa ?_
  refine gp zl ?_
  refine gp zln ?_
  refine gp zas ?_
  refine gnt ?_
  refine gc_ret ?_
  refine gx_ret1 rfl (by conv => lhs; whnf) ?_
  exact fun w' hw => ⟨(), rfl, (St.bld (u := u) (bs := bs) hw rfl rfl hn).sel (by repeat (first | exact Sel.nil | (apply Sel.cons; · (repeat (first | exact Pick.here | apply Pick.there)))))⟩

set_option maxHeartbeats 400000 in
theorem bstr_ok {w : World} {F : Nat → Prop} {b : Nat} {bs : Bs} (h : stars [BldR b bs] w F) :
    Calls Tryd.prog 31 #[.pointer (some ⟨b, 0, none⟩)] w (Post w F (fun _ : Unit => .string (str bs)) (fun _ => [])) := by
  refine g_enter (env := [(0, .pointer (some ⟨b, 0, none⟩))]) Tryd.func31 rfl h Tryd.ntmps31 rfl rfl ?_
  refine gsr ?_
  refine gp zas ?_
  refine gnt ?_
  refine gc_seq ?_
  refine gc_bld (by repeat (first | exact Pick.here | apply Pick.there)) (fun a c u hn hc0 => ?_)
  have hac : a = none ∨ c ≠ 0 := by
    by_cases e : bs = []
    · exact .inl (hn e)
    · exact .inr (by have := List.length_pos_iff.2 e; omega)
  refine gc_regionT 10 (by kernel_rfl) (by kernel_rfl) ?_
  refine sp zmv ?_
  refine sp znc ?_
  refine sp zfa ?_
  refine sp zl ?_
  refine sp (r_sdata hac) ?_
  refine sp zmv ?_
  refine sp znc ?_
  refine sp zfa ?_
  refine sp zl ?_
  refine sp zln ?_
  refine gs_nil ?_
  refine gl_uStr (by repeat (first | exact Pick.here | apply Pick.there)) Ty.un_94 (by kernel_rfl) ?_
  refine gp zas ?_
  refine gnt ?_
  refine gc_ret ?_
  refine gx_ret1 rfl (by conv => lhs; whnf) ?_
  exact ze ()

end Go.Proofs.YthicckleihbomaaDoor

/- Walks, by program (wg.py) out of a spec. -/
namespace Go.Proofs.YthicckleihbomaaDoor
open Go
set_option linter.unusedVariables false
set_option linter.unusedSimpArgs false

attribute [local irreducible] Gl Gc Gx Gs Runs Wt

set_option maxHeartbeats 400000 in
theorem sdigits_ok {w : World} {F : Nat → Prop} {n : Int} (h : stars [] w F) (hT : TenG w (fun k => ¬ F k)) (h64 : R64 n) :
    Calls Tryd.prog 42 #[.int .i64 n] w (Post w F (fun _ : Unit => .tuple #[.string (str (Lib.itoa n)), .bool (okN n)]) (fun _ => [])) := by
  refine g_enter (env := [(0, .int .i64 n)]) Tryd.func42 rfl h Tryd.ntmps42 rfl rfl ?_
  refine gsr ?_
  refine gp zas ?_
  refine gp zas ?_
  refine gnt ?_
  refine gc_seq ?_
  by_cases g1 : 0 ≤ n
  · have hok : okN n = decide (n ≤ 999999) := by unfold okN; rw [decide_eq_true g1]; rfl
    refine gc_region ?_
    refine gp zmv ?_
    refine zc (fun _ => ?_) (c := fun w1 F1 F2 h1 h2 hd hst => itoa_ok (n := n) h1 h64.1 h64.2 (hT.mv hst.still).t)
    refine gp zmv ?_
    refine gp (r_bool (c := true) zge (decide_eq_true g1)) ?_
    refine gp zmv ?_
    refine gq zmv ?_
    refine gq zle ?_
    refine gp zpk ?_
    refine gp zas ?_
    refine gp zas ?_
    refine gnt ?_
    refine gc_ret ?_
    refine gx_ret2 rfl (by conv => lhs; whnf) (by conv => lhs; whnf) ?_
    rw [hok]
    exact ze ()
  · have hok : okN n = false := by unfold okN; rw [decide_eq_false g1]; rfl
    refine gc_region ?_
    refine gp zmv ?_
    refine zc (fun _ => ?_) (c := fun w1 F1 F2 h1 h2 hd hst => itoa_ok (n := n) h1 h64.1 h64.2 (hT.mv hst.still).t)
    refine gp zmv ?_
    refine gp (r_bool (c := false) zge (decide_eq_false g1)) ?_
    refine gp zmv ?_
    refine gn ?_
    refine gn ?_
    refine gp zpk ?_
    refine gp zas ?_
    refine gp zas ?_
    refine gnt ?_
    refine gc_ret ?_
    refine gx_ret2 rfl (by conv => lhs; whnf) (by conv => lhs; whnf) ?_
    rw [hok]
    exact ze ()

set_option maxHeartbeats 400000 in
set_option maxRecDepth 20000 in
theorem sunbitted_ok {w : World} {F : Nat → Prop} {a : Option Addr} {n c : Nat} {l : List Bool} (h : stars [] w F) (hr : RdRow w (fun k => ¬ F k) 1 a n (l.map Value.bool)) (hc : n ≤ c) :
    Calls Tryd.prog 45 #[.slice a n c] w (Post w F (fun _ : Unit => .string (str (bitW (l.take 64)))) (fun _ => [])) := by
  have hn : n = l.length := by have := hr.1; simp at this; omega
  subst hn
  have hmx := hr.2.1
  simp only [maxLen] at hmx
  refine g_enter (env := [(0, .slice a l.length c)]) Tryd.func45 rfl h Tryd.ntmps45 rfl rfl ?_
  refine gsr ?_
  refine gp zas ?_
  refine gnt ?_
  refine gc_seq ?_
  refine gsr ?_
  refine gp zmv ?_
  refine gp zln ?_
  refine gp zei ?_
  refine gnt ?_
  refine gif rfl (fun hc8 => ?_) (fun hc8 => ?_)
  · try simp only at hc8
    have g0 : l = [] := List.eq_nil_of_length_eq_zero (by omega)
    refine gsr ?_
    refine gp zas ?_
    refine gnt ?_
    refine gc_ret ?_
    refine gx_then_ret ?_
    refine gx_ret1 rfl (by conv => lhs; whnf) ?_
    exact fun w' hw => ⟨(), by rw [g0]; rfl, hw.sel (by repeat (first | exact Sel.nil | (apply Sel.cons; · (repeat (first | exact Pick.here | apply Pick.there)))))⟩
  · try simp only at hc8
    have g0 : ¬ l = [] := fun e => hc8 (by rw [e]; rfl)
    have hpos : 0 < l.length := List.length_pos_iff.2 g0
    obtain ⟨g1, o1, ha1, hA1, _, _⟩ := hr.2.2 hpos
    subst ha1
    obtain ⟨m, hm⟩ : ∃ m, m = min l.length 64 := ⟨_, rfl⟩
    refine gc_skip ?_
    refine gx_then ?_
    refine gsr ?_
    refine gp zas ?_
    refine gnt ?_
    refine gc_seq ?_
    refine gsr ?_
    refine gp zmv ?_
    refine gp zmv ?_
    refine gp zln ?_
    refine gp (r_int (j := (m : Int)) r_min (by rw [hm]; split <;> omega)) ?_
    refine gp (r_val (v' := .slice (some ⟨g1, o1, none⟩) m c) (r_slice_slice (a := some ⟨g1, o1, none⟩) (m := l.length) (c := c) (l := 0) (h := m) rfl Ty.sl_35 Ty.sz_4 rfl ⟨_, rfl⟩ (by omega) (by omega)) (by rw [if_neg (by omega)]; simp [Addr.add])) ?_
    refine gp zln ?_
    refine gp zmv ?_
    refine gnt ?_
    refine gc_block ?_
    refine gc_loop (α := Nat) (fun k => [pureR (k ≤ m)]) (fun k => [(15, .int .i64 (k : Int)), (3, .string (str (bitT (l.take k))))]) [5, 16, 17, 18, 19, 20, 21, 22, 23, 24] (fun k => m - k) 0 ?_ ?_ ?_
    · refine env_start (by kernel_rfl)
    · exact zlp (Nat.zero_le _)
    · intro k u
      refine gc_pureR (fun hk => ?_)
      replace hk : k ≤ m := hk
      refine gsr ?_
      refine gp zlt ?_
      refine gnt ?_
      refine gc_seq ?_
      refine gif rfl (fun hc16 => ?_) (fun hc16 => ?_)
      · try simp only at hc16
        have hk' : k < m := by omega
        have hkl : k < l.length := by omega
        have hget : l[k]? = some (l[k]'hkl) := List.getElem?_eq_getElem hkl
        have hst := bitT_take hget
        have hlb : (bitT (l.take k)).length = k := by simp [bitT]; omega
        refine gc_skip ?_
        refine gx_then ?_
        refine gc_seq ?_
        refine gc_block ?_
        refine gsr ?_
        refine gp (r_val (v' := .pointer (some ⟨g1, o1 + k * 1, none⟩)) zia (by simp)) ?_
        refine gp (r_val (v' := .bool (l[k]'hkl)) (r_ld1o rfl Ty.row_4 (hr.cellV hkl false).1 hA1) (by rw [List.getD_eq_getElem?_getD, hget]; rfl)) ?_
        refine gp zas ?_
        refine gnt ?_
        refine gsr ?_
        refine gp zmv ?_
        refine gnt ?_
        refine gif rfl (fun hc19 => ?_) (fun hc19 => ?_)
        · refine gc_region ?_
          refine gp zmv ?_
          refine gp (r_val (v' := .string (str (bitT (l.take (k + 1))))) (zcat (hl := by simp; omega)) (by rw [hst, hc19]; rfl)) ?_
          refine gp zas ?_
          refine gl_nil ?_
          refine gx_block_normal ?_
          refine gx_then ?_
          refine gc_region ?_
          refine gp zad ?_
          refine gp zmv ?_
          refine gl_nil ?_
          refine zrd (k + 1) ?_ ?_
          · show m - (k + 1) < m - k
            omega
          · exact zlp (show k + 1 ≤ m by omega)
        · refine gc_region ?_
          refine gp zmv ?_
          refine gp (r_val (v' := .string (str (bitT (l.take (k + 1))))) (zcat (hl := by simp; omega)) (by rw [hst, hc19]; rfl)) ?_
          refine gp zas ?_
          refine gl_nil ?_
          refine gx_block_normal ?_
          refine gx_then ?_
          refine gc_region ?_
          refine gp zad ?_
          refine gp zmv ?_
          refine gl_nil ?_
          refine zrd (k + 1) ?_ ?_
          · show m - (k + 1) < m - k
            omega
          · exact zlp (show k + 1 ≤ m by omega)
      · try simp only at hc16
        have hk' : k = m := by omega
        refine gc_exit ?_
        refine gx_then_exit ?_
        refine gx_round_exit ?_
        refine gx_block_hit ?_
        refine gx_then ?_
        refine gsr ?_
        refine gp zmv ?_
        refine gp zas ?_
        refine gnt ?_
        refine gc_ret ?_
        refine gx_ret1 rfl (by conv => lhs; whnf) ?_
        have hne : l.take 64 ≠ [] := by intro e; have := congrArg List.length e; rw [List.length_take, List.length_nil] at this; omega
        have e : bitW (l.take 64) = bitT (l.take k) := by rw [hk', hm, take_min, bitW_ne hne]
        exact fun w' hw => ⟨(), by rw [e], hw.sel (by repeat (first | exact Sel.nil | (apply Sel.cons; · (repeat (first | exact Pick.here | apply Pick.there)))))⟩

set_option maxHeartbeats 400000 in
set_option maxRecDepth 20000 in
theorem sunhexed_ok {w : World} {F : Nat → Prop} {a : Option Addr} {n c : Nat} {d : Bs} (h : stars [] w F) (hr : RdRow w (fun k => ¬ F k) 1 a n (d.map B8)) (hc : n ≤ c) (hd : d.length ≤ 65535) :
    Calls Tryd.prog 43 #[.slice a n c] w (Post w F (fun _ : Unit => .string (str (hexW d))) (fun _ => [])) := by
  have hn : n = d.length := by have := hr.1; simp at this; omega
  subst hn
  refine g_enter (env := [(0, .slice a d.length c)]) Tryd.func43 rfl h Tryd.ntmps43 rfl rfl ?_
  refine gsr ?_
  refine gp zas ?_
  refine gnt ?_
  refine gc_seq ?_
  refine gsr ?_
  refine gp zmv ?_
  refine gp zln ?_
  refine gp zei ?_
  refine gnt ?_
  refine gif rfl (fun hc8 => ?_) (fun hc8 => ?_)
  · try simp only at hc8
    have g0 : d = [] := List.eq_nil_of_length_eq_zero (by omega)
    refine gsr ?_
    refine gp zas ?_
    refine gnt ?_
    refine gc_ret ?_
    refine gx_then_ret ?_
    refine gx_ret1 rfl (by conv => lhs; whnf) ?_
    exact fun w' hw => ⟨(), by rw [g0]; rfl, hw.sel (by repeat (first | exact Sel.nil | (apply Sel.cons; · (repeat (first | exact Pick.here | apply Pick.there)))))⟩
  · try simp only at hc8
    have g0 : ¬ d = [] := fun e => hc8 (by rw [e]; rfl)
    have hpos : 0 < d.length := List.length_pos_iff.2 g0
    obtain ⟨g1, o1, ha1, hA1, _, _⟩ := hr.2.2 hpos
    subst ha1
    refine gc_skip ?_
    refine gx_then ?_
    refine gsr ?_
    refine zal fun b3 => ?_
    refine gnt ?_
    refine gc_seq ?_
    refine gsr ?_
    refine gp zmv ?_
    refine gp zmv ?_
    refine gp zln ?_
    refine gp (r_int (j := (d.length : Int)) r_min (by split <;> omega)) ?_
    refine gp (r_val (v' := .slice (some ⟨g1, o1, none⟩) d.length c) (r_slice_slice (a := some ⟨g1, o1, none⟩) (m := d.length) (c := c) (l := 0) (h := d.length) rfl Ty.sl_36 Ty.sz_5 rfl ⟨_, rfl⟩ (by omega) (by omega)) (by rw [if_neg (by omega)]; simp [Addr.add])) ?_
    refine gp zln ?_
    refine gp zmv ?_
    refine gnt ?_
    refine gc_block ?_
    refine gc_loop (α := Nat) (fun k => [pureR (k ≤ d.length), BldR b3 (hexT (d.take k))]) (fun k => [(15, .int .i64 (k : Int))]) [5, 16, 17, 18, 19, 20, 21, 22, 23, 24, 25, 26, 27] (fun k => d.length - k) 0 ?_ ?_ ?_
    · refine env_start (by kernel_rfl)
    · exact fun w' hw => St.pureI (Nat.zero_le _) (St.bld (u := false) (bs := hexT (d.take 0)) ((hw.rowNil (e := 5) (size := 1)).sel (M := [blk b3 73 [.pointer none, .slice none 0 0], rowR 5 1 none 0 0 []]) (by repeat (first | exact Sel.nil | (apply Sel.cons; · (repeat (first | exact Pick.here | apply Pick.there)))))) rfl rfl (fun _ => rfl))
    · intro k u
      refine gc_pureR (fun hk => ?_)
      replace hk : k ≤ d.length := hk
      refine gsr ?_
      refine gp zlt ?_
      refine gnt ?_
      refine gc_seq ?_
      refine gif rfl (fun hc16 => ?_) (fun hc16 => ?_)
      · try simp only at hc16
        have hk' : k < d.length := by omega
        obtain ⟨x, _, _, hget, _, _, _⟩ := drop_at hk'
        have hst := hexT_take hget
        have hlb : (hexT (d.take k)).length = 2 * k := by rw [hexT_len, List.length_take]; omega
        have hxl := x.toNat_lt
        refine gc_skip ?_
        refine gx_then ?_
        refine gc_seq ?_
        refine gc_block ?_
        refine gsr ?_
        refine gp (r_val (v' := .pointer (some ⟨g1, o1 + k * 1, none⟩)) zia (by simp)) ?_
        refine gp (r_val (v' := B8 x) (r_ld1o rfl Ty.row_5 (hr.cellV hk' 0).1 hA1) (by rw [List.getD_eq_getElem?_getD, hget]; rfl)) ?_
        refine gp zas ?_
        refine gnt ?_
        refine gsr ?_
        refine gp zmv ?_
        refine gp (r_int (j := ((x.toNat / 16 : Nat) : Int)) zhr (shr4 x)) ?_
        refine gp (r_ixs (b := hexesB) (j := x.toNat / 16) (c := hx (x.toNat / 16)) (hexes_at (by omega))) ?_
        refine zc (fun _ => ?_) (c := fun w1 F1 F2 h1 h2 hd hst => bwb_ok (bs := hexT (d.take k)) (x := hx (x.toNat / 16)) h1 (by omega))
        refine gnt ?_
        refine gc_region ?_
        refine gp zmv ?_
        refine gp (r_int (j := ((x.toNat % 16 : Nat) : Int)) zbt (and15 x)) ?_
        refine gp (r_ixs (b := hexesB) (j := x.toNat % 16) (c := hx (x.toNat % 16)) (hexes_at (by omega))) ?_
        refine zc (fun _ => ?_) (c := fun w1 F1 F2 h1 h2 hd hst => bwb_ok (bs := hexT (d.take k) ++ [hx (x.toNat / 16)]) (x := hx (x.toNat % 16)) h1 (by simp; omega))
        refine gl_nil ?_
        refine gx_block_normal ?_
        refine gx_then ?_
        refine gc_region ?_
        refine gp zad ?_
        refine gp zmv ?_
        refine gl_nil ?_
        refine zrd (k + 1) ?_ ?_
        · show d.length - (k + 1) < d.length - k
          omega
        · simp only [hst]
          exact zlp (show k + 1 ≤ d.length by omega)
      · try simp only at hc16
        have hk' : k = d.length := by omega
        subst hk'
        rw [List.take_of_length_le (Nat.le_refl _)]
        refine gc_exit ?_
        refine gx_then_exit ?_
        refine gx_round_exit ?_
        refine gx_block_hit ?_
        refine gx_then ?_
        refine gsr ?_
        refine zc (fun _ => ?_) (c := fun w1 F1 F2 h1 h2 hd hst => bstr_ok (bs := hexT d) h1)
        refine gp zas ?_
        refine gnt ?_
        refine gc_ret ?_
        refine gx_ret1 rfl (by conv => lhs; whnf) ?_
        exact fun w' hw => ⟨(), by rw [hexW_ne g0], hw.sel (by repeat (first | exact Sel.nil | (apply Sel.cons; · (repeat (first | exact Pick.here | apply Pick.there)))))⟩

end Go.Proofs.YthicckleihbomaaDoor

