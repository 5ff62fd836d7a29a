/- Plain words: a disk of layer 6: what was synced, what was written and isn't. -/
import Derived.Test.YtffkjjakceojfaaDoorEngN
import Derived.Test.YtffkjjakceojfaaDoorRd
namespace Go.Proofs.YtffkjjakceojfaaDoor
open Go
set_option linter.unusedVariables false
set_option linter.unusedSimpArgs false

structure Sec where
  l : List UInt8
  h : l.length = 64
theorem Sec.ext' {a b : Sec} (h : a.l = b.l) : a = b := by cases a; cases b; cases h; rfl
def sec0 : Sec := ⟨List.replicate 64 0, by simp⟩
def secOf (b : UInt8) : Sec := ⟨b :: List.replicate 63 0, by simp⟩
def sc (s : Sec) : List Value := s.l.map B8
theorem sc_length (s : Sec) : (sc s).length = 64 := by rw [sc, List.length_map, s.h]
theorem sc_one (s : Sec) : ∀ v ∈ sc s, v.oneCell' = true := one_B8 _
instance {s : Sec} : Len (sc s) 64 := ⟨sc_length s⟩
instance {s : Sec} : One (sc s) := One.of (sc_one s)
def scV (s : Sec) : Value := .agg (sc s).toArray
/-- Sectors in a row. -/
def secs (n : Nat) (f : Nat → Sec) : List Value := ((List.range n).map fun i => sc (f i)).flatten
def updS (f : Nat → Sec) (i : Nat) (v : Sec) : Nat → Sec := fun j => if j = i then v else f j
theorem secs_all {n : Nat} {f : Nat → Sec} : ∀ c ∈ (List.range n).map fun i => sc (f i), c.length = 64 := fun c hc => by
  obtain ⟨i, _, rfl⟩ := List.mem_map.1 hc; exact sc_length _
theorem secs_len (n : Nat) (f : Nat → Sec) : (secs n f).length = n * 64 := by rw [secs, flatten_len secs_all]; simp
theorem secs_get {n i o : Nat} {f : Nat → Sec} (h : i < n) (ho : o = i * 64) : ((secs n f).drop o).take 64 = sc (f i) := by
  subst ho; exact flatten_at secs_all (by simp [h])
theorem secs_ext {n : Nat} {f g : Nat → Sec} (h : ∀ i, i < n → f i = g i) : secs n f = secs n g := by
  unfold secs; congr 1
  exact List.map_congr_left fun i hi => by rw [h i (List.mem_range.1 hi)]
theorem secs_one (n : Nat) (f : Nat → Sec) : ∀ v ∈ secs n f, v.oneCell' = true := fun v hv => by
  obtain ⟨c, hc, h⟩ := List.mem_flatten.1 hv
  obtain ⟨i, _, rfl⟩ := List.mem_map.1 hc
  exact sc_one _ v h
theorem flatten_set {size : Nat} : ∀ {css : List (List Value)} {i : Nat} {c : List Value}, (∀ c ∈ css, c.length = size) → c.length = size → i < css.length → updL css.flatten (i * size) c = (css.set i c).flatten
  | [], i, c, _, _, h => by simp at h
  | d :: l, 0, c, h, hc, _ => by
    have hd := h d (by simp)
    simp only [updL, Nat.zero_mul, List.take_zero, List.nil_append, Nat.zero_add, List.flatten_cons, List.set_cons_zero, hc]
    rw [List.drop_append, List.drop_eq_nil_of_le (by omega), hd, Nat.sub_self, List.drop_zero, List.nil_append]
  | d :: l, i + 1, c, h, hc, hi => by
    have hd := h d (by simp)
    have ih := flatten_set (css := l) (i := i) (fun c' hc' => h c' (by simp [hc'])) hc (by simpa using hi)
    have e : (i + 1) * size = size + i * size := by rw [Nat.add_mul, Nat.one_mul, Nat.add_comm]
    simp only [updL, List.flatten_cons, List.set_cons_succ, hc] at ih ⊢
    rw [← ih, e, List.take_append, List.take_of_length_le (by omega), hd, show size + i * size - size = i * size by omega, List.drop_append, List.drop_eq_nil_of_le (by omega), hd, show size + i * size + size - size = i * size + size by omega]
    simp
theorem secs_set {n i o : Nat} {f : Nat → Sec} {v : Sec} (h : i < n) (ho : o = i * 64) : updL (secs n f) o (sc v) = secs n (updS f i v) := by
  subst ho
  rw [secs, flatten_set secs_all (sc_length v) (by simpa using h), secs]
  congr 1
  apply List.ext_getElem?
  intro j
  rw [List.getElem?_set, List.getElem?_map, List.getElem?_map]
  by_cases hj : j < n
  · by_cases hij : i = j
    · subst hij; simp [hj, updS]
    · simp [hj, hij, updS, Ne.symm hij]
  · rw [List.getElem?_eq_none (l := List.range n) (by simp; omega)]
    by_cases hij : i = j
    · omega
    · simp [hij]
/-! ### What was written -/
def lookW (i : Int) : List (Int × Sec) → Option Sec
  | [] => none
  | p :: l => if i = p.1 then some p.2 else lookW i l
def putW (i : Int) (v : Sec) : List (Int × Sec) → List (Int × Sec)
  | [] => [(i, v)]
  | p :: l => if i = p.1 then (i, v) :: l else p :: putW i v l
def encW (ws : List (Int × Sec)) : List (Int × Value) := ws.map fun p => (p.1, scV p.2)
theorem encW_at (i : Int) : ∀ (ws : List (Int × Sec)) (k : Nat), (atK i (encW ws) k).map (·.2) = (lookW i ws).map scV
  | [], _ => rfl
  | p :: l, k => by
    simp only [encW, List.map_cons, atK, lookW]
    by_cases h : i = p.1
    · simp [h]
    · rw [if_neg h, if_neg h]; exact encW_at i l (k + 1)
theorem encW_get (i : Int) (ws : List (Int × Sec)) : getK i (encW ws) = (lookW i ws).map scV := encW_at i ws 0
theorem encW_put (i : Int) (v : Sec) : ∀ (ws : List (Int × Sec)), putK i (scV v) (encW ws) = encW (putW i v ws)
  | [] => rfl
  | p :: l => by
    simp only [encW, List.map_cons, putK, putW]
    by_cases h : i = p.1
    · simp [h]
    · rw [if_neg h, if_neg h, List.map_cons]
      have := encW_put i v l
      simp only [encW] at this
      rw [this]
theorem lookW_put (i k : Int) (v : Sec) : ∀ (ws : List (Int × Sec)), lookW i (putW k v ws) = if i = k then some v else lookW i ws
  | [] => by by_cases h : i = k <;> simp [putW, lookW, h]
  | p :: l => by
    by_cases h : k = p.1
    · simp only [putW, if_pos h, lookW]
      by_cases h' : i = k
      · simp [h']
      · rw [if_neg h', if_neg h', if_neg (by rw [← h]; exact h')]
    · simp only [putW, if_neg h, lookW]
      by_cases h' : i = p.1
      · rw [if_pos h', if_pos h', if_neg (by rw [h']; exact fun e => h e.symm)]
      · rw [if_neg h', if_neg h', lookW_put i k v l]
def keysW (ws : List (Int × Sec)) : List Int := ws.map (·.1)
theorem keys_put (k : Int) (v : Sec) : ∀ (ws : List (Int × Sec)), keysW (putW k v ws) = if k ∈ keysW ws then keysW ws else keysW ws ++ [k]
  | [] => by simp [putW, keysW]
  | p :: l => by
    by_cases h : k = p.1
    · simp [putW, h, keysW]
    · have ih := keys_put k v l
      have e1 : keysW (putW k v (p :: l)) = p.1 :: keysW (putW k v l) := by simp [putW, if_neg h, keysW]
      have e2 : keysW (p :: l) = p.1 :: keysW l := rfl
      rw [e1, e2, ih]
      by_cases hk : k ∈ keysW l
      · rw [if_pos hk, if_pos (List.mem_cons_of_mem _ hk)]
      · rw [if_neg hk, if_neg (by simp [h, hk])]; rfl
theorem nodup_put {k : Int} {v : Sec} {ws : List (Int × Sec)} (h : (keysW ws).Nodup) : (keysW (putW k v ws)).Nodup := by
  rw [keys_put]; split
  · exact h
  · rename_i hk
    refine List.nodup_append.2 ⟨h, by simp, fun a ha b hb e => ?_⟩
    simp only [List.mem_singleton] at hb
    exact hk (by rw [← hb, ← e]; exact ha)
theorem lookW_some {i : Int} : ∀ {ws : List (Int × Sec)}, i ∈ keysW ws → ∃ v, lookW i ws = some v ∧ (i, v) ∈ ws
  | p :: l, h => by
    by_cases hi : i = p.1
    · exact ⟨p.2, by simp [lookW, hi], by rw [hi]; simp⟩
    · simp only [keysW, List.map_cons, List.mem_cons, hi, false_or] at h
      obtain ⟨v, h1, h2⟩ := lookW_some (ws := l) h
      exact ⟨v, by simp [lookW, hi, h1], by simp [h2]⟩
  | [], h => by simp [keysW] at h
theorem lookW_none {i : Int} : ∀ {ws : List (Int × Sec)}, i ∉ keysW ws → lookW i ws = none
  | [], _ => rfl
  | p :: l, h => by
    simp only [keysW, List.map_cons, List.mem_cons, not_or] at h
    simp only [lookW, if_neg h.1]; exact lookW_none h.2
theorem lookW_mem {i : Int} {v : Sec} : ∀ {ws : List (Int × Sec)}, (keysW ws).Nodup → (i, v) ∈ ws → lookW i ws = some v
  | p :: l, hn, h => by
    have hn' := List.nodup_cons.1 hn
    rcases List.mem_cons.1 h with rfl | h
    · simp [lookW]
    · have : i ≠ p.1 := fun e => hn'.1 (by show p.1 ∈ l.map (·.1); rw [← e]; exact List.mem_map.2 ⟨_, h, rfl⟩)
      simp only [lookW, if_neg this]; exact lookW_mem hn'.2 h
/-- A disk. -/
structure DS where
  n : Nat
  ss : Nat → Sec
  ws : List (Int × Sec)
  off : Bool
  armed : Bool
  left : Int
def DS.at (d : DS) (i : Nat) : Sec := (lookW (i : Int) d.ws).getD (d.ss i)
def oper (d : DS) : DS := if d.armed = true ∧ d.off = false then { d with off := decide (d.left = 0), left := d.left - 1 } else d
structure DOk (d : DS) : Prop where
  n : d.n ≤ 4096
  nd : (keysW d.ws).Nodup
  ks : ∀ k ∈ keysW d.ws, 0 ≤ k ∧ k < d.n
  lf : d.armed = true → d.off = false → 0 ≤ d.left
  rg : -9223372036854775808 ≤ d.left ∧ d.left ≤ 9223372036854775807
theorem oper_ok {d : DS} (h : DOk d) : DOk (oper d) := by
  unfold oper; split
  · rename_i hc
    have hl := h.lf hc.1 hc.2
    refine ⟨h.n, h.nd, h.ks, fun _ h2 => ?_, ?_⟩
    · simp only [decide_eq_false_iff_not] at h2
      show 0 ≤ d.left - 1
      omega
    · have := h.rg
      show -9223372036854775808 ≤ d.left - 1 ∧ d.left - 1 ≤ 9223372036854775807
      omega
  · exact h
def DS.write (d : DS) (i : Int) (v : Sec) : DS := { d with ws := putW i v d.ws }
theorem write_ok {d : DS} {i : Int} {v : Sec} (h : DOk d) (h0 : 0 ≤ i) (h1 : i < d.n) : DOk (d.write i v) :=
  ⟨h.n, nodup_put h.nd, fun k hk => by
    simp only [DS.write, keys_put] at hk
    split at hk
    · exact h.ks k hk
    · rcases List.mem_append.1 hk with hk | hk
      · exact h.ks k hk
      · simp only [List.mem_singleton] at hk; subst hk; exact ⟨h0, h1⟩, h.lf, h.rg⟩
def DS.sync (d : DS) : DS := { d with ss := d.at, ws := [] }
theorem sync_ok {d : DS} (h : DOk d) : DOk d.sync := ⟨h.n, by simp [DS.sync, keysW], by simp [DS.sync, keysW], h.lf, h.rg⟩
/-- Keys in order; what a crash keeps. -/
def sortZ (l : List Int) : List Int := l.mergeSort (fun x y => decide (x ≤ y))
def keepF (ks : List Int) (keep : List Bool) (ws : List (Int × Sec)) (ss : Nat → Sec) : Nat → Nat → Sec
  | 0 => ss
  | j + 1 => if keep.getD j false = true then updS (keepF ks keep ws ss j) (ks.getD j 0).toNat ((lookW (ks.getD j 0) ws).getD sec0) else keepF ks keep ws ss j
def DS.crash (d : DS) (keep : List Bool) : DS := { d with ss := keepF (sortZ (keysW d.ws)) keep d.ws d.ss (sortZ (keysW d.ws)).length, ws := [], off := false, armed := false }
theorem crash_ok {d : DS} {keep : List Bool} (h : DOk d) : DOk (d.crash keep) := ⟨h.n, by simp [DS.crash, keysW], by simp [DS.crash, keysW], (fun e => by cases e), h.rg⟩
def DS.has (d : DS) (i : Int) : Bool := decide (0 ≤ i) && decide (i < d.n)
theorem has_iff {d : DS} {i : Int} : d.has i = true ↔ 0 ≤ i ∧ i < d.n := by simp [DS.has]
theorem oper_n (d : DS) : (oper d).n = d.n := by unfold oper; split <;> rfl
theorem oper_ss (d : DS) : (oper d).ss = d.ss := by unfold oper; split <;> rfl
theorem oper_ws (d : DS) : (oper d).ws = d.ws := by unfold oper; split <;> rfl
theorem oper_yes {d : DS} (h1 : d.armed = true) (h2 : d.off = false) : (oper d).off = decide (d.left = 0) ∧ (oper d).armed = d.armed ∧ (oper d).left = d.left - 1 := by
  unfold oper; rw [if_pos ⟨h1, h2⟩]; exact ⟨rfl, rfl, rfl⟩
theorem oper_no {d : DS} (h : d.armed = false ∨ d.off = true) : oper d = d := by
  unfold oper; rw [if_neg]; rintro ⟨h1, h2⟩; rcases h with h | h <;> simp_all
def DS.wr (d : DS) (i : Int) (v : Sec) : Nat × DS := if d.has i then (if (oper d).off then 6 else 0, if (oper d).off then oper d else (oper d).write i v) else (1, d)
theorem wr_out {d : DS} {i : Int} {v : Sec} (h : d.has i = false) : d.wr i v = (1, d) := by simp [DS.wr, h]
theorem wr_off {d : DS} {i : Int} {v : Sec} (h : d.has i = true) (ho : (oper d).off = true) : d.wr i v = (6, oper d) := by simp [DS.wr, h, ho]
theorem wr_on {d : DS} {i : Int} {v : Sec} (h : d.has i = true) (ho : (oper d).off = false) : d.wr i v = (0, (oper d).write i v) := by simp [DS.wr, h, ho]
theorem wr_ok {d : DS} {i : Int} {v : Sec} (h : DOk d) : DOk (d.wr i v).2 := by
  unfold DS.wr; split
  · rename_i hi
    have := has_iff.1 hi
    simp only; split
    · exact oper_ok h
    · exact write_ok (oper_ok h) this.1 (by rw [oper_n]; exact this.2)
  · exact h
def DS.rd (d : DS) (i : Int) : Nat × Sec := if d.has i then (if d.off then (6, sec0) else (0, d.at i.toNat)) else (1, sec0)
theorem rd_out {d : DS} {i : Int} (h : d.has i = false) : d.rd i = (1, sec0) := by simp [DS.rd, h]
theorem rd_off {d : DS} {i : Int} (h : d.has i = true) (ho : d.off = true) : d.rd i = (6, sec0) := by simp [DS.rd, h, ho]
theorem rd_some {d : DS} {i : Int} (h : d.has i = true) (ho : d.off = false) (hs : (lookW i d.ws).isSome = true) : d.rd i = (0, (lookW i d.ws).getD sec0) := by
  have h0 := (has_iff.1 h).1
  simp only [DS.rd, h, ho, if_true, Bool.false_eq_true, if_false, DS.at, Int.toNat_of_nonneg h0]
  cases he : lookW i d.ws with
  | none => rw [he] at hs; cases hs
  | some v => rfl
theorem rd_none {d : DS} {i : Int} (h : d.has i = true) (ho : d.off = false) (hs : (lookW i d.ws).isSome = false) : d.rd i = (0, d.ss i.toNat) := by
  have h0 := (has_iff.1 h).1
  simp only [DS.rd, h, ho, if_true, Bool.false_eq_true, if_false, DS.at, Int.toNat_of_nonneg h0]
  cases he : lookW i d.ws with
  | some v => rw [he] at hs; cases hs
  | none => rfl
theorem encW_keys {ws : List (Int × Sec)} : (encW ws).map (·.1) = keysW ws := by simp [encW, keysW, Function.comp_def]
theorem encW_range {d : DS} (h : DOk d) : ∀ p ∈ encW d.ws, 0 ≤ p.1 ∧ p.1 ≤ 4096 := fun p hp => by
  have : p.1 ∈ keysW d.ws := by rw [← encW_keys]; exact List.mem_map.2 ⟨p, hp, rfl⟩
  have h2 := h.ks _ this; have := h.n; omega
theorem nodup_len : ∀ {n : Nat} {l : List Int}, l.Nodup → (∀ k ∈ l, 0 ≤ k ∧ k < n) → l.length ≤ n
  | 0, l, _, h => by
    cases l with
    | nil => simp
    | cons k l => have := h k (by simp); omega
  | n + 1, l, hn, h => by
    have h1 := nodup_len (n := n) (l := l.erase (n : Int)) (hn.erase _) fun k hk => by
      have h2 := hn.mem_erase_iff.1 hk
      have h3 := h k h2.2
      have := h2.1; omega
    have h4 := List.length_erase (a := (n : Int)) (l := l)
    split at h4 <;> omega
theorem ws_len {d : DS} (h : DOk d) : d.ws.length ≤ d.n := by
  have := nodup_len h.nd h.ks
  rwa [keysW, List.length_map] at this
theorem encW_len {d : DS} (h : DOk d) : (encW d.ws).length ≤ 4096 := by
  have := ws_len h; have := h.n; rw [encW, List.length_map]; omega
theorem sortZ_perm (l : List Int) : (sortZ l).Perm l := List.mergeSort_perm _ _
theorem sortZ_len (d : DS) : (sortZ (keysW d.ws)).length = d.ws.length := by rw [(sortZ_perm _).length_eq, keysW, List.length_map]
theorem sortZ_key {d : DS} (h : DOk d) {j : Nat} (hj : j < (sortZ (keysW d.ws)).length) : 0 ≤ (sortZ (keysW d.ws)).getD j 0 ∧ (sortZ (keysW d.ws)).getD j 0 < d.n := by
  have e : (sortZ (keysW d.ws)).getD j 0 = (sortZ (keysW d.ws))[j] := by simp [List.getD, hj]
  rw [e]
  exact h.ks _ ((sortZ_perm _).mem_iff.1 (List.getElem_mem hj))
def DS.syncd (d : DS) : DS := if (oper d).off then oper d else (oper d).sync
theorem syncd_ok {d : DS} (h : DOk d) : DOk d.syncd := by
  unfold DS.syncd; split
  · exact oper_ok h
  · exact sync_ok (oper_ok h)
def SyncInv (d : DS) (lw : List (Int × Sec)) (f : Nat → Sec) : Prop := lw.Sublist d.ws ∧ ∀ i : Nat, f i = if (i : Int) ∈ keysW lw then d.ss i else d.at i
theorem SyncInv.start (d : DS) : SyncInv d d.ws d.ss := ⟨List.Sublist.refl _, fun i => by
  split
  · rfl
  · rename_i h; simp [DS.at, lookW_none h]⟩
theorem SyncInv.done {d : DS} {f : Nat → Sec} (h : SyncInv d [] f) (i : Nat) : f i = d.at i := by
  have := h.2 i; simpa [keysW] using this
theorem SyncInv.key {d : DS} {A B : List (Int × Sec)} {k : Int} {v : Sec} {f : Nat → Sec} (h : SyncInv d (A ++ (k, v) :: B) f) (hk : DOk d) : 0 ≤ k ∧ k < d.n :=
  hk.ks k (List.mem_map.2 ⟨(k, v), h.1.subset (by simp), rfl⟩)
theorem SyncInv.step {d : DS} {A B : List (Int × Sec)} {k : Int} {v : Sec} {f : Nat → Sec} (h : SyncInv d (A ++ (k, v) :: B) f) (hk : DOk d) : SyncInv d (A ++ B) (updS f k.toNat v) := by
  have hsub : (A ++ B).Sublist (A ++ (k, v) :: B) := List.Sublist.append (List.Sublist.refl _) (List.sublist_cons_self _ _)
  have hnd : (keysW (A ++ (k, v) :: B)).Nodup := hk.nd.sublist (h.1.map _)
  have h0 := (h.key hk).1
  have hnot : k ∉ keysW (A ++ B) := by
    simp only [keysW, List.map_append, List.map_cons] at hnd ⊢
    have h1 := List.nodup_append.1 hnd
    intro hm
    rcases List.mem_append.1 hm with hm | hm
    · exact h1.2.2 k hm k (by simp) rfl
    · exact (List.nodup_cons.1 h1.2.1).1 hm
  refine ⟨hsub.trans h.1, fun i => ?_⟩
  simp only [updS]
  by_cases hi : i = k.toNat
  · subst hi
    have e : (k.toNat : Int) = k := Int.toNat_of_nonneg h0
    rw [if_pos rfl, e, if_neg hnot, DS.at, e, lookW_mem (v := v) hk.nd (h.1.subset (by simp))]
    rfl
  · rw [if_neg hi, h.2 i]
    have : (i : Int) ∈ keysW (A ++ (k, v) :: B) ↔ (i : Int) ∈ keysW (A ++ B) := by
      have hne : (i : Int) ≠ k := by omega
      simp [keysW, hne]
    simp only [this]
theorem encKW_nil {lw : List (Int × Sec)} (h : encK (Value.int .i64) (encW lw) = []) : lw = [] := by simpa [encK, encW] using h
theorem encKW_split {lw : List (Int × Sec)} {A' B' : List (Value × Value)} {p : Value × Value} (h : encK (Value.int .i64) (encW lw) = A' ++ p :: B') :
    ∃ A k v B, lw = A ++ (k, v) :: B ∧ A' = encK (Value.int .i64) (encW A) ∧ p = (.int .i64 k, scV v) ∧ B' = encK (Value.int .i64) (encW B) := by
  simp only [encK, encW, List.map_map] at h
  obtain ⟨l1, l2, h1, h2, h3⟩ := List.map_eq_append_iff.1 h
  obtain ⟨q, l3, h4, h5, h6⟩ := List.map_eq_cons_iff.1 h3
  subst h1; subst h4
  exact ⟨l1, q.1, q.2, l3, rfl, by rw [← h2]; simp [encK, encW], by rw [← h5]; rfl, by rw [← h6]; simp [encK, encW]⟩
theorem keepF_yes {ks : List Int} {kb : List Bool} {ws : List (Int × Sec)} {ss : Nat → Sec} {j : Nat} (h : kb.getD j false = true) : keepF ks kb ws ss (j + 1) = updS (keepF ks kb ws ss j) (ks.getD j 0).toNat ((lookW (ks.getD j 0) ws).getD sec0) := by rw [keepF, if_pos h]
theorem keepF_no {ks : List Int} {kb : List Bool} {ws : List (Int × Sec)} {ss : Nat → Sec} {j : Nat} (h : kb.getD j false = false) : keepF ks kb ws ss (j + 1) = keepF ks kb ws ss j := by rw [keepF, if_neg (by rw [h]; decide)]
end Go.Proofs.YtffkjjakceojfaaDoor
