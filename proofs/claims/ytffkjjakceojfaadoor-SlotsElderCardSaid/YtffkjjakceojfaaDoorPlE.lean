/- Plain words on disks, part 2: what the walks ask. -/
import Derived.Test.YtffkjjakceojfaaDoorPlD
namespace Go.Proofs.YtffkjjakceojfaaDoor
open Go
set_option linter.unusedVariables false
set_option linter.unusedSimpArgs false
def DS.has (d : DS) (i : Int) : Bool := decide (0 ≤ i) && decide (i < d.n)
theorem has_iff {d : DS} {i : Int} : d.has i = true ↔ 0 ≤ i ∧ i < d.n := by simp [DS.has]
theorem oper_n (d : DS) : (oper d).n = d.n := by unfold oper; split <;> rfl
theorem oper_ss (d : DS) : (oper d).ss = d.ss := by unfold oper; split <;> rfl
theorem oper_ws (d : DS) : (oper d).ws = d.ws := by unfold oper; split <;> rfl
theorem oper_yes {d : DS} (h1 : d.armed = true) (h2 : d.off = false) : (oper d).off = decide (d.left = 0) ∧ (oper d).armed = d.armed ∧ (oper d).left = d.left - 1 := by
  unfold oper; rw [if_pos ⟨h1, h2⟩]; exact ⟨rfl, rfl, rfl⟩
theorem oper_no {d : DS} (h : d.armed = false ∨ d.off = true) : oper d = d := by
  unfold oper; rw [if_neg]; rintro ⟨h1, h2⟩; rcases h with h | h <;> simp_all
def DS.wr (d : DS) (i : Int) (v : Sec) : Nat × DS := if d.has i then (if (oper d).off then 6 else 0, if (oper d).off then oper d else (oper d).write i v) else (1, d)
theorem wr_out {d : DS} {i : Int} {v : Sec} (h : d.has i = false) : d.wr i v = (1, d) := by simp [DS.wr, h]
theorem wr_off {d : DS} {i : Int} {v : Sec} (h : d.has i = true) (ho : (oper d).off = true) : d.wr i v = (6, oper d) := by simp [DS.wr, h, ho]
theorem wr_on {d : DS} {i : Int} {v : Sec} (h : d.has i = true) (ho : (oper d).off = false) : d.wr i v = (0, (oper d).write i v) := by simp [DS.wr, h, ho]
theorem wr_ok {d : DS} {i : Int} {v : Sec} (h : DOk d) : DOk (d.wr i v).2 := by
  unfold DS.wr; split
  · rename_i hi
    have := has_iff.1 hi
    simp only; split
    · exact oper_ok h
    · exact write_ok (oper_ok h) this.1 (by rw [oper_n]; exact this.2)
  · exact h
def DS.rd (d : DS) (i : Int) : Nat × Sec := if d.has i then (if d.off then (6, sec0) else (0, d.at i.toNat)) else (1, sec0)
theorem rd_out {d : DS} {i : Int} (h : d.has i = false) : d.rd i = (1, sec0) := by simp [DS.rd, h]
theorem rd_off {d : DS} {i : Int} (h : d.has i = true) (ho : d.off = true) : d.rd i = (6, sec0) := by simp [DS.rd, h, ho]
theorem rd_some {d : DS} {i : Int} (h : d.has i = true) (ho : d.off = false) (hs : (lookW i d.ws).isSome = true) : d.rd i = (0, (lookW i d.ws).getD sec0) := by
  have h0 := (has_iff.1 h).1
  simp only [DS.rd, h, ho, if_true, Bool.false_eq_true, if_false, DS.at, Int.toNat_of_nonneg h0]
  cases he : lookW i d.ws with
  | none => rw [he] at hs; cases hs
  | some v => rfl
theorem rd_none {d : DS} {i : Int} (h : d.has i = true) (ho : d.off = false) (hs : (lookW i d.ws).isSome = false) : d.rd i = (0, d.ss i.toNat) := by
  have h0 := (has_iff.1 h).1
  simp only [DS.rd, h, ho, if_true, Bool.false_eq_true, if_false, DS.at, Int.toNat_of_nonneg h0]
  cases he : lookW i d.ws with
  | some v => rw [he] at hs; cases hs
  | none => rfl
theorem encW_keys {ws : List (Int × Sec)} : (encW ws).map (·.1) = keysW ws := by simp [encW, keysW, Function.comp_def]
theorem encW_range {d : DS} (h : DOk d) : ∀ p ∈ encW d.ws, 0 ≤ p.1 ∧ p.1 ≤ 4096 := fun p hp => by
  have : p.1 ∈ keysW d.ws := by rw [← encW_keys]; exact List.mem_map.2 ⟨p, hp, rfl⟩
  have h2 := h.ks _ this; have := h.n; omega
theorem nodup_len : ∀ {n : Nat} {l : List Int}, l.Nodup → (∀ k ∈ l, 0 ≤ k ∧ k < n) → l.length ≤ n
  | 0, l, _, h => by
    cases l with
    | nil => simp
    | cons k l => have := h k (by simp); omega
  | n + 1, l, hn, h => by
    have h1 := nodup_len (n := n) (l := l.erase (n : Int)) (hn.erase _) fun k hk => by
      have h2 := hn.mem_erase_iff.1 hk
      have h3 := h k h2.2
      have := h2.1; omega
    have h4 := List.length_erase (a := (n : Int)) (l := l)
    split at h4 <;> omega
theorem ws_len {d : DS} (h : DOk d) : d.ws.length ≤ d.n := by
  have := nodup_len h.nd h.ks
  rwa [keysW, List.length_map] at this
theorem encW_len {d : DS} (h : DOk d) : (encW d.ws).length ≤ 4096 := by
  have := ws_len h; have := h.n; rw [encW, List.length_map]; omega
theorem sortZ_perm (l : List Int) : (sortZ l).Perm l := List.mergeSort_perm _ _
theorem sortZ_len (d : DS) : (sortZ (keysW d.ws)).length = d.ws.length := by rw [(sortZ_perm _).length_eq, keysW, List.length_map]
theorem sortZ_key {d : DS} (h : DOk d) {j : Nat} (hj : j < (sortZ (keysW d.ws)).length) : 0 ≤ (sortZ (keysW d.ws)).getD j 0 ∧ (sortZ (keysW d.ws)).getD j 0 < d.n := by
  have e : (sortZ (keysW d.ws)).getD j 0 = (sortZ (keysW d.ws))[j] := by simp [List.getD, hj]
  rw [e]
  exact h.ks _ ((sortZ_perm _).mem_iff.1 (List.getElem_mem hj))
def DS.syncd (d : DS) : DS := if (oper d).off then oper d else (oper d).sync
theorem syncd_ok {d : DS} (h : DOk d) : DOk d.syncd := by
  unfold DS.syncd; split
  · exact oper_ok h
  · exact sync_ok (oper_ok h)
def SyncInv (d : DS) (lw : List (Int × Sec)) (f : Nat → Sec) : Prop := lw.Sublist d.ws ∧ ∀ i : Nat, f i = if (i : Int) ∈ keysW lw then d.ss i else d.at i
theorem SyncInv.start (d : DS) : SyncInv d d.ws d.ss := ⟨List.Sublist.refl _, fun i => by
  split
  · rfl
  · rename_i h; simp [DS.at, lookW_none h]⟩
theorem SyncInv.done {d : DS} {f : Nat → Sec} (h : SyncInv d [] f) (i : Nat) : f i = d.at i := by
  have := h.2 i; simpa [keysW] using this
theorem SyncInv.key {d : DS} {A B : List (Int × Sec)} {k : Int} {v : Sec} {f : Nat → Sec} (h : SyncInv d (A ++ (k, v) :: B) f) (hk : DOk d) : 0 ≤ k ∧ k < d.n :=
  hk.ks k (List.mem_map.2 ⟨(k, v), h.1.subset (by simp), rfl⟩)
theorem SyncInv.step {d : DS} {A B : List (Int × Sec)} {k : Int} {v : Sec} {f : Nat → Sec} (h : SyncInv d (A ++ (k, v) :: B) f) (hk : DOk d) : SyncInv d (A ++ B) (updS f k.toNat v) := by
  have hsub : (A ++ B).Sublist (A ++ (k, v) :: B) := List.Sublist.append (List.Sublist.refl _) (List.sublist_cons_self _ _)
  have hnd : (keysW (A ++ (k, v) :: B)).Nodup := hk.nd.sublist (h.1.map _)
  have h0 := (h.key hk).1
  have hnot : k ∉ keysW (A ++ B) := by
    simp only [keysW, List.map_append, List.map_cons] at hnd ⊢
    have h1 := List.nodup_append.1 hnd
    intro hm
    rcases List.mem_append.1 hm with hm | hm
    · exact h1.2.2 k hm k (by simp) rfl
    · exact (List.nodup_cons.1 h1.2.1).1 hm
  refine ⟨hsub.trans h.1, fun i => ?_⟩
  simp only [updS]
  by_cases hi : i = k.toNat
  · subst hi
    have e : (k.toNat : Int) = k := Int.toNat_of_nonneg h0
    rw [if_pos rfl, e, if_neg hnot, DS.at, e, lookW_mem (v := v) hk.nd (h.1.subset (by simp))]
    rfl
  · rw [if_neg hi, h.2 i]
    have : (i : Int) ∈ keysW (A ++ (k, v) :: B) ↔ (i : Int) ∈ keysW (A ++ B) := by
      have hne : (i : Int) ≠ k := by omega
      simp [keysW, hne]
    simp only [this]
theorem encKW_nil {lw : List (Int × Sec)} (h : encK (Value.int .i64) (encW lw) = []) : lw = [] := by simpa [encK, encW] using h
theorem encKW_split {lw : List (Int × Sec)} {A' B' : List (Value × Value)} {p : Value × Value} (h : encK (Value.int .i64) (encW lw) = A' ++ p :: B') :
    ∃ A k v B, lw = A ++ (k, v) :: B ∧ A' = encK (Value.int .i64) (encW A) ∧ p = (.int .i64 k, scV v) ∧ B' = encK (Value.int .i64) (encW B) := by
  simp only [encK, encW, List.map_map] at h
  obtain ⟨l1, l2, h1, h2, h3⟩ := List.map_eq_append_iff.1 h
  obtain ⟨q, l3, h4, h5, h6⟩ := List.map_eq_cons_iff.1 h3
  subst h1; subst h4
  exact ⟨l1, q.1, q.2, l3, rfl, by rw [← h2]; simp [encK, encW], by rw [← h5]; rfl, by rw [← h6]; simp [encK, encW]⟩
theorem keepF_yes {ks : List Int} {kb : List Bool} {ws : List (Int × Sec)} {ss : Nat → Sec} {j : Nat} (h : kb.getD j false = true) : keepF ks kb ws ss (j + 1) = updS (keepF ks kb ws ss j) (ks.getD j 0).toNat ((lookW (ks.getD j 0) ws).getD sec0) := by rw [keepF, if_pos h]
theorem keepF_no {ks : List Int} {kb : List Bool} {ws : List (Int × Sec)} {ss : Nat → Sec} {j : Nat} (h : kb.getD j false = false) : keepF ks kb ws ss (j + 1) = keepF ks kb ws ss j := by rw [keepF, if_neg (by rw [h]; decide)]
end Go.Proofs.YtffkjjakceojfaaDoor
