/- Plain words: what a writer makes is of one thing only. No program in sight. -/
import Derived.Test.YtkgbbnhdioghmaaDoorPlC
namespace Go.Proofs.YtkgbbnhdioghmaaDoor
set_option linter.unusedVariables false

/-- What wX writes when nothing fails says what it was, and where it ends. -/
def Inj {α : Type} (wX : α → WS → WS) : Prop := ∃ ok : α → List UInt8 → Prop, (∀ x s, (wX x s).err = 0 → s.err = 0 ∧ ∃ e, ok x e ∧ (wX x s).bs = s.bs ++ e) ∧
  (∀ x y e e' r r', ok x e → ok y e' → e ++ r = e' ++ r' → x = y ∧ r = r')
theorem Inj.use {α : Type} {wX : α → WS → WS} (h : Inj wX) {x y : α} (hx : (wX x ⟨0, []⟩).err = 0) (hy : (wX y ⟨0, []⟩).err = 0) (he : (wX x ⟨0, []⟩).bs = (wX y ⟨0, []⟩).bs) : x = y := by
  obtain ⟨ok, h1, h2⟩ := h
  obtain ⟨_, e, he1, hb1⟩ := h1 _ _ hx
  obtain ⟨_, e', he2, hb2⟩ := h1 _ _ hy
  rw [hb1, hb2] at he
  exact (h2 _ _ e e' [] [] he1 he2 (by simpa using he)).1
theorem Inj.seq {α β : Type} {f : α → WS → WS} {g : β → WS → WS} (hf : Inj f) (hg : Inj g) : Inj (fun (p : α × β) s => g p.2 (f p.1 s)) := by
  obtain ⟨okf, f1, f2⟩ := hf
  obtain ⟨okg, g1, g2⟩ := hg
  refine ⟨fun p e => ∃ a b, e = a ++ b ∧ okf p.1 a ∧ okg p.2 b, fun p s h => ?_, fun p q e e' r r' hp hq he => ?_⟩
  · obtain ⟨h1, b, hb, hb'⟩ := g1 _ _ h
    obtain ⟨h2, a, ha, ha'⟩ := f1 _ _ h1
    exact ⟨h2, a ++ b, ⟨a, b, rfl, ha, hb⟩, by rw [hb', ha', List.append_assoc]⟩
  · obtain ⟨a, b, rfl, ha, hb⟩ := hp
    obtain ⟨c, d, rfl, hc, hd⟩ := hq
    rw [List.append_assoc, List.append_assoc] at he
    obtain ⟨h1, h2⟩ := f2 _ _ _ _ _ _ ha hc he
    obtain ⟨h3, h4⟩ := g2 _ _ _ _ _ _ hb hd h2
    exact ⟨Prod.ext h1 h3, h4⟩
theorem Inj.map {α β : Type} {f : α → WS → WS} (hf : Inj f) {m : β → α} (hm : ∀ x y, m x = m y → x = y) : Inj (fun b s => f (m b) s) := by
  obtain ⟨ok, f1, f2⟩ := hf
  exact ⟨fun b e => ok (m b) e, fun b s h => f1 _ _ h, fun x y e e' r r' h1 h2 h => ⟨hm _ _ (f2 _ _ _ _ _ _ h1 h2 h).1, (f2 _ _ _ _ _ _ h1 h2 h).2⟩⟩
theorem wFail_err {k : Nat} (hk : k ≠ 0) (s : WS) : (wFail k s).err ≠ 0 := by unfold wFail; split <;> simp_all
theorem wFix_ok {b : List UInt8} {s : WS} (h : (wFix b s).err = 0) : s.err = 0 ∧ (wFix b s).bs = s.bs ++ b := by
  unfold wFix at h ⊢; split <;> simp_all
theorem append_inj_len {a b r r' : List UInt8} (hl : a.length = b.length) (h : a ++ r = b ++ r') : a = b ∧ r = r' := List.append_inj h hl
theorem beN_inj {n m : Int} {wd : Nat} (hn : 0 ≤ n) (hm : 0 ≤ m) (hn2 : n < 2 ^ (8 * wd)) (hm2 : m < 2 ^ (8 * wd)) (h : beN n wd = beN m wd) : n = m := by
  have hb : ∀ j, j < wd → byteAt n j = byteAt m j := fun j hj => by
    have := congrArg (fun l : List UInt8 => l[wd - 1 - j]?) h
    simp only [beN] at this
    rw [List.getElem?_map, List.getElem?_map, List.getElem?_range (by omega)] at this
    simp only [Option.map_some, Option.some.injEq, show wd - 1 - (wd - 1 - j) = j by omega] at this
    exact this
  clear h
  obtain ⟨n, rfl⟩ := Int.eq_ofNat_of_zero_le hn
  obtain ⟨m, rfl⟩ := Int.eq_ofNat_of_zero_le hm
  have hn3 : n < 2 ^ (8 * wd) := by exact_mod_cast hn2
  have hm3 : m < 2 ^ (8 * wd) := by exact_mod_cast hm2
  have hb' : ∀ j, j < wd → n / 2 ^ (8 * j) % 256 = m / 2 ^ (8 * j) % 256 := fun j hj => by
    have := hb j hj
    simp only [byteAt] at this
    have e : ∀ k : Nat, ((k : Int) / 2 ^ (8 * j) % 256).toNat = k / 2 ^ (8 * j) % 256 := fun k => by
      have : ((k : Int) / 2 ^ (8 * j) % 256) = ((k / 2 ^ (8 * j) % 256 : Nat) : Int) := by
        rw [Int.natCast_emod, Int.natCast_ediv, Int.natCast_pow]; rfl
      rw [this, Int.toNat_natCast]
    rw [e, e] at this
    have h1 := congrArg UInt8.toNat this
    rw [UInt8.toNat_ofNat', UInt8.toNat_ofNat'] at h1
    omega
  clear hb hn hm hn2 hm2
  congr 1
  induction wd generalizing n m with
  | zero => simp at hn3 hm3; omega
  | succ wd ih =>
    have h0 := hb' 0 (by omega)
    simp only [Nat.mul_zero, Nat.pow_zero, Nat.div_one] at h0
    have hq : n / 256 = m / 256 := by
      refine ih (n / 256) (m / 256) ?_ ?_ fun j hj => ?_
      · rw [show 8 * (wd + 1) = 8 + 8 * wd by omega, Nat.pow_add] at hn3; exact Nat.div_lt_of_lt_mul hn3
      · rw [show 8 * (wd + 1) = 8 + 8 * wd by omega, Nat.pow_add] at hm3; exact Nat.div_lt_of_lt_mul hm3
      · have := hb' (j + 1) (by omega)
        rw [show 8 * (j + 1) = 8 + 8 * j by omega, Nat.pow_add, ← Nat.div_div_eq_div_mul, ← Nat.div_div_eq_div_mul] at this
        exact this
    omega
theorem inj_num {wd : Nat} (hw : wd < 8) : Inj (fun n s => wNum n wd s) := by
  refine ⟨fun n e => e = beN n wd ∧ 0 ≤ n ∧ n < 2 ^ (8 * wd), fun n s h => ?_, fun n m e e' r r' h1 h2 h => ?_⟩
  · simp only [wNum] at h ⊢
    split at h
    · exact absurd h (wFail_err (by decide) s)
    · rename_i hn
      rw [if_neg hn]
      obtain ⟨h1, h2⟩ := wFix_ok h
      refine ⟨h1, _, ⟨rfl, by omega, ?_⟩, h2⟩
      have : ¬ (2 : Int) ^ (8 * wd) ≤ n := fun hh => hn (.inr ⟨hw, hh⟩)
      omega
  · obtain ⟨rfl, a1, a2⟩ := h1
    obtain ⟨rfl, b1, b2⟩ := h2
    obtain ⟨h3, h4⟩ := append_inj_len (by rw [beN_length, beN_length]) h
    exact ⟨beN_inj a1 b1 a2 b2 h3, h4⟩
theorem inj_dig : Inj wDig := by
  refine ⟨fun d e => e = d.l, fun d s h => ?_, fun n m e e' r r' h1 h2 h => ?_⟩
  · obtain ⟨h1, h2⟩ := wFix_ok h
    exact ⟨h1, _, rfl, h2⟩
  · subst h1; subst h2
    obtain ⟨h3, h4⟩ := append_inj_len (by rw [n.h, m.h]) h
    exact ⟨Dig.ext' h3, h4⟩
theorem inj_fold {α : Type} {f : α → WS → WS} (hf : Inj f) (k : Nat) : ∃ ok : List α → List UInt8 → Prop, (∀ l s, l.length = k → (l.foldl (fun s x => f x s) s).err = 0 → s.err = 0 ∧ ∃ e, ok l e ∧ (l.foldl (fun s x => f x s) s).bs = s.bs ++ e) ∧
    (∀ x y e e' r r', ok x e → ok y e' → e ++ r = e' ++ r' → x = y ∧ r = r') := by
  obtain ⟨ok, f1, f2⟩ := hf
  induction k with
  | zero => exact ⟨fun l e => l = [] ∧ e = [], fun l s hl h => by
      have : l = [] := List.eq_nil_of_length_eq_zero hl
      subst this; exact ⟨h, [], ⟨rfl, rfl⟩, by simp⟩, fun x y e e' r r' h1 h2 h => by
        obtain ⟨rfl, rfl⟩ := h1; obtain ⟨rfl, rfl⟩ := h2; exact ⟨rfl, by simpa using h⟩⟩
  | succ k ih =>
    obtain ⟨okl, g1, g2⟩ := ih
    refine ⟨fun l e => ∃ x t a b, l = x :: t ∧ e = a ++ b ∧ ok x a ∧ okl t b, fun l s hl h => ?_, fun x y e e' r r' h1 h2 h => ?_⟩
    · cases l with
      | nil => simp at hl
      | cons x t =>
        simp only [List.foldl_cons] at h ⊢
        obtain ⟨h1, b, hb, hb'⟩ := g1 t (f x s) (by simpa using hl) h
        obtain ⟨h2, a, ha, ha'⟩ := f1 _ _ h1
        exact ⟨h2, a ++ b, ⟨x, t, a, b, rfl, rfl, ha, hb⟩, by rw [hb', ha', List.append_assoc]⟩
    · obtain ⟨x, t, a, b, rfl, rfl, ha, hb⟩ := h1
      obtain ⟨y, u, c, d, rfl, rfl, hc, hd⟩ := h2
      rw [List.append_assoc, List.append_assoc] at h
      obtain ⟨h3, h4⟩ := f2 _ _ _ _ _ _ ha hc h
      obtain ⟨h5, h6⟩ := g2 _ _ _ _ _ _ hb hd h4
      exact ⟨by rw [h3, h5], h6⟩
theorem inj_put {α : Type} {f : α → WS → WS} (hf : Inj f) (most : Nat) : Inj (fun l s => wPut f l most s) := by
  obtain ⟨okn, n1, n2⟩ := inj_num (wd := 1) (by decide)
  have hk := fun k => inj_fold hf k
  refine ⟨fun l e => ∃ a b, e = a ++ b ∧ okn (l.length : Int) a ∧ (Classical.choose (hk l.length)) l b, fun l s h => ?_, fun x y e e' r r' h1 h2 h => ?_⟩
  · simp only [wPut] at h ⊢
    split at h
    · exact absurd h (wFail_err (by decide) s)
    · rename_i hn
      rw [if_neg hn]
      obtain ⟨h1, b, hb, hb'⟩ := (Classical.choose_spec (hk l.length)).1 l _ rfl h
      obtain ⟨h2, a, ha, ha'⟩ := n1 _ _ h1
      exact ⟨h2, a ++ b, ⟨a, b, rfl, ha, hb⟩, by rw [hb', ha', List.append_assoc]⟩
  · obtain ⟨a, b, rfl, ha, hb⟩ := h1
    obtain ⟨c, d, rfl, hc, hd⟩ := h2
    rw [List.append_assoc, List.append_assoc] at h
    obtain ⟨h3, h4⟩ := n2 _ _ _ _ _ _ ha hc h
    have h3' : x.length = y.length := by omega
    rw [← h3'] at hd
    exact (Classical.choose_spec (hk x.length)).2 _ _ _ _ _ _ hb hd h4
theorem inj_bytes (most : Nat) : Inj (fun l s => wBytes l most s) := by
  obtain ⟨okn, n1, n2⟩ := inj_num (wd := 2) (by decide)
  refine ⟨fun l e => ∃ a, e = a ++ l ∧ okn (l.length : Int) a, fun l s h => ?_, fun x y e e' r r' h1 h2 h => ?_⟩
  · simp only [wBytes] at h ⊢
    split at h
    · exact absurd h (wFail_err (by decide) s)
    · rename_i hn
      rw [if_neg hn]
      obtain ⟨h1, hb⟩ := wFix_ok h
      obtain ⟨h2, a, ha, ha'⟩ := n1 _ _ h1
      exact ⟨h2, a ++ l, ⟨a, rfl, ha⟩, by rw [hb, ha', List.append_assoc]⟩
  · obtain ⟨a, rfl, ha⟩ := h1
    obtain ⟨c, rfl, hc⟩ := h2
    rw [List.append_assoc, List.append_assoc] at h
    obtain ⟨h3, h4⟩ := n2 _ _ _ _ _ _ ha hc h
    exact append_inj_len (by omega) h4
theorem inj_sig : Inj wSig := Inj.map (m := fun x : Sig => ((x.leaf, x.chains), x.path)) (((inj_num (by decide)).seq (inj_put inj_dig 68)).seq (inj_put inj_dig 5)) fun x y h => by cases x; cases y; simp_all
theorem inj_signed : Inj wSigned := Inj.map (m := fun x : Signed => (x.who, x.sig)) ((inj_num (by decide)).seq inj_sig) fun x y h => by cases x; cases y; simp_all
theorem inj_at : Inj (fun (p : Int × Int) s => wAt p.1 p.2 s) := (inj_num (by decide)).seq (inj_num (by decide))
theorem inj_qc : Inj wQC := Inj.map (m := fun x : QC => (((x.epoch, x.round), x.block), x.votes)) ((inj_at.seq inj_dig).seq (inj_put inj_signed 7)) fun x y h => by cases x; cases y; simp_all
theorem inj_vdr : Inj wVdr := Inj.map (m := fun x : Vdr => (x.key, x.power)) (inj_dig.seq (inj_num (by decide))) fun x y h => by cases x; cases y; simp_all
theorem inj_block : Inj wBlock := Inj.map (m := fun x : Block => (((((x.epoch, x.round), x.parent), x.justify), x.payload), x.next)) ((((inj_at.seq inj_dig).seq inj_qc).seq (inj_put (inj_bytes 16) 4)).seq (inj_put inj_vdr 7)) fun x y h => by cases x; cases y; simp_all
end Go.Proofs.YtkgbbnhdioghmaaDoor
