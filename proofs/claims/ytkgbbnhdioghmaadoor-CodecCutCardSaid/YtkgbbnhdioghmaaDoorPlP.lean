/- Plain words: a reading under way: where it stands, or its first error. No program in sight. -/
import Derived.Test.YtkgbbnhdioghmaaDoorPlR
namespace Go.Proofs.YtkgbbnhdioghmaaDoor
set_option linter.unusedVariables false

abbrev RSt := Except Nat (List UInt8)
def rstep {α : Type} (p : PR α) : RSt → RSt
  | .error e => .error e
  | .ok b => match p b with
    | .error e => .error e
    | .ok x => .ok x.2
/-- If all goes well, this is what is read. -/
def Ag {α : Type} (p : PR α) (σ : RSt) (x : α) : Prop := ∀ b y r, σ = .ok b → p b = .ok (y, r) → x = y
def errOf : RSt → Nat
  | .ok _ => 0
  | .error e => e
def failE (k : Nat) : RSt → RSt
  | .ok _ => .error k
  | .error e => .error e
def WS.st (s : WS) : RSt := if s.err = 0 then .ok s.bs else .error s.err
theorem WS.errOf_st (s : WS) : errOf s.st = s.err := by
  unfold WS.st; split
  · rename_i h; exact h.symm
  · rfl
theorem Ag.bind {α β : Type} {p : PR α} {f : α → PR β} {σ : RSt} {x : α} {y : β} (h : Ag p σ x) (k : Ag (f x) (rstep p σ) y) : Ag (pBind p f) σ y := by
  rintro b y' r rfl hb
  obtain ⟨x', r1, h1, h2⟩ := pBind_ok hb
  obtain rfl := h b x' r1 rfl h1
  refine k r1 y' r ?_ h2
  simp only [rstep, h1]
theorem rstep_bind {α β : Type} {p : PR α} {f : α → PR β} {σ : RSt} {x : α} (h : Ag p σ x) : rstep (pBind p f) σ = rstep (f x) (rstep p σ) := by
  cases σ with
  | error e => rfl
  | ok b =>
    cases hp : p b with
    | error e => simp only [rstep, pBind_err hp, hp]
    | ok x' =>
      obtain ⟨x', r⟩ := x'
      obtain rfl := h b x' r rfl hp
      simp only [rstep, pBind_eq hp, hp]
theorem Ag.pure {α : Type} {σ : RSt} (x : α) : Ag (pPure x) σ x := by
  rintro b y r rfl h
  exact (pPure_ok h).1
theorem rstep_pure {α : Type} {σ : RSt} (x : α) : rstep (pPure x) σ = σ := by cases σ <;> rfl
theorem rstep_err {α : Type} {σ : RSt} (k : Nat) : rstep (pErr (α := α) k) σ = failE k σ := by cases σ <;> rfl
theorem Ag.err {α : Type} {σ : RSt} {k : Nat} (x : α) : Ag (pErr k) σ x := by rintro b y r _ h; cases h
theorem Ag.error {α : Type} {p : PR α} {e : Nat} (x : α) : Ag p (.error e) x := by rintro b y r h _; cases h
theorem Ag.of {α : Type} {p : PR α} {b r : List UInt8} {x : α} (h : p b = .ok (x, r)) : Ag p (.ok b) x := by
  rintro b' y r' he h'
  cases he; rw [h] at h'; cases h'; rfl
theorem Ag.ne {α : Type} {p : PR α} {b : List UInt8} {e : Nat} (h : p b = .error e) (x : α) : Ag p (.ok b) x := by
  rintro b' y r' he h'
  cases he; rw [h] at h'; cases h'
theorem errOf_rstep {α : Type} (p : PR α) {σ : RSt} (h : errOf σ ≠ 0) : rstep p σ = σ := by
  cases σ with
  | error e => rfl
  | ok b => exact absurd rfl h
theorem Ag.bad {α : Type} {p : PR α} {σ : RSt} (h : errOf σ ≠ 0) (x : α) : Ag p σ x := by
  cases σ with
  | error e => exact Ag.error x
  | ok b => exact absurd rfl h
theorem failE_bad {k : Nat} {σ : RSt} (h : errOf σ ≠ 0) : failE k σ = σ := by
  cases σ with
  | error e => rfl
  | ok b => exact absurd rfl h
/-- A list under way: m elements are still to come, out are there. -/
structure Many {α : Type} (one : PR α) (n : Nat) (σ0 : RSt) (m : Nat) (σ : RSt) (out : List α) : Prop where
  st : rstep (pMany one n) σ0 = rstep (pMany one m) σ
  ag : ∀ l, Ag (pMany one m) σ l → Ag (pMany one n) σ0 (out ++ l)
theorem Many.start {α : Type} {one : PR α} {n : Nat} {σ0 : RSt} : Many one n σ0 n σ0 [] := ⟨rfl, fun l h => h⟩
theorem Many.next {α : Type} {one : PR α} {n m : Nat} {σ0 σ : RSt} {out : List α} {x : α} (h : Many one n σ0 (m + 1) σ out) (hx : Ag one σ x) : Many one n σ0 m (rstep one σ) (out ++ [x]) := by
  refine ⟨?_, fun l hl => ?_⟩
  · rw [h.st, pMany, rstep_bind hx]
    cases hσ : rstep one σ with
    | error e => rfl
    | ok b =>
      cases hm : pMany one m b with
      | error e => simp only [rstep, pBind_err hm, hm]
      | ok y => simp only [rstep, pBind_eq (x := y.1) (r := y.2) hm, hm, pPure]
  · have := h.ag (x :: l) (by rw [pMany]; exact Ag.bind hx (Ag.bind hl (Ag.pure _)))
    simpa using this
theorem Many.done {α : Type} {one : PR α} {n : Nat} {σ0 σ : RSt} {out : List α} (h : Many one n σ0 0 σ out) : rstep (pMany one n) σ0 = σ ∧ Ag (pMany one n) σ0 out := by
  refine ⟨by rw [h.st]; exact rstep_pure _, ?_⟩
  have := h.ag [] (Ag.pure _)
  simpa using this
theorem Many.bad {α : Type} {one : PR α} {n m : Nat} {σ0 σ : RSt} {out : List α} (h : Many one n σ0 m σ out) (he : errOf σ ≠ 0) : rstep (pMany one n) σ0 = σ ∧ ∀ l, Ag (pMany one n) σ0 l := by
  have h1 : rstep (pMany one n) σ0 = σ := by rw [h.st]; exact errOf_rstep _ he
  refine ⟨h1, fun l => ?_⟩
  rintro b y r rfl hb
  exfalso
  apply he
  rw [← h1]
  simp only [rstep, hb]; rfl
theorem sel_fin {β : Type} {q p' : PR β} {most x : Nat} {σ1 σ2 : RSt} (hf : p' = if (most : Int) < (x : Int) then pErr 1 else q) (hc : (if errOf σ1 = 0 ∧ most < x then failE 1 σ1 else σ1) = σ2) : rstep p' σ1 = rstep q σ2 ∧ ∀ l, Ag q σ2 l → Ag p' σ1 l := by
  by_cases hm : most < x
  · rw [if_pos (by omega)] at hf
    subst hf
    refine ⟨?_, fun l _ => Ag.err l⟩
    rw [rstep_err]
    by_cases he : errOf σ1 = 0
    · rw [if_pos ⟨he, hm⟩] at hc
      subst hc
      cases σ1 with
      | error e => rfl
      | ok b => rfl
    · rw [if_neg (fun h => he h.1)] at hc
      subst hc
      rw [failE_bad he, errOf_rstep _ he]
  · rw [if_neg (by omega)] at hf
    rw [if_neg (fun h => hm h.2)] at hc
    subst hf; subst hc
    exact ⟨rfl, fun l h => h⟩
theorem bytes_fin {most x : Nat} {σ σ2 : RSt} {l : List UInt8} (hx : Ag (pNum 2) σ (x : Int)) (hc : (if errOf (rstep (pNum 2) σ) = 0 ∧ most < x then failE 1 (rstep (pNum 2) σ) else rstep (pNum 2) σ) = σ2) (ha : Ag (pTake x) σ2 l) :
    rstep (pBytes most) σ = rstep (pTake x) σ2 ∧ Ag (pBytes most) σ l := by
  have h := sel_fin (q := pTake x) (p' := if (most : Int) < (x : Int) then pErr 1 else pTake (x : Int).toNat) rfl hc
  exact ⟨by rw [pBytes, rstep_bind hx, h.1], hx.bind (h.2 l ha)⟩
theorem list_fin {α : Type} {one : PR α} {most x : Nat} {σ σ2 σ3 : RSt} {l : List α} (hx : Ag (pNum 1) σ (x : Int)) (hc : (if errOf (rstep (pNum 1) σ) = 0 ∧ most < x then failE 1 (rstep (pNum 1) σ) else rstep (pNum 1) σ) = σ2) (ha : rstep (pMany one x) σ2 = σ3 ∧ Ag (pMany one x) σ2 l) :
    rstep (pList one most) σ = σ3 ∧ Ag (pList one most) σ l := by
  have h := sel_fin (q := pMany one x) (p' := if (most : Int) < (x : Int) then pErr 1 else pMany one (x : Int).toNat) rfl hc
  exact ⟨by rw [pList, rstep_bind hx, h.1, ha.1], hx.bind (h.2 l ha.2)⟩
end Go.Proofs.YtkgbbnhdioghmaaDoor
