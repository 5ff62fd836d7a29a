/- The engine, part E: digests as cells, loops, regions that draw their order, errors held against nil. -/
import Derived.Test.YtffkjjakceojfaaDoorEngD
namespace Go.Proofs.YtffkjjakceojfaaDoor
open Go
set_option linter.unusedVariables false
set_option linter.unusedSimpArgs false

/-! ### Digests -/
structure Dig where
  l : List UInt8
  h : l.length = 16
theorem Dig.ext' {a b : Dig} (h : a.l = b.l) : a = b := by cases a; cases b; cases h; rfl
instance : DecidableEq Dig := fun a b => if h : a.l = b.l then isTrue (Dig.ext' h) else isFalse (fun e => h (by rw [e]))
def dc (d : Dig) : List Value := d.l.map B8
theorem dc_length (d : Dig) : (dc d).length = 16 := by simp [dc, d.h]
theorem dc_one (d : Dig) : ∀ v ∈ dc d, v.oneCell' = true := one_B8 _
theorem dc_all (d : Dig) : (dc d).all (·.oneCell') = true := List.all_eq_true.2 (dc_one d)
def dig0 : Dig := ⟨List.replicate 16 0, rfl⟩
theorem dc_dig0 : dc dig0 = zD := rfl
theorem zD_length : zD.length = 16 := rfl
theorem dc_inj {a b : Dig} (h : dc a = dc b) : a = b := by
  apply Dig.ext'
  refine (List.map_inj_right (fun x y hxy => ?_)).1 h
  simp only [B8, Value.int.injEq, true_and] at hxy
  exact UInt8.toNat_inj.1 (by omega)
theorem drop_dc {d : Dig} {k : Nat} {r : List Value} (h : 16 ≤ k) : List.drop k (dc d ++ r) = List.drop (k - 16) r := by
  rw [List.drop_append, List.drop_eq_nil_of_le (by rw [dc_length]; exact h), dc_length]; rfl
theorem drop_dc' {d : Dig} {k : Nat} (h : 16 ≤ k) : List.drop k (dc d) = [] := List.drop_eq_nil_of_le (by rw [dc_length]; exact h)
theorem take_dc {d : Dig} {k : Nat} {r : List Value} (h : 16 ≤ k) : List.take k (dc d ++ r) = dc d ++ List.take (k - 16) r := by
  rw [List.take_append, List.take_of_length_le (by rw [dc_length]; exact h), dc_length]
theorem take_dc' {d : Dig} {k : Nat} (h : 16 ≤ k) : List.take k (dc d) = dc d := List.take_of_length_le (by rw [dc_length]; exact h)
theorem get_dc {d : Dig} {k : Nat} {r : List Value} (h : 16 ≤ k) : (dc d ++ r)[k]? = r[k - 16]? := by
  rw [List.getElem?_append_right (by rw [dc_length]; exact h), dc_length]
theorem all_cons' {v : Value} {l : List Value} (h : v.oneCell' = true) (k : ∀ u ∈ l, u.oneCell' = true) : ∀ u ∈ v :: l, u.oneCell' = true := by
  intro u hu
  rcases List.mem_cons.1 hu with rfl | hu
  · exact h
  · exact k u hu
theorem all_nil' : ∀ u ∈ ([] : List Value), u.oneCell' = true := fun u hu => by cases hu
theorem all_app' {l m : List Value} (h : ∀ u ∈ l, u.oneCell' = true) (k : ∀ u ∈ m, u.oneCell' = true) : ∀ u ∈ l ++ m, u.oneCell' = true := fun u hu => (List.mem_append.1 hu).elim (h u) (k u)

/-! ### Numbers -/
theorem wrap_i64 {x : Int} (h1 : -9223372036854775808 ≤ x) (h2 : x ≤ 9223372036854775807) : IntKind.i64.wrap x = x := by
  rw [IntKind.wrap_i64]; omega
theorem wrap_u64 {x : Int} (h1 : 0 ≤ x) (h2 : x ≤ 18446744073709551615) : IntKind.u64.wrap x = x := by
  simp only [IntKind.wrap, IntKind.bits, IntKind.signed]; simp; omega
theorem wrap_u32 {x : Int} (h1 : 0 ≤ x) (h2 : x ≤ 4294967295) : IntKind.u32.wrap x = x := by
  simp only [IntKind.wrap, IntKind.bits, IntKind.signed]; simp; omega
theorem wrap_u8 {x : Int} (h1 : 0 ≤ x) (h2 : x ≤ 255) : IntKind.u8.wrap x = x := by
  simp only [IntKind.wrap, IntKind.bits, IntKind.signed]; simp; omega

theorem wpStill_mono' {P : Program} {ops : Array Oper} {w : World} {C C' : Act → Prop} (h : ∀ a, C a → C' a) : ∀ {l : List Oper} {a : Act}, wpStill P ops w C l a → wpStill P ops w C' l a
  | [], a, hh => h _ hh
  | o :: r, a, hh => by
    unfold wpStill at hh ⊢
    split
    · rename_i hw; rw [if_pos hw] at hh; exact Oper.still_mono (fun a' h' => wpStill_mono' h h') hh
    · rename_i hw; rw [if_neg hw] at hh; exact wpStill_mono' h hh

section code
variable {P : Program} {w0 : World} {F0 : Nat → Prop} {L : List Res} {Q : Exit → Act → World → Prop} {n : Nat} {env : Env} {ops : Array Oper} {rest : List Oper}

theorem gc_condT {c : Operand} {x y : Code} {b : Bool} (hc : ev n env c = .bool b) (hb : b = true) (h : Gc P w0 F0 L x Q n env) : Gc P w0 F0 L (.cond c x y) Q n env :=
  gc_cond hc (fun _ => h) (fun h' => by rw [hb] at h'; cases h')
theorem gc_condF {c : Operand} {x y : Code} {b : Bool} (hc : ev n env c = .bool b) (hb : b = false) (h : Gc P w0 F0 L y Q n env) : Gc P w0 F0 L (.cond c x y) Q n env :=
  gc_cond hc (fun h' => by rw [hb] at h'; cases h') (fun _ => h)

/-! ### Loops -/
theorem env_eq_of {e e' : Env} (h : (List.range n).map (Env.get e) = (List.range n).map (Env.get e')) : fr n e = fr n e' := by
  refine fr_ext fun t ht => ?_
  have := congrArg (fun l : List Value => l[t]?) h
  simpa [ht] using this

/-- What stands at the loop's head: the slots of a, whatever in the junk's slots, all else as before the loop. -/
def headE {α : Type} (slots : α → Env) (junk : List Nat) (env : Env) (a : α) (u : Nat → Value) : Env := slots a ++ (junk.map (fun t => (t, u t)) ++ env)
def RoundK {α : Type} (w0 : World) (F0 : Nat → Prop) (Ls : α → List Res) (slots : α → Env) (junk : List Nat) (μ : α → Nat) (n : Nat) (env : Env) (m : Nat) (act : Act) (w : World) : Prop :=
  ∃ a u, μ a < m ∧ act = fr n (headE slots junk env a u) ∧ St w0 F0 (Ls a) w
theorem gc_loop {α : Type} {c : Code} (Ls : α → List Res) (slots : α → Env) (junk : List Nat) (μ : α → Nat) (a0 : α)
    (henv : fr n env = fr n (headE slots junk env a0 (Env.get env))) (h0 : ∀ w, St w0 F0 L w → St w0 F0 (Ls a0) w)
    (round : ∀ a u, Gc P w0 F0 (Ls a) c (Exit.then (RoundK w0 F0 Ls slots junk μ n env (μ a)) Q) n (headE slots junk env a u)) : Gc P w0 F0 L (.loop c) Q n env := by
  intro w hw
  rw [henv]
  intro b k cs
  have key : ∀ m a u w, μ a = m → St w0 F0 (Ls a) w →
      ∃ e a' w', Q e a' w' ∧ Arrives P (lone (b.at (fr n (headE slots junk env a u)) (.code c :: .inLoop c :: k)) cs w) b k cs e a' w' := by
    intro m
    induction m using Nat.strongRecOn with
    | _ m ih =>
      intro a u w hm hs
      obtain ⟨e, a₁, w₁, hq, harr⟩ := round a u w hs b (.inLoop c :: k) cs
      cases e with
      | normal =>
        obtain ⟨a', u', hlt, rfl, hs'⟩ := hq
        obtain ⟨e₂, a₂, w₂, hq₂, harr₂⟩ := ih (μ a') (hm ▸ hlt) a' u' w₁ rfl hs'
        exact ⟨e₂, a₂, w₂, hq₂, .of_steps (Steps.trans harr (.one step_inLoop)) harr₂⟩
      | exit id => exact ⟨_, a₁, w₁, hq, .pass (x := .inLoop c) rfl (fun _ _ => .inl (by simp)) harr⟩
      | goto l => exact ⟨_, a₁, w₁, hq, .pass (x := .inLoop c) rfl (fun _ _ => .inl (by simp)) harr⟩
      | ret => exact ⟨_, a₁, w₁, hq, .pass (x := .inLoop c) rfl (fun _ _ => .inl (by simp)) harr⟩
      | panic ch => exact ⟨_, a₁, w₁, hq, .pass (x := .inLoop c) rfl (fun _ _ => .inl (by simp)) harr⟩
      | outgrown => exact ⟨_, a₁, w₁, hq, .pass (x := .inLoop c) rfl (fun _ _ => .inl (by simp)) harr⟩
  obtain ⟨e, a', w', hq, harr⟩ := key _ a0 (Env.get env) w rfl (h0 w hw)
  exact ⟨e, a', w', hq, .of_steps (.one step_loop) harr⟩

section round
variable {α : Type} {Ls : α → List Res} {slots : α → Env} {junk : List Nat} {μ : α → Nat} {env0 : Env} {m : Nat}
theorem gx_round (a : α) (hE : fr n env = fr n (headE slots junk env0 a (Env.get env))) (hm : μ a < m) (hL : ∀ w, St w0 F0 L w → St w0 F0 (Ls a) w) :
    Gx w0 F0 L (Exit.then (RoundK w0 F0 Ls slots junk μ n env0 m) Q) .normal n env := fun w hw => ⟨a, Env.get env, hm, hE, hL w hw⟩
theorem gx_round_exit {K : Act → World → Prop} {id : Nat} (h : Gx w0 F0 L Q (.exit id) n env) : Gx w0 F0 L (Exit.then K Q) (.exit id) n env := h
theorem gx_round_ret {K : Act → World → Prop} (h : Gx w0 F0 L Q .ret n env) : Gx w0 F0 L (Exit.then K Q) .ret n env := h

theorem get_over {e X : Env} {t : Nat} : ∀ {s : Env}, (∀ p ∈ s, Env.get e p.1 = p.2) → ((∀ p ∈ s, p.1 ≠ t) → Env.get X t = Env.get e t) → Env.get (s ++ X) t = Env.get e t
  | [], _, hX => hX (by simp)
  | (k, v) :: s, h, hX => by
    simp only [List.cons_append, Env.get]
    cases hb : Nat.beq t k with
    | true =>
      have := Nat.eq_of_beq_eq_true hb
      subst this
      exact (h _ (List.mem_cons_self)).symm
    | false =>
      refine get_over (fun p hp => h p (List.mem_cons_of_mem _ hp)) (fun hs => hX fun p hp => ?_)
      rcases List.mem_cons.1 hp with rfl | hp
      · intro he; simp only at he; subst he; rw [Nat.beq_refl] at hb; cases hb
      · exact hs p hp
theorem get_under {X : Env} {t : Nat} : ∀ {s : Env}, (∀ p ∈ s, p.1 ≠ t) → Env.get (s ++ X) t = Env.get X t
  | [], _ => rfl
  | (k, v) :: s, h => by
    simp only [List.cons_append, Env.get]
    cases hb : Nat.beq t k with
    | true => exact absurd (Nat.eq_of_beq_eq_true hb).symm (h _ (List.mem_cons_self))
    | false => exact get_under fun p hp => h p (List.mem_cons_of_mem _ hp)
theorem env_start {a0 : α} {e : Env} (hs : (slots a0).map (fun p => Env.get e p.1) = (slots a0).map Prod.snd) : fr n e = fr n (headE slots junk e a0 (Env.get e)) := by
  refine fr_ext fun t _ => (get_over (fun p hp => ?_) fun _ => get_over (fun p hp => ?_) fun _ => rfl).symm
  · exact (List.map_inj_left.1 hs p hp)
  · obtain ⟨j, _, rfl⟩ := List.mem_map.1 hp; rfl
/-- e stands on b, with these slots ahead. -/
inductive Front (b : Env) : Env → List Nat → Prop
  | here : Front b b []
  | there {k : Nat} {v : Value} {e : Env} {f : List Nat} : Front b e f → Front b ((k, v) :: e) (k :: f)
theorem Front.get {b e : Env} {f : List Nat} (h : Front b e f) {t : Nat} (ht : t ∉ f) : Env.get e t = Env.get b t := by
  induction h with
  | here => rfl
  | there h ih =>
    rename_i k v e f
    simp only [Env.get]
    cases hb : Nat.beq t k with
    | true => exact absurd (Nat.eq_of_beq_eq_true hb) (fun he => ht (by simp [he]))
    | false => exact ih fun hm => ht (List.mem_cons_of_mem _ hm)
theorem env_next {a a' : α} {u : Nat → Value} {e : Env} {f : List Nat} (hf : Front (headE slots junk env0 a u) e f) (hs : (slots a').map (fun p => Env.get e p.1) = (slots a').map Prod.snd)
    (hk : f.all (fun t => ((slots a').map Prod.fst).contains t || junk.contains t) = true) (hkeys : (slots a).map Prod.fst = (slots a').map Prod.fst) : fr n e = fr n (headE slots junk env0 a' (Env.get e)) := by
  refine fr_ext fun t _ => (get_over (fun p hp => ?_) fun h1 => get_over (fun p hp => ?_) fun h2 => ?_).symm
  · exact (List.map_inj_left.1 hs p hp)
  · obtain ⟨j, _, rfl⟩ := List.mem_map.1 hp; rfl
  · have h2' : t ∉ junk := fun hm => h2 (t, Env.get e t) (List.mem_map.2 ⟨t, hm, rfl⟩) rfl
    have h1' : t ∉ (slots a').map Prod.fst := fun hm => by
      obtain ⟨p, hp, rfl⟩ := List.mem_map.1 hm
      exact h1 p hp rfl
    rw [hf.get (t := t) (fun hm => by
      have := List.all_eq_true.1 hk t hm
      simp only [Bool.or_eq_true, List.contains_iff_mem] at this
      exact this.elim h1' h2')]
    rw [headE, get_under, get_under]
    · intro p hp he
      obtain ⟨j, hj, rfl⟩ := List.mem_map.1 hp
      simp only at he; subst he; exact h2' hj
    · intro p hp he
      exact h1' (by rw [← hkeys]; exact List.mem_map.2 ⟨p, hp, he⟩)
end round

/-! ### Regions that draw their order: reads ahead, then the rest in a row -/
theorem St.drawn {w : World} (hs : St w0 F0 L w) (k : Nat) : St w0 F0 L { w with drawn := k } := by
  obtain ⟨F, hF, hst⟩ := hs
  exact ⟨F, stars_loc hF fun _ _ => rfl, ⟨hst.os, hst.tape, hst.output, hst.size, hst.block, hst.own⟩⟩
def Gs (P : Program) (w0 : World) (F0 : Nat → Prop) (L : List Res) (ops : Array Oper) (todo : List Oper) (n : Nat) (env : Env) (C : Env → Prop) : Prop :=
  ∀ w, St w0 F0 L w → wpStill P ops w (fun a => ∃ env', a = fr n env' ∧ C env') todo (fr n env)
theorem gs_nil {C : Env → Prop} (h : C env) : Gs P w0 F0 L ops [] n env C := fun w _ => wpStill_nil ⟨env, rfl, h⟩
theorem gs_pure {d : Tmp} {op : Op} {ty : TypeId} {pos : String} {af : Array Edge} {gd : Option (Nat × Bool)} {v : Value} {C : Env → Prop} (hw : Wt ops n env ⟨some d, op, ty, pos, af, gd⟩ true)
    (h : Runs P w0 F0 L n env ⟨some d, op, ty, pos, af, gd⟩ v) (k : Gs P w0 F0 L ops rest n ((d, v) :: env) C) : Gs P w0 F0 L ops (⟨some d, op, ty, pos, af, gd⟩ :: rest) n env C := by
  intro w hs
  refine wpStill_step ?_
  intro K hK
  rw [if_pos (show Region.wanted _ _ = true from hw)]
  unfold Oper.still
  rw [fr_eval, h w hs, Oper.stillUpon_value, fr_put]
  exact hK _ (k w hs)
theorem gs_passD {d : Tmp} {op : Op} {ty : TypeId} {pos : String} {af : Array Edge} {gd : Option (Nat × Bool)} {C : Env → Prop} (hw : Wt ops n env ⟨some d, op, ty, pos, af, gd⟩ false)
    (k : Gs P w0 F0 L ops rest n ((d, undef) :: env) C) : Gs P w0 F0 L ops (⟨some d, op, ty, pos, af, gd⟩ :: rest) n env C := by
  intro w hs
  refine wpStill_step ?_
  intro K hK
  rw [if_neg (by rw [show Region.wanted _ _ = false from hw]; simp), fr_put]
  exact hK _ (k w hs)
theorem gc_regionT {id : Nat} {l : List Oper} (k : Nat) (hm : P.follows .mixedOrders = true) (hB : Region.lexTailB .any l.toArray k = true)
    (h : Gs P w0 F0 L l.toArray (l.take k) n env (fun env' => Gl P w0 F0 L l.toArray Q (l.drop k) n env')) : Gc P w0 F0 L (.region id l.toArray true) Q n env := fun w hw => by
  refine wp_region_still_tail k hm hB ?_
  have hw' := hw.drawn (w.drawn + 1)
  have := h _ hw'
  refine wpStill_mono' (fun a ⟨env', ha, hC⟩ => ?_) this
  subst ha
  exact hC _ hw'
end code
end Go.Proofs.YtffkjjakceojfaaDoor
