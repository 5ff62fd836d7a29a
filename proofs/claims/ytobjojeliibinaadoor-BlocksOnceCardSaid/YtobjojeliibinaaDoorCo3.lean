/- Part 3. What is proved: see the last part: for every input the law returns true, and the input reads as it did. -/
import Derived.Test.YtobjojeliibinaaDoorCo2
import Derived.RangeFuncLeaves
import Derived.RangeFuncRecord
import Derived.RangeFuncSeq
import Derived.MapKept
import Derived.Laws.IdiomRangeMap
/- The engine, part R: ranges over functions: the iterator's calls of yield, and the statement. -/
namespace Go.Proofs.YtobjojeliibinaaDoor
open Go
set_option linter.unusedVariables false
set_option linter.unusedSimpArgs false

/-- A loop's record, and the block of its rounds' deferred calls. -/
def lpR (l : Nat) (r : Loop) : Res where
  on w F := (∀ k, F k ↔ k = l) ∧ w.heap[l]? = some (.loop r)
  loc := fun ⟨hF, h⟩ hk => ⟨hF, (hk l ((hF l).2 rfl)).trans h⟩
  ok := fun ⟨hF, h⟩ k hk => by rw [(hF k).1 hk]; exact ⟨_, h, trivial⟩
def dfR (b : Nat) : Res where
  on w F := (∀ k, F k ↔ k = b) ∧ w.heap[b]? = some (.deferred (some []))
  loc := fun ⟨hF, h⟩ hk => ⟨hF, (hk b ((hF b).2 rfl)).trans h⟩
  ok := fun ⟨hF, h⟩ k hk => by rw [(hF k).1 hk]; exact ⟨_, h, trivial⟩
def mkD (b : Nat) : Deferred := { target := .collected b, args := #[] }

/-- What the rounds promise: at the i-th call of yield, with x. -/
def RoundsAt (P : Program) (l : Nat) {α : Type} (enc : Nat → α → Array Value) (G : Nat → α → List Res) (J : Nat → Res) (Jx : Res) (w0 : World) (F0 : Nat → Prop) : Prop :=
  ∀ i x w (F1 F2 : Nat → Prop), stars (G i x ++ [J i]) w F1 → (∀ k, F1 k → ¬ F2 k) → Stp w0 F0 w (fun k => F1 k ∨ F2 k) →
    YieldAt (FR none) 0 P l (enc i x) w (Post w F1 (fun b : Bool => .bool b) fun b => [bif b then J (i + 1) else Jx])

theorem pick_app {r : Res} {L : List Res} : ∀ (G : List Res), Pick (G ++ r :: L) r (G ++ L)
  | [] => .here
  | _ :: G => .there (pick_app G)
theorem stars_out1 {r : Res} {G L : List Res} {w : World} {F : Nat → Prop} (h : stars (G ++ r :: L) w F) : stars (r :: (G ++ L)) w F := (pick_app G).stars h
theorem stars_in1 {r : Res} : ∀ {G L : List Res} {w : World} {F : Nat → Prop}, stars (r :: (G ++ L)) w F → stars (G ++ r :: L) w F
  | [], _, _, _, h => h
  | g :: G, L, w, F, h => by
    have h2 : stars (g :: (r :: (G ++ L))) w F := (Pick.there (Pick.here)).stars h
    obtain ⟨F1, F2, h1, h2, hF, hd⟩ := h2
    exact ⟨F1, F2, h1, stars_in1 h2, hF, hd⟩

theorem stars_tail {B : List Res} : ∀ {A : List Res} {w : World} {F : Nat → Prop}, stars (A ++ B) w F → stars (A ++ [allR B]) w F
  | [], w, F, h => stars_one h
  | a :: A, w, F, ⟨F1, F2, h1, h2, hF, hd⟩ => ⟨F1, F2, h1, stars_tail h2, hF, hd⟩
theorem stars_untail {B : List Res} : ∀ {A : List Res} {w : World} {F : Nat → Prop}, stars (A ++ [allR B]) w F → stars (A ++ B) w F
  | [], w, F, h => stars_one' h
  | a :: A, w, F, ⟨F1, F2, h1, h2, hF, hd⟩ => ⟨F1, F2, h1, stars_untail h2, hF, hd⟩
/-- An owned block that isn't wanted any more, or stands for something else, is turned. -/
theorem Stp.turn {w0 w : World} {F0 F : Nat → Prop} {b : Nat} {o : Obj} (h : Stp w0 F0 w F) (hb : F b) : Stp w0 F0 (w.putObj b o) F :=
  ⟨h.os, h.tape, h.output, by rw [World.putObj_size]; exact h.size, fun k hk hn => by
    rw [World.putObj_heap_other (fun e => by subst e; exact (h.own _ hb).elim hn (fun h' => absurd h' (by omega)))]
    exact h.block k hk hn, h.own⟩
theorem stars_put {L : List Res} {w : World} {F : Nat → Prop} {b : Nat} {o : Obj} (h : stars L w F) (hb : ¬ F b) : stars L (w.putObj b o) F :=
  stars_loc h fun k hk => World.putObj_heap_other (fun e => hb (e ▸ hk))
theorem St.lp {w0 w : World} {F0 : Nat → Prop} {l : Nat} {r r' : Loop} {L : List Res} (h : St w0 F0 (lpR l r :: L) w) : w.heap[l]? = some (.loop r) ∧ St w0 F0 (lpR l r' :: L) (w.putObj l (.loop r')) := by
  obtain ⟨F, ⟨F1, F2, ⟨hF1, h1⟩, h2, hF, hd⟩, hst⟩ := h
  have hl : F l := (hF l).2 (.inl ((hF1 l).2 rfl))
  exact ⟨h1, F, ⟨F1, F2, ⟨hF1, World.putObj_heap_same (Array.getElem?_eq_some_iff.1 h1).1⟩, stars_put h2 (hd l ((hF1 l).2 rfl)), hF, hd⟩, hst.turn hl⟩
theorem St.lp_out {w0 w : World} {F0 : Nat → Prop} {l : Nat} {r : Loop} {o : Obj} {L : List Res} (h : St w0 F0 (lpR l r :: L) w) : w.heap[l]? = some (.loop r) ∧ St w0 F0 L (w.putObj l o) := by
  obtain ⟨F, ⟨F1, F2, ⟨hF1, h1⟩, h2, hF, hd⟩, hst⟩ := h
  have hl : F l := (hF l).2 (.inl ((hF1 l).2 rfl))
  exact ⟨h1, F2, stars_put h2 (hd l ((hF1 l).2 rfl)), (hst.turn hl).weak fun k hk => (hF k).2 (.inr hk)⟩
theorem St.df_out {w0 w : World} {F0 : Nat → Prop} {b : Nat} {o : Obj} {L L' : List Res} (h : St w0 F0 L w) (hp : Pick L (dfR b) L') : w.heap[b]? = some (.deferred (some [])) ∧ St w0 F0 L' (w.putObj b o) := by
  obtain ⟨F, hF0, hst⟩ := h
  obtain ⟨F1, F2, ⟨hF1, h1⟩, h2, hF, hd⟩ := hp.stars hF0
  have hl : F b := (hF b).2 (.inl ((hF1 b).2 rfl))
  exact ⟨h1, F2, stars_put h2 (hd b ((hF1 b).2 rfl)), (hst.turn hl).weak fun k hk => (hF k).2 (.inr hk)⟩

section
variable {P : Program} {w0 : World} {F0 : Nat → Prop} {L : List Res} {Q : Exit → Act → World → Prop} {n : Fm} {env : Env} {ops : Array Oper} {rest : List Oper}
/-! ### A call of yield -/
theorem roundIn_FR {ro : Option Nat} {l : Nat} {f : FuncId} {tmps : Array Value} {asg bd : Code} {w : World} {R : Ending → World → Prop} : RoundIn (FR ro) 0 P l f tmps asg bd w R ↔ RoundIn (FR none) 0 P l f tmps asg bd w R := Iff.rfl
theorem gl_yield {o : Oper} {l : Nat} {args : Array Value} {L' M : List Res} {α : Type} {V : α → Value} {N : α → List Res} (hw : Wt ops n env o true)
    (he : ∀ w, (execOp (ev n env) o).run P w = (Instr.yield l args).run P w) (hsel : Sel L M L')
    (hc : ∀ w F1 F2, stars M w F1 → stars L' w F2 → (∀ k, F1 k → ¬ F2 k) → Stp w0 F0 w (fun k => F1 k ∨ F2 k) → YieldAt (FR none) 0 P l args w (Post w F1 V N))
    (k : ∀ x, Gl P w0 F0 (N x ++ L') ops Q rest n (pu o.dst (V x) env)) : Gl P w0 F0 L ops Q (o :: rest) n env := by
  intro w hs
  obtain ⟨F, hF, hst⟩ := hs
  obtain ⟨F1, F2, h1, h2, hE, hd⟩ := hsel.split hF
  have hst' : Stp w0 F0 w (fun k => F1 k ∨ F2 k) := by rw [← fp_eq hE]; exact hst
  unfold wpListIn
  rw [if_pos (show Region.wanted o _ = true from hw)]
  obtain ⟨fn, tmps, asg, bd, hy, hr⟩ := hc w F1 F2 h1 h2 hd hst'
  refine Oper.wpIn_round (by rw [fr_eval, he]; exact hy) (RoundIn.mono (roundIn_FR.2 hr) ?_)
  rintro e w' ⟨x, rfl, hx⟩
  exact ⟨V x, rfl, by rw [fr_put]; exact k x w' (St.call hst h2 hE hd hx)⟩
theorem e_yield {d : Option Tmp} {ty : TypeId} {pos : String} {af : Array Edge} {gd : Option (Nat × Bool)} {y : Operand} {l : Nat} {xs : List Operand} {ts : Array TypeId} {vs : List Value} (hy : ev n env y = .func (.yield l) #[] #[]) (hv : xs.map (ev n env) = vs) (w : World) :
    (execOp (ev n env) ⟨d, .call ⟨.value y, xs.toArray, ts⟩, ty, pos, af, gd⟩).run P w = (Instr.yield l vs.toArray).run P w := by
  simp [execOp, resolve, hy, Deferred.ofValue, invoke, hv]
/-- The i-th round. -/
theorem gyd {t : Tmp} {ty : TypeId} {pos : String} {af : Array Edge} {gd : Option (Nat × Bool)} {y : Operand} {l : Nat} {xs : List Operand} {ts : Array TypeId} {vs : List Value} {α : Type} {enc : Nat → α → Array Value} {G : Nat → α → List Res} {J : Nat → Res} {Jx : Res} {L' : List Res}
    (h : RoundsAt P l enc G J Jx w0 F0) (i : Nat) (x : α) (hv2 : enc i x = vs.toArray) (hsel : Sel L (G i x ++ [J i]) L') (k : ∀ b : Bool, Gl P w0 F0 ((bif b then J (i + 1) else Jx) :: L') ops Q rest n ((t, .bool b) :: env))
    (hy : ev n env y = .func (.yield l) #[] #[] := by exact rfl) (hv : xs.map (ev n env) = vs := by exact rfl)
    (hw : Wt ops n env ⟨some t, .call ⟨.value y, xs.toArray, ts⟩, ty, pos, af, gd⟩ true := by exact wt0 rfl) : Gl P w0 F0 L ops Q (⟨some t, .call ⟨.value y, xs.toArray, ts⟩, ty, pos, af, gd⟩ :: rest) n env :=
  gl_yield hw (e_yield hy hv) hsel (fun w F1 F2 h1 _ hd hst => by rw [← hv2]; exact h i x w F1 F2 h1 hd hst) k

theorem gl_pI {p : Prop} (hp : p) (k : Gl P w0 F0 (pureR p :: L) ops Q rest n env) : Gl P w0 F0 L ops Q rest n env := fun w ⟨F, hF, hst⟩ => k w ⟨F, stars_pure_mk hp hF, hst⟩
theorem gc_pI {c : Code} {p : Prop} (hp : p) (k : Gc P w0 F0 (pureR p :: L) c Q n env) : Gc P w0 F0 L c Q n env := fun w ⟨F, hF, hst⟩ => k w ⟨F, stars_pure_mk hp hF, hst⟩
theorem gx_pure1 {e : Exit} {p : Prop} {L' : List Res} (hp : Pick L (pureR p) L') (k : p → Gx w0 F0 L Q e n env) : Gx w0 F0 L Q e n env := fun w hw => by
  have hw' := hw
  obtain ⟨F, hF, _⟩ := hw'
  obtain ⟨F1, h1, _⟩ := stars_pick hp hF
  exact k h1.2 w hw
/-- xs[lo:hi:max] of a slice. -/
theorem r_slice3 {d : Option Tmp} {ty : TypeId} {pos : String} {af : Array Edge} {gd : Option (Nat × Bool)} {x lo hi mx : Operand} {T e : TypeId} {a : Option Addr} {m c s l h u : Nat} {k1 k2 k3 : IntKind} (hx : ev n env x = .slice a m c) (ht : sliceT P T = some e) (hs : szT P e = some s)
    (hlo : ev n env lo = .int k1 l) (hhi : ev n env hi = .int k2 h) (hmx : ev n env mx = .int k3 u) (h1 : l ≤ h) (h2 : h ≤ u) (h3 : u ≤ c) :
    Runs P w0 F0 L n env ⟨d, .slice T x (some lo) (some hi) (some mx), ty, pos, af, gd⟩ (.slice (if u = l then a else a.map (·.add (l * s))) (h - l) (u - l)) := fun w _ => by
  have e1 : (Instr.sliceBounds true m c (some (.int k1 l)) (some (.int k2 h)) (some (.int k3 u))).run P w = .ok (l, h, u) w := by
    unfold Instr.sliceBounds
    have a1 : (0:Int) ≤ l ∧ (l:Int) ≤ h := ⟨by omega, by omega⟩
    have a2 : (0:Int) ≤ h ∧ (h:Int) ≤ u := ⟨by omega, by omega⟩
    have a3 : (0:Int) ≤ u ∧ (u:Int) ≤ c := ⟨by omega, by omega⟩
    simp [Instr.sliceBound, asIntOf, h1, h2, h3, Nat.not_lt.2 h1, Nat.not_lt.2 h2, Nat.not_lt.2 h3]
  simp [execOp, hx, hlo, hhi, hmx, Instr.sliceAt, run_underlying (run_sliceT ht), Instr.slice, e1, run_sz hs]

/-! ### A round's body -/
def zipE : List Tmp → List Value → Env → Env
  | t :: ts, v :: vs, e => zipE ts vs ((t, v) :: e)
  | _, _, e => e
theorem fr_zip {n : Fm} : ∀ (ts : List Tmp) (vs : List Value) (e : Env), { (fr n e) with tmps := (ts.zip vs).foldl (fun tmps (t, a) => tmps.setIfInBounds t a) (fr n e).tmps } = fr n (zipE ts vs e)
  | [], _, _ => by simp [zipE, fr]
  | _ :: _, [], _ => by simp [zipE, fr]
  | t :: ts, v :: vs, e => by
    have h : (fr n e).tmps.setIfInBounds t v = (fr n ((t, v) :: e)).tmps := by
      have := fr_put n e (some t) v
      simp only [Act.put, pu] at this
      exact congrArg Act.tmps this
    simp only [List.zip_cons_cons, List.foldl_cons, zipE]
    rw [h]
    exact fr_zip ts vs ((t, v) :: e)
/-- How a round ends. -/
def RoundP (w : World) (F : Nat → Prop) (l : Nat) (r : Loop) (I : Nat → List Res) (X : Nat → Code → List Res) (i : Nat) : Exit → Act → World → Prop
  | .normal, _, w' => St w F (lpR l r :: I (i + 1)) w'
  | .ret, _, w' => St w F (lpR l r :: X i .ret) w'
  | .exit id, _, w' => St w F (lpR l r :: X i (.exit id)) w'
  | _, _, _ => False
/-- The body is walked once the left sides are assigned. -/
def BegK (P : Program) (w : World) (F : Nat → Prop) (l : Nat) (r r' : Loop) (body : Code) (R : Exit → Act → World → Prop) (n : Fm) (a : Act) (w' : World) : Prop :=
  ∃ L env, a = fr n env ∧ St w F (lpR l r :: L) w' ∧ Gc P w F (lpR l r' :: L) body R n env
theorem gx_begin {l : Nat} {r r' : Loop} {body : Code} {R : Exit → Act → World → Prop} (h : Gc P w0 F0 (lpR l r' :: L) body R n env) : Gx w0 F0 (lpR l r :: L) (Exit.then (BegK P w0 F0 l r r' body R n) (fun _ _ _ => False)) .normal n env :=
  fun w hw => ⟨L, env, rfl, hw, h⟩
theorem gx_rdn {l : Nat} {r : Loop} {I : Nat → List Res} {X : Nat → Code → List Res} {i : Nat} (h : ∀ w, St w0 F0 L w → St w0 F0 (lpR l r :: I (i + 1)) w) : Gx w0 F0 L (RoundP w0 F0 l r I X i) .normal n env := h
theorem gx_rdr {l : Nat} {r : Loop} {I : Nat → List Res} {X : Nat → Code → List Res} {i : Nat} (h : ∀ w, St w0 F0 L w → St w0 F0 (lpR l r :: X i .ret) w) : Gx w0 F0 L (RoundP w0 F0 l r I X i) .ret n env := h
theorem gx_rde {l : Nat} {r : Loop} {I : Nat → List Res} {X : Nat → Code → List Res} {i id : Nat} (h : ∀ w, St w0 F0 L w → St w0 F0 (lpR l r :: X i (.exit id)) w) : Gx w0 F0 L (RoundP w0 F0 l r I X i) (.exit id) n env := h

/-! ### The statement -/
def IterAt (P : Program) {α β : Type} (gf : Nat) (lb : Array Value) (enc : Nat → α → Array Value) (G : Nat → α → List Res) (fin : β → Option Nat) (O : β → List Res) (vv : β → Value) (l : Nat) (J : Nat → Res) (Jx : Res) (w : World) (F : Nat → Prop) : Prop :=
  RoundsAt P l enc G J Jx w F → Calls P gf (#[.func (.yield l) #[] #[]] ++ lb) w (Post w F vv fun y => (match fin y with | some m => J m | none => Jx) :: O y)
theorem gc_range {g : Operand} {ps : Array Tmp} {assign body : Code} {gf : Nat} {lb : Array Value} {α β : Type} {enc : Nat → α → Array Value} {G : Nat → α → List Res}
    {own L' : List Res} {vv : β → Value} {fin : β → Option Nat} {O : β → List Res} (I : Nat → List Res) (X : Nat → Code → List Res) {ds : List Deferred} {nt : Nat}
    (hg : ev ⟨nt, ds, none⟩ env g = .func (.func gf) #[] lb) (eg : okCall P gf = true) (hsel : Sel L (own ++ I 0) L') (hsz : ∀ i x, (enc i x).size = ps.size)
    (hit : ∀ (l : Nat) (J : Nat → Res) (Jx : Res) w F1 F2, stars (own ++ [J 0]) w F1 → stars L' w F2 → (∀ k, F1 k → ¬ F2 k) → Stp w0 F0 w (fun k => F1 k ∨ F2 k) → IterAt P gf lb enc G fin O vv l J Jx w F1)
    (hrd : ∀ (l : Nat) (r r' : Loop) i x w F1 F2, stars (lpR l r :: (G i x ++ I i)) w F1 → stars L' w F2 → (∀ k, F1 k → ¬ F2 k) → Stp w0 F0 w (fun k => F1 k ∨ F2 k) →
      Gc P w F1 (lpR l r :: (G i x ++ I i)) assign (Exit.then (BegK P w F1 l r r' body (RoundP w F1 l r' I X i) ⟨nt, [], some l⟩) (fun _ _ _ => False)) ⟨nt, [], some l⟩ (zipE ps.toList (enc i x).toList env))
    (hdone : ∀ b y m, fin y = some m → Gx w0 F0 (dfR b :: (I m ++ O y) ++ L') Q .normal ⟨nt, mkD b :: ds, none⟩ env)
    (hstop : ∀ b y i c, fin y = none → Gc P w0 F0 (dfR b :: (X i c ++ O y) ++ L') c Q ⟨nt, mkD b :: ds, none⟩ env) : Gc P w0 F0 L (.rangeFunc g ps assign body) Q ⟨nt, ds, none⟩ env := by
  intro w hw
  refine wpIn_rangeFunc fun fn _ => ?_
  have hrun := run_enterLoop_outer (P := P) (w := w) fn (fr ⟨nt, ds, none⟩ env).tmps ps assign body
  have hl0 : ∀ st pe, ∃ r : Loop, r = { state := st, pending := pe, fn, tmps := (fr ⟨nt, ds, none⟩ env).tmps, params := ps, assign, body, defers := w.heap.size } := fun _ _ => ⟨_, rfl⟩
  obtain ⟨rec, hrec⟩ : ∃ rec : LoopState → Option Code → Loop, rec = fun st pe => { state := st, pending := pe, fn, tmps := (fr ⟨nt, ds, none⟩ env).tmps, params := ps, assign, body, defers := w.heap.size } := ⟨_, rfl⟩
  obtain ⟨F, hF, hst⟩ := hw
  obtain ⟨F1, F2, h1, h2, hE, hd⟩ := hsel.split hF
  have hlt1 := stars_lt h1
  have hlt2 := stars_lt h2
  obtain ⟨wa, hwa⟩ : ∃ wa, (w.alloc (.deferred (some []))).alloc (.loop (rec .ready none)) = wa := ⟨_, rfl⟩
  have hsize : wa.heap.size = w.heap.size + 2 := by rw [← hwa]; simp
  have hold : ∀ k, k < w.heap.size → wa.heap[k]? = w.heap[k]? := fun k hk => by
    rw [← hwa]
    exact (RowKit.Below.heap_alloc _ _ k (by simp; omega)).trans (RowKit.Below.heap_alloc w _ k hk)
  have hL1 : wa.heap[w.heap.size + 1]? = some (.loop (rec .ready none)) := by
    rw [← hwa]; have := World.alloc_heap_new (w.alloc (.deferred (some []))) (.loop (rec .ready none)); rwa [World.size_alloc] at this
  have hB1 : wa.heap[w.heap.size]? = some (.deferred (some [])) := by
    rw [← hwa]; exact (RowKit.Below.heap_alloc _ _ _ (by simp)).trans (World.alloc_heap_new w _)
  have hos : wa.os = w.os ∧ wa.tape = w.tape ∧ wa.output = w.output := by rw [← hwa]; exact ⟨rfl, rfl, rfl⟩
  have h1a : stars (own ++ I 0) wa F1 := stars_loc h1 fun k hk => hold k (hlt1 k hk)
  have h2a : stars L' wa F2 := stars_loc h2 fun k hk => hold k (hlt2 k hk)
  -- what the iterator is handed
  let F1a : Nat → Prop := fun k => k = w.heap.size + 1 ∨ F1 k
  have hown : stars (own ++ lpR (w.heap.size + 1) (rec .ready none) :: I 0) wa F1a :=
    stars_in1 ⟨fun k => k = w.heap.size + 1, F1, ⟨fun k => Iff.rfl, hL1⟩, h1a, fun k => Iff.rfl, fun k hk h => by have := hlt1 k h; omega⟩
  have hown := stars_tail hown
  have hda : ∀ k, F1a k → ¬ F2 k := fun k hk h => hk.elim (fun e => by have := hlt2 k h; omega) (fun h' => hd k h' h)
  let F2a : Nat → Prop := fun k => k = w.heap.size ∨ F2 k
  have h2d : stars (dfR w.heap.size :: L') wa F2a := ⟨fun k => k = w.heap.size, F2, ⟨fun k => Iff.rfl, hB1⟩, h2a, fun k => Iff.rfl, fun k hk h => by have := hlt2 k h; omega⟩
  have hda2 : ∀ k, F1a k → ¬ F2a k := fun k hk h => h.elim (fun e => hk.elim (fun e' => by omega) (fun h' => by have := hlt1 k h'; omega)) (hda k hk)
  have hsta : Stp w0 F0 wa (fun k => F1a k ∨ F2a k) :=
    ⟨hos.1.trans hst.os, hos.2.1.trans hst.tape, hos.2.2.trans hst.output, by rw [hsize]; have := hst.size; omega, fun k hk hn => (hold k (Nat.lt_of_lt_of_le hk hst.size)).trans (hst.block k hk hn),
      fun k hk => by
        have : F k ∨ w.heap.size ≤ k := by
          rcases hk with (h | h) | (h | h)
          · right; omega
          · exact .inl ((hE k).2 (.inl h))
          · right; omega
          · exact .inl ((hE k).2 (.inr h))
        rcases this with h | h
        · exact hst.own k h
        · right; have := hst.size; omega⟩
  let J : Nat → Res := fun i => allR (lpR (w.heap.size + 1) (rec .ready none) :: I i)
  let Jx : Res := exR fun i => exR fun c => allR (lpR (w.heap.size + 1) (rec .done (some c)) :: X i c)
  have hrounds : RoundsAt P (w.heap.size + 1) enc G J Jx wa F1a := by
    intro i x W G1 G2 g1 gd gst
    have g1' : stars (lpR (w.heap.size + 1) (rec .ready none) :: (G i x ++ I i)) W G1 := stars_out1 (stars_untail g1)
    have hl : W.heap[w.heap.size + 1]? = some (.loop (rec .ready none)) := by
      obtain ⟨A, B, ⟨_, h⟩, _⟩ := g1'
      exact h
    have hy := run_yield (P := P) (args := enc i x) hl (by rw [hrec]; exact hsz i x)
    rw [hrec] at hy
    have g2 : stars L' W F2 := stars_loc h2a fun k hk => gst.block k (by have := hlt2 k hk; omega) (fun h => hda k h hk)
    have gd2 : ∀ k, G1 k → ¬ F2 k := fun k hk h => (gst.own k (.inl hk)).elim (fun h' => hda k h' h) (fun h' => by have := hlt2 k h; omega)
    have hall : Stp w0 F0 W (fun k => G1 k ∨ F2 k) := (hsta.trans (gst.frame (F2 := F2a))).weak fun k hk => hk.elim (fun h => .inl (.inl h)) (fun h => .inr (.inr h))
    have hb := hrd (w.heap.size + 1) (rec .ready none) (rec .busy none) i x W G1 F2 g1' g2 gd2 hall
    refine ⟨fn, _, assign, body, hy, roundIn_of_wpIn trivial ?_⟩
    have hA : ({ tmps := ((ps.zip (enc i x)).foldl (fun tmps (t, a) => tmps.setIfInBounds t a) (fr ⟨nt, ds, none⟩ env).tmps), defers := [] } : Act) = fr ⟨nt, [], some (w.heap.size + 1)⟩ (zipE ps.toList (enc i x).toList env) := by
      rw [← fr_zip]
      simp only [fr, Act.mk.injEq, and_true]
      rw [← Array.foldl_toList, Array.toList_zip]
    have hb' := hb W (St.init g1')
    rw [← hA] at hb'
    refine wpIn_mono hb' ?_
    intro e a1 w1 hq
    cases e with
    | normal =>
      obtain ⟨L1, env1, rfl, hs1, hbody⟩ := hq
      obtain ⟨hl1, hs2⟩ := hs1.lp (r' := rec .busy none)
      refine ⟨_, run_beginRound hl1 (by rw [hrec]), ?_⟩
      have hbb := hbody _ (by rw [hrec] at hs2 ⊢; exact hs2)
      rw [hrec] at hbb ⊢
      refine wpIn_mono hbb ?_
      intro e2 a2 w2 hq2
      cases e2 with
      | normal =>
        obtain ⟨hl2, hs3⟩ := St.lp (r' := rec .ready none) hq2
        refine ⟨_, _, run_endRound none hl2, true, rfl, ?_⟩
        rw [hrec] at hs3
        simp only [J, hrec]
        obtain ⟨H, hH, hh⟩ := hs3
        exact ⟨H, stars_all_mk (by rw [List.append_nil]; exact hH), hh⟩
      | ret =>
        obtain ⟨hl2, hs3⟩ := St.lp (r' := rec .done (some .ret)) hq2
        refine ⟨_, _, run_endRound (some .ret) hl2, false, rfl, ?_⟩
        rw [hrec] at hs3
        obtain ⟨H, hH, hh⟩ := hs3
        exact ⟨H, stars_ex_mk i (stars_ex_mk Code.ret (stars_all_mk (by rw [List.append_nil, hrec]; exact hH))), hh⟩
      | exit id =>
        obtain ⟨hl2, hs3⟩ := St.lp (r' := rec .done (some (.exit id))) hq2
        refine ⟨_, _, run_endRound (some (.exit id)) hl2, false, rfl, ?_⟩
        rw [hrec] at hs3
        obtain ⟨H, hH, hh⟩ := hs3
        exact ⟨H, stars_ex_mk i (stars_ex_mk (Code.exit id) (stars_all_mk (by rw [List.append_nil, hrec]; exact hH))), hh⟩
      | goto t => exact hq2.elim
      | panic c => exact hq2.elim
      | outgrown => exact hq2.elim
    | exit id => exact hq.elim
    | ret => exact hq.elim
    | goto t => exact hq.elim
    | panic c => exact hq.elim
    | outgrown => exact hq.elim
  have hcall := hit (w.heap.size + 1) J Jx wa F1a F2 hown h2a hda (hsta.weak fun k hk => hk.elim .inl (fun h => .inr (.inr h))) hrounds
  refine ⟨w.heap.size + 1, [mkD w.heap.size], wa, { target := .fn (.func gf) lb, args := #[.func (.yield (w.heap.size + 1)) #[] #[]] }, wa, gf, #[.func (.yield (w.heap.size + 1)) #[] #[]] ++ lb, wa, ?_, ?_, ?_, ?_, ?_, ?_⟩
  · rw [show (FR (⟨nt, ds, none⟩ : Fm).ro).round = none from rfl, ← hwa, hrec]; exact hrun
  · have hg' : (fr ⟨nt, ds, none⟩ env).eval g = .func (.func gf) #[] lb := by rw [fr_eval]; exact hg
    simp only [resolve, hg']
    simp [go_sem]
  · intro f' _; trivial
  · unfold okCall at eg
    cases hp : P.funcs[gf]? with
    | none => simp [hp] at eg
    | some fn' =>
      cases hb : fn'.body with
      | none => simp [hp, hb] at eg
      | some c =>
        have hn : ¬ fn'.name = "runtime.NumGoroutine" := by simpa [hp, hb] using eg
        simp [invoke, callFunc, program, Sem.run, hp, hb, hn]
  · exact deep_FR _
  · refine callsIn_FR.2 (hcall.mono ?_)
    rintro e w2 ⟨y, rfl, hs⟩
    have hs2 := St.call hsta h2d (fun k => Iff.rfl) hda2 hs
    cases hy : fin y with
    | some m =>
      simp only [hy] at hs2
      have hs3 : St w0 F0 (lpR (w.heap.size + 1) (rec .ready none) :: ((I m ++ O y) ++ (dfR w.heap.size :: L'))) w2 := by
        obtain ⟨H, hH, hh⟩ := hs2
        exact ⟨H, by simpa using stars_all hH, hh⟩
      obtain ⟨hl, hs4⟩ := St.lp_out (o := .loop { (rec .ready none) with state := .exhausted }) hs3
      have hpe : (rec .ready none).pending = none := by rw [hrec]
      refine ⟨none, _, (run_endLoop (P := P) hl (by rw [hrec]; simp)).trans (congrArg (fun p => Result.ok p _) hpe), ?_⟩
      exact hdone w.heap.size y m hy _ (by
        obtain ⟨H, hH, hh⟩ := hs4
        exact ⟨H, stars_out1 hH, hh⟩)
    | none =>
      simp only [hy] at hs2
      obtain ⟨H, hH, hh⟩ := hs2
      obtain ⟨i, hH⟩ := stars_ex hH
      obtain ⟨c, hH⟩ := stars_ex hH
      have hH := stars_all hH
      have hs3 : St w0 F0 (lpR (w.heap.size + 1) (rec .done (some c)) :: ((X i c ++ O y) ++ (dfR w.heap.size :: L'))) w2 := ⟨H, by simpa using hH, hh⟩
      obtain ⟨hl, hs4⟩ := St.lp_out (o := .loop { (rec .done (some c)) with state := .exhausted }) hs3
      have hpe : (rec .done (some c)).pending = some c := by rw [hrec]
      refine ⟨some c, _, (run_endLoop (P := P) hl (by rw [hrec]; simp)).trans (congrArg (fun p => Result.ok p _) hpe), ?_⟩
      exact hstop w.heap.size y i c hy _ (by
        obtain ⟨H, hH, hh⟩ := hs4
        exact ⟨H, stars_out1 hH, hh⟩)

theorem gc_noway {c : Code} {b : Nat} {O L' : List Res} : Gc P w0 F0 (dfR b :: ([pureR False] ++ O) ++ L') c Q n env := fun w hw => by
  obtain ⟨F, hF, _⟩ := hw
  obtain ⟨F1, F2, _, h2, _⟩ := hF
  exact (stars_pure h2).1.elim

theorem gx_thenM {n m : Fm} {y : Code} {Q' : Exit → Act → World → Prop} (h : Gc P w0 F0 L y Q n env) (hr : m.ro = n.ro := by rfl) : Gx w0 F0 L (Exit.then (cwp m P y Q) Q') .normal n env := fun w hw => by
  show y.wpIn (FR m.ro) 0 P Q _ w
  rw [hr]; exact h w hw

/-! ### A function that holds such a statement -/
def bodyPostN (P : Program) (fn : Func) (R : Ending → World → Prop) : Exit → Act → World → Prop
  | .normal, a, w | .ret, a, w => LeavesInM (FR none) 0 P fn a.tmps R a.defers .returning w
  | _, _, _ => False
theorem g_enterM {f : FuncId} {fn : Func} {c : Code} {args : Array Value} {w : World} {F : Nat → Prop} {R : Ending → World → Prop} (hf : P.funcs[f]? = some fn) (hb : fn.body = some c)
    (hs : stars L w F) {nt : Nat} (hnt : fn.ntmps = nt) (hn : Nat.ble args.size nt = true) (henv : enumE 0 args.toList = env) (h : Gc P w F L c (bodyPostN P fn R) ⟨nt, [], none⟩ env) : Calls P f args w R :=
  callsIn_FR.1 (callsIn_of_wp_marks (F := FR none) (n := 0) hf hb trivial (by subst hnt; subst henv; rw [fr_init _ _ (by exact Nat.le_of_ble_eq_true hn)]; exact wpIn_mono (h w (St.init hs)) (fun e a w' hq => by cases e <;> first | exact hq | exact hq.elim)))
theorem gx_mark {fn : Func} {R : Ending → World → Prop} {b nt : Nat} {ds : List Deferred} {ro : Option Nat} {L' : List Res} (hp : Pick L (dfR b) L') (h : Gx w0 F0 L' (bodyPostN P fn R) .ret ⟨nt, ds, ro⟩ env) : Gx w0 F0 L (bodyPostN P fn R) .ret ⟨nt, mkD b :: ds, ro⟩ env := fun w hw => by
  obtain ⟨hb, hs⟩ := hw.df_out (o := .deferred none) hp
  exact ⟨by simp, .inl ⟨b, _, rfl, run_takeDeferred hb, h _ hs⟩⟩
theorem gx_mark' {fn : Func} {R : Ending → World → Prop} {b nt : Nat} {ds : List Deferred} {ro : Option Nat} {L' : List Res} (hp : Pick L (dfR b) L') (h : Gx w0 F0 L' (bodyPostN P fn R) .normal ⟨nt, ds, ro⟩ env) : Gx w0 F0 L (bodyPostN P fn R) .normal ⟨nt, mkD b :: ds, ro⟩ env := fun w hw => by
  obtain ⟨hb, hs⟩ := hw.df_out (o := .deferred none) hp
  exact ⟨by simp, .inl ⟨b, _, rfl, run_takeDeferred hb, h _ hs⟩⟩
theorem gx_mark0 {fn : Func} {R : Ending → World → Prop} {nt : Nat} {ro : Option Nat} (h : Gx w0 F0 L (bodyPost P fn R) .ret ⟨nt, [], ro⟩ env) : Gx w0 F0 L (bodyPostN P fn R) .ret ⟨nt, [], ro⟩ env := fun w hw => (h w hw).2
theorem gx_mark0' {fn : Func} {R : Ending → World → Prop} {nt : Nat} {ro : Option Nat} (h : Gx w0 F0 L (bodyPost P fn R) .normal ⟨nt, [], ro⟩ env) : Gx w0 F0 L (bodyPostN P fn R) .normal ⟨nt, [], ro⟩ env := fun w hw => (h w hw).2
end
end Go.Proofs.YtobjojeliibinaaDoor

/- The engine, part U: regions that draw their order, the last operations (one by one behind all others) free of what is kept. -/
namespace Go.Proofs.YtobjojeliibinaaDoor
open Go
set_option linter.unusedVariables false
set_option linter.unusedSimpArgs false
section tail
variable {ro : Option Nat} {P : Program} {ops : Array Oper} {Q : Exit → Act → World → Prop} {md : Region.Mode} {S : World → Prop} {z : Nat}
/-- The operations from z on wait for all ahead of z, and each for the one ahead of it. -/
def tailU (md : Region.Mode) (ops : Array Oper) (z : Nat) : Bool := Nat.blt z ops.size && (List.range ops.size).all fun i => Nat.blt i z || match ops[i]? with
  | some o => ((List.range z).all fun j => o.after.any fun e => Region.binds md e && Nat.beq e.on j) && (Nat.beq i z || o.after.any fun e => Region.binds md e && Nat.beq e.on (i - 1))
  | none => false
def listedU (m z : Nat) : Array Bool := ((List.replicate z true) ++ (List.replicate (m - z) false)).toArray
theorem listedU_lo {m z i : Nat} (h : i < z) : (listedU m z)[i]? = some true := by
  simp only [listedU, List.getElem?_toArray]
  rw [List.getElem?_append_left (by simpa using h), List.getElem?_replicate, if_pos h]
theorem listedU_hi {m z i : Nat} (h : z ≤ i) (hm : i < m) : (listedU m z)[i]? = some false := by
  simp only [listedU, List.getElem?_toArray]
  rw [List.getElem?_append_right (by simpa using h), List.getElem?_replicate, if_pos (by simp; omega)]
theorem tailU_at (h : tailU md ops z = true) {i : Nat} (hi : i < ops.size) (hz : z ≤ i) : ∃ o, ops[i]? = some o ∧ (∀ j, j < z → ∃ e ∈ o.after, Region.binds md e = true ∧ e.on = j) ∧ (i ≠ z → ∃ e ∈ o.after, Region.binds md e = true ∧ e.on = i - 1) := by
  simp only [tailU, Bool.and_eq_true] at h
  have h2 := List.all_eq_true.1 h.2 i (List.mem_range.2 hi)
  cases ho : ops[i]? with
  | none => simp [ho, Nat.not_lt.2 hz] at h2
  | some o =>
    simp only [ho, Bool.or_eq_true, Nat.blt_eq, Bool.and_eq_true] at h2
    rcases h2 with h2 | ⟨h3, h4⟩
    · omega
    · refine ⟨o, rfl, fun j hj => ?_, fun hne => ?_⟩
      · obtain ⟨e, he, hb⟩ := Array.any_eq_true'.1 (List.all_eq_true.1 h3 j (List.mem_range.2 hj))
        simp only [Bool.and_eq_true] at hb
        exact ⟨e, he, hb.1, Nat.eq_of_beq_eq_true hb.2⟩
      · rcases h4 with h4 | h4
        · exact absurd (Nat.eq_of_beq_eq_true h4) hne
        · obtain ⟨e, he, hb⟩ := Array.any_eq_true'.1 h4
          simp only [Bool.and_eq_true] at hb
          exact ⟨e, he, hb.1, Nat.eq_of_beq_eq_true hb.2⟩
def InvU (ops : Array Oper) (z : Nat) (listed : Array Bool) : Prop := listed.size = ops.size ∧ ∀ i, z ≤ i → i < ops.size → listed[i]? = some false
theorem getD_some {listed : Array Bool} {i : Nat} (hi : i < listed.size) (h : listed.getD i false = true) : listed[i]? = some true := by
  rw [Array.getElem?_eq_getElem hi]
  simpa [hi] using h
theorem tailU_ready (h : tailU md ops z = true) {listed : Array Bool} (hi : InvU ops z listed) (hz : z ∈ Region.ready md ops listed) : listed = listedU ops.size z := by
  have hlt : z < ops.size := ready_lt hz
  obtain ⟨o, ho, h1, _⟩ := tailU_at h hlt (Nat.le_refl z)
  obtain ⟨_, o', ho', hall⟩ := mem_ready.1 hz
  rw [ho] at ho'
  cases ho'
  apply Array.ext_getElem?
  intro i
  have hs : (listedU ops.size z).size = ops.size := by simp [listedU]; omega
  by_cases hm : i < ops.size
  · by_cases hiz : i < z
    · obtain ⟨e, he, hb, hon⟩ := h1 i hiz
      have := hall e he hb
      rw [hon] at this
      rw [getD_some (by rw [hi.1]; exact hm) this, listedU_lo hiz]
    · rw [hi.2 i (by omega) hm, listedU_hi (by omega) hm]
  · rw [Array.getElem?_eq_none (by rw [hi.1]; omega), Array.getElem?_eq_none (by rw [hs]; omega)]
theorem tailU_not (h : tailU md ops z = true) {listed : Array Bool} (hi : InvU ops z listed) {i : Nat} (hr : i ∈ Region.ready md ops listed) (hz : z < i) : False := by
  have hlt := ready_lt hr
  obtain ⟨o, ho, _, h2⟩ := tailU_at h hlt (by omega)
  obtain ⟨_, o', ho', hall⟩ := mem_ready.1 hr
  rw [ho] at ho'
  cases ho'
  obtain ⟨e, he, hb, hon⟩ := h2 (by omega)
  have h3 := hall e he hb
  rw [hon] at h3
  have := getD_some (by rw [hi.1]; omega) h3
  rw [hi.2 (i - 1) (by omega) (by omega)] at this
  cases this
theorem wpAnyIn_of_seqU {Q' : Exit → Act → World → Prop} (x : Nat) : ∀ (l : List Oper) (k : Nat) (listed : Array Bool) (a : Act) (w : World), (∀ j, l[j]? = ops[k + j]?) →
    Region.seqB md ops l.length k listed = true → wpListIn (FR ro) 0 P ops Q' l a w → wpAnyIn (FR ro) 0 P md ops Q' (l.length + x) listed a w
  | [], k, listed, a, w, _, hB, h => wpAnyIn_done' (by simpa [Region.seqB] using hB) h _
  | o :: l, k, listed, a, w, hl, hB, h => by
    have h0 : ops[k]? = some o := by simpa using (hl 0).symm
    simp only [List.length_cons, Region.seqB, Bool.and_eq_true, decide_eq_true_eq] at hB
    rw [show (o :: l).length + x = (l.length + x) + 1 by simp; omega]
    refine ⟨fun h1 => (by rw [hB.1] at h1; cases h1), fun i hi => ?_⟩
    rw [hB.1] at hi
    have hik : i = k := by simpa using hi
    subst hik
    have hw : wpOpIn (FR ro) 0 P ops Q' i (wpListIn (FR ro) 0 P ops Q' l) a w := by unfold wpOpIn; simp only [h0]; exact h
    exact wpOpIn_mono (fun a' w' h' => wpAnyIn_of_seqU x l (i + 1) _ a' w' (fun j => by have := hl (j + 1); simpa [Nat.add_assoc, Nat.add_comm 1 j] using this) hB.2 h') hw
theorem wpAnyIn_of_tailU (h : tailU md ops z = true) (hseq : Region.seqB md ops (ops.size - z) z (listedU ops.size z) = true) : ∀ (fuel : Nat) (listed : Array Bool) (a : Act) (w : World), InvU ops z listed →
    wpAnyT ro P md ops Q S z (wpListIn (FR ro) 0 P ops Q (ops.toList.drop z)) fuel listed a w → wpAnyIn (FR ro) 0 P md ops Q (fuel + (ops.size - z)) listed a w
  | 0, listed, a, w, hi, H => by
    have hz : z ∈ Region.ready md ops listed := by rw [H.1]; simp
    rw [tailU_ready h hi hz, Nat.zero_add]
    have := wpAnyIn_of_seqU (ro := ro) (Q' := Q) 0 (ops.toList.drop z) z (listedU ops.size z) a w (fun j => by simp [List.getElem?_drop]) (by simpa using hseq) H.2
    simpa using this
  | fuel + 1, listed, a, w, hi, H => by
    by_cases hz : z ∈ Region.ready md ops listed
    · have hl := tailU_ready h hi hz
      have hone : Region.ready md ops listed = [z] := by
        have hn := ready_nodup (md := md) (ops := ops) (listed := listed)
        have hall : ∀ i ∈ Region.ready md ops listed, i = z := fun i hr => by
          rcases Nat.lt_trichotomy i z with hlt | he | hgt
          · exfalso
            have h1 := (mem_ready.1 hr).1
            rw [hl] at h1
            have hm := ready_lt hr
            have h2 := listedU_lo (m := ops.size) hlt
            rw [Array.getD_eq_getD_getElem?, h2] at h1
            cases h1
          · exact he
          · exact (tailU_not h hi hr hgt).elim
        generalize Region.ready md ops listed = r at *
        match r with
        | [] => cases hz
        | [y] => rw [hall y (by simp)]
        | y :: y' :: r' =>
          have h1 := hall y (by simp)
          have h2 := hall y' (by simp)
          subst h1; subst h2
          simp at hn
      have hT := H.1 hone
      rw [hl]
      have := wpAnyIn_of_seqU (ro := ro) (Q' := Q) (fuel + 1) (ops.toList.drop z) z (listedU ops.size z) a w (fun j => by simp [List.getElem?_drop]) (by simpa using hseq) hT
      rw [show fuel + 1 + (ops.size - z) = (ops.toList.drop z).length + (fuel + 1) by simp; omega]
      exact this
    · rw [show fuel + 1 + (ops.size - z) = (fuel + (ops.size - z)) + 1 by omega]
      refine ⟨fun h0 => absurd h0 H.2.1, fun i hr => ?_⟩
      have hne : i ≠ z := fun e => hz (e ▸ hr)
      refine wpOpIn_mono (fun a' w' h' => wpAnyIn_of_tailU h hseq fuel _ a' w' ⟨by simpa using hi.1, fun k hk hm => ?_⟩ h'.2) (H.2.2 i hr hne)
      have hik : i ≠ k := fun e => by
        subst e
        rcases Nat.lt_or_ge z i with hgt | hle
        · exact tailU_not h hi hr hgt
        · omega
      rw [Array.getElem?_setIfInBounds_ne hik]
      exact hi.2 k hk hm
end tail
def Gu (P : Program) (w0 : World) (F0 : Nat → Prop) (K L : List Res) (ops : Array Oper) (Q : Exit → Act → World → Prop) (z fuel : Nat) (listed : Array Bool) (n : Fm) (env : Env) : Prop :=
  ∀ w, St w0 F0 L w → wpAnyT n.ro P .any ops Q (St w0 F0 K) z (wpListIn (FR n.ro) 0 P ops Q (ops.toList.drop z)) fuel listed (fr n env) w
def NextU (P : Program) (w0 : World) (F0 : Nat → Prop) (K : List Res) (ops : Array Oper) (Q : Exit → Act → World → Prop) (z fuel : Nat) (listed : Array Bool) (n : Fm) (a : Act) (w : World) : Prop :=
  St w0 F0 K w ∧ wpAnyT n.ro P .any ops Q (St w0 F0 K) z (wpListIn (FR n.ro) 0 P ops Q (ops.toList.drop z)) fuel listed a w
section heldu
variable {P : Program} {w0 : World} {F0 : Nat → Prop} {K L : List Res} {Q : Exit → Act → World → Prop} {n : Fm} {env : Env} {ops : Array Oper} {listed : Array Bool} {fuel z : Nat}
theorem gc_regionU {id : Nat} {l : List Oper} (z : Nat) (K : List Res) (h : Gu P w0 F0 K L l.toArray Q z z (Array.replicate l.length false) n env) (hm : P.follows .mixedOrders = true := by kernel_rfl) (hz : tailU .any l.toArray z = true := by kernel_rfl)
    (hs : Region.seqB .any l.toArray (l.length - z) z (listedU l.length z) = true := by kernel_rfl) : Gc P w0 F0 L (.region id l.toArray true) Q n env := fun w hw =>
  wpIn_region_any hm (by
    have hlt : z < l.length := by
      have := hz
      simp only [tailU, Bool.and_eq_true, Nat.blt_eq, List.size_toArray] at this
      exact this.1
    have := wpAnyIn_of_tailU (ops := l.toArray) hz (by simpa using hs) _ (Array.replicate l.length false) _ _ ⟨by simp, fun i _ hi => by simp at hi; simp [hi]⟩ (h _ (hw.drawn (w.drawn + 1)))
    rw [show z + (l.toArray.size - z) = l.toArray.size by simp; omega] at this
    simpa using this)
theorem ypu (i : Nat) {t : Tmp} {op : Op} {ty : TypeId} {pos : String} {af : Array Edge} {gd : Option (Nat × Bool)} {v : Value} {L' : List Res} (hi : ops[i]? = some ⟨some t, op, ty, pos, af, gd⟩) (hR : Runs P w0 F0 K n env ⟨some t, op, ty, pos, af, gd⟩ v)
    (k : Gu P w0 F0 K L ops Q z fuel (listed.setIfInBounds i true) n ((t, v) :: env)) (hw : Wt ops n env ⟨some t, op, ty, pos, af, gd⟩ true := by first | exact wt0 rfl | exact wtgT rfl rfl rfl rfl) (hsel : Sel L K L' := by repeat (first | exact Sel.nil | (apply Sel.cons; · (repeat (first | exact Pick.here | apply Pick.there)))))
    (hs : Region.noSelect ops = true := by kernel_rfl) (hd : noDef ops = true := by kernel_rfl) (hf : Region.free .any ops listed i = true := by kernel_rfl) (hr : (Region.ready .any ops listed).contains i = true := by kernel_rfl) (hz : Nat.beq i z = false := by kernel_rfl)
    (hQ : ∀ c a w, Q (.panic c) (a.put (some t) v) w → Q (.panic c) a w := by exact fun _ _ _ h => h) : Gu P w0 F0 K L ops Q z (fuel + 1) listed n env := fun w hst =>
  wpAnyT_first hi (fun e => by subst e; simp at hz) (Region.noSelect_spec hs) hd hQ fuel listed _ _ (Region.free_spec hi hf) (by simpa using hr) (.inl ⟨hw, fun w' hw' => by rw [fr_eval]; exact hR w' hw'⟩) (hst.sel hsel) (by rw [fr_put]; exact k w hst)
theorem ynu (i : Nat) {t : Tmp} {op : Op} {ty : TypeId} {pos : String} {af : Array Edge} {gd : Option (Nat × Bool)} {L' : List Res} (hi : ops[i]? = some ⟨some t, op, ty, pos, af, gd⟩)
    (k : Gu P w0 F0 K L ops Q z fuel (listed.setIfInBounds i true) n ((t, undef) :: env)) (hw : Wt ops n env ⟨some t, op, ty, pos, af, gd⟩ false := by first | exact wtgF rfl rfl rfl rfl rfl | exact wtu rfl rfl rfl rfl) (hsel : Sel L K L' := by repeat (first | exact Sel.nil | (apply Sel.cons; · (repeat (first | exact Pick.here | apply Pick.there)))))
    (hs : Region.noSelect ops = true := by kernel_rfl) (hd : noDef ops = true := by kernel_rfl) (hf : Region.free .any ops listed i = true := by kernel_rfl) (hr : (Region.ready .any ops listed).contains i = true := by kernel_rfl) (hz : Nat.beq i z = false := by kernel_rfl)
    (hQ : ∀ c a w, Q (.panic c) (a.put (some t) undef) w → Q (.panic c) a w := by exact fun _ _ _ h => h) : Gu P w0 F0 K L ops Q z (fuel + 1) listed n env := fun w hst =>
  wpAnyT_first hi (fun e => by subst e; simp at hz) (Region.noSelect_spec hs) hd hQ fuel listed _ _ (Region.free_spec hi hf) (by simpa using hr) (.inr ⟨hw, rfl⟩) (hst.sel hsel) (by rw [fr_put]; exact k w hst)
theorem you (i : Nat) {o : Oper} (hi : ops[i]? = some o) (k : Gl P w0 F0 L ops (Exit.then (NextU P w0 F0 K ops Q z fuel (listed.setIfInBounds i true) n) Q) [o] n env) (hr : Region.ready .any ops listed = [i] := by kernel_rfl) (hz : Nat.beq i z = false := by kernel_rfl) : Gu P w0 F0 K L ops Q z (fuel + 1) listed n env := fun w hst =>
  ⟨fun h => (by rw [hr] at h; simp only [List.cons.injEq, and_true] at h; subst h; simp at hz), by rw [hr]; simp, fun j hj _ => by
    rw [hr] at hj
    obtain rfl : j = i := by simpa using hj
    exact wpOpIn_of_list hi (k w hst)⟩
theorem you2 (i j : Nat) {o o2 : Oper} (hi : ops[i]? = some o) (hj : ops[j]? = some o2) (k : Gl P w0 F0 L ops (Exit.then (NextU P w0 F0 K ops Q z fuel (listed.setIfInBounds i true) n) Q) [o] n env)
    (k2 : Gl P w0 F0 L ops (Exit.then (NextU P w0 F0 K ops Q z fuel (listed.setIfInBounds j true) n) Q) [o2] n env) (hr : Region.ready .any ops listed = [i, j] := by kernel_rfl) : Gu P w0 F0 K L ops Q z (fuel + 1) listed n env := fun w hst =>
  ⟨fun h => (by rw [hr] at h; simp at h), by rw [hr]; simp, fun x hx _ => by
    rw [hr] at hx
    simp only [List.mem_cons, List.not_mem_nil, or_false] at hx
    rcases hx with rfl | rfl
    · exact wpOpIn_of_list hi (k w hst)
    · exact wpOpIn_of_list hj (k2 w hst)⟩
theorem yxu {L' : List Res} {Q' : Exit → Act → World → Prop} (k : Gu P w0 F0 K L ops Q z fuel listed n env) (hsel : Sel L K L' := by repeat (first | exact Sel.nil | (apply Sel.cons; · (repeat (first | exact Pick.here | apply Pick.there))))) : Gl P w0 F0 L ops (Exit.then (NextU P w0 F0 K ops Q z fuel listed n) Q') [] n env := gl_nil fun w hw => ⟨hw.sel hsel, k w hw⟩
/-- The last ones. -/
theorem yzu {l : List Oper} (k : Gl P w0 F0 L ops Q l n env) (hl : ops.toList.drop z = l := by rfl) (hr : Region.ready .any ops listed = [z] := by kernel_rfl) : Gu P w0 F0 K L ops Q z 0 listed n env := fun w hst => ⟨hr, by rw [hl]; exact k w hst⟩
end heldu
end Go.Proofs.YtobjojeliibinaaDoor

/- The engine, part N: maps. -/
namespace Go.Proofs.YtobjojeliibinaaDoor
open Go
set_option linter.unusedVariables false
set_option linter.unusedSimpArgs false
set_option linter.unusedSectionVars false

/-! ### Rows of keys and values -/
section rows
variable {α : Type} [DecidableEq α]
def atK (k : α) : List (α × Value) → Nat → Option (Nat × Value)
  | [], _ => none
  | p :: l, i => if k = p.1 then some (i, p.2) else atK k l (i + 1)
def getK (k : α) (l : List (α × Value)) : Option Value := (atK k l 0).map (·.2)
def putK (k : α) (v : Value) : List (α × Value) → List (α × Value)
  | [] => [(k, v)]
  | p :: l => if k = p.1 then (k, v) :: l else p :: putK k v l
def delK (k : α) : List (α × Value) → List (α × Value)
  | [] => []
  | p :: l => if k = p.1 then l else p :: delK k l
def encK (K : α → Value) (l : List (α × Value)) : List (Value × Value) := l.map fun p => (K p.1, p.2)
theorem encK_length (K : α → Value) (l : List (α × Value)) : (encK K l).length = l.length := by simp [encK]
theorem encK_nil (K : α → Value) : encK K [] = [] := rfl
theorem atK_none {k : α} {v : Value} : ∀ {l : List (α × Value)} {i : Nat}, atK k l i = none → putK k v l = l ++ [(k, v)] ∧ delK k l = l
  | [], _, _ => ⟨rfl, rfl⟩
  | p :: l, i, h => by
    simp only [atK] at h
    split at h
    · cases h
    · rename_i hne
      have ih := atK_none (v := v) h
      simp only [putK, delK, if_neg hne, ih.1, ih.2, List.cons_append, and_self]
theorem atK_some {k : α} {v u : Value} : ∀ {l : List (α × Value)} {i j : Nat}, atK k l i = some (j, u) → ∃ m, j = i + m ∧ l[m]? = some (k, u) ∧ putK k v l = l.set m (k, v) ∧ delK k l = l.eraseIdx m
  | [], _, _, h => by cases h
  | p :: l, i, j, h => by
    simp only [atK] at h
    split at h
    · rename_i he
      simp only [Option.some.injEq, Prod.mk.injEq] at h
      obtain ⟨rfl, rfl⟩ := h
      refine ⟨0, rfl, ?_, ?_, ?_⟩
      · simp [he]
      · simp only [putK, if_pos he, List.set_cons_zero]
      · simp only [delK, if_pos he, List.eraseIdx_cons_zero]
    · rename_i hne
      obtain ⟨m, h1, h2, h3, h4⟩ := atK_some (v := v) h
      refine ⟨m + 1, by omega, by simpa using h2, ?_, ?_⟩
      · simp only [putK, if_neg hne, h3, List.set_cons_succ]
      · simp only [delK, if_neg hne, h4, List.eraseIdx_cons_succ]
theorem getK_put (k k' : α) (v : Value) : ∀ (l : List (α × Value)) (i : Nat), (atK k' (putK k v l) i).map (·.2) = if k' = k then some v else (atK k' l i).map (·.2)
  | [], i => by
    by_cases h : k' = k <;> simp [putK, atK, h]
  | p :: l, i => by
    by_cases h : k = p.1
    · simp only [putK, if_pos h, atK]
      by_cases h' : k' = k
      · simp [h']
      · rw [if_neg h', if_neg h', if_neg (by rw [← h]; exact h')]
    · simp only [putK, if_neg h, atK]
      by_cases h' : k' = p.1
      · rw [if_pos h', if_pos h', if_neg (by rw [h']; exact fun e => h e.symm)]
      · rw [if_neg h', if_neg h', getK_put k k' v l (i + 1)]
end rows

/-! ### Maps in memory -/
def kvs (es : Array MapEntry) : List (Value × Value) := es.toList.map fun e => (e.key, e.val)
theorem kvs_length (es : Array MapEntry) : (kvs es).length = es.size := by simp [kvs]
/-- A map in block g: keys and values in the order in which they came. -/
def mapR (g : Nat) (l : List (Value × Value)) : Res where
  on w F := (∀ k, F k ↔ k = g) ∧ ∃ es clock, w.heap[g]? = some (.map es clock) ∧ kvs es = l ∧ (∀ x ∈ es.toList, x.born < clock) ∧ (es.toList.map (fun e : MapEntry => e.born)).Nodup
  loc := fun ⟨hF, es, clock, h, r⟩ hk => ⟨hF, es, clock, (hk g ((hF g).2 rfl)).trans h, r⟩
  ok := fun ⟨hF, es, clock, h, _⟩ k hk => by
    rw [(hF k).1 hk]
    exact ⟨_, h, trivial⟩
/-- A map in block g that an iterator in block b goes through: what is left. -/
def itR (b g : Nat) (l left : List (Value × Value)) (last : Option (Value × Value)) : Res where
  on w F := (∀ k, F k ↔ k = b ∨ k = g) ∧ b ≠ g ∧ ∃ es clock since c0 seen, w.heap[g]? = some (.map es clock) ∧ w.heap[b]? = some (.mapIter (some g) since seen c0) ∧ kvs es = l ∧ (∀ x ∈ es.toList, x.born < clock) ∧ (es.toList.map (fun e : MapEntry => e.born)).Nodup ∧
    (∀ x ∈ es.toList, x.born < since) ∧ since ≤ c0 ∧ since ≤ clock ∧ kvs (es.filter fun e => !seen.contains e.born) = left ∧ ∀ p, last = some p → c0 = clock ∧ ∃ e, e ∈ es.toList ∧ seen.back? = some e.born ∧ (e.key, e.val) = p
  loc := fun ⟨hF, hne, es, clock, since, c0, seen, h, hb, r⟩ hk => ⟨hF, hne, es, clock, since, c0, seen, (hk g ((hF g).2 (.inr rfl))).trans h, (hk b ((hF b).2 (.inl rfl))).trans hb, r⟩
  ok := fun ⟨hF, _, es, clock, since, c0, seen, h, hb, _⟩ k hk => by
    rcases (hF k).1 hk with rfl | rfl
    · exact ⟨_, hb, trivial⟩
    · exact ⟨_, h, trivial⟩
/-- Keys of type T that stand for those of α. -/
class KeyT (P : Program) (T : TypeId) {α : Type} [DecidableEq α] (K : α → Value) : Prop where
  check : ∀ (w : World) (b : Bool) (k : α), (Instr.checkKey b 10000 T (K k)).run P w = .ok () w
  find : ∀ (w : World) (k : α) (es : List MapEntry) (l : List (α × Value)), es.map (fun e => (e.key, e.val)) = encK K l → (Instr.findKey T (K k) es).run P w = .ok (atK k l 0) w
  stays : ∀ (w : World) (k : α), (Instr.keyThatStays (K k) (K k)).run P w = .ok (K k) w
theorem findNow_int {ty : TypeDesc} {kd : IntKind} (hty : ty = .int kd) (k : Int) : ∀ (es : List MapEntry) (l : List (Int × Value)) (i : Nat), es.map (fun e => (e.key, e.val)) = encK (Value.int kd) l → Instr.findNow ty (.int kd k) es i = some (atK k l i)
  | [], l, i, h => by
    cases l with
    | nil => rfl
    | cons p l => simp [encK] at h
  | e :: es, l, i, h => by
    cases l with
    | nil => simp [encK] at h
    | cons p l =>
      simp only [encK, List.map_cons, List.cons.injEq, Prod.mk.injEq] at h
      obtain ⟨⟨h1, h2⟩, h3⟩ := h
      subst hty
      simp only [Instr.findNow, h1, Instr.sameNow, if_pos, atK, h2]
      by_cases hk : k = p.1
      · simp [hk]
      · simp only [hk, if_false, beq_eq_false_iff_ne.2 hk]
        exact findNow_int rfl k es l (i + 1) h3
theorem keyT_int {P : Program} {T : TypeId} {kd : IntKind} (h : P.underlying T = some (.int kd)) : KeyT P T (Value.int kd) where
  check w b k := by
    rw [show (10000 : Nat) = 9999 + 1 from rfl]
    exact MapKept.run_checkKey (d := .int kd) h (by rfl) b 9999
  find w k es l he := MapKept.run_findKey h (findNow_int rfl k es l 0 he)
  stays w k := by simp [Instr.keyThatStays, Instr.sameBits]
theorem findAsking_dig {P : Program} {T e : TypeId} (ht : arrT P T = some (16, e)) (he : P.underlying e = some (.int .u8)) (hs : szT P e = some 1) (w : World) (k : Dig) : ∀ (es : List MapEntry) (l : List (Dig × Value)) (i : Nat),
    es.map (fun e => (e.key, e.val)) = encK (fun d => Value.agg (dc d).toArray) l → (Instr.findAsking T (.agg (dc k).toArray) es i).run P w = .ok (atK k l i) w
  | [], l, i, h => by
    cases l with
    | nil => rfl
    | cons p l => simp [encK] at h
  | e' :: es, l, i, h => by
    cases l with
    | nil => simp [encK] at h
    | cons p l =>
      simp only [encK, List.map_cons, List.cons.injEq, Prod.mk.injEq] at h
      obtain ⟨⟨h1, h2⟩, h3⟩ := h
      have hq : (Op.equal T (.agg (dc k).toArray) (.agg (dc p.1).toArray)).run P w = .ok (decide (k = p.1)) w := run_equal_dig ht he hs
      simp only [Instr.findAsking, h1, Sem.run_bind, hq, Result.andThen_ok, atK, h2]
      by_cases hk : k = p.1
      · simp [hk]
      · simp only [hk, decide_false, if_false, Bool.false_eq_true]
        exact findAsking_dig ht he hs w k es l (i + 1) h3
theorem run_forIn_list {P : Program} {w : World} {f : Nat → PUnit → Sem (ForInStep PUnit)} : ∀ (l : List Nat), (∀ i ∈ l, (f i ⟨⟩).run P w = .ok (.yield ⟨⟩) w) → (forIn l ⟨⟩ f).run P w = .ok ⟨⟩ w
  | [], _ => by simp
  | i :: l, h => by
    have h1 := h i (by simp)
    have ih := run_forIn_list (f := f) l fun j hj => h j (by simp [hj])
    simp only [List.forIn_cons, Sem.run_bind, h1, Result.andThen_ok, ih]
theorem sameBits_zip (n : Nat) : ∀ (l : List UInt8), ((l.map B8).zip (l.map B8)).all (fun p => Instr.sameBits (n + 1) p.1 p.2) = true
  | [] => rfl
  | b :: l => by
    simp only [List.map_cons, List.zip_cons_cons, List.all_cons, sameBits_zip n l, Bool.and_true]
    simp [B8, Instr.sameBits]
theorem keyT_dig {P : Program} {T e : TypeId} (ht : arrT P T = some (16, e)) (he : P.underlying e = some (.int .u8)) (hs : szT P e = some 1) : KeyT P T (fun d : Dig => Value.agg (dc d).toArray) where
  check w b k := by
    have hr : rowT P e = some false := by simp [rowT, he]
    have hz : ∀ w, (sizeOf e).run P w = .ok 1 w := fun w => run_sz hs
    show (Instr.checkKey b (9999 + 1) T _).run P w = _
    unfold Instr.checkKey
    simp only [Sem.run_bind, run_underlying (run_arrT ht), Result.andThen_ok]
    simp only [Std.Legacy.Range.forIn_eq_forIn_range', Std.Legacy.Range.size, Nat.sub_zero, Nat.add_one_sub_one, Nat.div_one]
    rw [run_forIn_list]
    · rfl
    intro i hi
    have hi16 : i < (dc k).length := by
      have := List.mem_range'_1.1 hi
      rw [dc_length]; simp at this; omega
    have hv : (dc k)[i * 1]? = some (B8 (k.l.getD i 0)) := by
      have h2 : i < k.l.length := by rw [dc_length] at hi16; rw [k.h]; exact hi16
      simp [dc, List.getD, h2]
    simp only [Sem.run_bind, hz, Result.andThen_ok, run_part1 hr hv]
    unfold Instr.checkKey
    simp [run_underlying he, B8]
  find w k es l h := by
    have hu := run_arrT ht
    cases es with
    | nil =>
      cases l with
      | nil => simp [Instr.findKey, run_underlying hu, Instr.findNow, atK]
      | cons p l => simp [encK] at h
    | cons e1 es =>
      have : Instr.findNow (.array 16 e) (.agg (dc k).toArray) (e1 :: es) 0 = none := by simp [Instr.findNow, Instr.sameNow]
      simp only [Instr.findKey, Sem.run_bind, run_underlying hu, Result.andThen_ok, this]
      exact findAsking_dig ht he hs w k (e1 :: es) l 0 h
  stays w k := by
    have h : Instr.sameBits (9998 + 1 + 1) (.agg (dc k).toArray) (.agg (dc k).toArray) = true := by
      have := sameBits_zip 9998 k.l
      unfold Instr.sameBits
      simpa [dc] using this
    show ((if Instr.sameBits (9998 + 1 + 1) (.agg (dc k).toArray) (.agg (dc k).toArray) = true then _ else _ : Sem Value)).run P w = _
    rw [if_pos h]
    simp
section
variable {P : Program} {w0 : World} {F0 : Nat → Prop} {L : List Res}
theorem St.pushR {w : World} {o : Obj} {r : Res} (hs : St w0 F0 L w) (hr : ∀ w' : World, w'.heap[w.heap.size]? = some o → r.on w' (fun k => k = w.heap.size)) : St w0 F0 (r :: L) { w with heap := w.heap.push o } := by
  obtain ⟨F, hF, hst⟩ := hs
  refine ⟨fun k => k = w.heap.size ∨ F k, ⟨fun k => k = w.heap.size, F, hr _ (by simp), ?_, fun k => Iff.rfl, ?_⟩, ?_⟩
  · exact stars_loc hF fun k hk => by
      have := stars_lt hF k hk
      simp [Array.getElem?_push, Nat.ne_of_lt this]
  · rintro k rfl hk
    exact absurd (stars_lt hF _ hk) (Nat.lt_irrefl _)
  · have hsz := hst.size
    refine ⟨hst.os, hst.tape, hst.output, by simp; omega, fun k hk hn => ?_, ?_⟩
    · rw [← hst.block k hk hn]
      show (w.heap.push _)[k]? = _
      rw [Array.getElem?_push, if_neg (by omega)]
    · rintro k (rfl | hk)
      · exact .inr hsz
      · exact hst.own k hk
theorem St.setR {w : World} {g : Nat} {o' : Obj} {r r' : Res} {L' : List Res} (hs : St w0 F0 L w) (hp : Pick L r L') (hg : ∀ F, r.on w F → F g ∧ g < w.heap.size)
    (hr : ∀ (w' : World) F, r.on w F → w'.heap[g]? = some o' → (∀ k, k ≠ g → w'.heap[k]? = w.heap[k]?) → r'.on w' F) : St w0 F0 (r' :: L') { w with heap := w.heap.setIfInBounds g o' } := by
  obtain ⟨F, hF, hst⟩ := hs
  obtain ⟨F1, F2, h1, h2, hE, hd⟩ := hp.stars hF
  obtain ⟨hg1, hlt⟩ := hg F1 h1
  refine ⟨F, ⟨F1, F2, hr _ F1 h1 (by simp [hlt]) (fun k hk => by simp [Array.getElem?_setIfInBounds, Ne.symm hk]), ?_, hE, hd⟩, ?_⟩
  · refine stars_loc h2 fun k hk => ?_
    have : ¬ g = k := fun e => hd k (e ▸ hg1) hk
    simp [Array.getElem?_setIfInBounds, this]
  · refine ⟨hst.os, hst.tape, hst.output, by simpa using hst.size, fun k hk hn => ?_, hst.own⟩
    rw [← hst.block k hk hn]
    have : ¬ g = k := fun e => (hst.old hk hn).2 ((hE k).2 (.inl (e ▸ hg1)))
    simp [Array.getElem?_setIfInBounds, this]
theorem St.mapAt {w : World} {g : Nat} {l : List (Value × Value)} {L' : List Res} (hs : St w0 F0 L w) (hp : Pick L (mapR g l) L') : ∃ es clock, w.heap[g]? = some (.map es clock) ∧ kvs es = l ∧ (∀ x ∈ es.toList, x.born < clock) ∧ (es.toList.map (·.born)).Nodup := by
  obtain ⟨F, hF, _⟩ := hs
  obtain ⟨F1, h1, _⟩ := stars_pick hp hF
  exact h1.2
variable {Q : Exit → Act → World → Prop} {n : Fm} {env : Env} {ops : Array Oper} {rest : List Oper}
variable {d : Option Tmp} {t : Tmp} {ty : TypeId} {pos : String} {af : Array Edge} {gd : Option (Nat × Bool)}
theorem gl_mkMap {T : TypeId} (hw : Wt ops n env ⟨some t, .makeMap T none, ty, pos, af, gd⟩ true) (k : ∀ g, Gl P w0 F0 (mapR g [] :: L) ops Q rest n ((t, .map (some g)) :: env)) : Gl P w0 F0 L ops Q (⟨some t, .makeMap T none, ty, pos, af, gd⟩ :: rest) n env := by
  refine gl_effx (α := Nat) (L' := fun g => mapR g [] :: L) (v := fun g => .map (some g)) hw (fun w hst => ?_) k
  refine ⟨w.heap.size, { w with heap := w.heap.push (.map #[] 0) }, ?_, hst.pushR fun w' h => ⟨fun k => Iff.rfl, #[], 0, h, rfl, by simp, by simp⟩⟩
  simp [execOp, Instr.makeMap, newObj, Sem.run]
variable {α : Type} [DecidableEq α] {K : α → Value}
theorem r_look {x y : Operand} {T kt e g : Nat} {l : List (α × Value)} {L' : List Res} {z : Value} {key : α} {b : Bool} [KeyT P kt K] (hx : ev n env x = .map (some g)) (hy : ev n env y = K key) (hm : P.underlying T = some (.map kt e)) (hz : zeroT P e = some z) (hp : Pick L (mapR g (encK K l)) L') :
    Runs P w0 F0 L n env ⟨d, .lookup T x y b, ty, pos, af, gd⟩ (if b then .tuple #[(getK key l).getD z, .bool (getK key l).isSome] else (getK key l).getD z) := fun w hst => by
  obtain ⟨es, clock, hh, hk, _⟩ := hst.mapAt hp
  have hf := KeyT.find (P := P) (T := kt) (K := K) w key es.toList l hk
  have hc := KeyT.check (P := P) (T := kt) (K := K) w es.isEmpty key
  simp only [execOp, hx, hy, Instr.lookup, Sem.run_bind, run_underlying hm, Result.andThen_ok, MapKept.run_getObj_map hh, Sem.run_pure, hc, hf, getK]
  cases atK key l 0 with
  | none => simp only [Sem.run_bind, run_zeroT hz, Result.andThen_ok, Sem.run_pure]; cases b <;> rfl
  | some p => simp only [Sem.run_pure, Result.andThen_ok]; cases b <;> rfl
theorem kvs_modify {es : Array MapEntry} {m : Nat} {k v : Value} : kvs (es.modify m fun e => { e with key := k, val := v }) = (kvs es).set m (k, v) := by
  apply List.ext_getElem?
  intro i
  simp only [kvs, List.getElem?_map, Array.getElem?_toList, Array.getElem?_modify, List.getElem?_set, List.length_map, Array.length_toList]
  by_cases h : m = i
  · subst h
    by_cases hi : m < es.size
    · simp [hi]
    · simp [hi]
  · simp [h]
theorem born_modify {es : Array MapEntry} {m : Nat} {k v : Value} : (es.modify m fun e => { e with key := k, val := v }).toList.map (·.born) = es.toList.map (·.born) := by
  apply List.ext_getElem?
  intro i
  simp only [List.getElem?_map, Array.getElem?_toList, Array.getElem?_modify]
  by_cases h : m = i
  · subst h; cases es[m]? <;> simp
  · simp [h]
theorem all_born {es es' : Array MapEntry} {clock : Nat} (h : ∀ x ∈ es.toList, x.born < clock) (e : es'.toList.map (·.born) = es.toList.map (·.born)) : ∀ x ∈ es'.toList, x.born < clock := fun x hx => by
  have : x.born ∈ es.toList.map (·.born) := by rw [← e]; exact List.mem_map.2 ⟨x, hx, rfl⟩
  obtain ⟨y, hy, h2⟩ := List.mem_map.1 this
  rw [← h2]; exact h y hy
theorem encK_set {l : List (α × Value)} {m : Nat} {k : α} {v : Value} : encK K (l.set m (k, v)) = (encK K l).set m (K k, v) := by simp [encK, List.map_set]
theorem encK_append {l : List (α × Value)} {k : α} {v : Value} : encK K (l ++ [(k, v)]) = encK K l ++ [(K k, v)] := by simp [encK]
theorem encK_get {l : List (α × Value)} {m : Nat} {k : α} {v : Value} (h : l[m]? = some (k, v)) : (encK K l)[m]? = some (K k, v) := by simp [encK, h]
theorem gl_put {x y u : Operand} {T kt e g : Nat} {l : List (α × Value)} {L' : List Res} {key : α} {v : Value} [KeyT P kt K] (hw : Wt ops n env ⟨d, .mapUpdate T x y u, ty, pos, af, gd⟩ true) (hx : ev n env x = .map (some g)) (hy : ev n env y = K key) (hu : ev n env u = v)
    (hm : P.underlying T = some (.map kt e)) (hp : Pick L (mapR g (encK K l)) L') (k : Gl P w0 F0 (mapR g (encK K (putK key v l)) :: L') ops Q rest n (pu d undef env)) : Gl P w0 F0 L ops Q (⟨d, .mapUpdate T x y u, ty, pos, af, gd⟩ :: rest) n env :=
  gl_skip hw (fun w hst => by
    obtain ⟨es, clock, hh, hk, hb, hn⟩ := hst.mapAt hp
    have hlt : g < w.heap.size := (Array.getElem?_eq_some_iff.1 hh).1
    have hf := KeyT.find (P := P) (T := kt) (K := K) w key es.toList l hk
    have hc := KeyT.check (P := P) (T := kt) (K := K) w false key
    cases ha : atK key l 0 with
    | none =>
      refine ⟨{ w with heap := w.heap.setIfInBounds g (.map (es.push ⟨K key, v, clock⟩) (clock + 1)) }, ?_, ?_⟩
      · simp only [execOp, hx, hy, hu, Instr.mapUpdate, Sem.run_bind, run_underlying hm, Result.andThen_ok, MapKept.run_getObj_map hh, hc, hf, ha, MapKept.run_setObj_map _ hh]
        rfl
      · refine hst.setR hp (fun F h => ⟨(h.1 g).2 rfl, hlt⟩) (fun w' F h hg' _ => ⟨h.1, _, _, hg', ?_, ?_, ?_⟩)
        · rw [(atK_none (v := v) ha).1, encK_append, ← hk]; simp [kvs]
        · intro z hz
          simp only [Array.toList_push, List.mem_append, List.mem_singleton] at hz
          rcases hz with hz | rfl
          · have := hb z hz; omega
          · exact Nat.lt_succ_self _
        · simp only [Array.toList_push, List.map_append, List.map_cons, List.map_nil]
          refine List.nodup_append.2 ⟨hn, by simp, ?_⟩
          intro a ha' b hb' e
          obtain ⟨z, hz, rfl⟩ := List.mem_map.1 ha'
          simp only [List.mem_singleton] at hb'
          have := hb z hz
          omega
    | some p =>
      obtain ⟨j, u0⟩ := p
      obtain ⟨m, rfl, h2, h3, _⟩ := atK_some (v := v) ha
      rw [Nat.zero_add] at ha
      have hkey : ((es[m]?).map (·.key)).getD (K key) = K key := by
        have := encK_get (K := K) h2
        rw [← hk, kvs, List.getElem?_map, Array.getElem?_toList] at this
        cases he : es[m]? with
        | none => rfl
        | some e' => rw [he] at this; simp at this; simp [this.1]
      refine ⟨{ w with heap := w.heap.setIfInBounds g (.map (es.modify m fun e => { e with key := K key, val := v }) clock) }, ?_, ?_⟩
      · simp only [execOp, hx, hy, hu, Instr.mapUpdate, Sem.run_bind, run_underlying hm, Result.andThen_ok, MapKept.run_getObj_map hh, hc, hf, ha, hkey, KeyT.stays (P := P) (T := kt) (K := K), MapKept.run_setObj_map _ hh]
        rfl
      · refine hst.setR hp (fun F h => ⟨(h.1 g).2 rfl, hlt⟩) (fun w' F h hg' _ => ⟨h.1, _, _, hg', ?_, ?_, ?_⟩)
        · rw [kvs_modify, h3, encK_set, ← hk]
        · exact all_born hb born_modify
        · rw [born_modify]; exact hn) k
/-! ### Length, clearing, going through -/
theorem r_lenm {x : Operand} {T kt e g : Nat} {l : List (Value × Value)} {L' : List Res} (hx : ev n env x = .map (some g)) (hm : P.underlying T = some (.map kt e)) (hp : Pick L (mapR g l) L') :
    Runs P w0 F0 L n env ⟨d, .call ⟨.builtin .len, #[x], #[T]⟩, ty, pos, af, gd⟩ (.int .i64 (l.length : Int)) := fun w hst => by
  obtain ⟨es, clock, hh, hk, _⟩ := hst.mapAt hp
  have hl : es.size = l.length := by rw [← hk, kvs_length]
  simp [execOp, resolve, invoke, builtin, Builtin.len_, hx, run_underlying hm, MapKept.run_getObj_map hh, goInt, hl]
theorem gl_clear {x : Operand} {T kt e g : Nat} {l : List (Value × Value)} {L' : List Res} (hw : Wt ops n env ⟨d, .call ⟨.builtin .clear, #[x], #[T]⟩, ty, pos, af, gd⟩ true) (hx : ev n env x = .map (some g)) (hm : P.underlying T = some (.map kt e)) (hp : Pick L (mapR g l) L')
    (k : Gl P w0 F0 (mapR g [] :: L') ops Q rest n (pu d (.tuple #[]) env)) : Gl P w0 F0 L ops Q (⟨d, .call ⟨.builtin .clear, #[x], #[T]⟩, ty, pos, af, gd⟩ :: rest) n env :=
  gl_eff hw (fun w hst => by
    obtain ⟨es, clock, hh, hk, _⟩ := hst.mapAt hp
    have hlt : g < w.heap.size := (Array.getElem?_eq_some_iff.1 hh).1
    refine ⟨{ w with heap := w.heap.setIfInBounds g (.map #[] clock) }, ?_, hst.setR hp (fun F h => ⟨(h.1 g).2 rfl, hlt⟩) (fun w' F h hg' _ => ⟨h.1, _, _, hg', rfl, by simp, by simp⟩)⟩
    simp only [execOp, resolve, invoke, builtin, Builtin.clear_, hx]
    simp [run_underlying hm, MapKept.run_getObj_map hh, MapKept.run_setObj_map _ hh, hx, Builtin.clear_]) k
theorem St.pushR2 {w : World} {o : Obj} {r r' : Res} {L' : List Res} (hs : St w0 F0 L w) (hp : Pick L r L') (hr : ∀ (w' : World) F, r.on w F → w'.heap[w.heap.size]? = some o → (∀ k, k < w.heap.size → w'.heap[k]? = w.heap[k]?) → r'.on w' (fun k => k = w.heap.size ∨ F k)) :
    St w0 F0 (r' :: L') { w with heap := w.heap.push o } := by
  obtain ⟨F, hF, hst⟩ := hs
  have hlt := stars_lt hF
  obtain ⟨F1, F2, h1, h2, hE, hd⟩ := hp.stars hF
  have hold : ∀ k, k < w.heap.size → (w.heap.push o)[k]? = w.heap[k]? := fun k hk => by rw [Array.getElem?_push, if_neg (by omega)]
  refine ⟨fun k => k = w.heap.size ∨ F k, ⟨fun k => k = w.heap.size ∨ F1 k, F2, hr _ F1 h1 (by simp) hold, stars_loc h2 fun k hk => hold k (hlt k ((hE k).2 (.inr hk))), fun k => ?_, ?_⟩, ?_⟩
  · show (k = w.heap.size ∨ F k) ↔ ((k = w.heap.size ∨ F1 k) ∨ F2 k)
    rw [hE]; exact or_assoc.symm
  · rintro k (rfl | hk) h
    · exact absurd (hlt _ ((hE _).2 (.inr h))) (Nat.lt_irrefl _)
    · exact hd k hk h
  · have hsz := hst.size
    refine ⟨hst.os, hst.tape, hst.output, by simp; omega, fun k hk hn => ?_, ?_⟩
    · rw [← hst.block k hk hn]; exact hold k (by omega)
    · rintro k (rfl | hk)
      · exact .inr hsz
      · exact hst.own k hk
theorem filter_all {es : Array MapEntry} : es.filter (fun e => !(#[] : Array Nat).contains e.born) = es := by simp
theorem gl_range {x : Operand} {T kt e g : Nat} {l : List (Value × Value)} {L' : List Res} (hw : Wt ops n env ⟨some t, .range T x, ty, pos, af, gd⟩ true) (hx : ev n env x = .map (some g)) (hm : P.underlying T = some (.map kt e)) (hp : Pick L (mapR g l) L')
    (k : ∀ b, Gl P w0 F0 (itR b g l l none :: L') ops Q rest n ((t, .pointer (some ⟨b, 0, none⟩)) :: env)) : Gl P w0 F0 L ops Q (⟨some t, .range T x, ty, pos, af, gd⟩ :: rest) n env := by
  refine gl_effx (α := Nat) (L' := fun b => itR b g l l none :: L') (v := fun b => .pointer (some ⟨b, 0, none⟩)) hw (fun w hst => ?_) k
  obtain ⟨es, clock, hh, hk, hb, hn⟩ := hst.mapAt hp
  have hlt : g < w.heap.size := (Array.getElem?_eq_some_iff.1 hh).1
  refine ⟨w.heap.size, { w with heap := w.heap.push (.mapIter (some g) clock #[] clock) }, ?_, hst.pushR2 hp fun w' F h hnew hold => ⟨fun k => ?_, by omega, es, clock, clock, clock, #[], (hold g hlt).trans hh, hnew, hk, hb, hn, hb, Nat.le_refl _, Nat.le_refl _, by rw [filter_all]; exact hk, fun p hp => by cases hp⟩⟩
  · simp only [execOp, hx, Instr.range, Sem.run_bind, run_underlying hm, Result.andThen_ok, MapKept.run_getObj_map hh, Sem.run_pure]
    simp [newObj, Sem.run]
  · show (k = w.heap.size ∨ F k) ↔ _
    rw [h.1 k]
theorem St.drewR {w : World} (hs : St w0 F0 L w) : St w0 F0 L w.drew := by
  obtain ⟨F, hF, hst⟩ := hs
  exact ⟨F, stars_loc hF fun _ _ => rfl, ⟨hst.os, hst.tape, hst.output, hst.size, hst.block, hst.own⟩⟩
theorem choose_next (w : World) (m : Nat) (hm : 0 < m) : ∃ j w1, j < m ∧ (w1 = w ∨ w1 = w.drew) ∧ (choose (Question.mapNext m)).run P w = .ok j w1 := by
  by_cases hf : m ≤ 1
  · exact ⟨0, w, hm, .inl rfl, by simp [choose, Sem.run, Question.forced, hf]⟩
  · exact ⟨_, w.drew, Nat.mod_lt _ (by omega), .inr rfl, by
      simp only [choose, Sem.run, Question.forced, decide_eq_true_eq, hf, if_false, Question.cut]
      rfl⟩
theorem getObj_it {w : World} {r : Nat} {a : Option Nat} {b c : Nat} {s : Array Nat} (hb : w.heap[r]? = some (.mapIter a b s c)) : (getObj r).run P w = .ok (.mapIter a b s c) w := by simp [getObj, Sem.run, hb]
theorem setObj_it {w : World} {r : Nat} {a : Option Nat} {b c : Nat} {s : Array Nat} (o : Obj) (hb : w.heap[r]? = some (.mapIter a b s c)) : (setObj r o).run P w = .ok () { w with heap := w.heap.setIfInBounds r o } := by simp [setObj, Sem.run, hb]
theorem filter_split {p : MapEntry → Bool} {e : MapEntry} {A B l : List MapEntry} (hn : (l.map (fun e : MapEntry => e.born)).Nodup) (h : l.filter p = A ++ e :: B) : l.filter (fun x => p x && !(x.born == e.born)) = A ++ B := by
  have hs : (l.filter p).filter (fun x => !(x.born == e.born)) = A ++ B := by
    have hnf : ((l.filter p).map (fun e : MapEntry => e.born)).Nodup := hn.sublist ((List.filter_sublist).map _)
    rw [h] at hnf ⊢
    rw [List.map_append, List.map_cons] at hnf
    have h1 := List.nodup_append.1 hnf
    have h2 := List.nodup_cons.1 h1.2.1
    have hA : A.filter (fun x => !(x.born == e.born)) = A := List.filter_eq_self.2 fun x hx => by
      have := h1.2.2 x.born (List.mem_map.2 ⟨x, hx, rfl⟩) e.born (by simp)
      simpa using this
    have hB : B.filter (fun x => !(x.born == e.born)) = B := List.filter_eq_self.2 fun x hx => by
      have : x.born ≠ e.born := fun he => h2.1 (by rw [← he]; exact List.mem_map.2 ⟨x, hx, rfl⟩)
      simpa using this
    rw [List.filter_append, List.filter_cons, hA, hB]
    simp
  rw [← hs, List.filter_filter]
  congr 1
  funext x
  exact Bool.and_comm _ _
theorem gl_next {x : Operand} {b g : Nat} {l left : List (Value × Value)} {last : Option (Value × Value)} {L' : List Res} (hw : Wt ops n env ⟨some t, .next x false, ty, pos, af, gd⟩ true) (hx : ev n env x = .pointer (some ⟨b, 0, none⟩)) (hp : Pick L (itR b g l left last) L')
    (k0 : left = [] → Gl P w0 F0 L ops Q rest n ((t, .tuple #[.bool false]) :: env))
    (k1 : ∀ A p B, left = A ++ p :: B → Gl P w0 F0 (itR b g l (A ++ B) (some p) :: L') ops Q rest n ((t, .tuple #[.bool true, p.1, p.2]) :: env)) : Gl P w0 F0 L ops Q (⟨some t, .next x false, ty, pos, af, gd⟩ :: rest) n env := by
  intro w hst
  have hst0 := hst
  obtain ⟨F, hF, hstp⟩ := hst0
  obtain ⟨F1, F2, ⟨hFk, hne, es, clock, since, c0, seen, hh, hb, hk, hbn, hn, hold, hsc, hscl, hleft, _⟩, h2, hE, hd⟩ := hp.stars hF
  have hltb : b < w.heap.size := (Array.getElem?_eq_some_iff.1 hb).1
  have t1 := next_test_false seen es since c0 hold hsc
  have hmem : ∀ x ∈ (es.filter fun e => !seen.contains e.born), x.born < since := fun x hx => hold x (by simp at hx ⊢; exact hx.1)
  have e1 : (es.filter fun e => !seen.contains e.born).filter (fun x => decide (x.born < since)) = es.filter fun e => !seen.contains e.born := Array.filter_eq_self.2 (fun x hx => by simpa using hmem x hx)
  have e2 : (es.filter fun e => !seen.contains e.born).filter (fun x => decide (x.born ≥ since)) = #[] := by
    rw [Array.filter_eq_empty_iff]
    intro x hx
    have := hmem x hx
    simp; omega
  have fin : ∀ (v : Value) (w' : World), (execOp (ev n env) ⟨some t, .next x false, ty, pos, af, gd⟩).run P w = .ok (.value v) w' → wpListIn (FR n.ro) 0 P ops Q rest (fr n ((t, v) :: env)) w' → wpListIn (FR n.ro) 0 P ops Q (⟨some t, .next x false, ty, pos, af, gd⟩ :: rest) (fr n env) w := fun v w' hr hk' => by
    unfold wpListIn
    rw [if_pos (show Region.wanted _ _ = true from hw)]
    exact Oper.wpIn_value (by rw [fr_eval]; exact hr) (by rw [fr_put]; exact hk')
  by_cases h0 : (es.filter fun e => !seen.contains e.born).size = 0
  · have hem : (es.filter fun e => !seen.contains e.born) = #[] := Array.eq_empty_of_size_eq_zero h0
    have hl : left = [] := by rw [← hleft, hem]; rfl
    refine fin _ w ?_ (k0 hl w hst)
    simp only [execOp, hx, Instr.next, Sem.run_bind, getObj_it hb, Result.andThen_ok, MapKept.run_getObj_map hh, t1, Bool.false_eq_true, if_false, e1, e2, hem]
    simp [choose, Sem.run, Question.forced]
  · obtain ⟨j, w1, hj, hw1, hrun⟩ := choose_next (P := P) w (es.filter fun e => !seen.contains e.born).size (by omega)
    have hemp : (es.filter fun e => !seen.contains e.born).isEmpty = false := by unfold Array.isEmpty; exact decide_eq_false h0
    obtain ⟨e, he⟩ : ∃ e, (es.filter fun e => !seen.contains e.born)[j]? = some e := ⟨_, Array.getElem?_eq_getElem hj⟩
    have hsplit : (es.toList.filter fun e => !seen.contains e.born) = ((es.toList.filter fun e => !seen.contains e.born).take j) ++ e :: (es.toList.filter fun e => !seen.contains e.born).drop (j + 1) := by
      have h3 : (es.toList.filter fun e => !seen.contains e.born)[j]? = some e := by rw [← Array.toList_filter, Array.getElem?_toList]; exact he
      have h4 := (List.getElem?_eq_some_iff.1 h3)
      obtain ⟨h5, h6⟩ := h4
      rw [← h6, List.getElem_cons_drop, List.take_append_drop]
    have hkv : left = ((es.toList.filter fun e => !seen.contains e.born).take j).map (fun e => (e.key, e.val)) ++ (e.key, e.val) :: ((es.toList.filter fun e => !seen.contains e.born).drop (j + 1)).map (fun e => (e.key, e.val)) := by
      rw [← hleft, kvs, Array.toList_filter]
      conv => lhs; rw [hsplit]
      rw [List.map_append, List.map_cons]
    have hh1 : w1.heap[g]? = some (.map es clock) := by rcases hw1 with rfl | rfl <;> exact hh
    have hb1 : w1.heap[b]? = some (.mapIter (some g) since seen c0) := by rcases hw1 with rfl | rfl <;> exact hb
    have hs1 : St w0 F0 L w1 := by rcases hw1 with rfl | rfl; exact hst; exact hst.drewR
    refine fin (.tuple #[.bool true, e.key, e.val]) { w1 with heap := w1.heap.setIfInBounds b (.mapIter (some g) since (seen.push e.born) clock) } ?_ (k1 _ _ _ hkv _ (hs1.setR hp (fun F h => ⟨(h.1 b).2 (.inl rfl), (Array.getElem?_eq_some_iff.1 hb1).1⟩) (fun w' F h hb' hoth => ⟨h.1, h.2.1, es, clock, since, clock, seen.push e.born, (hoth g (Ne.symm h.2.1)).trans hh1, hb', hk, hbn, hn, hold, hscl, hscl, ?_, fun p hp => ⟨rfl, e, ?_, by simp, Option.some.inj hp⟩⟩)))
    · simp only [execOp, hx, Instr.next, Sem.run_bind, getObj_it hb, Result.andThen_ok, MapKept.run_getObj_map hh, t1, Bool.false_eq_true, if_false, e1, e2, hemp, Array.empty_append, Array.append_empty, Array.size_map, hrun, Array.getElem?_map, he, Option.map_some, setObj_it _ hb1, Sem.run_pure]
    · have h7 := filter_split (p := fun e => !seen.contains e.born) hn hsplit
      rw [kvs, Array.toList_filter, ← List.map_append, ← h7]
      congr 1
      congr 1
      funext x
      rw [Array.contains_push]
      cases seen.contains x.born <;> simp
    · have h3 : e ∈ (es.toList.filter fun e => !seen.contains e.born) := by rw [hsplit]; simp
      exact (List.mem_filter.1 h3).1
theorem r_entry {x : Operand} {b g : Nat} {l left : List (Value × Value)} {p : Value × Value} {L' : List Res} (hx : ev n env x = .pointer (some ⟨b, 0, none⟩)) (hp : Pick L (itR b g l left (some p)) L') :
    Runs P w0 F0 L n env ⟨d, .entry x, ty, pos, af, gd⟩ (.tuple #[p.1, p.2]) := fun w hst => by
  obtain ⟨F, hF, hstp⟩ := hst
  obtain ⟨F1, F2, ⟨hFk, hne, es, clock, since, c0, seen, hh, hb, hk, hbn, hn, hold, hsc, hscl, hleft, hlast⟩, h2, hE, hd⟩ := hp.stars hF
  obtain ⟨rfl, e, he, hbk, rfl⟩ := hlast p rfl
  have hf : es.find? (·.born == e.born) = some e := by rw [← Array.find?_toList]; exact find_born e es.toList hn he
  simp only [execOp, hx, Instr.entry, Sem.run_bind, getObj_it hb, Result.andThen_ok, hbk, MapKept.run_getObj_map hh, bne_self_eq_false, Bool.false_eq_true, if_false, hf, Sem.run_pure]
theorem St.itMap {w : World} {b g : Nat} {l left : List (Value × Value)} {last : Option (Value × Value)} (hs : St w0 F0 (itR b g l left last :: L) w) : St w0 F0 (mapR g l :: L) w := by
  obtain ⟨F, ⟨F1, F2, ⟨hFk, hne, es, clock, since, c0, seen, hh, hb, hk, hbn, hn, _⟩, h2, hE, hd⟩, hst⟩ := hs
  refine ⟨fun k => k = g ∨ F2 k, ⟨fun k => k = g, F2, ⟨fun k => Iff.rfl, es, clock, hh, hk, hbn, hn⟩, h2, fun k => Iff.rfl, fun k hk h => hd k ((hFk k).2 (.inr hk)) h⟩, hst.weak fun k hk => (hE k).2 ?_⟩
  rcases hk with rfl | hk
  · exact .inl ((hFk _).2 (.inr rfl))
  · exact .inr hk
end
end Go.Proofs.YtobjojeliibinaaDoor

/- Plain words: a disk of layer 6: what was synced, what was written and isn't. -/
namespace Go.Proofs.YtobjojeliibinaaDoor
open Go
set_option linter.unusedVariables false
set_option linter.unusedSimpArgs false

structure Sec where
  l : List UInt8
  h : l.length = 64
theorem Sec.ext' {a b : Sec} (h : a.l = b.l) : a = b := by cases a; cases b; cases h; rfl
def sec0 : Sec := ⟨List.replicate 64 0, by simp⟩
def secOf (b : UInt8) : Sec := ⟨b :: List.replicate 63 0, by simp⟩
def sc (s : Sec) : List Value := s.l.map B8
theorem sc_length (s : Sec) : (sc s).length = 64 := by rw [sc, List.length_map, s.h]
theorem sc_one (s : Sec) : ∀ v ∈ sc s, v.oneCell' = true := one_B8 _
instance {s : Sec} : Len (sc s) 64 := ⟨sc_length s⟩
instance {s : Sec} : One (sc s) := One.of (sc_one s)
def scV (s : Sec) : Value := .agg (sc s).toArray
/-- Sectors in a row. -/
def secs (n : Nat) (f : Nat → Sec) : List Value := ((List.range n).map fun i => sc (f i)).flatten
def updS (f : Nat → Sec) (i : Nat) (v : Sec) : Nat → Sec := fun j => if j = i then v else f j
theorem secs_all {n : Nat} {f : Nat → Sec} : ∀ c ∈ (List.range n).map fun i => sc (f i), c.length = 64 := fun c hc => by
  obtain ⟨i, _, rfl⟩ := List.mem_map.1 hc; exact sc_length _
theorem secs_len (n : Nat) (f : Nat → Sec) : (secs n f).length = n * 64 := by rw [secs, flatten_len secs_all]; simp
theorem secs_get {n i o : Nat} {f : Nat → Sec} (h : i < n) (ho : o = i * 64) : ((secs n f).drop o).take 64 = sc (f i) := by
  subst ho; exact flatten_at secs_all (by simp [h])
theorem secs_ext {n : Nat} {f g : Nat → Sec} (h : ∀ i, i < n → f i = g i) : secs n f = secs n g := by
  unfold secs; congr 1
  exact List.map_congr_left fun i hi => by rw [h i (List.mem_range.1 hi)]
theorem secs_one (n : Nat) (f : Nat → Sec) : ∀ v ∈ secs n f, v.oneCell' = true := fun v hv => by
  obtain ⟨c, hc, h⟩ := List.mem_flatten.1 hv
  obtain ⟨i, _, rfl⟩ := List.mem_map.1 hc
  exact sc_one _ v h
theorem flatten_set {size : Nat} : ∀ {css : List (List Value)} {i : Nat} {c : List Value}, (∀ c ∈ css, c.length = size) → c.length = size → i < css.length → updL css.flatten (i * size) c = (css.set i c).flatten
  | [], i, c, _, _, h => by simp at h
  | d :: l, 0, c, h, hc, _ => by
    have hd := h d (by simp)
    simp only [updL, Nat.zero_mul, List.take_zero, List.nil_append, Nat.zero_add, List.flatten_cons, List.set_cons_zero, hc]
    rw [List.drop_append, List.drop_eq_nil_of_le (by omega), hd, Nat.sub_self, List.drop_zero, List.nil_append]
  | d :: l, i + 1, c, h, hc, hi => by
    have hd := h d (by simp)
    have ih := flatten_set (css := l) (i := i) (fun c' hc' => h c' (by simp [hc'])) hc (by simpa using hi)
    have e : (i + 1) * size = size + i * size := by rw [Nat.add_mul, Nat.one_mul, Nat.add_comm]
    simp only [updL, List.flatten_cons, List.set_cons_succ, hc] at ih ⊢
    rw [← ih, e, List.take_append, List.take_of_length_le (by omega), hd, show size + i * size - size = i * size by omega, List.drop_append, List.drop_eq_nil_of_le (by omega), hd, show size + i * size + size - size = i * size + size by omega]
    simp
theorem secs_set {n i o : Nat} {f : Nat → Sec} {v : Sec} (h : i < n) (ho : o = i * 64) : updL (secs n f) o (sc v) = secs n (updS f i v) := by
  subst ho
  rw [secs, flatten_set secs_all (sc_length v) (by simpa using h), secs]
  congr 1
  apply List.ext_getElem?
  intro j
  rw [List.getElem?_set, List.getElem?_map, List.getElem?_map]
  by_cases hj : j < n
  · by_cases hij : i = j
    · subst hij; simp [hj, updS]
    · simp [hj, hij, updS, Ne.symm hij]
  · rw [List.getElem?_eq_none (l := List.range n) (by simp; omega)]
    by_cases hij : i = j
    · omega
    · simp [hij]
/-! ### What was written -/
def lookW (i : Int) : List (Int × Sec) → Option Sec
  | [] => none
  | p :: l => if i = p.1 then some p.2 else lookW i l
def putW (i : Int) (v : Sec) : List (Int × Sec) → List (Int × Sec)
  | [] => [(i, v)]
  | p :: l => if i = p.1 then (i, v) :: l else p :: putW i v l
def encW (ws : List (Int × Sec)) : List (Int × Value) := ws.map fun p => (p.1, scV p.2)
theorem encW_at (i : Int) : ∀ (ws : List (Int × Sec)) (k : Nat), (atK i (encW ws) k).map (·.2) = (lookW i ws).map scV
  | [], _ => rfl
  | p :: l, k => by
    simp only [encW, List.map_cons, atK, lookW]
    by_cases h : i = p.1
    · simp [h]
    · rw [if_neg h, if_neg h]; exact encW_at i l (k + 1)
theorem encW_get (i : Int) (ws : List (Int × Sec)) : getK i (encW ws) = (lookW i ws).map scV := encW_at i ws 0
theorem encW_put (i : Int) (v : Sec) : ∀ (ws : List (Int × Sec)), putK i (scV v) (encW ws) = encW (putW i v ws)
  | [] => rfl
  | p :: l => by
    simp only [encW, List.map_cons, putK, putW]
    by_cases h : i = p.1
    · simp [h]
    · rw [if_neg h, if_neg h, List.map_cons]
      have := encW_put i v l
      simp only [encW] at this
      rw [this]
theorem lookW_put (i k : Int) (v : Sec) : ∀ (ws : List (Int × Sec)), lookW i (putW k v ws) = if i = k then some v else lookW i ws
  | [] => by by_cases h : i = k <;> simp [putW, lookW, h]
  | p :: l => by
    by_cases h : k = p.1
    · simp only [putW, if_pos h, lookW]
      by_cases h' : i = k
      · simp [h']
      · rw [if_neg h', if_neg h', if_neg (by rw [← h]; exact h')]
    · simp only [putW, if_neg h, lookW]
      by_cases h' : i = p.1
      · rw [if_pos h', if_pos h', if_neg (by rw [h']; exact fun e => h e.symm)]
      · rw [if_neg h', if_neg h', lookW_put i k v l]
def keysW (ws : List (Int × Sec)) : List Int := ws.map (·.1)
theorem keys_put (k : Int) (v : Sec) : ∀ (ws : List (Int × Sec)), keysW (putW k v ws) = if k ∈ keysW ws then keysW ws else keysW ws ++ [k]
  | [] => by simp [putW, keysW]
  | p :: l => by
    by_cases h : k = p.1
    · simp [putW, h, keysW]
    · have ih := keys_put k v l
      have e1 : keysW (putW k v (p :: l)) = p.1 :: keysW (putW k v l) := by simp [putW, if_neg h, keysW]
      have e2 : keysW (p :: l) = p.1 :: keysW l := rfl
      rw [e1, e2, ih]
      by_cases hk : k ∈ keysW l
      · rw [if_pos hk, if_pos (List.mem_cons_of_mem _ hk)]
      · rw [if_neg hk, if_neg (by simp [h, hk])]; rfl
theorem nodup_put {k : Int} {v : Sec} {ws : List (Int × Sec)} (h : (keysW ws).Nodup) : (keysW (putW k v ws)).Nodup := by
  rw [keys_put]; split
  · exact h
  · rename_i hk
    refine List.nodup_append.2 ⟨h, by simp, fun a ha b hb e => ?_⟩
    simp only [List.mem_singleton] at hb
    exact hk (by rw [← hb, ← e]; exact ha)
theorem lookW_some {i : Int} : ∀ {ws : List (Int × Sec)}, i ∈ keysW ws → ∃ v, lookW i ws = some v ∧ (i, v) ∈ ws
  | p :: l, h => by
    by_cases hi : i = p.1
    · exact ⟨p.2, by simp [lookW, hi], by rw [hi]; simp⟩
    · simp only [keysW, List.map_cons, List.mem_cons, hi, false_or] at h
      obtain ⟨v, h1, h2⟩ := lookW_some (ws := l) h
      exact ⟨v, by simp [lookW, hi, h1], by simp [h2]⟩
  | [], h => by simp [keysW] at h
theorem lookW_none {i : Int} : ∀ {ws : List (Int × Sec)}, i ∉ keysW ws → lookW i ws = none
  | [], _ => rfl
  | p :: l, h => by
    simp only [keysW, List.map_cons, List.mem_cons, not_or] at h
    simp only [lookW, if_neg h.1]; exact lookW_none h.2
theorem lookW_mem {i : Int} {v : Sec} : ∀ {ws : List (Int × Sec)}, (keysW ws).Nodup → (i, v) ∈ ws → lookW i ws = some v
  | p :: l, hn, h => by
    have hn' := List.nodup_cons.1 hn
    rcases List.mem_cons.1 h with rfl | h
    · simp [lookW]
    · have : i ≠ p.1 := fun e => hn'.1 (by show p.1 ∈ l.map (·.1); rw [← e]; exact List.mem_map.2 ⟨_, h, rfl⟩)
      simp only [lookW, if_neg this]; exact lookW_mem hn'.2 h
/-- A disk. -/
structure DS where
  n : Nat
  ss : Nat → Sec
  ws : List (Int × Sec)
  off : Bool
  armed : Bool
  left : Int
def DS.at (d : DS) (i : Nat) : Sec := (lookW (i : Int) d.ws).getD (d.ss i)
def oper (d : DS) : DS := if d.armed = true ∧ d.off = false then { d with off := decide (d.left = 0), left := d.left - 1 } else d
structure DOk (d : DS) : Prop where
  n : d.n ≤ 4096
  nd : (keysW d.ws).Nodup
  ks : ∀ k ∈ keysW d.ws, 0 ≤ k ∧ k < d.n
  lf : d.armed = true → d.off = false → 0 ≤ d.left
  rg : -9223372036854775808 ≤ d.left ∧ d.left ≤ 9223372036854775807
theorem oper_ok {d : DS} (h : DOk d) : DOk (oper d) := by
  unfold oper; split
  · rename_i hc
    have hl := h.lf hc.1 hc.2
    refine ⟨h.n, h.nd, h.ks, fun _ h2 => ?_, ?_⟩
    · simp only [decide_eq_false_iff_not] at h2
      show 0 ≤ d.left - 1
      omega
    · have := h.rg
      show -9223372036854775808 ≤ d.left - 1 ∧ d.left - 1 ≤ 9223372036854775807
      omega
  · exact h
def DS.write (d : DS) (i : Int) (v : Sec) : DS := { d with ws := putW i v d.ws }
theorem write_ok {d : DS} {i : Int} {v : Sec} (h : DOk d) (h0 : 0 ≤ i) (h1 : i < d.n) : DOk (d.write i v) :=
  ⟨h.n, nodup_put h.nd, fun k hk => by
    simp only [DS.write, keys_put] at hk
    split at hk
    · exact h.ks k hk
    · rcases List.mem_append.1 hk with hk | hk
      · exact h.ks k hk
      · simp only [List.mem_singleton] at hk; subst hk; exact ⟨h0, h1⟩, h.lf, h.rg⟩
def DS.sync (d : DS) : DS := { d with ss := d.at, ws := [] }
theorem sync_ok {d : DS} (h : DOk d) : DOk d.sync := ⟨h.n, by simp [DS.sync, keysW], by simp [DS.sync, keysW], h.lf, h.rg⟩
/-- Keys in order; what a crash keeps. -/
def sortZ (l : List Int) : List Int := l.mergeSort (fun x y => decide (x ≤ y))
def keepF (ks : List Int) (keep : List Bool) (ws : List (Int × Sec)) (ss : Nat → Sec) : Nat → Nat → Sec
  | 0 => ss
  | j + 1 => if keep.getD j false = true then updS (keepF ks keep ws ss j) (ks.getD j 0).toNat ((lookW (ks.getD j 0) ws).getD sec0) else keepF ks keep ws ss j
def DS.crash (d : DS) (keep : List Bool) : DS := { d with ss := keepF (sortZ (keysW d.ws)) keep d.ws d.ss (sortZ (keysW d.ws)).length, ws := [], off := false, armed := false }
theorem crash_ok {d : DS} {keep : List Bool} (h : DOk d) : DOk (d.crash keep) := ⟨h.n, by simp [DS.crash, keysW], by simp [DS.crash, keysW], (fun e => by cases e), h.rg⟩
def DS.has (d : DS) (i : Int) : Bool := decide (0 ≤ i) && decide (i < d.n)
theorem has_iff {d : DS} {i : Int} : d.has i = true ↔ 0 ≤ i ∧ i < d.n := by simp [DS.has]
theorem oper_n (d : DS) : (oper d).n = d.n := by unfold oper; split <;> rfl
theorem oper_ss (d : DS) : (oper d).ss = d.ss := by unfold oper; split <;> rfl
theorem oper_ws (d : DS) : (oper d).ws = d.ws := by unfold oper; split <;> rfl
theorem oper_yes {d : DS} (h1 : d.armed = true) (h2 : d.off = false) : (oper d).off = decide (d.left = 0) ∧ (oper d).armed = d.armed ∧ (oper d).left = d.left - 1 := by
  unfold oper; rw [if_pos ⟨h1, h2⟩]; exact ⟨rfl, rfl, rfl⟩
theorem oper_no {d : DS} (h : d.armed = false ∨ d.off = true) : oper d = d := by
  unfold oper; rw [if_neg]; rintro ⟨h1, h2⟩; rcases h with h | h <;> simp_all
def DS.wr (d : DS) (i : Int) (v : Sec) : Nat × DS := if d.has i then (if (oper d).off then 6 else 0, if (oper d).off then oper d else (oper d).write i v) else (1, d)
theorem wr_out {d : DS} {i : Int} {v : Sec} (h : d.has i = false) : d.wr i v = (1, d) := by simp [DS.wr, h]
theorem wr_off {d : DS} {i : Int} {v : Sec} (h : d.has i = true) (ho : (oper d).off = true) : d.wr i v = (6, oper d) := by simp [DS.wr, h, ho]
theorem wr_on {d : DS} {i : Int} {v : Sec} (h : d.has i = true) (ho : (oper d).off = false) : d.wr i v = (0, (oper d).write i v) := by simp [DS.wr, h, ho]
theorem wr_ok {d : DS} {i : Int} {v : Sec} (h : DOk d) : DOk (d.wr i v).2 := by
  unfold DS.wr; split
  · rename_i hi
    have := has_iff.1 hi
    simp only; split
    · exact oper_ok h
    · exact write_ok (oper_ok h) this.1 (by rw [oper_n]; exact this.2)
  · exact h
def DS.rd (d : DS) (i : Int) : Nat × Sec := if d.has i then (if d.off then (6, sec0) else (0, d.at i.toNat)) else (1, sec0)
theorem rd_out {d : DS} {i : Int} (h : d.has i = false) : d.rd i = (1, sec0) := by simp [DS.rd, h]
theorem rd_off {d : DS} {i : Int} (h : d.has i = true) (ho : d.off = true) : d.rd i = (6, sec0) := by simp [DS.rd, h, ho]
theorem rd_some {d : DS} {i : Int} (h : d.has i = true) (ho : d.off = false) (hs : (lookW i d.ws).isSome = true) : d.rd i = (0, (lookW i d.ws).getD sec0) := by
  have h0 := (has_iff.1 h).1
  simp only [DS.rd, h, ho, if_true, Bool.false_eq_true, if_false, DS.at, Int.toNat_of_nonneg h0]
  cases he : lookW i d.ws with
  | none => rw [he] at hs; cases hs
  | some v => rfl
theorem rd_none {d : DS} {i : Int} (h : d.has i = true) (ho : d.off = false) (hs : (lookW i d.ws).isSome = false) : d.rd i = (0, d.ss i.toNat) := by
  have h0 := (has_iff.1 h).1
  simp only [DS.rd, h, ho, if_true, Bool.false_eq_true, if_false, DS.at, Int.toNat_of_nonneg h0]
  cases he : lookW i d.ws with
  | some v => rw [he] at hs; cases hs
  | none => rfl
theorem encW_keys {ws : List (Int × Sec)} : (encW ws).map (·.1) = keysW ws := by simp [encW, keysW, Function.comp_def]
theorem encW_range {d : DS} (h : DOk d) : ∀ p ∈ encW d.ws, 0 ≤ p.1 ∧ p.1 ≤ 4096 := fun p hp => by
  have : p.1 ∈ keysW d.ws := by rw [← encW_keys]; exact List.mem_map.2 ⟨p, hp, rfl⟩
  have h2 := h.ks _ this; have := h.n; omega
theorem nodup_len : ∀ {n : Nat} {l : List Int}, l.Nodup → (∀ k ∈ l, 0 ≤ k ∧ k < n) → l.length ≤ n
  | 0, l, _, h => by
    cases l with
    | nil => simp
    | cons k l => have := h k (by simp); omega
  | n + 1, l, hn, h => by
    have h1 := nodup_len (n := n) (l := l.erase (n : Int)) (hn.erase _) fun k hk => by
      have h2 := hn.mem_erase_iff.1 hk
      have h3 := h k h2.2
      have := h2.1; omega
    have h4 := List.length_erase (a := (n : Int)) (l := l)
    split at h4 <;> omega
theorem ws_len {d : DS} (h : DOk d) : d.ws.length ≤ d.n := by
  have := nodup_len h.nd h.ks
  rwa [keysW, List.length_map] at this
theorem encW_len {d : DS} (h : DOk d) : (encW d.ws).length ≤ 4096 := by
  have := ws_len h; have := h.n; rw [encW, List.length_map]; omega
theorem sortZ_perm (l : List Int) : (sortZ l).Perm l := List.mergeSort_perm _ _
theorem sortZ_len (d : DS) : (sortZ (keysW d.ws)).length = d.ws.length := by rw [(sortZ_perm _).length_eq, keysW, List.length_map]
theorem sortZ_key {d : DS} (h : DOk d) {j : Nat} (hj : j < (sortZ (keysW d.ws)).length) : 0 ≤ (sortZ (keysW d.ws)).getD j 0 ∧ (sortZ (keysW d.ws)).getD j 0 < d.n := by
  have e : (sortZ (keysW d.ws)).getD j 0 = (sortZ (keysW d.ws))[j] := by simp [List.getD, hj]
  rw [e]
  exact h.ks _ ((sortZ_perm _).mem_iff.1 (List.getElem_mem hj))
def DS.syncd (d : DS) : DS := if (oper d).off then oper d else (oper d).sync
theorem syncd_ok {d : DS} (h : DOk d) : DOk d.syncd := by
  unfold DS.syncd; split
  · exact oper_ok h
  · exact sync_ok (oper_ok h)
def SyncInv (d : DS) (lw : List (Int × Sec)) (f : Nat → Sec) : Prop := lw.Sublist d.ws ∧ ∀ i : Nat, f i = if (i : Int) ∈ keysW lw then d.ss i else d.at i
theorem SyncInv.start (d : DS) : SyncInv d d.ws d.ss := ⟨List.Sublist.refl _, fun i => by
  split
  · rfl
  · rename_i h; simp [DS.at, lookW_none h]⟩
theorem SyncInv.done {d : DS} {f : Nat → Sec} (h : SyncInv d [] f) (i : Nat) : f i = d.at i := by
  have := h.2 i; simpa [keysW] using this
theorem SyncInv.key {d : DS} {A B : List (Int × Sec)} {k : Int} {v : Sec} {f : Nat → Sec} (h : SyncInv d (A ++ (k, v) :: B) f) (hk : DOk d) : 0 ≤ k ∧ k < d.n :=
  hk.ks k (List.mem_map.2 ⟨(k, v), h.1.subset (by simp), rfl⟩)
theorem SyncInv.step {d : DS} {A B : List (Int × Sec)} {k : Int} {v : Sec} {f : Nat → Sec} (h : SyncInv d (A ++ (k, v) :: B) f) (hk : DOk d) : SyncInv d (A ++ B) (updS f k.toNat v) := by
  have hsub : (A ++ B).Sublist (A ++ (k, v) :: B) := List.Sublist.append (List.Sublist.refl _) (List.sublist_cons_self _ _)
  have hnd : (keysW (A ++ (k, v) :: B)).Nodup := hk.nd.sublist (h.1.map _)
  have h0 := (h.key hk).1
  have hnot : k ∉ keysW (A ++ B) := by
    simp only [keysW, List.map_append, List.map_cons] at hnd ⊢
    have h1 := List.nodup_append.1 hnd
    intro hm
    rcases List.mem_append.1 hm with hm | hm
    · exact h1.2.2 k hm k (by simp) rfl
    · exact (List.nodup_cons.1 h1.2.1).1 hm
  refine ⟨hsub.trans h.1, fun i => ?_⟩
  simp only [updS]
  by_cases hi : i = k.toNat
  · subst hi
    have e : (k.toNat : Int) = k := Int.toNat_of_nonneg h0
    rw [if_pos rfl, e, if_neg hnot, DS.at, e, lookW_mem (v := v) hk.nd (h.1.subset (by simp))]
    rfl
  · rw [if_neg hi, h.2 i]
    have : (i : Int) ∈ keysW (A ++ (k, v) :: B) ↔ (i : Int) ∈ keysW (A ++ B) := by
      have hne : (i : Int) ≠ k := by omega
      simp [keysW, hne]
    simp only [this]
theorem encKW_nil {lw : List (Int × Sec)} (h : encK (Value.int .i64) (encW lw) = []) : lw = [] := by simpa [encK, encW] using h
theorem encKW_split {lw : List (Int × Sec)} {A' B' : List (Value × Value)} {p : Value × Value} (h : encK (Value.int .i64) (encW lw) = A' ++ p :: B') :
    ∃ A k v B, lw = A ++ (k, v) :: B ∧ A' = encK (Value.int .i64) (encW A) ∧ p = (.int .i64 k, scV v) ∧ B' = encK (Value.int .i64) (encW B) := by
  simp only [encK, encW, List.map_map] at h
  obtain ⟨l1, l2, h1, h2, h3⟩ := List.map_eq_append_iff.1 h
  obtain ⟨q, l3, h4, h5, h6⟩ := List.map_eq_cons_iff.1 h3
  subst h1; subst h4
  exact ⟨l1, q.1, q.2, l3, rfl, by rw [← h2]; simp [encK, encW], by rw [← h5]; rfl, by rw [← h6]; simp [encK, encW]⟩
theorem keepF_yes {ks : List Int} {kb : List Bool} {ws : List (Int × Sec)} {ss : Nat → Sec} {j : Nat} (h : kb.getD j false = true) : keepF ks kb ws ss (j + 1) = updS (keepF ks kb ws ss j) (ks.getD j 0).toNat ((lookW (ks.getD j 0) ws).getD sec0) := by rw [keepF, if_pos h]
theorem keepF_no {ks : List Int} {kb : List Bool} {ws : List (Int × Sec)} {ss : Nat → Sec} {j : Nat} (h : kb.getD j false = false) : keepF ks kb ws ss (j + 1) = keepF ks kb ws ss j := by rw [keepF, if_neg (by rw [h]; decide)]
end Go.Proofs.YtobjojeliibinaaDoor

/- The engine, part O: make of a slice of rows; a map's iterator in one rule; sectors. -/
namespace Go.Proofs.YtobjojeliibinaaDoor
open Go
set_option linter.unusedVariables false
set_option linter.unusedSimpArgs false
theorem madeCells_rep (v : Value) (s n : Nat) (hs : 0 < s) : (madeCells (List.replicate s v).toArray n).toList = List.replicate n v := by
  apply List.ext_getElem?
  intro i
  simp only [madeCells, Array.toList_map, Array.toList_range, List.getElem?_map, List.getElem?_replicate]
  by_cases h : i < n
  · have h2 : i % (List.replicate s v).toArray.size < (List.replicate s v).toArray.size := Nat.mod_lt _ (by simpa using hs)
    rw [List.getElem?_range h, Option.map_some, if_pos h]
    rw [getElem!_pos (List.replicate s v).toArray _ h2]
    simp
  · rw [if_neg h, List.getElem?_eq_none (l := List.range n) (by simp; omega)]; rfl
theorem madeCells_secs (m : Nat) : (madeCells (List.replicate 64 (Value.int .u8 0)).toArray (m * 64)).toList = secs m fun _ => sec0 := by
  rw [madeCells_rep _ _ _ (by decide), secs]
  have e : sc sec0 = List.replicate 64 (Value.int .u8 0) := by simp [sc, sec0, B8]
  rw [e]
  generalize Value.int .u8 0 = v
  induction m with
  | zero => simp
  | succ m ih =>
    rw [List.range_succ, List.map_append, List.flatten_append, ← ih, Nat.add_mul, Nat.one_mul, ← List.replicate_append_replicate]
    simp only [List.map_cons, List.map_nil, List.flatten_cons, List.flatten_nil, List.append_nil]
def updB (f : Nat → Bool) (i : Nat) (v : Bool) : Nat → Bool := fun j => if j = i then v else f j
section
variable {P : Program} {w0 : World} {F0 : Nat → Prop} {L : List Res} {Q : Exit → Act → World → Prop} {n : Fm} {env : Env} {ops : Array Oper} {rest : List Oper} {ty : TypeId} {pos : String} {af : Array Edge} {gd : Option (Nat × Bool)} {d : Option Tmp}
theorem gl_mkN {t : Tmp} {T e bytes m s : Nat} {x y : Operand} {z : Value} {k k' : IntKind} (hw : Wt ops n env ⟨some t, .makeSlice T x y, ty, pos, af, gd⟩ true) (ht : ElemT P T e s bytes) (hz : (P.info? e).map (·.zero) = some (some z))
    (hx : ev n env x = .int k (m : Int)) (hy : ev n env y = .int k' (m : Int)) (hb : bytes * m ≤ 16777216) (hm : m * s ≤ 16777216) (hm' : m ≤ 16777216)
    (K : ∀ b, Gl P w0 F0 (blk b e (madeCells z.cells (m * s)).toList :: L) ops Q rest n ((t, .slice (some ⟨b, 0, none⟩) m m) :: env)) : Gl P w0 F0 L ops Q (⟨some t, .makeSlice T x y, ty, pos, af, gd⟩ :: rest) n env := by
  refine gl_effx (α := Nat) (L' := fun b => blk b e (madeCells z.cells (m * s)).toList :: L) (v := fun b => .slice (some ⟨b, 0, none⟩) m m) hw (fun w hst => ?_) K
  obtain ⟨i, z', hi, hz', hs, hby, _⟩ := ht.info
  have hzz : z' = z := by rw [hi] at hz; simp only [Option.map_some, Option.some.injEq] at hz; rw [hz'] at hz; exact Option.some.inj hz
  subst hzz
  refine ⟨w.heap.size, { w with heap := w.heap.push (.cells (madeCells z'.cells (m * s)).toList.toArray e) }, ?_, hst.new⟩
  have hbb : (i.bytes : Int) * (m : Int) ≤ 281474976710656 := by
    rw [hby, ← Int.natCast_mul]; omega
  have hr := run_makeSlice (P := P) (w := w) T e i z' ht.sl hi hz' k k' (m : Int) (m : Int) (by omega) (Int.le_refl _) (by simp [hs]; omega) hbb (by omega)
  simp only [execOp, hx, hy, Sem.run_bind, hr, Result.andThen_ok, Sem.run_pure]
  simp only [Int.toNat_natCast, hs]
  first | rfl | simp [World.alloc]
theorem St.pick {w : World} {r : Res} {L' : List Res} (hw : St w0 F0 L w) (h : Pick L r L') : St w0 F0 (r :: L') w := hw.mapL0 fun F hF => h.stars hF
theorem gl_nextO {t : Tmp} {x : Operand} {b g : Nat} {l left : List (Value × Value)} {last : Option (Value × Value)} {L' : List Res} (hw : Wt ops n env ⟨some t, .next x false, ty, pos, af, gd⟩ true) (hx : ev n env x = .pointer (some ⟨b, 0, none⟩)) (hp : Pick L (itR b g l left last) L')
    (k : ∀ o : Option (List (Value × Value) × (Value × Value) × List (Value × Value)), (match o with | none => left = [] | some q => left = q.1 ++ q.2.1 :: q.2.2) →
      Gl P w0 F0 (itR b g l (match o with | none => left | some q => q.1 ++ q.2.2) (match o with | none => last | some q => some q.2.1) :: L') ops Q rest n ((t, match o with | none => .tuple #[.bool false] | some q => .tuple #[.bool true, q.2.1.1, q.2.1.2]) :: env)) :
    Gl P w0 F0 L ops Q (⟨some t, .next x false, ty, pos, af, gd⟩ :: rest) n env :=
  gl_next hw hx hp (fun h w hw => k none h w (hw.pick hp)) fun A p B h => k (some (A, p, B)) h
theorem gl_itMap {b g : Nat} {l left : List (Value × Value)} {last : Option (Value × Value)} {L' : List Res} (hp : Pick L (itR b g l left last) L') (k : Gl P w0 F0 (mapR g l :: L') ops Q rest n env) : Gl P w0 F0 L ops Q rest n env := fun w hw =>
  k w (hw.pick hp).itMap
theorem r_ldS {x : Operand} {T g m o : Nat} {f : Nat → Sec} {L' : List Res} {T' : Nat} [RA P T] [SZ P T 64] (i : Nat) (hi : i < m) (hx : ev n env x = .pointer (some ⟨g, o, none⟩) := by exact rfl) (ho : o = i * 64 := by omega) (hp : Pick L (blk g T' (secs m f)) L' := by repeat (first | exact Pick.here | apply Pick.there)) :
    Runs P w0 F0 L n env ⟨d, .load T x, ty, pos, af, gd⟩ (scV (f i)) := r_ldN hx RA.h SZ.h hp (secs_get hi ho) (sc_length _)
theorem gl_stS {x y : Operand} {T g m o : Nat} {f : Nat → Sec} {v : Sec} {L' : List Res} {T' : Nat} [SZ P T 64] (i : Nat) (hi : i < m) (k : Gl P w0 F0 (blk g T' (secs m (updS f i v)) :: L') ops Q rest n env) (hx : ev n env x = .pointer (some ⟨g, o, none⟩) := by exact rfl) (hy : ev n env y = scV v := by exact rfl) (ho : o = i * 64 := by omega)
    (hp : Pick L (blk g T' (secs m f)) L' := by repeat (first | exact Pick.here | apply Pick.there)) (hw : Wt ops n env ⟨none, .store T x y, ty, pos, af, gd⟩ true := by first | exact wt0 rfl | exact wtgT rfl rfl rfl rfl) :
    Gl P w0 F0 L ops Q (⟨none, .store T x y, ty, pos, af, gd⟩ :: rest) n env :=
  gl_storeN hw hx hy SZ.h (sc_length v) hp (by rw [secs_len]; omega) (sc_one v) (secs_set hi ho) k
theorem r_min {x y : Operand} {T1 T2 : TypeId} {k : IntKind} {i j : Int} (hx : ev n env x = .int k i := by exact rfl) (hy : ev n env y = .int k j := by exact rfl) :
    Runs P w0 F0 L n env ⟨d, .call ⟨.builtin .min, #[x, y], #[T1, T2]⟩, ty, pos, af, gd⟩ (.int k (if j < i then j else i)) := fun w _ => by
  simp only [execOp, resolve, invoke, builtin]
  simp [hx, hy, Builtin.min_, Builtin.min2]
theorem r_neq_bool {x y : Operand} {T T' : TypeId} {a b : Bool} (hx : ev n env x = .bool a := by exact rfl) (hy : ev n env y = .bool b := by exact rfl) (ht : P.underlying T = some .bool) :
    Runs P w0 F0 L n env ⟨d, .binOp .neq T x y T', ty, pos, af, gd⟩ (.bool (!(a == b))) := fun w _ => by
  have h := run_equalIn_bool' (P := P) w 9999 T a b ht
  simp only [execOp, hx, hy]
  simp [eqGuard, binOp, Op.equal, Op.maxDepth, h]
theorem r_eqpn {x : Operand} {T T' e : TypeId} {a : Option Addr} (hx : ev n env x = .pointer a := by exact rfl) (ht : P.underlying T = some (.pointer e)) :
    Runs P w0 F0 L n env ⟨d, .binOp .eql T x (.const (.pointer none)) T', ty, pos, af, gd⟩ (.bool a.isNone) := fun w _ => by
  have h : ∀ d : Nat, (Op.equalIn (d + 1) T (.pointer a) (.pointer none)).run P w = .ok a.isNone w := fun d => by
    cases a <;> simp [Op.equalIn, run_underlying ht]
  have h9 := h 9999
  have hc : ev n env (.const (.pointer none)) = .pointer none := rfl
  simp only [execOp, hx, hc]
  simp [eqGuard, binOp, Op.equal, Op.maxDepth, h9]
theorem RdRow.cellV {w : World} {A : Nat → Prop} {g o m : Nat} {α : Type} {V : α → Value} {l : List α} (h : RdRow w A 1 (some ⟨g, o, Option.none⟩) m (l.map V)) {i : Nat} (hi : i < m) (z : α) : w.cell? ⟨g, o + i * 1, Option.none⟩ = some (V (l.getD i z)) ∧ A g := by
  have hl : m = l.length := by have := h.1; simp at this; omega
  obtain ⟨g', o', ha, hA, _, hr⟩ := h.elem hi
  injection ha with ha
  injection ha with h1 h2
  subst h1; subst h2
  refine ⟨hr 0 _ ?_, hA⟩
  simp [List.getD, show i < l.length by omega]
instance : DecidableEq Sec := fun a b => decidable_of_iff (a.l = b.l) ⟨Sec.ext', fun h => h ▸ rfl⟩
theorem run_equal_sec {T e : TypeId} {w : World} {a b : Sec} (ht : arrT P T = some (64, e)) (he : P.underlying e = some (.int .u8)) (hs : szT P e = some 1) : (Op.equalIn 10000 T (scV a) (scV b)).run P w = .ok (decide (a = b)) w := by
  cases hi : P.info? e with
  | none => simp [szT, hi] at hs
  | some i =>
    have hz : i.size = 1 := by simpa [szT, hi] using hs
    have hc : P.cellsOf e = 1 := by simp [Program.cellsOf, hi, hz]
    have hd : decide (a.l = b.l) = decide (a = b) := by
      by_cases h : a = b
      · simp [h]
      · simp [h]; exact fun e => h (Sec.ext' e)
    rw [show scV a = .agg (sc a).toArray from rfl, show scV b = .agg (sc b).toArray from rfl, run_equalIn_array w 9999 _ _ (run_arrT ht) hi, hc]
    rw [show sc a = a.l.map B8 from rfl, show sc b = b.l.map B8 from rfl, run_eqItems8 (d := 9998) he a.l b.l w _ (fun i hi => by have := List.mem_range.1 hi; rw [a.h, b.h]; omega), all_range_eq a.h b.h, hd]
theorem r_eql_sec {x y : Operand} {T T' e : TypeId} {a b : Sec} (ht : arrT P T = some (64, e)) (he : P.underlying e = some (.int .u8)) (hs : szT P e = some 1) (hg : P.eqGuardType P.depth T = false) (hx : ev n env x = scV a := by exact rfl) (hy : ev n env y = scV b := by exact rfl) :
    Runs P w0 F0 L n env ⟨d, .binOp .eql T x y T', ty, pos, af, gd⟩ (.bool (decide (a = b))) := fun w _ => by
  have h := run_equal_sec (P := P) (w := w) (a := a) (b := b) ht he hs
  simp only [scV] at hx hy h
  simp only [execOp, hx, hy, Sem.run_bind, run_eqGuard_agg w _ _ _ _ _ _ hg, Result.andThen_ok, run_eql_struct, h, Sem.run_pure]
theorem r_neq_sec {x y : Operand} {T T' e : TypeId} {a b : Sec} (ht : arrT P T = some (64, e)) (he : P.underlying e = some (.int .u8)) (hs : szT P e = some 1) (hg : P.eqGuardType P.depth T = false) (hx : ev n env x = scV a := by exact rfl) (hy : ev n env y = scV b := by exact rfl) :
    Runs P w0 F0 L n env ⟨d, .binOp .neq T x y T', ty, pos, af, gd⟩ (.bool (!decide (a = b))) := fun w _ => by
  have h := run_equal_sec (P := P) (w := w) (a := a) (b := b) ht he hs
  simp only [scV] at hx hy h
  simp only [execOp, hx, hy, Sem.run_bind, run_eqGuard_agg w _ _ _ _ _ _ hg, Result.andThen_ok, run_neq_struct, h, Sem.run_pure]
/-- Bools in a row. -/
theorem r_ldB {x : Operand} {T g m o : Nat} {f : Nat → Bool} {L' : List Res} {T' : Nat} [RO P T] (i : Nat) (hi : i < m) (hx : ev n env x = .pointer (some ⟨g, o, none⟩) := by exact rfl) (ho : o = i := by omega) (hp : Pick L (blk g T' (fnc Value.bool m f)) L' := by repeat (first | exact Pick.here | apply Pick.there)) :
    Runs P w0 F0 L n env ⟨d, .load T x, ty, pos, af, gd⟩ (.bool (f i)) := r_ld1 hx RO.h hp (by subst ho; exact fnc_get hi)
theorem gl_stB {x y : Operand} {T g m o : Nat} {f f' : Nat → Bool} {v : Bool} {L' : List Res} {T' : Nat} [SZ P T 1] (i : Nat) (hi : i < m) (hf : f' = updB f i v) (k : Gl P w0 F0 (blk g T' (fnc Value.bool m f') :: L') ops Q rest n env) (hx : ev n env x = .pointer (some ⟨g, o, none⟩) := by exact rfl) (hy : ev n env y = .bool v := by exact rfl) (ho : o = i := by omega)
    (hp : Pick L (blk g T' (fnc Value.bool m f)) L' := by repeat (first | exact Pick.here | apply Pick.there)) (hw : Wt ops n env ⟨none, .store T x y, ty, pos, af, gd⟩ true := by first | exact wt0 rfl | exact wtgT rfl rfl rfl rfl) :
    Gl P w0 F0 L ops Q (⟨none, .store T x y, ty, pos, af, gd⟩ :: rest) n env := by
  subst ho
  refine gl_store1 hw hx hy rfl SZ.h hp (by rw [fnc_length]; omega) ?_ k
  have e : v = f' o := by rw [hf, updB, if_pos rfl]
  rw [e]
  exact fnc_upd hi fun j _ hj => by rw [hf, updB, if_neg hj]
theorem fnc_rep {α : Type} (V : α → Value) (v : α) (m : Nat) : List.replicate m (V v) = fnc V m fun _ => v := by
  apply List.ext_getElem?
  intro i
  by_cases h : i < m
  · rw [fnc_get h]; simp [h]
  · rw [List.getElem?_eq_none (by simp; omega), List.getElem?_eq_none (by rw [fnc_length]; omega)]
def Sec.b (s : Sec) : UInt8 := s.l.getD 0 0
theorem sc_zero (s : Sec) : (sc s)[0]? = some (B8 s.b) := by
  obtain ⟨l, h⟩ := s
  cases l with
  | nil => simp at h
  | cons y l => rfl
end
section three
variable {P : Program} {w0 : World} {F0 : Nat → Prop} {K L : List Res} {Q : Exit → Act → World → Prop} {n : Fm} {env : Env} {ops : Array Oper} {listed : Array Bool} {fuel z : Nat}
/-- One of three comes. -/
theorem yo3s (i j l : Nat) {oi oj ol : Oper} (hi : ops[i]? = some oi) (hj : ops[j]? = some oj) (hl : ops[l]? = some ol)
    (ki : Gl P w0 F0 L ops (Exit.then (NextT P w0 F0 K ops Q z fuel (listed.setIfInBounds i true) n) Q) [oi] n env) (kj : Gl P w0 F0 L ops (Exit.then (NextT P w0 F0 K ops Q z fuel (listed.setIfInBounds j true) n) Q) [oj] n env)
    (kl : Gl P w0 F0 L ops (Exit.then (NextT P w0 F0 K ops Q z fuel (listed.setIfInBounds l true) n) Q) [ol] n env)
    (hr : Region.ready .any ops listed = [i, j, l] := by kernel_rfl) : Gt P w0 F0 K L ops Q z (fuel + 1) listed n env := fun w hst =>
  ⟨fun h => (by rw [hr] at h; cases h), by rw [hr]; simp, fun x hx _ => by
    rw [hr] at hx
    rcases List.mem_cons.1 hx with rfl | hx
    · exact wpOpIn_of_list hi (ki w hst)
    · rcases List.mem_cons.1 hx with rfl | hx
      · exact wpOpIn_of_list hj (kj w hst)
      · obtain rfl : x = l := by simpa using hx
        exact wpOpIn_of_list hl (kl w hst)⟩
end three
end Go.Proofs.YtobjojeliibinaaDoor

/- The engine, part V: maps that are read and not owned; delete; one cell written in a block that is owned in some way. -/
namespace Go.Proofs.YtobjojeliibinaaDoor
open Go
set_option linter.unusedVariables false
set_option linter.unusedSimpArgs false

theorem map_eraseIdx {α β : Type} (f : α → β) : ∀ (l : List α) (m : Nat), (l.map f).eraseIdx m = (l.eraseIdx m).map f
  | [], m => rfl
  | p :: l, 0 => rfl
  | p :: l, m + 1 => by simp only [List.map_cons, List.eraseIdx_cons_succ, map_eraseIdx f l m]
theorem encK_erase {α : Type} {K : α → Value} {l : List (α × Value)} {m : Nat} : encK K (l.eraseIdx m) = (encK K l).eraseIdx m := (map_eraseIdx _ l m).symm
/-- A map that is read. -/
def RdMap (w : World) (A : Nat → Prop) (g : Nat) (l : List (Value × Value)) : Prop := A g ∧ ∃ es clock, w.heap[g]? = some (.map es clock) ∧ kvs es = l
theorem RdMap.mv {w w' : World} {A A' : Nat → Prop} {g : Nat} {l : List (Value × Value)} (h : RdMap w A g l) (hk : ∀ k, k < w.heap.size → A k → w'.heap[k]? = w.heap[k]? ∧ A' k) : RdMap w' A' g l := by
  obtain ⟨hA, es, clock, hh, hkv⟩ := h
  have := hk g (Array.getElem?_eq_some_iff.1 hh).1 hA
  exact ⟨this.2, es, clock, this.1.trans hh, hkv⟩
theorem mapR.rd {g : Nat} {l : List (Value × Value)} {w : World} {F : Nat → Prop} (h : (mapR g l).on w F) : RdMap w F g l := by
  obtain ⟨hF, es, clock, hh, hk, _⟩ := h
  exact ⟨(hF g).2 rfl, es, clock, hh, hk⟩
section
variable {P : Program} {w0 : World} {F0 : Nat → Prop} {L : List Res} {Q : Exit → Act → World → Prop} {n : Fm} {env : Env} {ops : Array Oper} {rest : List Oper}
variable {d : Option Tmp} {t : Tmp} {ty : TypeId} {pos : String} {af : Array Edge} {gd : Option (Nat × Bool)}
theorem St.mapOld {w : World} (hst : St w0 F0 L w) {g : Nat} {l : List (Value × Value)} (h : RdMap w0 (fun k => ¬ F0 k) g l) : ∃ es clock, w.heap[g]? = some (.map es clock) ∧ kvs es = l := by
  obtain ⟨hA, es, clock, hh, hk⟩ := h
  obtain ⟨F, hF, hs⟩ := hst
  exact ⟨es, clock, (hs.old (Array.getElem?_eq_some_iff.1 hh).1 hA).1.trans hh, hk⟩
section
variable {α : Type} [DecidableEq α] {K : α → Value}
theorem r_looko {x y : Operand} {T kt e g : Nat} {l : List (α × Value)} {z : Value} {key : α} {b : Bool} [KeyT P kt K] (hx : ev n env x = .map (some g)) (hy : ev n env y = K key) (hm : P.underlying T = some (.map kt e)) (hz : zeroT P e = some z) (hp : RdMap w0 (fun k => ¬ F0 k) g (encK K l)) :
    Runs P w0 F0 L n env ⟨d, .lookup T x y b, ty, pos, af, gd⟩ (if b then .tuple #[(getK key l).getD z, .bool (getK key l).isSome] else (getK key l).getD z) := fun w hst => by
  obtain ⟨es, clock, hh, hk⟩ := hst.mapOld hp
  have hf := KeyT.find (P := P) (T := kt) (K := K) w key es.toList l hk
  have hc := KeyT.check (P := P) (T := kt) (K := K) w es.isEmpty key
  simp only [execOp, hx, hy, Instr.lookup, Sem.run_bind, run_underlying hm, Result.andThen_ok, MapKept.run_getObj_map hh, Sem.run_pure, hc, hf, getK]
  cases atK key l 0 with
  | none => simp only [Sem.run_bind, run_zeroT hz, Result.andThen_ok, Sem.run_pure]; cases b <;> rfl
  | some p => simp only [Sem.run_pure, Result.andThen_ok]; cases b <;> rfl
theorem delK_none {k : α} {l : List (α × Value)} (h : atK k l 0 = none) : delK k l = l := (atK_none (v := .nilIface) h).2
theorem gl_ins {x y u : Operand} {T kt e g : Nat} {l : List (α × Value)} {L' : List Res} {key : α} {v : Value} [KeyT P kt K] (hw : Wt ops n env ⟨d, .insert T x y u, ty, pos, af, gd⟩ true) (hx : ev n env x = .map (some g)) (hy : ev n env y = K key) (hu : ev n env u = v)
    (hm : P.underlying T = some (.map kt e)) (hp : Pick L (mapR g (encK K l)) L') (k : Gl P w0 F0 (mapR g (encK K (putK key v l)) :: L') ops Q rest n (pu d undef env)) : Gl P w0 F0 L ops Q (⟨d, .insert T x y u, ty, pos, af, gd⟩ :: rest) n env :=
  gl_skip hw (fun w hst => by
    obtain ⟨es, clock, hh, hk, hb, hn⟩ := hst.mapAt hp
    have hlt : g < w.heap.size := (Array.getElem?_eq_some_iff.1 hh).1
    have hf := KeyT.find (P := P) (T := kt) (K := K) w key es.toList l hk
    have hc := KeyT.check (P := P) (T := kt) (K := K) w false key
    cases ha : atK key l 0 with
    | none =>
      refine ⟨{ w with heap := w.heap.setIfInBounds g (.map (es.push ⟨K key, v, clock⟩) (clock + 1)) }, ?_, ?_⟩
      · simp only [execOp, hx, hy, hu, Instr.mapUpdate, Sem.run_bind, run_underlying hm, Result.andThen_ok, MapKept.run_getObj_map hh, hc, hf, ha, MapKept.run_setObj_map _ hh]
        rfl
      · refine hst.setR hp (fun F h => ⟨(h.1 g).2 rfl, hlt⟩) (fun w' F h hg' _ => ⟨h.1, _, _, hg', ?_, ?_, ?_⟩)
        · rw [(atK_none (v := v) ha).1, encK_append, ← hk]; simp [kvs]
        · intro z hz
          simp only [Array.toList_push, List.mem_append, List.mem_singleton] at hz
          rcases hz with hz | rfl
          · have := hb z hz; omega
          · exact Nat.lt_succ_self _
        · simp only [Array.toList_push, List.map_append, List.map_cons, List.map_nil]
          refine List.nodup_append.2 ⟨hn, by simp, ?_⟩
          intro a ha' b hb' e
          obtain ⟨z, hz, rfl⟩ := List.mem_map.1 ha'
          simp only [List.mem_singleton] at hb'
          have := hb z hz
          omega
    | some p =>
      obtain ⟨j, u0⟩ := p
      obtain ⟨m, rfl, h2, h3, _⟩ := atK_some (v := v) ha
      rw [Nat.zero_add] at ha
      have hkey : ((es[m]?).map (·.key)).getD (K key) = K key := by
        have := encK_get (K := K) h2
        rw [← hk, kvs, List.getElem?_map, Array.getElem?_toList] at this
        cases he : es[m]? with
        | none => rfl
        | some e' => rw [he] at this; simp at this; simp [this.1]
      refine ⟨{ w with heap := w.heap.setIfInBounds g (.map (es.modify m fun e => { e with key := K key, val := v }) clock) }, ?_, ?_⟩
      · simp only [execOp, hx, hy, hu, Instr.mapUpdate, Sem.run_bind, run_underlying hm, Result.andThen_ok, MapKept.run_getObj_map hh, hc, hf, ha, hkey, KeyT.stays (P := P) (T := kt) (K := K), MapKept.run_setObj_map _ hh]
        rfl
      · refine hst.setR hp (fun F h => ⟨(h.1 g).2 rfl, hlt⟩) (fun w' F h hg' _ => ⟨h.1, _, _, hg', ?_, ?_, ?_⟩)
        · rw [kvs_modify, h3, encK_set, ← hk]
        · exact all_born hb born_modify
        · rw [born_modify]; exact hn) k
theorem gl_delete {x y : Operand} {T kt kt' e g : Nat} {l : List (α × Value)} {L' : List Res} {key : α} [KeyT P kt K] (hw : Wt ops n env ⟨some t, .call ⟨.builtin .delete, #[x, y], #[T, kt']⟩, ty, pos, af, gd⟩ true) (hx : ev n env x = .map (some g)) (hy : ev n env y = K key)
    (hm : P.underlying T = some (.map kt e)) (hp : Pick L (mapR g (encK K l)) L') (k : Gl P w0 F0 (mapR g (encK K (delK key l)) :: L') ops Q rest n ((t, .tuple #[]) :: env)) : Gl P w0 F0 L ops Q (⟨some t, .call ⟨.builtin .delete, #[x, y], #[T, kt']⟩, ty, pos, af, gd⟩ :: rest) n env :=
  gl_eff hw (fun w hst => by
    obtain ⟨es, clock, hh, hk, hb, hn⟩ := hst.mapAt hp
    have hlt : g < w.heap.size := (Array.getElem?_eq_some_iff.1 hh).1
    have hf := KeyT.find (P := P) (T := kt) (K := K) w key es.toList l hk
    have hc := KeyT.check (P := P) (T := kt) (K := K) w es.isEmpty key
    cases ha : atK key l 0 with
    | none =>
      refine ⟨{ w with heap := w.heap.setIfInBounds g (.map es clock) }, ?_, hst.setR hp (fun F h => ⟨(h.1 g).2 rfl, hlt⟩) (fun w' F h hg' _ => ⟨h.1, _, _, hg', by rw [delK_none ha]; exact hk, hb, hn⟩)⟩
      simp only [execOp, resolve, invoke, builtin, Builtin.delete_, hx, hy]
      simp [hx, hy, Builtin.delete_, run_underlying hm, MapKept.run_getObj_map hh, hc, hf, ha, MapKept.run_setObj_map _ hh]
    | some p =>
      obtain ⟨j, u0⟩ := p
      obtain ⟨m, rfl, h2, _, h3⟩ := atK_some (v := .nilIface) ha
      rw [Nat.zero_add] at ha
      have htl : (es.eraseIdxIfInBounds m).toList = es.toList.eraseIdx m := by simp
      refine ⟨{ w with heap := w.heap.setIfInBounds g (.map (es.eraseIdxIfInBounds m) clock) }, ?_, hst.setR hp (fun F h => ⟨(h.1 g).2 rfl, hlt⟩) (fun w' F h hg' _ => ⟨h.1, _, _, hg', ?_, ?_, ?_⟩)⟩
      · simp only [execOp, resolve, invoke, builtin, Builtin.delete_, hx, hy]
        simp [hx, hy, Builtin.delete_, run_underlying hm, MapKept.run_getObj_map hh, hc, hf, ha, MapKept.run_setObj_map _ hh]
      · rw [h3, encK_erase, ← hk, kvs, kvs, htl, map_eraseIdx]
      · intro z hz
        rw [htl] at hz
        exact hb z (List.mem_of_mem_eraseIdx hz)
      · rw [htl]
        exact (List.eraseIdx_sublist es.toList m).map _ |>.nodup hn) k
end
theorem r_lenmo {x : Operand} {T kt e g : Nat} {l : List (Value × Value)} (hx : ev n env x = .map (some g)) (hm : P.underlying T = some (.map kt e)) (hp : RdMap w0 (fun k => ¬ F0 k) g l) :
    Runs P w0 F0 L n env ⟨d, .call ⟨.builtin .len, #[x], #[T]⟩, ty, pos, af, gd⟩ (.int .i64 (l.length : Int)) := fun w hst => by
  obtain ⟨es, clock, hh, hk⟩ := hst.mapOld hp
  have hl : es.size = l.length := by rw [← hk, kvs_length]
  simp [execOp, resolve, invoke, builtin, Builtin.len_, hx, run_underlying hm, MapKept.run_getObj_map hh, goInt, hl]
/-- One cell of a block that is owned in some way is written. -/
theorem gl_stAny {T : TypeId} {x y : Operand} {g o : Nat} {v : Value} {L' : List Res} {r r' : Res} (hw : Wt ops n env ⟨none, .store T x y, ty, pos, af, gd⟩ true)
    (hx : ev n env x = .pointer (some ⟨g, o, none⟩)) (hy : ev n env y = v) (hs : szT P T = some 1) (h1 : v.oneCell' = true) (hp : Pick L r L')
    (hr : ∀ w F, r.on w F → F g ∧ ∃ cs T fz, w.heap[g]? = some (.cells cs T fz) ∧ o < cs.size ∧ ∀ w' : World, w'.heap[g]? = some (.cells (cs.setIfInBounds o v) T fz) → (∀ k, k ≠ g → w'.heap[k]? = w.heap[k]?) → r'.on w' F)
    (k : Gl P w0 F0 (r' :: L') ops Q rest n env) : Gl P w0 F0 L ops Q (⟨none, .store T x y, ty, pos, af, gd⟩ :: rest) n env :=
  gl_skip hw (fun w hst => by
    obtain ⟨F, hF, hstp⟩ := hst
    obtain ⟨F1, h1r, _⟩ := stars_pick hp hF
    obtain ⟨hg, cs, T', fz, hh, ho, hk⟩ := hr w F1 h1r
    obtain ⟨ob, hob, hfz⟩ := r.ok h1r g hg
    rw [hh] at hob
    cases hob
    have hrun := run_storeCells_blk (P := P) (T := T') (fz := fz) g o [v] 0 cs.toList w hh (by simpa [okObj] using hfz) (by simp; omega) (by simpa using h1)
    have hu : (updL cs.toList (o + 0) [v]).toArray = cs.setIfInBounds o v := by
      rw [Nat.add_zero, updL_cons (by simpa using ho)]
      simp only [updL, List.nil_append, List.length_nil, Nat.add_zero, List.take_append_drop]
      rw [← Array.toList_setIfInBounds]
    rw [hu] at hrun
    refine ⟨_, ?_, St.setR (r := r) (r' := r') (g := g) (o' := .cells (cs.setIfInBounds o v) T' fz) ⟨F, hF, hstp⟩ hp (fun F2 h2 => ?_) (fun w' F2 h2 hg' hk' => ?_)⟩
    · have hc : v.cells.toList = [v] := by cases v <;> first | rfl | (simp [Value.oneCell'] at h1)
      have hv : v.cells.size = 1 := by rw [← Array.length_toList, hc]; rfl
      simp [execOp, hx, hy, Instr.storeAt, Instr.sureAddr, storeVar, hv, run_sz hs, hc, hrun]
    · exact ⟨(hr w F2 h2).1, (Array.getElem?_eq_some_iff.1 hh).1⟩
    · obtain ⟨_, cs2, T2, fz2, hh2, _, hk2⟩ := hr w F2 h2
      rw [hh] at hh2
      cases hh2
      exact hk2 w' hg' hk') k
theorem updL_row {xs tl hd new : List Value} {o : Nat} (hh : hd.length = o) {i : Nat} (h : i + new.length ≤ xs.length) : updL (hd ++ (xs ++ tl)) (o + i) new = hd ++ (updL xs i new ++ tl) := by
  subst hh
  unfold updL
  rw [List.take_append, List.drop_append, List.take_of_length_le (by omega), List.drop_eq_nil_of_le (by omega), List.nil_append, show hd.length + i - hd.length = i by omega, show hd.length + i + new.length - hd.length = i + new.length by omega,
    List.take_append_of_le_length (by omega), List.drop_append_of_le_length h]
  simp
theorem flattenV_set {size : Nat} : ∀ {css : List (List Value)} {i : Nat} {c : List Value}, (∀ c ∈ css, c.length = size) → c.length = size → i < css.length → updL css.flatten (i * size) c = (css.set i c).flatten
  | [], i, c, _, _, h => by simp at h
  | d :: l, 0, c, h, hc, _ => by
    have hd := h d (by simp)
    simp only [Nat.zero_mul, List.flatten_cons, List.set_cons_zero, updL, List.take_zero, List.nil_append, Nat.zero_add]
    rw [hc, ← hd, List.drop_left]
  | d :: l, i + 1, c, h, hc, hi => by
    have hd := h d (by simp)
    have ih := flattenV_set (css := l) (i := i) (c := c) (fun c' hc' => h c' (by simp [hc'])) hc (by simpa using hi)
    have hl := flatten_len (fun c' hc' => h c' (List.mem_cons_of_mem d hc'))
    simp only [List.length_cons] at hi
    have e := updL_row (hd := d) (xs := l.flatten) (tl := []) (new := c) (i := i * size) hd (by rw [hl, hc]; have := Nat.mul_le_mul_right size (show i + 1 ≤ l.length by omega); rw [Nat.add_mul, Nat.one_mul] at this; exact this)
    simp only [List.append_nil] at e
    rw [List.flatten_cons, List.set_cons_succ, List.flatten_cons, ← ih, ← e]
    congr 1
    rw [Nat.add_mul, Nat.one_mul, Nat.add_comm]
/-- An element of a row that is owned is written over. -/
theorem gl_stRow {T : TypeId} {x y : Operand} {g o o2 e size m c i : Nat} {css : List (List Value)} {new : List Value} {L' : List Res} (hw : Wt ops n env ⟨none, .store T x y, ty, pos, af, gd⟩ true)
    (hx : ev n env x = .pointer (some ⟨g, o2, none⟩)) (ho : o2 = o + i * size) (hy : ev n env y = .agg new.toArray) (hs : szT P T = some size) (hn : new.length = size) (h1 : ∀ u ∈ new, u.oneCell' = true) (hc : ∀ c ∈ css, c.length = size) (hi : i < css.length)
    (hp : Pick L (rowR e size (some ⟨g, o, none⟩) m c css.flatten) L') (k : Gl P w0 F0 (rowR e size (some ⟨g, o, none⟩) m c (css.set i new).flatten :: L') ops Q rest n env) : Gl P w0 F0 L ops Q (⟨none, .store T x y, ty, pos, af, gd⟩ :: rest) n env :=
  gl_skip hw (fun w hst => by
    obtain ⟨F, hF, hstp⟩ := hst
    obtain ⟨F1, ⟨hl1, hmc, hcm, hor⟩, _⟩ := stars_pick hp hF
    rcases hor with ⟨h, _⟩ | ⟨g', o', cs, fz, ha, hFg, hg, hz, hcs, hxs⟩
    · cases h
    cases ha
    have hlf := flatten_len hc
    have hcl : css.length * size = m * size := by rw [← hlf]; exact hl1
    have him : (i + 1) * size ≤ m * size := by rw [← hcl]; exact Nat.mul_le_mul_right size hi
    have hms : m * size ≤ c * size := Nat.mul_le_mul_right size hmc
    rw [Nat.add_mul, Nat.one_mul] at him
    have hrun := run_storeCells_blk (P := P) (T := e) (fz := fz) g (o + i * size) new 0 cs.toList w (by simpa using hg) (by simpa using hz) (by simp; omega) h1
    rw [Nat.add_zero] at hrun
    have hsp : cs.toList = cs.toList.take o ++ (css.flatten ++ (cs.toList.drop o).drop (m * size)) := by
      rw [← hxs, List.take_append_drop, List.take_append_drop]
    have hu : updL cs.toList (o + i * size) new = cs.toList.take o ++ ((css.set i new).flatten ++ (cs.toList.drop o).drop (m * size)) := by
      conv => lhs; rw [hsp]
      rw [updL_row (by rw [List.length_take]; simp; omega) (by rw [hlf, hn]; omega), flattenV_set hc hn hi]
    have hfl : (css.set i new).flatten.length = m * size := by
      rw [flatten_len (size := size) (fun c' hc' => by rcases List.mem_or_eq_of_mem_set hc' with h | h; exact hc c' h; (subst h; exact hn)), List.length_set, hcl]
    have hsz : (updL cs.toList (o + i * size) new).length = cs.size := by rw [updL_length (by simp; omega)]; simp
    refine ⟨_, ?_, St.setR (g := g) (o' := .cells (updL cs.toList (o + i * size) new).toArray e fz) (r' := rowR e size (some ⟨g, o, none⟩) m c (css.set i new).flatten) ⟨F, hF, hstp⟩ hp (fun F2 h2 => ?_) (fun w' F2 h2 hg' hk' => ?_)⟩
    · have hv : (Value.agg new.toArray).cells.size = size := by simp [Value.cells, hn]
      subst ho
      simp [execOp, hx, hy, Instr.storeAt, Instr.sureAddr, storeVar, Value.cells, hn, run_sz hs, hrun]
    · obtain ⟨_, _, _, h2⟩ := h2
      rcases h2 with ⟨h, _⟩ | ⟨g', o', _, _, ha, hF2, _⟩
      · cases h
      · cases ha; exact ⟨(hF2 g).2 rfl, (Array.getElem?_eq_some_iff.1 hg).1⟩
    · obtain ⟨_, _, _, h2⟩ := h2
      rcases h2 with ⟨h, _⟩ | ⟨g', o', _, _, ha, hF2, _⟩
      · cases h
      · cases ha
        refine ⟨hfl, hmc, hcm, .inr ⟨g, o, _, fz, rfl, hF2, hg', ?_, ?_, ?_⟩⟩
        · simpa [hsz] using hz
        · simpa [hsz] using hcs
        · simp only []
          rw [hu, List.drop_append, List.drop_eq_nil_of_le (by rw [List.length_take]; omega), List.nil_append, List.length_take, Nat.min_eq_left (by simp; omega), Nat.sub_self, List.drop_zero, List.take_append_of_le_length (by omega), List.take_of_length_le (by omega)]) k
theorem gx_rettcct {fn : Func} {R : Ending → World → Prop} {s t u v : Tmp} {U V : TypeId} {a b : Addr} {x y z1 z2 : Value} (hr : fn.results = #[.tmp s, .cell t U, .cell u V, .tmp v]) (ht : ev n env (.tmp t) = .pointer (some a)) (hu : ev n env (.tmp u) = .pointer (some b)) (hs : ev n env (.tmp s) = z1) (hv : ev n env (.tmp v) = z2)
    (hl : ∀ w, St w0 F0 L w → (loadVar U a).run P w = .ok x w) (hl2 : ∀ w, St w0 F0 L w → (loadVar V b).run P w = .ok y w) (hR : ∀ w, St w0 F0 L w → R (.returned (.tuple #[z1, x, y, z2])) w) (hd : n.ds = [] := by rfl) : Gx w0 F0 L (bodyPost P fn R) .ret n env :=
  gx_end (fun w hw => by simp [results, hr, fr_tmp' ht, fr_tmp' hu, fr_tmp' hs, fr_tmp' hv, asAddr, hl w hw, hl2 w hw]) hR hd
/-- The loop's record ahead of all. -/
theorem gx_lp {l : Nat} {r : Loop} {L' : List Res} {e : Exit} (hp : Pick L (lpR l r) L') (h : Gx w0 F0 (lpR l r :: L') Q e n env) : Gx w0 F0 L Q e n env := fun w hw => h w (hw.pick hp)
end
end Go.Proofs.YtobjojeliibinaaDoor

/- The engine, part P: bytes in a row of one's own. -/
namespace Go.Proofs.YtobjojeliibinaaDoor
open Go
set_option linter.unusedVariables false
set_option linter.unusedSimpArgs false
theorem updL_set {α : Type} {V : α → Value} {l : List α} {i : Nat} {y : α} (h : i < l.length) : updL (l.map V) i [V y] = (l.set i y).map V := by
  apply List.ext_getElem?
  intro j
  simp only [updL, List.length_singleton]
  rw [List.getElem?_map, List.getElem?_set]
  by_cases h1 : j < i
  · rw [List.getElem?_append_left (by simp; omega), List.getElem?_take, if_pos h1, List.getElem?_map, if_neg (by omega)]
  · by_cases h2 : j = i
    · subst h2
      rw [List.getElem?_append_right (by simp; omega)]
      simp [show min j l.length = j by omega, h]
    · rw [List.getElem?_append_right (by simp; omega), List.getElem?_append_right (by simp; omega), List.getElem?_drop, List.getElem?_map, if_neg (fun e => h2 e.symm)]
      congr 2
      simp; omega
def updY (o : Nat) (m l : List UInt8) : List UInt8 := l.take o ++ (m ++ l.drop (o + m.length))
theorem updL_updY (o : Nat) (m l : List UInt8) : updL (l.map B8) o (m.map B8) = (updY o m l).map B8 := by
  simp [updL, updY, List.map_take, List.map_drop]
/-- One fresh cell in a block of its own, no mark on it. -/
def rowZ (g e : Nat) (v : Value) : Res where
  on w F := (∀ k, F k ↔ k = g) ∧ w.heap[g]? = some (.cells #[v] e (0, 0))
  loc := fun ⟨hF, h⟩ hk => ⟨hF, (hk g ((hF g).2 rfl)).trans h⟩
  ok := fun ⟨hF, h⟩ k hk => by
    rw [(hF k).1 hk]
    exact ⟨_, h, fun i _ hi => by simp at hi⟩
section
variable {P : Program} {w0 : World} {F0 : Nat → Prop} {L : List Res} {Q : Exit → Act → World → Prop} {n : Fm} {env : Env} {ops : Array Oper} {rest : List Oper} {ty : TypeId} {pos : String} {af : Array Edge} {gd : Option (Nat × Bool)} {d : Option Tmp}
theorem r_ldY {x : Operand} {T g o : Nat} {l : List UInt8} {L' : List Res} {T' : Nat} [RO P T] (i : Nat) (hi : i < l.length) (hx : ev n env x = .pointer (some ⟨g, o, none⟩) := by exact rfl) (ho : o = i := by omega) (hp : Pick L (blk g T' (l.map B8)) L' := by repeat (first | exact Pick.here | apply Pick.there)) :
    Runs P w0 F0 L n env ⟨d, .load T x, ty, pos, af, gd⟩ (B8 (l.getD i 0)) := r_ld1 hx RO.h hp (by subst ho; simp [List.getD, hi])
theorem gl_stY {x y : Operand} {T g o : Nat} {l l' : List UInt8} {v : UInt8} {L' : List Res} {T' : Nat} [SZ P T 1] (i : Nat) (hi : i < l.length) (hf : l.set i v = l') (k : Gl P w0 F0 (blk g T' (l'.map B8) :: L') ops Q rest n env) (hx : ev n env x = .pointer (some ⟨g, o, none⟩) := by exact rfl) (hy : ev n env y = B8 v := by exact rfl) (ho : o = i := by omega)
    (hp : Pick L (blk g T' (l.map B8)) L' := by repeat (first | exact Pick.here | apply Pick.there)) (hw : Wt ops n env ⟨none, .store T x y, ty, pos, af, gd⟩ true := by first | exact wt0 rfl | exact wtgT rfl rfl rfl rfl) :
    Gl P w0 F0 L ops Q (⟨none, .store T x y, ty, pos, af, gd⟩ :: rest) n env := by
  subst ho; subst hf
  exact gl_store1 hw hx hy rfl SZ.h hp (by rw [List.length_map]; omega) (updL_set hi) k
theorem r_max {x y : Operand} {T1 T2 : TypeId} {k : IntKind} {i j : Int} (hx : ev n env x = .int k i := by exact rfl) (hy : ev n env y = .int k j := by exact rfl) :
    Runs P w0 F0 L n env ⟨d, .call ⟨.builtin .max, #[x, y], #[T1, T2]⟩, ty, pos, af, gd⟩ (.int k (if i < j then j else i)) := fun w _ => by
  simp only [execOp, resolve, invoke, builtin]
  simp [hx, hy, Builtin.max_, Builtin.max2]
theorem r_nepn {x : Operand} {T T' e : TypeId} {a : Option Addr} (hx : ev n env x = .pointer a := by exact rfl) (ht : P.underlying T = some (.pointer e)) :
    Runs P w0 F0 L n env ⟨d, .binOp .neq T x (.const (.pointer none)) T', ty, pos, af, gd⟩ (.bool (!a.isNone)) := fun w _ => by
  have h : ∀ d : Nat, (Op.equalIn (d + 1) T (.pointer a) (.pointer none)).run P w = .ok a.isNone w := fun d => by
    cases a <;> simp [Op.equalIn, run_underlying ht]
  have h9 := h 9999
  have hc : ev n env (.const (.pointer none)) = .pointer none := rfl
  simp only [execOp, hx, hc]
  simp [eqGuard, binOp, Op.equal, Op.maxDepth, h9]
theorem gl_bs1Z {t : Tmp} {T e : Nat} {x : Operand} {v : Value} {z : List Value} (hw : Wt ops n env ⟨some t, .buildSlice T 1 #[(0, x)], ty, pos, af, gd⟩ true) (ht : sliceT P T = some e) (hs : szT P e = some 1) (hz : zcT P e = some z) (hx : ev n env x = v) (h1 : v.oneCell' = true)
    (k : ∀ b, Gl P w0 F0 (rowZ b e v :: L) ops Q rest n ((t, .slice (some ⟨b, 0, none⟩) 1 1) :: env)) : Gl P w0 F0 L ops Q (⟨some t, .buildSlice T 1 #[(0, x)], ty, pos, af, gd⟩ :: rest) n env := by
  refine gl_effx (α := Nat) (L' := fun b => rowZ b e v :: L) (v := fun b => .slice (some ⟨b, 0, none⟩) 1 1) hw (fun w hst => ?_) k
  obtain ⟨zv, hz', hc⟩ := zcT_some hz
  have hfill : Instr.fill (fun i => some (i * 1, 1)) ((Array.range (1 * 1)).map fun i => zv.cells[i % zv.cells.size]!) [(0, v)] = some #[v] := by
    have hv : v.cells = #[v] := by cases v <;> first | rfl | (simp [Value.oneCell'] at h1)
    have := fill_of (fun i => some (i * 1, 1)) [(0, v)] ((Array.range (1 * 1)).map fun i => zv.cells[i % zv.cells.size]!) [v] (by
      have h2 := fillL_row 1 [v] [[v]] 0 [] ((List.range (1 * 1)).map fun i => zv.cells[i % zv.cells.size]!) (by simp) (by simp) (by simp [hv]) (by simp)
      simpa using h2)
    simpa using this
  refine ⟨w.heap.size, { w with heap := w.heap.push (.cells #[v] e) }, ?_, hst.pushR fun w' h => ⟨fun k => Iff.rfl, h⟩⟩
  simp only [execOp, Instr.buildSlice, Sem.run_bind, run_underlying (run_sliceT ht), Result.andThen_ok, run_sz hs]
  rw [if_neg (by omega), if_neg (by omega)]
  have hcomp : ((#[(0, x)] : Array (Nat × Operand)).map fun (i, x) => (i, ev n env x)).toList = [(0, v)] := by simp [hx]
  simp only [Sem.run_bind, run_zeroT hz', Result.andThen_ok, Sem.run_pure, hcomp, hfill, newRow, newObj, Sem.run, Sem.run_map]
theorem gl_cvZ {t : Tmp} {T e g : Nat} {x : Operand} {v : Value} {L' : List Res} (hw : Wt ops n env ⟨some t, .convert T T x, ty, pos, af, gd⟩ true) (hx : ev n env x = .slice (some ⟨g, 0, none⟩) 1 1) (ht : sliceT P T = some e) (he : P.underlying e = some (.int .u8)) (hp : Pick L (rowZ g e v) L')
    (k : Gl P w0 F0 (rowR e 1 (some ⟨g, 0, none⟩) 1 1 [v] :: L') ops Q rest n ((t, .slice (some ⟨g, 0, none⟩) 1 1) :: env)) : Gl P w0 F0 L ops Q (⟨some t, .convert T T x, ty, pos, af, gd⟩ :: rest) n env := by
  refine gl_eff (L' := rowR e 1 (some ⟨g, 0, none⟩) 1 1 [v] :: L') (v := .slice (some ⟨g, 0, none⟩) 1 1) hw (fun w hst => ?_) k
  have hst0 := hst
  obtain ⟨F, hF, _⟩ := hst0
  obtain ⟨F1, F2, ⟨hF1, hh⟩, _, hE, _⟩ := hp.stars hF
  have hlt : g < w.heap.size := (Array.getElem?_eq_some_iff.1 hh).1
  have hsh : w.shape? g = some (e, 1) := by unfold World.shape?; rw [hh]; rfl
  have hfz : w.freeze ⟨g, 1, none⟩ 1 = { w with heap := w.heap.setIfInBounds g (.cells #[v] e (1, 2)) } := by
    unfold World.freeze
    rw [if_neg (by decide)]
    congr 1
    apply Array.ext_getElem?
    intro i
    rw [Array.getElem?_modify, Array.getElem?_setIfInBounds]
    by_cases hi : g = i
    · subst hi; rw [if_pos rfl, if_pos rfl, if_pos hlt, hh]; rfl
    · rw [if_neg hi, if_neg hi]
  refine ⟨{ w with heap := w.heap.setIfInBounds g (.cells #[v] e (1, 2)) }, ?_, hst.setR hp (fun F h => ⟨(h.1 g).2 rfl, hlt⟩) (fun w' F h hg' _ => ⟨rfl, Nat.le_refl _, by decide, .inr ⟨g, 0, #[v], (1, 2), rfl, h.1, hg', fun i hi h => (by simp at hi; omega), by simp, by simp⟩⟩)⟩
  simp [execOp, hx, convert, run_underlying (run_sliceT ht), run_underlying he, markStringish, shape, freeze, Sem.run, hsh, hfz]
/-- What a block of one's own reads as, seen from a call that has other things. -/
theorem rd_blkY {L L' : List Res} {w : World} {F1 F2 : Nat → Prop} {g T o m : Nat} {l : List UInt8} (h2 : stars L w F2) (hd : ∀ k, F1 k → ¬ F2 k) (hp : Pick L (blk g T (l.map B8)) L') (hl : o + m ≤ l.length) (hm : m ≤ maxLen) :
    RdRow w (fun k => ¬ F1 k) 1 (some ⟨g, o, none⟩) m (((l.drop o).take m).map B8) := by
  obtain ⟨F', h', hs⟩ := stars_pick hp h2
  exact (RdRow.of_blk h' (n := m) (size := 1) (o := o) (by rw [Nat.mul_one, List.map_take, List.map_drop]) (by simp; omega) hm).mv fun k _ hk => ⟨rfl, fun h1 => hd k h1 (hs k hk)⟩
theorem St.rdBlkY {w : World} {g T o m : Nat} {l : List UInt8} {L' : List Res} (hs : St w0 F0 L w) (hp : Pick L (blk g T (l.map B8)) L') (hl : o + m ≤ l.length) (hm : m ≤ maxLen) : RdRow w (fun _ => True) 1 (some ⟨g, o, none⟩) m (((l.drop o).take m).map B8) := by
  obtain ⟨F, hF, _⟩ := hs
  obtain ⟨F', h', _⟩ := stars_pick hp hF
  exact (RdRow.of_blk h' (n := m) (size := 1) (o := o) (by rw [Nat.mul_one, List.map_take, List.map_drop]) (by simp; omega) hm).mv fun k _ hk => ⟨rfl, trivial⟩
theorem RdRow.cutY {w : World} {A : Nat → Prop} {n c h : Nat} {a : Option Addr} {xs : List UInt8} (hr : RdRow w A 1 a n (xs.map B8)) (h2 : h ≤ n) (h3 : n ≤ c) : RdRow w A 1 (if c = 0 then a else a.map (·.add (0 * 1))) h ((xs.take h).map B8) := by
  have := hr.cut8 (l := 0) (h := h) (Nat.zero_le _) h2 h3
  rwa [List.drop_zero, Nat.sub_zero] at this
end
end Go.Proofs.YtobjojeliibinaaDoor

/- Walks, by program (wg.py) out of a spec. -/
namespace Go.Proofs.YtobjojeliibinaaDoor
open Go
set_option linter.unusedVariables false
set_option linter.unusedSimpArgs false

/-- A reading of cells that stays as long as its blocks stay. -/
class RdK {α : Type} (rd : World → (Nat → Prop) → List Value → α → Prop) : Prop where
  mv : ∀ {w w' : World} {A A' : Nat → Prop} {cs : List Value} {x : α}, rd w A cs x → Still w A w' A' → rd w' A' cs x
instance : RdK (fun _ _ => RdDig) := ⟨fun h _ => h⟩
instance : RdK (fun _ _ => RdVdr) := ⟨fun h _ => h⟩
instance : RdK RdBytes := ⟨fun h k => h.mv k⟩
instance : RdK RdSig := ⟨fun h k => h.mv k⟩
instance : RdK RdSigned := ⟨fun h k => h.mv k⟩
instance : RdK RdLate := ⟨fun h k => h.mv k⟩
instance : RdK RdQC := ⟨fun h k => h.mv k⟩
instance : RdK RdTC := ⟨fun h k => h.mv k⟩
instance : RdK RdBlock := ⟨fun h k => h.mv k⟩
instance : RdK RdVote := ⟨fun h k => h.mv k⟩
instance : RdK RdTmo := ⟨fun h k => h.mv k⟩
instance : RdK RdProp := ⟨fun h k => h.mv k⟩
instance : RdK RdChg := ⟨fun h k => h.mv k⟩
instance : RdK RdMsg := ⟨fun h k => h.mv k⟩
theorem still_of {w w' : World} {F : Nat → Prop} (hk : ∀ k, k < w.heap.size → F k → w'.heap[k]? = w.heap[k]?) : Still w F w' F := fun k h hF => ⟨hk k h hF, hF⟩
theorem still_sub {w : World} {F G : Nat → Prop} (h : ∀ k, F k → G k) : Still w F w G := fun k _ hF => ⟨rfl, h k hF⟩
section
variable {α : Type} (rd : World → (Nat → Prop) → List Value → α → Prop) [RdK rd]
/-- Cells that read as x, in blocks that are owned. -/
def VlR (cs : List Value) (x : α) : Res := rdR (fun w F => rd w F cs x) (fun h hk => RdK.mv h (still_of hk))
/-- A slice that reads as l, all of it owned. -/
def LsR (size : Nat) (a : Option Addr) (n : Nat) (l : List α) : Res := rdR (fun w F => RdList (rd w F) w F size a n l) (fun h hk => RdList.mv h (still_of hk) fun _ _ hc => RdK.mv hc (still_of hk))
/-- Elements: what lies behind their cells. -/
def ElR (css : List (List Value)) (l : List α) : Res := rdR (fun w F => css.length = l.length ∧ ∀ (i : Nat) (c : List Value) (x : α), css[i]? = some c → l[i]? = some x → rd w F c x) (fun h hk => ⟨h.1, fun i c x h1 h2 => RdK.mv (h.2 i c x h1 h2) (still_of hk)⟩)
end
theorem stars_two {r s : Res} {w : World} {F : Nat → Prop} (h : stars [r, s] w F) : ∃ F1 F2, r.on w F1 ∧ s.on w F2 ∧ ∀ k, F k ↔ F1 k ∨ F2 k := by
  obtain ⟨F1, F2, h1, h2, hF, _⟩ := h
  exact ⟨F1, F2, h1, stars_one' h2, hF⟩
theorem stars_swap {r s : Res} {L : List Res} {w : World} {F : Nat → Prop} (h : stars (r :: s :: L) w F) : stars (s :: r :: L) w F := Pick.stars (.there .here) h
theorem stars_cons {r : Res} {L : List Res} {w : World} {F : Nat → Prop} (h : stars (r :: L) w F) : ∃ F1 F2, r.on w F1 ∧ stars L w F2 ∧ ∀ k, F k ↔ F1 k ∨ F2 k := by
  obtain ⟨F1, F2, h1, h2, hF, _⟩ := h; exact ⟨F1, F2, h1, h2, hF⟩
theorem rdR_mk {φ : World → (Nat → Prop) → Prop} {hl} {w : World} {F : Nat → Prop} {L : List Res} (h : φ w F) (hs : stars L w F) : stars [rdR φ hl] w F := stars_one ⟨h, stars_ok hs⟩
section
variable {α : Type} {rd : World → (Nat → Prop) → List Value → α → Prop} [RdK rd]
theorem el_nil {L : List Res} {w : World} {F : Nat → Prop} (h : stars L w F) : stars (ElR rd [] [] :: L) w F :=
  ⟨fun _ => False, F, ⟨⟨rfl, fun i c x h1 _ => by simp at h1⟩, fun _ h => h.elim⟩, h, fun k => by simp, fun _ h => h.elim⟩
theorem el_snoc {css : List (List Value)} {l : List α} {c : List Value} {x : α} {w : World} {F : Nat → Prop} (h : stars [ElR rd css l, VlR rd c x] w F) : stars [ElR rd (css ++ [c]) (l ++ [x])] w F := by
  obtain ⟨F1, F2, h1, h2, hF⟩ := stars_two h
  obtain ⟨⟨he, h1⟩, _⟩ := h1
  refine rdR_mk ⟨by simp [he], fun i c' x' hc hx => ?_⟩ h
  by_cases hi : i < css.length
  · rw [List.getElem?_append_left hi] at hc
    rw [List.getElem?_append_left (by omega)] at hx
    exact RdK.mv (h1 i c' x' hc hx) (still_sub fun k hk => (hF k).2 (.inl hk))
  · have hi' : i = css.length := by
      have := (List.getElem?_eq_some_iff.1 hc).1; simp at this; omega
    subst hi'
    rw [List.getElem?_append_right (by omega)] at hc hx
    simp only [Nat.sub_self, List.getElem?_cons_zero, Option.some.injEq] at hc
    simp only [he, Nat.sub_self, List.getElem?_cons_zero, Option.some.injEq] at hx
    subst hc; subst hx
    exact RdK.mv h2.1 (still_sub fun k hk => (hF k).2 (.inr hk))
theorem ls_of {e size n cap : Nat} {a : Option Addr} {css : List (List Value)} {l : List α} {w : World} {F : Nat → Prop} (hsz : ∀ c ∈ css, c.length = size) (h : stars [rowR e size a n cap css.flatten, ElR rd css l] w F) : stars [LsR rd size a n l] w F := by
  obtain ⟨F1, F2, h1, h2, hF⟩ := stars_two h
  obtain ⟨⟨he, h2⟩, _⟩ := h2
  exact rdR_mk ⟨css, (rowR.rd h1).mv (still_sub fun k hk => (hF k).2 (.inl hk)), hsz, he, fun i c x hc hx => RdK.mv (h2 i c x hc hx) (still_sub fun k hk => (hF k).2 (.inr hk))⟩ h
theorem ls_nil {size : Nat} {L : List Res} {w : World} {F : Nat → Prop} (h : stars L w F) : stars (LsR rd size none 0 [] :: L) w F :=
  ⟨fun _ => False, F, ⟨RdList.nil, fun _ h => h.elim⟩, h, fun k => by simp, fun _ h => h.elim⟩
end
theorem St.pureI {w0 w : World} {F0 : Nat → Prop} {L : List Res} {p : Prop} (hp : p) (h : St w0 F0 L w) : St w0 F0 (pureR p :: L) w := by
  obtain ⟨F, hF, hst⟩ := h; exact ⟨F, stars_pure_mk hp hF, hst⟩
theorem St.mapL {w0 w : World} {F0 : Nat → Prop} {L L' : List Res} (h : St w0 F0 L w) (k : ∀ F, stars L w F → stars L' w F) : St w0 F0 L' w := by
  obtain ⟨F, hF, hst⟩ := h; exact ⟨F, k F hF, hst⟩
/-- A callee's step, beside what stays. -/
theorem calls_frame {P : Program} {f : FuncId} {args : Array Value} {w : World} {F F1 F2 : Nat → Prop} {α : Type} {V : α → Value} {N : α → List Res} {L : List Res} (hc : Calls P f args w (Post w F1 V N)) (h2 : stars L w F2) (hF : ∀ k, F k ↔ F1 k ∨ F2 k) (hd : ∀ k, F1 k → ¬ F2 k) :
    Calls P f args w (Post w F V (fun x => N x ++ L)) := Calls.mono hc fun e w' ⟨x, he, hs⟩ => ⟨x, he, St.call (Stp.refl w F) h2 hF hd hs⟩

section
variable {w : World} {F : Nat → Prop}
theorem vl_pure {α : Type} {rd : World → (Nat → Prop) → List Value → α → Prop} [RdK rd] {L : List Res} {cs : List Value} {x : α} (h : rd w (fun _ => False) cs x) (hs : stars L w F) : stars (VlR rd cs x :: L) w F :=
  ⟨fun _ => False, F, ⟨h, fun _ h => h.elim⟩, hs, fun k => by simp, fun _ h => h.elim⟩
theorem St.vl {α : Type} {rd : World → (Nat → Prop) → List Value → α → Prop} [RdK rd] {w0 : World} {F0 : Nat → Prop} {L : List Res} {cs : List Value} {x : α} (hs : St w0 F0 L w) (h : rd w (fun _ => False) cs x) : St w0 F0 (VlR rd cs x :: L) w := hs.mapL fun F hF => vl_pure h hF
theorem vl_sig {leaf : Int} {a1 a2 : Option Addr} {n1 c1 n2 c2 : Nat} {l1 l2 : List Dig} (k1 : n1 ≤ c1) (k2 : n2 ≤ c2) (h : stars [LsR (fun _ _ => RdDig) 16 a1 n1 l1, LsR (fun _ _ => RdDig) 16 a2 n2 l2] w F) : stars [VlR RdSig [.int .i64 leaf, .slice a1 n1 c1, .slice a2 n2 c2] ⟨leaf, l1, l2⟩] w F := by
  obtain ⟨F1, F2, h1, h2, hF⟩ := stars_two h
  exact rdR_mk ⟨a1, n1, c1, a2, n2, c2, rfl, k1, k2, RdList.mv h1.1 (still_sub fun k hk => (hF k).2 (.inl hk)) fun _ _ h => h, RdList.mv h2.1 (still_sub fun k hk => (hF k).2 (.inr hk)) fun _ _ h => h⟩ h
theorem vl_signed {who : Int} {ss : List Value} {s : Sig} (h : stars [VlR RdSig ss s] w F) : stars [VlR RdSigned (.int .i64 who :: ss) ⟨who, s⟩] w F := rdR_mk ⟨ss, rfl, (stars_one' h).1⟩ h
theorem vl_late {who high : Int} {ss : List Value} {s : Sig} (h : stars [VlR RdSig ss s] w F) : stars [VlR RdLate (.int .i64 who :: .int .i64 high :: ss) ⟨who, high, s⟩] w F := rdR_mk ⟨ss, rfl, (stars_one' h).1⟩ h
theorem vl_qc {e r : Int} {d : Dig} {a : Option Addr} {n c : Nat} {l : List Signed} (k : n ≤ c) (h : stars [LsR RdSigned 4 a n l] w F) : stars [VlR RdQC (.int .i64 e :: .int .i64 r :: (dc d ++ [.slice a n c])) ⟨e, r, d, l⟩] w F := rdR_mk ⟨a, n, c, rfl, k, (stars_one' h).1⟩ h
theorem vl_tc {e r : Int} {a : Option Addr} {n c : Nat} {l : List Late} (k : n ≤ c) (h : stars [LsR RdLate 5 a n l] w F) : stars [VlR RdTC [.int .i64 e, .int .i64 r, .slice a n c] ⟨e, r, l⟩] w F := rdR_mk ⟨a, n, c, rfl, k, (stars_one' h).1⟩ h
theorem vl_bytes {e n c : Nat} {a : Option Addr} {b : List UInt8} (h : stars [rowR e 1 a n c (b.map B8)] w F) : stars [VlR RdBytes [.slice a n c] b] w F := by
  have hr := stars_one' h
  exact rdR_mk ⟨a, n, c, rfl, hr.2.1, rowR.rd hr⟩ h
theorem vl_block {e r : Int} {d : Dig} {q : List Value} {x : QC} {a1 a2 : Option Addr} {n1 c1 n2 c2 : Nat} {l1 : List (List UInt8)} {l2 : List Vdr} (k1 : n1 ≤ c1) (k2 : n2 ≤ c2)
    (h : stars [VlR RdQC q x, LsR RdBytes 1 a1 n1 l1, LsR (fun _ _ => RdVdr) 17 a2 n2 l2] w F) : stars [VlR RdBlock (.int .i64 e :: .int .i64 r :: (dc d ++ (q ++ [.slice a1 n1 c1, .slice a2 n2 c2]))) ⟨e, r, d, x, l1, l2⟩] w F := by
  obtain ⟨F1, F2, h1, h2, hF⟩ := stars_cons h
  obtain ⟨F3, F4, h3, h4, hF2⟩ := stars_two h2
  have s3 : ∀ k, F3 k → F k := fun k hk => (hF k).2 (.inr ((hF2 k).2 (.inl hk)))
  exact rdR_mk ⟨q, a1, n1, c1, a2, n2, c2, rfl, h1.1.mv (still_sub fun k hk => (hF k).2 (.inl hk)), k1, RdList.mv h3.1 (still_sub s3) fun _ _ h => h.mv (still_sub s3), k2, RdList.mv h4.1 (still_sub fun k hk => (hF k).2 (.inr ((hF2 k).2 (.inr hk)))) fun _ _ h => h⟩ h
end
instance : Len blkC 39 := ⟨rfl⟩
instance : Len qcC 19 := ⟨rfl⟩
theorem one_qcC : ∀ v ∈ qcC, v.oneCell' = true := (rdQC0 (w := default) (A := fun _ => True)).one
instance : One qcC := ⟨one_qcC⟩
instance : One blkC := ⟨(rdBlock0 (w := default) (A := fun _ => True)).one⟩
section
variable {P : Program} {w0 w : World} {F F0 : Nat → Prop} {L L' : List Res} {Q : Exit → Act → World → Prop} {n : Fm} {env : Env} {ops : Array Oper} {rest : List Oper}
theorem St.rowAt {e size a m c} {xs : List Value} (hw : St w0 F0 L w) (hp : Pick L (rowR e size a m c xs) L') (hm : 0 < m) : m ≤ c ∧ ∃ g o, a = some ⟨g, o, none⟩ := by
  obtain ⟨F, hF, _⟩ := hw
  obtain ⟨F1, ⟨h1, h2, h3, h4⟩, _⟩ := stars_pick hp hF
  refine ⟨h2, ?_⟩
  rcases h4 with ⟨_, hc, _⟩ | ⟨g, o, _, _, ha, _⟩
  · omega
  · exact ⟨g, o, ha⟩
theorem r_ldRow {d : Option Tmp} {ty : TypeId} {pos : String} {af : Array Edge} {gd : Option (Nat × Bool)} {x : Operand} {T e g o m c s i : Nat} {css : List (List Value)} {cs : List Value} {L' : List Res} (hx : ev n env x = .pointer (some ⟨g, o + i * s, none⟩)) (hr : rowT P T = some true) (hs : szT P T = some s)
    (hp : Pick L (rowR e s (some ⟨g, o, none⟩) m c css.flatten) L') (hcs : ∀ c ∈ css, c.length = s) (hi : css[i]? = some cs) (him : i < m) : Runs P w0 F0 L n env ⟨d, .load T x, ty, pos, af, gd⟩ (.agg cs.toArray) := r_load hx fun w hw => by
  obtain ⟨g', o', ha, _, _, hra⟩ := (hw.row hp).elem him
  cases ha
  rw [flatten_at hcs hi] at hra
  exact run_loadVar_agg hr hs (hcs cs (List.mem_of_getElem? hi)) fun j v hj => hra j v hj
end
theorem vl_rd {α : Type} {rd : World → (Nat → Prop) → List Value → α → Prop} [RdK rd] {L L' : List Res} {w : World} {F1 F2 : Nat → Prop} {cs : List Value} {x : α} (h2 : stars L w F2) (hd : ∀ k, F1 k → ¬ F2 k) (hp : Pick L (VlR rd cs x) L') : rd w (fun k => ¬ F1 k) cs x := by
  obtain ⟨G1, G2, ⟨h, _⟩, _, hF, _⟩ := hp.stars h2
  exact RdK.mv h fun k _ hk => ⟨rfl, fun h1 => hd k h1 ((hF k).2 (.inl hk))⟩
theorem add_at (g o k : Nat) : (some (⟨g, o, none⟩ : Addr)).map (·.add k) = some ⟨g, o + k, none⟩ := by simp [Addr.add_mid]
theorem el_rd {α : Type} {rd : World → (Nat → Prop) → List Value → α → Prop} [RdK rd] {L L' : List Res} {w : World} {F1 F2 : Nat → Prop} {css : List (List Value)} {l : List α} {i : Nat} {c : List Value} {x : α} (h2 : stars L w F2) (hd : ∀ k, F1 k → ¬ F2 k) (hp : Pick L (ElR rd css l) L') (hc : css[i]? = some c) (hx : l[i]? = some x) : rd w (fun k => ¬ F1 k) c x := by
  obtain ⟨G1, G2, ⟨⟨_, h⟩, _⟩, _, hF, _⟩ := hp.stars h2
  exact RdK.mv (h i c x hc hx) fun k _ hk => ⟨rfl, fun h1 => hd k h1 ((hF k).2 (.inl hk))⟩
theorem St.el {α : Type} {rd : World → (Nat → Prop) → List Value → α → Prop} [RdK rd] {w0 w : World} {F0 : Nat → Prop} {L L' : List Res} {css : List (List Value)} {l : List α} (h : St w0 F0 L w) (hp : Pick L (ElR rd css l) L') : css.length = l.length ∧ ∀ (i : Nat) (c : List Value) (x : α), css[i]? = some c → l[i]? = some x → ∃ w A, rd w A c x := by
  obtain ⟨F, hF, _⟩ := h
  obtain ⟨F1, ⟨⟨h1, h2⟩, _⟩, _⟩ := stars_pick hp hF
  exact ⟨h1, fun i c x hc hx => ⟨w, F1, h2 i c x hc hx⟩⟩
def allOr (n : Nat) (y : Bool) : Option Nat := if y = true then some n else none
theorem u64_rem (a : Int) {m : Nat} (hm : 0 < m) : (IntKind.u64.wrap a).tmod (m : Int) = ((((IntKind.u64.wrap a).tmod (m : Int)).toNat : Nat) : Int) ∧ ((IntKind.u64.wrap a).tmod (m : Int)).toNat < m := by
  have h0 : 0 ≤ IntKind.u64.wrap a := by simp [IntKind.wrap, IntKind.bits, IntKind.signed]; omega
  have h1 := Int.tmod_lt_of_pos (IntKind.u64.wrap a) (show (0 : Int) < (m : Int) by omega)
  have h2 := Int.tmod_nonneg (m : Int) h0
  omega

end Go.Proofs.YtobjojeliibinaaDoor

/- Plain words: trees of blocks that certificates join. No program in sight. -/
namespace Go.Proofs.YtobjojeliibinaaDoor
set_option linter.unusedVariables false
set_option linter.unusedSimpArgs false

def smSig (s : Sig) : Prop := s.chains.length ≤ 1099511627776 ∧ s.path.length ≤ 1099511627776
def smQC (q : QC) : Prop := q.votes.length ≤ 1099511627776 ∧ ∀ s ∈ q.votes, smSig s.sig
def smBlk (b : Block) : Prop := smQC b.justify ∧ b.next.length ≤ 1099511627776 ∧ b.payload.length ≤ 1099511627776 ∧ ∀ x ∈ b.payload, x.length ≤ 1099511627776
structure Tr where
  root : Dig
  nodes : List (Dig × Block)
  certs : List QC
def lkN (d : Dig) : List (Dig × Block) → Option Block
  | [] => none
  | p :: l => if d = p.1 then some p.2 else lkN d l
def fitsQ (q : QC) (d : Dig) (b : Block) : Bool := decide (q.block = d ∧ q.epoch = b.epoch ∧ q.round = b.round)
def certF (d : Dig) : List QC → Option QC
  | [] => none
  | q :: l => if q.block = d then some q else certF d l
/-- A block's id, its parent's, and so on. -/
def upF (t : Tr) : Nat → Dig → List (Dig × Block)
  | 0, _ => []
  | n + 1, d => match lkN d t.nodes with
    | none => []
    | some b => (d, b) :: (if d = t.root then [] else upF t n b.parent)
def upL (t : Tr) (d : Dig) : List (Dig × Block) := upF t t.nodes.length d
def keysT (t : Tr) : List Dig := t.nodes.map (·.1)
structure TOk (t : Tr) : Prop where
  nd : (keysT t).Nodup
  hd : ∃ b r, t.nodes = (t.root, b) :: r
  par : ∀ i d b, t.nodes[i + 1]? = some (d, b) → ∃ j p, j ≤ i ∧ t.nodes[j]? = some (b.parent, p)
  le : t.nodes.length ≤ 16
  ce : 0 < t.certs.length
  cn : (t.certs.map (fun q => q.block)).Nodup
  ck : ∀ q ∈ t.certs, q.block ∈ keysT t
  sb : ∀ d b, lkN d t.nodes = some b → smBlk b
  sq : ∀ q ∈ t.certs, smQC q
theorem nodup_le {α : Type} [DecidableEq α] : ∀ {l m : List α}, l.Nodup → (∀ x ∈ l, x ∈ m) → l.length ≤ m.length
  | [], m, _, _ => Nat.zero_le _
  | a :: l, m, hn, hs => by
    simp only [List.nodup_cons] at hn
    have h1 := nodup_le (l := l) (m := m.erase a) hn.2 fun x hx => (List.mem_erase_of_ne (fun e => hn.1 (by rw [← e]; exact hx))).2 (hs x (List.mem_cons_of_mem _ hx))
    have h2 := List.length_erase_of_mem (hs a List.mem_cons_self)
    have h3 := List.length_pos_of_mem (hs a List.mem_cons_self)
    simp only [List.length_cons]; omega
theorem TOk.cl {t : Tr} (h : TOk t) : t.certs.length ≤ 16 := by
  have h1 := nodup_le h.cn (m := keysT t) fun x hx => by obtain ⟨q, hq, rfl⟩ := List.mem_map.1 hx; exact h.ck q hq
  have h2 := h.le
  simp only [List.length_map, keysT] at h1
  omega
theorem lkN_some {d : Dig} {b : Block} : ∀ {l : List (Dig × Block)}, lkN d l = some b → ∃ i : Nat, l[i]? = some (d, b)
  | [], h => by cases h
  | p :: l, h => by
    unfold lkN at h
    split at h
    · rename_i e; cases h; exact ⟨0, by subst e; rfl⟩
    · obtain ⟨i, hi⟩ := lkN_some h; exact ⟨i + 1, hi⟩
theorem lkN_none {d : Dig} : ∀ {l : List (Dig × Block)}, lkN d l = none ↔ d ∉ l.map (fun p => p.1)
  | [] => by simp [lkN]
  | p :: l => by
    unfold lkN
    split
    · rename_i e; simp [e]
    · rename_i e; rw [lkN_none]; simp [e]
theorem lkN_at {d : Dig} {b : Block} : ∀ {l : List (Dig × Block)} {i : Nat}, (l.map (fun p => p.1)).Nodup → l[i]? = some (d, b) → lkN d l = some b
  | [], i, _, h => by simp at h
  | p :: l, 0, _, h => by simp at h; subst h; simp [lkN]
  | p :: l, i + 1, hn, h => by
    simp only [List.map_cons, List.nodup_cons] at hn
    simp only [List.getElem?_cons_succ] at h
    unfold lkN
    rw [if_neg (fun e => hn.1 (by rw [← e]; exact List.mem_map.2 ⟨_, List.mem_of_getElem? h, rfl⟩)), lkN_at hn.2 h]
theorem lkN_append {d : Dig} {l m : List (Dig × Block)} : lkN d (l ++ m) = (lkN d l).orElse (fun _ => lkN d m) := by
  induction l with
  | nil => simp [lkN]
  | cons p l ih => simp only [List.cons_append, lkN]; split <;> simp [ih]
/-- More fuel changes nothing. -/
theorem upF_more {t : Tr} (h : TOk t) : ∀ (i : Nat) (d : Dig) (b : Block) (n m : Nat), t.nodes[i]? = some (d, b) → i < n → i < m → upF t n d = upF t m d := by
  intro i
  induction i using Nat.strongRecOn with
  | ind i ih =>
    intro d b n m hi hn hm
    obtain ⟨n, rfl⟩ : ∃ k, n = k + 1 := ⟨n - 1, by omega⟩
    obtain ⟨m, rfl⟩ : ∃ k, m = k + 1 := ⟨m - 1, by omega⟩
    unfold upF
    have hl := lkN_at h.nd hi
    rw [hl]
    simp only
    split
    · rfl
    · rename_i hne
      congr 1
      cases i with
      | zero =>
        obtain ⟨b0, r, hb⟩ := h.hd
        rw [hb] at hi; simp at hi; exact absurd hi.1.symm hne
      | succ i =>
        obtain ⟨j, p, hj, hp⟩ := h.par i d b hi
        exact ih j (by omega) b.parent p n m hp (by omega) (by omega)
theorem upL_step {t : Tr} (h : TOk t) {d : Dig} {b : Block} (hl : lkN d t.nodes = some b) : upL t d = (d, b) :: (if d = t.root then [] else upL t b.parent) := by
  obtain ⟨i, hi⟩ := lkN_some hl
  have hlt : i < t.nodes.length := (List.getElem?_eq_some_iff.1 hi).1
  obtain ⟨n, hn⟩ : ∃ k, t.nodes.length = k + 1 := ⟨t.nodes.length - 1, by omega⟩
  have e : upL t d = upF t (n + 1) d := by unfold upL; rw [hn]
  rw [e]
  simp only [upF, hl]
  split
  · rfl
  · rename_i hne
    congr 1
    cases i with
    | zero =>
      obtain ⟨b0, r, hb⟩ := h.hd
      rw [hb] at hi; simp at hi; exact absurd hi.1.symm hne
    | succ i =>
      obtain ⟨j, p, hj, hp⟩ := h.par i d b hi
      exact upF_more h j b.parent p n t.nodes.length hp (by omega) (by omega)
theorem upL_none {t : Tr} {d : Dig} (hl : lkN d t.nodes = none) : upL t d = [] := by
  unfold upL
  cases t.nodes.length with
  | zero => rfl
  | succ n => unfold upF; rw [hl]
theorem upF_len (t : Tr) : ∀ (n : Nat) (d : Dig), (upF t n d).length ≤ n
  | 0, d => Nat.le_refl _
  | n + 1, d => by
    unfold upF
    cases lkN d t.nodes with
    | none => simp
    | some b =>
      simp only [List.length_cons]
      split
      · simp
      · have := upF_len t n b.parent; omega
theorem upL_len (t : Tr) (d : Dig) : (upL t d).length ≤ t.nodes.length := upF_len t _ d
/-- The parent of a block that isn't the root is there. -/
theorem TOk.up {t : Tr} (h : TOk t) {d : Dig} {b : Block} (hl : lkN d t.nodes = some b) (hne : d ≠ t.root) : ∃ p, lkN b.parent t.nodes = some p := by
  obtain ⟨i, hi⟩ := lkN_some hl
  cases i with
  | zero =>
    obtain ⟨b0, r, hb⟩ := h.hd
    rw [hb] at hi; simp at hi; exact absurd hi.1.symm hne
  | succ i =>
    obtain ⟨j, p, hj, hp⟩ := h.par i d b hi
    exact ⟨p, lkN_at h.nd hp⟩

/-! ### What calls answer -/
theorem certF_none {d : Dig} : ∀ {l : List QC}, certF d l = none ↔ d ∉ l.map (fun q => q.block)
  | [] => by simp [certF]
  | p :: l => by
    unfold certF
    split
    · rename_i e; simp [e]
    · rename_i e; rw [certF_none]; simp [e, Ne.symm e]
def askE (t : Tr) (b : Block) (err : Nat) (id : Dig) : Nat :=
  if err = 0 then (if (lkN id t.nodes).isSome then 17 else match lkN b.parent t.nodes with
    | none => 16
    | some p => if fitsQ b.justify b.parent p = true ∧ b.epoch = p.epoch then (if b.round ≤ p.round then 14 else if 16 ≤ t.nodes.length then 8 else 0) else 12) else 4
def newE (b : Block) (q : QC) (err : Nat) (id : Dig) : Nat := if err = 0 then (if fitsQ q id b = true then 0 else 12) else 4
def newT (b : Block) (q : QC) (id : Dig) : Tr := ⟨id, [(id, b)], [q]⟩
def putT (t : Tr) (b : Block) (id : Dig) : Tr := { t with nodes := t.nodes ++ [(id, b)] }
theorem askE_zero {t : Tr} {b : Block} {err : Nat} {id : Dig} (h : askE t b err id = 0) : err = 0 ∧ lkN id t.nodes = none ∧ ∃ p, lkN b.parent t.nodes = some p ∧ fitsQ b.justify b.parent p = true ∧ b.epoch = p.epoch ∧ p.round < b.round ∧ t.nodes.length < 16 := by
  unfold askE at h
  split at h
  · rename_i he
    split at h
    · cases h
    · rename_i hn
      cases hp : lkN b.parent t.nodes with
      | none => rw [hp] at h; cases h
      | some p =>
        rw [hp] at h
        simp only at h
        split at h
        · rename_i hf
          split at h
          · cases h
          · split at h
            · cases h
            · exact ⟨he, by simpa using hn, p, rfl, hf.1, hf.2, by omega, by omega⟩
        · cases h
  · cases h
def learnE (t : Tr) (q : QC) : Nat × Tr := match lkN q.block t.nodes with
  | none => (9, t)
  | some b => if fitsQ q q.block b = true then (0, if (certF q.block t.certs).isSome then t else { t with certs := t.certs ++ [q] }) else (12, t)
theorem newT_ok {b : Block} {q : QC} {id : Dig} (hq : q.block = id) (hb : smBlk b) (hs : smQC q) : TOk (newT b q id) where
  nd := by simp [keysT, newT]
  hd := ⟨b, [], rfl⟩
  par := fun i d b h => by simp [newT] at h
  le := by simp [newT]
  ce := by simp [newT]
  cn := by simp [newT]
  ck := fun x hx => by simp [newT] at hx; subst hx; simp [keysT, newT, hq]
  sb := fun d x h => by
    simp only [newT, lkN] at h
    split at h
    · cases h; exact hb
    · cases h
  sq := fun x hx => by simp [newT] at hx; subst hx; exact hs
theorem putT_ok {t : Tr} (h : TOk t) {b : Block} {id p : Dig} {pb : Block} (hn : lkN id t.nodes = none) (hp : lkN b.parent t.nodes = some pb) (hl : t.nodes.length < 16) (hb : smBlk b) : TOk (putT t b id) where
  nd := by
    have := h.nd
    simp only [keysT, putT, List.map_append, List.map_cons, List.map_nil] at this ⊢
    refine List.nodup_append.2 ⟨this, by simp, fun x hx y hy e => ?_⟩
    simp at hy; subst hy; subst e
    exact lkN_none.1 hn hx
  hd := by obtain ⟨b0, r, e⟩ := h.hd; exact ⟨b0, r ++ [(id, b)], by simp [putT, e]⟩
  par := fun i d x hx => by
    simp only [putT] at hx
    by_cases hi : i + 1 < t.nodes.length
    · rw [List.getElem?_append_left hi] at hx
      obtain ⟨j, y, hj, hy⟩ := h.par i d x hx
      exact ⟨j, y, hj, by show (t.nodes ++ _)[j]? = _; rw [List.getElem?_append_left (by omega)]; exact hy⟩
    · have hlt := (List.getElem?_eq_some_iff.1 hx).1
      simp only [List.length_append, List.length_singleton] at hlt
      rw [List.getElem?_append_right (by omega), show i + 1 - t.nodes.length = 0 by omega] at hx
      simp at hx
      obtain ⟨rfl, rfl⟩ := hx
      obtain ⟨j, hj⟩ := lkN_some hp
      have hjl := (List.getElem?_eq_some_iff.1 hj).1
      exact ⟨j, pb, by omega, by show (t.nodes ++ _)[j]? = _; rw [List.getElem?_append_left hjl]; exact hj⟩
  le := by simp [putT]; omega
  ce := h.ce
  cn := h.cn
  ck := fun q hq => by simp only [keysT, putT, List.map_append, List.mem_append]; exact .inl (h.ck q hq)
  sb := fun d x hx => by
    simp only [putT, lkN_append] at hx
    cases h1 : lkN d t.nodes with
    | some y => rw [h1] at hx; simp at hx; subst hx; exact h.sb d _ h1
    | none =>
      rw [h1] at hx
      simp [lkN] at hx
      obtain ⟨_, rfl⟩ := hx; exact hb
  sq := h.sq
theorem learnE_ok {t : Tr} (h : TOk t) {q : QC} (hs : smQC q) : TOk (learnE t q).2 := by
  unfold learnE
  cases hl : lkN q.block t.nodes with
  | none => exact h
  | some b =>
    simp only
    split
    · simp only
      split
      · exact h
      · rename_i hc
        have hc' : certF q.block t.certs = none := by simpa using hc
        have hk : q.block ∈ keysT t := Classical.byContradiction fun hh => by rw [lkN_none.2 hh] at hl; cases hl
        exact ⟨h.nd, h.hd, h.par, h.le, by simp, by
            simp only [List.map_append, List.map_cons, List.map_nil]
            refine List.nodup_append.2 ⟨h.cn, by simp, fun x hx y hy e => ?_⟩
            simp at hy; subst hy; subst e
            exact certF_none.1 hc' hx, fun x hx => by
            rcases List.mem_append.1 hx with hx | hx
            · exact h.ck x hx
            · simp at hx; subst hx; exact hk, h.sb, fun x hx => by
            rcases List.mem_append.1 hx with hx | hx
            · exact h.sq x hx
            · simp at hx; subst hx; exact hs⟩
    · exact h
def addE (t : Tr) (b : Block) (err : Nat) (id : Dig) : Nat × Dig × Tr :=
  if askE t b err id = 0 then ((learnE (putT t b id) b.justify).1, id, (learnE (putT t b id) b.justify).2) else (askE t b err id, dig0, t)
theorem addE_ok {t : Tr} (h : TOk t) {b : Block} {err : Nat} {id : Dig} (hb : smBlk b) : TOk (addE t b err id).2.2 := by
  unfold addE
  split
  · rename_i ha
    obtain ⟨_, h1, p, h2, _, _, _, h3⟩ := askE_zero ha
    exact learnE_ok (putT_ok (p := id) h h1 h2 h3 hb) hb.1
  · exact h
def pathL (t : Tr) (d : Dig) : List Dig := (((upL t d).map (·.1)).filter (fun i => decide (i ≠ t.root))).reverse
def ripeL (t : Tr) (q : QC) : List Dig := match lkN q.block t.nodes with
  | none => []
  | some b => if fitsQ q q.block b = true then match upL t q.block with
      | x :: y :: z :: _ => if x.2.round = q.round ∧ y.2.round = q.round - 1 ∧ z.2.round = q.round - 2 ∧ z.1 ≠ t.root then pathL t z.1 else []
      | _ => []
    else []
def belowB (t : Tr) (d top : Dig) : Bool := decide (top ∈ (upL t d).map (·.1) ∧ d ≠ top)
def belowL (t : Tr) (d : Dig) : List Dig := (keysT t).filter fun i => belowB t i d
def staysL (t : Tr) (d : Dig) : List Dig := d :: belowL t d
def prunedT (t : Tr) (d : Dig) : Tr := ⟨d, t.nodes.filter fun p => decide (p.1 ∈ staysL t d), t.certs.filter fun q => decide (q.block ∈ staysL t d)⟩
def pruneE (t : Tr) (d : Dig) : Nat := if (lkN d t.nodes).isSome then (if (certF d t.certs).isSome then 0 else 12) else 9
def pruneOut (t : Tr) (d : Dig) : List Dig := (keysT t).filter fun i => decide (i ∉ staysL t d)
end Go.Proofs.YtobjojeliibinaaDoor

/- Walks, by program (wg.py) out of a spec. -/
namespace Go.Proofs.YtobjojeliibinaaDoor
open Go
set_option linter.unusedVariables false
set_option linter.unusedSimpArgs false


def vdC (v : Vdr) : List Value := dc v.key ++ [.int .i64 v.power]
theorem vdC_len (v : Vdr) : (vdC v).length = 17 := by simp [vdC, dc_length]
theorem vdC_one (v : Vdr) : ∀ u ∈ vdC v, u.oneCell' = true := all_app' (dc_one _) (all_cons' rfl all_nil')
theorem flat_one {α : Type} {f : α → List Value} (hf : ∀ x, ∀ u ∈ f x, u.oneCell' = true) (l : List α) : ∀ u ∈ (l.map f).flatten, u.oneCell' = true := fun u hu => by
  obtain ⟨c, hc, hu⟩ := List.mem_flatten.1 hu
  obtain ⟨x, _, rfl⟩ := List.mem_map.1 hc
  exact hf x u hu
/-- A list whose elements' cells are known: its row. -/
theorem RdList.row {α : Type} {f : α → List Value} {w : World} {A : Nat → Prop} {size n : Nat} {a : Option Addr} {l : List α} (h : RdList (fun cs x => cs = f x) w A size a n l) : RdRow w A size a n (l.map f).flatten := by
  obtain ⟨css, hr, _, hl, hx⟩ := h
  have : css = l.map f := by
    apply List.ext_getElem?
    intro i
    rw [List.getElem?_map]
    cases hi : css[i]? with
    | none =>
      have := List.getElem?_eq_none_iff.1 hi
      rw [List.getElem?_eq_none (by omega)]; rfl
    | some c =>
      have hlt := (List.getElem?_eq_some_iff.1 hi).1
      have h2 : l[i]? = some (l[i]'(by omega)) := List.getElem?_eq_getElem (by omega)
      rw [h2, hx i c _ hi h2]; rfl
  rw [← this]; exact hr
theorem ls_row {α : Type} {rd : World → (Nat → Prop) → List Value → α → Prop} [RdK rd] {f : α → List Value} {e size n c : Nat} {a : Option Addr} {l : List α} {w : World} {F : Nat → Prop} {L : List Res} (hf : ∀ w F x, rd w F (f x) x) (hs : ∀ x, (f x).length = size)
    (h : stars (rowR e size a n c (l.map f).flatten :: L) w F) : stars (LsR rd size a n l :: L) w F := by
  refine stars_hd (fun F hr => ?_) h
  refine ⟨⟨l.map f, rowR.rd hr, fun c hc => ?_, by simp, fun i c x hc hx => ?_⟩, fun k hk => (rowR e size a n c (l.map f).flatten).ok hr k hk⟩
  · obtain ⟨x, _, rfl⟩ := List.mem_map.1 hc; exact hs x
  · rw [List.getElem?_map, hx] at hc; cases hc; exact hf _ _ _
theorem row_le {e size n c : Nat} {a : Option Addr} {xs : List Value} {w0 w : World} {F0 : Nat → Prop} {L L' : List Res} (hw : St w0 F0 L w) (hp : Pick L (rowR e size a n c xs) L') : n ≤ c := by
  obtain ⟨F, hF, _⟩ := hw
  obtain ⟨F1, h1, _⟩ := stars_pick hp hF
  exact h1.2.1
theorem vl_qcE {q : QC} {e k c : Nat} {a : Option Addr} {css : List (List Value)} {w : World} {F : Nat → Prop} (h4 : ∀ x ∈ css, List.length x = 4) (h : stars [rowR e 4 a k c css.flatten, ElR RdSigned css q.votes] w F) :
    stars [VlR RdQC (.int .i64 q.epoch :: .int .i64 q.round :: (dc q.block ++ [.slice a k c])) q] w F := by
  have hk : k ≤ c := by obtain ⟨_, _, h1, _⟩ := h; exact h1.2.1
  exact vl_qc hk (ls_of h4 h)
theorem takeB_snoc {α : Type} {l : List α} {k : Nat} {x : α} (h : l[k]? = some x) : l.take (k + 1) = l.take k ++ [x] := by simp [List.take_add_one, h]

attribute [local irreducible] Gl Gc Gx Gs Runs Wt

set_option maxHeartbeats 400000 in
theorem cloneD_ok {w : World} {F : Nat → Prop} {n c : Nat} {a : Option Addr} {xs : List Value} (h : stars [] w F) (hx : RdRow w (fun k => ¬ F k) 16 a n xs) (h1 : ∀ u ∈ xs, u.oneCell' = true) (hb : n ≤ 1099511627776) :
    Calls Tryd.prog 28 #[.slice a n c] w (Post w F (fun r : Option Addr × Nat => .slice r.1 n r.2) (fun r => [rowR 26 16 r.1 n r.2 xs])) := by
  refine g_enter (env := [(0, .slice a n c)]) Tryd.func28 rfl h Tryd.ntmps28 rfl rfl ?_
  refine gsr ?_
  refine gp zas ?_
  refine gnt ?_
  refine gc_seq ?_
  refine gsr ?_
  refine gp zmv ?_
  refine gp zen ?_
  refine gnt ?_
  refine gif rfl (fun hc4 => ?_) (fun hc4 => ?_)
  · refine gsr ?_
    refine gp zas ?_
    refine gnt ?_
    refine gc_ret ?_
    refine gx_then_ret ?_
    refine gx_ret1 rfl (by conv => lhs; whnf) ?_
    have ha : a = none := by cases a <;> simp_all
    subst ha
    obtain ⟨rfl, rfl⟩ := hx.none
    exact fun w' hw => ⟨(none, 0), rfl, hw.rowNil.sel (by repeat (first | exact Sel.nil | (apply Sel.cons; · (repeat (first | exact Pick.here | apply Pick.there)))))⟩
  · refine gc_skip ?_
    refine gx_then ?_
    refine gsr ?_
    refine ze0 fun b5 => ?_
    refine gp zmv ?_
    refine gl_append (wt0 rfl) rfl rfl (by repeat (first | exact Pick.here | apply Pick.there)) Ty.el_37 (fun w' hw => hw.rdOld hx) h1 (by simp only [maxLen]; omega) (by omega) ?_
    intro a1 c1
    refine gp zas ?_
    refine gnt ?_
    refine gc_ret ?_
    refine gx_ret1 rfl (by conv => lhs; whnf) ?_
    rw [Nat.zero_add]
    exact fun w' hw => ⟨(a1, c1), rfl, hw.sel (by repeat (first | exact Sel.nil | (apply Sel.cons; · (repeat (first | exact Pick.here | apply Pick.there)))))⟩

set_option maxHeartbeats 400000 in
theorem cloneV_ok {w : World} {F : Nat → Prop} {n c : Nat} {a : Option Addr} {xs : List Value} (h : stars [] w F) (hx : RdRow w (fun k => ¬ F k) 17 a n xs) (h1 : ∀ u ∈ xs, u.oneCell' = true) (hb : n ≤ 1099511627776) :
    Calls Tryd.prog 46 #[.slice a n c] w (Post w F (fun r : Option Addr × Nat => .slice r.1 n r.2) (fun r => [rowR 53 17 r.1 n r.2 xs])) := by
  refine g_enter (env := [(0, .slice a n c)]) Tryd.func46 rfl h Tryd.ntmps46 rfl rfl ?_
  refine gsr ?_
  refine gp zas ?_
  refine gnt ?_
  refine gc_seq ?_
  refine gsr ?_
  refine gp zmv ?_
  refine gp zen ?_
  refine gnt ?_
  refine gif rfl (fun hc4 => ?_) (fun hc4 => ?_)
  · refine gsr ?_
    refine gp zas ?_
    refine gnt ?_
    refine gc_ret ?_
    refine gx_then_ret ?_
    refine gx_ret1 rfl (by conv => lhs; whnf) ?_
    have ha : a = none := by cases a <;> simp_all
    subst ha
    obtain ⟨rfl, rfl⟩ := hx.none
    exact fun w' hw => ⟨(none, 0), rfl, hw.rowNil.sel (by repeat (first | exact Sel.nil | (apply Sel.cons; · (repeat (first | exact Pick.here | apply Pick.there)))))⟩
  · refine gc_skip ?_
    refine gx_then ?_
    refine gsr ?_
    refine ze0 fun b5 => ?_
    refine gp zmv ?_
    refine gl_append (wt0 rfl) rfl rfl (by repeat (first | exact Pick.here | apply Pick.there)) Ty.el_31 (fun w' hw => hw.rdOld hx) h1 (by simp only [maxLen]; omega) (by omega) ?_
    intro a1 c1
    refine gp zas ?_
    refine gnt ?_
    refine gc_ret ?_
    refine gx_ret1 rfl (by conv => lhs; whnf) ?_
    rw [Nat.zero_add]
    exact fun w' hw => ⟨(a1, c1), rfl, hw.sel (by repeat (first | exact Sel.nil | (apply Sel.cons; · (repeat (first | exact Pick.here | apply Pick.there)))))⟩

end Go.Proofs.YtobjojeliibinaaDoor

/- Walks, by program (wg.py) out of a spec. -/
namespace Go.Proofs.YtobjojeliibinaaDoor
open Go
set_option linter.unusedVariables false
set_option linter.unusedSimpArgs false


theorem vl_digs {lf : Int} {e1 e2 n1 n2 c1 c2 : Nat} {a1 a2 : Option Addr} {l1 l2 : List Dig} {w : World} {F : Nat → Prop} (k1 : n1 ≤ c1) (k2 : n2 ≤ c2) (h : stars [rowR e1 16 a1 n1 c1 (l1.map dc).flatten, rowR e2 16 a2 n2 c2 (l2.map dc).flatten] w F) :
    stars [VlR RdSig [.int .i64 lf, .slice a1 n1 c1, .slice a2 n2 c2] ⟨lf, l1, l2⟩] w F := by
  have h1 := ls_row (rd := fun _ _ => RdDig) (fun _ _ _ => rfl) dc_length h
  have h2 := ls_row (rd := fun _ _ => RdDig) (fun _ _ _ => rfl) dc_length (stars_swap h1)
  exact vl_sig k1 k2 (stars_swap h2)
theorem vl_blockE {b : Block} {q : List Value} {e1 e2 n1 n2 c1 c2 : Nat} {a1 a2 : Option Addr} {css : List (List Value)} {w : World} {F : Nat → Prop} (h1 : ∀ x ∈ css, List.length x = 1)
    (h : stars [VlR RdQC q b.justify, rowR e1 1 a1 n1 c1 css.flatten, ElR RdBytes css b.payload, rowR e2 17 a2 n2 c2 (b.next.map vdC).flatten] w F) :
    stars [VlR RdBlock (.int .i64 b.epoch :: .int .i64 b.round :: (dc b.parent ++ (q ++ [.slice a1 n1 c1, .slice a2 n2 c2]))) b] w F := by
  have k1 : n1 ≤ c1 := by obtain ⟨_, _, _, ⟨_, _, hr, _⟩, _⟩ := h; exact hr.2.1
  have k2 : n2 ≤ c2 := by obtain ⟨_, _, _, ⟨_, _, _, ⟨_, _, _, ⟨_, _, hr, _⟩, _⟩, _⟩, _⟩ := h; exact hr.2.1
  obtain ⟨F1, F2, g1, g2, hF, hd⟩ := h
  obtain ⟨G1, G2, p1, p2, hG, gd⟩ := stars_split (M := [rowR e1 1 a1 n1 c1 css.flatten, ElR RdBytes css b.payload]) (L := [rowR e2 17 a2 n2 c2 (b.next.map vdC).flatten]) g2
  have p1' := ls_of (size := 1) h1 p1
  have p2' := ls_row (rd := fun _ _ => RdVdr) (fun _ _ _ => rfl) vdC_len p2
  have g2' : stars ([LsR RdBytes 1 a1 n1 b.payload] ++ [LsR (fun _ _ => RdVdr) 17 a2 n2 b.next]) w F2 := by
    have := stars_append p1' p2' gd
    rwa [← fp_eq hG] at this
  exact vl_block k1 k2 ⟨F1, F2, g1, g2', hF, hd⟩

attribute [local irreducible] Gl Gc Gx Gs Runs Wt

attribute [local irreducible] dc qcC blkC

set_option maxHeartbeats 400000 in
theorem copiedQC_ok {w : World} {F : Nat → Prop} {qs : List Value} {q : QC} (h : stars [] w F) (hq : RdQC w (fun k => ¬ F k) qs q) (hs : smQC q) :
    Calls Tryd.prog 39 #[.agg qs.toArray] w (Post w F (fun x : List Value => .agg x.toArray) (fun x => [pureR (x.length = 19 ∧ ∀ v ∈ x, v.oneCell' = true), VlR RdQC x q])) := by
  obtain ⟨av, nv, kv, rfl, hq1, hq2⟩ := hq
  have hnv := hq2.len (by decide)
  obtain ⟨hs1, hs2⟩ := hs
  refine g_enter (env := [(0, _)]) Tryd.func39 rfl h Tryd.ntmps39 rfl rfl ?_
  refine gsr ?_
  refine zbN fun b1 => ?_
  refine zal fun b2 => ?_
  refine gl_eqc (cs' := qcC) (by repeat (first | exact Pick.here | apply Pick.there)) (by kernel_rfl) ?_
  refine gnt ?_
  refine gsr ?_
  refine gp zas ?_
  refine gnt ?_
  refine gc_seq ?_
  refine gsr ?_
  refine gp zfa ?_
  refine gp zl ?_
  refine gp zln ?_
  refine gp zmv ?_
  refine gnt ?_
  refine gc_block ?_
  refine gc_loop (α := Nat × Option Addr × Nat × List (List Value)) (fun y => [pureR (y.1 ≤ nv ∧ ∀ c ∈ y.2.2.2, List.length c = 4), rowR 51 4 y.2.1 y.1 y.2.2.1 y.2.2.2.flatten, ElR RdSigned y.2.2.2 (q.votes.take y.1), blk b1 29 (.int .i64 q.epoch :: .int .i64 q.round :: (dc q.block ++ [.slice av nv kv])), blk b2 29 qcC]) (fun y => [(3, .slice y.2.1 y.1 y.2.2.1), (9, .int .i64 (y.1 : Int))]) [5, 10, 11, 12, 13, 14, 15, 16, 17, 18, 19, 20, 21, 22, 23, 24, 25, 26, 27, 28, 29] (fun y => nv - y.1) (0, none, 0, []) ?_ ?_ ?_
  · refine env_start (by kernel_rfl)
  · intro w' hw
    have hw := St.mapL hw (fun F' hF' => el_nil (rd := RdSigned) hF')
    exact St.pureI ⟨Nat.zero_le _, by simp⟩ ((hw.rowNil (e := 51) (size := 4)).sel (by repeat (first | exact Sel.nil | (apply Sel.cons; · (repeat (first | exact Pick.here | apply Pick.there))))))
  · intro y u
    obtain ⟨k, a, c, css⟩ := y
    refine gc_pureR (fun hk => ?_)
    obtain ⟨hk, hcs⟩ := hk
    replace hk : k ≤ nv := hk
    replace hcs : ∀ x ∈ css, List.length x = 4 := hcs
    refine gsr ?_
    refine gp zlt ?_
    refine gnt ?_
    refine gc_seq ?_
    refine gif rfl (fun hc10 => ?_) (fun hc10 => ?_)
    · try simp only at hc10
      have hk' : k < nv := by omega
      obtain ⟨gx, ox, ce, sg, ha, hA, _, hra, hl4, hsg, hrd⟩ := hq2.elem (i := k) (by decide) hk'
      subst ha
      obtain ⟨ss, rfl, a1, n1, c1, a2, n2, c2, rfl, k1, k2, hd1, hd2⟩ := hrd
      have hss := hs2 sg (List.mem_of_getElem? hsg)
      obtain ⟨hss1, hss2⟩ := hss
      have hn1 := RdList.len hd1 (by decide)
      have hn2 := RdList.len hd2 (by decide)
      refine gc_skip ?_
      refine gx_then ?_
      refine gc_seq ?_
      refine gc_block ?_
      refine gsr ?_
      refine gp (r_val (v' := .pointer (some ⟨gx, ox + k * 4, none⟩)) zia (by simp)) ?_
      refine gp (r_ldNo rfl Ty.row_51 Ty.sz_51 hra hl4 (by decide) hA) ?_
      refine zal fun b5 => ?_
      refine zsN ?_
      refine gnt ?_
      refine gc_seq ?_
      refine gc_regionH [] ?_
      refine yp 0 rfl zfa ?_
      refine yp 1 rfl zfa ?_
      refine yp 4 rfl zfa ?_
      refine yp 5 rfl zfa ?_
      refine yo2 2 6 rfl rfl ?_ ?_
      · refine gp zl ?_
        refine yx ?_
        refine yo2 3 6 rfl rfl ?_ ?_
        · refine zc (fun r16 => ?_) (c := fun w1 F1 F2 h1 h2 hd hst => cloneD_ok (xs := (sg.sig.chains.map dc).flatten) h1 ((RdList.row (f := dc) hd1).mv hst.still) (flat_one dc_one _) (by omega))
          refine yx ?_
          refine yo 6 rfl ?_
          refine gp zl ?_
          refine yx ?_
          refine yp 8 rfl zfa ?_
          refine yp 9 rfl zfa ?_
          refine yo 7 rfl ?_
          refine zc (fun r20 => ?_) (c := fun w1 F1 F2 h1 h2 hd hst => cloneD_ok (xs := (sg.sig.path.map dc).flatten) h1 ((RdList.row (f := dc) hd2).mv hst.still) (flat_one dc_one _) (by omega))
          refine yx ?_
          refine yo 10 rfl ?_
          refine zs1 ?_
          refine yx ?_
          refine yp 11 rfl zfa ?_
          refine yp 12 rfl zfa ?_
          refine yo 13 rfl ?_
          refine zs1 ?_
          refine yx ?_
          refine yd ?_
          refine gx_then ?_
          refine gc_region ?_
          refine gp zmv ?_
          refine gp zL ?_
          refine zeN fun b27 => ?_
          refine zapo (fun a28 c28 => ?_)
          refine gp zas ?_
          refine gl_nil ?_
          refine gx_block_normal ?_
          refine gx_then ?_
          refine gc_region ?_
          refine gp zad ?_
          refine gp zmv ?_
          refine gl_nil ?_
          refine zrd ((k + 1, a28, c28, css ++ [[.int .i64 sg.who, .int .i64 sg.sig.leaf, .slice r16.1 n1 r16.2, .slice r20.1 n2 r20.2]])) ?_ ?_
          · show nv - (k + 1) < nv - k
            omega
          · intro w' hw
            have k1' := row_le hw (e := 26) (size := 16) (a := r16.1) (n := n1) (c := r16.2) (by repeat (first | exact Pick.here | apply Pick.there))
            have k2' := row_le hw (e := 26) (size := 16) (a := r20.1) (n := n2) (c := r20.2) (by repeat (first | exact Pick.here | apply Pick.there))
            have h1 := hw.conv (M := [rowR 26 16 r16.1 n1 r16.2 (sg.sig.chains.map dc).flatten, rowR 26 16 r20.1 n2 r20.2 (sg.sig.path.map dc).flatten]) (by repeat (first | exact Sel.nil | (apply Sel.cons; · (repeat (first | exact Pick.here | apply Pick.there))))) (fun _ _ => vl_digs (lf := sg.sig.leaf) k1' k2')
            have h2 := h1.conv (M := [VlR RdSig [.int .i64 sg.sig.leaf, .slice r16.1 n1 r16.2, .slice r20.1 n2 r20.2] sg.sig]) (by repeat (first | exact Sel.nil | (apply Sel.cons; · (repeat (first | exact Pick.here | apply Pick.there))))) (fun _ _ => vl_signed (who := sg.who))
            have h3 := h2.conv (M := [ElR RdSigned css (q.votes.take k), VlR RdSigned [.int .i64 sg.who, .int .i64 sg.sig.leaf, .slice r16.1 n1 r16.2, .slice r20.1 n2 r20.2] sg]) (by repeat (first | exact Sel.nil | (apply Sel.cons; · (repeat (first | exact Pick.here | apply Pick.there))))) (fun _ _ => el_snoc)
            rw [← takeB_snoc hsg] at h3
            refine St.pureI ⟨show k + 1 ≤ nv by omega, fun x hx => (by rcases List.mem_append.1 hx with h | h; exact hcs x h; (simp at h; subst h; rfl))⟩ ?_
            rw [show (css ++ [[Value.int .i64 sg.who, .int .i64 sg.sig.leaf, .slice r16.1 n1 r16.2, .slice r20.1 n2 r20.2]]).flatten = css.flatten ++ [Value.int .i64 sg.who, .int .i64 sg.sig.leaf, .slice r16.1 n1 r16.2, .slice r20.1 n2 r20.2] by simp]
            exact h3.sel (by repeat (first | exact Sel.nil | (apply Sel.cons; · (repeat (first | exact Pick.here | apply Pick.there)))))
        · refine gp zl ?_
          refine yx ?_
          refine yo 3 rfl ?_
          refine zc (fun r16 => ?_) (c := fun w1 F1 F2 h1 h2 hd hst => cloneD_ok (xs := (sg.sig.chains.map dc).flatten) h1 ((RdList.row (f := dc) hd1).mv hst.still) (flat_one dc_one _) (by omega))
          refine yx ?_
          refine yp 8 rfl zfa ?_
          refine yp 9 rfl zfa ?_
          refine yo 7 rfl ?_
          refine zc (fun r20 => ?_) (c := fun w1 F1 F2 h1 h2 hd hst => cloneD_ok (xs := (sg.sig.path.map dc).flatten) h1 ((RdList.row (f := dc) hd2).mv hst.still) (flat_one dc_one _) (by omega))
          refine yx ?_
          refine yo 10 rfl ?_
          refine zs1 ?_
          refine yx ?_
          refine yp 11 rfl zfa ?_
          refine yp 12 rfl zfa ?_
          refine yo 13 rfl ?_
          refine zs1 ?_
          refine yx ?_
          refine yd ?_
          refine gx_then ?_
          refine gc_region ?_
          refine gp zmv ?_
          refine gp zL ?_
          refine zeN fun b27 => ?_
          refine zapo (fun a28 c28 => ?_)
          refine gp zas ?_
          refine gl_nil ?_
          refine gx_block_normal ?_
          refine gx_then ?_
          refine gc_region ?_
          refine gp zad ?_
          refine gp zmv ?_
          refine gl_nil ?_
          refine zrd ((k + 1, a28, c28, css ++ [[.int .i64 sg.who, .int .i64 sg.sig.leaf, .slice r16.1 n1 r16.2, .slice r20.1 n2 r20.2]])) ?_ ?_
          · show nv - (k + 1) < nv - k
            omega
          · intro w' hw
            have k1' := row_le hw (e := 26) (size := 16) (a := r16.1) (n := n1) (c := r16.2) (by repeat (first | exact Pick.here | apply Pick.there))
            have k2' := row_le hw (e := 26) (size := 16) (a := r20.1) (n := n2) (c := r20.2) (by repeat (first | exact Pick.here | apply Pick.there))
            have h1 := hw.conv (M := [rowR 26 16 r16.1 n1 r16.2 (sg.sig.chains.map dc).flatten, rowR 26 16 r20.1 n2 r20.2 (sg.sig.path.map dc).flatten]) (by repeat (first | exact Sel.nil | (apply Sel.cons; · (repeat (first | exact Pick.here | apply Pick.there))))) (fun _ _ => vl_digs (lf := sg.sig.leaf) k1' k2')
            have h2 := h1.conv (M := [VlR RdSig [.int .i64 sg.sig.leaf, .slice r16.1 n1 r16.2, .slice r20.1 n2 r20.2] sg.sig]) (by repeat (first | exact Sel.nil | (apply Sel.cons; · (repeat (first | exact Pick.here | apply Pick.there))))) (fun _ _ => vl_signed (who := sg.who))
            have h3 := h2.conv (M := [ElR RdSigned css (q.votes.take k), VlR RdSigned [.int .i64 sg.who, .int .i64 sg.sig.leaf, .slice r16.1 n1 r16.2, .slice r20.1 n2 r20.2] sg]) (by repeat (first | exact Sel.nil | (apply Sel.cons; · (repeat (first | exact Pick.here | apply Pick.there))))) (fun _ _ => el_snoc)
            rw [← takeB_snoc hsg] at h3
            refine St.pureI ⟨show k + 1 ≤ nv by omega, fun x hx => (by rcases List.mem_append.1 hx with h | h; exact hcs x h; (simp at h; subst h; rfl))⟩ ?_
            rw [show (css ++ [[Value.int .i64 sg.who, .int .i64 sg.sig.leaf, .slice r16.1 n1 r16.2, .slice r20.1 n2 r20.2]]).flatten = css.flatten ++ [Value.int .i64 sg.who, .int .i64 sg.sig.leaf, .slice r16.1 n1 r16.2, .slice r20.1 n2 r20.2] by simp]
            exact h3.sel (by repeat (first | exact Sel.nil | (apply Sel.cons; · (repeat (first | exact Pick.here | apply Pick.there)))))
      · refine gp zl ?_
        refine yx ?_
        refine yo 2 rfl ?_
        refine gp zl ?_
        refine yx ?_
        refine yo 3 rfl ?_
        refine zc (fun r16 => ?_) (c := fun w1 F1 F2 h1 h2 hd hst => cloneD_ok (xs := (sg.sig.chains.map dc).flatten) h1 ((RdList.row (f := dc) hd1).mv hst.still) (flat_one dc_one _) (by omega))
        refine yx ?_
        refine yp 8 rfl zfa ?_
        refine yp 9 rfl zfa ?_
        refine yo 7 rfl ?_
        refine zc (fun r20 => ?_) (c := fun w1 F1 F2 h1 h2 hd hst => cloneD_ok (xs := (sg.sig.path.map dc).flatten) h1 ((RdList.row (f := dc) hd2).mv hst.still) (flat_one dc_one _) (by omega))
        refine yx ?_
        refine yo 10 rfl ?_
        refine zs1 ?_
        refine yx ?_
        refine yp 11 rfl zfa ?_
        refine yp 12 rfl zfa ?_
        refine yo 13 rfl ?_
        refine zs1 ?_
        refine yx ?_
        refine yd ?_
        refine gx_then ?_
        refine gc_region ?_
        refine gp zmv ?_
        refine gp zL ?_
        refine zeN fun b27 => ?_
        refine zapo (fun a28 c28 => ?_)
        refine gp zas ?_
        refine gl_nil ?_
        refine gx_block_normal ?_
        refine gx_then ?_
        refine gc_region ?_
        refine gp zad ?_
        refine gp zmv ?_
        refine gl_nil ?_
        refine zrd ((k + 1, a28, c28, css ++ [[.int .i64 sg.who, .int .i64 sg.sig.leaf, .slice r16.1 n1 r16.2, .slice r20.1 n2 r20.2]])) ?_ ?_
        · show nv - (k + 1) < nv - k
          omega
        · intro w' hw
          have k1' := row_le hw (e := 26) (size := 16) (a := r16.1) (n := n1) (c := r16.2) (by repeat (first | exact Pick.here | apply Pick.there))
          have k2' := row_le hw (e := 26) (size := 16) (a := r20.1) (n := n2) (c := r20.2) (by repeat (first | exact Pick.here | apply Pick.there))
          have h1 := hw.conv (M := [rowR 26 16 r16.1 n1 r16.2 (sg.sig.chains.map dc).flatten, rowR 26 16 r20.1 n2 r20.2 (sg.sig.path.map dc).flatten]) (by repeat (first | exact Sel.nil | (apply Sel.cons; · (repeat (first | exact Pick.here | apply Pick.there))))) (fun _ _ => vl_digs (lf := sg.sig.leaf) k1' k2')
          have h2 := h1.conv (M := [VlR RdSig [.int .i64 sg.sig.leaf, .slice r16.1 n1 r16.2, .slice r20.1 n2 r20.2] sg.sig]) (by repeat (first | exact Sel.nil | (apply Sel.cons; · (repeat (first | exact Pick.here | apply Pick.there))))) (fun _ _ => vl_signed (who := sg.who))
          have h3 := h2.conv (M := [ElR RdSigned css (q.votes.take k), VlR RdSigned [.int .i64 sg.who, .int .i64 sg.sig.leaf, .slice r16.1 n1 r16.2, .slice r20.1 n2 r20.2] sg]) (by repeat (first | exact Sel.nil | (apply Sel.cons; · (repeat (first | exact Pick.here | apply Pick.there))))) (fun _ _ => el_snoc)
          rw [← takeB_snoc hsg] at h3
          refine St.pureI ⟨show k + 1 ≤ nv by omega, fun x hx => (by rcases List.mem_append.1 hx with h | h; exact hcs x h; (simp at h; subst h; rfl))⟩ ?_
          rw [show (css ++ [[Value.int .i64 sg.who, .int .i64 sg.sig.leaf, .slice r16.1 n1 r16.2, .slice r20.1 n2 r20.2]]).flatten = css.flatten ++ [Value.int .i64 sg.who, .int .i64 sg.sig.leaf, .slice r16.1 n1 r16.2, .slice r20.1 n2 r20.2] by simp]
          exact h3.sel (by repeat (first | exact Sel.nil | (apply Sel.cons; · (repeat (first | exact Pick.here | apply Pick.there)))))
    · try simp only at hc10
      have hk' : k = nv := by omega
      subst hk'
      have htk : q.votes.take k = q.votes := List.take_of_length_le (by omega)
      rw [htk]
      refine gc_exit ?_
      refine gx_then_exit ?_
      refine gx_round_exit ?_
      refine gx_block_hit ?_
      refine gx_then ?_
      refine gsr ?_
      refine gp zmv ?_
      refine gp zfa ?_
      refine zs1 ?_
      refine gnt ?_
      refine gsr ?_
      refine gp zL ?_
      refine zsN ?_
      refine gnt ?_
      refine gc_ret ?_
      refine gx_retc rfl rfl (ld_aggS Ty.row_29 Ty.sz_29 (by repeat (first | exact Pick.here | apply Pick.there)) (by (simp only [List.drop_succ_cons, List.drop_zero, List.take_succ_cons, List.take_zero, List.cons_append, List.nil_append, List.append_assoc, drop_dc, drop_dc', take_dc, take_dc', drop_L, drop_L', take_L, take_L', len_L, Nat.reduceLeDiff, Nat.reduceSub, Nat.reduceAdd, Nat.le_refl, List.length_cons, List.length_append, List.length_nil, dc_length, List.drop_nil, List.take_nil, List.append_nil, List.length_map, List.length_replicate]; first | done | rfl)) (by first | rfl | (simp only [List.drop_succ_cons, List.drop_zero, List.take_succ_cons, List.take_zero, List.cons_append, List.nil_append, List.append_assoc, drop_dc, drop_dc', take_dc, take_dc', drop_L, drop_L', take_L, take_L', len_L, Nat.reduceLeDiff, Nat.reduceSub, Nat.reduceAdd, Nat.le_refl, List.length_cons, List.length_append, List.length_nil, dc_length, List.drop_nil, List.take_nil, List.append_nil, List.length_map, List.length_replicate]; first | done | omega))) ?_
      intro w' hw
      have h1 := hw.conv (M := [rowR 51 4 a k c css.flatten, ElR RdSigned css q.votes]) (by repeat (first | exact Sel.nil | (apply Sel.cons; · (repeat (first | exact Pick.here | apply Pick.there))))) (fun _ _ => vl_qcE hcs)
      exact ⟨_, rfl, St.pureI ⟨by simp [dc_length], all_cons' rfl (all_cons' rfl (all_app' (dc_one _) (all_cons' rfl all_nil')))⟩ (h1.sel (by repeat (first | exact Sel.nil | (apply Sel.cons; · (repeat (first | exact Pick.here | apply Pick.there))))))⟩

set_option maxHeartbeats 400000 in
theorem copied_ok {w : World} {F : Nat → Prop} {cs : List Value} {b : Block} (h : stars [] w F) (hx : RdBlock w (fun k => ¬ F k) cs b) (hs : smBlk b) :
    Calls Tryd.prog 26 #[.agg cs.toArray] w (Post w F (fun x : List Value => .agg x.toArray) (fun x => [pureR (x.length = 39 ∧ ∀ v ∈ x, v.oneCell' = true), VlR RdBlock x b])) := by
  obtain ⟨q, a1, n1, c1, a2, n2, c2, rfl, hx1, hx2, hx3, hx4, hx5⟩ := hx
  have hlq := hx1.len
  have ilq := Len.of hlq
  have jlq := One.of hx1.one
  have hn1 := hx3.len (by decide)
  have hn2 := hx5.len (by decide)
  obtain ⟨hs1, hs2, hs3, hs4⟩ := hs
  refine g_enter (env := [(0, _)]) Tryd.func26 rfl h Tryd.ntmps26 rfl rfl ?_
  refine gsr ?_
  refine zbN fun b1 => ?_
  refine zal fun b2 => ?_
  refine gl_eqc (cs' := blkC) (by repeat (first | exact Pick.here | apply Pick.there)) (by kernel_rfl) ?_
  refine gnt ?_
  refine gsr ?_
  refine gp zfa ?_
  refine gp (zL (sg := q)) ?_
  refine zc (fun x8 => ?_) (c := fun w1 F1 F2 h1 h2 hd hst => copiedQC_ok h1 (hx1.mv hst.still) hs1)
  refine gl_pureR (fun hx8 => ?_)
  obtain ⟨hl8, ho8⟩ := hx8
  replace hl8 : x8.length = 19 := hl8
  have i8 := Len.of hl8
  have j8 := One.of (show ∀ v ∈ x8, v.oneCell' = true from ho8)
  refine gp zfa ?_
  refine zsN ?_
  refine gnt ?_
  refine gsr ?_
  refine gp zfa ?_
  refine gp zl ?_
  refine zc (fun r12 => ?_) (c := fun w1 F1 F2 h1 h2 hd hst => cloneV_ok (xs := (b.next.map vdC).flatten) h1 ((RdList.row (f := vdC) hx5).mv hst.still) (flat_one vdC_one _) (by omega))
  refine gp zfa ?_
  refine zs1 ?_
  refine gnt ?_
  refine gsr ?_
  refine gp zas ?_
  refine gnt ?_
  refine gc_seq ?_
  refine gsr ?_
  refine gp zfa ?_
  refine gp zl ?_
  refine gp zln ?_
  refine gp zmv ?_
  refine gnt ?_
  refine gc_block ?_
  refine gc_loop (α := Nat × Option Addr × Nat × List (List Value)) (fun y => [pureR (y.1 ≤ n1 ∧ ∀ c ∈ y.2.2.2, List.length c = 1), rowR 54 1 y.2.1 y.1 y.2.2.1 y.2.2.2.flatten, ElR RdBytes y.2.2.2 (b.payload.take y.1), blk b1 33 (.int .i64 b.epoch :: .int .i64 b.round :: (dc b.parent ++ (x8 ++ [.slice a1 n1 c1, .slice r12.1 n2 r12.2]))), blk b2 33 blkC, VlR RdQC x8 b.justify, rowR 53 17 r12.1 n2 r12.2 (b.next.map vdC).flatten]) (fun y => [(3, .slice y.2.1 y.1 y.2.2.1), (17, .int .i64 (y.1 : Int))]) [5, 18, 19, 20, 21, 22, 23, 24, 25, 26] (fun y => n1 - y.1) (0, none, 0, []) ?_ ?_ ?_
  · refine env_start (by kernel_rfl)
  · intro w' hw
    have hw := St.mapL hw (fun F' hF' => el_nil (rd := RdBytes) hF')
    exact St.pureI ⟨Nat.zero_le _, by simp⟩ ((hw.rowNil (e := 54) (size := 1)).sel (by repeat (first | exact Sel.nil | (apply Sel.cons; · (repeat (first | exact Pick.here | apply Pick.there))))))
  · intro y u
    obtain ⟨k, a, c, css⟩ := y
    refine gc_pureR (fun hk => ?_)
    obtain ⟨hk, hcs⟩ := hk
    replace hk : k ≤ n1 := hk
    replace hcs : ∀ x ∈ css, List.length x = 1 := hcs
    refine gsr ?_
    refine gp zlt ?_
    refine gnt ?_
    refine gc_seq ?_
    refine gif rfl (fun hc18 => ?_) (fun hc18 => ?_)
    · try simp only at hc18
      have hk' : k < n1 := by omega
      obtain ⟨gx, ox, ce, px, ha, hA, _, hra, hl1, hpx, hrd⟩ := hx3.elem (i := k) (by decide) hk'
      subst ha
      obtain ⟨ax, nx, cx, rfl, kx, hrx⟩ := hrd
      have hpl := hs4 px (List.mem_of_getElem? hpx)
      have hnx : nx = px.length := by have := hrx.1; simp at this; omega
      refine gc_skip ?_
      refine gx_then ?_
      refine gc_seq ?_
      refine gc_block ?_
      refine gsr ?_
      refine gp (r_val (v' := .pointer (some ⟨gx, ox + k * 1, none⟩)) zia (by simp)) ?_
      refine gp (r_ld1o rfl Ty.row_54 (hra 0 _ rfl) hA) ?_
      refine gp zas ?_
      refine gnt ?_
      refine gc_region ?_
      refine gp zmv ?_
      refine gp zmv ?_
      refine zc (fun r23 => ?_) (c := fun w1 F1 F2 h1 h2 hd hst => cloneBytes_ok (xs := px.map B8) h1 (hrx.mv hst.still) (one_B8 _) (by omega))
      refine ze1 fun b24 => ?_
      refine zapo (fun a25 c25 => ?_)
      refine gp zas ?_
      refine gl_nil ?_
      refine gx_block_normal ?_
      refine gx_then ?_
      refine gc_region ?_
      refine gp zad ?_
      refine gp zmv ?_
      refine gl_nil ?_
      refine zrd ((k + 1, a25, c25, css ++ [[.slice r23.1 nx r23.2]])) ?_ ?_
      · show n1 - (k + 1) < n1 - k
        omega
      · intro w' hw
        have h1 := hw.conv (M := [rowR 5 1 r23.1 nx r23.2 (px.map B8)]) (by repeat (first | exact Sel.nil | (apply Sel.cons; · (repeat (first | exact Pick.here | apply Pick.there))))) (fun _ _ => vl_bytes)
        have h3 := h1.conv (M := [ElR RdBytes css (b.payload.take k), VlR RdBytes [.slice r23.1 nx r23.2] px]) (by repeat (first | exact Sel.nil | (apply Sel.cons; · (repeat (first | exact Pick.here | apply Pick.there))))) (fun _ _ => el_snoc)
        rw [← takeB_snoc hpx] at h3
        refine St.pureI ⟨show k + 1 ≤ n1 by omega, fun x hx => (by rcases List.mem_append.1 hx with h | h; exact hcs x h; (simp at h; subst h; rfl))⟩ ?_
        rw [show (css ++ [[Value.slice r23.1 nx r23.2]]).flatten = css.flatten ++ [Value.slice r23.1 nx r23.2] by simp]
        exact h3.sel (by repeat (first | exact Sel.nil | (apply Sel.cons; · (repeat (first | exact Pick.here | apply Pick.there)))))
    · try simp only at hc18
      have hk' : k = n1 := by omega
      subst hk'
      have htk : b.payload.take k = b.payload := List.take_of_length_le (by omega)
      rw [htk]
      refine gc_exit ?_
      refine gx_then_exit ?_
      refine gx_round_exit ?_
      refine gx_block_hit ?_
      refine gx_then ?_
      refine gsr ?_
      refine gp zmv ?_
      refine gp zfa ?_
      refine zs1 ?_
      refine gnt ?_
      refine gsr ?_
      refine gp zL ?_
      refine zsN ?_
      refine gnt ?_
      refine gc_ret ?_
      refine gx_retc rfl rfl (ld_aggS Ty.row_33 Ty.sz_33 (by repeat (first | exact Pick.here | apply Pick.there)) (by (simp only [List.drop_succ_cons, List.drop_zero, List.take_succ_cons, List.take_zero, List.cons_append, List.nil_append, List.append_assoc, drop_dc, drop_dc', take_dc, take_dc', drop_L, drop_L', take_L, take_L', len_L, Nat.reduceLeDiff, Nat.reduceSub, Nat.reduceAdd, Nat.le_refl, List.length_cons, List.length_append, List.length_nil, dc_length, List.drop_nil, List.take_nil, List.append_nil, List.length_map, List.length_replicate]; first | done | rfl)) (by first | rfl | (simp only [List.drop_succ_cons, List.drop_zero, List.take_succ_cons, List.take_zero, List.cons_append, List.nil_append, List.append_assoc, drop_dc, drop_dc', take_dc, take_dc', drop_L, drop_L', take_L, take_L', len_L, Nat.reduceLeDiff, Nat.reduceSub, Nat.reduceAdd, Nat.le_refl, List.length_cons, List.length_append, List.length_nil, dc_length, List.drop_nil, List.take_nil, List.append_nil, List.length_map, List.length_replicate]; first | done | omega))) ?_
      intro w' hw
      have h1 := hw.conv (M := [VlR RdQC x8 b.justify, rowR 54 1 a k c css.flatten, ElR RdBytes css b.payload, rowR 53 17 r12.1 n2 r12.2 (b.next.map vdC).flatten]) (by repeat (first | exact Sel.nil | (apply Sel.cons; · (repeat (first | exact Pick.here | apply Pick.there))))) (fun _ _ => vl_blockE hcs)
      exact ⟨_, rfl, St.pureI ⟨by simp [dc_length, hl8], all_cons' rfl (all_cons' rfl (all_app' (dc_one _) (all_app' ho8 (all_cons' rfl (all_cons' rfl all_nil')))))⟩ (h1.sel (by repeat (first | exact Sel.nil | (apply Sel.cons; · (repeat (first | exact Pick.here | apply Pick.there))))))⟩

set_option maxHeartbeats 400000 in
theorem bfits_ok {w : World} {F : Nat → Prop} {w' w2 : World} {A A2 : Nat → Prop} {qs cs : List Value} {q : QC} {b : Block} {d : Dig} (h : stars [] w F) (hq : RdQC w' A qs q) (hx : RdBlock w2 A2 cs b) :
    Calls Tryd.prog 36 #[.agg qs.toArray, .agg (dc d).toArray, .agg cs.toArray] w (Post w F (fun _ : Unit => .bool (fitsQ q d b)) (fun _ => [])) := by
  obtain ⟨av, nv, kv, rfl, hq1, hq2⟩ := hq
  obtain ⟨j, a1, n1, c1, a2, n2, c2, rfl, hx1, hx2, hx3, hx4, hx5⟩ := hx
  have ilq := Len.of hx1.len
  have jlq := One.of hx1.one
  refine g_enter (env := [(0, _), (1, _), (2, _)]) Tryd.func36 rfl h Tryd.ntmps36 rfl rfl ?_
  refine gsr ?_
  refine zbN fun b3 => ?_
  refine zbN fun b4 => ?_
  refine zbN fun b5 => ?_
  refine gp zas ?_
  refine gnt ?_
  refine gc_seq ?_
  by_cases hS1 : q.block = d
  · by_cases hS2 : q.epoch = b.epoch
    · by_cases hS3 : q.round = b.round
      · refine gc_region ?_
        refine gp zfa ?_
        refine gp zL ?_
        refine gp zL ?_
        refine gp (r_bool (c := true) zed (by simp [hS1])) ?_
        refine gp zmv ?_
        refine gq zfa ?_
        refine gq zl ?_
        refine gq zfa ?_
        refine gq zl ?_
        refine gq (r_bool (c := true) zei (by simp [hS2])) ?_
        refine gp zpk ?_
        refine gp zmv ?_
        refine gq zfa ?_
        refine gq zl ?_
        refine gq zfa ?_
        refine gq zl ?_
        refine gq (r_bool (c := true) zei (by simp [hS3])) ?_
        refine gp zpk ?_
        refine gp zas ?_
        refine gnt ?_
        refine gc_ret ?_
        refine gx_ret1 rfl (by conv => lhs; whnf) ?_
        exact fun w' hw => ⟨(), by simp [fitsQ, *], hw.sel (by repeat (first | exact Sel.nil | (apply Sel.cons; · (repeat (first | exact Pick.here | apply Pick.there)))))⟩
      · refine gc_region ?_
        refine gp zfa ?_
        refine gp zL ?_
        refine gp zL ?_
        refine gp (r_bool (c := true) zed (by simp [hS1])) ?_
        refine gp zmv ?_
        refine gq zfa ?_
        refine gq zl ?_
        refine gq zfa ?_
        refine gq zl ?_
        refine gq (r_bool (c := true) zei (by simp [hS2])) ?_
        refine gp zpk ?_
        refine gp zmv ?_
        refine gq zfa ?_
        refine gq zl ?_
        refine gq zfa ?_
        refine gq zl ?_
        refine gq (r_bool (c := false) zei (by simp [hS3])) ?_
        refine gp zpk ?_
        refine gp zas ?_
        refine gnt ?_
        refine gc_ret ?_
        refine gx_ret1 rfl (by conv => lhs; whnf) ?_
        exact fun w' hw => ⟨(), by simp [fitsQ, *], hw.sel (by repeat (first | exact Sel.nil | (apply Sel.cons; · (repeat (first | exact Pick.here | apply Pick.there)))))⟩
    · refine gc_region ?_
      refine gp zfa ?_
      refine gp zL ?_
      refine gp zL ?_
      refine gp (r_bool (c := true) zed (by simp [hS1])) ?_
      refine gp zmv ?_
      refine gq zfa ?_
      refine gq zl ?_
      refine gq zfa ?_
      refine gq zl ?_
      refine gq (r_bool (c := false) zei (by simp [hS2])) ?_
      refine gp zpk ?_
      refine gp zmv ?_
      refine gn ?_
      refine gn ?_
      refine gn ?_
      refine gn ?_
      refine gn ?_
      refine gp zpk ?_
      refine gp zas ?_
      refine gnt ?_
      refine gc_ret ?_
      refine gx_ret1 rfl (by conv => lhs; whnf) ?_
      exact fun w' hw => ⟨(), by simp [fitsQ, *], hw.sel (by repeat (first | exact Sel.nil | (apply Sel.cons; · (repeat (first | exact Pick.here | apply Pick.there)))))⟩
  · refine gc_region ?_
    refine gp zfa ?_
    refine gp zL ?_
    refine gp zL ?_
    refine gp (r_bool (c := false) zed (by simp [hS1])) ?_
    refine gp zmv ?_
    refine gn ?_
    refine gn ?_
    refine gn ?_
    refine gn ?_
    refine gn ?_
    refine gp zpk ?_
    refine gp zmv ?_
    refine gn ?_
    refine gn ?_
    refine gn ?_
    refine gn ?_
    refine gn ?_
    refine gp zpk ?_
    refine gp zas ?_
    refine gnt ?_
    refine gc_ret ?_
    refine gx_ret1 rfl (by conv => lhs; whnf) ?_
    exact fun w' hw => ⟨(), by simp [fitsQ, *], hw.sel (by repeat (first | exact Sel.nil | (apply Sel.cons; · (repeat (first | exact Pick.here | apply Pick.there)))))⟩

end Go.Proofs.YtobjojeliibinaaDoor

/- Walks, by program (wg.py) out of a spec. -/
namespace Go.Proofs.YtobjojeliibinaaDoor
open Go
set_option linter.unusedVariables false
set_option linter.unusedSimpArgs false


instance : KeyT Tryd.prog 26 (fun d : Dig => Value.agg (dc d).toArray) := keyT_dig ART.h UNT.h SZ.h
abbrev digV (d : Dig) : Value := .agg (dc d).toArray
def nodeV (l : List (Dig × Block)) (css : List (List Value)) : List (Dig × Value) := (l.map (fun p => p.1)).zip (css.map fun c => Value.agg c.toArray)
def treeC (t : Tr) (g : Nat) (ao : Option Addr) (co : Nat) (ac : Option Addr) (cc : Nat) : List Value := dc t.root ++ [.map (some g), .slice ao t.nodes.length co, .slice ac t.certs.length cc]
theorem treeC_len (t : Tr) (g : Nat) (ao : Option Addr) (co : Nat) (ac : Option Addr) (cc : Nat) : (treeC t g ao co ac cc).length = 19 := by simp [treeC, dc_length]
/-- A tree's memory, piece by piece. -/
structure TrM (w : World) (A : Nat → Prop) (q : Nat) (t : Tr) (g : Nat) (ao : Option Addr) (co : Nat) (ac : Option Addr) (cc : Nat) (css : List (List Value)) : Prop where
  row : RdRow w A 19 (some ⟨q, 0, none⟩) 1 (treeC t g ao co ac cc)
  mp : RdMap w A g (encK digV (nodeV t.nodes css))
  el : css.length = t.nodes.length ∧ ∀ (i : Nat) (c : List Value) (p : Dig × Block), css[i]? = some c → t.nodes[i]? = some p → RdBlock w A c p.2
  ord : RdList (fun cs d => cs = dc d) w A 16 ao t.nodes.length (keysT t)
  cer : RdList (RdQC w A) w A 19 ac t.certs.length t.certs
def RdTree (w : World) (A : Nat → Prop) (q : Nat) (t : Tr) : Prop := ∃ g ao co ac cc css, TrM w A q t g ao co ac cc css
theorem TrM.mv {w w' : World} {A A' : Nat → Prop} {q : Nat} {t : Tr} {g : Nat} {ao : Option Addr} {co : Nat} {ac : Option Addr} {cc : Nat} {css : List (List Value)} (h : TrM w A q t g ao co ac cc css) (hk : Still w A w' A') : TrM w' A' q t g ao co ac cc css :=
  ⟨h.row.mv hk, h.mp.mv hk, ⟨h.el.1, fun i c p hc hp => (h.el.2 i c p hc hp).mv hk⟩, h.ord.mv hk fun _ _ h => h, h.cer.mv hk fun _ _ h => h.mv hk⟩
theorem RdTree.mv {w w' : World} {A A' : Nat → Prop} {q : Nat} {t : Tr} (h : RdTree w A q t) (hk : Still w A w' A') : RdTree w' A' q t := by
  obtain ⟨g, ao, co, ac, cc, css, h⟩ := h; exact ⟨g, ao, co, ac, cc, css, h.mv hk⟩
section
variable {w : World} {A : Nat → Prop} {q : Nat} {t : Tr} {g : Nat} {ao : Option Addr} {co : Nat} {ac : Option Addr} {cc : Nat} {css : List (List Value)}
theorem TrM.cells (h : TrM w A q t g ao co ac cc css) : A q ∧ w.rangeAt q 0 (dc t.root) ∧ w.cell? ⟨q, 16, none⟩ = some (.map (some g)) ∧ w.cell? ⟨q, 17, none⟩ = some (.slice ao t.nodes.length co) ∧ w.cell? ⟨q, 18, none⟩ = some (.slice ac t.certs.length cc) := by
  obtain ⟨g', o, ha, hA, _, hr⟩ := h.row.2.2 (by decide)
  cases ha
  have hd := dc_length t.root
  refine ⟨hA, fun j v hj => hr j v ?_, hr 16 _ ?_, hr 17 _ ?_, hr 18 _ ?_⟩
  · rw [treeC, List.getElem?_append_left ((List.getElem?_eq_some_iff.1 hj).1)]; exact hj
  all_goals (rw [treeC, List.getElem?_append_right (by rw [hd]; decide), hd]; rfl)
theorem nodeV_none {d : Dig} : ∀ {l : List (Dig × Block)} {css : List (List Value)} {k : Nat}, lkN d l = none → atK d (nodeV l css) k = none
  | [], _, _, _ => by simp [nodeV, atK]
  | p :: l, [], _, _ => by simp [nodeV, atK]
  | p :: l, c :: css, k, h => by
    unfold lkN at h
    split at h
    · cases h
    · rename_i hne
      have ih := nodeV_none (css := css) (k := k + 1) h
      simp only [nodeV, List.map_cons, List.zip_cons_cons, atK] at ih ⊢
      rw [if_neg (fun e => hne (by first | exact e | exact e.symm))]; exact ih
theorem nodeV_some {d : Dig} {b : Block} : ∀ {l : List (Dig × Block)} {css : List (List Value)} {k : Nat}, css.length = l.length → lkN d l = some b → ∃ i c, l[i]? = some (d, b) ∧ css[i]? = some c ∧ atK d (nodeV l css) k = some (k + i, .agg c.toArray)
  | [], _, _, _, h => by cases h
  | p :: l, [], _, hl, _ => by simp at hl
  | p :: l, c :: css, k, hl, h => by
    unfold lkN at h
    split at h
    · rename_i e
      cases h
      refine ⟨0, c, by subst e; rfl, rfl, ?_⟩
      simp only [nodeV, List.map_cons, List.zip_cons_cons, atK]
      rw [if_pos (by first | exact e | exact e.symm)]; rfl
    · rename_i hne
      obtain ⟨i, c', h1, h2, h3⟩ := nodeV_some (css := css) (k := k + 1) (by simpa using hl) h
      refine ⟨i + 1, c', h1, h2, ?_⟩
      simp only [nodeV, List.map_cons, List.zip_cons_cons, atK] at h3 ⊢
      rw [if_neg (fun e => hne (by first | exact e | exact e.symm)), h3]; congr 2; omega
theorem TrM.look (h : TrM w A q t g ao co ac cc css) {d : Dig} {b : Block} (hl : lkN d t.nodes = some b) : ∃ c, getK d (nodeV t.nodes css) = some (.agg c.toArray) ∧ RdBlock w A c b := by
  obtain ⟨i, c, h1, h2, h3⟩ := nodeV_some (k := 0) h.el.1 hl
  exact ⟨c, by rw [getK, h3]; rfl, h.el.2 i c _ h2 h1⟩
theorem TrM.lookn {d : Dig} (hl : lkN d t.nodes = none) : getK d (nodeV t.nodes css) = none := by
  rw [getK, nodeV_none hl]; rfl
theorem nodeV_len (h : css.length = t.nodes.length) : (encK digV (nodeV t.nodes css)).length = t.nodes.length := by
  simp [encK, nodeV, h]
end
/-- Certificates. -/
def idxQ (d : Dig) : Nat → List QC → Int
  | _, [] => -1
  | k, q :: l => if q.block = d then (k : Int) else idxQ d (k + 1) l
theorem idxQ_at {d : Dig} : ∀ (l : List QC) (k j : Nat), (∀ i, i < j → ∀ q, l[i]? = some q → q.block ≠ d) → j ≤ l.length → idxQ d k l = idxQ d (k + j) (l.drop j) ∧ certF d l = certF d (l.drop j)
  | [], k, j, _, hj => by have : j = 0 := by simpa using hj
                          subst this; exact ⟨rfl, rfl⟩
  | r :: l, k, 0, _, _ => ⟨rfl, rfl⟩
  | r :: l, k, j + 1, h, hj => by
    have h0 := h 0 (by omega) r rfl
    have ih := idxQ_at l (k + 1) j (fun i hi r' hr => h (i + 1) (by omega) r' (by simpa using hr)) (by simpa using hj)
    rw [idxQ, if_neg h0, certF, if_neg h0, List.drop_succ_cons, ih.1, ih.2, show k + 1 + j = k + (j + 1) by omega]
    exact ⟨rfl, rfl⟩
theorem idxQ_hit {d : Dig} {l : List QC} {j : Nat} {r : QC} (h : ∀ i, i < j → ∀ r, l[i]? = some r → r.block ≠ d) (hr : l[j]? = some r) (he : r.block = d) : idxQ d 0 l = (j : Int) ∧ certF d l = some r := by
  have hlt := (List.getElem?_eq_some_iff.1 hr).1
  have hh := idxQ_at l 0 j h (by omega)
  have : l.drop j = r :: l.drop (j + 1) := by rw [List.drop_eq_getElem_cons hlt, (List.getElem?_eq_some_iff.1 hr).2]
  rw [hh.1, hh.2, Nat.zero_add, this, idxQ, if_pos he, certF, if_pos he]; exact ⟨rfl, rfl⟩
theorem idxQ_miss {d : Dig} {l : List QC} (h : ∀ i, i < l.length → ∀ r, l[i]? = some r → r.block ≠ d) : idxQ d 0 l = -1 ∧ certF d l = none := by
  have hh := idxQ_at l 0 l.length h (Nat.le_refl _)
  rw [hh.1, hh.2, List.drop_length]; exact ⟨rfl, rfl⟩
/-- What the search tells: a place and its certificate, or none. -/
theorem idxQ_cases (d : Dig) (l : List QC) : (idxQ d 0 l = -1 ∧ certF d l = none) ∨ ∃ j r, idxQ d 0 l = ((j : Nat) : Int) ∧ certF d l = some r ∧ l[j]? = some r := by
  by_cases h : ∃ j : Nat, ∃ r, l[j]? = some r ∧ r.block = d
  · right
    have hm : ∃ j : Nat, (∃ r, l[j]? = some r ∧ r.block = d) ∧ ∀ i, i < j → ¬ ∃ r, l[i]? = some r ∧ r.block = d := by
      obtain ⟨j, hj⟩ := h
      induction j using Nat.strongRecOn with
      | ind j ih =>
        by_cases hh : ∃ i, i < j ∧ ∃ r, l[i]? = some r ∧ r.block = d
        · obtain ⟨i, hi, hr⟩ := hh; exact ih i hi hr
        · exact ⟨j, hj, fun i hi hr => hh ⟨i, hi, hr⟩⟩
    obtain ⟨j, ⟨r, hr, he⟩, hn⟩ := hm
    have := idxQ_hit (fun i hi r' hr' e => hn i hi ⟨r', hr', e⟩) hr he
    exact ⟨j, r, this.1, this.2, hr⟩
  · left; exact idxQ_miss fun i _ r hr e => h ⟨i, r, hr, e⟩
def gtQ (h x : QC) : QC := if h.round < x.round then x else h
def highQ (l : List QC) : QC := match l with
  | [] => qc0
  | q :: r => (q :: r).foldl gtQ q

attribute [local irreducible] Gl Gc Gx Gs Runs Wt

attribute [local irreducible] dc qcC blkC RdBlock

set_option maxHeartbeats 400000 in
theorem troot_ok {w : World} {F : Nat → Prop} {q : Nat} {t : Tr} (hx : RdTree w (fun k => ¬ F k) q t) (hok : TOk t) (h : stars [] w F) :
    Calls Tryd.prog 19 #[.pointer (some ⟨q, 0, none⟩)] w (Post w F (fun _ : Unit => .agg (dc t.root).toArray) (fun _ => [])) := by
  obtain ⟨g, ao, co, ac, cc, css, hT⟩ := hx
  obtain ⟨hqA, hrt, h16, h17, h18⟩ := hT.cells
  have hle := hok.le
  have hcl := hok.cl
  have hce := hok.ce
  refine g_enter (env := [(0, .pointer (some ⟨q, 0, none⟩))]) Tryd.func19 rfl h Tryd.ntmps19 rfl rfl ?_
  refine gsr ?_
  refine zal fun b2 => ?_
  refine gnt ?_
  refine gsr ?_
  refine gp zmv ?_
  refine gp znc ?_
  refine gp zfa ?_
  refine gp (r_ldNo rfl Ty.row_26 Ty.sz_26 hrt (dc_length _) (by decide) hqA) ?_
  refine zsN ?_
  refine gnt ?_
  refine gc_ret ?_
  refine gx_retc rfl rfl (ld_aggS Ty.row_26 Ty.sz_26 (by repeat (first | exact Pick.here | apply Pick.there)) (by (simp only [List.drop_succ_cons, List.drop_zero, List.take_succ_cons, List.take_zero, List.cons_append, List.nil_append, List.append_assoc, drop_dc, drop_dc', take_dc, take_dc', drop_L, drop_L', take_L, take_L', len_L, Nat.reduceLeDiff, Nat.reduceSub, Nat.reduceAdd, Nat.le_refl, List.length_cons, List.length_append, List.length_nil, dc_length, List.drop_nil, List.take_nil, List.append_nil, List.length_map, List.length_replicate]; first | done | rfl)) (by first | rfl | (simp only [List.drop_succ_cons, List.drop_zero, List.take_succ_cons, List.take_zero, List.cons_append, List.nil_append, List.append_assoc, drop_dc, drop_dc', take_dc, take_dc', drop_L, drop_L', take_L, take_L', len_L, Nat.reduceLeDiff, Nat.reduceSub, Nat.reduceAdd, Nat.le_refl, List.length_cons, List.length_append, List.length_nil, dc_length, List.drop_nil, List.take_nil, List.append_nil, List.length_map, List.length_replicate]; first | done | omega))) ?_
  exact ze ()

set_option maxHeartbeats 400000 in
theorem tids_ok {w : World} {F : Nat → Prop} {q : Nat} {t : Tr} (hx : RdTree w (fun k => ¬ F k) q t) (hok : TOk t) (h : stars [] w F) :
    Calls Tryd.prog 13 #[.pointer (some ⟨q, 0, none⟩)] w (Post w F (fun r : Option Addr × Nat => .slice r.1 t.nodes.length r.2) (fun r => [rowR 26 16 r.1 t.nodes.length r.2 ((keysT t).map dc).flatten])) := by
  obtain ⟨g, ao, co, ac, cc, css, hT⟩ := hx
  obtain ⟨hqA, hrt, h16, h17, h18⟩ := hT.cells
  have hle := hok.le
  have hcl := hok.cl
  have hce := hok.ce
  refine g_enter (env := [(0, .pointer (some ⟨q, 0, none⟩))]) Tryd.func13 rfl h Tryd.ntmps13 rfl rfl ?_
  refine gsr ?_
  refine gp zas ?_
  refine gnt ?_
  refine gsr ?_
  refine gp zmv ?_
  refine gp znc ?_
  refine gp zfa ?_
  refine gp (r_ld1o rfl Ty.row_37 h17 hqA) ?_
  refine zc (fun r7 => ?_) (c := fun w1 F1 F2 h1 h2 hd hst => cloneD_ok (xs := ((keysT t).map dc).flatten) h1 ((RdList.row (f := dc) hT.ord).mv hst.still) (flat_one dc_one _) (by omega))
  refine gp zas ?_
  refine gnt ?_
  refine gc_ret ?_
  refine gx_ret1 rfl (by conv => lhs; whnf) ?_
  exact ze r7

set_option maxHeartbeats 400000 in
theorem tget_ok {w : World} {F : Nat → Prop} {q : Nat} {t : Tr} (hx : RdTree w (fun k => ¬ F k) q t) (hok : TOk t) {d : Dig} (h : stars [] w F) :
    Calls Tryd.prog 15 #[.pointer (some ⟨q, 0, none⟩), .agg (dc d).toArray] w (Post w F (fun x : List Value => .tuple #[.agg x.toArray, .bool (lkN d t.nodes).isSome]) (fun x => [pureR (x.length = 39 ∧ ∀ v ∈ x, v.oneCell' = true), VlR RdBlock x ((lkN d t.nodes).getD blk0)])) := by
  obtain ⟨g, ao, co, ac, cc, css, hT⟩ := hx
  obtain ⟨hqA, hrt, h16, h17, h18⟩ := hT.cells
  have hle := hok.le
  have hcl := hok.cl
  have hce := hok.ce
  refine g_enter (env := [(0, .pointer (some ⟨q, 0, none⟩)), (1, .agg (dc d).toArray)]) Tryd.func15 rfl h Tryd.ntmps15 rfl rfl ?_
  refine gsr ?_
  refine zbN fun b3 => ?_
  refine zal fun b4 => ?_
  refine gl_eqc (cs' := blkC) (by repeat (first | exact Pick.here | apply Pick.there)) (by kernel_rfl) ?_
  refine gp zas ?_
  refine gnt ?_
  refine gc_seq ?_
  by_cases hS : (lkN d t.nodes).isSome = true
  · obtain ⟨p, hp⟩ := Option.isSome_iff_exists.1 hS
    obtain ⟨cp, hgk, hrp⟩ := hT.look hp
    have icp := Len.of hrp.len
    have jcp := One.of hrp.one
    refine gc_regionZ 11 ([blk b3 26 (dc d)]) ?_
    refine yps 0 rfl zmv ?_
    refine yps 1 rfl znc ?_
    refine yps 2 rfl zfa ?_
    refine yps 3 rfl (r_ld1o rfl Ty.row_75 h16 hqA) ?_
    refine yps 4 rfl zL ?_
    refine yps 5 rfl (r_val (v' := .tuple #[.agg cp.toArray, .bool true]) (r_looko (K := digV) (l := nodeV t.nodes css) (key := d) (z := .agg blkC.toArray) rfl rfl Ty.un_75 (by kernel_rfl) hT.mp) (by rw [hgk]; rfl)) ?_
    refine yps 6 rfl zmv ?_
    refine yps 7 rfl zex ?_
    refine yps 8 rfl zex ?_
    refine yos 9 rfl ?_
    refine zal fun b6 => ?_
    refine gl_eqc (cs' := blkC) (by repeat (first | exact Pick.here | apply Pick.there)) (by kernel_rfl) ?_
    refine yxs ?_
    refine yos 10 rfl ?_
    refine zsN ?_
    refine yxs ?_
    refine yzs rfl ?_
    refine gp zas ?_
    refine gnt ?_
    refine gsr ?_
    refine gp zL ?_
    refine zc (fun x18 => ?_) (c := fun w1 F1 F2 h1 h2 hd hst => copied_ok (b := p) h1 (hrp.mv hst.still) (hok.sb _ _ hp))
    refine gl_pureR (fun hx18 => ?_)
    obtain ⟨hl18, ho18⟩ := hx18
    replace hl18 : x18.length = 39 := hl18
    have i18 := Len.of hl18
    have j18 := One.of (show ∀ v ∈ x18, v.oneCell' = true from ho18)
    refine gp zmv ?_
    refine zsN ?_
    refine gp zas ?_
    refine gnt ?_
    refine gc_ret ?_
    refine gx_retct rfl rfl (by conv => lhs; whnf) (ld_aggS Ty.row_33 Ty.sz_33 (by repeat (first | exact Pick.here | apply Pick.there)) (by (simp only [List.drop_succ_cons, List.drop_zero, List.take_succ_cons, List.take_zero, List.cons_append, List.nil_append, List.append_assoc, drop_dc, drop_dc', take_dc, take_dc', drop_L, drop_L', take_L, take_L', len_L, Nat.reduceLeDiff, Nat.reduceSub, Nat.reduceAdd, Nat.le_refl, List.length_cons, List.length_append, List.length_nil, dc_length, List.drop_nil, List.take_nil, List.append_nil, List.length_map, List.length_replicate]; first | done | rfl)) (by first | rfl | (simp only [List.drop_succ_cons, List.drop_zero, List.take_succ_cons, List.take_zero, List.cons_append, List.nil_append, List.append_assoc, drop_dc, drop_dc', take_dc, take_dc', drop_L, drop_L', take_L, take_L', len_L, Nat.reduceLeDiff, Nat.reduceSub, Nat.reduceAdd, Nat.le_refl, List.length_cons, List.length_append, List.length_nil, dc_length, List.drop_nil, List.take_nil, List.append_nil, List.length_map, List.length_replicate]; first | done | omega))) ?_
    exact fun w' hw => ⟨x18, by rw [hp]; rfl, St.pureI ⟨hl18, ho18⟩ (by rw [hp]; exact hw.sel (by repeat (first | exact Sel.nil | (apply Sel.cons; · (repeat (first | exact Pick.here | apply Pick.there))))))⟩
  · have hp : lkN d t.nodes = none := by simpa using hS
    have hgk := TrM.lookn (css := css) hp
    refine gc_regionZ 11 ([blk b3 26 (dc d)]) ?_
    refine yps 0 rfl zmv ?_
    refine yps 1 rfl znc ?_
    refine yps 2 rfl zfa ?_
    refine yps 3 rfl (r_ld1o rfl Ty.row_75 h16 hqA) ?_
    refine yps 4 rfl zL ?_
    refine yps 5 rfl (r_val (v' := .tuple #[.agg blkC.toArray, .bool false]) (r_looko (K := digV) (l := nodeV t.nodes css) (key := d) (z := .agg blkC.toArray) rfl rfl Ty.un_75 (by kernel_rfl) hT.mp) (by rw [hgk]; rfl)) ?_
    refine yps 6 rfl zmv ?_
    refine yps 7 rfl zex ?_
    refine yps 8 rfl zex ?_
    refine yos 9 rfl ?_
    refine zal fun b6 => ?_
    refine gl_eqc (cs' := blkC) (by repeat (first | exact Pick.here | apply Pick.there)) (by kernel_rfl) ?_
    refine yxs ?_
    refine yos 10 rfl ?_
    refine zsN ?_
    refine yxs ?_
    refine yzs rfl ?_
    refine gp zas ?_
    refine gnt ?_
    refine gsr ?_
    refine gp zL ?_
    refine zc (fun x18 => ?_) (c := fun w1 F1 F2 h1 h2 hd hst => copied_ok (b := blk0) h1 rdBlock0 ⟨⟨by decide, fun _ h => by cases h⟩, by decide, by decide, fun _ h => by cases h⟩)
    refine gl_pureR (fun hx18 => ?_)
    obtain ⟨hl18, ho18⟩ := hx18
    replace hl18 : x18.length = 39 := hl18
    have i18 := Len.of hl18
    have j18 := One.of (show ∀ v ∈ x18, v.oneCell' = true from ho18)
    refine gp zmv ?_
    refine zsN ?_
    refine gp zas ?_
    refine gnt ?_
    refine gc_ret ?_
    refine gx_retct rfl rfl (by conv => lhs; whnf) (ld_aggS Ty.row_33 Ty.sz_33 (by repeat (first | exact Pick.here | apply Pick.there)) (by (simp only [List.drop_succ_cons, List.drop_zero, List.take_succ_cons, List.take_zero, List.cons_append, List.nil_append, List.append_assoc, drop_dc, drop_dc', take_dc, take_dc', drop_L, drop_L', take_L, take_L', len_L, Nat.reduceLeDiff, Nat.reduceSub, Nat.reduceAdd, Nat.le_refl, List.length_cons, List.length_append, List.length_nil, dc_length, List.drop_nil, List.take_nil, List.append_nil, List.length_map, List.length_replicate]; first | done | rfl)) (by first | rfl | (simp only [List.drop_succ_cons, List.drop_zero, List.take_succ_cons, List.take_zero, List.cons_append, List.nil_append, List.append_assoc, drop_dc, drop_dc', take_dc, take_dc', drop_L, drop_L', take_L, take_L', len_L, Nat.reduceLeDiff, Nat.reduceSub, Nat.reduceAdd, Nat.le_refl, List.length_cons, List.length_append, List.length_nil, dc_length, List.drop_nil, List.take_nil, List.append_nil, List.length_map, List.length_replicate]; first | done | omega))) ?_
    exact fun w' hw => ⟨x18, by rw [hp]; rfl, St.pureI ⟨hl18, ho18⟩ (by rw [hp]; exact hw.sel (by repeat (first | exact Sel.nil | (apply Sel.cons; · (repeat (first | exact Pick.here | apply Pick.there))))))⟩

set_option maxHeartbeats 400000 in
theorem cert1_ok {w : World} {F : Nat → Prop} {w' : World} {A : Nat → Prop} {qs : List Value} {x : QC} {bi : Nat} {d : Dig} (h : stars [blk bi 26 (dc d)] w F) (hq : RdQC w' A qs x) :
    Calls Tryd.prog 49 #[.agg qs.toArray, .pointer (some ⟨bi, 0, none⟩)] w (Post w F (fun _ : Unit => .bool (decide (x.block = d))) (fun _ => [blk bi 26 (dc d)])) := by
  obtain ⟨av, nv, kv, rfl, hq1, hq2⟩ := hq
  refine g_enter (env := [(0, _), (1, .pointer (some ⟨bi, 0, none⟩))]) Tryd.func49 rfl h Tryd.ntmps49 rfl rfl ?_
  refine gsr ?_
  refine zbN fun b2 => ?_
  refine gp zas ?_
  refine gnt ?_
  refine gsr ?_
  refine gp zfa ?_
  refine gp zL ?_
  refine gp zL ?_
  refine gp zed ?_
  refine gp zas ?_
  refine gnt ?_
  refine gc_ret ?_
  refine gx_ret1 rfl (by conv => lhs; whnf) ?_
  exact ze ()

set_option maxHeartbeats 400000 in
theorem indexQ_ok {w : World} {F : Nat → Prop} {a : Option Addr} {n c bi : Nat} {d : Dig} {l : List QC} (h : stars [blk bi 26 (dc d)] w F) (hx : RdList (RdQC w (fun k => ¬ F k)) w (fun k => ¬ F k) 19 a n l) :
    Calls Tryd.prog 48 #[.slice a n c, .func (.func 49) #[] #[.pointer (some ⟨bi, 0, none⟩)]] w (Post w F (fun _ : Unit => .int .i64 (idxQ d 0 l)) (fun _ => [blk bi 26 (dc d)])) := by
  have hn := hx.len (by decide)
  have hmx := hx.max
  simp only [maxLen] at hmx
  refine g_enter (env := [(0, .slice a n c), (1, .func (.func 49) #[] #[.pointer (some ⟨bi, 0, none⟩)])]) Tryd.func48 rfl h Tryd.ntmps48 rfl rfl ?_
  refine gsr ?_
  refine gp zas ?_
  refine gnt ?_
  refine gc_seq ?_
  refine gsr ?_
  refine gp zmv ?_
  refine gp zln ?_
  refine gp zmv ?_
  refine gnt ?_
  refine gc_block ?_
  refine gc_loop (α := Nat) (fun k => [pureR (k ≤ n ∧ ∀ i, i < k → ∀ r, l[i]? = some r → r.block ≠ d), blk bi 26 (dc d)]) (fun k => [(8, .int .i64 (k : Int))]) [4, 5, 9, 10, 11, 12, 13, 14, 15, 16, 17, 18] (fun k => n - k) 0 ?_ ?_ ?_
  · refine env_start (by kernel_rfl)
  · exact zlp ⟨Nat.zero_le _, fun i hi => absurd hi (Nat.not_lt_zero _)⟩
  · intro k u
    refine gc_pureR (fun hk => ?_)
    replace hk : k ≤ n ∧ ∀ i, i < k → ∀ r, l[i]? = some r → r.block ≠ d := hk
    refine gsr ?_
    refine gp zlt ?_
    refine gnt ?_
    refine gc_seq ?_
    refine gif rfl (fun hc9 => ?_) (fun hc9 => ?_)
    · try simp only at hc9
      have hk' : k < n := by omega
      obtain ⟨ga, oa, ce, r, ha, hA, _, hra, hl19, hr, hrd⟩ := hx.elem (i := k) (by decide) hk'
      subst ha
      have i19 := Len.of hl19
      have j19 := One.of hrd.one
      refine gc_skip ?_
      refine gx_then ?_
      refine gc_seq ?_
      refine gc_block ?_
      refine gsr ?_
      refine gp zmv ?_
      refine gp zas ?_
      refine gnt ?_
      refine gsr ?_
      refine gp zmv ?_
      refine gp zmv ?_
      refine gp zmv ?_
      refine gp (r_val (v' := .pointer (some ⟨ga, oa + k * 19, none⟩)) zia (by simp)) ?_
      refine gp (r_ldNo (seg := ce) rfl Ty.row_29 Ty.sz_29 hra hl19 (by decide) hA) ?_
      refine gl_call (wt0 rfl) (e_callv (us := [.pointer (some ⟨bi, 0, none⟩)]) rfl Ty.call_49 rfl) (by repeat (first | exact Sel.nil | (apply Sel.cons; · (repeat (first | exact Pick.here | apply Pick.there))))) (fun w1 F1 F2 h1 h2 hd hst => cert1_ok (d := d) h1 hrd) ?_
      intro _
      refine gnt ?_
      refine gif rfl (fun hc16 => ?_) (fun hc16 => ?_)
      · try simp only at hc16
        have hf := idxQ_hit hk.2 hr (by simpa using hc16)
        refine gsr ?_
        refine gp zmv ?_
        refine gp zas ?_
        refine gnt ?_
        refine gc_ret ?_
        refine gx_block_ret ?_
        refine gx_then_ret ?_
        refine gx_round_ret ?_
        refine gx_block_ret ?_
        refine gx_then_ret ?_
        refine gx_ret1 rfl (by conv => lhs; whnf) ?_
        exact fun w' hw => ⟨(), by rw [hf.1], hw.sel (by repeat (first | exact Sel.nil | (apply Sel.cons; · (repeat (first | exact Pick.here | apply Pick.there)))))⟩
      · refine gc_skip ?_
        refine gx_block_normal ?_
        refine gx_then ?_
        refine gc_region ?_
        refine gp zad ?_
        refine gp zmv ?_
        refine gl_nil ?_
        refine zrd (k + 1) ?_ ?_
        · show n - (k + 1) < n - k
          omega
        · exact zlp (show k + 1 ≤ n ∧ ∀ i, i < k + 1 → ∀ r, l[i]? = some r → r.block ≠ d from ⟨by omega, fun i hi r' hr' => (by by_cases h' : i < k; exact hk.2 i h' r' hr'; (obtain rfl : i = k := by omega); rw [hr] at hr'; cases hr'; simpa using hc16)⟩)
    · try simp only at hc9
      have hk' : k = n := by omega
      have hf := idxQ_miss (d := d) (l := l) (fun i hi => hk.2 i (by omega))
      refine gc_exit ?_
      refine gx_then_exit ?_
      refine gx_round_exit ?_
      refine gx_block_hit ?_
      refine gx_then ?_
      refine gsr ?_
      refine gp zas ?_
      refine gnt ?_
      refine gc_ret ?_
      refine gx_ret1 rfl (by conv => lhs; whnf) ?_
      exact fun w' hw => ⟨(), by rw [hf.1], hw.sel (by repeat (first | exact Sel.nil | (apply Sel.cons; · (repeat (first | exact Pick.here | apply Pick.there)))))⟩

set_option maxHeartbeats 400000 in
theorem tcert_ok {w : World} {F : Nat → Prop} {q : Nat} {t : Tr} (hx : RdTree w (fun k => ¬ F k) q t) (hok : TOk t) {d : Dig} (h : stars [] w F) :
    Calls Tryd.prog 31 #[.pointer (some ⟨q, 0, none⟩), .agg (dc d).toArray] w (Post w F (fun x : List Value => .tuple #[.agg x.toArray, .bool (certF d t.certs).isSome]) (fun x => [pureR (x.length = 19 ∧ ∀ v ∈ x, v.oneCell' = true), VlR RdQC x ((certF d t.certs).getD qc0)])) := by
  obtain ⟨g, ao, co, ac, cc, css, hT⟩ := hx
  obtain ⟨hqA, hrt, h16, h17, h18⟩ := hT.cells
  have hle := hok.le
  have hcl := hok.cl
  have hce := hok.ce
  refine g_enter (env := [(0, .pointer (some ⟨q, 0, none⟩)), (1, .agg (dc d).toArray)]) Tryd.func31 rfl h Tryd.ntmps31 rfl rfl ?_
  refine gsr ?_
  refine zbN fun b3 => ?_
  refine zal fun b4 => ?_
  refine gl_eqc (cs' := qcC) (by repeat (first | exact Pick.here | apply Pick.there)) (by kernel_rfl) ?_
  refine gp zas ?_
  refine gnt ?_
  refine gc_seq ?_
  by_cases hS : idxQ d 0 t.certs = -1 ∧ certF d t.certs = none
  · refine gc_region ?_
    refine gp zmv ?_
    refine gp znc ?_
    refine gp zfa ?_
    refine gp (r_ld1o rfl Ty.row_76 h18 hqA) ?_
    refine gp zmf ?_
    refine zc (fun _ => ?_) (c := fun w1 F1 F2 h1 h2 hd hst => indexQ_ok (l := t.certs) (d := d) h1 (hT.cer.mv hst.still fun _ _ h => h.mv hst.still))
    refine gp zas ?_
    refine gnt ?_
    refine gc_seq ?_
    refine gsr ?_
    refine gp zmv ?_
    refine gp (r_bool (c := true) zlt (by rw [hS.1]; rfl)) ?_
    refine gnt ?_
    refine gc_condT rfl rfl ?_
    refine gsr ?_
    refine gp (zbu (cs := qcC) (hf := by kernel_rfl)) ?_
    refine zsN ?_
    refine gp zas ?_
    refine gnt ?_
    refine gc_ret ?_
    refine gx_then_ret ?_
    refine gx_retct rfl rfl (by conv => lhs; whnf) (ld_aggS Ty.row_29 Ty.sz_29 (by repeat (first | exact Pick.here | apply Pick.there)) (by (simp only [List.drop_succ_cons, List.drop_zero, List.take_succ_cons, List.take_zero, List.cons_append, List.nil_append, List.append_assoc, drop_dc, drop_dc', take_dc, take_dc', drop_L, drop_L', take_L, take_L', len_L, Nat.reduceLeDiff, Nat.reduceSub, Nat.reduceAdd, Nat.le_refl, List.length_cons, List.length_append, List.length_nil, dc_length, List.drop_nil, List.take_nil, List.append_nil, List.length_map, List.length_replicate]; first | done | rfl)) (by first | rfl | (simp only [List.drop_succ_cons, List.drop_zero, List.take_succ_cons, List.take_zero, List.cons_append, List.nil_append, List.append_assoc, drop_dc, drop_dc', take_dc, take_dc', drop_L, drop_L', take_L, take_L', len_L, Nat.reduceLeDiff, Nat.reduceSub, Nat.reduceAdd, Nat.le_refl, List.length_cons, List.length_append, List.length_nil, dc_length, List.drop_nil, List.take_nil, List.append_nil, List.length_map, List.length_replicate]; first | done | omega))) ?_
    exact fun w' hw => ⟨qcC, by rw [hS.2]; rfl, St.pureI ⟨Len.h, One.h⟩ (by rw [hS.2]; exact St.vl (hw.sel (by repeat (first | exact Sel.nil | (apply Sel.cons; · (repeat (first | exact Pick.here | apply Pick.there)))))) rdQC0)⟩
  · obtain ⟨j, r, hj, hr, hg⟩ := (idxQ_cases d t.certs).resolve_left hS
    have hjl := (List.getElem?_eq_some_iff.1 hg).1
    obtain ⟨ga, oa, ce, r', ha, hA, _, hra, hl19, hr', hrd⟩ := hT.cer.elem (i := j) (by decide) hjl
    obtain rfl : r' = r := Option.some.inj (hr'.symm.trans hg)
    subst ha
    have i19 := Len.of hl19
    have j19 := One.of hrd.one
    refine gc_region ?_
    refine gp zmv ?_
    refine gp znc ?_
    refine gp zfa ?_
    refine gp (r_ld1o rfl Ty.row_76 h18 hqA) ?_
    refine gp zmf ?_
    refine zc (fun _ => ?_) (c := fun w1 F1 F2 h1 h2 hd hst => indexQ_ok (l := t.certs) (d := d) h1 (hT.cer.mv hst.still fun _ _ h => h.mv hst.still))
    refine gp zas ?_
    refine gnt ?_
    refine gc_seq ?_
    refine gsr ?_
    refine gp zmv ?_
    refine gp (r_bool (c := false) zlt (by rw [hj]; exact decide_eq_false (by omega))) ?_
    refine gnt ?_
    refine gc_condF rfl rfl ?_
    refine gc_skip ?_
    refine gx_then ?_
    refine gsr ?_
    refine gp zmv ?_
    refine gp znc ?_
    refine gp zfa ?_
    refine gp (r_ld1o rfl Ty.row_76 h18 hqA) ?_
    refine gp (r_val (v' := .int .i64 ((j : Nat) : Int)) zmv (by rw [hj])) ?_
    refine gp (r_val (v' := .pointer (some ⟨ga, oa + j * 19, none⟩)) zia (by simp)) ?_
    refine gp (r_ldNo (seg := ce) rfl Ty.row_29 Ty.sz_29 hra hl19 (by decide) hA) ?_
    refine zc (fun x23 => ?_) (c := fun w1 F1 F2 h1 h2 hd hst => copiedQC_ok h1 (hrd.mv hst.still) (hok.sq _ (List.mem_of_getElem? hg)))
    refine gl_pureR (fun hx23 => ?_)
    obtain ⟨hl23, ho23⟩ := hx23
    replace hl23 : x23.length = 19 := hl23
    have i23 := Len.of hl23
    have j23 := One.of (show ∀ v ∈ x23, v.oneCell' = true from ho23)
    refine zsN ?_
    refine gp zas ?_
    refine gnt ?_
    refine gc_ret ?_
    refine gx_retct rfl rfl (by conv => lhs; whnf) (ld_aggS Ty.row_29 Ty.sz_29 (by repeat (first | exact Pick.here | apply Pick.there)) (by (simp only [List.drop_succ_cons, List.drop_zero, List.take_succ_cons, List.take_zero, List.cons_append, List.nil_append, List.append_assoc, drop_dc, drop_dc', take_dc, take_dc', drop_L, drop_L', take_L, take_L', len_L, Nat.reduceLeDiff, Nat.reduceSub, Nat.reduceAdd, Nat.le_refl, List.length_cons, List.length_append, List.length_nil, dc_length, List.drop_nil, List.take_nil, List.append_nil, List.length_map, List.length_replicate]; first | done | rfl)) (by first | rfl | (simp only [List.drop_succ_cons, List.drop_zero, List.take_succ_cons, List.take_zero, List.cons_append, List.nil_append, List.append_assoc, drop_dc, drop_dc', take_dc, take_dc', drop_L, drop_L', take_L, take_L', len_L, Nat.reduceLeDiff, Nat.reduceSub, Nat.reduceAdd, Nat.le_refl, List.length_cons, List.length_append, List.length_nil, dc_length, List.drop_nil, List.take_nil, List.append_nil, List.length_map, List.length_replicate]; first | done | omega))) ?_
    exact fun w' hw => ⟨x23, by rw [hr]; rfl, St.pureI ⟨hl23, ho23⟩ (by rw [hr]; exact hw.sel (by repeat (first | exact Sel.nil | (apply Sel.cons; · (repeat (first | exact Pick.here | apply Pick.there))))))⟩

end Go.Proofs.YtobjojeliibinaaDoor

/- Walks, by program (wg.py) out of a spec. -/
namespace Go.Proofs.YtobjojeliibinaaDoor
open Go
set_option linter.unusedVariables false
set_option linter.unusedSimpArgs false


def bOf (t : Tr) (d : Dig) : Block := (lkN d t.nodes).getD blk0
theorem TrM.lookB {w : World} {A : Nat → Prop} {q : Nat} {t : Tr} {g : Nat} {ao : Option Addr} {co : Nat} {ac : Option Addr} {cc : Nat} {css : List (List Value)} (h : TrM w A q t g ao co ac cc css) (d : Dig) :
    ∃ cp, (if (true : Bool) then Value.tuple #[(getK d (nodeV t.nodes css)).getD (.agg blkC.toArray), .bool (getK d (nodeV t.nodes css)).isSome] else (getK d (nodeV t.nodes css)).getD (.agg blkC.toArray)) = .tuple #[.agg cp.toArray, .bool (lkN d t.nodes).isSome] ∧ RdBlock w A cp (bOf t d) := by
  cases hl : lkN d t.nodes with
  | none => exact ⟨blkC, by rw [TrM.lookn hl]; rfl, by rw [bOf, hl]; exact rdBlock0⟩
  | some b => obtain ⟨c, h1, h2⟩ := h.look hl; exact ⟨c, by rw [h1]; rfl, by rw [bOf, hl]; exact h2⟩
def hiK (l : List QC) (k : Nat) : QC := (l.take k).foldl gtQ ((l[0]?).getD qc0)
theorem hiK_zero (l : List QC) : hiK l 0 = (l[0]?).getD qc0 := rfl
theorem hiK_succ {l : List QC} {k : Nat} {x : QC} (h : l[k]? = some x) : hiK l (k + 1) = gtQ (hiK l k) x := by rw [hiK, takeB_snoc h, List.foldl_append]; rfl
theorem hiK_all (l : List QC) : hiK l l.length = highQ l := by cases l <;> simp [hiK, highQ]
theorem hiK_mem {l : List QC} (h : 0 < l.length) : ∀ k, k ≤ l.length → hiK l k ∈ l
  | 0, _ => by rw [hiK_zero, List.getElem?_eq_getElem h]; exact List.getElem_mem h
  | k + 1, hk => by
    have h1 : l[k]? = some (l[k]'(by omega)) := List.getElem?_eq_getElem (by omega)
    rw [hiK_succ h1]
    unfold gtQ
    split
    · exact List.getElem_mem _
    · exact hiK_mem h k (by omega)
def upE (_ : Nat) (x : Dig × List Value) : Array Value := #[.agg (dc x.1).toArray, .agg x.2.toArray]
def upP (t : Tr) (d : Dig) (i : Nat) (x : Dig × List Value) : Prop := (x.2.length = 39 ∧ ∀ v ∈ x.2, v.oneCell' = true) ∧ ∃ b, (upL t d)[i]? = some (x.1, b) ∧ x.2[1]? = some (.int .i64 b.round)
def upG (t : Tr) (d : Dig) (i : Nat) (x : Dig × List Value) : List Res := [pureR (upP t d i x)]
theorem rd_round {w : World} {A : Nat → Prop} {c : List Value} {b : Block} (h : RdBlock w A c b) : c[1]? = some (.int .i64 b.round) := by obtain ⟨q, a1, n1, c1, a2, n2, c2, rfl, _⟩ := h; rfl
/-- A list turned around from its ends on. -/
def rvF (l : List Dig) (k i : Nat) : Dig := if i < k ∨ l.length - k ≤ i then l.getD (l.length - 1 - i) dig0 else l.getD i dig0
def revK (l : List Dig) (k : Nat) : List Dig := (List.range l.length).map (rvF l k)
theorem revK_len (l : List Dig) (k : Nat) : (revK l k).length = l.length := by simp [revK]
theorem revK_zero (l : List Dig) : revK l 0 = l := by
  apply List.ext_getElem (revK_len l 0)
  intro i h1 h2
  simp only [revK, List.getElem_map, List.getElem_range, rvF]
  rw [if_neg (by omega)]; simp [List.getD, h2]
theorem revK_at {l : List Dig} {k i : Nat} (h : i < l.length) : ((revK l k).map dc)[i]? = some (dc (rvF l k i)) := by simp [revK, h]
theorem revK_step {l : List Dig} {k : Nat} (h : 2 * k + 1 < l.length) : (((revK l k).map dc).set k (dc (rvF l k (l.length - 1 - k)))).set (l.length - 1 - k) (dc (rvF l k k)) = (revK l (k + 1)).map dc := by
  apply List.ext_getElem (by simp [revK_len])
  intro i h1 h2
  simp only [List.length_map, revK_len] at h2
  simp only [List.getElem_set, revK, List.getElem_map, List.getElem_range]
  split
  · rename_i e; subst e
    congr 1
    unfold rvF
    rw [if_neg (by omega), if_pos (by omega)]; congr 1; omega
  · split
    · rename_i e; subst e
      congr 1
      unfold rvF
      rw [if_neg (by omega), if_pos (by omega)]
    · congr 1
      unfold rvF
      by_cases hc : i < k ∨ l.length - k ≤ i
      · rw [if_pos hc, if_pos (by omega)]
      · rw [if_neg hc, if_neg (by omega)]
theorem revK_end {l : List Dig} {k : Nat} (h : l.length ≤ 2 * k + 1) (h2 : 2 * k ≤ l.length) : revK l k = l.reverse := by
  apply List.ext_getElem (by simp [revK_len])
  intro i h1 h3
  simp only [List.length_reverse] at h3
  simp only [revK, List.getElem_map, List.getElem_range, List.getElem_reverse, rvF]
  by_cases hc : i < k ∨ l.length - k ≤ i
  · rw [if_pos hc]; simp [List.getD, show l.length - 1 - i < l.length by omega]
  · rw [if_neg hc]
    have : l.length - 1 - i = i := by omega
    simp [List.getD, h3, this]

attribute [local irreducible] Gl Gc Gx Gs Runs Wt

attribute [local irreducible] dc qcC blkC

set_option maxHeartbeats 400000 in
theorem thigh_ok {w : World} {F : Nat → Prop} {q : Nat} {t : Tr} (hx : RdTree w (fun k => ¬ F k) q t) (hok : TOk t) (h : stars [] w F) :
    Calls Tryd.prog 21 #[.pointer (some ⟨q, 0, none⟩)] w (Post w F (fun x : List Value => .agg x.toArray) (fun x => [pureR (x.length = 19 ∧ ∀ v ∈ x, v.oneCell' = true), VlR RdQC x (highQ t.certs)])) := by
  obtain ⟨g, ao, co, ac, cc, css, hT⟩ := hx
  obtain ⟨hqA, hrt, h16, h17, h18⟩ := hT.cells
  have hle := hok.le
  have hcl := hok.cl
  have hce := hok.ce
  obtain ⟨ga, oa, ce0, r0, ha, hA, _, hra0, hl0, hr0, hrd0⟩ := hT.cer.elem (i := 0) (by decide) hok.ce
  subst ha
  have il0 := Len.of hl0
  have jl0 := One.of hrd0.one
  have hrd0' : RdQC w (fun k => ¬ F k) ce0 (hiK t.certs 0) := by rw [hiK_zero, hr0]; exact hrd0
  refine g_enter (env := [(0, .pointer (some ⟨q, 0, none⟩))]) Tryd.func21 rfl h Tryd.ntmps21 rfl rfl ?_
  refine gsr ?_
  refine zal fun b2 => ?_
  refine gl_eqc (cs' := qcC) (by repeat (first | exact Pick.here | apply Pick.there)) (by kernel_rfl) ?_
  refine gnt ?_
  refine gsr ?_
  refine gp zmv ?_
  refine gp znc ?_
  refine gp zfa ?_
  refine gp (r_ld1o rfl Ty.row_76 h18 hqA) ?_
  refine gp (r_val (v' := .pointer (some ⟨ga, oa + 0 * 19, none⟩)) zia (by simp)) ?_
  refine gp (r_ldNo (seg := ce0) rfl Ty.row_29 Ty.sz_29 hra0 hl0 (by decide) hA) ?_
  refine zal fun b3 => ?_
  refine gl_eqc (cs' := qcC) (by repeat (first | exact Pick.here | apply Pick.there)) (by kernel_rfl) ?_
  refine zsN ?_
  refine gnt ?_
  refine gc_seq ?_
  refine gsr ?_
  refine gp zmv ?_
  refine gp znc ?_
  refine gp zfa ?_
  refine gp (r_ld1o rfl Ty.row_76 h18 hqA) ?_
  refine gp zln ?_
  refine gp zmv ?_
  refine gnt ?_
  refine gc_block ?_
  refine gc_loop (α := Nat × List Value) (fun y => [pureR (y.1 ≤ t.certs.length ∧ RdQC w (fun k => ¬ F k) y.2 (hiK t.certs y.1)), blk b2 29 qcC, blk b3 29 y.2]) (fun y => [(17, .int .i64 (y.1 : Int))]) [5, 18, 19, 20, 21, 22, 23, 24, 25, 26, 27] (fun y => t.certs.length - y.1) (0, ce0) ?_ ?_ ?_
  · refine env_start (by kernel_rfl)
  · exact zlp ⟨Nat.zero_le _, hrd0'⟩
  · intro y u
    obtain ⟨k, hc⟩ := y
    refine gc_pureR (fun hk => ?_)
    obtain ⟨hk, hrh⟩ := hk
    replace hk : k ≤ t.certs.length := hk
    replace hrh : RdQC w (fun k => ¬ F k) hc (hiK t.certs k) := hrh
    have hrh' := hrh
    obtain ⟨avh, nvh, kvh, rfl, _, _⟩ := hrh'
    refine gsr ?_
    refine gp zlt ?_
    refine gnt ?_
    refine gc_seq ?_
    refine gif rfl (fun hc18 => ?_) (fun hc18 => ?_)
    · try simp only at hc18
      have hk' : k < t.certs.length := by omega
      obtain ⟨ga', oa', ce, r, ha, hA', _, hra, hl19, hr, hrd⟩ := hT.cer.elem (i := k) (by decide) hk'
      obtain ⟨rfl, rfl⟩ : ga = ga' ∧ oa = oa' := by injection ha with ha; injection ha with h1 h2; exact ⟨h1, h2⟩
      have hrd' := hrd
      obtain ⟨av, nv, kv, rfl, _, _⟩ := hrd'
      refine gc_skip ?_
      refine gx_then ?_
      refine gc_seq ?_
      refine gc_block ?_
      refine gsr ?_
      refine gp (r_val (v' := .pointer (some ⟨ga, oa + k * 19, none⟩)) zia (by simp)) ?_
      refine gp (r_ldNo rfl Ty.row_29 Ty.sz_29 hra hl19 (by decide) hA) ?_
      refine zal fun b5 => ?_
      refine gl_eqc (cs' := qcC) (by repeat (first | exact Pick.here | apply Pick.there)) (by kernel_rfl) ?_
      refine zsN ?_
      refine gnt ?_
      refine gsr ?_
      refine gp zfa ?_
      refine gp zl ?_
      refine gp zfa ?_
      refine gp zl ?_
      refine gp zgt ?_
      refine gnt ?_
      refine gif rfl (fun hc25 => ?_) (fun hc25 => ?_)
      · try simp only at hc25
        have hgt : (hiK t.certs k).round < r.round := by simpa using hc25
        refine gc_region ?_
        refine gp zL ?_
        refine zsN ?_
        refine gl_nil ?_
        refine gx_block_normal ?_
        refine gx_then ?_
        refine gc_region ?_
        refine gp zad ?_
        refine gp zmv ?_
        refine gl_nil ?_
        refine zrd ((k + 1, .int .i64 r.epoch :: .int .i64 r.round :: (dc r.block ++ [.slice av nv kv]))) ?_ ?_
        · show t.certs.length - (k + 1) < t.certs.length - k
          omega
        · exact zlp (show k + 1 ≤ t.certs.length ∧ RdQC w (fun k => ¬ F k) _ (hiK t.certs (k + 1)) from ⟨by omega, by rw [hiK_succ hr, gtQ, if_pos hgt]; exact hrd⟩)
      · try simp only at hc25
        have hgt : ¬ (hiK t.certs k).round < r.round := by simpa using hc25
        refine gc_skip ?_
        refine gx_block_normal ?_
        refine gx_then ?_
        refine gc_region ?_
        refine gp zad ?_
        refine gp zmv ?_
        refine gl_nil ?_
        refine zrd ((k + 1, .int .i64 (hiK t.certs k).epoch :: .int .i64 (hiK t.certs k).round :: (dc (hiK t.certs k).block ++ [.slice avh nvh kvh]))) ?_ ?_
        · show t.certs.length - (k + 1) < t.certs.length - k
          omega
        · exact zlp (show k + 1 ≤ t.certs.length ∧ RdQC w (fun k => ¬ F k) _ (hiK t.certs (k + 1)) from ⟨by omega, by rw [hiK_succ hr, gtQ, if_neg hgt]; exact hrh⟩)
    · try simp only at hc18
      have hk' : k = t.certs.length := by omega
      subst hk'
      have hhq := hiK_all t.certs
      refine gc_exit ?_
      refine gx_then_exit ?_
      refine gx_round_exit ?_
      refine gx_block_hit ?_
      refine gx_then ?_
      refine gsr ?_
      refine gp zL ?_
      refine zc (fun x29 => ?_) (c := fun w1 F1 F2 h1 h2 hd hst => copiedQC_ok h1 (hrh.mv hst.still) (hok.sq _ (hiK_mem hok.ce _ (Nat.le_refl _))))
      refine gl_pureR (fun hx29 => ?_)
      obtain ⟨hl29, ho29⟩ := hx29
      replace hl29 : x29.length = 19 := hl29
      have i29 := Len.of hl29
      have j29 := One.of (show ∀ v ∈ x29, v.oneCell' = true from ho29)
      refine zsN ?_
      refine gnt ?_
      refine gc_ret ?_
      refine gx_retc rfl rfl (ld_aggS Ty.row_29 Ty.sz_29 (by repeat (first | exact Pick.here | apply Pick.there)) (by (simp only [List.drop_succ_cons, List.drop_zero, List.take_succ_cons, List.take_zero, List.cons_append, List.nil_append, List.append_assoc, drop_dc, drop_dc', take_dc, take_dc', drop_L, drop_L', take_L, take_L', len_L, Nat.reduceLeDiff, Nat.reduceSub, Nat.reduceAdd, Nat.le_refl, List.length_cons, List.length_append, List.length_nil, dc_length, List.drop_nil, List.take_nil, List.append_nil, List.length_map, List.length_replicate]; first | done | rfl)) (by first | rfl | (simp only [List.drop_succ_cons, List.drop_zero, List.take_succ_cons, List.take_zero, List.cons_append, List.nil_append, List.append_assoc, drop_dc, drop_dc', take_dc, take_dc', drop_L, drop_L', take_L, take_L', len_L, Nat.reduceLeDiff, Nat.reduceSub, Nat.reduceAdd, Nat.le_refl, List.length_cons, List.length_append, List.length_nil, dc_length, List.drop_nil, List.take_nil, List.append_nil, List.length_map, List.length_replicate]; first | done | omega))) ?_
      rw [hhq]
      exact fun w' hw => ⟨x29, rfl, St.pureI ⟨hl29, ho29⟩ (hw.sel (by repeat (first | exact Sel.nil | (apply Sel.cons; · (repeat (first | exact Pick.here | apply Pick.there))))))⟩

set_option maxHeartbeats 400000 in
theorem tup_ok {w : World} {F : Nat → Prop} {q : Nat} {d : Dig} (h : stars [] w F) :
    Calls Tryd.prog 37 #[.pointer (some ⟨q, 0, none⟩), .agg (dc d).toArray] w (Post w F (fun b : Nat × Nat => .func (.func 51) #[] #[.pointer (some ⟨b.1, 0, none⟩), .pointer (some ⟨b.2, 0, none⟩)]) (fun b => [blk b.1 24 [.pointer (some ⟨q, 0, none⟩)], blk b.2 26 (dc d)])) := by
  refine g_enter (env := [(0, .pointer (some ⟨q, 0, none⟩)), (1, .agg (dc d).toArray)]) Tryd.func37 rfl h Tryd.ntmps37 rfl rfl ?_
  refine gsr ?_
  refine zb1 fun b2 => ?_
  refine zbN fun b3 => ?_
  refine gp zas ?_
  refine gnt ?_
  refine gsr ?_
  refine gp zmf ?_
  refine gp zas ?_
  refine gnt ?_
  refine gc_ret ?_
  refine gx_ret1 rfl (by conv => lhs; whnf) ?_
  exact ze (b2, b3)

set_option maxHeartbeats 400000 in
theorem reverse_ok {w : World} {F : Nat → Prop} {a : Option Addr} {m c : Nat} {l : List Dig} (h : stars [rowR 26 16 a m c (l.map dc).flatten] w F) (hm : m = l.length) (hb : m ≤ 1099511627776) :
    Calls Tryd.prog 52 #[.slice a m c] w (Post w F (fun _ : Unit => .tuple #[]) (fun _ => [rowR 26 16 a m c (l.reverse.map dc).flatten])) := by
  subst hm
  refine g_enter (env := [(0, .slice a l.length c)]) Tryd.func52 rfl h Tryd.ntmps52 rfl rfl ?_
  refine gsr ?_
  refine gp zmv ?_
  refine gp zln ?_
  refine gp (r_int (j := (l.length : Int) - 1 - (0 : Nat)) zsb (by omega)) ?_
  refine gp zas ?_
  refine gp zas ?_
  refine gnt ?_
  refine gc_block ?_
  refine gc_conv (M := [rowR 26 16 a l.length c (l.map dc).flatten]) (N := [rowR 26 16 a l.length c ((revK l 0).map dc).flatten]) (by repeat (first | exact Sel.nil | (apply Sel.cons; · (repeat (first | exact Pick.here | apply Pick.there))))) (fun _ _ h => by rw [revK_zero]; exact h) ?_
  refine gc_loop (α := Nat) (fun k => [pureR (2 * k ≤ l.length), rowR 26 16 a l.length c ((revK l k).map dc).flatten]) (fun k => [(2, .int .i64 (k : Int)), (3, .int .i64 ((l.length : Int) - 1 - k))]) [7, 8, 9, 10, 11, 12, 13, 14, 15, 16, 17, 18, 19, 20, 21, 22, 23, 24, 25, 26, 27] (fun k => l.length - k) 0 ?_ ?_ ?_
  · refine env_start (by kernel_rfl)
  · exact zlp (by omega)
  · intro k u
    refine gc_pureR (fun hk => ?_)
    replace hk : 2 * k ≤ l.length := hk
    refine gc_seq ?_
    refine gsr ?_
    refine gp zmv ?_
    refine gp zmv ?_
    refine gp zlt ?_
    refine gnt ?_
    refine gif rfl (fun hc9 => ?_) (fun hc9 => ?_)
    · try simp only at hc9
      have hk' : 2 * k + 1 < l.length := by omega
      have hnn : ((l.length : Int) - 1 - k) = ((l.length - 1 - k : Nat) : Int) := by omega
      refine gc_fact (fun w' hw => St.rowAt hw .here (by omega)) (fun hra => ?_)
      obtain ⟨hmc, ga, oa, ha⟩ := hra
      subst ha
      have hd16 : ∀ c ∈ (revK l k).map dc, List.length c = 16 := fun c hc => by obtain ⟨x, _, rfl⟩ := List.mem_map.1 hc; exact dc_length x
      have hlr := revK_len l k
      refine gc_skip ?_
      refine gx_then ?_
      refine gc_seq ?_
      refine gc_block ?_
      refine gc_regionZ 15 [] ?_
      refine yps 0 rfl zmv ?_
      refine yps 1 rfl zmv ?_
      refine yps 2 rfl zmv ?_
      refine yps 3 rfl zmv ?_
      refine yps 4 rfl zmv ?_
      refine yps 5 rfl zmv ?_
      refine yps 6 rfl (r_val (v' := .pointer (some ⟨ga, oa + (l.length - 1 - k) * 16, none⟩)) (zia (h0 := by omega) (hm := by omega)) (by rw [hnn]; simp)) ?_
      refine yps 8 rfl zmv ?_
      refine yps 9 rfl zmv ?_
      refine yps 10 rfl (r_val (v' := .pointer (some ⟨ga, oa + k * 16, none⟩)) zia (by simp)) ?_
      refine yo2s 7 11 rfl rfl ?_ ?_
      · refine gp (r_ldRow (i := l.length - 1 - k) rfl Ty.row_26 Ty.sz_26 (by repeat (first | exact Pick.here | apply Pick.there)) hd16 (revK_at (by omega)) (by omega)) ?_
        refine yxs ?_
        refine yos 11 rfl ?_
        refine gp (r_ldRow (i := k) rfl Ty.row_26 Ty.sz_26 (by repeat (first | exact Pick.here | apply Pick.there)) hd16 (revK_at (by omega)) (by omega)) ?_
        refine yxs ?_
        refine yps 12 rfl (r_val (v' := .pointer (some ⟨ga, oa + k * 16, none⟩)) zia (by simp)) ?_
        refine yos 13 rfl ?_
        refine gl_stRow (i := k) (css := (revK l k).map dc) (new := dc (rvF l k (l.length - 1 - k))) (wt0 rfl) rfl rfl rfl Ty.sz_26 (dc_length _) (dc_one _) hd16 (by simp; omega) (by repeat (first | exact Pick.here | apply Pick.there)) ?_
        refine yxs ?_
        refine yps 14 rfl (r_val (v' := .pointer (some ⟨ga, oa + (l.length - 1 - k) * 16, none⟩)) (zia (h0 := by omega) (hm := by omega)) (by rw [hnn]; simp)) ?_
        refine yzs rfl ?_
        refine gl_stRow (i := l.length - 1 - k) (css := ((revK l k).map dc).set k (dc (rvF l k (l.length - 1 - k)))) (new := dc (rvF l k k)) (wt0 rfl) rfl rfl rfl Ty.sz_26 (dc_length _) (dc_one _) (fun c hc => (List.mem_or_eq_of_mem_set hc).elim (hd16 c) (fun h => by subst h; exact dc_length _)) (by simp; omega) (by repeat (first | exact Pick.here | apply Pick.there)) ?_
        refine gl_nil ?_
        refine gx_block_normal ?_
        refine gx_then ?_
        refine gc_region ?_
        refine gp zmv ?_
        refine gp (r_int (j := ((k + 1 : Nat) : Int)) zad (by omega)) ?_
        refine gp zmv ?_
        refine gp (r_int (j := (l.length : Int) - 1 - ((k + 1 : Nat) : Int)) zsb (by omega)) ?_
        refine gp zas ?_
        refine gp zas ?_
        refine gl_nil ?_
        refine zrd (k + 1) ?_ ?_
        · show l.length - (k + 1) < l.length - k
          omega
        · rw [revK_step hk']
          exact zlp (show 2 * (k + 1) ≤ l.length by omega)
      · refine gp (r_ldRow (i := k) rfl Ty.row_26 Ty.sz_26 (by repeat (first | exact Pick.here | apply Pick.there)) hd16 (revK_at (by omega)) (by omega)) ?_
        refine yxs ?_
        refine yos 7 rfl ?_
        refine gp (r_ldRow (i := l.length - 1 - k) rfl Ty.row_26 Ty.sz_26 (by repeat (first | exact Pick.here | apply Pick.there)) hd16 (revK_at (by omega)) (by omega)) ?_
        refine yxs ?_
        refine yps 12 rfl (r_val (v' := .pointer (some ⟨ga, oa + k * 16, none⟩)) zia (by simp)) ?_
        refine yos 13 rfl ?_
        refine gl_stRow (i := k) (css := (revK l k).map dc) (new := dc (rvF l k (l.length - 1 - k))) (wt0 rfl) rfl rfl rfl Ty.sz_26 (dc_length _) (dc_one _) hd16 (by simp; omega) (by repeat (first | exact Pick.here | apply Pick.there)) ?_
        refine yxs ?_
        refine yps 14 rfl (r_val (v' := .pointer (some ⟨ga, oa + (l.length - 1 - k) * 16, none⟩)) (zia (h0 := by omega) (hm := by omega)) (by rw [hnn]; simp)) ?_
        refine yzs rfl ?_
        refine gl_stRow (i := l.length - 1 - k) (css := ((revK l k).map dc).set k (dc (rvF l k (l.length - 1 - k)))) (new := dc (rvF l k k)) (wt0 rfl) rfl rfl rfl Ty.sz_26 (dc_length _) (dc_one _) (fun c hc => (List.mem_or_eq_of_mem_set hc).elim (hd16 c) (fun h => by subst h; exact dc_length _)) (by simp; omega) (by repeat (first | exact Pick.here | apply Pick.there)) ?_
        refine gl_nil ?_
        refine gx_block_normal ?_
        refine gx_then ?_
        refine gc_region ?_
        refine gp zmv ?_
        refine gp (r_int (j := ((k + 1 : Nat) : Int)) zad (by omega)) ?_
        refine gp zmv ?_
        refine gp (r_int (j := (l.length : Int) - 1 - ((k + 1 : Nat) : Int)) zsb (by omega)) ?_
        refine gp zas ?_
        refine gp zas ?_
        refine gl_nil ?_
        refine zrd (k + 1) ?_ ?_
        · show l.length - (k + 1) < l.length - k
          omega
        · rw [revK_step hk']
          exact zlp (show 2 * (k + 1) ≤ l.length by omega)
    · try simp only at hc9
      have hk2 : revK l k = l.reverse := revK_end (by omega) (by omega)
      rw [hk2]
      refine gc_exit ?_
      refine gx_then_exit ?_
      refine gx_round_exit ?_
      refine gx_block_hit ?_
      refine gx_ret0' rfl ?_
      exact ze ()

end Go.Proofs.YtobjojeliibinaaDoor

/- Walks, by program (wg.py) out of a spec. -/
namespace Go.Proofs.YtobjojeliibinaaDoor
open Go
set_option linter.unusedVariables false
set_option linter.unusedSimpArgs false

attribute [local irreducible] Gl Gc Gx Gs Runs Wt

attribute [local irreducible] dc qcC blkC

set_option maxHeartbeats 400000 in
theorem up1_ok {w : World} {F : Nat → Prop} {q : Nat} {t : Tr} (hx : RdTree w (fun k => ¬ F k) q t) (hok : TOk t) {d : Dig} {b1 b2 lp : Nat} {J : Nat → Res} {Jx : Res} (h : stars [blk b1 24 [.pointer (some ⟨q, 0, none⟩)], blk b2 26 (dc d), J 0] w F) (hy : RoundsAt Tryd.prog lp upE (upG t d) J Jx w F) :
    Calls Tryd.prog 51 #[.func (.yield lp) #[] #[], .pointer (some ⟨b1, 0, none⟩), .pointer (some ⟨b2, 0, none⟩)] w (Post w F (fun _ : Bool × Dig => .tuple #[]) (fun y => (match allOr (upL t d).length y.1 with | some m => J m | none => Jx) :: [blk b1 24 [.pointer (some ⟨q, 0, none⟩)], blk b2 26 (dc y.2)])) := by
  obtain ⟨g, ao, co, ac, cc, css, hT⟩ := hx
  obtain ⟨hqA, hrt, h16, h17, h18⟩ := hT.cells
  have hle := hok.le
  have hcl := hok.cl
  have hce := hok.ce
  obtain ⟨cp, hgk, hrp⟩ := hT.lookB d
  have icp := Len.of hrp.len
  have jcp := One.of hrp.one
  refine g_enter (env := [(0, .func (.yield lp) #[] #[]), (1, .pointer (some ⟨b1, 0, none⟩)), (2, .pointer (some ⟨b2, 0, none⟩))]) Tryd.func51 rfl h Tryd.ntmps51 rfl rfl ?_
  refine gc_seq ?_
  refine gc_regionZ 11 ([blk b1 24 [.pointer (some ⟨q, 0, none⟩)], blk b2 26 (dc d)]) ?_
  refine yps 0 rfl zl ?_
  refine yps 1 rfl znc ?_
  refine yps 2 rfl zfa ?_
  refine yps 3 rfl (r_ld1o rfl Ty.row_75 h16 hqA) ?_
  refine yps 4 rfl zL ?_
  refine yps 5 rfl (r_val (v' := .tuple #[.agg cp.toArray, .bool (lkN d t.nodes).isSome]) (r_looko (K := digV) (l := nodeV t.nodes css) (key := d) (z := .agg blkC.toArray) rfl rfl Ty.un_75 (by kernel_rfl) hT.mp) hgk) ?_
  refine yps 6 rfl zmv ?_
  refine yps 7 rfl zex ?_
  refine yps 8 rfl zex ?_
  refine yos 9 rfl ?_
  refine zal fun b4 => ?_
  refine gl_eqc (cs' := blkC) (by repeat (first | exact Pick.here | apply Pick.there)) (by kernel_rfl) ?_
  refine yxs ?_
  refine yos 10 rfl ?_
  refine zsA hrp.len hrp.one ?_
  refine yxs ?_
  refine yzs rfl ?_
  refine gp zas ?_
  refine gnt ?_
  refine gc_block ?_
  refine gc_loop (α := Nat × Dig × Nat × List Value) (fun y => [pureR (y.1 ≤ (upL t d).length ∧ (upL t d).drop y.1 = upL t y.2.1 ∧ RdBlock w (fun k => ¬ F k) y.2.2.2 (bOf t y.2.1)), blk b1 24 [.pointer (some ⟨q, 0, none⟩)], blk b2 26 (dc y.2.1), blk y.2.2.1 33 y.2.2.2, J y.1]) (fun y => [(4, .pointer (some ⟨y.2.2.1, 0, none⟩)), (5, .bool (lkN y.2.1 t.nodes).isSome)]) [15, 16, 17, 18, 19, 20, 21, 22, 23, 24, 25, 26, 27, 28, 29, 30, 31, 32, 33, 34, 35, 36, 37, 38, 39, 40] (fun y => (upL t d).length - y.1) (0, d, b4, cp) ?_ ?_ ?_
  · refine env_start (by kernel_rfl)
  · exact zlp ⟨Nat.zero_le _, rfl, hrp⟩
  · intro y u
    obtain ⟨k, e, b4, cq⟩ := y
    refine gc_pureR (fun hk => ?_)
    obtain ⟨hk, hdr, hrq⟩ := hk
    replace hk : k ≤ (upL t d).length := hk
    replace hdr : (upL t d).drop k = upL t e := hdr
    replace hrq : RdBlock w (fun k => ¬ F k) cq (bOf t e) := hrq
    refine gc_seq ?_
    refine gsr ?_
    refine gp zmv ?_
    refine gnt ?_
    refine gif rfl (fun hc15 => ?_) (fun hc15 => ?_)
    · try simp only at hc15
      obtain ⟨p, hp⟩ := Option.isSome_iff_exists.1 hc15
      have hup := upL_step hok hp
      have hbo : bOf t e = p := by rw [bOf, hp]; rfl
      rw [hbo] at hrq
      have hl39 := hrq.len
      have ho39 := hrq.one
      have hrr := rd_round hrq
      obtain ⟨qj, a1, n1, c1, a2, n2, c2, rfl, hj, _⟩ := hrq
      have ij := Len.of hj.len
      have jj := One.of hj.one
      have hkl : k < (upL t d).length := by rcases Nat.lt_or_ge k (upL t d).length with h | h; exact h; (rw [List.drop_eq_nil_of_le h, hup] at hdr; cases hdr)
      have hget : (upL t d)[k]? = some (e, p) := by rw [← List.head?_drop, hdr, hup]; rfl
      have hdr1 : (upL t d).drop (k + 1) = if e = t.root then [] else upL t p.parent := by rw [← List.tail_drop, hdr, hup]; rfl
      refine gc_skip ?_
      refine gx_then ?_
      refine gc_seq ?_
      refine gc_block ?_
      refine gc_seq ?_
      refine gc_seq ?_
      refine gc_regionH ([blk b1 24 [.pointer (some ⟨q, 0, none⟩)], blk b2 26 (dc e), blk b4 33 (.int .i64 p.epoch :: .int .i64 p.round :: (dc p.parent ++ (qj ++ [.slice a1 n1 c1, .slice a2 n2 c2])))]) ?_
      refine yp 0 rfl zmv ?_
      refine yp 1 rfl zL ?_
      refine yp 2 rfl zL ?_
      refine yo 3 rfl ?_
      refine gl_pI (p := upP t d k (e, .int .i64 p.epoch :: .int .i64 p.round :: (dc p.parent ++ (qj ++ [.slice a1 n1 c1, .slice a2 n2 c2])))) ⟨⟨hl39, ho39⟩, p, hget, hrr⟩ ?_
      refine gyd hy k (e, .int .i64 p.epoch :: .int .i64 p.round :: (dc p.parent ++ (qj ++ [.slice a1 n1 c1, .slice a2 n2 c2]))) rfl (by repeat (first | exact Sel.nil | (apply Sel.cons; · (repeat (first | exact Pick.here | apply Pick.there))))) (fun x28 => ?_)
      rcases x28 with _ | _
      · refine yx ?_
        refine yp 4 rfl znt ?_
        refine yp 5 rfl zmv ?_
        refine yn 6 rfl ?_
        refine yn 7 rfl ?_
        refine yn 8 rfl ?_
        refine yn 9 rfl ?_
        refine yn 10 rfl ?_
        refine yn 11 rfl ?_
        refine yp 12 rfl zpk ?_
        refine yd ?_
        refine gx_then ?_
        refine gc_condT rfl rfl ?_
        refine gc_ret ?_
        refine gx_then_ret ?_
        refine gx_block_ret ?_
        refine gx_then_ret ?_
        refine gx_round_ret ?_
        refine gx_block_ret ?_
        refine gx_ret0 rfl ?_
        exact ze (false, e)
      · refine yx ?_
        refine yp 4 rfl znt ?_
        refine yp 5 rfl zmv ?_
        refine yp 6 rfl zL ?_
        refine yp 7 rfl zl ?_
        refine yp 8 rfl znc ?_
        refine yp 9 rfl zfa ?_
        refine yp 10 rfl (r_ldNo rfl Ty.row_26 Ty.sz_26 hrt (dc_length _) (by decide) hqA) ?_
        refine yp 11 rfl zed ?_
        refine yp 12 rfl zpk ?_
        refine yd ?_
        refine gx_then ?_
        refine gif rfl (fun hc37 => ?_) (fun hc37 => ?_)
        · try simp only at hc37
          have hen : e = t.root := by simpa using hc37
          have hkm : k + 1 = (upL t d).length := by rw [if_pos hen] at hdr1; have := List.drop_eq_nil_iff.1 hdr1; omega
          refine gc_ret ?_
          refine gx_then_ret ?_
          refine gx_block_ret ?_
          refine gx_then_ret ?_
          refine gx_round_ret ?_
          refine gx_block_ret ?_
          refine gx_ret0 rfl ?_
          rw [hkm]
          exact ze (true, e)
        · try simp only at hc37
          have hne : ¬ e = t.root := by simpa using hc37
          refine gc_skip ?_
          refine gx_then ?_
          refine gc_region ?_
          refine gp zfa ?_
          refine gp (zL (sg := dc p.parent)) ?_
          refine zsN ?_
          refine gl_nil ?_
          refine gx_block_normal ?_
          refine gx_then ?_
          refine gc_seq ?_
          refine gsr ?_
          refine gp zL ?_
          refine gnt ?_
          refine gc_region ?_
          refine zal fun b6 => ?_
          refine gl_eqc (cs' := blkC) (by repeat (first | exact Pick.here | apply Pick.there)) (by kernel_rfl) ?_
          obtain ⟨cp, hgk, hrp⟩ := hT.lookB p.parent
          have icp := Len.of hrp.len
          have jcp := One.of hrp.one
          refine zsN ?_
          refine gnt ?_
          refine gc_regionZ 10 ([blk b1 24 [.pointer (some ⟨q, 0, none⟩)], blk b2 26 (dc p.parent)]) ?_
          refine yps 0 rfl zl ?_
          refine yps 1 rfl znc ?_
          refine yps 2 rfl zfa ?_
          refine yps 3 rfl (r_ld1o rfl Ty.row_75 h16 hqA) ?_
          refine yps 4 rfl zL ?_
          refine yps 5 rfl (r_val (v' := .tuple #[.agg cp.toArray, .bool (lkN p.parent t.nodes).isSome]) (r_looko (K := digV) (l := nodeV t.nodes css) (key := p.parent) (z := .agg blkC.toArray) rfl rfl Ty.un_75 (by kernel_rfl) hT.mp) hgk) ?_
          refine yps 6 rfl zmv ?_
          refine yps 7 rfl zex ?_
          refine yps 8 rfl zex ?_
          refine yos 9 rfl ?_
          refine zsA hrp.len hrp.one ?_
          refine yxs ?_
          refine yzs rfl ?_
          refine gp zas ?_
          refine gl_nil ?_
          refine zrd ((k + 1, p.parent, b6, cp)) ?_ ?_
          · show (upL t d).length - (k + 1) < (upL t d).length - k
            omega
          · exact zlp (show k + 1 ≤ (upL t d).length ∧ (upL t d).drop (k + 1) = upL t p.parent ∧ RdBlock w (fun k => ¬ F k) cp (bOf t p.parent) from ⟨by omega, by rw [hdr1, if_neg hne], hrp⟩)
    · try simp only at hc15
      have hnl : lkN e t.nodes = none := by simpa using hc15
      have hkl : k = (upL t d).length := by rw [upL_none hnl] at hdr; have := List.drop_eq_nil_iff.1 hdr; omega
      subst hkl
      refine gc_exit ?_
      refine gx_then_exit ?_
      refine gx_round_exit ?_
      refine gx_block_hit ?_
      refine gx_ret0' rfl ?_
      exact ze (true, e)


theorem up1_it {w : World} {F : Nat → Prop} {q : Nat} {t : Tr} (hx : RdTree w (fun k => ¬ F k) q t) (hok : TOk t) {d : Dig} {b1 b2 lp : Nat} {J : Nat → Res} {Jx : Res} (h : stars [blk b1 24 [.pointer (some ⟨q, 0, none⟩)], blk b2 26 (dc d), J 0] w F) :
    IterAt Tryd.prog 51 #[.pointer (some ⟨b1, 0, none⟩), .pointer (some ⟨b2, 0, none⟩)] upE (upG t d) (fun y : Bool × Dig => allOr (upL t d).length y.1) (fun y => [blk b1 24 [.pointer (some ⟨q, 0, none⟩)], blk b2 26 (dc y.2)]) (fun _ : Bool × Dig => .tuple #[]) lp J Jx w F := fun hy => by
  have h2 := up1_ok hx hok h hy
  exact h2

end Go.Proofs.YtobjojeliibinaaDoor

/- Walks, by program (wg.py) out of a spec. -/
namespace Go.Proofs.YtobjojeliibinaaDoor
open Go
set_option linter.unusedVariables false
set_option linter.unusedSimpArgs false


/-- A slice's variable, with what it holds. -/
def slV (b T e : Nat) (l : List Dig) : Res := exR fun x : Option Addr × Nat => allR [blk b T [.slice x.1 l.length x.2], rowR e 16 x.1 l.length x.2 (l.map dc).flatten]
section
variable {w0 w : World} {F F0 : Nat → Prop} {L L' : List Res} {Q : Exit → Act → World → Prop} {n : Fm} {env : Env} {ops : Array Oper} {rest : List Oper} {b T e : Nat} {l : List Dig}
theorem slV_open (h : stars (slV b T e l :: L) w F) : ∃ a c, stars (blk b T [.slice a l.length c] :: rowR e 16 a l.length c (l.map dc).flatten :: L) w F := by
  obtain ⟨⟨a, c⟩, h⟩ := stars_ex h; exact ⟨a, c, stars_all h⟩
theorem St.slV {a : Option Addr} {c m : Nat} {xs : List Value} (h : St w0 F0 (blk b T [.slice a m c] :: rowR e 16 a m c xs :: L) w) (hm : m = l.length) (hx : xs = (l.map dc).flatten) : St w0 F0 (slV b T e l :: L) w := by
  subst hm; subst hx
  exact h.mapL fun F hF => stars_ex_mk (a, c) (stars_all_mk hF)
theorem gc_slV {c : Code} (hp : Pick L (slV b T e l) L') (k : ∀ a m, Gc Tryd.prog w0 F0 (blk b T [.slice a l.length m] :: rowR e 16 a l.length m (l.map dc).flatten :: L') c Q n env) : Gc Tryd.prog w0 F0 L c Q n env := fun w hw => by
  obtain ⟨F, hF, hst⟩ := hw.pick hp
  obtain ⟨a, m, h⟩ := slV_open hF
  exact k a m w ⟨F, h, hst⟩
theorem gl_slV (hp : Pick L (slV b T e l) L') (k : ∀ a m, Gl Tryd.prog w0 F0 (blk b T [.slice a l.length m] :: rowR e 16 a l.length m (l.map dc).flatten :: L') ops Q rest n env) : Gl Tryd.prog w0 F0 L ops Q rest n env := fun w hw => by
  obtain ⟨F, hF, hst⟩ := hw.pick hp
  obtain ⟨a, m, h⟩ := slV_open hF
  exact k a m w ⟨F, h, hst⟩
end
def plK (t : Tr) (d : Dig) (i : Nat) : List Dig := (((upL t d).take i).map (fun p => p.1)).filter (fun i => decide (i ≠ t.root))
theorem plK_zero (t : Tr) (d : Dig) : plK t d 0 = [] := rfl
theorem plK_succ {t : Tr} {d e : Dig} {b : Block} {i : Nat} (h : (upL t d)[i]? = some (e, b)) : plK t d (i + 1) = if e = t.root then plK t d i else plK t d i ++ [e] := by
  unfold plK; rw [takeB_snoc h]; split <;> simp_all
theorem plK_all (t : Tr) (d : Dig) : (plK t d (upL t d).length).reverse = pathL t d := by unfold plK pathL; rw [List.take_length]
theorem plK_len (t : Tr) (d : Dig) (i : Nat) : (plK t d i).length ≤ t.nodes.length := by
  unfold plK
  have h1 := List.length_filter_le (fun i => decide (i ≠ t.root)) (((upL t d).take i).map (fun p => p.1))
  have h2 := upL_len t d
  simp only [List.length_map, List.length_take] at h1
  omega
theorem pathL_none {t : Tr} {d : Dig} (h : lkN d t.nodes = none) : pathL t d = [] := by unfold pathL; rw [upL_none h]; rfl
def lastK (t : Tr) (d : Dig) (i : Nat) : Dig := match i with
  | 0 => dig0
  | i + 1 => (((upL t d)[i]?).map (fun p => p.1)).getD dig0
theorem lastK_zero (t : Tr) (d : Dig) : lastK t d 0 = dig0 := rfl
theorem lastK_at {t : Tr} {d e : Dig} {b : Block} {i : Nat} (h : (upL t d)[i]? = some (e, b)) : lastK t d (i + 1) = e := by show (((upL t d)[i]?).map (fun p => p.1)).getD dig0 = e; rw [h]; rfl
def okR (t : Tr) (q : QC) (i : Nat) : Prop := ∀ j x, j < i → (upL t q.block)[j]? = some x → x.2.round = q.round - j
theorem okR_succ {t : Tr} {q : QC} {i : Nat} {x : Dig × Block} (h : okR t q i) (hx : (upL t q.block)[i]? = some x) (e : x.2.round = q.round - i) : okR t q (i + 1) := fun j y hj hy => by
  by_cases hji : j < i
  · exact h j y hji hy
  · obtain rfl : j = i := by omega
    rw [hx] at hy; cases hy; exact e
theorem ripe_short {t : Tr} {q : QC} {p : Block} (hp : lkN q.block t.nodes = some p) (h : (upL t q.block).length < 3) : ripeL t q = [] := by
  unfold ripeL; rw [hp]; simp only; split
  · generalize upL t q.block = u at h
    match u with
    | [] => rfl
    | [_] => rfl
    | [_, _] => rfl
    | _ :: _ :: _ :: _ => simp at h; omega
  · rfl
theorem ripe_bad {t : Tr} {q : QC} {p : Block} {i : Nat} {x : Dig × Block} (hp : lkN q.block t.nodes = some p) (hi : i < 3) (hx : (upL t q.block)[i]? = some x) (e : ¬ x.2.round = q.round - i) : ripeL t q = [] := by
  unfold ripeL; rw [hp]; simp only; split
  · generalize upL t q.block = u at hx
    match u with
    | [] => rfl
    | [_] => rfl
    | [_, _] => rfl
    | x0 :: x1 :: x2 :: _ =>
      simp only
      rw [if_neg]
      rintro ⟨e0, e1, e2, _⟩
      match i with
      | 0 => simp at hx; subst hx; exact e (by simpa using e0)
      | 1 => simp at hx; subst hx; exact e (by simpa using e1)
      | 2 => simp at hx; subst hx; exact e (by simpa using e2)
      | i + 3 => omega
  · rfl
theorem ripe_three {t : Tr} {q : QC} {p : Block} {z : Dig × Block} (hp : lkN q.block t.nodes = some p) (hf : fitsQ q q.block p = true) (h : okR t q 3) (hz : (upL t q.block)[2]? = some z) : ripeL t q = if z.1 = t.root then [] else pathL t z.1 := by
  unfold okR at h
  unfold ripeL; rw [hp]; simp only; rw [if_pos hf]
  generalize upL t q.block = u at h hz
  match u with
  | [] => simp at hz
  | [_] => simp at hz
  | [_, _] => simp at hz
  | x0 :: x1 :: x2 :: _ =>
    have e0 := h 0 x0 (by omega) rfl
    have e1 := h 1 x1 (by omega) rfl
    have e2 := h 2 x2 (by omega) rfl
    simp at hz; subst hz
    simp only
    split
    · rename_i hh; rw [if_neg hh.2.2.2]
    · rename_i hh
      rw [if_pos (Classical.byContradiction fun hn => hh ⟨by simpa using e0, by simpa using e1, by simpa using e2, hn⟩)]
theorem ripe_none {t : Tr} {q : QC} (h : (lkN q.block t.nodes).isSome = false) : ripeL t q = [] := by
  have : lkN q.block t.nodes = none := by simpa using h
  unfold ripeL; rw [this]
theorem ripe_unfit {t : Tr} {q : QC} {p : Block} (hp : lkN q.block t.nodes = some p) (hf : ¬ fitsQ q q.block p = true) : ripeL t q = [] := by
  unfold ripeL; rw [hp]; simp only; rw [if_neg hf]


theorem stars_slV0 {b T e : Nat} {L : List Res} {w : World} {F : Nat → Prop} (h : stars (blk b T [.slice none 0 0] :: L) w F) : stars (slV b T e [] :: L) w F := by
  have h2 := stars_swap (stars_row_nil (e := e) (size := 16) h)
  exact stars_ex_mk (none, 0) (stars_all_mk h2)

attribute [local irreducible] Gl Gc Gx Gs Runs Wt

attribute [local irreducible] dc qcC blkC

set_option maxHeartbeats 400000 in
theorem tpath_ok {w : World} {F : Nat → Prop} {q : Nat} {t : Tr} (hx : RdTree w (fun k => ¬ F k) q t) (hok : TOk t) {d : Dig} (h : stars [] w F) :
    Calls Tryd.prog 38 #[.pointer (some ⟨q, 0, none⟩), .agg (dc d).toArray] w (Post w F (fun r : Option Addr × Nat => .tuple #[.slice r.1 (pathL t d).length r.2, .bool (lkN d t.nodes).isSome]) (fun r => [rowR 26 16 r.1 (pathL t d).length r.2 ((pathL t d).map dc).flatten])) := by
  obtain ⟨g, ao, co, ac, cc, css, hT⟩ := hx
  obtain ⟨hqA, hrt, h16, h17, h18⟩ := hT.cells
  have hle := hok.le
  have hcl := hok.cl
  have hce := hok.ce
  obtain ⟨cp, hgk, hrp⟩ := hT.lookB d
  have icp := Len.of hrp.len
  have jcp := One.of hrp.one
  refine g_enterM (env := [(0, .pointer (some ⟨q, 0, none⟩)), (1, .agg (dc d).toArray)]) Tryd.func38 rfl h Tryd.ntmps38 rfl rfl ?_
  refine gsr ?_
  refine zb1 fun b2 => ?_
  refine zbN fun b3 => ?_
  refine gp zas ?_
  refine gp zas ?_
  refine gnt ?_
  refine gc_seq ?_
  refine gc_seq ?_
  refine gc_regionZ 11 ([blk b2 24 [.pointer (some ⟨q, 0, none⟩)], blk b3 26 (dc d)]) ?_
  refine yps 0 rfl zl ?_
  refine yps 1 rfl znc ?_
  refine yps 2 rfl zfa ?_
  refine yps 3 rfl (r_ld1o rfl Ty.row_75 h16 hqA) ?_
  refine yps 4 rfl zL ?_
  refine yps 5 rfl (r_val (v' := .tuple #[.agg cp.toArray, .bool (lkN d t.nodes).isSome]) (r_looko (K := digV) (l := nodeV t.nodes css) (key := d) (z := .agg blkC.toArray) rfl rfl Ty.un_75 (by kernel_rfl) hT.mp) hgk) ?_
  refine yps 6 rfl zmv ?_
  refine yps 7 rfl zex ?_
  refine yps 8 rfl zex ?_
  refine yos 9 rfl ?_
  refine zal fun b6 => ?_
  refine gl_eqc (cs' := blkC) (by repeat (first | exact Pick.here | apply Pick.there)) (by kernel_rfl) ?_
  refine yxs ?_
  refine yos 10 rfl ?_
  refine zsA hrp.len hrp.one ?_
  refine yxs ?_
  refine yzs rfl ?_
  refine gp zas ?_
  refine gnt ?_
  refine gsr ?_
  refine gp zmv ?_
  refine gp znt ?_
  refine gnt ?_
  refine gif rfl (fun hc20 => ?_) (fun hc20 => ?_)
  · try simp only at hc20
    have hnl : lkN d t.nodes = none := by simpa using hc20
    have hpl := pathL_none hnl
    refine gsr ?_
    refine gp zas ?_
    refine gp zas ?_
    refine gnt ?_
    refine gc_ret ?_
    refine gx_then_ret ?_
    refine gx_mark0 ?_
    refine gx_ret2 rfl (by conv => lhs; whnf) (by conv => lhs; whnf) ?_
    exact fun w' hw => ⟨(none, 0), by rw [hpl, hnl]; rfl, by rw [hpl]; exact hw.rowNil.sel (by repeat (first | exact Sel.nil | (apply Sel.cons; · (repeat (first | exact Pick.here | apply Pick.there)))))⟩
  · try simp only at hc20
    have hsm : (lkN d t.nodes).isSome = true := by simpa using hc20
    refine gc_skip ?_
    refine gx_then ?_
    refine gsr ?_
    refine zal fun b8 => ?_
    refine gnt ?_
    refine gc_seq ?_
    refine gsr ?_
    refine gp zl ?_
    refine gp zL ?_
    refine zc ?_ (c := fun w1 F1 F2 h1 h2 hd hst => tup_ok (d := d) h1)
    rintro ⟨bx, by_⟩
    refine gnt ?_
    refine gc_block ?_
    have hT' : ∀ {w1 : World} {A1 : Nat → Prop}, Still w (fun k => ¬ F k) w1 A1 → RdTree w1 A1 q t := fun hs => ⟨g, ao, co, ac, cc, css, hT.mv hs⟩
    refine gc_conv (M := [blk b8 37 [.slice none 0 0]]) (N := [slV b8 37 26 (plK t d 0)]) (by repeat (first | exact Sel.nil | (apply Sel.cons; · (repeat (first | exact Pick.here | apply Pick.there))))) (fun w' F' h' => stars_slV0 h') ?_
    refine gc_range (own := [blk bx 24 [.pointer (some ⟨q, 0, none⟩)], blk by_ 26 (dc d)]) (fun i => [slV b8 37 26 (plK t d i), blk b2 24 [.pointer (some ⟨q, 0, none⟩)]]) (fun _ _ => [pureR False]) (by exact rfl) Ty.call_51 (by repeat (first | exact Sel.nil | (apply Sel.cons; · (repeat (first | exact Pick.here | apply Pick.there))))) (by intros; rfl) (fun lp J Jx w1 F1 F2 h1 h2 hd hst => up1_it (hT' (hst.still)) hok h1) ?_ ?_ ?_
    · intro lp rc rc' i x w1 F1 F2 h1 h2 hd hst
      try dsimp only [List.cons_append, List.nil_append, zipE]
      have hT := hT.mv hst.still
      obtain ⟨hqA, hrt, h16, h17, h18⟩ := hT.cells
      obtain ⟨e, cq⟩ := x
      refine gc_pure1 (p := upP t d i (e, cq)) (by repeat (first | exact Pick.here | apply Pick.there)) (fun hi => ?_)
      obtain ⟨⟨hl39, ho39⟩, pb, hget, hrr⟩ := hi
      replace hl39 : cq.length = 39 := hl39
      have i39 := Len.of hl39
      have j39 := One.of (show ∀ v ∈ cq, v.oneCell' = true from ho39)
      refine gc_slV (by repeat (first | exact Pick.here | apply Pick.there)) (fun a m => ?_)
      have hpll := plK_len t d i
      refine gc_region ?_
      refine zal fun b9 => ?_
      refine zsN ?_
      refine gl_nil ?_
      refine gx_lp (by repeat (first | exact Pick.here | apply Pick.there)) ?_
      refine gx_begin ?_
      refine gc_block ?_
      refine gc_seq ?_
      refine gc_regionS (by kernel_rfl) (by kernel_rfl) ?_
      refine sp zL ?_
      refine sp zl ?_
      refine sp znc ?_
      refine sp zfa ?_
      refine sp (r_ldNo rfl Ty.row_26 Ty.sz_26 hrt (dc_length _) (by decide) hqA) ?_
      refine sp znd ?_
      refine gs_nil ?_
      refine gx_then ?_
      refine gif rfl (fun hc31 => ?_) (fun hc31 => ?_)
      · refine gc_region ?_
        refine gp zl ?_
        refine gp zL ?_
        refine zeN fun b34 => ?_
        refine zapo (fun a35 c35 => ?_)
        refine zs1 ?_
        refine gl_nil ?_
        refine gx_block_normal ?_
        refine gx_rdn ?_
        intro w' hw
        have he : plK t d (i + 1) = plK t d i ++ [e] := by rw [plK_succ hget, if_neg (by simpa using hc31)]
        have h1 := St.slV (b := b8) (l := plK t d (i + 1)) (hw.sel (M := [blk b8 37 [.slice a35 ((plK t d i).length + 1) c35], rowR 26 16 a35 ((plK t d i).length + 1) c35 (((plK t d i).map dc).flatten ++ dc e), lpR lp rc', blk b2 24 [.pointer (some ⟨q, 0, none⟩)]]) (by repeat (first | exact Sel.nil | (apply Sel.cons; · (repeat (first | exact Pick.here | apply Pick.there)))))) (by rw [he]; simp) (by rw [he]; simp)
        exact h1.sel (by repeat (first | exact Sel.nil | (apply Sel.cons; · (repeat (first | exact Pick.here | apply Pick.there)))))
      · refine gc_skip ?_
        refine gx_block_normal ?_
        refine gx_rdn ?_
        intro w' hw
        have he : plK t d (i + 1) = plK t d i := by rw [plK_succ hget, if_pos (by simpa using hc31)]
        have h1 := St.slV (b := b8) (l := plK t d (i + 1)) (hw.sel (M := [blk b8 37 [.slice a (plK t d i).length m], rowR 26 16 a (plK t d i).length m ((plK t d i).map dc).flatten, lpR lp rc', blk b2 24 [.pointer (some ⟨q, 0, none⟩)]]) (by repeat (first | exact Sel.nil | (apply Sel.cons; · (repeat (first | exact Pick.here | apply Pick.there)))))) (by rw [he]) (by rw [he])
        exact h1.sel (by repeat (first | exact Sel.nil | (apply Sel.cons; · (repeat (first | exact Pick.here | apply Pick.there)))))
    · intro bU6 y m hy
      try dsimp only [List.cons_append, List.nil_append]
      obtain ⟨yb, yd⟩ := y
      obtain rfl : m = (upL t d).length := by cases yb <;> simp_all [allOr]
      refine gx_block_normal ?_
      refine gx_thenM ?_
      refine gsr ?_
      refine gl_slV (by repeat (first | exact Pick.here | apply Pick.there)) (fun a m => ?_)
      have hpll := plK_len t d (upL t d).length
      refine gp zl ?_
      refine zc (fun _ => ?_) (c := fun w1 F1 F2 h1 h2 hd hst => reverse_ok (l := plK t d (upL t d).length) h1 rfl (by omega))
      rw [plK_all]
      refine gnt ?_
      refine gsr ?_
      refine gp zl ?_
      refine gp zas ?_
      refine gp zas ?_
      refine gnt ?_
      refine gc_ret ?_
      refine gx_mark (by repeat (first | exact Pick.here | apply Pick.there)) ?_
      refine gx_mark0 ?_
      refine gx_ret2 rfl (by conv => lhs; whnf) (by conv => lhs; whnf) ?_
      have hpe : (plK t d (upL t d).length).length = (pathL t d).length := by rw [← plK_all, List.length_reverse]
      rw [hpe]
      exact fun w' hw => ⟨(a, m), by rw [hsm], hw.sel (by repeat (first | exact Sel.nil | (apply Sel.cons; · (repeat (first | exact Pick.here | apply Pick.there)))))⟩
    · exact fun _ _ _ _ _ => gc_noway

end Go.Proofs.YtobjojeliibinaaDoor

