/- Part 7. What is proved: see the last part: for every input the law returns true, and the input reads as it did. -/
import Derived.Test.YtheonhgffglegaaGreatDoorCfr6
import Derived.Test.YtheonhgffglegaaGreatDoorCards
import Derived.Test.YtheonhgffglegaaGreatDoorTie
import Derived.Deep.DeepHandedRow
import Derived.Deep.DeepWitnessRowRef
namespace Go.Proofs.YtheonhgffglegaaGreatDoor
open Go
set_option linter.unusedVariables false
set_option linter.unusedSimpArgs false
set_option linter.unusedSectionVars false
section
attribute [local irreducible] idOf gid
def chainB (p : Dig) : List Block → Prop
  | [] => True
  | b :: l => b.parent = p ∧ chainB (idOf b) l
def lastD (p : Dig) : List Block → Dig
  | [] => p
  | b :: l => lastD (idOf b) l
theorem lastD_app : ∀ (p : Dig) (l m : List Block), lastD p (l ++ m) = lastD (lastD p l) m
  | _, [], _ => rfl
  | _, b :: l, m => lastD_app (idOf b) l m
theorem chainB_app : ∀ (p : Dig) (l m : List Block), chainB p (l ++ m) ↔ chainB p l ∧ chainB (lastD p l) m
  | p, [], m => by simp [chainB, lastD]
  | p, b :: l, m => by
    have ih := chainB_app (idOf b) l m
    simp only [List.cons_append, chainB, lastD, ih, and_assoc]
theorem chainB_take {p : Dig} {l : List Block} (n : Nat) (h : chainB p l) : chainB p (l.take n) := by
  have := (List.take_append_drop n l).symm
  rw [this] at h
  exact ((chainB_app p _ _).1 h).1
theorem chainB_drop {p : Dig} {l : List Block} {j : Nat} {b : Block} (h : chainB p l) (hb : l[j]? = some b) : chainB b.parent (l.drop j) := by
  have hlt := (List.getElem?_eq_some_iff.1 hb).1
  have := (List.take_append_drop j l).symm
  rw [this] at h
  have h2 := ((chainB_app p _ _).1 h).2
  have hd : l.drop j = b :: l.drop (j + 1) := by rw [List.drop_eq_getElem_cons hlt, (List.getElem?_eq_some_iff.1 hb).2]
  rw [hd] at h2 ⊢
  exact ⟨rfl, h2.2⟩
theorem chainB_at : ∀ {p : Dig} {l : List Block} {i : Nat} {b : Block}, chainB p l → l[i]? = some b → b.parent = lastD p (l.take i)
  | p, c :: l, 0, b, h, hb => by simp at hb; subst hb; exact h.1
  | p, c :: l, i + 1, b, h, hb => by
    simp only [List.getElem?_cons_succ] at hb
    exact chainB_at (p := idOf c) (l := l) h.2 hb
theorem lastD_snoc {p : Dig} {l : List Block} {i : Nat} {b : Block} (h : l[i]? = some b) : lastD p (l.take (i + 1)) = idOf b := by rw [takeB_snoc h, lastD_app]; rfl
theorem chain_le {es : List Bool} : ∀ k, chainB gid (leL es k) ∧ lastD gid (leL es k) = leI es k
  | 0 => ⟨trivial, leI_zero.symm⟩
  | k + 1 => by
    have ih := chain_le (es := es) k
    rw [leL_succ]
    refine ⟨(chainB_app _ _ _).2 ⟨ih.1, by rw [ih.2]; exact ⟨leB_parent k, trivial⟩⟩, ?_⟩
    rw [lastD_app]; rfl
section
variable {b0 : Block} {ps ss : List Int} {i : Nat}
theorem TrI.node {h : TrI b0 ps ss i} {j : Nat} {d : Dig} {b : Block} (hn : (trT b0 ps ss i).nodes[j]? = some (d, b)) : d = idOf b ∧ b ∈ trB b0 ps ss i := by
  rw [h.nd, List.getElem?_map, Option.map_eq_some_iff] at hn
  obtain ⟨x, hx, e⟩ := hn
  cases e
  exact ⟨rfl, List.mem_of_getElem? hx⟩
theorem TrI.bof {h : TrI b0 ps ss i} {d : Dig} {b : Block} (hl : lkN d (trT b0 ps ss i).nodes = some b) : bOf (trT b0 ps ss i) d = b ∧ idOf b = d ∧ b ∈ trB b0 ps ss i := by
  obtain ⟨j, hj⟩ := lkN_some hl
  have := TrI.node (h := h) hj
  exact ⟨by rw [bOf, hl]; rfl, this.1.symm, this.2⟩
theorem path_chain (h : TrI b0 ps ss i) : ∀ (j : Nat) (d : Dig) (b : Block), (trT b0 ps ss i).nodes[j]? = some (d, b) →
    chainB (idOf b0) ((pathL (trT b0 ps ss i) d).map (bOf (trT b0 ps ss i))) ∧ lastD (idOf b0) ((pathL (trT b0 ps ss i) d).map (bOf (trT b0 ps ss i))) = d ∧ ∀ e ∈ pathL (trT b0 ps ss i) d, ∃ x, lkN e (trT b0 ps ss i).nodes = some x := fun j => by
  induction j using Nat.strongRecOn with
  | ind j ih =>
    intro d b hj
    have hl : lkN d (trT b0 ps ss i).nodes = some b := node_lk h.ok hj
    have hu := upL_step h.ok hl
    by_cases hd : d = (trT b0 ps ss i).root
    · have hp : pathL (trT b0 ps ss i) d = [] := by unfold pathL; rw [hu, if_pos hd]; simp [hd]
      rw [hp]
      exact ⟨trivial, by rw [hd, h.rt]; rfl, by simp⟩
    · match j, ih, hj with
      | 0, _, hj =>
        obtain ⟨b', r, hr⟩ := h.ok.hd
        rw [hr] at hj
        simp at hj
        exact absurd hj.1.symm hd
      | j + 1, ih, hj =>
        obtain ⟨k, p, hk, hkp⟩ := h.ok.par j d b hj
        obtain ⟨h1, h2, h3⟩ := ih k (by omega) b.parent p hkp
        have hp : pathL (trT b0 ps ss i) d = pathL (trT b0 ps ss i) b.parent ++ [d] := by
          unfold pathL
          rw [hu, if_neg hd, List.map_cons, List.filter_cons, if_pos (by simp [hd]), List.reverse_cons]
        have hb := TrI.bof (h := h) hl
        rw [hp, List.map_append]
        refine ⟨(chainB_app _ _ _).2 ⟨h1, ?_⟩, ?_, fun e he => ?_⟩
        · rw [h2, List.map_cons, hb.1]; exact ⟨rfl, trivial⟩
        · rw [lastD_app, List.map_cons, hb.1]; exact hb.2.1
        · rcases List.mem_append.1 he with he | he
          · exact h3 e he
          · simp at he; subst he; exact ⟨b, hl⟩
theorem bestK_in (t : Tr) (hd : ∃ b r, t.nodes = (t.root, b) :: r) : ∀ k, k ≤ t.nodes.length → ∃ (j : Nat) (b : Block), t.nodes[j]? = some ((bestK t k).1, b)
  | 0, _ => by obtain ⟨b, r, e⟩ := hd; exact ⟨0, b, by rw [e]; rfl⟩
  | k + 1, hk => by
    obtain ⟨p, hp⟩ : ∃ p, t.nodes[k]? = some p := ⟨t.nodes[k], List.getElem?_eq_getElem (by omega)⟩
    rw [bestK_succ hp]
    split
    · exact ⟨k, p.2, hp⟩
    · exact bestK_in t hd k (by omega)
end
theorem ShOk.chain {es : List Bool} {ps ss : List Int} (h : ShOk es ps ss) : chainB gid (lineL (leL es es.length) (trT (leB es es.length) ps ss ps.length)) ∧ ∀ b ∈ lineL (leL es es.length) (trT (leB es es.length) ps ss ps.length), (wBlock b ⟨0, []⟩).err = 0 := by
  have ht := h.tri
  have ha := h.a
  have hb := h.b
  have hc := chain_le (es := es) es.length
  obtain ⟨j, b, hj⟩ := bestK_in _ ht.ok.hd _ (Nat.le_refl _)
  have hp := path_chain ht j _ b hj
  rw [← lineL_def]
  refine ⟨(chainB_app _ _ _).2 ⟨hc.1, by rw [hc.2]; exact hp.1⟩, fun x hx => ?_⟩
  rcases List.mem_append.1 hx with hx | hx
  · simp only [leL, List.mem_map, List.mem_range] at hx
    obtain ⟨k, hk, rfl⟩ := hx
    exact leB_err (by omega)
  · obtain ⟨e, he, rfl⟩ := List.mem_map.1 hx
    obtain ⟨y, hy⟩ := hp.2.2 e he
    have hby := TrI.bof (h := ht) hy
    rw [hby.1]
    have hm := hby.2.2
    rw [trB_cons] at hm
    have h0 := leB_round (es := es) es.length
    rcases List.mem_cons.1 hm with hm | hm
    · rw [hm]; exact leB_err (by omega)
    · simp only [trL, List.mem_map, List.mem_range] at hm
      obtain ⟨k, hk, rfl⟩ := hm
      have hk2 : TrI (leB es es.length) ps ss k := tri_all (leB_epoch _) (leB_sm _) (by omega) (by omega) (by omega) (fun j hj => h.d j (by omega))
      exact hk2.err (by omega) (by omega) (by omega)
theorem cutB_pre : ∀ (n : Nat) (l : List Block), cutB n l = l.take (cutB n l).length
  | _, [] => rfl
  | n, b :: l => by
    have ih := cutB_pre (n + 1) l
    unfold cutB
    split
    · rfl
    · rw [List.length_cons, List.take_succ_cons, ← ih]
theorem cutB_last : ∀ (n : Nat) (l : List Block) (i : Nat) (b : Block), (cutB n l)[i]? = some b → i + 1 < (cutB n l).length → ¬ stopB (n + i) b
  | _, [], i, b, h, _ => by simp [cutB] at h
  | n, c :: l, i, b, h, hi => by
    unfold cutB at h hi
    split at h
    · rename_i hs; rw [if_pos hs] at hi; simp at hi
    · rename_i hs
      rw [if_neg hs] at hi
      cases i with
      | zero => simp at h; subst h; exact hs
      | succ i =>
        have := cutB_last (n + 1) l i b (by simpa using h) (by simpa using hi)
        rwa [show n + (i + 1) = n + 1 + i by omega]
theorem cutB_len : ∀ (n : Nat) (l : List Block), n < 8 → (cutB n l).length + n ≤ 8
  | n, [], h => by simp [cutB]; omega
  | n, b :: l, h => by
    unfold cutB
    split
    · simp; omega
    · rename_i hs
      have hn : ¬ n + 1 = 8 := fun e => hs (.inr e)
      have ih := cutB_len (n + 1) l (by omega)
      simp; omega
theorem behL_at (l : List Block) (d : Dig) : behL l d = [] ∧ (∀ b ∈ l, b.parent ≠ d) ∨ ∃ j r, l[j]? = some r ∧ r.parent = d ∧ behL l d = cutB 0 (l.drop j) ∧ 0 < (behL l d).length := by
  rcases idxB_cases d l with ⟨h, hn⟩ | ⟨j, r, h, hr, hp, _⟩
  · exact .inl ⟨behL_none h, hn⟩
  · refine .inr ⟨j, r, hr, hp, behL_some h, ?_⟩
    have hlt := (List.getElem?_eq_some_iff.1 hr).1
    have hd : l.drop j = r :: l.drop (j + 1) := by rw [List.drop_eq_getElem_cons hlt, (List.getElem?_eq_some_iff.1 hr).2]
    rw [behL_some h, hd]; unfold cutB; simp
theorem behL_len (l : List Block) (d : Dig) : (behL l d).length ≤ 8 := by
  rcases behL_at l d with ⟨h, _⟩ | ⟨j, r, _, _, h, _⟩
  · rw [h]; simp
  · rw [h]; exact cutB_len 0 _ (by decide)
theorem behL_chain {p : Dig} {l : List Block} {d : Dig} (h : chainB p l) : chainB d (behL l d) := by
  rcases behL_at l d with ⟨hb, _⟩ | ⟨j, r, hr, hp, hb, _⟩
  · rw [hb]; trivial
  · rw [hb, cutB_pre, ← hp]; exact chainB_take _ (chainB_drop h hr)
theorem behL_last (l : List Block) (d : Dig) (i : Nat) (b : Block) (h : (behL l d)[i]? = some b) (hi : i + 1 < (behL l d).length) : b.next.length = 0 := by
  rcases behL_at l d with ⟨hb, _⟩ | ⟨j, r, hr, hp, hb, _⟩
  · rw [hb] at h; simp at h
  · rw [hb] at h hi
    have := cutB_last 0 _ i b h hi
    exact Nat.eq_zero_of_not_pos fun h' => this (.inl h')
theorem behL_sub {l : List Block} {d : Dig} {b : Block} (h : b ∈ behL l d) : b ∈ l := by
  rcases behL_at l d with ⟨hb, _⟩ | ⟨j, r, hr, hp, hb, _⟩
  · rw [hb] at h; simp at h
  · rw [hb, cutB_pre] at h; exact List.mem_of_mem_drop (List.mem_of_mem_take h)
theorem uMod_small {a : Int} {m : Nat} (h0 : 0 ≤ a) (h1 : a < m) (hm : m < 4294967296) : uMod a m = a.toNat := by
  unfold uMod
  rw [wrap_u64 h0 (by omega), Int.tmod_eq_emod_of_nonneg h0, Int.emod_eq_of_lt h0 h1]
theorem line_pos {es : List Bool} {ps ss : List Int} {k : Nat} (hk : k < es.length) : 0 < (behL (lineL (leL es es.length) (trT (leB es es.length) ps ss ps.length)) (leI es k)).length := by
  rcases behL_at (lineL (leL es es.length) (trT (leB es es.length) ps ss ps.length)) (leI es k) with ⟨_, hn⟩ | ⟨_, _, _, _, _, h⟩
  · refine absurd (leB_parent k) (hn (leB es (k + 1)) ?_)
    rw [← lineL_def]
    exact List.mem_append.2 (.inl (List.mem_of_getElem? (leL_at hk)))
  · exact h
end
section
section
variable {P : Program} {w0 : World} {F0 : Nat → Prop} {L : List Res} {n : Fm} {env : Env}
end
theorem lastD_zero (p : Dig) (l : List Block) : lastD p (l.take 0) = p := by rw [List.take_zero]; rfl
attribute [local irreducible] Gl Gc Gx Gs Runs Wt
attribute [local irreducible] rowR blk VlR ElR dc qcC blkC ModR TreeR LedR gid idOf lineL behL leRs leI leB leL trT idsB lastD
set_option maxHeartbeats 2000000 in
theorem fetchRows_ok {w : World} {F : Nat → Prop} {ae ap aS : Option Addr} {ne ce np kp nS kS : Nat} {es : List Bool} {ps ss : List Int} {at_ : Int} {ea : Nat → Addr} {er : List Nat} [Has er 1] [Has er 2] [Has er 3] [Has er 4] [Has er 6] [Has er 8] [Has er 9] [Has er 12] [Has er 14] [Has er 16] [Has er 17] (hE : GErr er w (fun k => ¬ F k) 251 ea) (hK : KR w (fun k => ¬ F k)) (h : stars [] w F) (hes : RdRow w (fun k => ¬ F k) 1 ae ne (es.map Value.bool)) (hps : RdRow w (fun k => ¬ F k) 1 ap np (ps.map (Value.int .i64))) (hss : RdRow w (fun k => ¬ F k) 1 aS nS (ss.map (Value.int .i64))) :
    Calls Tryz.prog 4 #[.agg (List.toArray [.slice ae ne ce, .slice ap np kp, .slice aS nS kS]), .int .i64 at_] w (Post w F (fun _ : Unit => .bool true) (fun _ => [])) := by
 obtain rfl : ne = es.length := by have := hes.1; simp at this; omega
 obtain rfl : np = ps.length := by have := hps.1; simp at this; omega
 obtain rfl : nS = ss.length := by have := hss.1; simp at this; omega
 refine g_enter (env := [(0, .agg (List.toArray [.slice ae es.length ce, .slice ap ps.length kp, .slice aS ss.length kS])), (1, .int .i64 at_)]) Tryz.func4 rfl h Tryz.ntmps4 rfl rfl ?_; refine gsr ?_; refine zbN fun b2 => ?_; refine zxa ?_; refine gnt ?_; refine gc_seq ?_; refine gsr ?_; refine zc (fun _ => ?_) (c := fun w1 F1 F2 h1 h2 hd hst => alive19_ok (hE.mv hst.still) (hK.mv hst.still) h1)
 refine gp znt ?_; refine gnt ?_; refine gc_condF rfl rfl ?_; refine gc_skip ?_; refine gx_then ?_; refine gsr ?_; refine gp (zLa (cs := [.slice ae es.length ce, .slice ap ps.length kp, .slice aS ss.length kS])) ?_; refine zc ?_ (c := fun w1 F1 F2 h1 h2 hd hst => build_ok (es := es) (ps := ps) (ss := ss) h1 (hE.mv hst.still) (hK.mv hst.still) (hes.mv hst.still) (hps.mv hst.still) (hss.mv hst.still))
 rintro ⟨r8, cs8, x8⟩
 rcases r8 with _ | _
 ·rw [built_F]; refine gl_pureR (fun hb => ?_)
  obtain ⟨hno, hl21, ho21⟩ := hb; refine zxm ?_; refine gp zex ?_; refine gp zex ?_; refine zal fun b5 => ?_; refine zsA hl21 ho21 ?_; refine zxa ?_; refine gnt ?_; refine gc_seq ?_; refine gsr ?_; refine zxm ?_; refine gp znt ?_; refine gnt ?_; refine gc_condT rfl rfl ?_; refine gsr ?_; refine zxa ?_; refine gnt ?_; refine gc_ret ?_; refine gx_then_ret ?_; refine gx_ret1 rfl (by conv => lhs; whnf) ?_; exact ze ()
 ·rw [built_T]; refine gl_pureR (fun hb => ?_)
  obtain ⟨hsh, rfl, hc1, hc2, hr0⟩ := hb; obtain ⟨xq8, xg8, xt8, xm8, xla8, xlc8, xia8, xic8, xcs8, xd8, xc8⟩ := x8; have hsa := hsh.a
  have hsb := hsh.b
  obtain ⟨hch, herr⟩ := hsh.chain; refine zxm ?_; refine gp zex ?_; refine gp zex ?_; refine zal fun b5 => ?_; refine zsA (bxC_len _ _ _) (bxC_one _ _ _) ?_; refine zxa ?_; refine gnt ?_; refine gc_seq ?_; refine gsr ?_; refine zxm ?_; refine gp znt ?_; refine gnt ?_; refine gc_condF rfl rfl ?_; refine gc_skip ?_; refine gx_then ?_; refine gc_seq ?_; obtain ⟨hum, hum2⟩ := uMod_eq at_ (m := es.length + 1 + ps.length) (by omega); obtain ⟨di, hdi⟩ : ∃ di, (idsB es ps ss ps.length)[uMod at_ (es.length + 1 + ps.length)]? = some di := ⟨(idsB es ps ss ps.length)[uMod at_ (es.length + 1 + ps.length)]'(by rw [idsB_len]; omega), List.getElem?_eq_getElem _⟩; refine gc_fact (fun w' hw => St.rowAt (hw.sel (M := [rowR 27 16 xia8 (es.length + 1 + ps.length) xic8 ((idsB es ps ss ps.length).map dc).flatten]) (by repeat (first | exact Sel.nil | (apply Sel.cons; · (repeat (first | exact Pick.here | apply Pick.there)))))) .here (by omega)) (fun hra => ?_)
  obtain ⟨_, gi, oi, ha⟩ := hra; subst ha; have hd16 : ∀ c ∈ (idsB es ps ss ps.length).map dc, List.length c = 16 := fun c hc => by obtain ⟨x, _, rfl⟩ := List.mem_map.1 hc; exact dc_length x
  refine gc_regionZ 13 ([blk b5 35 (bxC ⟨xq8, xg8, xt8, xm8, xla8, xlc8, some ⟨gi, oi, none⟩, xic8, xcs8, xd8, xc8⟩ es.length ps.length), rowR 27 16 (some ⟨gi, oi, none⟩) (es.length + 1 + ps.length) xic8 ((idsB es ps ss ps.length).map dc).flatten]) ?_; refine yps 0 rfl zfa ?_; refine yps 1 rfl zl ?_; refine yps 2 rfl zmv ?_; refine yps 3 rfl zci ?_; refine yps 4 rfl zfa ?_; refine yps 5 rfl zl ?_; refine yps 6 rfl zln ?_; refine yps 7 rfl (r_int (j := ((es.length + 1 + ps.length : Nat) : Int)) zci (wrap_u64 (by omega) (by omega))) ?_; refine yps 8 rfl (r_int (j := ((uMod at_ (es.length + 1 + ps.length) : Nat) : Int)) zrm hum) ?_; refine yps 9 rfl (r_int (j := ((uMod at_ (es.length + 1 + ps.length) : Nat) : Int)) zci (wrap_i64 (by omega) (by omega))) ?_; refine yps 10 rfl (r_val (v' := .pointer (some ⟨gi, oi + uMod at_ (es.length + 1 + ps.length) * 16, none⟩)) zia (by rw [Int.toNat_natCast])) ?_; refine yps 11 rfl (r_ldRow (i := uMod at_ (es.length + 1 + ps.length)) (g := gi) (o := oi) rfl Ty.row_27 Ty.sz_27 (by repeat (first | exact Pick.here | apply Pick.there)) hd16 (by rw [List.getElem?_map, hdi]; rfl) hum2) ?_
  refine yos 12 rfl ?_; refine zal fun b7 => ?_; refine yxs ?_; refine yzs rfl ?_; refine zsA (dc_length _) (dc_one _) ?_; refine gnt ?_; refine gc_seq ?_; refine gc_conv (M := [LdR xq8 xg8 200 0 (leRs es es.length)]) (N := [exR fun d : DS => allR [pureR (LdOk d 200 0 (leRs es es.length)), LedR xq8 xg8 (lsOf 0 (leRs es es.length)), DiskR xg8 d]]) (by repeat (first | exact Sel.nil | (apply Sel.cons; · (repeat (first | exact Pick.here | apply Pick.there))))) (fun _ _ h => h) ?_; refine gc_exR (fun d0 => ?_)
  refine gc_conv (M := [allR [pureR (LdOk d0 200 0 (leRs es es.length)), LedR xq8 xg8 (lsOf 0 (leRs es es.length)), DiskR xg8 d0]]) (N := [pureR (LdOk d0 200 0 (leRs es es.length)), LedR xq8 xg8 (lsOf 0 (leRs es es.length)), DiskR xg8 d0]) (by repeat (first | exact Sel.nil | (apply Sel.cons; · (repeat (first | exact Pick.here | apply Pick.there))))) (fun _ _ => ld_all) ?_; refine gc_pureR (fun hd0 => ?_)
  refine gc_region ?_; refine gp zfa ?_; refine gp zl ?_; refine gp zfa ?_; refine gp zl ?_; refine gp zL ?_; refine zc ?_ (c := fun w1 F1 F2 h1 h2 hd hst => behind_ok (l := lsOf 0 (leRs es es.length)) (d := di) h1 (tr_rd h2 hd (by repeat (first | exact Pick.here | apply Pick.there))) hsh.tri.ok (leRs_ok (by omega)) (by show (leRs es es.length).length < _; rw [leRs_len]; omega) (hE.mv hst.still))
  rintro ⟨⟨a38, c38⟩, cx⟩
  refine gl_pureR (fun hcx => ?_)
  replace hcx : ∀ c ∈ cx, List.length c = 39 := hcx
  rw [show (lsOf 0 (leRs es es.length)).rs.map (fun r : LRec => r.b) = leL es es.length from leRs_b _]; refine gl_fact (fun w' hw => (St.el (rd := RdBlock) (hw.sel (M := [ElR RdBlock cx (behL (lineL (leL es es.length) (trT (leB es es.length) ps ss ps.length)) di)]) (by repeat (first | exact Sel.nil | (apply Sel.cons; · (repeat (first | exact Pick.here | apply Pick.there)))))) .here)) (fun hel => ?_)
  obtain ⟨hcl, hel⟩ := hel; have hl8 := behL_len (lineL (leL es es.length) (trT (leB es es.length) ps ss ps.length)) di
  have hbc : chainB di (behL (lineL (leL es es.length) (trT (leB es es.length) ps ss ps.length)) di) := behL_chain hch
  refine zxa ?_; refine gnt ?_; refine gc_seq ?_; refine gsr ?_; refine zxm ?_; refine gp zln ?_; refine zxm ?_; refine gnt ?_; refine gc_block ?_; refine gc_loop (α := Nat) (fun k => [pureR (k ≤ (behL (lineL (leL es es.length) (trT (leB es es.length) ps ss ps.length)) di).length), blk b7 27 (dc (lastD di ((behL (lineL (leL es es.length) (trT (leB es es.length) ps ss ps.length)) di).take k))), rowR 51 39 a38 (behL (lineL (leL es es.length) (trT (leB es es.length) ps ss ps.length)) di).length c38 cx.flatten, ElR RdBlock cx (behL (lineL (leL es es.length) (trT (leB es es.length) ps ss ps.length)) di), blk b2 25 [.slice ae es.length ce, .slice ap ps.length kp, .slice aS ss.length kS]]) (fun k => [(41, .int .i64 (k : Int))]) [4, 9, 10, 11, 42, 43, 44, 45, 46, 47, 48, 49, 50, 51, 52, 53, 54, 55, 56, 57, 58, 59, 60, 61, 62, 63, 64, 65, 66, 67, 68, 69, 70] (fun k => (behL (lineL (leL es es.length) (trT (leB es es.length) ps ss ps.length)) di).length - k) 0 ?_ ?_ ?_
  ·refine env_start (by kernel_rfl)
  ·simp only [lastD_zero]
   exact zlp (p := 0 ≤ (behL (lineL (leL es es.length) (trT (leB es es.length) ps ss ps.length)) di).length) (Nat.zero_le _)
  ·intro k u; refine gc_pureR (fun hk => ?_)
   replace hk : k ≤ (behL (lineL (leL es es.length) (trT (leB es es.length) ps ss ps.length)) di).length := hk
   refine gsr ?_; refine gp zlt ?_; refine gnt ?_; refine gc_seq ?_; refine gif rfl (fun hc42 => ?_) (fun hc42 => ?_)
   ·try simp only at hc42
    have hk' : k < (behL (lineL (leL es es.length) (trT (leB es es.length) ps ss ps.length)) di).length := by omega
    obtain ⟨bx, hbx⟩ : ∃ bx, (behL (lineL (leL es es.length) (trT (leB es es.length) ps ss ps.length)) di)[k]? = some bx := ⟨(behL (lineL (leL es es.length) (trT (leB es es.length) ps ss ps.length)) di)[k]'hk', List.getElem?_eq_getElem hk'⟩; obtain ⟨cp, hcp⟩ : ∃ cp, cx[k]? = some cp := ⟨cx[k]'(by rw [hcl]; exact hk'), List.getElem?_eq_getElem _⟩; obtain ⟨wp, Ap, hrp⟩ := hel _ _ _ hcp hbx; have hbr := hrp
    obtain ⟨qj, xa1, xn1, xc1, xa2, xn2, xc2, rfl, hqj, _, _, _, hxn⟩ := hrp; have hxl := hxn.len (by decide)
    have iqj := Len.of hqj.len
    have jqj := One.of hqj.one
    refine gc_fact (fun w' hw => St.rowAt (hw.sel (M := [rowR 51 39 a38 (behL (lineL (leL es es.length) (trT (leB es es.length) ps ss ps.length)) di).length c38 cx.flatten]) (by repeat (first | exact Sel.nil | (apply Sel.cons; · (repeat (first | exact Pick.here | apply Pick.there)))))) .here (by omega)) (fun hra => ?_)
    obtain ⟨_, gl, ol, hal⟩ := hra; subst hal; have hpar := chainB_at hbc hbx
    have hbe := herr bx (behL_sub (List.mem_of_getElem? hbx))
    refine gc_skip ?_; refine gx_then ?_; refine gc_seq ?_; refine gc_block ?_; refine gsr ?_; refine zxm ?_; refine gp (r_val (v' := .pointer (some ⟨gl, ol + k * 39, none⟩)) zia (by simp)) ?_; refine gp (r_ldRow (i := k) (g := gl) (o := ol) rfl Ty.row_51 Ty.sz_51 (by repeat (first | exact Pick.here | apply Pick.there)) hcx hcp hk') ?_; refine zal fun b10 => ?_; refine gl_eqc (cs' := blkC) (by repeat (first | exact Pick.here | apply Pick.there)) (by kernel_rfl) ?_; refine zxa ?_; refine zsA (by simp [dc_length, hqj.len]) (all_cons' rfl (all_cons' rfl (all_app' (dc_one _) (all_app' hqj.one (all_cons' rfl (all_cons' rfl all_nil')))))) ?_; refine gnt ?_; refine gc_seq ?_; refine gc_seq ?_; by_cases hN : 0 < bx.next.length
    ·have hlast : (behL (lineL (leL es es.length) (trT (leB es es.length) ps ss ps.length)) di).length ≤ k + 1 := Nat.le_of_not_lt fun h' => by have := behL_last (lineL (leL es es.length) (trT (leB es es.length) ps ss ps.length)) di k bx hbx h'; omega
     refine gc_region ?_; refine gp zfa ?_; refine gp zL ?_; refine gp zL ?_; refine gp (r_bool (c := false) znd (by simp [hpar])) ?_; refine zxm ?_; refine gq zfa ?_; refine gq zl ?_; refine gq zln ?_; refine gq (r_bool (c := true) zgt (decide_eq_true (by omega))) ?_; refine gq zmv ?_; refine gq zmv ?_; refine gq zmv ?_; refine gq zln ?_; refine gq zsb ?_; refine gq (r_bool (c := false) zlt (decide_eq_false (by omega))) ?_; refine gq zpk ?_; refine gp zpk ?_; refine gnt ?_; refine gc_condF rfl rfl ?_; refine gc_skip ?_; refine gx_then ?_; refine gsr ?_; refine zxa ?_; refine zxs ?_; refine gp (zLa (cs := (.int .i64 bx.epoch :: .int .i64 bx.round :: (dc bx.parent ++ (qj ++ [.slice xa1 xn1 xc1, .slice xa2 xn2 xc2]))))) ?_; refine zc (fun _ => ?_) (c := fun w1 F1 F2 h1 h2 hd hst => id_ok (x := bx) h1 (hE.mv hst.still) (hK.mv hst.still) (el_rd (rd := RdBlock) h2 hd (by repeat (first | exact Pick.here | apply Pick.there)) hcp hbx))
     rw [hbe]; refine zxm ?_; refine gp zex ?_; refine gp zex ?_; refine zsN ?_; refine zxa ?_; refine zxs ?_; refine zxm ?_; refine gp (r_bool (c := false) (r_nenil rfl (by kernel_rfl)) rfl) ?_; refine gnt ?_; refine gc_condF rfl rfl ?_; refine gc_skip ?_; refine gx_block_normal ?_; refine gx_then ?_; refine gc_region ?_; refine gp zad ?_; refine zxm ?_; refine gl_nil ?_; refine zrd (k + 1) ?_ ?_
     ·show (behL (lineL (leL es es.length) (trT (leB es es.length) ps ss ps.length)) di).length - (k + 1) < (behL (lineL (leL es es.length) (trT (leB es es.length) ps ss ps.length)) di).length - k
      omega
     ·rw [← lastD_snoc (p := di) hbx]; exact zlp (p := k + 1 ≤ (behL (lineL (leL es es.length) (trT (leB es es.length) ps ss ps.length)) di).length) (by omega)
    ·refine gc_region ?_; refine gp zfa ?_; refine gp zL ?_; refine gp zL ?_; refine gp (r_bool (c := false) znd (by simp [hpar])) ?_; refine zxm ?_; refine gq zfa ?_; refine gq zl ?_; refine gq zln ?_; refine gq (r_bool (c := false) zgt (decide_eq_false (by omega))) ?_; refine gq zmv ?_; refine gn ?_; refine gn ?_; refine gn ?_; refine gn ?_; refine gn ?_; refine gq zpk ?_; refine gp zpk ?_; refine gnt ?_; refine gc_condF rfl rfl ?_; refine gc_skip ?_; refine gx_then ?_; refine gsr ?_; refine zxa ?_; refine zxs ?_; refine gp (zLa (cs := (.int .i64 bx.epoch :: .int .i64 bx.round :: (dc bx.parent ++ (qj ++ [.slice xa1 xn1 xc1, .slice xa2 xn2 xc2]))))) ?_; refine zc (fun _ => ?_) (c := fun w1 F1 F2 h1 h2 hd hst => id_ok (x := bx) h1 (hE.mv hst.still) (hK.mv hst.still) (el_rd (rd := RdBlock) h2 hd (by repeat (first | exact Pick.here | apply Pick.there)) hcp hbx))
     rw [hbe]; refine zxm ?_; refine gp zex ?_; refine gp zex ?_; refine zsN ?_; refine zxa ?_; refine zxs ?_; refine zxm ?_; refine gp (r_bool (c := false) (r_nenil rfl (by kernel_rfl)) rfl) ?_; refine gnt ?_; refine gc_condF rfl rfl ?_; refine gc_skip ?_; refine gx_block_normal ?_; refine gx_then ?_; refine gc_region ?_; refine gp zad ?_; refine zxm ?_; refine gl_nil ?_; refine zrd (k + 1) ?_ ?_
     ·show (behL (lineL (leL es es.length) (trT (leB es es.length) ps ss ps.length)) di).length - (k + 1) < (behL (lineL (leL es es.length) (trT (leB es es.length) ps ss ps.length)) di).length - k
      omega
     ·rw [← lastD_snoc (p := di) hbx]; exact zlp (p := k + 1 ≤ (behL (lineL (leL es es.length) (trT (leB es es.length) ps ss ps.length)) di).length) (by omega)
   ·refine gc_exit ?_; refine gx_then_exit ?_; refine gx_round_exit ?_; refine gx_block_hit ?_; refine gx_then ?_; refine gc_seq ?_; by_cases hA : at_ < 0
    ·refine gc_region ?_; refine zxm ?_; refine gp zln ?_; refine gp (r_bool (c := true) zle (decide_eq_true (by omega))) ?_; refine zxm ?_; refine gq zmv ?_; refine gq (r_bool (c := true) zlt (decide_eq_true hA)) ?_; refine gq zmv ?_; refine gn ?_; refine gn ?_; refine gn ?_; refine gn ?_; refine gn ?_; refine gq zpk ?_; refine gq zmv ?_; refine gn ?_; refine gn ?_; refine gn ?_; refine gq zpk ?_; refine gp zpk ?_; refine zxa ?_; refine gnt ?_; refine gc_ret ?_; refine gx_ret1 rfl (by conv => lhs; whnf) ?_; exact ze ()
    ·by_cases hB : (es.length : Int) ≤ at_
     ·refine gc_region ?_; refine zxm ?_; refine gp zln ?_; refine gp (r_bool (c := true) zle (decide_eq_true (by omega))) ?_; refine zxm ?_; refine gq zmv ?_; refine gq (r_bool (c := false) zlt (decide_eq_false hA)) ?_; refine gq zmv ?_; refine gq zmv ?_; refine gq zfa ?_; refine gq zl ?_; refine gq zln ?_; refine gq (r_bool (c := true) zge (decide_eq_true hB)) ?_; refine gq zpk ?_; refine gq zmv ?_; refine gn ?_; refine gn ?_; refine gn ?_; refine gq zpk ?_; refine gp zpk ?_; refine zxa ?_; refine gnt ?_; refine gc_ret ?_; refine gx_ret1 rfl (by conv => lhs; whnf) ?_; exact ze ()
     ·have hus : uMod at_ (es.length + 1 + ps.length) = at_.toNat := uMod_small (by omega) (by omega) (by omega)
      have hdl : di = leI es at_.toNat := by rw [hus, idsB_at (by omega)] at hdi; exact (Option.some.inj hdi).symm
      have hpos : 0 < (behL (lineL (leL es es.length) (trT (leB es es.length) ps ss ps.length)) di).length := by rw [hdl]; exact line_pos (by omega)
      refine gc_region ?_; refine zxm ?_; refine gp zln ?_; refine gp (r_bool (c := true) zle (decide_eq_true (by omega))) ?_; refine zxm ?_; refine gq zmv ?_; refine gq (r_bool (c := false) zlt (decide_eq_false hA)) ?_; refine gq zmv ?_; refine gq zmv ?_; refine gq zfa ?_; refine gq zl ?_; refine gq zln ?_; refine gq (r_bool (c := false) zge (decide_eq_false hB)) ?_; refine gq zpk ?_; refine gq zmv ?_; refine gq zmv ?_; refine gq zln ?_; refine gq (r_bool (c := true) zgt (decide_eq_true (by omega))) ?_; refine gq zpk ?_; refine gp zpk ?_; refine zxa ?_; refine gnt ?_; refine gc_ret ?_; refine gx_ret1 rfl (by conv => lhs; whnf) ?_; exact ze ()
end
section
open Go.ChangeShapes Go.WideShapes Go.ChangeAt Go.RowKit
noncomputable def fetchRows_world (os : Os) : World :=
  let w0 := World.holding Tryz.prog os ⟨#[.cells #[.string ⟨#[113, 117, 111, 114, 97, 116, 101, 58, 32, 114, 97, 110, 103, 101]⟩] 269, .cells #[.string ⟨#[113, 117, 111, 114, 97, 116, 101, 58, 32, 115, 104, 111, 114, 116]⟩] 269, .cells #[.string ⟨#[113, 117, 111, 114, 97, 116, 101, 58, 32, 108, 111, 110, 103]⟩] 269, .cells #[.string ⟨#[113, 117, 111, 114, 97, 116, 101, 58, 32, 102, 111, 114, 109]⟩] 269, .cells #[.string ⟨#[113, 117, 111, 114, 97, 116, 101, 58, 32, 112, 111, 119, 101, 114]⟩] 269, .cells #[.string ⟨#[113, 117, 111, 114, 97, 116, 101, 58, 32, 102, 117, 108, 108]⟩] 269, .cells #[.string ⟨#[113, 117, 111, 114, 97, 116, 101, 58, 32, 110, 111, 110, 101]⟩] 269, .cells #[.string ⟨#[113, 117, 111, 114, 97, 116, 101, 58, 32, 112, 114, 111, 111, 102]⟩] 269, .cells #[.string ⟨#[113, 117, 111, 114, 97, 116, 101, 58, 32, 114, 111, 117, 110, 100]⟩] 269, .cells #[.string ⟨#[113, 117, 111, 114, 97, 116, 101, 58, 32, 112, 97, 114, 101, 110, 116]⟩] 269, .cells #[.string ⟨#[113, 117, 111, 114, 97, 116, 101, 58, 32, 116, 119, 105, 99, 101]⟩] 269], #[], []⟩
  { w0 with heap := (((((((((((w0.heap.modify 0 fun
      | .cells _ t fz => .cells #[.iface 251 (.pointer (some ⟨lowB + 0, 0, none⟩))] t fz
      | o => o).modify 11 fun
      | .cells _ t fz => .cells #[.iface 251 (.pointer (some ⟨lowB + 1, 0, none⟩))] t fz
      | o => o).modify 10 fun
      | .cells _ t fz => .cells #[.iface 251 (.pointer (some ⟨lowB + 2, 0, none⟩))] t fz
      | o => o).modify 1 fun
      | .cells _ t fz => .cells #[.iface 251 (.pointer (some ⟨lowB + 3, 0, none⟩))] t fz
      | o => o).modify 8 fun
      | .cells _ t fz => .cells #[.iface 251 (.pointer (some ⟨lowB + 4, 0, none⟩))] t fz
      | o => o).modify 2 fun
      | .cells _ t fz => .cells #[.iface 251 (.pointer (some ⟨lowB + 5, 0, none⟩))] t fz
      | o => o).modify 7 fun
      | .cells _ t fz => .cells #[.iface 251 (.pointer (some ⟨lowB + 6, 0, none⟩))] t fz
      | o => o).modify 3 fun
      | .cells _ t fz => .cells #[.iface 251 (.pointer (some ⟨lowB + 7, 0, none⟩))] t fz
      | o => o).modify 6 fun
      | .cells _ t fz => .cells #[.iface 251 (.pointer (some ⟨lowB + 8, 0, none⟩))] t fz
      | o => o).modify 5 fun
      | .cells _ t fz => .cells #[.iface 251 (.pointer (some ⟨lowB + 9, 0, none⟩))] t fz
      | o => o).modify 4 fun
      | .cells _ t fz => .cells #[.iface 251 (.pointer (some ⟨lowB + 10, 0, none⟩))] t fz
      | o => o).modify 9 fun
      | .cells _ t fz => .cells (kc.map W32).toArray t fz
      | o => o }
def fetchRows_args : Array Value := #[.agg #[.slice none 0 0, .slice none 0 0, .slice none 0 0], .int .i64 0]
theorem fetchRows_laid (os : Os) (args : Array Value) : laidMet Tryz.prog Rows.fetchRowsRow.laid ((fetchRows_world os).forCall (fun _ _ => 0) ⟨#[], args, []⟩).memory :=
  laidMet_of_run' 8 (by kernel_rfl) (by kernel_rfl)
theorem fetchRows_reads (os : Os) {H : Type} (enc : TypeId × Value → H) : ∃ places, DataW.whole enc Tryz.prog ((fetchRows_world os).forCall (fun _ _ => 0) ⟨#[], fetchRows_args, []⟩).memory Tryz.f4.params.toList Rows.fetchRowsSpec.vars false fetchRows_args.toList 8 = some ([.agg [.nil, .nil, .nil], .lit (.int .i64 0)], [], places) :=
  ⟨[], by kernel_rfl⟩
set_option maxRecDepth 20000 in
theorem fetchRows_contract (H : Type) (enc : TypeId × Value → H) (W : World) (base : Nat) (args : Array Value) (ds gs : List (DataW H)) (before : List MemPlace)
    (hval : ∀ (j : Nat) t v, Tryz.f4.params[j]? = some t → args[j]? = some v → Value.okWide Tryz.prog W .any base t v)
    (hW : DataW.Whole enc Tryz.prog Tryz.f4.params.toList Rows.fetchRowsSpec.vars false W args.toList ds gs before) (hL : laidMetH Tryz.prog Rows.fetchRowsRow.laid W) :
    Calls Tryz.prog 4 args W fun e W' => ∃ v, e = .returned v ∧ Rows.fetchRowsSpec.post enc Tryz.prog Tryz.f4 false true false false W args v W' := by
  have hW' := hW
  have hlt : ∀ p ∈ before, p.block < W.heap.size := fun p hp => hW.lt p hp
  obtain ⟨p, q, hA0, hV, rfl, hfz, hnd⟩ := hW
  have hA : DataW.TrodAll enc Tryz.prog W 0 (fun _ => true) true Tryz.f4.params.toList args.toList ds p := hA0
  rw [Tryz.params4] at hA hval
  obtain ⟨v0, vs0, d0, ds0, p0, q0, hargs, rfl, rfl, h0, r0⟩ := trodAll_cons hA
  obtain ⟨v1, vs1, d1, ds1, p1, q1, rfl, rfl, rfl, h1, r1⟩ := trodAll_cons r0
  obtain ⟨rfl, rfl, rfl⟩ := trodAll_nil r1
  obtain rfl : args = #[v0, v1] := by cases args; simp_all
  obtain ⟨rfl, rfl⟩ := trodVars_none hV
  obtain ⟨x0, hx0⟩ : ∃ x, RdShp19 W TT v0.cells.toList x := by obtain ⟨fuel, hf⟩ := h0; exact o_shp19 fuel _ _ hf
  have e0 := agg_of_len (n := 3) (by obtain ⟨_, _, _, _, _, _, _, _, _, hce, _⟩ := hx0; rw [hce]; rfl) (by decide)
  obtain ⟨sa0, sn0, sc0, sb0, sm0, sd0, se0, so0, sf0, hce0, hs0_0, hs0_1, hs0_2⟩ := hx0
  rw [hce0] at e0
  obtain ⟨n1, rfl, _, _, wf1⟩ := open_int Ty.un_3 (hval 1 3 v1 rfl rfl) h1
  have hL' : laidMet Tryz.prog Rows.fetchRowsRow.laid W := hL
  obtain ⟨a_1, s_1, c_1, _, _⟩ := laid_err (g := 0) hL' (by kernel_rfl) (by kernel_rfl)
  obtain ⟨a_2, s_2, c_2, _, _⟩ := laid_err (g := 11) hL'.tail (by kernel_rfl) (by kernel_rfl)
  obtain ⟨a_3, s_3, c_3, _, _⟩ := laid_err (g := 10) hL'.tail.tail (by kernel_rfl) (by kernel_rfl)
  obtain ⟨a_4, s_4, c_4, _, _⟩ := laid_err (g := 1) hL'.tail.tail.tail (by kernel_rfl) (by kernel_rfl)
  obtain ⟨a_6, s_6, c_6, _, _⟩ := laid_err (g := 8) hL'.tail.tail.tail.tail (by kernel_rfl) (by kernel_rfl)
  obtain ⟨a_8, s_8, c_8, _, _⟩ := laid_err (g := 2) hL'.tail.tail.tail.tail.tail (by kernel_rfl) (by kernel_rfl)
  obtain ⟨a_9, s_9, c_9, _, _⟩ := laid_err (g := 7) hL'.tail.tail.tail.tail.tail.tail (by kernel_rfl) (by kernel_rfl)
  obtain ⟨a_12, s_12, c_12, _, _⟩ := laid_err (g := 3) hL'.tail.tail.tail.tail.tail.tail.tail (by kernel_rfl) (by kernel_rfl)
  obtain ⟨a_14, s_14, c_14, _, _⟩ := laid_err (g := 6) hL'.tail.tail.tail.tail.tail.tail.tail.tail (by kernel_rfl) (by kernel_rfl)
  obtain ⟨a_16, s_16, c_16, _, _⟩ := laid_err (g := 5) hL'.tail.tail.tail.tail.tail.tail.tail.tail.tail (by kernel_rfl) (by kernel_rfl)
  obtain ⟨a_17, s_17, c_17, _, _⟩ := laid_err (g := 4) hL'.tail.tail.tail.tail.tail.tail.tail.tail.tail.tail (by kernel_rfl) (by kernel_rfl)
  have hK := laid_kr hL'.tail.tail.tail.tail.tail.tail.tail.tail.tail.tail.tail
  have hE : GErr [1, 2, 3, 4, 6, 8, 9, 12, 14, 16, 17] W (fun k => ¬ (fun _ : Nat => False) k) 251 (fun i => if i = 1 then a_1 else if i = 2 then a_2 else if i = 3 then a_3 else if i = 4 then a_4 else if i = 6 then a_6 else if i = 8 then a_8 else if i = 9 then a_9 else if i = 12 then a_12 else if i = 14 then a_14 else if i = 16 then a_16 else a_17) := by
    refine ⟨fun i hi => ?_, fun i _ => id⟩
    simp only [List.mem_cons, List.not_mem_nil, or_false] at hi
    rcases hi with rfl | rfl | rfl | rfl | rfl | rfl | rfl | rfl | rfl | rfl | rfl
    · unfold eV; exact c_1
    · unfold eV; exact c_2
    · unfold eV; exact c_3
    · unfold eV; exact c_4
    · unfold eV; exact c_6
    · unfold eV; exact c_8
    · unfold eV; exact c_9
    · unfold eV; exact c_12
    · unfold eV; exact c_14
    · unfold eV; exact c_16
    · unfold eV; exact c_17
  have walk := fetchRows_ok (ce := sc0) (kp := sd0) (kS := sf0) (at_ := n1) hE hK no_res (hs0_0.mv still_id) (hs0_1.mv still_id) (hs0_2.mv still_id)
  rw [← e0] at walk
  refine Calls.mono (show Calls Tryz.prog 4 #[v0, .int .i64 n1] W _ from walk) fun e W' ⟨_, he, hs⟩ => ?_
  subst he
  have bel := below_of hs
  have eF : Rows.fetchRowsSpec.fn H ([d0, d1] ++ []) = { results := [.lit (.bool true)], args := [d0, d1] } := rfl
  have l0 : ∀ z ∈ p0, z.block < W.heap.size := fun z hz => hlt z (by simp [hz])
  have l1 : ∀ z ∈ p1, z.block < W.heap.size := fun z hz => hlt z (by simp [hz])
  refine ⟨_, rfl, _, _, _, [], p0 ++ (p1 ++ ([])), [], hW', ?_, ?_, ?_, bel.frame _, fun h => by cases h⟩
  · rw [eF]; exact trodAll_cons_mk (shut_bool Tryz.underlying4 _) trodAll_mk0
  · rw [eF, Tryz.params4]
    exact trodAll_cons_mk (Below.trod laidOut (by kernel_rfl) (of_decide_eq_true (by kernel_rfl)) h0 bel l0) (trodAll_cons_mk (Below.trod laidOut (by kernel_rfl) (of_decide_eq_true (by kernel_rfl)) h1 bel l1) (trodAll_mk0))
  · rw [eF]; rfl
set_option maxRecDepth 100000 in
theorem fetchRows_lifted (os : Os) (started : os.Started) (H : Type) (enc : TypeId × Value → H) (F : Stop.Interp) :
    ReturnsInHanded {} Tryz.checked os 4 .any ((OpenSpec.ofChange Rows.fetchRowsSpec).preRow enc Tryz.prog Tryz.f4 Rows.fetchRowsRow.domain false Rows.fetchRowsRow.laid) (((OpenSpec.ofChange Rows.fetchRowsSpec).at F).post enc Tryz.prog Tryz.f4 false true false false) := by
  obtain ⟨places, hx⟩ := fetchRows_reads os enc
  refine returnsInHanded_of_row (C := Tryz.checked) (s := OpenSpec.ofChange Rows.fetchRowsSpec) own started (by kernel_rfl) Tryz.func4
    (witness_row_atRef (enc := enc) (C := Tryz.checked) false (fetchRows_world os) fetchRows_args rfl (by kernel_rfl) (by kernel_rfl) (by kernel_rfl)
      (OpenSpec.preRow_of_cond 8 hx (by kernel_rfl) (fun k hk => by cases hk) (by kernel_rfl) (fetchRows_laid os _))) ?_
  intro W base args ds gs before hval hW _ _ _ hL _ _
  exact fetchRows_contract H enc W base args ds gs before hval hW hL
theorem and_tt {a b : Bool} (h : a = true) (k : b = true) : (a && b) = true := by rw [h, k]; rfl
theorem fetchRows_k0 : (Rows.fetchRowsRow.wf (OpenSpec.ofChange (OpenSpec.ofChange Rows.fetchRowsSpec).bare)) = true := by kernel_rfl
theorem fetchRows_k1 : (laidOutB Tryz.pinned.checked.prog) = true := by kernel_rfl
theorem fetchRows_k2 : (mapsRowed Tryz.pinned.checked.prog) = true := by kernel_rfl
theorem fetchRows_k3 : (Tryz.f4.params.all (Tryz.pinned.checked.prog.readableRec ·)) = true := by kernel_rfl
theorem fetchRows_k4 : (namedTie Tryz.pinned.checked.prog Rows.fetchRowsRow.named (OpenSpec.ofChange Rows.fetchRowsSpec).bare.vars) = true := by kernel_rfl
theorem fetchRows_k5 : ((Rows.fetchRowsRow.stops == [])) = true := by kernel_rfl
theorem fetchRows_k6 : ((Tryz.pinned.checked.prog.stops == [])) = true := by kernel_rfl
theorem fetchRows_k7 : ((Rows.fetchRowsRow.knobs == [])) = true := by kernel_rfl
theorem fetchRows_k8 : ((Tryz.pinned.checked.prog.stopKnobs == [])) = true := by kernel_rfl
theorem fetchRows_k9 : ((Rows.fetchRowsRow.inPlace == Tryz.pinned.checked.prog.inPlace 4)) = true := by kernel_rfl
theorem fetchRows_k10 : ((Rows.fetchRowsRow.unfollowed == Tryz.pinned.checked.prog.unfollowed 4)) = true := by kernel_rfl
theorem fetchRows_k11 : ((Rows.fetchRowsRow.recurses == Tryz.pinned.checked.prog.recurses 4)) = true := by kernel_rfl
theorem fetchRows_k12 : ((Rows.fetchRowsRow.named == Tryz.pinned.checked.prog.varsNamed 4)) = true := by kernel_rfl
theorem fetchRows_k13 : ((Rows.fetchRowsRow.maps == (Tryz.f4.params.toList ++ (OpenSpec.ofChange Rows.fetchRowsSpec).bare.plain.varTypes Tryz.pinned.checked.prog).any (Tryz.pinned.checked.prog.mapsRec ·))) = true := by kernel_rfl
theorem fetchRows_k14 : ((Rows.fetchRowsRow.ifaces == (Tryz.f4.params.toList ++ (OpenSpec.ofChange Rows.fetchRowsSpec).bare.plain.varTypes Tryz.pinned.checked.prog).any (Tryz.pinned.checked.prog.ifacesRec ·))) = true := by kernel_rfl
theorem fetchRows_k15 : ((Rows.fetchRowsRow.mapsOut == Tryz.pinned.checked.prog.mapsAmong Tryz.f4.resultTypes.toList)) = true := by kernel_rfl
theorem fetchRows_k16 : ((Rows.fetchRowsRow.loops == (Tryz.f4.params.toList ++ (OpenSpec.ofChange Rows.fetchRowsSpec).bare.plain.varTypes Tryz.pinned.checked.prog).any (Tryz.pinned.checked.prog.loopsFrom ·))) = true := by kernel_rfl
theorem fetchRows_k17 : ((Rows.fetchRowsRow.wideKeys == (Tryz.f4.params.toList ++ (OpenSpec.ofChange Rows.fetchRowsSpec).bare.plain.varTypes Tryz.pinned.checked.prog ++ Tryz.f4.resultTypes.toList).any (Tryz.pinned.checked.prog.wideKeysFrom ·))) = true := by kernel_rfl
theorem fetchRows_k18 : ((OpenSpec.ofChange Rows.fetchRowsSpec).bare.vars.all (Tryz.pinned.checked.prog.varReadable ·)) = true := by kernel_rfl
theorem fetchRows_k19 : (Tryz.f4.resultTypes.all (fun t => Tryz.pinned.checked.prog.readableRec t && decide (t < Tryz.pinned.checked.prog.types.size))) = true := by kernel_rfl
theorem fetchRows_k20 : ((Rows.fetchRowsRow.ifacesOut == Tryz.f4.resultTypes.toList.any (Tryz.pinned.checked.prog.ifacesRec ·))) = true := by kernel_rfl
theorem fetchRows_k21 : ((Rows.fetchRowsRow.loopsOut == Tryz.f4.resultTypes.toList.any (Tryz.pinned.checked.prog.loopsFrom ·))) = true := by kernel_rfl
theorem fetchRows_k22 : ((Rows.fetchRowsRow.plainKeys == Tryz.pinned.checked.prog.plainKeys)) = true := by kernel_rfl
theorem fetchRows_k23 : (Rows.fetchRowsRow.shortTexts.isNone) = true := by kernel_rfl
theorem fetchRows_k24 : (Tryz.pinned.checked.prog.stopsHeard) = true := by kernel_rfl
theorem fetchRows_k25 : (Tryz.pinned.checked.prog.mayEnter) = true := by kernel_rfl
theorem fetchRows_k26 : ((Rows.fetchRowsRow.lifted == Tryz.pinned.checked.prog.liftsFinal)) = true := by kernel_rfl
theorem fetchRows_k27 : ((Tryz.pinned.checked.prog.make == some Rows.fetchRowsRow.make)) = true := by kernel_rfl
theorem fetchRows_k28 : ((Rows.fetchRowsRow.kinds == (if Rows.fetchRowsRow.domain.isEmpty then [] else Tryz.f4.params.toList.map fun t => match Tryz.pinned.checked.prog.underlying t with | some (.int k) => some k | _ => none))) = true := by kernel_rfl
theorem fetchRows_k29 : ((Rows.fetchRowsRow.pinned == Rows.fetchRowsRow.pinnedBy)) = true := by kernel_rfl
theorem fetchRows_k30 : ((Rows.fetchRowsRow.veiled == (Tryz.f4.params.toList ++ (OpenSpec.ofChange Rows.fetchRowsSpec).bare.plain.varTypes Tryz.pinned.checked.prog ++ Tryz.f4.resultTypes.toList).any (Tryz.pinned.checked.prog.veiledRec ·))) = true := by kernel_rfl
theorem fetchRows_k31 : (Rows.fetchRowsRow.veiledFits Tryz.pinned.checked.prog Tryz.f4.params.toList (Tryz.f4.params.toList ++ (OpenSpec.ofChange Rows.fetchRowsSpec).bare.plain.varTypes Tryz.pinned.checked.prog ++ Tryz.f4.resultTypes.toList)) = true := by kernel_rfl
set_option maxRecDepth 100000 in
theorem fetchRows_facts : joinedFacts Tryz.pinned.checked.prog 4 Tryz.f4 (OpenSpec.ofChange Rows.fetchRowsSpec).bare Rows.fetchRowsRow = true := (and_tt (and_tt (and_tt (and_tt (and_tt (and_tt (and_tt (and_tt (and_tt (and_tt (and_tt (and_tt (and_tt (and_tt (and_tt (and_tt (and_tt (and_tt (and_tt (and_tt (and_tt (and_tt (and_tt (and_tt (and_tt (and_tt (and_tt (and_tt (and_tt (and_tt (and_tt fetchRows_k0 fetchRows_k1) fetchRows_k2) fetchRows_k3) fetchRows_k4) fetchRows_k5) fetchRows_k6) fetchRows_k7) fetchRows_k8) fetchRows_k9) fetchRows_k10) fetchRows_k11) fetchRows_k12) fetchRows_k13) fetchRows_k14) fetchRows_k15) fetchRows_k16) fetchRows_k17) fetchRows_k18) fetchRows_k19) fetchRows_k20) fetchRows_k21) fetchRows_k22) fetchRows_k23) fetchRows_k24) fetchRows_k25) fetchRows_k26) fetchRows_k27) fetchRows_k28) fetchRows_k29) fetchRows_k30) fetchRows_k31)
theorem fetchRows_said : Rows.FetchRowsSaid :=
  OpenClaim.holds_of_cond 4 Tryz.f4 rfl rfl rfl rfl rfl rfl rfl ⟨rfl, rfl, rfl, rfl, rfl⟩ rfl rfl rfl rfl rfl (by kernel_rfl) Tryz.func4 fetchRows_facts
    (of_decide_eq_true (by kernel_rfl)) (by unfold Func.isWrapper; first | (rw [if_pos (by decide +kernel)]; kernel_rfl) | (rw [if_neg (by decide +kernel)]; exact ⟨rfl, rfl⟩))
    (fun os started H enc _ F => by rw [OpenClaim.pre_eq_preRow]; exact fetchRows_lifted os started H enc F)
theorem fetchRows_plain (f : FuncId) (fn : Func) (hf : Tryz.pinned.checked.prog.funcNamed "quorate/quoratelaw19.FetchRows" = some f) (hfn : Tryz.pinned.checked.prog.funcs[f]? = some fn) :
    false = Tryz.pinned.checked.prog.looks [] ∧ ∀ (j : Nat) t, fn.params[j]? = some t → Tryz.pinned.checked.prog.wantsStandIn t = false := by
  obtain rfl : f = 4 := Option.some.inj ((show Tryz.prog.funcNamed "quorate/quoratelaw19.FetchRows" = some 4 by kernel_rfl).symm.trans hf) |>.symm
  obtain rfl : fn = Tryz.f4 := (Option.some.inj (Tryz.func4.symm.trans hfn)).symm
  refine ⟨by kernel_rfl, fun j t ht => ?_⟩
  rw [Tryz.params4] at ht
  have hm := Array.mem_of_getElem? ht
  have h : t = 25 ∨ t = 3 := by simpa using hm
  rcases h with rfl | rfl
  · exact (show Tryz.prog.wantsStandIn 25 = false by kernel_rfl)
  · exact (show Tryz.prog.wantsStandIn 3 = false by kernel_rfl)
theorem fetchRows_holds : Rows.FetchRowsCardSaid :=
  Claim7.holds_tied_plain_at .later [] _ _ _ _ fetchRows_said (fun _ h => by cases h) (by kernel_rfl) (fun _ h => by cases h) fetchRows_row_tie rfl ⟨rfl, rfl⟩ (by kernel_rfl) rfl fetchRows_plain (by kernel_rfl)
#print axioms fetchRows_holds
end
end Go.Proofs.YtheonhgffglegaaGreatDoor
