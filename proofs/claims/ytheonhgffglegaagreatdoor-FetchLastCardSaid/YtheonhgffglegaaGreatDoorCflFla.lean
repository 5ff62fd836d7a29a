/- Part 7. What is proved: see the last part: for every input the law returns true, and the input reads as it did. -/
import Derived.Test.YtheonhgffglegaaGreatDoorCfl6
import Derived.Test.YtheonhgffglegaaGreatDoorCards
import Derived.Test.YtheonhgffglegaaGreatDoorTie
import Derived.Deep.DeepHandedRow
import Derived.Deep.DeepWitnessRowRef
namespace Go.Proofs.YtheonhgffglegaaGreatDoor
open Go
set_option linter.unusedVariables false
set_option linter.unusedSimpArgs false
set_option linter.unusedSectionVars false
section
attribute [local irreducible] idOf gid
def chainB (p : Dig) : List Block → Prop
  | [] => True
  | b :: l => b.parent = p ∧ chainB (idOf b) l
def lastD (p : Dig) : List Block → Dig
  | [] => p
  | b :: l => lastD (idOf b) l
theorem lastD_app : ∀ (p : Dig) (l m : List Block), lastD p (l ++ m) = lastD (lastD p l) m
  | _, [], _ => rfl
  | _, b :: l, m => lastD_app (idOf b) l m
theorem chainB_app : ∀ (p : Dig) (l m : List Block), chainB p (l ++ m) ↔ chainB p l ∧ chainB (lastD p l) m
  | p, [], m => by simp [chainB, lastD]
  | p, b :: l, m => by
    have ih := chainB_app (idOf b) l m
    simp only [List.cons_append, chainB, lastD, ih, and_assoc]
theorem chainB_at : ∀ {p : Dig} {l : List Block} {i : Nat} {b : Block}, chainB p l → l[i]? = some b → b.parent = lastD p (l.take i)
  | p, c :: l, 0, b, h, hb => by simp at hb; subst hb; exact h.1
  | p, c :: l, i + 1, b, h, hb => by
    simp only [List.getElem?_cons_succ] at hb
    exact chainB_at (p := idOf c) (l := l) h.2 hb
theorem chain_le {es : List Bool} : ∀ k, chainB gid (leL es k) ∧ lastD gid (leL es k) = leI es k
  | 0 => ⟨trivial, leI_zero.symm⟩
  | k + 1 => by
    have ih := chain_le (es := es) k
    rw [leL_succ]
    refine ⟨(chainB_app _ _ _).2 ⟨ih.1, by rw [ih.2]; exact ⟨leB_parent k, trivial⟩⟩, ?_⟩
    rw [lastD_app]; rfl
section
variable {b0 : Block} {ps ss : List Int} {i : Nat}
theorem TrI.node {h : TrI b0 ps ss i} {j : Nat} {d : Dig} {b : Block} (hn : (trT b0 ps ss i).nodes[j]? = some (d, b)) : d = idOf b ∧ b ∈ trB b0 ps ss i := by
  rw [h.nd, List.getElem?_map, Option.map_eq_some_iff] at hn
  obtain ⟨x, hx, e⟩ := hn
  cases e
  exact ⟨rfl, List.mem_of_getElem? hx⟩
theorem TrI.bof {h : TrI b0 ps ss i} {d : Dig} {b : Block} (hl : lkN d (trT b0 ps ss i).nodes = some b) : bOf (trT b0 ps ss i) d = b ∧ idOf b = d ∧ b ∈ trB b0 ps ss i := by
  obtain ⟨j, hj⟩ := lkN_some hl
  have := TrI.node (h := h) hj
  exact ⟨by rw [bOf, hl]; rfl, this.1.symm, this.2⟩
theorem path_chain (h : TrI b0 ps ss i) : ∀ (j : Nat) (d : Dig) (b : Block), (trT b0 ps ss i).nodes[j]? = some (d, b) →
    chainB (idOf b0) ((pathL (trT b0 ps ss i) d).map (bOf (trT b0 ps ss i))) ∧ lastD (idOf b0) ((pathL (trT b0 ps ss i) d).map (bOf (trT b0 ps ss i))) = d ∧ ∀ e ∈ pathL (trT b0 ps ss i) d, ∃ x, lkN e (trT b0 ps ss i).nodes = some x := fun j => by
  induction j using Nat.strongRecOn with
  | ind j ih =>
    intro d b hj
    have hl : lkN d (trT b0 ps ss i).nodes = some b := node_lk h.ok hj
    have hu := upL_step h.ok hl
    by_cases hd : d = (trT b0 ps ss i).root
    · have hp : pathL (trT b0 ps ss i) d = [] := by unfold pathL; rw [hu, if_pos hd]; simp [hd]
      rw [hp]
      exact ⟨trivial, by rw [hd, h.rt]; rfl, by simp⟩
    · match j, ih, hj with
      | 0, _, hj =>
        obtain ⟨b', r, hr⟩ := h.ok.hd
        rw [hr] at hj
        simp at hj
        exact absurd hj.1.symm hd
      | j + 1, ih, hj =>
        obtain ⟨k, p, hk, hkp⟩ := h.ok.par j d b hj
        obtain ⟨h1, h2, h3⟩ := ih k (by omega) b.parent p hkp
        have hp : pathL (trT b0 ps ss i) d = pathL (trT b0 ps ss i) b.parent ++ [d] := by
          unfold pathL
          rw [hu, if_neg hd, List.map_cons, List.filter_cons, if_pos (by simp [hd]), List.reverse_cons]
        have hb := TrI.bof (h := h) hl
        rw [hp, List.map_append]
        refine ⟨(chainB_app _ _ _).2 ⟨h1, ?_⟩, ?_, fun e he => ?_⟩
        · rw [h2, List.map_cons, hb.1]; exact ⟨rfl, trivial⟩
        · rw [lastD_app, List.map_cons, hb.1]; exact hb.2.1
        · rcases List.mem_append.1 he with he | he
          · exact h3 e he
          · simp at he; subst he; exact ⟨b, hl⟩
theorem bestK_in (t : Tr) (hd : ∃ b r, t.nodes = (t.root, b) :: r) : ∀ k, k ≤ t.nodes.length → ∃ (j : Nat) (b : Block), t.nodes[j]? = some ((bestK t k).1, b)
  | 0, _ => by obtain ⟨b, r, e⟩ := hd; exact ⟨0, b, by rw [e]; rfl⟩
  | k + 1, hk => by
    obtain ⟨p, hp⟩ : ∃ p, t.nodes[k]? = some p := ⟨t.nodes[k], List.getElem?_eq_getElem (by omega)⟩
    rw [bestK_succ hp]
    split
    · exact ⟨k, p.2, hp⟩
    · exact bestK_in t hd k (by omega)
end
theorem ShOk.chain {es : List Bool} {ps ss : List Int} (h : ShOk es ps ss) : chainB gid (lineL (leL es es.length) (trT (leB es es.length) ps ss ps.length)) ∧ ∀ b ∈ lineL (leL es es.length) (trT (leB es es.length) ps ss ps.length), (wBlock b ⟨0, []⟩).err = 0 := by
  have ht := h.tri
  have ha := h.a
  have hb := h.b
  have hc := chain_le (es := es) es.length
  obtain ⟨j, b, hj⟩ := bestK_in _ ht.ok.hd _ (Nat.le_refl _)
  have hp := path_chain ht j _ b hj
  rw [← lineL_def]
  refine ⟨(chainB_app _ _ _).2 ⟨hc.1, by rw [hc.2]; exact hp.1⟩, fun x hx => ?_⟩
  rcases List.mem_append.1 hx with hx | hx
  · simp only [leL, List.mem_map, List.mem_range] at hx
    obtain ⟨k, hk, rfl⟩ := hx
    exact leB_err (by omega)
  · obtain ⟨e, he, rfl⟩ := List.mem_map.1 hx
    obtain ⟨y, hy⟩ := hp.2.2 e he
    have hby := TrI.bof (h := ht) hy
    rw [hby.1]
    have hm := hby.2.2
    rw [trB_cons] at hm
    have h0 := leB_round (es := es) es.length
    rcases List.mem_cons.1 hm with hm | hm
    · rw [hm]; exact leB_err (by omega)
    · simp only [trL, List.mem_map, List.mem_range] at hm
      obtain ⟨k, hk, rfl⟩ := hm
      have hk2 : TrI (leB es es.length) ps ss k := tri_all (leB_epoch _) (leB_sm _) (by omega) (by omega) (by omega) (fun j hj => h.d j (by omega))
      exact hk2.err (by omega) (by omega) (by omega)
theorem behL_at (l : List Block) (d : Dig) : behL l d = [] ∧ (∀ b ∈ l, b.parent ≠ d) ∨ ∃ j r, l[j]? = some r ∧ r.parent = d ∧ behL l d = cutB 0 (l.drop j) ∧ 0 < (behL l d).length := by
  rcases idxB_cases d l with ⟨h, hn⟩ | ⟨j, r, h, hr, hp, _⟩
  · exact .inl ⟨behL_none h, hn⟩
  · refine .inr ⟨j, r, hr, hp, behL_some h, ?_⟩
    have hlt := (List.getElem?_eq_some_iff.1 hr).1
    have hd : l.drop j = r :: l.drop (j + 1) := by rw [List.drop_eq_getElem_cons hlt, (List.getElem?_eq_some_iff.1 hr).2]
    rw [behL_some h, hd]; unfold cutB; simp
theorem line_pos0 {l : List Block} {p : Dig} (h : chainB p l) : (0 < (behL l p).length) ↔ 0 < l.length := by
  rcases behL_at l p with ⟨hb, hn⟩ | ⟨j, r, hr, _, _, hb⟩
  · rw [hb]
    match l, h, hn with
    | [], _, _ => simp
    | b :: l, h, hn => exact absurd h.1 (hn b (by simp))
  · have := (List.getElem?_eq_some_iff.1 hr).1
    exact ⟨fun _ => by omega, fun _ => hb⟩
end
section
section
variable {P : Program} {w0 : World} {F0 : Nat → Prop} {L : List Res} {n : Fm} {env : Env}
theorem r_ldPart {d : Option Tmp} {ty : TypeId} {pos : String} {af : Array Edge} {gd : Option (Nat × Bool)} {x : Operand} {T e g o m c s i r z : Nat} {css : List (List Value)} {cs sg : List Value} {L' : List Res} (hx : ev n env x = .pointer (some ⟨g, o + i * s + r, none⟩)) (hr : rowT P T = some true) (hs : szT P T = some z)
    (hp : Pick L (rowR e s (some ⟨g, o, none⟩) m c css.flatten) L') (hcs : ∀ c ∈ css, c.length = s) (hi : css[i]? = some cs) (him : i < m) (hsg : (cs.drop r).take z = sg) (hl : sg.length = z) : Runs P w0 F0 L n env ⟨d, .load T x, ty, pos, af, gd⟩ (.agg sg.toArray) := r_load hx fun w hw => by
  obtain ⟨g', o', ha, _, _, hra⟩ := (hw.row hp).elem him
  cases ha
  rw [flatten_at hcs hi] at hra
  refine run_loadVar_agg hr hs hl fun j v hj => ?_
  rw [← hsg, List.getElem?_take] at hj
  split at hj
  · rw [List.getElem?_drop] at hj
    have := hra (r + j) v hj
    rwa [← Nat.add_assoc] at this
  · cases hj
end
theorem lastD_zero (p : Dig) (l : List Block) : lastD p (l.take 0) = p := by rw [List.take_zero]; rfl
theorem bxC_first (x : Bx) (n k : Nat) : ((bxC x n k).drop 5).take 16 = dc gid := by
  show (dc gid).take 16 = dc gid
  exact List.take_of_length_le (by rw [dc_length]; decide)
attribute [local irreducible] Gl Gc Gx Gs Runs Wt
attribute [local irreducible] rowR blk VlR ElR dc qcC blkC ModR TreeR LedR gid idOf lineL behL leRs leI leB leL trT idsB lastD
set_option maxHeartbeats 2000000 in
theorem fetchLast_ok {w : World} {F : Nat → Prop} {ae ap aS : Option Addr} {ne ce np kp nS kS : Nat} {es : List Bool} {ps ss : List Int} {ea : Nat → Addr} {er : List Nat} [Has er 1] [Has er 2] [Has er 3] [Has er 4] [Has er 6] [Has er 8] [Has er 9] [Has er 12] [Has er 14] [Has er 16] [Has er 17] (hE : GErr er w (fun k => ¬ F k) 251 ea) (hK : KR w (fun k => ¬ F k)) (h : stars [] w F) (hes : RdRow w (fun k => ¬ F k) 1 ae ne (es.map Value.bool)) (hps : RdRow w (fun k => ¬ F k) 1 ap np (ps.map (Value.int .i64))) (hss : RdRow w (fun k => ¬ F k) 1 aS nS (ss.map (Value.int .i64))) :
    Calls Tryz.prog 5 #[.agg (List.toArray [.slice ae ne ce, .slice ap np kp, .slice aS nS kS])] w (Post w F (fun _ : Unit => .bool true) (fun _ => [])) := by
 obtain rfl : ne = es.length := by have := hes.1; simp at this; omega
 obtain rfl : np = ps.length := by have := hps.1; simp at this; omega
 obtain rfl : nS = ss.length := by have := hss.1; simp at this; omega
 refine g_enter (env := [(0, .agg (List.toArray [.slice ae es.length ce, .slice ap ps.length kp, .slice aS ss.length kS]))]) Tryz.func5 rfl h Tryz.ntmps5 rfl rfl ?_; refine gsr ?_; refine zbN fun b1 => ?_; refine zxa ?_; refine gnt ?_; refine gc_seq ?_; refine gsr ?_; refine zc (fun _ => ?_) (c := fun w1 F1 F2 h1 h2 hd hst => alive19_ok (hE.mv hst.still) (hK.mv hst.still) h1)
 refine gp znt ?_; refine gnt ?_; refine gc_condF rfl rfl ?_; refine gc_skip ?_; refine gx_then ?_; refine gsr ?_; refine gp (zLa (cs := [.slice ae es.length ce, .slice ap ps.length kp, .slice aS ss.length kS])) ?_; refine zc ?_ (c := fun w1 F1 F2 h1 h2 hd hst => build_ok (es := es) (ps := ps) (ss := ss) h1 (hE.mv hst.still) (hK.mv hst.still) (hes.mv hst.still) (hps.mv hst.still) (hss.mv hst.still))
 rintro ⟨r8, cs8, x8⟩
 rcases r8 with _ | _
 ·rw [built_F]; refine gl_pureR (fun hb => ?_)
  obtain ⟨hno, hl21, ho21⟩ := hb; refine zxm ?_; refine gp zex ?_; refine gp zex ?_; refine zal fun b3 => ?_; refine zsA hl21 ho21 ?_; refine zxa ?_; refine gnt ?_; refine gc_seq ?_; refine gsr ?_; refine zxm ?_; refine gp znt ?_; refine gnt ?_; refine gc_condT rfl rfl ?_; refine gsr ?_; refine zxa ?_; refine gnt ?_; refine gc_ret ?_; refine gx_then_ret ?_; refine gx_ret1 rfl (by conv => lhs; whnf) ?_; exact ze ()
 ·rw [built_T]; refine gl_pureR (fun hb => ?_)
  obtain ⟨hsh, rfl, hc1, hc2, hr0⟩ := hb; obtain ⟨xq8, xg8, xt8, xm8, xla8, xlc8, xia8, xic8, xcs8, xd8, xc8⟩ := x8; have hsa := hsh.a
  have hsb := hsh.b
  obtain ⟨hch, herr⟩ := hsh.chain; refine zxm ?_; refine gp zex ?_; refine gp zex ?_; refine zal fun b3 => ?_; refine zsA (bxC_len _ _ _) (bxC_one _ _ _) ?_; refine zxa ?_; refine gnt ?_; refine gc_seq ?_; refine gsr ?_; refine zxm ?_; refine gp znt ?_; refine gnt ?_; refine gc_condF rfl rfl ?_; refine gc_skip ?_; refine gx_then ?_; refine gc_seq ?_; refine gc_conv (M := [LdR xq8 xg8 200 0 (leRs es es.length)]) (N := [exR fun d : DS => allR [pureR (LdOk d 200 0 (leRs es es.length)), LedR xq8 xg8 (lsOf 0 (leRs es es.length)), DiskR xg8 d]]) (by repeat (first | exact Sel.nil | (apply Sel.cons; · (repeat (first | exact Pick.here | apply Pick.there))))) (fun _ _ h => h) ?_; refine gc_exR (fun d0 => ?_)
  refine gc_conv (M := [allR [pureR (LdOk d0 200 0 (leRs es es.length)), LedR xq8 xg8 (lsOf 0 (leRs es es.length)), DiskR xg8 d0]]) (N := [pureR (LdOk d0 200 0 (leRs es es.length)), LedR xq8 xg8 (lsOf 0 (leRs es es.length)), DiskR xg8 d0]) (by repeat (first | exact Sel.nil | (apply Sel.cons; · (repeat (first | exact Pick.here | apply Pick.there))))) (fun _ _ => ld_all) ?_; refine gc_pureR (fun hd0 => ?_)
  refine gc_region ?_; refine gp zfa ?_; refine gp zl ?_; refine gp zfa ?_; refine gp zl ?_; refine zc ?_ (c := fun w1 F1 F2 h1 h2 hd hst => line_ok (l := lsOf 0 (leRs es es.length)) h1 (tr_rd h2 hd (by repeat (first | exact Pick.here | apply Pick.there))) hsh.tri.ok (leRs_ok (by omega)) (by show (leRs es es.length).length < _; rw [leRs_len]; omega) (hE.mv hst.still))
  rintro ⟨a22, c22, cx⟩
  refine gl_pureR (fun hcx => ?_)
  replace hcx : ∀ c ∈ cx, List.length c = 39 := hcx
  rw [show (lsOf 0 (leRs es es.length)).rs.map (fun r : LRec => r.b) = leL es es.length from leRs_b _]; refine gl_fact (fun w' hw => (St.el (rd := RdBlock) (hw.sel (M := [ElR RdBlock cx (lineL (leL es es.length) (trT (leB es es.length) ps ss ps.length))]) (by repeat (first | exact Sel.nil | (apply Sel.cons; · (repeat (first | exact Pick.here | apply Pick.there)))))) .here)) (fun hel => ?_)
  obtain ⟨hcl, hel⟩ := hel; have hlln : (lineL (leL es es.length) (trT (leB es es.length) ps ss ps.length)).length ≤ es.length + 16 := by rw [← lineL_def, List.length_append, List.length_map, leL_len]; have := pathL_len (trT (leB es es.length) ps ss ps.length) (bestD (trT (leB es es.length) ps ss ps.length)); have := hsh.tri.ok.le; omega
  refine zxa ?_; refine zxs ?_; refine gp zfa ?_; refine gp (zL (sg := dc gid) (hg := bxC_first _ _ _)) ?_; refine zal fun b6 => ?_; refine zsA (dc_length _) (dc_one _) ?_; refine gnt ?_; refine gc_seq ?_; refine gsr ?_; refine zxm ?_; refine gp zln ?_; refine zxm ?_; refine gnt ?_; refine gc_block ?_; refine gc_loop (α := Nat × Dig) (fun y => [pureR (y.1 ≤ (lineL (leL es es.length) (trT (leB es es.length) ps ss ps.length)).length ∧ ∀ b, (lineL (leL es es.length) (trT (leB es es.length) ps ss ps.length))[y.1]? = some b → b.parent = y.2), blk b6 27 (dc y.2), rowR 51 39 a22 (lineL (leL es es.length) (trT (leB es es.length) ps ss ps.length)).length c22 cx.flatten, ElR RdBlock cx (lineL (leL es es.length) (trT (leB es es.length) ps ss ps.length)), blk b1 25 [.slice ae es.length ce, .slice ap ps.length kp, .slice aS ss.length kS], blk b3 35 (bxC ⟨xq8, xg8, xt8, xm8, xla8, xlc8, xia8, xic8, xcs8, xd8, xc8⟩ es.length ps.length), LedR xq8 xg8 (lsOf 0 (leRs es es.length)), DiskR xg8 d0, TreeR xt8 (trT (leB es es.length) ps ss ps.length)]) (fun y => [(27, .int .i64 (y.1 : Int))]) [2, 7, 8, 28, 29, 30, 31, 32, 33, 34, 35, 36, 37, 38, 39, 40, 41, 42, 43, 44, 45, 46, 47] (fun y => (lineL (leL es es.length) (trT (leB es es.length) ps ss ps.length)).length - y.1) (0, gid) ?_ ?_ ?_
  ·refine env_start (by kernel_rfl)
  ·dsimp only
   refine zlp ?_; exact ⟨Nat.zero_le _, fun b hb => (chainB_at hch hb).trans (lastD_zero _ _)⟩
  ·intro y u; obtain ⟨k, d⟩ := y; refine gc_pureR (fun hk => ?_)
   obtain ⟨hk, hd0p⟩ := hk; replace hk : k ≤ (lineL (leL es es.length) (trT (leB es es.length) ps ss ps.length)).length := hk
   replace hd0p : ∀ b, (lineL (leL es es.length) (trT (leB es es.length) ps ss ps.length))[k]? = some b → b.parent = d := hd0p
   refine gsr ?_; refine gp zlt ?_; refine gnt ?_; refine gc_seq ?_; refine gif rfl (fun hc28 => ?_) (fun hc28 => ?_)
   ·try simp only at hc28
    have hk' : k < (lineL (leL es es.length) (trT (leB es es.length) ps ss ps.length)).length := by omega
    obtain ⟨bx, hbx⟩ : ∃ bx, (lineL (leL es es.length) (trT (leB es es.length) ps ss ps.length))[k]? = some bx := ⟨(lineL (leL es es.length) (trT (leB es es.length) ps ss ps.length))[k]'hk', List.getElem?_eq_getElem hk'⟩; obtain ⟨cp, hcp⟩ : ∃ cp, cx[k]? = some cp := ⟨cx[k]'(by rw [hcl]; exact hk'), List.getElem?_eq_getElem _⟩; obtain ⟨wp, Ap, hrp⟩ := hel _ _ _ hcp hbx; have hbr := hrp
    obtain ⟨qj, xa1, xn1, xc1, xa2, xn2, xc2, rfl, hqj, _, _, _, hxn⟩ := hrp; have hxl := hxn.len (by decide)
    have iqj := Len.of hqj.len
    have jqj := One.of hqj.one
    refine gc_fact (fun w' hw => St.rowAt (hw.sel (M := [rowR 51 39 a22 (lineL (leL es es.length) (trT (leB es es.length) ps ss ps.length)).length c22 cx.flatten]) (by repeat (first | exact Sel.nil | (apply Sel.cons; · (repeat (first | exact Pick.here | apply Pick.there)))))) .here (by omega)) (fun hra => ?_)
    obtain ⟨_, gl, ol, hal⟩ := hra; subst hal; have hpar := hd0p bx hbx
    refine gc_skip ?_; refine gx_then ?_; refine gc_seq ?_; refine gc_block ?_; refine gsr ?_; refine zxm ?_; refine gp (r_val (v' := .pointer (some ⟨gl, ol + k * 39, none⟩)) zia (by simp)) ?_; refine gp (r_ldRow (i := k) (g := gl) (o := ol) rfl Ty.row_51 Ty.sz_51 (by repeat (first | exact Pick.here | apply Pick.there)) hcx hcp hk') ?_; refine zal fun b8 => ?_; refine gl_eqc (cs' := blkC) (by repeat (first | exact Pick.here | apply Pick.there)) (by kernel_rfl) ?_; refine zxa ?_; refine zsA (by simp [dc_length, hqj.len]) (all_cons' rfl (all_cons' rfl (all_app' (dc_one _) (all_app' hqj.one (all_cons' rfl (all_cons' rfl all_nil')))))) ?_; refine gnt ?_; refine gc_seq ?_; refine gsr ?_; refine gp zfa ?_; refine gp zL ?_; refine gp zL ?_; refine gp (r_bool (c := false) znd (by simp [hpar])) ?_; refine gnt ?_; refine gc_condF rfl rfl ?_; refine gc_skip ?_; refine gx_then ?_; refine gsr ?_; refine zxm ?_; refine gp (r_int (j := ((k + 1 : Nat) : Int)) zad (by omega)) ?_; refine zxm ?_; refine gp zln ?_; refine gp zlt ?_; refine gnt ?_; refine gif rfl (fun hc40 => ?_) (fun hc40 => ?_)
    ·try simp only at hc40
     have hk1 : k + 1 < (lineL (leL es es.length) (trT (leB es es.length) ps ss ps.length)).length := by have h40 := hc40; simp at h40; omega
     obtain ⟨by_, hby⟩ : ∃ b, (lineL (leL es es.length) (trT (leB es es.length) ps ss ps.length))[k + 1]? = some b := ⟨(lineL (leL es es.length) (trT (leB es es.length) ps ss ps.length))[k + 1]'hk1, List.getElem?_eq_getElem hk1⟩; obtain ⟨cy, hcy⟩ : ∃ cp, cx[k + 1]? = some cp := ⟨cx[k + 1]'(by rw [hcl]; exact hk1), List.getElem?_eq_getElem _⟩; obtain ⟨wy, Ay, hry⟩ := hel _ _ _ hcy hby; obtain ⟨qy, ya1, yn1, yc1, ya2, yn2, yc2, rfl, hqy, _⟩ := hry; refine gc_region ?_; refine zxm ?_; refine zxm ?_; refine gp (r_int (j := ((k + 1 : Nat) : Int)) zad (by omega)) ?_; refine gp (r_val (v' := .pointer (some ⟨gl, ol + (k + 1) * 39, none⟩)) zia (by rw [Int.toNat_natCast])) ?_; refine gp zfa ?_; refine gp (r_ldPart (i := k + 1) (r := 2) (g := gl) (o := ol) (sg := dc by_.parent) rfl Ty.row_27 Ty.sz_27 (by repeat (first | exact Pick.here | apply Pick.there)) hcx hcy hk1 (by show (dc by_.parent ++ _).take 16 = _; exact List.take_left' (dc_length _)) (dc_length _)) ?_; refine zsN ?_; refine gl_nil ?_; refine gx_block_normal ?_; refine gx_then ?_; refine gc_region ?_; refine gp zad ?_; refine zxm ?_; refine gl_nil ?_; refine zrd ((k + 1, by_.parent)) ?_ ?_
     ·show (lineL (leL es es.length) (trT (leB es es.length) ps ss ps.length)).length - (k + 1) < (lineL (leL es es.length) (trT (leB es es.length) ps ss ps.length)).length - k
      omega
     ·exact zlp (p := k + 1 ≤ (lineL (leL es es.length) (trT (leB es es.length) ps ss ps.length)).length ∧ ∀ b, (lineL (leL es es.length) (trT (leB es es.length) ps ss ps.length))[k + 1]? = some b → b.parent = by_.parent) ⟨by omega, fun b hb => by rw [hby] at hb; cases hb; rfl⟩
    ·refine gc_skip ?_; refine gx_block_normal ?_; refine gx_then ?_; refine gc_region ?_; refine gp zad ?_; refine zxm ?_; refine gl_nil ?_; refine zrd ((k + 1, d)) ?_ ?_
     ·show (lineL (leL es es.length) (trT (leB es es.length) ps ss ps.length)).length - (k + 1) < (lineL (leL es es.length) (trT (leB es es.length) ps ss ps.length)).length - k
      omega
     ·exact zlp (p := k + 1 ≤ (lineL (leL es es.length) (trT (leB es es.length) ps ss ps.length)).length ∧ ∀ b, (lineL (leL es es.length) (trT (leB es es.length) ps ss ps.length))[k + 1]? = some b → b.parent = d) ⟨by omega, fun b hb => absurd (List.getElem?_eq_some_iff.1 hb).1 (by have h40 := hc40; simp at h40; omega)⟩
   ·refine gc_exit ?_; refine gx_then_exit ?_; refine gx_round_exit ?_; refine gx_block_hit ?_; refine gx_then ?_; refine gsr ?_; refine zxm ?_; refine gp zln ?_; refine gp zfa ?_; refine gp zl ?_; refine gp zln ?_; refine gp (r_bool (c := true) zge (decide_eq_true (by have : es.length ≤ (lineL (leL es es.length) (trT (leB es es.length) ps ss ps.length)).length := (by rw [← lineL_def, List.length_append, leL_len]; omega); omega))) ?_; refine zxm ?_; refine gq zfa ?_; refine gq zl ?_; refine gq zfa ?_; refine gq zl ?_; refine gq zfa ?_; refine gq (zL (sg := dc gid) (hg := bxC_first _ _ _)) ?_; refine zc ?_ (c := fun w1 F1 F2 h1 h2 hd hst => behind_ok (l := lsOf 0 (leRs es es.length)) (d := gid) h1 (tr_rd h2 hd (by repeat (first | exact Pick.here | apply Pick.there))) hsh.tri.ok (leRs_ok (by omega)) (by show (leRs es es.length).length < _; rw [leRs_len]; omega) (hE.mv hst.still))
    rintro ⟨⟨a61, c61⟩, cx61⟩
    rw [show (lsOf 0 (leRs es es.length)).rs.map (fun r : LRec => r.b) = leL es es.length from leRs_b _]; refine gq zln ?_; refine gq zgt ?_; refine gq zmv ?_; refine gq zln ?_; refine gq zgt ?_; refine gq (r_bool (c := true) zeb (by rw [show decide ((0 : Int) < ((behL (lineL (leL es es.length) (trT (leB es es.length) ps ss ps.length)) gid).length : Int)) = decide ((0 : Int) < ((lineL (leL es es.length) (trT (leB es es.length) ps ss ps.length)).length : Int)) from decide_eq_decide.2 (by have := line_pos0 hch; omega)]; simp)) ?_; refine gp zpk ?_; refine zxa ?_; refine gnt ?_; refine gc_ret ?_; refine gx_ret1 rfl (by conv => lhs; whnf) ?_; exact ze ()
end
section
open Go.ChangeShapes Go.WideShapes Go.ChangeAt Go.RowKit
noncomputable def fetchLast_world (os : Os) : World :=
  let w0 := World.holding Tryz.prog os ⟨#[.cells #[.string ⟨#[113, 117, 111, 114, 97, 116, 101, 58, 32, 114, 97, 110, 103, 101]⟩] 269, .cells #[.string ⟨#[113, 117, 111, 114, 97, 116, 101, 58, 32, 115, 104, 111, 114, 116]⟩] 269, .cells #[.string ⟨#[113, 117, 111, 114, 97, 116, 101, 58, 32, 108, 111, 110, 103]⟩] 269, .cells #[.string ⟨#[113, 117, 111, 114, 97, 116, 101, 58, 32, 102, 111, 114, 109]⟩] 269, .cells #[.string ⟨#[113, 117, 111, 114, 97, 116, 101, 58, 32, 112, 111, 119, 101, 114]⟩] 269, .cells #[.string ⟨#[113, 117, 111, 114, 97, 116, 101, 58, 32, 102, 117, 108, 108]⟩] 269, .cells #[.string ⟨#[113, 117, 111, 114, 97, 116, 101, 58, 32, 110, 111, 110, 101]⟩] 269, .cells #[.string ⟨#[113, 117, 111, 114, 97, 116, 101, 58, 32, 112, 114, 111, 111, 102]⟩] 269, .cells #[.string ⟨#[113, 117, 111, 114, 97, 116, 101, 58, 32, 114, 111, 117, 110, 100]⟩] 269, .cells #[.string ⟨#[113, 117, 111, 114, 97, 116, 101, 58, 32, 112, 97, 114, 101, 110, 116]⟩] 269, .cells #[.string ⟨#[113, 117, 111, 114, 97, 116, 101, 58, 32, 116, 119, 105, 99, 101]⟩] 269], #[], []⟩
  { w0 with heap := (((((((((((w0.heap.modify 0 fun
      | .cells _ t fz => .cells #[.iface 251 (.pointer (some ⟨lowB + 0, 0, none⟩))] t fz
      | o => o).modify 11 fun
      | .cells _ t fz => .cells #[.iface 251 (.pointer (some ⟨lowB + 1, 0, none⟩))] t fz
      | o => o).modify 10 fun
      | .cells _ t fz => .cells #[.iface 251 (.pointer (some ⟨lowB + 2, 0, none⟩))] t fz
      | o => o).modify 1 fun
      | .cells _ t fz => .cells #[.iface 251 (.pointer (some ⟨lowB + 3, 0, none⟩))] t fz
      | o => o).modify 8 fun
      | .cells _ t fz => .cells #[.iface 251 (.pointer (some ⟨lowB + 4, 0, none⟩))] t fz
      | o => o).modify 2 fun
      | .cells _ t fz => .cells #[.iface 251 (.pointer (some ⟨lowB + 5, 0, none⟩))] t fz
      | o => o).modify 7 fun
      | .cells _ t fz => .cells #[.iface 251 (.pointer (some ⟨lowB + 6, 0, none⟩))] t fz
      | o => o).modify 3 fun
      | .cells _ t fz => .cells #[.iface 251 (.pointer (some ⟨lowB + 7, 0, none⟩))] t fz
      | o => o).modify 6 fun
      | .cells _ t fz => .cells #[.iface 251 (.pointer (some ⟨lowB + 8, 0, none⟩))] t fz
      | o => o).modify 5 fun
      | .cells _ t fz => .cells #[.iface 251 (.pointer (some ⟨lowB + 9, 0, none⟩))] t fz
      | o => o).modify 4 fun
      | .cells _ t fz => .cells #[.iface 251 (.pointer (some ⟨lowB + 10, 0, none⟩))] t fz
      | o => o).modify 9 fun
      | .cells _ t fz => .cells (kc.map W32).toArray t fz
      | o => o }
def fetchLast_args : Array Value := #[.agg #[.slice none 0 0, .slice none 0 0, .slice none 0 0]]
theorem fetchLast_laid (os : Os) (args : Array Value) : laidMet Tryz.prog Rows.fetchLastRow.laid ((fetchLast_world os).forCall (fun _ _ => 0) ⟨#[], args, []⟩).memory :=
  laidMet_of_run' 8 (by kernel_rfl) (by kernel_rfl)
theorem fetchLast_reads (os : Os) {H : Type} (enc : TypeId × Value → H) : ∃ places, DataW.whole enc Tryz.prog ((fetchLast_world os).forCall (fun _ _ => 0) ⟨#[], fetchLast_args, []⟩).memory Tryz.f5.params.toList Rows.fetchLastSpec.vars false fetchLast_args.toList 8 = some ([.agg [.nil, .nil, .nil]], [], places) :=
  ⟨[], by kernel_rfl⟩
set_option maxRecDepth 20000 in
theorem fetchLast_contract (H : Type) (enc : TypeId × Value → H) (W : World) (base : Nat) (args : Array Value) (ds gs : List (DataW H)) (before : List MemPlace)
    (hval : ∀ (j : Nat) t v, Tryz.f5.params[j]? = some t → args[j]? = some v → Value.okWide Tryz.prog W .any base t v)
    (hW : DataW.Whole enc Tryz.prog Tryz.f5.params.toList Rows.fetchLastSpec.vars false W args.toList ds gs before) (hL : laidMetH Tryz.prog Rows.fetchLastRow.laid W) :
    Calls Tryz.prog 5 args W fun e W' => ∃ v, e = .returned v ∧ Rows.fetchLastSpec.post enc Tryz.prog Tryz.f5 false true false false W args v W' := by
  have hW' := hW
  have hlt : ∀ p ∈ before, p.block < W.heap.size := fun p hp => hW.lt p hp
  obtain ⟨p, q, hA0, hV, rfl, hfz, hnd⟩ := hW
  have hA : DataW.TrodAll enc Tryz.prog W 0 (fun _ => true) true Tryz.f5.params.toList args.toList ds p := hA0
  rw [Tryz.params5] at hA hval
  obtain ⟨v0, vs0, d0, ds0, p0, q0, hargs, rfl, rfl, h0, r0⟩ := trodAll_cons hA
  obtain ⟨rfl, rfl, rfl⟩ := trodAll_nil r0
  obtain rfl : args = #[v0] := by cases args; simp_all
  obtain ⟨rfl, rfl⟩ := trodVars_none hV
  obtain ⟨x0, hx0⟩ : ∃ x, RdShp19 W TT v0.cells.toList x := by obtain ⟨fuel, hf⟩ := h0; exact o_shp19 fuel _ _ hf
  have e0 := agg_of_len (n := 3) (by obtain ⟨_, _, _, _, _, _, _, _, _, hce, _⟩ := hx0; rw [hce]; rfl) (by decide)
  obtain ⟨sa0, sn0, sc0, sb0, sm0, sd0, se0, so0, sf0, hce0, hs0_0, hs0_1, hs0_2⟩ := hx0
  rw [hce0] at e0
  have hL' : laidMet Tryz.prog Rows.fetchLastRow.laid W := hL
  obtain ⟨a_1, s_1, c_1, _, _⟩ := laid_err (g := 0) hL' (by kernel_rfl) (by kernel_rfl)
  obtain ⟨a_2, s_2, c_2, _, _⟩ := laid_err (g := 11) hL'.tail (by kernel_rfl) (by kernel_rfl)
  obtain ⟨a_3, s_3, c_3, _, _⟩ := laid_err (g := 10) hL'.tail.tail (by kernel_rfl) (by kernel_rfl)
  obtain ⟨a_4, s_4, c_4, _, _⟩ := laid_err (g := 1) hL'.tail.tail.tail (by kernel_rfl) (by kernel_rfl)
  obtain ⟨a_6, s_6, c_6, _, _⟩ := laid_err (g := 8) hL'.tail.tail.tail.tail (by kernel_rfl) (by kernel_rfl)
  obtain ⟨a_8, s_8, c_8, _, _⟩ := laid_err (g := 2) hL'.tail.tail.tail.tail.tail (by kernel_rfl) (by kernel_rfl)
  obtain ⟨a_9, s_9, c_9, _, _⟩ := laid_err (g := 7) hL'.tail.tail.tail.tail.tail.tail (by kernel_rfl) (by kernel_rfl)
  obtain ⟨a_12, s_12, c_12, _, _⟩ := laid_err (g := 3) hL'.tail.tail.tail.tail.tail.tail.tail (by kernel_rfl) (by kernel_rfl)
  obtain ⟨a_14, s_14, c_14, _, _⟩ := laid_err (g := 6) hL'.tail.tail.tail.tail.tail.tail.tail.tail (by kernel_rfl) (by kernel_rfl)
  obtain ⟨a_16, s_16, c_16, _, _⟩ := laid_err (g := 5) hL'.tail.tail.tail.tail.tail.tail.tail.tail.tail (by kernel_rfl) (by kernel_rfl)
  obtain ⟨a_17, s_17, c_17, _, _⟩ := laid_err (g := 4) hL'.tail.tail.tail.tail.tail.tail.tail.tail.tail.tail (by kernel_rfl) (by kernel_rfl)
  have hK := laid_kr hL'.tail.tail.tail.tail.tail.tail.tail.tail.tail.tail.tail
  have hE : GErr [1, 2, 3, 4, 6, 8, 9, 12, 14, 16, 17] W (fun k => ¬ (fun _ : Nat => False) k) 251 (fun i => if i = 1 then a_1 else if i = 2 then a_2 else if i = 3 then a_3 else if i = 4 then a_4 else if i = 6 then a_6 else if i = 8 then a_8 else if i = 9 then a_9 else if i = 12 then a_12 else if i = 14 then a_14 else if i = 16 then a_16 else a_17) := by
    refine ⟨fun i hi => ?_, fun i _ => id⟩
    simp only [List.mem_cons, List.not_mem_nil, or_false] at hi
    rcases hi with rfl | rfl | rfl | rfl | rfl | rfl | rfl | rfl | rfl | rfl | rfl
    · unfold eV; exact c_1
    · unfold eV; exact c_2
    · unfold eV; exact c_3
    · unfold eV; exact c_4
    · unfold eV; exact c_6
    · unfold eV; exact c_8
    · unfold eV; exact c_9
    · unfold eV; exact c_12
    · unfold eV; exact c_14
    · unfold eV; exact c_16
    · unfold eV; exact c_17
  have walk := fetchLast_ok (ce := sc0) (kp := sd0) (kS := sf0) hE hK no_res (hs0_0.mv still_id) (hs0_1.mv still_id) (hs0_2.mv still_id)
  rw [← e0] at walk
  refine Calls.mono (show Calls Tryz.prog 5 #[v0] W _ from walk) fun e W' ⟨_, he, hs⟩ => ?_
  subst he
  have bel := below_of hs
  have eF : Rows.fetchLastSpec.fn H ([d0] ++ []) = { results := [.lit (.bool true)], args := [d0] } := rfl
  have l0 : ∀ z ∈ p0, z.block < W.heap.size := fun z hz => hlt z (by simp [hz])
  refine ⟨_, rfl, _, _, _, [], p0 ++ ([]), [], hW', ?_, ?_, ?_, bel.frame _, fun h => by cases h⟩
  · rw [eF]; exact trodAll_cons_mk (shut_bool Tryz.underlying4 _) trodAll_mk0
  · rw [eF, Tryz.params5]
    exact trodAll_cons_mk (Below.trod laidOut (by kernel_rfl) (of_decide_eq_true (by kernel_rfl)) h0 bel l0) (trodAll_mk0)
  · rw [eF]; rfl
set_option maxRecDepth 100000 in
theorem fetchLast_lifted (os : Os) (started : os.Started) (H : Type) (enc : TypeId × Value → H) (F : Stop.Interp) :
    ReturnsInHanded {} Tryz.checked os 5 .any ((OpenSpec.ofChange Rows.fetchLastSpec).preRow enc Tryz.prog Tryz.f5 Rows.fetchLastRow.domain false Rows.fetchLastRow.laid) (((OpenSpec.ofChange Rows.fetchLastSpec).at F).post enc Tryz.prog Tryz.f5 false true false false) := by
  obtain ⟨places, hx⟩ := fetchLast_reads os enc
  refine returnsInHanded_of_row (C := Tryz.checked) (s := OpenSpec.ofChange Rows.fetchLastSpec) own started (by kernel_rfl) Tryz.func5
    (witness_row_atRef (enc := enc) (C := Tryz.checked) false (fetchLast_world os) fetchLast_args rfl (by kernel_rfl) (by kernel_rfl) (by kernel_rfl)
      (OpenSpec.preRow_of_cond 8 hx (by kernel_rfl) (fun k hk => by cases hk) (by kernel_rfl) (fetchLast_laid os _))) ?_
  intro W base args ds gs before hval hW _ _ _ hL _ _
  exact fetchLast_contract H enc W base args ds gs before hval hW hL
theorem and_tt {a b : Bool} (h : a = true) (k : b = true) : (a && b) = true := by rw [h, k]; rfl
theorem fetchLast_k0 : (Rows.fetchLastRow.wf (OpenSpec.ofChange (OpenSpec.ofChange Rows.fetchLastSpec).bare)) = true := by kernel_rfl
theorem fetchLast_k1 : (laidOutB Tryz.pinned.checked.prog) = true := by kernel_rfl
theorem fetchLast_k2 : (mapsRowed Tryz.pinned.checked.prog) = true := by kernel_rfl
theorem fetchLast_k3 : (Tryz.f5.params.all (Tryz.pinned.checked.prog.readableRec ·)) = true := by kernel_rfl
theorem fetchLast_k4 : (namedTie Tryz.pinned.checked.prog Rows.fetchLastRow.named (OpenSpec.ofChange Rows.fetchLastSpec).bare.vars) = true := by kernel_rfl
theorem fetchLast_k5 : ((Rows.fetchLastRow.stops == [])) = true := by kernel_rfl
theorem fetchLast_k6 : ((Tryz.pinned.checked.prog.stops == [])) = true := by kernel_rfl
theorem fetchLast_k7 : ((Rows.fetchLastRow.knobs == [])) = true := by kernel_rfl
theorem fetchLast_k8 : ((Tryz.pinned.checked.prog.stopKnobs == [])) = true := by kernel_rfl
theorem fetchLast_k9 : ((Rows.fetchLastRow.inPlace == Tryz.pinned.checked.prog.inPlace 5)) = true := by kernel_rfl
theorem fetchLast_k10 : ((Rows.fetchLastRow.unfollowed == Tryz.pinned.checked.prog.unfollowed 5)) = true := by kernel_rfl
theorem fetchLast_k11 : ((Rows.fetchLastRow.recurses == Tryz.pinned.checked.prog.recurses 5)) = true := by kernel_rfl
theorem fetchLast_k12 : ((Rows.fetchLastRow.named == Tryz.pinned.checked.prog.varsNamed 5)) = true := by kernel_rfl
theorem fetchLast_k13 : ((Rows.fetchLastRow.maps == (Tryz.f5.params.toList ++ (OpenSpec.ofChange Rows.fetchLastSpec).bare.plain.varTypes Tryz.pinned.checked.prog).any (Tryz.pinned.checked.prog.mapsRec ·))) = true := by kernel_rfl
theorem fetchLast_k14 : ((Rows.fetchLastRow.ifaces == (Tryz.f5.params.toList ++ (OpenSpec.ofChange Rows.fetchLastSpec).bare.plain.varTypes Tryz.pinned.checked.prog).any (Tryz.pinned.checked.prog.ifacesRec ·))) = true := by kernel_rfl
theorem fetchLast_k15 : ((Rows.fetchLastRow.mapsOut == Tryz.pinned.checked.prog.mapsAmong Tryz.f5.resultTypes.toList)) = true := by kernel_rfl
theorem fetchLast_k16 : ((Rows.fetchLastRow.loops == (Tryz.f5.params.toList ++ (OpenSpec.ofChange Rows.fetchLastSpec).bare.plain.varTypes Tryz.pinned.checked.prog).any (Tryz.pinned.checked.prog.loopsFrom ·))) = true := by kernel_rfl
theorem fetchLast_k17 : ((Rows.fetchLastRow.wideKeys == (Tryz.f5.params.toList ++ (OpenSpec.ofChange Rows.fetchLastSpec).bare.plain.varTypes Tryz.pinned.checked.prog ++ Tryz.f5.resultTypes.toList).any (Tryz.pinned.checked.prog.wideKeysFrom ·))) = true := by kernel_rfl
theorem fetchLast_k18 : ((OpenSpec.ofChange Rows.fetchLastSpec).bare.vars.all (Tryz.pinned.checked.prog.varReadable ·)) = true := by kernel_rfl
theorem fetchLast_k19 : (Tryz.f5.resultTypes.all (fun t => Tryz.pinned.checked.prog.readableRec t && decide (t < Tryz.pinned.checked.prog.types.size))) = true := by kernel_rfl
theorem fetchLast_k20 : ((Rows.fetchLastRow.ifacesOut == Tryz.f5.resultTypes.toList.any (Tryz.pinned.checked.prog.ifacesRec ·))) = true := by kernel_rfl
theorem fetchLast_k21 : ((Rows.fetchLastRow.loopsOut == Tryz.f5.resultTypes.toList.any (Tryz.pinned.checked.prog.loopsFrom ·))) = true := by kernel_rfl
theorem fetchLast_k22 : ((Rows.fetchLastRow.plainKeys == Tryz.pinned.checked.prog.plainKeys)) = true := by kernel_rfl
theorem fetchLast_k23 : (Rows.fetchLastRow.shortTexts.isNone) = true := by kernel_rfl
theorem fetchLast_k24 : (Tryz.pinned.checked.prog.stopsHeard) = true := by kernel_rfl
theorem fetchLast_k25 : (Tryz.pinned.checked.prog.mayEnter) = true := by kernel_rfl
theorem fetchLast_k26 : ((Rows.fetchLastRow.lifted == Tryz.pinned.checked.prog.liftsFinal)) = true := by kernel_rfl
theorem fetchLast_k27 : ((Tryz.pinned.checked.prog.make == some Rows.fetchLastRow.make)) = true := by kernel_rfl
theorem fetchLast_k28 : ((Rows.fetchLastRow.kinds == (if Rows.fetchLastRow.domain.isEmpty then [] else Tryz.f5.params.toList.map fun t => match Tryz.pinned.checked.prog.underlying t with | some (.int k) => some k | _ => none))) = true := by kernel_rfl
theorem fetchLast_k29 : ((Rows.fetchLastRow.pinned == Rows.fetchLastRow.pinnedBy)) = true := by kernel_rfl
theorem fetchLast_k30 : ((Rows.fetchLastRow.veiled == (Tryz.f5.params.toList ++ (OpenSpec.ofChange Rows.fetchLastSpec).bare.plain.varTypes Tryz.pinned.checked.prog ++ Tryz.f5.resultTypes.toList).any (Tryz.pinned.checked.prog.veiledRec ·))) = true := by kernel_rfl
theorem fetchLast_k31 : (Rows.fetchLastRow.veiledFits Tryz.pinned.checked.prog Tryz.f5.params.toList (Tryz.f5.params.toList ++ (OpenSpec.ofChange Rows.fetchLastSpec).bare.plain.varTypes Tryz.pinned.checked.prog ++ Tryz.f5.resultTypes.toList)) = true := by kernel_rfl
set_option maxRecDepth 100000 in
theorem fetchLast_facts : joinedFacts Tryz.pinned.checked.prog 5 Tryz.f5 (OpenSpec.ofChange Rows.fetchLastSpec).bare Rows.fetchLastRow = true := (and_tt (and_tt (and_tt (and_tt (and_tt (and_tt (and_tt (and_tt (and_tt (and_tt (and_tt (and_tt (and_tt (and_tt (and_tt (and_tt (and_tt (and_tt (and_tt (and_tt (and_tt (and_tt (and_tt (and_tt (and_tt (and_tt (and_tt (and_tt (and_tt (and_tt (and_tt fetchLast_k0 fetchLast_k1) fetchLast_k2) fetchLast_k3) fetchLast_k4) fetchLast_k5) fetchLast_k6) fetchLast_k7) fetchLast_k8) fetchLast_k9) fetchLast_k10) fetchLast_k11) fetchLast_k12) fetchLast_k13) fetchLast_k14) fetchLast_k15) fetchLast_k16) fetchLast_k17) fetchLast_k18) fetchLast_k19) fetchLast_k20) fetchLast_k21) fetchLast_k22) fetchLast_k23) fetchLast_k24) fetchLast_k25) fetchLast_k26) fetchLast_k27) fetchLast_k28) fetchLast_k29) fetchLast_k30) fetchLast_k31)
theorem fetchLast_said : Rows.FetchLastSaid :=
  OpenClaim.holds_of_cond 5 Tryz.f5 rfl rfl rfl rfl rfl rfl rfl ⟨rfl, rfl, rfl, rfl, rfl⟩ rfl rfl rfl rfl rfl (by kernel_rfl) Tryz.func5 fetchLast_facts
    (of_decide_eq_true (by kernel_rfl)) (by unfold Func.isWrapper; first | (rw [if_pos (by decide +kernel)]; kernel_rfl) | (rw [if_neg (by decide +kernel)]; exact ⟨rfl, rfl⟩))
    (fun os started H enc _ F => by rw [OpenClaim.pre_eq_preRow]; exact fetchLast_lifted os started H enc F)
theorem fetchLast_plain (f : FuncId) (fn : Func) (hf : Tryz.pinned.checked.prog.funcNamed "quorate/quoratelaw19.FetchLast" = some f) (hfn : Tryz.pinned.checked.prog.funcs[f]? = some fn) :
    false = Tryz.pinned.checked.prog.looks [] ∧ ∀ (j : Nat) t, fn.params[j]? = some t → Tryz.pinned.checked.prog.wantsStandIn t = false := by
  obtain rfl : f = 5 := Option.some.inj ((show Tryz.prog.funcNamed "quorate/quoratelaw19.FetchLast" = some 5 by kernel_rfl).symm.trans hf) |>.symm
  obtain rfl : fn = Tryz.f5 := (Option.some.inj (Tryz.func5.symm.trans hfn)).symm
  refine ⟨by kernel_rfl, fun j t ht => ?_⟩
  rw [Tryz.params5] at ht
  have hm := Array.mem_of_getElem? ht
  have h : t = 25 := by simpa using hm
  subst h
  exact (show Tryz.prog.wantsStandIn 25 = false by kernel_rfl)
theorem fetchLast_holds : Rows.FetchLastCardSaid :=
  Claim7.holds_tied_plain_at .later [] _ _ _ _ fetchLast_said (fun _ h => by cases h) (by kernel_rfl) (fun _ h => by cases h) fetchLast_row_tie rfl ⟨rfl, rfl⟩ (by kernel_rfl) rfl fetchLast_plain (by kernel_rfl)
#print axioms fetchLast_holds
end
end Go.Proofs.YtheonhgffglegaaGreatDoor
