/- Part 11 of the proof: contracts of functions of the program and what they need. No condition beyond those that each theorem names. -/
import Derived.Test.YtiljpbljebfhnaaGreatCdP10
set_option linter.unusedVariables false
set_option linter.unusedSimpArgs false
set_option maxRecDepth 10000
namespace Go.Proofs.YtiljpbljebfhnaaGreat
open Go.Eng
open Go.Eng.Fc
theorem at_snoc (W : FW) (objs : List Th) (s : Int) : ∀ (p : List Int) (v : Int × Int), atP W objs v (p ++ [s]) = if (atP W objs v p).2 = true ∧ okO W objs (atP W objs v p).1 s = true then (stepO W objs (atP W objs v p).1 s, true) else ((0, 0), false)
  | [], v => by
    rw [List.nil_append, atP, atP, atP]
    by_cases h : okO W objs v s = true
    · rw [if_pos h, if_pos ⟨rfl, h⟩]
    · rw [if_neg h, if_neg fun hh => h hh.2]
  | x :: r, v => by
    rw [List.cons_append, atP, atP]
    by_cases h : okO W objs v x = true
    · rw [if_pos h, if_pos h]; exact at_snoc W objs s r _
    · rw [if_neg h, if_neg h, if_neg fun hh => by cases hh.1]
theorem toVal_int {W : FW} {objs : List Th} {v : Int × Int} {n : Int} (h : toVal W objs v = .int n) : v.1 = 1 ∧ v.2 = n := by
  unfold toVal at h
  by_cases h1 : v.1 = 1
  · rw [if_pos h1] at h; cases h; exact ⟨h1, rfl⟩
  · rw [if_neg h1] at h; split at h <;> cases h
theorem toVal_obj {W : FW} {objs : List Th} {v : Int × Int} {S : Nat → Bool} (h : toVal W objs v = .obj S) : ¬ v.1 = 1 ∧ ¬ v.1 = 2 ∧ S = fun c => upB W (clsAt objs v).toNat c := by
  unfold toVal at h
  by_cases h1 : v.1 = 1
  · rw [if_pos h1] at h; cases h
  · rw [if_neg h1] at h
    by_cases h2 : v.1 = 2
    · rw [if_pos h2] at h; cases h
    · rw [if_neg h2] at h; cases h; exact ⟨h1, h2, rfl⟩
theorem old_rng {W : FW} {p : List Int} (h : oldB W p = true) : ∀ s ∈ p, 0 ≤ s ∧ s < W.owner.length := fun s hs => by
  have := List.all_eq_true.1 h s hs; simpa using this
theorem vo_in {W : FW} {objs : List Th} {args : List (Int × Int)} {a : Int} {p : List Int} {u : Val} (h : HOk W objs args) (hv : VO W objs args a p = some u) :
    u = .non ∨ ∃ v, valP v objs.length = true ∧ u = toVal W objs v := by
  unfold VO at hv
  split at hv
  · rename_i ha
    split at hv
    · rename_i ho
      split at hv
      · rename_i hb
        exact .inr ⟨_, at_val h.o p _ (h.a _ (getD_mem (by omega))) (old_rng ho) hb, (Option.some.inj hv).symm⟩
      · cases hv
    · cases hv
  · split at hv
    · exact .inl (Option.some.inj hv).symm
    · cases hv
theorem vo_ok {W : FW} {objs : List Th} {args : List (Int × Int)} (h : HOk W objs args) : VOk W (VO W objs args) := by
  have hW := h.o.w
  refine ⟨fun a h0 h3 => ?_, fun a p n hv => ?_, fun a p S hv => ?_, fun a p s h0 h1 => ?_⟩
  · unfold VO
    by_cases ha : 0 ≤ a ∧ a < args.length
    · rw [if_pos ha, show oldB W [] = true from rfl, if_pos rfl, atP, if_pos rfl]; rfl
    · rw [if_neg ha, if_pos ⟨h0, h3, rfl⟩]; rfl
  · rcases vo_in h hv with e | ⟨v, hvv, e⟩
    · cases e
    · obtain ⟨e1, rfl⟩ := toVal_int e.symm
      rw [valP, if_pos e1] at hvv
      simp only [Bool.and_eq_true, decide_eq_true_eq] at hvv
      exact ⟨hvv.1, hvv.2⟩
  · rcases vo_in h hv with e | ⟨v, hvv, e⟩
    · cases e
    · obtain ⟨e1, e2, rfl⟩ := toVal_obj e.symm
      have hc := cls_rng h.o hvv (by have := val_kind hvv; omega)
      refine ⟨upB_zero hW (by omega), ?_, ?_, fun c hcl hS b hub => upB_trans hW _ _ (Nat.le_refl _) (by omega) c b hS hub⟩
      · cases hx : upB W (clsAt objs v).toNat 1 with
        | false => exact hx
        | true => have := upB_le hW _ _ (Nat.le_refl _) (by omega) 1 hx; omega
      · cases hx : upB W (clsAt objs v).toNat 2 with
        | false => exact hx
        | true => have := upB_le hW _ _ (Nat.le_refl _) (by omega) 2 hx; omega
  · unfold VO
    by_cases ha : 0 ≤ a ∧ a < args.length
    · rw [if_pos ha, if_pos ha]
      have hold : oldB W (p ++ [s]) = oldB W p := by rw [oldB, List.all_append, ← oldB]; simp [h0, h1]
      rw [hold]
      cases ho : oldB W p with
      | false => simp
      | true =>
        rw [if_pos rfl, if_pos rfl, at_snoc]
        have hval := at_val h.o p (args.getD a.toNat default) (h.a _ (getD_mem (by omega))) (old_rng ho)
        generalize atP W objs (args.getD a.toNat default) p = r at hval ⊢
        obtain ⟨v, b⟩ := r
        cases b with
        | false => simp
        | true =>
          have hval := hval rfl
          simp only [true_and, if_true]
          have hcls : v.1 = 3 → hasP W (clsAt objs v) s = upB W (clsAt objs v).toNat (ownerN W s) := fun _ => rfl
          constructor
          · intro hh
            by_cases hk : okO W objs v s = true
            · rw [okO, Bool.and_eq_true, beq_iff_eq] at hk
              have h3 := hk.1
              exact ⟨fun c => upB W (clsAt objs v).toNat c, by unfold toVal; rw [if_neg (by omega), if_neg (by omega)], hk.2⟩
            · rw [if_neg hk] at hh; cases hh
          · rintro ⟨S, hS, hSo⟩
            obtain ⟨e1, e2, rfl⟩ := toVal_obj (Option.some.inj hS)
            have e3 : v.1 = 3 := by
              rcases val_kind hval with e | e | e
              · exact absurd e e1
              · exact absurd e e2
              · exact e
            rw [if_pos (show okO W objs v s = true by rw [okO, Bool.and_eq_true, beq_iff_eq]; exact ⟨e3, hSo⟩)]; rfl
    · rw [if_neg ha, if_neg ha, if_neg (by simp)]
      constructor
      · intro hh; cases hh
      · rintro ⟨S, hS, _⟩
        split at hS <;> cases hS
theorem ev_litF (V : VM) (l : FLit) (hl : leafP l.f = true) : ev V (litF l) = litV V l := by
  unfold litF litV
  cases hn : l.neg with
  | true => rw [if_pos rfl, ev_notF, ev_leaf hl]; cases evL V l.f <;> rfl
  | false => rw [if_neg (by simp), ev_leaf hl]; cases evL V l.f <;> rfl
theorem all_congr_mem {α : Type} {l : List α} {p q : α → Bool} (h : ∀ x ∈ l, p x = q x) : l.all p = l.all q := by
  induction l with
  | nil => rfl
  | cons x r ih => rw [List.all_cons, List.all_cons, h x (.head _), ih fun y hy => h y (.tail _ hy)]
theorem spk_nonneg {W : FW} {f : Fact} (hw : wfB W f = true) : 0 ≤ spkN f := by
  have h := (spkNs_le f.kids (if leafP f = true then f.arg + 1 else 0)).1
  rw [← spkN_eq] at h
  refine Int.le_trans ?_ h
  split
  · rename_i hl
    have := leaf_arg hw hl; omega
  · exact Int.le_refl _
theorem spk_not (f : Fact) : spkN (notF f) = if spkN f > 0 then spkN f else 0 := by
  rw [spkN_eq]; rfl
theorem spk_lits {W : FW} : ∀ f : Fact, wfB W f = true → ∀ b, ∀ c ∈ casesP f b, ∀ l ∈ c, spkN (litF l) ≤ spkN f := by
  refine Fact.ind1 fun f ih h b c hc l hl => ?_
  obtain ⟨hn, hk⟩ := wfB_iff.1 h
  have hok := wf_ok f h
  have h0 := spk_nonneg h
  by_cases h1 : f.op = 1
  · rw [cases_true h1] at hc
    cases b <;> simp at hc
    subst hc; cases hl
  by_cases h5 : f.op = 5
  · have hk1 := kids_one hok h5
    rw [cases_not h5 (by omega)] at hc
    have hm := getD_mem (l := f.kids) (k := 0) (by omega)
    exact Int.le_trans (ih _ hm (hk _ hm) _ c hc l hl) (spk_kid hm)
  by_cases hlf : leafP f = true
  · rw [cases_leaf h1 h5 hlf] at hc
    simp at hc; subst hc; simp at hl; subst hl
    unfold litF
    split
    · show spkN (notF f) ≤ spkN f
      rw [spk_not]; split <;> omega
    · exact Int.le_refl _
  · have hlf' : leafP f = false := by simpa using hlf
    have hk2 := kids_two hok h1 h5 hlf'
    have m0 := getD_mem (l := f.kids) (k := 0) (by omega)
    have m1 := getD_mem (l := f.kids) (k := 1) (by omega)
    have i0 := ih _ m0 (hk _ m0) b
    have i1 := ih _ m1 (hk _ m1) b
    cases hcc : (b == (f.op == 6)) with
    | true =>
      rw [cases_either h1 h5 hlf' hcc (by omega)] at hc
      rcases List.mem_append.1 hc with h | h
      · exact Int.le_trans (i0 c h l hl) (spk_kid m0)
      · exact Int.le_trans (i1 c h l hl) (spk_kid m1)
    | false =>
      rw [cases_both h1 h5 hlf' hcc (by omega)] at hc
      obtain ⟨x, hx, hc⟩ := List.mem_flatMap.1 hc
      obtain ⟨y, hy, rfl⟩ := List.mem_map.1 hc
      rcases joined_mem hl with h | h
      · exact Int.le_trans (i0 x hx l h) (spk_kid m0)
      · exact Int.le_trans (i1 y hy l h) (spk_kid m1)
theorem lit_good {W : FW} (hW : worldP W = true) {l : FLit} (hn : nodeOkB W l.f = true) (hl : leafP l.f = true) : goodP W [litF l] = true := by
  have hk := leaf_kids hn hl
  have hw : wfB W l.f = true := wfB_iff.2 ⟨hn, by rw [hk]; simp⟩
  have n1 : nodesN l.f = 1 := by rw [nodesN_eq, hk]; rfl
  have hx : wfB W (litF l) = true ∧ nodesN (litF l) ≤ 2 := by
    unfold litF
    split
    · exact ⟨wf_not hw, by rw [nodes_not]; omega⟩
    · exact ⟨hw, by omega⟩
  have hd := depth_nodes (litF l)
  rw [good1, Bool.and_eq_true, ← formed_eq, hx.1]
  refine ⟨hW, ?_⟩
  simp; omega
/-- a fact holds just if all literals of one of its cases do -/
theorem cased {W : FW} {objs : List Th} {args : List (Int × Int)} {f : Fact} (h : takesP W f objs args = true) :
    ((casesC W (casesP f false)).any fun c => c.all fun x => takesP W x objs args && ev (VO W objs args) x) = ev (VO W objs args) f := by
  simp only [takesP, Bool.and_eq_true, decide_eq_true_eq] at h
  have hG := good_f1 h.1.1
  have hW := hG.1
  have hV := vo_ok (handed_ok hW h.1.2)
  have hce := cases_ev (VO W objs args) f (wf_ok f hG.2.2.1) false
  rw [Bool.bne_false] at hce
  rw [← hce, casesC, List.any_map, List.any_filter]
  refine any_congr_mem fun c hc => ?_
  have hls := case_ls hW hG.2.2.1 hc
  have key : ((factL c).all fun x => takesP W x objs args && ev (VO W objs args) x) = c.all (litV (VO W objs args)) := by
    rw [factL, List.all_map]
    refine all_congr_mem fun l hl => ?_
    obtain ⟨w1, w2⟩ := wf_lits f hG.2.2.1 false c hc l hl
    have ht : takesP W (litF l) objs args = true := by
      simp only [takesP, Bool.and_eq_true, decide_eq_true_eq]
      exact ⟨⟨lit_good hW w1 w2, h.1.2⟩, Int.le_trans (spk_lits f hG.2.2.1 false c hc l hl) h.2⟩
    show (takesP W (litF l) objs args && ev (VO W objs args) (litF l)) = _
    rw [ht, Bool.true_and, ev_litF _ _ w2]
  show (together2 W c && (factL c).all _) = _
  rw [key]
  cases hx : c.all (litV (VO W objs args)) with
  | false => rw [Bool.and_false]
  | true => rw [sem_together hls hV (List.all_eq_true.1 hx)]; rfl
/-- all literals of a case, one behind the other -/
def conjF (l : List Fact) : Fact := l.foldl andF trueF
theorem conj_snoc {l : List Fact} {k : Nat} (h : k < l.length) : conjF (l.take (k + 1)) = andF (conjF (l.take k)) (l.getD k default) := by
  rw [← take_getD h, conjF, List.foldl_append]; rfl
theorem conj_ev (V : VM) : ∀ (l : List Fact) (a : Fact), ev V (l.foldl andF a) = (ev V a && l.all (ev V))
  | [], a => by simp
  | x :: r, a => by rw [List.foldl_cons, conj_ev V r, ev_andF, List.all_cons, Bool.and_assoc]
theorem conj_can {W : FW} {f : Fact} (h : goodP W [f] = true) {x : List Fact} (hx : x ∈ casesC W (casesP f false)) (hg : goodP W [conjF x] = true) : canC W (conjF x) = true := by
  have hG := good_f1 h
  obtain ⟨c, hc, rfl⟩ := List.mem_map.1 hx
  rw [List.mem_filter] at hc
  obtain ⟨V, hV, hl⟩ := (together_sem (case_ls hG.1 hG.2.2.1 hc.1)).1 hc.2
  refine (can_sem hG.1 (good_f1 hg).2.2.1).2 ⟨V, hV, ?_⟩
  rw [conjF, conj_ev, ev_trueF, Bool.true_and, factL, List.all_map, List.all_eq_true]
  intro l hl2
  obtain ⟨w1, w2⟩ := wf_lits f hG.2.2.1 false c hc.1 l hl2
  show ev V (litF l) = true
  rw [ev_litF _ _ w2]; exact hl l hl2
theorem b129 {B : Nat} {f : Fn} {fs cs : List AV} {F : List Ent → Prop} {J Jx : List (List Fact) → List Ent → Prop} (l : List (List Fact)) (hg : FindOk B Tryz.prog (.fn f fs cs) AV.facts l F J Jx) (H Hx : List Ent) (hF : F Hx) (hJ : J [] H) :
    BCall B Tryz.prog 129 [.sl 1 (l.map fun x => [AV.facts x]), .fn f fs cs] (H ++ Hx) (FoundAt J Jx l Hx) (fun _ => False) := by
  refine BCall.of (n := 19) Tryz.func129 rfl (by kernel_rfl) rfl rfl (fun I w0 => ?_)
  refine CW.boundM (t := 0) rfl (fun hb0 => ?_)
  refine S2 ?_; refine Oas ?_; refine S5 ?_; refine Omv ?_; refine Oln ?_; refine Omv ?_; refine S3 ?_
  refine lj (fun m st => ∃ (k : Nat) (H1 : List Ent), st = ⟨[(8, .i k), (7, .i l.length), (0, .sl 1 (l.map fun x => [AV.facts x])), (1, .fn f fs cs)], H1 ++ Hx⟩ ∧ m = l.length - k ∧ k ≤ l.length ∧ J (l.take k) H1) (⟨0, H, rfl, rfl, by simp, hJ⟩) ?_
  rintro m _ ⟨k, H1, rfl, rfl, hk, hJ1⟩
  refine S2 ?_; refine Ocm ?_; refine S3 ?_
  refine CW.cond rfl (fun h0 => ?_) (fun h0 => ?_)
  ·
    replace h0 := nm h0
    refine S6 ?_; refine Omv ?_; refine Oas ?_; refine S4 ?_; refine Omv ?_; refine Omv ?_; refine Omv ?_; refine Oix ?_; refine Old ?_
    refine OL.vcallC rfl rfl rfl rfl rfl rfl rfl rfl (AVleL.refl _) (hg (l.take k) (l.getD k default) H1 Hx (by rw [take_getD (by omega)]; exact List.take_prefix _ _) hF hJ1) ?_
    rintro _ _ ⟨b, H2, rfl, rfl, hb1, hb2⟩
    rw [take_getD (by omega)] at hb1 hb2
    refine S2 ?_
    refine CW.cond rfl (fun h1 => ?_) (fun h1 => ?_)
    ·
      replace h1 := nm h1
      refine S2 ?_; refine Omv ?_; refine Oas ?_; refine S8 ?_
      refine Done.retR (rs := [.tmp 4]) rfl (.tmp rfl (.nil)) (AVleL.refl _) (by repeat (first | exact List.Sublist.refl _ | refine List.Sublist.cons _ ?_)) ?_
      exact ⟨H2, rfl, .inr ⟨l.take k, l.getD k default, l.drop (k + 1), split_getD (by omega), retI (by rw [List.length_take, Nat.min_eq_left (by omega)]), by rw [take_getD (by omega)]; exact hb2 h1⟩⟩
    ·
      replace h1 := nm h1
      refine S4 ?_; refine Oar ?_; refine Omv ?_; refine S1 ?_
      exact ag (⟨k + 1, H2, rfl, rfl, by omega, hb1 h1⟩)
  ·
    replace h0 := nm h0
    refine S7 ?_; refine Oas ?_; refine S3 ?_
    refine Done.retR (rs := [.tmp 4]) rfl (.tmp rfl (.nil)) (AVleL.refl _) (by repeat (first | exact List.Sublist.refl _ | refine List.Sublist.cons _ ?_)) ?_
    exact ⟨H1, rfl, .inl ⟨rfl, by have e : k = l.length := (by omega); rw [e, List.take_length] at hJ1; exact hJ1⟩⟩
theorem q129 {Hm : List Ent} {f : Fn} {fs cs : List AV} {p : (List Fact) → Bool} {l : List (List Fact)} (hg : PredOn Tryz.prog Hm (.fn f fs cs) AV.facts l p) : QCallIn Tryz.prog Hm 129 [.sl 1 (l.map fun x => [AV.facts x]), .fn f fs cs] (fun y => ∃ n : Int, y = .i n ∧ decide (n ≥ 0) = l.any p) :=
  find_pure (by kernel_rfl) (fun B F J Jx h H Hx hF hJ => b129 l h H Hx hF hJ) hg
theorem pi74 {Hm : List Ent} {f : Fn} {fs cs : List AV} {p : (List Fact) → Bool} {l : List (List Fact)} (hg : PredOn Tryz.prog Hm (.fn f fs cs) AV.facts l p) : PCallIn Tryz.prog Hm 74 [.sl 1 (l.map fun x => [AV.facts x]), .fn f fs cs] (.b (l.any p)) := by
  intro H hm
  refine ACall.mk' (n := 9) Tryz.func74 rfl (by kernel_rfl) rfl rfl (fun B I w0 => ?_)
  refine S2 ?_; refine Oas ?_; refine S4 ?_; refine Omv ?_; refine Omv ?_
  refine OL.qcallIn rfl rfl rfl (.mk' rfl rfl rfl rfl rfl) (q129 hg) hm (fun y hy => ?_)
  obtain ⟨n, rfl, hn⟩ := hy
  refine Ocm ?_; refine Oas ?_; refine S3 ?_
  refine r1 4 (H) ?_
  exact ⟨retB hn, rfl⟩
theorem p74 {f : Fn} {fs cs : List AV} {p : (List Fact) → Bool} (hg : PredOk Tryz.prog (.fn f fs cs) AV.facts p) (l : List (List Fact)) : PCall Tryz.prog 74 [.sl 1 (l.map fun x => [AV.facts x]), .fn f fs cs] (.b (l.any p)) := (pi74 (hg.on l)).pure
theorem q130 {Hm : List Ent} {f : Fn} {fs cs : List AV} {p : Fact → Bool} {l : List Fact} (hg : PredOn Tryz.prog Hm (.fn f fs cs) AV.fact l p) : QCallIn Tryz.prog Hm 130 [.sl 6 (encFs l), .fn f fs cs] (fun y => ∃ n : Int, y = .i n ∧ decide (n ≥ 0) = l.any p) :=
  find_pure (by kernel_rfl) (fun B F J Jx h H Hx hF hJ => b130 l h H Hx hF hJ) hg
theorem pi76 {Hm : List Ent} {f : Fn} {fs cs : List AV} {p : Fact → Bool} {l : List Fact} (hg : PredOn Tryz.prog Hm (.fn f fs cs) AV.fact l p) : PCallIn Tryz.prog Hm 76 [.sl 6 (encFs l), .fn f fs cs] (.b (l.any p)) := by
  intro H hm
  refine ACall.mk' (n := 9) Tryz.func76 rfl (by kernel_rfl) rfl rfl (fun B I w0 => ?_)
  refine S2 ?_; refine Oas ?_; refine S4 ?_; refine Omv ?_; refine Omv ?_
  refine OL.qcallIn rfl rfl rfl (.mk' rfl rfl rfl rfl rfl) (q130 hg) hm (fun y hy => ?_)
  obtain ⟨n, rfl, hn⟩ := hy
  refine Ocm ?_; refine Oas ?_; refine S3 ?_
  refine r1 4 (H) ?_
  exact ⟨retB hn, rfl⟩
theorem p76 {f : Fn} {fs cs : List AV} {p : Fact → Bool} (hg : PredOk Tryz.prog (.fn f fs cs) AV.fact p) (l : List Fact) : PCall Tryz.prog 76 [.sl 6 (encFs l), .fn f fs cs] (.b (l.any p)) := (pi76 (hg.on l)).pure
theorem p77 (g : Gv) (x : Fact) : PCall Tryz.prog 77 [AV.fact x, .ptr (Gcells g)] (.b (!(takesP g.W x g.objs g.args && ev (VO g.W g.objs g.args) x))) := by
  intro H
  refine ACall.mk' (n := 23) Tryz.func77 rfl (by kernel_rfl) rfl rfl (fun B I w0 => ?_)
  refine S2 ?_; refine Obx ?_; refine Oas ?_; refine S4 ?_; refine Ofa ?_; refine Ola ?_; refine Ola ?_; refine Ofa ?_; refine Old ?_; refine Ofa ?_; refine Old ?_
  refine OL.popC rfl rfl rfl (POp.call (.mk' rfl rfl rfl rfl rfl) (p68 g.W x g.objs g.args)) ?_
  refine Omv ?_; refine Oex ?_; refine Oex ?_; refine Oas ?_; refine Oas ?_; refine S4 ?_; refine Omv ?_; refine Ocm ?_; refine Omv ?_; refine Pmv ?_; refine Pnt ?_; refine Opk ?_
  refine Oas ?_; refine S3 ?_
  refine r1 3 (H) ?_
  exact ⟨retB (by cases takesP g.W x g.objs g.args <;> cases ev (VO g.W g.objs g.args) x <;> rfl), rfl⟩
theorem p75 (g : Gv) (c : List Fact) : PCall Tryz.prog 75 [AV.facts c, .ptr (Gcells g)] (.b (c.all fun x => (takesP g.W x g.objs g.args && ev (VO g.W g.objs g.args) x))) := by
  intro H
  refine ACall.mk' (n := 8) Tryz.func75 rfl (by kernel_rfl) rfl rfl (fun B I w0 => ?_)
  refine S2 ?_; refine Oas ?_; refine S4 ?_; refine Omv ?_; refine Omf ?_
  refine OL.popC rfl rfl rfl (POp.call (.mk' rfl rfl rfl rfl rfl) (p76 (.of (p77 g)) c)) ?_
  refine Ont ?_; refine Oas ?_; refine S3 ?_
  refine r1 3 (H) ?_
  exact ⟨retB (by simp [List.not_any_eq_all_not]), rfl⟩
end Go.Proofs.YtiljpbljebfhnaaGreat

set_option linter.unusedVariables false
set_option linter.unusedSimpArgs false
set_option maxRecDepth 10000
namespace Go.Proofs.YtiljpbljebfhnaaGreat
open Go.Eng
open Go.Eng.Fc
theorem CW.blkLe {c : Ctx} {r : Option Nat} {P : Program} {p : Code} {Q : Exit → Act → World → Prop} {env : List (Nat × AV)} {b t : Nat} {cs ds : List AV} {R : List Ent} (hle : AVleL cs ds) (h : CW c r P p ⟨env, .blk b t ds :: R⟩ Q) : CW c r P p ⟨env, .blk b t cs :: R⟩ Q := fun a w s => by
  refine h a w ?_
  obtain ⟨I, hw, he, hh, hv⟩ := s.mem
  exact ⟨s.ds, s.size, I, hw, he, HeapOk.head hh (fun ⟨q1, us, q2, q3, q4⟩ => ⟨q1, us, q2, hle.rel q3, q4⟩) rfl, hv⟩
theorem p15n (g : Gv) (h : goodP g.W [g.A] = false) : PCall Tryz.prog 15 [AV.given g] (.b true) := by
  intro H
  refine ACall.mk' (n := 88) Tryz.func15 rfl (by kernel_rfl) rfl rfl (fun B I w0 => ?_)
  refine S2 ?_; refine Obx ?_; refine Oas ?_; refine S4 ?_; refine Ofa ?_; refine Ola ?_; refine Ofa ?_; refine Ola ?_
  refine OL.popC rfl rfl rfl (POp.call (.mk' rfl rfl rfl rfl rfl) (p17n h)) ?_
  refine Omv ?_; refine Oex ?_; refine Oex ?_; refine Oas ?_; refine Oas ?_; refine S5 ?_; refine Omv ?_; refine Ocm ?_; refine S2 ?_
  refine CW.cond rfl (fun h0 => ?_) (fun h0 => ?_)
  ·
    refine S2 ?_; refine Omv ?_; refine Oln ?_; refine Ocm ?_; refine Omv ?_
    refine OL.guardC rfl rfl rfl rfl rfl rfl (fun hg => POp.call (.mk' rfl rfl rfl rfl rfl) (p21)) ?_
    refine Opk ?_; refine Oas ?_; refine S4 ?_
    refine r1 2 (H) ?_
    exact ⟨by rfl, rfl⟩
  ·
    cases h0
theorem p15g (g : Gv) (h : goodP g.W [g.A] = true) : PCall Tryz.prog 15 [AV.given g] (.b true) := by
  intro H
  refine ACall.mk' (n := 88) Tryz.func15 rfl (by kernel_rfl) rfl rfl (fun B I w0 => ?_)
  have hG := good_f1 h
  refine S2 ?_; refine Obx ?_; refine Oas ?_; refine S4 ?_; refine Ofa ?_; refine Ola ?_; refine Ofa ?_; refine Ola ?_
  refine OL.popC rfl rfl rfl (POp.call (.mk' rfl rfl rfl rfl rfl) (p17c h)) ?_
  refine Omv ?_; refine Oex ?_; refine Oex ?_; refine Oas ?_; refine Oas ?_; refine S5 ?_; refine Omv ?_; refine Ocm ?_; refine S2 ?_
  refine CW.cond rfl (fun h0 => ?_) (fun h0 => ?_)
  ·
    cases h0
  ·
    refine S2 ?_
    refine CW.cutJ (fun st => st = ⟨[(3, AV.factss (casesC g.W (casesP g.A false))), (2, .b false), (1, .ptr (Gcells g))], H⟩) ?_ ?_
    ·
      refine S2 ?_; refine Ofa ?_; refine Ola ?_; refine Ofa ?_; refine Ola ?_; refine Ofa ?_; refine Old ?_; refine Ofa ?_; refine Old ?_
      refine OL.popC rfl rfl rfl (POp.call (.mk' rfl rfl rfl rfl rfl) (p68 g.W g.A g.objs g.args)) ?_
      refine Omv ?_; refine Oex ?_; refine Oex ?_; refine Oas ?_; refine Oas ?_; refine S4 ?_; refine Omv ?_; refine Ocm ?_; refine S2 ?_
      refine CW.cond rfl (fun h1 => ?_) (fun h1 => ?_)
      ·
        have ht : takesP g.W g.A g.objs g.args = true := by cases hx : takesP g.W g.A g.objs g.args; rw [hx] at h1; cases h1; rfl
        refine S2 ?_; refine Omv ?_; refine Omf ?_
        refine OL.popC rfl rfl rfl (POp.call (.mk' rfl rfl rfl rfl rfl) (p74 (.of (p75 g)) (casesC g.W (casesP g.A false)))) ?_
        refine Oas ?_; refine S4 ?_; refine Omv ?_; refine Omv ?_; refine Onb ?_; refine S2 ?_
        refine CW.cond rfl (fun h2 => ?_) (fun h2 => ?_)
        ·
          exact absurd h2 (by rw [cased ht, ht]; simp)
        ·
          refine S1 ?_
          exact Done.cutJ rfl (by repeat (first | exact trivial | refine ⟨rfl, ?_⟩)) (by repeat (first | exact List.Sublist.refl _ | refine List.Sublist.cons _ ?_))
      ·
        refine S1 ?_
        exact Done.cutJ rfl (by repeat (first | exact trivial | refine ⟨rfl, ?_⟩)) (by repeat (first | exact List.Sublist.refl _ | refine List.Sublist.cons _ ?_))
    ·
      rintro _ rfl
      refine S3 ?_; refine Omv ?_; refine Oln ?_; refine Omv ?_; refine S3 ?_
      refine lj (fun m st => ∃ i : Nat, st = ⟨[(53, .i i), (52, .i (casesC g.W (casesP g.A false)).length), (51, AV.factss (casesC g.W (casesP g.A false))), (2, .b false), (1, .ptr (Gcells g))], H⟩ ∧ m = (casesC g.W (casesP g.A false)).length - i ∧ i ≤ (casesC g.W (casesP g.A false)).length) (⟨0, rfl, rfl, by omega⟩) ?_
      rintro m _ ⟨i, rfl, rfl, hi⟩
      refine CW.boundM (t := 51) rfl (fun hb => ?_)
      refine S2 ?_; refine Ocm ?_; refine S3 ?_
      refine CW.cond rfl (fun h3 => ?_) (fun h3 => ?_)
      ·
        replace h3 := nm h3
        have hil : i < (casesC g.W (casesP g.A false)).length := by omega
        have hxm := getD_mem hil
        refine S6 ?_; refine Oix ?_; refine Old ?_; refine Oas ?_; refine S4 ?_; refine Obd ?_
        refine OL.alC rfl rfl rfl rfl (fun cb => ?_)
        refine Sto ?_; refine S4 ?_
        refine CW.blkLe trueF_le ?_
        refine S1 ?_; refine Omv ?_; refine Oln ?_; refine Omv ?_; refine S3 ?_
        refine lj (fun m st => ∃ k : Nat, st = ⟨[(60, .i k), (59, .i ((casesC g.W (casesP g.A false)).getD i default).length), (58, AV.facts ((casesC g.W (casesP g.A false)).getD i default)), (10, .p cb 0), (53, .i i), (52, .i (casesC g.W (casesP g.A false)).length), (51, AV.factss (casesC g.W (casesP g.A false))), (2, .b false), (1, .ptr (Gcells g))], .blk cb 29 (Fcells (conjF (((casesC g.W (casesP g.A false)).getD i default).take k))) :: H⟩ ∧ m = ((casesC g.W (casesP g.A false)).getD i default).length - k ∧ k ≤ ((casesC g.W (casesP g.A false)).getD i default).length) (⟨0, rfl, rfl, by omega⟩) ?_
        rintro m _ ⟨k, rfl, rfl, hk⟩
        refine CW.boundM (t := 58) rfl (fun hb2 => ?_)
        refine S2 ?_; refine Ocm ?_; refine S3 ?_
        refine CW.cond rfl (fun h4 => ?_) (fun h4 => ?_)
        ·
          replace h4 := nm h4
          have hkl : k < ((casesC g.W (casesP g.A false)).getD i default).length := by omega
          have hcs := conj_snoc hkl
          refine S6 ?_; refine Oix ?_; refine Ola ?_
          refine OL.alC rfl rfl rfl rfl (fun yb => ?_)
          refine Sto ?_; refine S3 ?_; refine Ola ?_; refine Ola ?_
          refine OL.popC rfl rfl rfl (POp.call (.mk' rfl rfl rfl rfl rfl) (p36 _ _)) ?_
          rw [← hcs]
          refine Sto ?_; refine S4 ?_; refine Oar ?_; refine Omv ?_; refine S1 ?_
          exact ag (⟨k + 1, rfl, rfl, by omega⟩)
        ·
          replace h4 := nm h4
          obtain rfl : k = ((casesC g.W (casesP g.A false)).getD i default).length := by omega
          rw [List.take_length]
          refine S8 ?_; refine Ofa ?_; refine Ola ?_; refine Ola ?_
          refine OL.popC rfl rfl rfl (POp.call (.mk' rfl rfl rfl rfl rfl) (p47 g.W (conjF ((casesC g.W (casesP g.A false)).getD i default)))) ?_
          refine Ocm ?_; refine S2 ?_
          refine CW.cond rfl (fun h5 => ?_) (fun h5 => ?_)
          ·
            refine S5 ?_; refine Oar ?_; refine Omv ?_; refine S1 ?_
            exact ag (⟨i + 1, rfl, rfl, by omega⟩)
          ·
            have hgc : goodP g.W [conjF ((casesC g.W (casesP g.A false)).getD i default)] = true := by cases hx : goodP g.W [conjF ((casesC g.W (casesP g.A false)).getD i default)]; rw [hx] at h5; cases h5; rfl
            have hcc := conj_can h hxm hgc
            refine S4 ?_; refine Ofa ?_; refine Ola ?_; refine Ola ?_
            refine OL.popC rfl rfl rfl (POp.call (.mk' rfl rfl rfl rfl rfl) (p18c hgc)) ?_
            refine Omv ?_; refine Oex ?_; refine Oex ?_; refine Oas ?_; refine Oas ?_; refine S4 ?_; refine Omv ?_; refine Ocm ?_; refine Omv ?_; refine Pmv ?_; refine Pnt ?_; refine Opk ?_
            refine S2 ?_
            refine CW.cond rfl (fun h6 => ?_) (fun h6 => ?_)
            ·
              exact absurd h6 (by rw [hcc]; simp)
            ·
              refine S4 ?_; refine Oar ?_; refine Omv ?_; refine S1 ?_
              exact ag (⟨i + 1, rfl, rfl, by omega⟩)
      ·
        refine S7 ?_
        refine OL.popC rfl rfl rfl (POp.call (.mk' rfl rfl rfl rfl rfl) (p21)) ?_
        refine Oas ?_; refine S3 ?_
        refine r1 2 (H) ?_
        exact ⟨by rfl, rfl⟩
theorem p15 (g : Gv) : PCall Tryz.prog 15 [AV.given g] (.b true) := by
  cases h : goodP g.W [g.A] with
  | true => exact p15g g h
  | false => exact p15n g h
end Go.Proofs.YtiljpbljebfhnaaGreat
