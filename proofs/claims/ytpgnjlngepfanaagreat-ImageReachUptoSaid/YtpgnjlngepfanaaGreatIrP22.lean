/- Part 22 of the proof: contracts of functions of the program and what they need. No condition beyond those that each theorem names. -/
import Derived.Test.YtpgnjlngepfanaaGreatIrP21
import Derived.Tactics
import Derived.Tactics2
import Derived.Laws.Pointers
import Derived.TacticsInMore
import Derived.RegionIn
import Derived.RecoverIn
set_option linter.unusedVariables false
set_option linter.unusedSimpArgs false
set_option maxRecDepth 10000
namespace Go.Proofs.YtpgnjlngepfanaaGreat
open Go.Eng
open Go.Eng.Fc
open Go.Eng.Bd
theorem speaksC : ∀ {f : Fact}, smallA f = true → PCall Tryz.prog 203 [AV.fact f] (.i (speaksP f)) := fun {f} => by
 refine Fact.ind1 (P := fun f => smallA f = true → PCall Tryz.prog 203 [AV.fact f] (.i (speaksP f))) (fun f ih hf => speaks_step f hf fun k hk => ih k hk ((smallA_iff hf).2.2 k hk)) f
theorem factFormedC (W : Fc.FW) (f : Fact) : PCall Tryz.prog 202 [AV.world W, AV.fact f] (.i (if worldP W && formedP W f then 0 else 2)) := by
 cases h : worldP W with
 | true => simpa using factFormedT h f
 | false => simpa using factFormedF h f
theorem sizes1 {p : Prog} (hp : p.Small) (ob : Nat) (H : List Ent) : ACall Tryz.prog 193 [.ptr (progC p), .p ob 0] (.blk ob 23 [(.val (.slice none 0 0))] :: H) (fun _ H' => ∃ nb o, sizesP p = some o ∧ H' = outH ob nb p.nodes.length o ++ H) (fun y H' => y = unfA ∧ sizesP p = none ∧ ∃ v, H' = .blk ob 23 [.val v] :: H) := by
 refine ACall.mk' (n := 130) Tryz.func193 rfl (by kernel_rfl) rfl rfl (fun B I w0 => ?_)
 refine S2 ?_; refine Ola ?_
 refine OL.bcall rfl rfl (.mk' rfl rfl rfl rfl rfl) (classesC hp _).b ?_ ?_
 ·
  rintro y H1 ⟨hcl, rfl⟩
  obtain ⟨hc10, hcs⟩ := classes_small hcl
  refine S4 ?_; refine Ofa ?_; refine Old ?_; refine Oln ?_; refine Ocm ?_; refine Omv ?_; refine Pfa ?_; refine Pld ?_; refine Pln ?_; refine Pcm ?_; refine Opk ?_; refine Omv ?_
  refine Pfa ?_; refine Pld ?_; refine Pln ?_; refine Pcm ?_; refine Opk ?_; refine Omv ?_; refine Pfa ?_; refine Pld ?_; refine Pln ?_; refine Pcm ?_; refine Opk ?_
  rcases bool_or (headP p) with hh | hh
  ·
   refine OL.rcallN rfl rfl (.mk' rfl rfl rfl rfl rfl) (needF (by simp only [Bool.cond_false_right]; exact hh) _) unf_c ?_
   intro a w s
   exact outP (P := Tryz.prog) (fn := Tryz.f193) unf_c (.refl _) ⟨rfl, szs_no2 hh, _, rfl⟩ a w s
  ·
   refine OL.rcallS rfl rfl rfl (.mk' rfl rfl rfl rfl rfl) (needT (by simp only [Bool.cond_false_right]; exact hh) _) ?_
   have hh2 := hh
   simp only [headP, Bool.and_eq_true, decide_eq_true_eq] at hh2
   refine S5 ?_; refine Ofa ?_; refine Old ?_; refine Oln ?_; refine Omv ?_; refine S3 ?_
   refine lj (fun m st => ∃ i : Nat, st = ⟨[(36, .i i), (35, .i p.gens.length), (34, AV.ints p.gens), (0, .ptr (progC p)), (1, .p ob 0)], .blk ob 23 [(.val (.slice none 0 0))] :: H⟩ ∧ m = p.gens.length - i ∧ i ≤ p.gens.length ∧ (p.gens.take i).all genP = true) (⟨0, rfl, rfl, by omega, rfl⟩) ?_
   rintro m _ ⟨i, rfl, rfl, hi, hga⟩
   refine S2 ?_; refine Ocm ?_; refine S3 ?_
   refine CW.cond rfl (fun h0 => ?_) (fun h0 => ?_)
   ·
    replace h0 := nm h0
    have hil : i < p.gens.length := by omega
    refine S6 ?_
    refine OL.popC rfl rfl rfl ((by first | exact POp.ixM rfl rfl rfl rfl rfl hil | exact POp.ixI rfl rfl rfl rfl rfl hil)) ?_
    refine Old ?_; refine Oas ?_; refine S3 ?_; refine Omv ?_; refine Ocm ?_; refine Omv ?_; refine Pmv ?_; refine Pcm ?_; refine Opk ?_
    rcases bool_or (genP (p.gens.getD i default)) with h1 | h1
    ·
     refine OL.rcallN rfl rfl (.mk' rfl rfl rfl rfl rfl) (needF (by simp only [Bool.cond_false_right]; exact h1) _) unf_c ?_
     intro a w s
     exact outP (P := Tryz.prog) (fn := Tryz.f193) unf_c (.refl _) ⟨rfl, szs_no3 (all_noG hil h1), _, rfl⟩ a w s
    ·
     refine OL.rcallS rfl rfl rfl (.mk' rfl rfl rfl rfl rfl) (needT (by simp only [Bool.cond_false_right]; exact h1) _) ?_
     refine S4 ?_; refine Oar ?_; refine Omv ?_; refine S1 ?_
     exact ag (⟨i + 1, rfl, rfl, hil, by rw [← take_getD hil, List.all_append, hga, List.all_cons, h1]; rfl⟩)
   ·
    replace h0 := nm h0
    obtain rfl : i = p.gens.length := by omega
    rw [List.take_length] at hga
    refine S7 ?_
    refine OL.popC (x := .sl 1 [[.i (-1)]]) rfl rfl rfl (POp.row rfl rfl (by first | rfl | simp_all [strip]) rfl rfl rfl rfl rfl rfl) ?_
    refine Ofa ?_; refine Old ?_; refine Oln ?_
    refine OL.bcallC rfl rfl rfl (.mk' rfl rfl rfl rfl rfl) (repeatI p.nodes.length (by omega) _).b ?_
    ·
     rintro _ _ ⟨nb, rfl, rfl⟩
     refine Sto ?_; refine S3 ?_
     refine CW.perm (H' := .blk ob 23 [(.val (.slice (some ⟨nb, 0, none⟩) p.nodes.length p.nodes.length))] :: .blk nb 3 (List.replicate p.nodes.length (.i (-1))) :: H) (.swap _ _ _) ?_
     refine CW.eqH (H' := outH ob nb p.nodes.length (out0 p) ++ H) (by rw [← out0_map]; rfl) ?_
     refine S1 ?_; refine Omf ?_; refine Oas ?_; refine S4 ?_; refine Ola ?_
     refine OL.popC rfl rfl rfl (POp.call (.mk' rfl rfl rfl rfl rfl) (worldB p (by omega) hcs)) ?_
     refine OL.alC rfl rfl rfl rfl (fun wb => ?_)
     refine Sto ?_; refine S4 ?_
     refine CW.freezeP (d := 5) rfl (by repeat (first | exact Del.head _ _ | apply Del.tail)) ?_
     refine S1 ?_; refine Ofa ?_; refine Old ?_; refine Oln ?_; refine Omv ?_; refine S3 ?_
     refine lj (fun m st => ∃ (i : Nat) (o : List Int), st = ⟨[(59, .i i), (58, .i p.methods.length), (57, .sl 9 (p.methods.map mthA)), (5, .ptr (Wcells (worldOf p))), (4, (.fn (.func 197) [] [.ptr (progC p), .p ob 0])), (0, .ptr (progC p)), (1, .p ob 0)], outH ob nb p.nodes.length o ++ H⟩ ∧ m = p.methods.length - i ∧ i ≤ p.methods.length ∧ methodsN p p.methods (out0 p) = methodsN p (p.methods.drop i) o ∧ o.length = p.nodes.length) (⟨0, out0 p, rfl, rfl, by omega, rfl, by simp [out0]⟩) ?_
     rintro m _ ⟨i, o, rfl, rfl, hi, hmN, hol⟩
     refine S2 ?_; refine Ocm ?_; refine S3 ?_
     refine CW.cond rfl (fun h1 => ?_) (fun h1 => ?_)
     ·
      replace h1 := nm h1
      have hil : i < p.methods.length := by omega
      obtain ⟨M, hM⟩ : ∃ M, M = (p.methods.getD i default) := ⟨_, rfl⟩
      refine S6 ?_
      refine OL.popC rfl rfl rfl ((by first | exact POp.ixM rfl rfl rfl rfl rfl hil | exact POp.ixI rfl rfl rfl rfl rfl hil)) ?_
      refine Ola ?_
      refine OL.alC rfl rfl rfl rfl (fun b1 => ?_)
      refine Sto ?_; refine S3 ?_
      rw [← hM]
      refine CW.freezeP (d := 7) rfl (by repeat (first | exact Del.head _ _ | apply Del.tail)) ?_
      refine S1 ?_; refine Ofa ?_; refine Old ?_; refine Ocm ?_; refine Omv ?_; refine Pfa ?_; refine Pld ?_; refine Pcm ?_; refine Opk ?_; refine Omv ?_; refine Pfa ?_; refine Pld ?_
      refine Pcm ?_; refine Opk ?_; refine Omv ?_; refine Pfa ?_; refine Pld ?_; refine Pfa ?_; refine Pld ?_; refine Pln ?_; refine Pcm ?_; refine Opk ?_
      rcases bool_or (mth1 p M) with h1 | h1
      ·
       refine OL.rcallN rfl rfl (.mk' rfl rfl rfl rfl rfl) (needF (by simp only [Bool.cond_false_right]; exact h1) _) unf_c ?_
       intro a w s
       exact outP (P := Tryz.prog) (fn := Tryz.f193) unf_c (.cons_cons _ (.cons _ (.refl _))) ⟨rfl, szs_no4 (by rw [hmN]; exact mths_no hil hM (by rw [h1]; rfl)), _, rfl⟩ a w s
      ·
       refine OL.rcallS rfl rfl rfl (.mk' rfl rfl rfl rfl rfl) (needT (by simp only [Bool.cond_false_right]; exact h1) _) ?_
       have hm1 := h1
       simp only [mth1, Bool.and_eq_true, decide_eq_true_eq] at hm1
       have hgm : M.gen.toNat < p.gens.length := by omega
       have hgn := gens_in hga (getD_memB hgm)
       refine S3 ?_
       refine CW.dp mixed ?_
       refine DP.anyC 0 3 130 rfl (by decide +kernel) rfl rfl (by decide +kernel) ?_
       refine Ala ?_; refine Afa ?_; refine Ala ?_
       refine AD.nil ?_
       refine DP.one (k := 3) (by decide +kernel) rfl ?_
       refine OL.popC rfl rfl rfl (POp.call (.mk' rfl rfl rfl rfl rfl) (factFormedC (worldOf p) M.fact)) ?_
       refine OL.nil (Done.dp ?_)
       refine DP.one (k := 4) (by decide +kernel) rfl ?_
       refine Ocm ?_
       refine OL.nil (Done.dp ?_)
       refine DP.one (k := 5) (by decide +kernel) rfl ?_
       refine Omv ?_
       refine OL.nil (Done.dp ?_)
       refine DP.anyC 6 15 130 rfl (by decide +kernel) rfl rfl (by decide +kernel) ?_
       refine AD.guardC rfl rfl rfl rfl rfl (fun hg => (by first | exact POp.fa rfl rfl rfl rfl | exact POp.faP rfl rfl rfl rfl)) ?_
       refine AD.guardC rfl rfl rfl rfl rfl (fun hg => (by first | exact POp.ldA rfl rfl (gd hg) rfl | (apply POp.ldAH rfl rfl (gd hg); (case hm => repeat (first | exact .head _ | refine .tail _ ?_)); (case hy => rfl); (case hn => rfl)))) ?_
       refine AD.guardC rfl rfl rfl rfl rfl (fun hg => POp.call (.mk' rfl rfl rfl rfl (by first | rfl | ((repeat (first | exact hg | rfl | refine Bool.and_eq_true_iff.2 ⟨?_, ?_⟩)); done) | simp_all [strip, constAV])) (speaksC (formed_smallA (w := worldOf p) (by have := zero_of_if hg; rw [Bool.and_eq_true] at this; exact this.2)))) ?_
       refine AD.guardC rfl rfl rfl rfl rfl (fun hg => (by first | exact POp.fa rfl rfl rfl rfl | exact POp.faP rfl rfl rfl rfl)) ?_
       refine AD.guardC rfl rfl rfl rfl rfl (fun hg => (by first | exact POp.ld1 rfl rfl (gd hg) rfl | (apply POp.ld1H rfl rfl (gd hg); (case hm => repeat (first | exact .head _ | refine .tail _ ?_)); (case hy => rfl)))) ?_
       refine AD.guardC rfl rfl rfl rfl rfl (fun hg => (by first | exact POp.fa rfl rfl rfl rfl | exact POp.faP rfl rfl rfl rfl)) ?_
       refine AD.guardC rfl rfl rfl rfl rfl (fun hg => (by first | exact POp.ld1 rfl rfl (gd hg) rfl | (apply POp.ld1H rfl rfl (gd hg); (case hm => repeat (first | exact .head _ | refine .tail _ ?_)); (case hy => rfl)))) ?_
       refine AD.guardC rfl rfl rfl rfl rfl (fun hg => (by first | exact POp.ixM rfl rfl (gd hg) rfl (gd hg) ⟨by omega, by omega⟩ | exact POp.ixI rfl rfl (gd hg) rfl (gd hg) ⟨by omega, by omega⟩)) ?_
       refine AD.guardC rfl rfl rfl rfl rfl (fun hg => (by first | exact POp.ld1 rfl rfl (gd hg) rfl | (apply POp.ld1H rfl rfl (gd hg); (case hm => repeat (first | exact .head _ | refine .tail _ ?_)); (case hy => rfl)))) ?_
       refine AD.nil ?_
       refine DP.tailC 15 (by decide +kernel) rfl ?_
       refine Pcm ?_; refine Opk ?_
       rcases bool_or (mth2 p M) with h2 | h2
       ·
        refine OL.rcallN rfl rfl (.mk' rfl rfl rfl rfl rfl) (needF (by rw [Bool.cond_false_right, if_zero]; exact h2) _) unf_c ?_
        intro a w s
        exact outP (P := Tryz.prog) (fn := Tryz.f193) unf_c (.cons_cons _ (.cons _ (.refl _))) ⟨rfl, szs_no4 (by rw [hmN]; exact mths_no hil hM (by rw [h2, Bool.and_false])), _, rfl⟩ a w s
       ·
        refine OL.rcallS rfl rfl rfl (.mk' rfl rfl rfl rfl rfl) (needT (by rw [Bool.cond_false_right, if_zero]; exact h2) _) ?_
        refine S2 ?_
        refine CW.dp mixed ?_
        refine DP.anyC 0 17 130 rfl (by decide +kernel) rfl rfl (by decide +kernel) ?_
        refine Amv ?_; refine Afa ?_; refine Ald ?_; refine Afa ?_; refine Ald ?_; refine Afa ?_; refine Ald ?_
        refine AD.popC rfl rfl rfl ((by first | exact POp.ixM rfl rfl rfl rfl rfl ⟨by omega, by omega⟩ | exact POp.ixI rfl rfl rfl rfl rfl ⟨by omega, by omega⟩)) ?_
        refine Ald ?_; refine Afa ?_; refine Ald ?_; refine Acm ?_; refine Amv ?_
        refine AD.guardC rfl rfl rfl rfl rfl (fun hg => (by first | exact POp.fa rfl rfl rfl rfl | exact POp.faP rfl rfl rfl rfl)) ?_
        refine AD.guardC rfl rfl rfl rfl rfl (fun hg => (by first | exact POp.ld1 rfl rfl (gd hg) rfl | (apply POp.ld1H rfl rfl (gd hg); (case hm => repeat (first | exact .head _ | refine .tail _ ?_)); (case hy => rfl)))) ?_
        refine AD.guardC rfl rfl rfl rfl rfl (fun hg => POp.cmp rfl rfl rfl (gd hg) rfl rfl) ?_
        refine Apk ?_
        refine AD.nil ?_
        refine DP.tailC 17 (by decide +kernel) rfl ?_
        have hnx : (bif (M.kind == 1) then true else (M.kind == 4)) = nextM M := by unfold nextM; rw [Bool.cond_true_left]
        refine OL.bcall rfl rfl (.mk' rfl rfl rfl rfl rfl) (bodyS rfl M.node (p.gens.getD M.gen.toNat default) _ (by omega) o hol (by omega) ob nb H).b ?_ ?_
        ·
         rintro y H1 ⟨hv, rfl⟩
         rw [hnx] at hv ⊢
         have hgo := visit_end (p := p) (next := nextM M) (x := bodyV p M) rfl hv
         refine S4 ?_; refine Oar ?_; refine Omv ?_; refine S1 ?_
         exact ag (⟨i + 1, outsV (visit p (nextM M) 13 (bodyV p M) o).1 o, rfl, rfl, hil, by rw [hmN, mths_go hil hM (by rw [h1, h2]; rfl) hgo], by rw [outsV_len, hol]⟩)
        ·
         rintro y H1 ⟨rfl, hv, o1, rfl⟩ a w s I v hv2
         rw [unf_c.is _ _ _ hv2]
         rw [hnx] at hv
         exact outP (P := Tryz.prog) (fn := Tryz.f193) unf_c (.cons_cons _ (.cons _ (.refl _))) ⟨rfl, szs_no4 (by rw [hmN]; exact mths_stop hil hM (Option.isNone_iff_eq_none.1 hv)), _, rfl⟩ a w s
     ·
      replace h1 := nm h1
      obtain rfl : i = p.methods.length := by omega
      rw [List.drop_length] at hmN
      replace hmN : methodsN p p.methods (out0 p) = some o := hmN
      refine S7 ?_; refine Omv ?_; refine Ofa ?_; refine Old ?_
      refine OL.bcall rfl rfl (.mk' rfl rfl rfl rfl rfl) (bodyS rfl p.main 0 false (by omega) o hol (by omega) ob nb H).b ?_ ?_
      ·
       rintro y H1 ⟨hv, rfl⟩
       have hgo := visit_end (p := p) (next := false) (x := ⟨p.main, 0, 1⟩) rfl hv
       obtain ⟨o2, ho2⟩ : ∃ o2, o2 = outsV (visit p false 13 ⟨p.main, 0, 1⟩ o).1 o := ⟨_, rfl⟩
       rw [← ho2] at hgo ⊢
       have hol2 : o2.length = p.nodes.length := by rw [ho2, outsV_len, hol]
       refine S3 ?_; refine Old ?_
       refine OL.popC rfl rfl rfl (POp.callB (.mk' rfl rfl rfl rfl rfl) (Borrow.outs (pre := []) (.tail _ (.head _)) hol2 (by omega)) (sContains o2 (-1))) ?_
       refine Ont ?_
       rcases bool_or (o2.contains (-1)) with h3 | h3
       ·
        refine OL.rcallS rfl rfl rfl (.mk' rfl rfl rfl rfl rfl) (needT (by rw [h3]; rfl) _) ?_
        refine S1 ?_
        refine Done.norR (rs := []) (H' := outH ob nb p.nodes.length o2 ++ H) rfl (.nil) (AVleL.refl _) (by repeat (first | exact List.Sublist.refl _ | refine List.Sublist.cons _ ?_)) ?_
        exact ⟨nb, o2, szs_yes hcl hh hga hmN hgo h3, rfl⟩
       ·
        refine OL.rcallN rfl rfl (.mk' rfl rfl rfl rfl rfl) (needF (by rw [h3]; rfl) _) unf_c ?_
        intro a w s
        exact outP (P := Tryz.prog) (fn := Tryz.f193) unf_c (.cons_cons _ (.cons _ (.refl _))) ⟨rfl, szs_no6 hmN hgo h3, _, rfl⟩ a w s
      ·
       rintro y H1 ⟨rfl, hv, o1, rfl⟩ a w s I v hv2
       rw [unf_c.is _ _ _ hv2]
       exact outP (P := Tryz.prog) (fn := Tryz.f193) unf_c (.cons_cons _ (.cons _ (.refl _))) ⟨rfl, szs_no5 hmN (Option.isNone_iff_eq_none.1 hv), _, rfl⟩ a w s
 ·
  rintro y H1 ⟨rfl, hcl, rfl⟩ a w s I v hv
  rw [unf_c.is _ _ _ hv]
  exact outP (P := Tryz.prog) (fn := Tryz.f193) unf_c (.refl _) ⟨rfl, szs_no1 hcl, _, rfl⟩ a w s
theorem assert_unf (w : World) : (Instr.typeAssert unfV 20 253 true).run Tryz.prog w = .ok (.tuple #[.agg #[], .bool true]) w := by
 simp [Instr.typeAssert, run_underlying (show Tryz.prog.underlying 253 = some (.struct #[]) by kernel_rfl)]
theorem catch_panicking (b : Nat) (x : Bool) (w : World) (hc : w.cell? ⟨b, 0, none⟩ = some (.bool x)) (hz : w.frozen? ⟨b, 0, none⟩ = false) (hb : b < w.heap.size) :
  CallsDIn (Eng.FW none) 0 Tryz.prog 221 #[.pointer (some ⟨b, 0, none⟩)] (.panicking [{ v := unfV, recovered := false }]) w fun e u' w' =>
   e = .returned (.tuple #[]) ∧ u' = .panicking [{ v := unfV, recovered := true }] ∧ w' = (w.alloc (.cells #[] 253)).setCell ⟨b, 0, none⟩ (.bool false) := by
 have hc2 : (w.alloc (.cells #[] 253)).cell? ⟨b, 0, none⟩ = some (.bool x) := by rw [World.cell?_alloc_lt w _ ⟨b, 0, none⟩ hb]; exact hc
 have hz2 : (w.alloc (.cells #[] 253)).frozen? ⟨b, 0, none⟩ = false := by rw [World.frozen?_of_block (Go.RowKit.Below.heap_alloc w _ b hb)]; exact hz
 refine callsDIn_of_wpSIn Tryz.func221 rfl trivial fun c₀ cs hu => ?_
 apply wpSIn_seq
 apply wpSIn_region
 have hta := fun w => assert_unf w
 simp [wpOpsSIn, go_sem, recoverD, hu, Tryz.ntmps221, Exit.thenS, Eng.FW, hta]
 apply wpSIn_seq
 apply wpSIn_region
 simp [wpOpsSIn, go_sem, Exit.thenS]
 refine wpSIn_cond (t := true) (by simp [Act.eval, Array.replicate]) ?_
 simp only [if_true]
 apply wpSIn_seq
 apply wpSIn_seq
 apply wpSIn_region
 simp [wpOpsSIn, go_sem, Exit.thenS, hta]
 apply wpSIn_seq
 apply wpSIn_region
 simp [wpOpsSIn, go_sem, Exit.thenS]
 refine wpSIn_cond (t := false) (by simp [Act.eval, Array.replicate]) ?_
 simp only [Bool.false_eq_true, if_false]
 refine wpSIn_of_wpIn rfl (wpIn_skip ?_)
 simp only [Exit.thenS]
 apply wpSIn_region
 simp [wpOpsSIn, go_sem, hc2, hz2, bodyPostS, results, Tryz.results221]
theorem catch_idle (b : Nat) (w : World) :
  CallsDIn (Eng.FW none) 0 Tryz.prog 221 #[.pointer (some ⟨b, 0, none⟩)] .returning w fun e u' w' => e = .returned (.tuple #[]) ∧ u' = .returning ∧ w' = w := by
 refine callsDIn_of_wpSIn Tryz.func221 rfl trivial fun c₀ cs hu => ?_
 apply wpSIn_seq
 apply wpSIn_region
 simp [wpOpsSIn, go_sem, recoverD, hu, Tryz.ntmps221, Exit.thenS, Eng.FW]
 apply wpSIn_seq
 apply wpSIn_region
 simp [wpOpsSIn, go_sem, Exit.thenS]
 refine wpSIn_cond (t := false) (by simp [Act.eval, Array.replicate]) ?_
 simp only [Bool.false_eq_true, if_false]
 refine wpSIn_of_wpIn rfl (wpIn_skip ?_)
 cases c₀
 simp_all [bodyPostS, results, Tryz.results221]
def dfr (tb : Nat) : Deferred := { target := .fn (.func 221) #[.pointer (some ⟨tb, 0, none⟩)], args := #[] }
theorem leave_formed {B : Nat} {I0 : Imm} {w0 : World} {env : List (Nat × AV)} {tb : Nat} {x : Bool} {H : List Ent} {a : Act} {w : World} {Φ E : AV → List Ent → Prop} (hΦ : Φ (.b x) H) (hs : ∃ I, WOk B I w ∧ Ext B I0 w0 I w ∧ HeapOk B I w (.blk tb 4 [.b x] :: H) ∧ EnvOk I w (envGet env) a) (ht : envGet env 2 = some (.p tb 0)) :
  LeavesIn (Eng.FW none) 0 Tryz.prog Tryz.f192 a.tmps (RetP B I0 w0 Φ E) [] .returning w := by
 obtain ⟨I, hw, he, hh, hv⟩ := hs
 obtain ⟨v, h1, h2⟩ := ResOk.res (P := Tryz.prog) (c := ⟨B, I0, w0, 0, []⟩) (st := ⟨env, .blk tb 4 [.b x] :: H⟩) hh hv (fn := Tryz.f192) (rs := [.cell 2 4]) rfl (.cell1 inferInstance ht (.head _) rfl .nil)
 exact ⟨v, h1, I, H, hw, he, hh.tail, .inl ⟨v, _, rfl, h2, hΦ⟩⟩
theorem invoke_dfr (tb : Nat) (w : World) : (invoke (.fn (.func 221) #[.pointer (some ⟨tb, 0, none⟩)]) #[]).run Tryz.prog w = .ok (.enter 221 #[.pointer (some ⟨tb, 0, none⟩)]) w := by
 have : fnOk Tryz.prog 221 = true := by kernel_rfl
 have h := run_callFunc this #[.pointer (some ⟨tb, 0, none⟩)] w
 simp [invoke]
theorem ret_formed {B : Nat} {I0 : Imm} {w0 : World} {env : List (Nat × AV)} {tb : Nat} {x : Bool} {H : List Ent} {a : Act} {w : World} {Φ E : AV → List Ent → Prop} {n : Nat} (hΦ : Φ (.b x) H) (s : Sat ⟨B, I0, w0, n, [dfr tb]⟩ ⟨env, .blk tb 4 [.b x] :: H⟩ a w) (ht : envGet env 2 = some (.p tb 0)) :
  bodyPostDIn (Eng.FW none) 0 Tryz.prog Tryz.f192 (RetP B I0 w0 Φ E) .ret a w := by
 show LeavesIn _ _ _ _ _ _ a.defers .returning w
 rw [s.ds]
 refine leavesIn_cons (f := 221) (args := #[.pointer (some ⟨tb, 0, none⟩)]) (by simp) (by simp [Eng.FW]) (invoke_dfr tb w) (fun _ _ => trivial) ?_
 refine (catch_idle tb w).mono ?_
 rintro e u' w' ⟨rfl, rfl, rfl⟩
 exact leave_formed hΦ s.mem ht
theorem pan_formed {B : Nat} {I0 : Imm} {w0 : World} {env : List (Nat × AV)} {tb : Nat} {x : Bool} {H : List Ent} {a : Act} {w : World} {Φ E : AV → List Ent → Prop} {n : Nat} (hΦ : Φ (.b false) H) (s : Sat ⟨B, I0, w0, n, [dfr tb]⟩ ⟨env, .blk tb 4 [.b x] :: H⟩ a w) (ht : envGet env 2 = some (.p tb 0)) :
  bodyPostDIn (Eng.FW none) 0 Tryz.prog Tryz.f192 (RetP B I0 w0 Φ E) (.panic [{ v := unfV, recovered := false }]) a w := by
 show LeavesIn _ _ _ _ _ _ a.defers (.panicking [{ v := unfV, recovered := false }]) w
 rw [s.ds]
 obtain ⟨I, hw, he, hh, hv⟩ := s.mem
 obtain ⟨hB, vs, hb, hr, hni⟩ := hh.ok _ (.head _)
 have hvs : vs = #[.bool x] := by
  have h1 := rel_vals (vs := [.bool x]) hr
  exact Array.toList_inj.1 h1
 subst hvs
 have hlt : tb < w.heap.size := (Array.getElem?_eq_some_iff.1 hb).1
 refine leavesIn_cons (f := 221) (args := #[.pointer (some ⟨tb, 0, none⟩)]) (by simp) (by simp [Eng.FW]) (invoke_dfr tb w) (fun _ _ => trivial) ?_
 refine (catch_panicking tb x w (by rw [cell_of_blk hb]; rfl) (by simp [World.frozen?, hb]) hlt).mono ?_
 rintro e u' w' ⟨rfl, rfl, rfl⟩
 have hw1 := hw.alloc (.cells #[] 253)
 have hh1 := hh.alloc hw (.cells #[] 253)
 have hb1 : (w.alloc (.cells #[] 253)).heap[tb]? = some (.cells #[.bool x] 4 (0, 0)) := by rw [Go.RowKit.Below.heap_alloc w _ tb hlt]; exact hb
 have hk1 := keeps_alloc hw (.cells #[] 253)
 have he1 := he.trans (ext_alloc hw (.cells #[] 253))
 have hv1 := hv.keep hk1
 generalize w.alloc (.cells #[] 253) = w1 at *
 have hset : (w1.setCell ⟨tb, 0, none⟩ (.bool false)).heap[tb]? = some (.cells #[.bool false] 4 (0, 0)) := one_setCell hb1
 have hcell : ∀ b i, I b i → (w1.setCell ⟨tb, 0, none⟩ (.bool false)).cell? ⟨b, i, none⟩ = w1.cell? ⟨b, i, none⟩ := fun b i hI =>
  World.cell?_of_block (a := ⟨b, i, none⟩) (Go.RowKit.Below.heap_setCell _ _ _ _ (fun e => hni i (by rw [← (show b = tb from e)]; exact hI)))
 have hk2 : Keeps I w1 I (w1.setCell ⟨tb, 0, none⟩ (.bool false)) := ⟨fun _ _ h => h, hcell⟩
 have hbel := (Go.RowKit.Below.refl B w1).setCell (p := ⟨tb, 0, none⟩) hB (.bool false)
 exact leave_formed (x := false) (env := env) hΦ ⟨I, ⟨Nat.le_trans hw1.base hbel.size, fun b i hI => by rw [hcell b i hI]; exact hw1.there b i hI⟩, he1.trans ⟨fun _ _ h => h, hcell, hbel⟩,
  hh1.upd (.head _ _ _) hk2 (fun b _ hne => Go.RowKit.Below.heap_setCell _ _ _ _ (fun e => hne (by rw [show b = tb from e]; rfl))) (fun _ _ h => .inl h) ⟨hB, #[.bool false], hset, .cons _ _ _ _ (.val _) .nil, hni⟩ (fun _ h => .inl h), hv1.keep hk2⟩ ht
theorem formedC {g : Fn} {gs gc : List AV} {H : List Ent} {A Bp : List Ent → Prop} (hdo : ∀ B Hy, VCall B Tryz.prog (.fn g gs gc) [] (H ++ Hy) (fun _ H' => ∃ H1, H' = H1 ++ Hy ∧ A H1) (fun y H' => y = unfA ∧ ∃ Hf, H' = Hf ++ Hy ∧ Bp Hf)) :
  ACall Tryz.prog 192 [.fn g gs gc] H (fun x H' => (x = .b true ∧ A H') ∨ (x = .b false ∧ Bp H')) (fun _ _ => False) := by
 refine ACall.mkD (n := 6) Tryz.func192 rfl (by kernel_rfl) rfl rfl (fun B I w0 => ?_)
 refine S2 ?_
 refine OL.alC rfl rfl rfl rfl (fun tb => ?_)
 refine S4 ?_; refine Omf ?_
 refine OL.deferC (vs := [.pointer (some ⟨tb, 0, none⟩)]) rfl rfl rfl rfl rfl rfl ?_
 refine S3 ?_
 refine CW.perm (List.perm_append_singleton _ _).symm ?_
 refine S1 ?_; refine Omv ?_
 refine OL.vcall rfl rfl rfl rfl rfl rfl rfl (AVleL.refl _) (hdo B [.blk tb 4 [.b false]]) ?_ ?_
 ·
  rintro y _ ⟨H1, rfl, hA⟩
  refine S3 ?_
  refine CW.perm (List.perm_append_singleton _ _) ?_
  refine S1 ?_; refine Sto ?_; refine S3 ?_
  intro a w s
  exact ret_formed (.inl ⟨rfl, hA⟩) s rfl
 ·
  rintro y H2 ⟨rfl, Hf, rfl, hB⟩ a w s I v hv
  rw [unf_c.is _ _ _ hv]
  exact pan_formed (.inr ⟨rfl, hB⟩) (s.perm (List.perm_append_singleton _ _)) rfl
theorem sizesC {p : Prog} (hp : p.Small) (H : List Ent) : ACall Tryz.prog 144 [AV.prog p] H (fun y H' => H' = H ∧ ((∃ o, sizesP p = some o ∧ y = .tup [AV.ints o, .b true]) ∨ (sizesP p = none ∧ ∃ v, y = .tup [.val v, .b false]))) (fun _ _ => False) := by
 refine ACall.mk' (n := 10) Tryz.func144 rfl (by kernel_rfl) rfl rfl (fun B I w0 => ?_)
 refine S2 ?_; refine Obx ?_; refine Oas ?_; refine Oas ?_; refine S4 ?_
 refine OL.alC rfl rfl rfl rfl (fun ob => ?_)
 refine S4 ?_; refine Omf ?_
 refine OL.bcallC rfl rfl rfl (.mk' rfl rfl rfl rfl rfl) (formedC (H := .blk ob 23 [.val (.slice none 0 0)] :: H) (A := fun H1 => ∃ nb o, sizesP p = some o ∧ H1 = outH ob nb p.nodes.length o ++ H) (Bp := fun Hf => sizesP p = none ∧ ∃ v, Hf = .blk ob 23 [.val v] :: H)
  (fun B Hy => VCall.fn ((sizes1 hp ob (H ++ Hy)).imp (fun y H' => ?_) (fun y H' => ?_)))).b ?_
 ·rintro ⟨nb, o, h1, rfl⟩
  exact ⟨outH ob nb p.nodes.length o ++ H, by rw [List.append_assoc], nb, o, h1, rfl⟩
 ·rintro ⟨rfl, h1, v, rfl⟩
  exact ⟨rfl, .blk ob 23 [.val v] :: H, rfl, h1, v, rfl⟩
 rintro y H1 (⟨rfl, nb, o, hs, rfl⟩ | ⟨rfl, hs, v, rfl⟩)
 ·
  have hol := sizes_len hs
  refine Oas ?_; refine S4 ?_; refine Old ?_
  first | (refine OL.eqH (H' := .blk ob 23 [(.val (.slice (some ⟨nb, 0, none⟩) p.nodes.length p.nodes.length))] :: .blk nb 3 ((o.map fun n => [AV.i n]).flatten ++ []) :: H) (by rw [← ints_flat]; rfl) ?_; refine OL.freezeS (k := 1) (d := 8) rfl (.tail _ _ _ _ (.head _ _)) (by rw [List.length_map]; exact hol.1) (fun e he => by obtain ⟨y, _, rfl⟩ := List.mem_map.1 he; rfl) (Nat.le_refl _) (by simp only [maxLen]; omega) ?_) | skip
  refine Omv ?_; refine Oas ?_; refine Oas ?_; refine S3 ?_
  refine Done.retR (rs := [.tmp 2, .tmp 3]) (H' := H) rfl (.tmp rfl (.tmp rfl (.nil))) (AVleL.refl _) (by repeat (first | exact List.Sublist.refl _ | refine List.Sublist.cons _ ?_)) ?_
  exact ⟨rfl, .inl ⟨o, hs, rfl⟩⟩
 ·
  refine Oas ?_; refine S4 ?_; refine Old ?_
  first | (refine OL.eqH (H' := .blk ob 23 [(.val (.slice (some ⟨nb, 0, none⟩) p.nodes.length p.nodes.length))] :: .blk nb 3 ((o.map fun n => [AV.i n]).flatten ++ []) :: H) (by rw [← ints_flat]; rfl) ?_; refine OL.freezeS (k := 1) (d := 8) rfl (.tail _ _ _ _ (.head _ _)) (by rw [List.length_map]; exact hol.1) (fun e he => by obtain ⟨y, _, rfl⟩ := List.mem_map.1 he; rfl) (Nat.le_refl _) (by simp only [maxLen]; omega) ?_) | skip
  refine Omv ?_; refine Oas ?_; refine Oas ?_; refine S3 ?_
  refine Done.retR (rs := [.tmp 2, .tmp 3]) (H' := H) rfl (.tmp rfl (.tmp rfl (.nil))) (AVleL.refl _) (by repeat (first | exact List.Sublist.refl _ | refine List.Sublist.cons _ ?_)) ?_
  exact ⟨rfl, .inr ⟨hs, v, rfl⟩⟩
theorem checkB {p : Prog} (hp : p.Small) : PCall Tryz.prog 72 [AV.prog p] (.i (if (sizesP p).isSome then 0 else 2)) := by
 intro H
 refine ACall.mk' (n := 12) Tryz.func72 rfl (by kernel_rfl) rfl rfl (fun B I w0 => ?_)
 refine S2 ?_; refine Obx ?_; refine Oas ?_; refine S5 ?_; refine Ola ?_
 refine OL.bcallC rfl rfl rfl (.mk' rfl rfl rfl rfl rfl) (sizesC hp H).b ?_
 rintro y H1 ⟨e, ⟨o, hs, rfl⟩ | ⟨hs, v, rfl⟩⟩
 ·
  replace e := e.symm
  subst e
  refine Omv ?_; refine Oex ?_; refine Oex ?_; refine Oas ?_; refine Oas ?_; refine S4 ?_; refine Omv ?_; refine Ont ?_; refine S2 ?_
  refine CW.cond rfl (fun h0 => ?_) (fun h0 => ?_)
  ·
   simp at h0
  ·
   replace h0 := nm h0
   refine S4 ?_; refine Oas ?_; refine S3 ?_
   refine r1 2 (H) ?_
   exact ⟨by rw [hs]; rfl, rfl⟩
 ·
  replace e := e.symm
  subst e
  refine Omv ?_; refine Oex ?_; refine Oex ?_; refine Oas ?_; refine Oas ?_; refine S4 ?_; refine Omv ?_; refine Ont ?_; refine S2 ?_
  refine CW.cond rfl (fun h1 => ?_) (fun h1 => ?_)
  ·
   replace h1 := nm h1
   refine S2 ?_; refine Oas ?_; refine S4 ?_
   refine r1 2 (H) ?_
   exact ⟨by rw [hs]; rfl, rfl⟩
  ·
   simp at h1
theorem ownB {p : Prog} (hp : p.Small) (c : Int) : PCall Tryz.prog 172 [AV.prog p, .i c] (.b (ownC p c)) := by
 intro H
 refine ACall.mk' (n := 20) Tryz.func172 rfl (by kernel_rfl) rfl rfl (fun B I w0 => ?_)
 have hpc := hp.classes
 refine S2 ?_; refine Obx ?_; refine Oas ?_; refine S4 ?_; refine Omv ?_; refine Ocm ?_; refine Omv ?_; refine Pmv ?_; refine Pfa ?_; refine Pld ?_; refine Pln ?_; refine Par ?_
 refine Pcm ?_; refine Opk ?_; refine Omv ?_; refine Pla ?_
 refine OL.guardC rfl rfl rfl rfl rfl rfl (fun hg => POp.call (.mk' rfl rfl rfl rfl (by first | rfl | ((repeat (first | exact hg | rfl | refine Bool.and_eq_true_iff.2 ⟨?_, ?_⟩)); done) | simp_all [strip, constAV])) ((checkB hp))) ?_
 refine Pcm ?_; refine Opk ?_; refine Oas ?_; refine S3 ?_
 refine r1 4 (H) ?_
 exact ⟨retB (by unfold ownC; rw [Bool.cond_false_right, Bool.cond_false_right, if_zero]), rfl⟩
theorem hasB {p : Prog} (hp : p.Small) (c : Int) : PCall Tryz.prog 105 [AV.prog p, .i c] (.tup [AV.ints (if ownC p c then hasP p c else []), .i (if ownC p c then 0 else 2)]) := by
 intro H
 refine ACall.mk' (n := 13) Tryz.func105 rfl (by kernel_rfl) rfl rfl (fun B I w0 => ?_)
 refine S2 ?_; refine Obx ?_; refine Oas ?_; refine Oas ?_; refine S5 ?_; refine Ola ?_; refine Omv ?_
 refine OL.popC rfl rfl rfl (POp.call (.mk' rfl rfl rfl rfl rfl) ((ownB hp _))) ?_
 refine Ont ?_; refine S2 ?_
 refine CW.cond rfl (fun h0 => ?_) (fun h0 => ?_)
 ·
  replace h0 := nm h0
  refine S2 ?_; refine Oas ?_; refine Oas ?_; refine S4 ?_
  refine Done.retR (rs := [.tmp 4, .tmp 5]) (H' := H) rfl (.tmp rfl (.tmp rfl (.nil))) (.cons (AVle.nil 1) (.cons (.refl _) .nil)) (by repeat (first | exact List.Sublist.refl _ | refine List.Sublist.cons _ ?_)) ?_
  exact ⟨by rw [show ownC p c = false by simpa using h0]; rfl, rfl⟩
 ·
  replace h0 := nm h0
  refine S3 ?_
  have ho : ownC p c = true := by simpa using h0
  obtain ⟨hc3, hcl⟩ := own_parts ho
  obtain ⟨hc10, hcs⟩ := classes_small hcl
  ·
   refine S1 ?_; refine Ola ?_; refine Omv ?_
   refine OL.popC rfl rfl rfl (POp.call (.mk' rfl rfl rfl rfl rfl) (hasC p (by omega) (fun c h => (hcs c h).2) (classes_keys hcl) (k := c) (by unfold smallKey; omega) (by omega))) ?_
   refine Oas ?_; refine Oas ?_; refine S3 ?_
   refine Done.retR (rs := [.tmp 4, .tmp 5]) (H' := H) rfl (.tmp rfl (.tmp rfl (.nil))) (AVleL.refl _) (by repeat (first | exact List.Sublist.refl _ | refine List.Sublist.cons _ ?_)) ?_
   exact ⟨by rw [ho]; rfl, rfl⟩
theorem valueC (x : Int × Int) (n : Int) : PCall Tryz.prog 175 [AV.mv x, .i n] (.b (valueP n x)) := by
 intro H
 refine ACall.mk' (n := 33) Tryz.func175 rfl (by kernel_rfl) rfl rfl (fun B I w0 => ?_)
 refine S2 ?_; refine Obx ?_; refine Oas ?_; refine S5 ?_; refine Ofa ?_; refine Old ?_; refine S5 ?_; refine Ocm ?_; refine Oas ?_; refine S2 ?_
 refine CW.cond rfl (fun h0 => ?_) (fun h0 => ?_)
 ·
  replace h0 := nm h0
  refine S2 ?_; refine Ofa ?_; refine Old ?_; refine Ocm ?_; refine Omv ?_; refine Pfa ?_; refine Pld ?_; refine Pcm ?_; refine Opk ?_; refine Oas ?_; refine S5 ?_
  refine r1 4 (H) ?_
  exact ⟨retB (by unfold valueP inP; simp_all), rfl⟩
 ·
  replace h0 := nm h0
  refine S2 ?_; refine Ocm ?_; refine Oas ?_; refine S2 ?_
  refine CW.cond rfl (fun h1 => ?_) (fun h1 => ?_)
  ·
   replace h1 := nm h1
   refine S2 ?_; refine Ofa ?_; refine Old ?_; refine Ocm ?_; refine Oas ?_; refine S5 ?_
   refine r1 4 (H) ?_
   exact ⟨retB (by unfold valueP inP; simp_all), rfl⟩
  ·
   replace h1 := nm h1
   refine S2 ?_; refine Ocm ?_; refine Oas ?_; refine S2 ?_
   refine CW.cond rfl (fun h2 => ?_) (fun h2 => ?_)
   ·
    replace h2 := nm h2
    refine S2 ?_; refine Ofa ?_; refine Old ?_; refine Ocm ?_; refine Omv ?_; refine Pfa ?_; refine Pld ?_; refine Pmv ?_; refine Pcm ?_; refine Opk ?_; refine Oas ?_; refine S5 ?_
    refine r1 4 (H) ?_
    exact ⟨retB (by unfold valueP inP; simp_all), rfl⟩
   ·
    replace h2 := nm h2
    refine S5 ?_; refine Oas ?_; refine S3 ?_
    refine r1 4 (H) ?_
    exact ⟨retB (by unfold valueP inP; simp_all), rfl⟩
theorem values1 (n : Int) (x : Int × Int) : PCall Tryz.prog 174 [AV.mv x, .ptr [.i n]] (.b (!valueP n x)) := by
 intro H
 refine ACall.mk' (n := 8) Tryz.func174 rfl (by kernel_rfl) rfl rfl (fun B I w0 => ?_)
 refine S2 ?_; refine Obx ?_; refine Oas ?_; refine S4 ?_; refine Ola ?_; refine Old ?_
 refine OL.popC rfl rfl rfl (POp.call (.mk' rfl rfl rfl rfl rfl) (valueC x n)) ?_
 refine Ont ?_; refine Oas ?_; refine S3 ?_
 refine r1 3 (H) ?_
 exact ⟨by first | rfl | exact retI (by simp_all) | exact retB (by simp_all) | simp_all, rfl⟩
theorem idxMV {f : Fn} {fs cs : List AV} {q : Int × Int → Bool} (hg : PredOk Tryz.prog (.fn f fs cs) AV.mv q) (l : List (Int × Int)) : PCall Tryz.prog 102 [AV.mvs l, .fn f fs cs] (.i (idxG l q)) := by
 intro H
 refine ACall.mk' (n := 19) Tryz.func102 rfl (by kernel_rfl) rfl rfl (fun B I w0 => ?_)
 refine CW.boundM (t := 0) rfl (fun hb0 => ?_)
 refine S2 ?_; refine Oas ?_; refine S5 ?_; refine Omv ?_; refine Oln ?_; refine Omv ?_; refine S3 ?_
 refine lj (fun m st => ∃ k : Nat, st = ⟨[(8, .i k), (7, .i l.length), (0, AV.mvs l), (1, .fn f fs cs)], H⟩ ∧ m = l.length - k ∧ k ≤ l.length ∧ ∀ x ∈ l.take k, q x = false) (⟨0, rfl, rfl, by simp, by simp⟩) ?_
 rintro m _ ⟨k, rfl, rfl, hk, hp⟩
 refine S2 ?_; refine Ocm ?_; refine S3 ?_
 refine CW.cond rfl (fun h0 => ?_) (fun h0 => ?_)
 ·
  replace h0 := nm h0
  have hkl : k < l.length := by omega
  refine S6 ?_; refine Omv ?_; refine Oas ?_; refine S4 ?_; refine Omv ?_; refine Omv ?_; refine Omv ?_
  refine OL.popC rfl rfl rfl ((by first | exact POp.ixM rfl rfl rfl rfl rfl hkl | exact POp.ixI rfl rfl rfl rfl rfl hkl)) ?_
  refine Ola ?_
  refine OL.vcallC rfl rfl rfl rfl rfl rfl rfl rfl (AVleL.refl _) (hg B _ _) ?_
  rintro _ H1 ⟨rfl, e⟩
  replace e := e.symm
  subst e
  refine S2 ?_
  refine CW.cond rfl (fun h1 => ?_) (fun h1 => ?_)
  ·
   replace h1 := nm h1
   refine S2 ?_; refine Omv ?_; refine Oas ?_; refine S8 ?_
   refine r1 4 (H) ?_
   exact ⟨retI (idxG_at hkl hp h1), rfl⟩
  ·
   replace h1 := nm h1
   refine S4 ?_; refine Oar ?_; refine Omv ?_; refine S1 ?_
   exact ag (⟨k + 1, rfl, rfl, hkl, fun x hx => by rw [← take_getD hkl, List.mem_append, List.mem_singleton] at hx; rcases hx with hx | rfl; exact hp x hx; exact h1⟩)
 ·
  replace h0 := nm h0
  refine S7 ?_; refine Oas ?_; refine S3 ?_
  refine r1 4 (H) ?_
  exact ⟨retI (idxG_none (by have e : k = l.length := (by omega); rw [e, List.take_length] at hp; exact hp)), rfl⟩
theorem hasMV {f : Fn} {fs cs : List AV} {q : Int × Int → Bool} (hg : PredOk Tryz.prog (.fn f fs cs) AV.mv q) (l : List (Int × Int)) : PCall Tryz.prog 36 [AV.mvs l, .fn f fs cs] (.b (l.any q)) := by
 intro H
 refine ACall.mk' (n := 9) Tryz.func36 rfl (by kernel_rfl) rfl rfl (fun B I w0 => ?_)
 refine S2 ?_; refine Oas ?_; refine S4 ?_; refine Omv ?_; refine Omv ?_
 refine OL.popC rfl rfl rfl (POp.call (.mk' rfl rfl rfl rfl rfl) (idxMV hg l)) ?_
 refine Ocm ?_; refine Oas ?_; refine S3 ?_
 refine r1 4 (H) ?_
 exact ⟨retB (idxG_any _ _), rfl⟩
theorem valuesC (l : List (Int × Int)) (n : Int) : PCall Tryz.prog 106 [AV.mvs l, .i n] (.b (l.all (valueP n))) := by
 intro H
 refine ACall.mk' (n := 9) Tryz.func106 rfl (by kernel_rfl) rfl rfl (fun B I w0 => ?_)
 refine S2 ?_; refine Obx ?_; refine Oas ?_; refine S4 ?_; refine Omv ?_; refine Omf ?_
 refine OL.popC rfl rfl rfl (POp.call (.mk' rfl rfl rfl rfl rfl) (hasMV (.of (values1 n)) l)) ?_
 refine Ont ?_; refine Oas ?_; refine S3 ?_
 refine r1 4 (H) ?_
 exact ⟨retB (all_valueP n l), rfl⟩
theorem meanCheck {p : Prog} (hp : p.Small) (objs : List Th) : PCall Tryz.prog 45 [AV.prog p, AV.ths objs] (.i (if checkP p objs then 0 else 2)) := by
 intro H
 refine ACall.mk' (n := 49) Tryz.func45 rfl (by kernel_rfl) rfl rfl (fun B I w0 => ?_)
 refine CW.boundM (t := 1) rfl (fun hb1 => ?_)
 refine S2 ?_; refine Obx ?_; refine Oas ?_; refine S5 ?_; refine Ola ?_
 refine OL.popC rfl rfl rfl (POp.call (.mk' rfl rfl rfl rfl rfl) (checkB hp)) ?_
 refine Ocm ?_; refine Omv ?_; refine Pmv ?_; refine Pln ?_; refine Pcm ?_; refine Opk ?_; refine S2 ?_
 refine CW.cond rfl (fun h0 => ?_) (fun h0 => ?_)
 ·
  replace h0 := nm h0
  have hno : checkP p objs = false := by
   unfold checkP
   cases hs : (sizesP p).isSome with
   | false => rfl
   | true => rw [hs] at h0; simp at h0; rw [show decide (objs.length ≤ 40) = false by simp; omega]; rfl
  refine S2 ?_; refine Oas ?_; refine S4 ?_
  refine r1 4 (H) ?_
  exact ⟨by rw [hno]; rfl, rfl⟩
 ·
  replace h0 := nm h0
  have hs : (sizesP p).isSome = true ∧ objs.length ≤ 40 := by
   cases hs : (sizesP p).isSome with
   | false => rw [hs] at h0; simp at h0
   | true => rw [hs] at h0; simp at h0; exact ⟨rfl, by omega⟩
  refine S5 ?_; refine Omv ?_; refine Oln ?_; refine Omv ?_; refine S3 ?_
  refine lj (fun m st => ∃ i : Nat, st = ⟨[(19, .i i), (18, .i objs.length), (17, AV.ths objs), (2, .ptr (progC p)), (1, AV.ths objs)], H⟩ ∧ m = objs.length - i ∧ i ≤ objs.length ∧ (objs.take i).all (thingP p objs.length) = true) (⟨0, rfl, rfl, by omega, rfl⟩) ?_
  rintro m _ ⟨i, rfl, rfl, hi, hA⟩
  refine S2 ?_; refine Ocm ?_; refine S3 ?_
  refine CW.cond rfl (fun h1 => ?_) (fun h1 => ?_)
  ·
   replace h1 := nm h1
   have hil : i < objs.length := by omega
   obtain ⟨T, hT⟩ : ∃ T, T = objs.getD i default := ⟨_, rfl⟩
   refine S6 ?_
   refine OL.popC rfl rfl rfl ((by first | exact POp.ixM rfl rfl rfl rfl rfl hil | exact POp.ixI rfl rfl rfl rfl rfl hil)) ?_
   refine Ola ?_
   refine OL.alC rfl rfl rfl rfl (fun b0 => ?_)
   refine Sto ?_; refine S3 ?_
   rw [← hT]
   refine S1 ?_; refine Ola ?_; refine Ofa ?_; refine Old ?_
   refine OL.popC rfl rfl rfl (POp.call (.mk' rfl rfl rfl rfl rfl) (hasB hp T.cls)) ?_
   refine Omv ?_; refine Oex ?_; refine Oex ?_; refine Oas ?_; refine Oas ?_; refine S3 ?_
   refine CW.freezeP (d := 6) rfl (by repeat (first | exact Del.head _ _ | apply Del.tail)) ?_
   refine S1 ?_; refine Omv ?_; refine Ocm ?_; refine Omv ?_; refine Pmv ?_; refine Pln ?_; refine Pfa ?_; refine Pld ?_; refine Pln ?_; refine Pcm ?_; refine Opk ?_; refine Omv ?_
   refine Pfa ?_; refine Pld ?_; refine Pmv ?_; refine Pln ?_
   refine OL.guardC rfl rfl rfl rfl rfl rfl (fun hg => POp.call (.mk' rfl rfl rfl rfl (by first | rfl | ((repeat (first | exact hg | rfl | refine Bool.and_eq_true_iff.2 ⟨?_, ?_⟩)); done) | simp_all [strip, constAV])) (valuesC T.slots objs.length)) ?_
   refine Pnt ?_; refine Opk ?_; refine S2 ?_
   have hth : thingP p objs.length T = !(bif bif (if ownC p T.cls then (0 : Int) else 2) != 0 then true else ((if ownC p T.cls then hasP p T.cls else []).length : Int) != (T.slots.length : Int) then true else !T.slots.all (valueP objs.length)) := thing_eq p _ T
   refine CW.cond rfl (fun h2 => ?_) (fun h2 => ?_)
   ·
    rw [h2] at hth
    refine S2 ?_; refine Oas ?_; refine S8 ?_
    refine r1 4 (H) ?_
    exact ⟨by rw [chk_no hil (by rw [← hT, hth]; rfl)]; rfl, rfl⟩
   ·
    rw [h2] at hth
    refine S4 ?_; refine Oar ?_; refine Omv ?_; refine S1 ?_
    exact ag (⟨i + 1, rfl, rfl, hil, chk_step hil hA (by rw [← hT, hth]; rfl)⟩)
  ·
   replace h1 := nm h1
   obtain rfl : i = objs.length := by omega
   rw [List.take_length] at hA
   refine S7 ?_; refine Oas ?_; refine S3 ?_
   refine r1 4 (H) ?_
   exact ⟨by unfold checkP; rw [hs.1, decide_eq_true hs.2, hA]; rfl, rfl⟩
end Go.Proofs.YtpgnjlngepfanaaGreat

set_option linter.unusedVariables false
namespace Go.Eng.Bd
open Go.Eng.Fc
def lostP (l : List Int) (v : Int × Int) : Bool := decide (v.1 = 3) && !(l.contains v.2)
def holdsP (l : List Int) (vals : List (Int × Int)) : Bool := !(vals.any (lostP l))
theorem holds_of {l : List Int} {vals : List (Int × Int)} (h : ∀ v ∈ vals, v.1 = 3 → v.2 ∈ l) : holdsP l vals = true := by
 unfold holdsP lostP
 rw [Bool.not_eq_true', List.any_eq_false]
 intro v hv
 by_cases h3 : v.1 = 3
 ·simp [h3, h v hv h3]
 ·simp [h3]
def fromP (objs : List Th) (roots : List (Int × Int)) (l : List Int) (j : Nat) (n : Int) : Bool := roots.contains (3, n) || (l.take j).any fun m => (thOf objs m).slots.contains (3, n)
structure ReachLaw (objs : List Th) (roots : List (Int × Int)) (L : List Int) : Prop where
 rts : holdsP L roots = true
 len : L.length ≤ objs.length
 in_ : ∀ k, k < L.length → 0 ≤ L.getD k default ∧ L.getD k default < objs.length
 new : ∀ k, k < L.length → (L.take k).contains (L.getD k default) = false
 sls : ∀ k, k < L.length → holdsP L (thOf objs (L.getD k default)).slots = true
 from_ : ∀ k, k < L.length → fromP objs roots L k (L.getD k default) = true
theorem reach_law {objs : List Th} {roots : List (Int × Int)} (hr : roots.all (valueP objs.length) = true) (hv : ∀ t ∈ objs, t.slots.all (valueP objs.length) = true) : ReachLaw objs roots (reachP objs roots) := by
 obtain ⟨i, h, hi⟩ := reach_ok hr hv
 refine ⟨holds_of h.rts, h.ok.len, fun k hk => h.ok.in_ _ (getD_memB hk), fun k hk => ?_, fun k hk => holds_of (h.sls k (by omega)), fun k hk => ?_⟩
 ·rw [List.contains_eq_mem, decide_eq_false_iff_not]
  intro hm
  obtain ⟨j, hj, hje⟩ := List.mem_iff_getElem.1 hm
  rw [List.length_take] at hj
  rw [List.getElem_take, List.getD_eq_getElem?_getD, List.getElem?_eq_getElem hk] at hje
  exact List.pairwise_iff_getElem.1 h.ok.nodup j k (by omega) hk (by omega) hje
 ·unfold fromP
  rw [Bool.or_eq_true]
  rcases h.from_ k hk with h1 | ⟨j, hj, h1⟩
  ·exact .inl (List.contains_iff_mem.2 h1)
  ·refine .inr (List.any_eq_true.2 ⟨(reachP objs roots).getD j default, ?_, List.contains_iff_mem.2 h1⟩)
   rw [List.getD_eq_getElem?_getD, List.getElem?_eq_getElem (by omega)]
   exact List.mem_take_iff_getElem.2 ⟨j, by omega, rfl⟩
end Go.Eng.Bd

set_option linter.unusedVariables false
set_option linter.unusedSimpArgs false
set_option maxRecDepth 10000
namespace Go.Proofs.YtpgnjlngepfanaaGreat
open Go.Eng
open Go.Eng.Fc
open Go.Eng.Bd
theorem valueI (x : Int × Int) (n : Int) : PCall Tryz.prog 166 [AV.mv x, .i n] (.b (valueP n x)) := by
 intro H
 refine ACall.mk' (n := 36) Tryz.func166 rfl (by kernel_rfl) rfl rfl (fun B I w0 => ?_)
 refine S2 ?_; refine Obx ?_; refine Oas ?_; refine S5 ?_; refine Ofa ?_; refine Old ?_; refine S5 ?_; refine Ocm ?_; refine Oas ?_; refine S2 ?_
 refine CW.cond rfl (fun h0 => ?_) (fun h0 => ?_)
 ·
  replace h0 := nm h0
  refine S2 ?_; refine Ofa ?_; refine Old ?_; refine Ocm ?_; refine Omv ?_; refine Pfa ?_; refine Pld ?_; refine Pcm ?_; refine Opk ?_; refine Oas ?_; refine S5 ?_
  refine r1 4 (H) ?_
  exact ⟨retB (by unfold valueP inP; simp_all), rfl⟩
 ·
  replace h0 := nm h0
  refine S2 ?_; refine Ocm ?_; refine Oas ?_; refine S2 ?_
  refine CW.cond rfl (fun h1 => ?_) (fun h1 => ?_)
  ·
   replace h1 := nm h1
   refine S2 ?_; refine Ofa ?_; refine Old ?_; refine Ocm ?_; refine Oas ?_; refine S5 ?_
   refine r1 4 (H) ?_
   exact ⟨retB (by unfold valueP inP; simp_all), rfl⟩
  ·
   replace h1 := nm h1
   refine S5 ?_; refine Ofa ?_; refine Old ?_; refine Ocm ?_; refine Omv ?_; refine Pfa ?_; refine Pld ?_; refine Pcm ?_; refine Opk ?_; refine Omv ?_; refine Pfa ?_; refine Pld ?_
   refine Pmv ?_; refine Pcm ?_; refine Opk ?_; refine Oas ?_; refine S3 ?_
   refine r1 4 (H) ?_
   exact ⟨retB (by unfold valueP inP; simp_all; rw [Bool.and_assoc]; rfl), rfl⟩
theorem rooted1 (n : Int) (x : Int × Int) : PCall Tryz.prog 165 [AV.mv x, .ptr [.i n]] (.b (!valueP n x)) := by
 intro H
 refine ACall.mk' (n := 8) Tryz.func165 rfl (by kernel_rfl) rfl rfl (fun B I w0 => ?_)
 refine S2 ?_; refine Obx ?_; refine Oas ?_; refine S4 ?_; refine Ola ?_; refine Old ?_
 refine OL.popC rfl rfl rfl (POp.call (.mk' rfl rfl rfl rfl rfl) (valueI x n)) ?_
 refine Ont ?_; refine Oas ?_; refine S3 ?_
 refine r1 3 (H) ?_
 exact ⟨by first | rfl | exact retI (by simp_all) | exact retB (by simp_all) | simp_all, rfl⟩
def rootedP (n : Int) (l : List (Int × Int)) : Bool := decide (l.length ≤ 20) && l.all (valueP n)
def askedP (p : Prog) (objs : List Th) (roots : List (Int × Int)) : Bool := checkP p objs && rootedP objs.length roots
def reachQ (p : Prog) (objs : List Th) (roots : List (Int × Int)) : List Int := if askedP p objs roots then reachP objs roots else []
theorem rooted_eq (n : Int) (l : List (Int × Int)) : (bif decide ((l.length : Int) ≤ 20) then !(l.any fun x => !valueP n x) else false) = rootedP n l := by
 rw [all_valueP, rootedP, Bool.cond_false_right]; congr 1; rw [decide_eq_decide]; omega
theorem asked_eq (p : Prog) (objs : List Th) (roots : List (Int × Int)) : (bif ((if checkP p objs then (0 : Int) else 2) == 0) then rootedP objs.length roots else false) = askedP p objs roots := by
 rw [if_zero, Bool.cond_false_right]; rfl
theorem asked_parts {p : Prog} {objs : List Th} {roots : List (Int × Int)} (h : askedP p objs roots = true) : objs.length ≤ 40 ∧ roots.length ≤ 20 ∧ roots.all (valueP objs.length) = true ∧ ∀ t ∈ objs, t.slots.all (valueP objs.length) = true := by
 simp only [askedP, rootedP, checkP, Bool.and_eq_true, decide_eq_true_eq] at h
 refine ⟨h.1.1.2, h.2.1, h.2.2, fun t ht => ?_⟩
 have := List.all_eq_true.1 h.1.2 t ht
 simp only [thingP, Bool.and_eq_true] at this
 exact this.2
theorem rootedC (l : List (Int × Int)) (n : Int) : PCall Tryz.prog 92 [AV.mvs l, .i n] (.b (rootedP n l)) := by
 intro H
 refine ACall.mk' (n := 14) Tryz.func92 rfl (by kernel_rfl) rfl rfl (fun B I w0 => ?_)
 refine S2 ?_; refine Obx ?_; refine Oas ?_; refine S4 ?_; refine Omv ?_; refine Oln ?_; refine Ocm ?_; refine Omv ?_; refine Pmv ?_; refine Pmf ?_
 refine OL.guardC rfl rfl rfl rfl rfl rfl (fun hg => POp.call (.mk' rfl rfl rfl rfl (by first | rfl | ((repeat (first | exact hg | rfl | refine Bool.and_eq_true_iff.2 ⟨?_, ?_⟩)); done) | simp_all [strip, constAV])) (hasMV (.of (rooted1 n)) l)) ?_
 refine Pnt ?_; refine Opk ?_; refine Oas ?_; refine S3 ?_
 refine r1 4 (H) ?_
 exact ⟨retB (rooted_eq n l), rfl⟩
theorem askedC {p : Prog} (hp : p.Small) (objs : List Th) (roots : List (Int × Int)) : PCall Tryz.prog 79 [AV.prog p, AV.ths objs, AV.mvs roots] (.b (askedP p objs roots)) := by
 intro H
 refine ACall.mk' (n := 17) Tryz.func79 rfl (by kernel_rfl) rfl rfl (fun B I w0 => ?_)
 refine S2 ?_; refine Obx ?_; refine Oas ?_; refine S4 ?_; refine Ola ?_; refine Omv ?_
 refine OL.popC rfl rfl rfl (POp.call (.mk' rfl rfl rfl rfl rfl) (meanCheck hp objs)) ?_
 refine Ocm ?_; refine Omv ?_; refine Pmv ?_; refine Pmv ?_; refine Pln ?_
 refine OL.guardC rfl rfl rfl rfl rfl rfl (fun hg => POp.call (.mk' rfl rfl rfl rfl (by first | rfl | ((repeat (first | exact hg | rfl | refine Bool.and_eq_true_iff.2 ⟨?_, ?_⟩)); done) | simp_all [strip, constAV])) (rootedC roots objs.length)) ?_
 refine Opk ?_; refine Oas ?_; refine S3 ?_
 refine r1 6 (H) ?_
 exact ⟨retB (asked_eq p objs roots), rfl⟩
instance : HasMapI Tryz.prog 121 (3, 3) := ⟨by kernel_rfl, by kernel_rfl⟩
instance : HasZ Tryz.prog 3 (.int .i64 0) := ⟨by kernel_rfl⟩
instance : HasEq Tryz.prog 60 2 := ⟨by kernel_rfl⟩
abbrev routeE (xb mb : Nat) (v : Value) (l : List Int) (m : List (Int × AV)) (H : List Ent) : List Ent := .own 3 1 v :: .blk xb 123 [.as (AV.ints l) v, .val (.map (some mb))] :: imapE mb m :: H
theorem lookM_le {m : List (Int × AV)} {l : List Int} (h : MapAt m l) (k : Int) : AVle (.tup [(getI m k).getD (.val (.int .i64 0)), .b (getI m k).isSome]) (.tup [.i (if k ∈ l then idxB l k else 0), .b (l.contains k)]) := by
 rw [h.has, h.get]
 split <;> exact AVle.refl _
theorem meet_step {vals : List (Int × Int)} {i : Nat} (hi : i < vals.length) (l : List Int) : meetP (vals.take (i + 1)) l = meet1 (meetP (vals.take i) l) (vals.getD i default) := by rw [← take_getD hi, meetP_snoc]
theorem meet1_new {l : List Int} {v : Int × Int} (h3 : v.1 = 3) (hn : l.contains v.2 = false) : meet1 l v = l ++ [v.2] := by rw [meet1, if_pos ⟨h3, by simpa using hn⟩]
theorem meet1_old {l : List Int} {v : Int × Int} (h : v.1 ≠ 3 ∨ l.contains v.2 = true) : meet1 l v = l := by rw [meet1, if_neg]; rintro ⟨h1, h2⟩; rcases h with h | h; exact h h1; exact h2 (List.contains_iff_mem.1 h)
theorem meet_if {a b : Bool} (h : (bif a then !b else false) = true) : a = true ∧ b = false := by cases a <;> cases b <;> simp_all
theorem meet_not {a b : Bool} (h : (bif a then !b else false) = false) : a = false ∨ b = true := by cases a <;> cases b <;> simp_all
theorem meetC {n : Nat} (hn : n ≤ 1000000) {vals : List (Int × Int)} (hv : vals.all (valueP n) = true) {l0 : List Int} (hl0 : RouteOk n l0) {m0 : List (Int × AV)} (hM0 : MapAt m0 l0) (xb mb : Nat) (v0 : Value) (H : List Ent) :
  ACall Tryz.prog 155 [.p xb 0, AV.mvs vals] (routeE xb mb v0 l0 m0 H) (fun _ H' => ∃ m' v', MapAt m' (meetP vals l0) ∧ H' = routeE xb mb v' (meetP vals l0) m' H) (fun _ _ => False) := by
 refine ACall.mk' (n := 54) Tryz.func155 rfl (by kernel_rfl) rfl rfl (fun B I w0 => ?_)
 refine CW.boundM (t := 1) rfl (fun hb1 => ?_)
 refine S2 ?_; refine Omv ?_; refine Oln ?_; refine Omv ?_; refine S3 ?_
 refine lj (fun m st => ∃ (i : Nat) (l : List Int) (m' : List (Int × AV)) (v : Value), st = ⟨[(10, .i i), (9, .i vals.length), (8, AV.mvs vals), (0, .p xb 0)], routeE xb mb v l m' H⟩ ∧ m = vals.length - i ∧ i ≤ vals.length ∧ l = meetP (vals.take i) l0 ∧ MapAt m' l ∧ RouteOk n l) (⟨0, l0, m0, v0, rfl, rfl, by omega, rfl, hM0, hl0⟩) ?_
 rintro m _ ⟨i, l, m', v, rfl, rfl, hi, hl, hM, hR⟩
 refine S2 ?_; refine Ocm ?_; refine S3 ?_
 refine CW.cond rfl (fun h0 => ?_) (fun h0 => ?_)
 ·
  replace h0 := nm h0
  have hil : i < vals.length := by omega
  obtain ⟨X, hX⟩ : ∃ X, X = vals.getD i default := ⟨_, rfl⟩
  have hXv : valueP n X = true := List.all_eq_true.1 hv X (hX ▸ getD_memB hil)
  have hXk : smallKey X.2 := by have := valueP_key hn hXv; unfold smallKey; omega
  have hst := meet_step hil l0
  rw [← hX, ← hl] at hst
  have hRl := hR.len
  refine S6 ?_
  refine OL.popC rfl rfl rfl ((by first | exact POp.ixM rfl rfl rfl rfl rfl hil | exact POp.ixI rfl rfl rfl rfl rfl hil)) ?_
  refine Ola ?_
  refine OL.alC rfl rfl rfl rfl (fun b0 => ?_)
  refine Sto ?_; refine S3 ?_
  rw [← hX]
  refine CW.freezeP (d := 5) rfl (by repeat (first | exact Del.head _ _ | apply Del.tail)) ?_
  refine CW.dp mixed ?_
  refine DP.anyC 0 6 54 rfl (by decide +kernel) rfl rfl (by decide +kernel) ?_
  refine Amv ?_; refine Anc ?_; refine Afa ?_; refine Ald ?_; refine Afa ?_; refine Ald ?_
  refine AD.nil ?_
  refine DP.one (k := 6) (by decide +kernel) rfl ?_
  refine OL.popC rfl rfl rfl (POp.le (POp.lookupI2 rfl rfl rfl rfl rfl (.tail _ (.tail _ (.head _))) hM.ok hXk) (lookM_le hM X.2)) ?_
  refine OL.nil (Done.dp ?_)
  refine DP.one (k := 7) (by decide +kernel) rfl ?_
  refine Omv ?_
  refine OL.nil (Done.dp ?_)
  refine DP.anyC 8 11 54 rfl (by decide +kernel) rfl rfl (by decide +kernel) ?_
  refine Aex ?_; refine Aex ?_; refine Aas ?_
  refine AD.nil ?_
  refine DP.tailC 11 (by decide +kernel) rfl ?_
  refine Oas ?_; refine S4 ?_; refine Ofa ?_; refine Old ?_; refine Ocm ?_; refine Omv ?_; refine Pmv ?_; refine Pnt ?_; refine Opk ?_; refine S2 ?_
  refine CW.cond rfl (fun h1 => ?_) (fun h1 => ?_)
  ·
   obtain ⟨h3, h4⟩ := meet_if h1
   rw [beq_iff_eq] at h3
   rw [meet1_new h3 h4] at hst
   have hRn := meet1_ok hR hXv
   rw [meet1_new h3 h4] at hRn
   have hnm : ¬ X.2 ∈ l := by simpa using h4
   refine S1 ?_
   refine CW.dp mixed ?_
   refine DP.anyC 0 11 54 rfl (by decide +kernel) rfl rfl (by decide +kernel) ?_
   refine Amv ?_; refine Anc ?_; refine Afa ?_; refine Ald ?_; refine Afa ?_; refine Ald ?_; refine Amv ?_; refine Anc ?_; refine Afa ?_; refine Ald ?_; refine Aln ?_
   refine AD.nil ?_
   refine DP.tailC 11 (by decide +kernel) rfl ?_
   refine OL.mapPut (u' := .i l.length) rfl rfl (.inl rfl) rfl rfl rfl rfl rfl rfl (AVle.eqI (by rw [List.length_map])) (.tail _ _ _ _ _ (.tail _ _ _ _ _ (.head _ _ _))) hM.ok hXk ?_
   refine S2 ?_
   refine CW.dp mixed ?_
   refine DP.anyK (X := noX) [⟨8, 50, false⟩] (fun J => match J with | [some v2] => .own 3 1 v2 :: .blk xb 123 [.as (AV.ints l) v, .val (.map (some mb))] :: imapE mb (putI m' X.2 (.i l.length)) :: H | _ => routeE xb mb v l (putI m' X.2 (.i l.length)) H) (fun q J => match q, J with | 0, [some v2] => .as (.sl 1 ((l.map fun n => [AV.i n]) ++ [[AV.i X.2]])) v2 | _, _ => .any) 0 9 54 rfl (by decide +kernel) (by decide +kernel) rfl rfl (by decide +kernel) rfl (fun _ _ _ _ _ _ _ _ _ h => h.elim) ?_
   refine UD.popK [[true], [false]] rfl (by decide +kernel) rfl rfl rfl ⟨fun f => POp.move rfl rfl rfl, fun f => POp.move rfl rfl rfl, trivial⟩ ?_
   refine UD.popK [[false]] rfl (by decide +kernel) rfl rfl rfl ⟨fun f => POp.move rfl rfl rfl, trivial⟩ ?_
   refine UD.popK [[false]] rfl (by decide +kernel) rfl rfl rfl ⟨fun f => (by first | exact POp.nilCheck rfl rfl rfl | exact POp.nilCheckP rfl rfl rfl | exact POp.nilCheckF rfl rfl rfl), trivial⟩ ?_
   refine UD.popK [[false]] rfl (by decide +kernel) rfl rfl rfl ⟨fun f => (by first | exact POp.fa rfl rfl rfl rfl | exact POp.faP rfl rfl rfl rfl), trivial⟩ ?_
   refine UD.popK [[false]] rfl (by decide +kernel) rfl rfl rfl ⟨fun f => (by first | exact POp.ld1 rfl rfl rfl rfl | (apply POp.ld1H rfl rfl rfl; (case hm => repeat (first | exact .head _ | refine .tail _ ?_)); (case hy => rfl))), trivial⟩ ?_
   refine UD.popK [[false]] rfl (by decide +kernel) rfl rfl rfl ⟨fun f => (by first | exact POp.fa rfl rfl rfl rfl | exact POp.faP rfl rfl rfl rfl), trivial⟩ ?_
   refine UD.popK [[false]] rfl (by decide +kernel) rfl rfl rfl ⟨fun f => (by first | exact POp.ld1 rfl rfl rfl rfl | (apply POp.ld1H rfl rfl rfl; (case hm => repeat (first | exact .head _ | refine .tail _ ?_)); (case hy => rfl))), trivial⟩ ?_
   refine UD.popK [[false]] rfl (by decide +kernel) rfl rfl rfl ⟨fun f => POp.row rfl rfl (by first | rfl | simp_all [strip]) rfl rfl rfl rfl rfl rfl, trivial⟩ ?_
   refine UD.effK 0 [[false]] rfl rfl rfl (by decide +kernel) rfl rfl rfl ⟨fun f => ⟨KOk.own (news := [[AV.i X.2]]) rfl rfl rfl (AVle.refl _) rfl rfl (AVle.refl _) rfl (by simp; omega) (by simp; omega) (fun _ => .head _ _ _) (fun _ => rfl), (by intro v q hq; rcases q with _ | _ | _ | _ | _ | _ | q <;> first | rfl | (cases hq))⟩, trivial⟩ ?_
   refine UD.nil (fun f => ?_)
   simp only [kvals, List.map_cons, List.map_nil, List.cons_append, List.nil_append]
   refine DP.tailC 9 (by decide +kernel) rfl ?_
   refine Onc ?_; refine Ofa ?_; refine Sto ?_; refine S4 ?_; refine Oar ?_; refine Omv ?_; refine S1 ?_
   rw [show (AV.sl 1 ((l.map fun n => [AV.i n]) ++ [[AV.i X.2]])) = AV.ints (l ++ [X.2]) from by show _ = AV.sl 1 (List.map _ (_ ++ _)); rw [List.map_append]; rfl]
   exact ag ⟨i + 1, l ++ [X.2], _, f 50, rfl, rfl, hil, hst.symm, hM.put hXk hnm, hRn⟩
  ·
   have hso : meet1 l X = l := meet1_old ((meet_not h1).imp (by simp) id)
   rw [hso] at hst
   refine S4 ?_; refine Oar ?_; refine Omv ?_; refine S1 ?_
   exact ag (⟨i + 1, l, m', v, rfl, rfl, hil, hst.symm, hM, hR⟩)
 ·
  replace h0 := nm h0
  obtain rfl : i = vals.length := by omega
  rw [List.take_length] at hl
  subst hl
  refine S4 ?_
  refine Done.norR (rs := []) (H' := routeE xb mb v (meetP vals l0) m' H) rfl (.nil) (AVleL.refl _) (by repeat (first | exact List.Sublist.refl _ | refine List.Sublist.cons _ ?_)) ?_
  exact ⟨m', v, hM, rfl⟩
theorem reachC {objs : List Th} {roots : List (Int × Int)} (hn : objs.length ≤ 40) (hr : roots.all (valueP objs.length) = true) (hv : ∀ t ∈ objs, t.slots.all (valueP objs.length) = true) (H : List Ent) :
  ACall Tryz.prog 80 [AV.ths objs, AV.mvs roots] H (fun y H' => ∃ xb mb v m, y = .p xb 0 ∧ MapAt m (reachP objs roots) ∧ H' = routeE xb mb v (reachP objs roots) m H) (fun _ _ => False) := by
 refine ACall.mk' (n := 36) Tryz.func80 rfl (by kernel_rfl) rfl rfl (fun B I w0 => ?_)
 refine S2 ?_; refine Oas ?_; refine S4 ?_
 refine OL.mkMap rfl rfl rfl rfl (fun mb => ?_)
 refine Obd ?_
 refine OL.boxC rfl rfl rfl rfl rfl rfl rfl (fun xb => ?_)
 refine Oas ?_; refine S3 ?_
 refine CW.ownNilB (b := xb) (t := 123) 3 1 0 (by repeat (first | exact Upd.head _ _ _ | apply Upd.tail)) rfl rfl ?_
 refine S1 ?_; refine Omv ?_; refine Omv ?_
 refine OL.bcallC rfl rfl rfl (.mk' rfl rfl rfl rfl rfl) ((meetC (n := objs.length) (by omega) hr (.nil _) MapAt.nil xb mb _ H).b) ?_
 rintro y H1 ⟨m1, v1, hM1, rfl⟩
 refine S5 ?_; refine Oas ?_; refine S3 ?_
 refine lj (fun k st => ∃ (i : Nat) (l : List Int) (m : List (Int × AV)) (v : Value), st = ⟨[(6, .i i), (5, .p xb 0), (0, AV.ths objs)], routeE xb mb v l m H⟩ ∧ k = objs.length - i ∧ i ≤ l.length ∧ MapAt m l ∧ Reached objs roots i l ∧ reachN objs (objs.length + 1 - i) i l = reachP objs roots) (⟨0, _, m1, v1, rfl, rfl, by omega, hM1, .begin hr, rfl⟩) ?_
 rintro k _ ⟨i, l, m, v, rfl, rfl, hi, hM, hR, hN⟩
 have hll := hR.ok.len
 refine S3 ?_; refine Omv ?_; refine Omv ?_; refine Onc ?_; refine Ofa ?_; refine Old ?_; refine Oln ?_; refine Ocm ?_; refine S2 ?_
 refine CW.cond rfl (fun h0 => ?_) (fun h0 => ?_)
 ·
  replace h0 := nm h0
  rw [List.length_map] at h0
  have hil : i < l.length := by omega
  obtain ⟨n, hn'⟩ : ∃ n, n = l.getD i default := ⟨_, rfl⟩
  have hni := hR.ok.in_ n (hn' ▸ getD_memB hil)
  have hTv : (thOf objs n).slots.all (valueP objs.length) = true := hv _ (getD_memB (by omega))
  have hst := hR.step hv hil
  rw [← hn'] at hst
  rw [show objs.length + 1 - i = objs.length + 1 - (i + 1) + 1 by omega, reachN, if_pos hil, ← hn'] at hN
  refine S5 ?_; refine Omv ?_; refine Omv ?_; refine Omv ?_; refine Onc ?_; refine Ofa ?_; refine Old ?_; refine Omv ?_
  refine OL.popC rfl rfl rfl (POp.leC 27 rfl (AVle.asL _ _) (POp.ixI rfl rfl rfl rfl rfl (by omega))) ?_
  refine Old ?_
  refine OL.le 30 (y := .i n) rfl (AVle.eqI hn'.symm) ?_
  refine Oix ?_; refine Ofa ?_; refine Old ?_
  refine OL.bcallC rfl rfl rfl (.mk' rfl rfl rfl rfl rfl) ((meetC (n := objs.length) (by omega) hTv hR.ok hM xb mb v H).b) ?_
  rintro y H1 ⟨m', v', hM', rfl⟩
  refine S4 ?_; refine Omv ?_; refine Oar ?_; refine Oas ?_; refine S1 ?_
  exact ag (⟨i + 1, meetP (thOf objs n).slots l, m', v', rfl, rfl, by have := (meetP_pre (thOf objs n).slots l).length_le; omega, hM', hst, hN⟩)
 ·
  replace h0 := nm h0
  rw [List.length_map] at h0
  obtain rfl : i = l.length := by omega
  rw [show objs.length + 1 - l.length = objs.length - l.length + 1 by omega, reachN, if_neg (by omega)] at hN
  subst hN
  refine S7 ?_; refine Omv ?_; refine Oas ?_; refine S3 ?_
  refine r1 4 (routeE xb mb v (reachP objs roots) m H) ?_
  exact ⟨xb, mb, v, m, rfl, hM, rfl⟩
theorem reachI {p : Prog} (hp : p.Small) (objs : List Th) (roots : List (Int × Int)) : PCall Tryz.prog 26 [AV.prog p, AV.ths objs, AV.mvs roots] (.tup [AV.ints (reachQ p objs roots), .i (if askedP p objs roots then 0 else 2)]) := by
 intro H
 refine ACall.mk' (n := 19) Tryz.func26 rfl (by kernel_rfl) rfl rfl (fun B I w0 => ?_)
 refine S2 ?_; refine Obx ?_; refine Oas ?_; refine Oas ?_; refine S5 ?_; refine Ola ?_; refine Omv ?_; refine Omv ?_
 refine OL.popC rfl rfl rfl (POp.call (.mk' rfl rfl rfl rfl rfl) (askedC hp objs roots)) ?_
 refine Ont ?_; refine S2 ?_
 refine CW.cond rfl (fun h0 => ?_) (fun h0 => ?_)
 ·
  have ha : askedP p objs roots = false := by simpa using h0
  refine S2 ?_; refine Oas ?_; refine Oas ?_; refine S4 ?_
  refine Done.retR (rs := [.tmp 6, .tmp 7]) (H' := H) rfl (.tmp rfl (.tmp rfl (.nil))) (.cons (AVle.nil 1) (.cons (.refl _) .nil)) (by repeat (first | exact List.Sublist.refl _ | refine List.Sublist.cons _ ?_)) ?_
  exact ⟨by rw [reachQ, ha]; rfl, rfl⟩
 ·
  have ha : askedP p objs roots = true := by simpa using h0
  obtain ⟨h1, h2, h3, h4⟩ := asked_parts ha
  refine S4 ?_; refine Omv ?_; refine Omv ?_
  refine OL.bcallC rfl rfl rfl (.mk' rfl rfl rfl rfl rfl) ((reachC h1 h3 h4 H).b) ?_
  rintro y H1 ⟨xb, mb, v, m, rfl, hM, rfl⟩
  refine Onc ?_; refine Ofa ?_; refine Old ?_; refine Oas ?_; refine Oas ?_; refine S3 ?_
  refine Done.retR (rs := [.tmp 6, .tmp 7]) (H' := H) rfl (.tmp rfl (.tmp rfl (.nil))) (.cons (AVle.asL _ _) (.cons (.refl _) .nil)) (by repeat (first | exact List.Sublist.refl _ | refine List.Sublist.cons _ ?_)) ?_
  exact ⟨by rw [reachQ, ha]; rfl, rfl⟩
theorem eq2 (x y : Int × Int) : ([x.1, x.2] == [y.1, y.2]) = (x == y) := by
 rw [Bool.eq_iff_iff, beq_iff_eq, beq_iff_eq, Prod.ext_iff]; simp
theorem sIndexMV (l : List (Int × Int)) (x : Int × Int) : PCall Tryz.prog 104 [AV.mvs l, AV.mv x] (.i (idxG l fun y => x == y)) := by
 intro H
 refine ACall.mk' (n := 19) Tryz.func104 rfl (by kernel_rfl) rfl rfl (fun B I w0 => ?_)
 refine CW.boundM (t := 0) rfl (fun hb0 => ?_)
 refine S2 ?_; refine Obx ?_; refine Oas ?_; refine S5 ?_; refine Omv ?_; refine Oln ?_; refine Omv ?_; refine S3 ?_
 refine lj (fun m st => ∃ k : Nat, st = ⟨[(8, .i k), (7, .i l.length), (0, AV.mvs l), (3, .ptr (initA x))], H⟩ ∧ m = l.length - k ∧ k ≤ l.length ∧ ∀ y ∈ l.take k, (x == y) = false) (⟨0, rfl, rfl, by simp, by simp⟩) ?_
 rintro m _ ⟨k, rfl, rfl, hk, hp⟩
 refine S2 ?_; refine Ocm ?_; refine S3 ?_
 refine CW.cond rfl (fun h0 => ?_) (fun h0 => ?_)
 ·
  replace h0 := nm h0
  have hkl : k < l.length := by omega
  refine S6 ?_; refine Omv ?_; refine Oas ?_; refine S3 ?_
  refine CW.dp mixed ?_
  refine DP.anyC 0 5 19 rfl (by decide +kernel) rfl rfl (by decide +kernel) ?_
  refine Ala ?_; refine Amv ?_; refine Amv ?_
  refine AD.popC rfl rfl rfl ((by first | exact POp.ixM rfl rfl rfl rfl rfl hkl | exact POp.ixI rfl rfl rfl rfl rfl hkl)) ?_
  refine Ala ?_
  refine AD.nil ?_
  refine DP.tailC 5 (by decide +kernel) rfl ?_
  refine OL.popC rfl rfl rfl (POp.eqI [x.1, x.2] [(l.getD k default).1, (l.getD k default).2] rfl rfl rfl rfl rfl rfl rfl) ?_
  refine S2 ?_
  have he := eq2 x (l.getD k default)
  refine CW.cond rfl (fun h1 => ?_) (fun h1 => ?_)
  ·
   rw [h1] at he
   refine S2 ?_; refine Omv ?_; refine Oas ?_; refine S8 ?_
   refine r1 4 (H) ?_
   exact ⟨retI (idxG_at hkl hp he.symm), rfl⟩
  ·
   rw [h1] at he
   refine S4 ?_; refine Oar ?_; refine Omv ?_; refine S1 ?_
   exact ag (⟨k + 1, rfl, rfl, hkl, fun y hy => by rw [← take_getD hkl, List.mem_append, List.mem_singleton] at hy; rcases hy with hy | rfl; exact hp y hy; exact he.symm⟩)
 ·
  replace h0 := nm h0
  refine S7 ?_; refine Oas ?_; refine S3 ?_
  refine r1 4 (H) ?_
  exact ⟨retI (idxG_none (by have e : k = l.length := (by omega); rw [e, List.take_length] at hp; exact hp)), rfl⟩
theorem sContainsMV (l : List (Int × Int)) (x : Int × Int) : PCall Tryz.prog 39 [AV.mvs l, AV.mv x] (.b (l.contains x)) := by
 intro H
 refine ACall.mk' (n := 9) Tryz.func39 rfl (by kernel_rfl) rfl rfl (fun B I w0 => ?_)
 refine S2 ?_; refine Obx ?_; refine Oas ?_; refine S4 ?_; refine Omv ?_; refine Ola ?_
 refine OL.popC rfl rfl rfl (POp.call (.mk' rfl rfl rfl rfl rfl) (sIndexMV l x)) ?_
 refine Ocm ?_; refine Oas ?_; refine S3 ?_
 refine r1 4 (H) ?_
 exact ⟨retB (by rw [idxG_any, List.contains_eq_any_beq]), rfl⟩
theorem from_zero (objs : List Th) (roots : List (Int × Int)) (L : List Int) (n : Int) : roots.contains (3, n) = fromP objs roots L 0 n := by simp [fromP]
theorem from_step {objs : List Th} {roots : List (Int × Int)} {L : List Int} {j : Nat} (hj : j < L.length) (n : Int) : (bif fromP objs roots L j n then true else (thOf objs (L.getD j default)).slots.contains (3, n)) = fromP objs roots L (j + 1) n := by
 unfold fromP
 rw [← take_getD hj, List.any_append, ← Bool.or_assoc, Bool.cond_true_left]
 simp only [List.any_cons, List.any_nil, Bool.or_false]
theorem take_get {L : List Int} {i j : Nat} (hj : j < i) (hi : i < L.length) : (L.take i).getD j default = L.getD j default := by
 rw [List.getD_eq_getElem?_getD, List.getElem?_take_of_lt hj, ← List.getD_eq_getElem?_getD]
theorem objI (n : Int) : PCall Tryz.prog 40 [.i n] (AV.mv (3, n)) := by
 intro H
 refine ACall.mk' (n := 5) Tryz.func40 rfl (by kernel_rfl) rfl rfl (fun B I w0 => ?_)
 refine S2 ?_
 refine OL.alC rfl rfl rfl rfl (fun b0 => ?_)
 refine S4 ?_; refine Omv ?_; refine Obd ?_; refine Sto ?_; refine S3 ?_
 refine Done.retR (rs := [.cell 2 60]) (H' := H) rfl ((by first | exact .cellA inferInstance rfl (by repeat (first | exact .head _ | refine .tail _ ?_)) rfl rfl (.nil) | exact .ptrA inferInstance rfl rfl (.nil))) (AVleL.refl _) (by repeat (first | exact List.Sublist.refl _ | refine List.Sublist.cons _ ?_)) ?_
 exact ⟨by first | rfl | exact retI (by simp_all) | exact retB (by simp_all) | simp_all, rfl⟩
theorem reach11 (l : List Int) (x : Int × Int) : PCall Tryz.prog 37 [AV.mv x, .ptr [AV.ints l]] (.b (lostP l x)) := by
 intro H
 refine ACall.mk' (n := 14) Tryz.func37 rfl (by kernel_rfl) rfl rfl (fun B I w0 => ?_)
 refine S2 ?_; refine Obx ?_; refine Oas ?_; refine S4 ?_; refine Ofa ?_; refine Old ?_; refine Ocm ?_; refine Omv ?_; refine Pld ?_; refine Pfa ?_; refine Pld ?_
 refine OL.guardC rfl rfl rfl rfl rfl rfl (fun hg => POp.call (.mk' rfl rfl rfl rfl (by first | rfl | ((repeat (first | exact hg | rfl | refine Bool.and_eq_true_iff.2 ⟨?_, ?_⟩)); done) | simp_all [strip, constAV])) (sContains l x.2)) ?_
 refine Pnt ?_; refine Opk ?_; refine Oas ?_; refine S3 ?_
 refine r1 3 (H) ?_
 exact ⟨retB (by rw [Bool.cond_false_right]; rfl), rfl⟩
theorem reach1 (l : List Int) (vals : List (Int × Int)) : PCall Tryz.prog 35 [AV.mvs vals, .ptr [AV.ints l]] (.b (holdsP l vals)) := by
 intro H
 refine ACall.mk' (n := 8) Tryz.func35 rfl (by kernel_rfl) rfl rfl (fun B I w0 => ?_)
 refine S2 ?_; refine Oas ?_; refine S4 ?_; refine Omv ?_; refine Omf ?_
 refine OL.popC rfl rfl rfl (POp.call (.mk' rfl rfl rfl rfl rfl) (hasMV (.of (reach11 l)) vals)) ?_
 refine Ont ?_; refine Oas ?_; refine S3 ?_
 refine r1 3 (H) ?_
 exact ⟨by rfl, rfl⟩
theorem imageReach (hk : PCall Tryz.prog 18 [] (.b true)) {g : Gv} (hp : g.p.Small) : PCall Tryz.prog 9 [AV.given g] (.b true) := by
 intro H
 refine ACall.mk' (n := 106) Tryz.func9 rfl (by kernel_rfl) rfl rfl (fun B I w0 => ?_)
 refine S2 ?_; refine Obx ?_; refine Oas ?_; refine S4 ?_; refine Ofa ?_; refine Ola ?_; refine Ofa ?_; refine Old ?_; refine Ofa ?_; refine Old ?_
 refine OL.popC rfl rfl rfl (POp.call (.mk' rfl rfl rfl rfl rfl) (reachI hp g.objs g.roots)) ?_
 refine Omv ?_; refine Oex ?_; refine Oex ?_
 refine OL.alC rfl rfl rfl rfl (fun b3 => ?_)
 refine Sto ?_; refine Oas ?_; refine S4 ?_
 obtain ⟨L, hL⟩ : ∃ L, L = reachQ g.p g.objs g.roots := ⟨_, rfl⟩
 rw [← hL]
 refine CW.freezeP (d := 3) rfl (by repeat (first | exact Del.head _ _ | apply Del.tail)) ?_
 refine S1 ?_; refine Omv ?_; refine Ocm ?_; refine S2 ?_
 refine CW.cond rfl (fun h0 => ?_) (fun h0 => ?_)
 ·
  have ha : askedP g.p g.objs g.roots = false := by cases h : askedP g.p g.objs g.roots <;> simp_all
  have hLn : L = [] := by rw [hL, reachQ, ha]; rfl
  refine S2 ?_; refine Omv ?_; refine Ocm ?_; refine Omv ?_; refine Pld ?_; refine Pln ?_; refine Pcm ?_; refine Opk ?_; refine Omv ?_
  refine OL.guardC rfl rfl rfl rfl rfl rfl (fun hg => POp.call (.mk' rfl rfl rfl rfl rfl) (hk)) ?_
  refine Opk ?_; refine Oas ?_; refine S4 ?_
  refine r1 2 (H) ?_
  exact ⟨retB (by rw [ha, hLn]; rfl), rfl⟩
 ·
  have ha : askedP g.p g.objs g.roots = true := by cases h : askedP g.p g.objs g.roots <;> simp_all
  obtain ⟨hn, _, hr, hv⟩ := asked_parts ha
  have hR : ReachLaw g.objs g.roots L := by rw [hL, reachQ, if_pos ha]; exact reach_law hr hv
  have hLl := hR.len
  refine S4 ?_; refine Oas ?_; refine S4 ?_; refine Omf ?_; refine Oas ?_; refine S5 ?_; refine Omv ?_; refine Ofa ?_; refine Old ?_
  refine OL.popC rfl rfl rfl (POp.call (.mk' rfl rfl rfl rfl rfl) (reach1 L g.roots)) ?_
  refine Ont ?_; refine S2 ?_
  refine CW.cond rfl (fun h1 => ?_) (fun h1 => ?_)
  ·
   rw [hR.rts] at h1; cases h1
  ·
   replace h1 := nm h1
   refine S4 ?_
   refine CW.ownNil 5 3 1 rfl ?_
   refine S1 ?_; refine Old ?_; refine Oln ?_; refine Omv ?_; refine S3 ?_
   refine lj (fun k st => ∃ (i : Nat) (v : Value), st = ⟨[(42, .i i), (41, .i L.length), (40, AV.ints L), (6, .fn (.func 35) [] [.ptr [AV.ints L]]), (5, .as (AV.ints (L.take i)) v), (3, .ptr [AV.ints L]), (1, .ptr (Gcells g))], .own 3 1 v :: H⟩ ∧ k = L.length - i ∧ i ≤ L.length) (⟨0, _, rfl, rfl, by omega⟩) ?_
   rintro k _ ⟨i, v, rfl, rfl, hi⟩
   refine S2 ?_; refine Ocm ?_; refine S3 ?_
   refine CW.cond rfl (fun h2 => ?_) (fun h2 => ?_)
   ·
    replace h2 := nm h2
    have hil : i < L.length := by omega
    obtain ⟨n, hn'⟩ : ∃ n, n = L.getD i default := ⟨_, rfl⟩
    have hni := hR.in_ i hil
    have hnn := hR.new i hil
    have hns := hR.sls i hil
    have hnf := hR.from_ i hil
    rw [← hn'] at hni hnn hns hnf
    refine S6 ?_; refine Omv ?_
    refine OL.popC rfl rfl rfl ((by first | exact POp.ixM rfl rfl rfl rfl rfl hil | exact POp.ixI rfl rfl rfl rfl rfl hil)) ?_
    refine Old ?_; refine Oas ?_; refine Oas ?_; refine S4 ?_
    rw [← hn']
    refine S1 ?_; refine Omv ?_; refine Ocm ?_; refine Omv ?_; refine Pmv ?_; refine Pfa ?_; refine Pld ?_; refine Pln ?_; refine Pcm ?_; refine Opk ?_; refine Omv ?_; refine Pmv ?_
    refine Pmv ?_
    refine OL.guardC rfl rfl rfl rfl rfl rfl (fun hg => POp.callLe (.mk' rfl rfl rfl rfl (by first | rfl | ((repeat (first | exact hg | rfl | refine Bool.and_eq_true_iff.2 ⟨?_, ?_⟩)); done) | simp_all [strip, constAV])) (.cons (AVle.asL _ _) (.cons (.refl _) .nil)) (sContains (L.take i) n)) ?_
    refine Opk ?_; refine Omv ?_; refine Pmv ?_; refine Pfa ?_; refine Pld ?_; refine Pmv ?_; refine Pix ?_; refine Pfa ?_; refine Pld ?_
    refine OL.guardC rfl rfl rfl rfl rfl rfl (fun hg => POp.call (.mk' rfl rfl (gd hg) rfl (by first | rfl | ((repeat (first | exact hg | rfl | refine Bool.and_eq_true_iff.2 ⟨?_, ?_⟩)); done) | simp_all [strip, constAV])) (reach1 L (thOf g.objs n).slots)) ?_
    refine Pnt ?_; refine Opk ?_; refine S2 ?_
    refine CW.cond rfl (fun h3 => ?_) (fun h3 => ?_)
    ·
     rw [hnn, hns] at h3; simp at h3; omega
    ·
     replace h3 := nm h3
     refine S3 ?_
     refine CW.dp mixed ?_
     refine DP.anyC 0 4 106 rfl (by decide +kernel) rfl rfl (by decide +kernel) ?_
     refine Afa ?_; refine Ald ?_; refine Amv ?_
     refine AD.popC rfl rfl rfl (POp.call (.mk' rfl rfl rfl rfl rfl) ((objI _))) ?_
     refine AD.nil ?_
     refine DP.tailC 4 (by decide +kernel) rfl ?_
     refine OL.popC rfl rfl rfl (POp.call (.mk' rfl rfl rfl rfl rfl) (sContainsMV g.roots (3, n))) ?_
     refine Oas ?_; refine S5 ?_; refine Old ?_; refine Omv ?_
     refine OL.popC rfl rfl rfl (POp.slTo rfl rfl (by first | rfl | exact hg | simp_all) rfl (by first | rfl | exact hg | simp_all) (by omega)) ?_
     refine Oln ?_; refine Omv ?_; refine S3 ?_
     refine CW.le 80 (y := .i i) rfl (AVle.eqI (by rw [List.length_take]; omega)) ?_
     refine CW.le 9 (y := .b (fromP g.objs g.roots L 0 n)) rfl (by rw [← from_zero]; exact AVle.refl _) ?_
     refine lj (fun k st => ∃ j : Nat, st = ⟨[(81, .i j), (80, .i i), (79, AV.ints (L.take i)), (9, .b (fromP g.objs g.roots L j n)), (8, .i n), (7, .i i), (42, .i i), (41, .i L.length), (40, AV.ints L), (6, .fn (.func 35) [] [.ptr [AV.ints L]]), (5, .as (AV.ints (L.take i)) v), (3, .ptr [AV.ints L]), (1, .ptr (Gcells g))], .own 3 1 v :: H⟩ ∧ k = i - j ∧ j ≤ i) (⟨0, rfl, rfl, by omega⟩) ?_
     rintro k _ ⟨j, rfl, rfl, hj⟩
     refine S2 ?_; refine Ocm ?_; refine S3 ?_
     refine CW.cond rfl (fun h4 => ?_) (fun h4 => ?_)
     ·
      replace h4 := nm h4
      have hji : j < i := by omega
      obtain ⟨q, hq⟩ : ∃ q, q = L.getD j default := ⟨_, rfl⟩
      have hqi := hR.in_ j (by omega)
      rw [← hq] at hqi
      have hqs := from_step (objs := g.objs) (roots := g.roots) (L := L) (j := j) (by omega) n
      rw [← hq] at hqs
      refine S6 ?_
      refine OL.popC rfl rfl rfl ((by first | exact POp.ixM rfl rfl rfl rfl rfl (by rw [List.length_take]; omega) | exact POp.ixI rfl rfl rfl rfl rfl (by rw [List.length_take]; omega))) ?_
      refine Old ?_; refine Oas ?_; refine S2 ?_
      rw [take_get hji hil, ← hq]
      refine CW.dp mixed ?_
      refine DP.one (k := 0) (by decide +kernel) rfl ?_
      refine Omv ?_
      refine OL.nil (Done.dp ?_)
      refine DP.one (k := 1) (by decide +kernel) rfl ?_
      refine Omv ?_
      refine OL.nil (Done.dp ?_)
      refine DP.anyC 2 10 106 rfl (by decide +kernel) rfl rfl (by decide +kernel) ?_
      refine AD.guardC rfl rfl rfl rfl rfl (fun hg => (by first | exact POp.fa rfl rfl rfl rfl | exact POp.faP rfl rfl rfl rfl)) ?_
      refine AD.guardC rfl rfl rfl rfl rfl (fun hg => (by first | exact POp.ld1 rfl rfl (gd hg) rfl | (apply POp.ld1H rfl rfl (gd hg); (case hm => repeat (first | exact .head _ | refine .tail _ ?_)); (case hy => rfl)))) ?_
      refine AD.guardC rfl rfl rfl rfl rfl (fun hg => POp.move rfl rfl rfl) ?_
      refine AD.guardC rfl rfl rfl rfl rfl (fun hg => (by first | exact POp.ixM rfl rfl (gd hg) rfl (gd hg) (by omega) | exact POp.ixI rfl rfl (gd hg) rfl (gd hg) (by omega))) ?_
      refine AD.guardC rfl rfl rfl rfl rfl (fun hg => (by first | exact POp.fa rfl rfl (gd hg) rfl | exact POp.faP rfl rfl (gd hg) rfl)) ?_
      refine AD.guardC rfl rfl rfl rfl rfl (fun hg => (by first | exact POp.ld1 rfl rfl (gd hg) rfl | (apply POp.ld1H rfl rfl (gd hg); (case hm => repeat (first | exact .head _ | refine .tail _ ?_)); (case hy => rfl)))) ?_
      refine AD.guardC rfl rfl rfl rfl rfl (fun hg => POp.move rfl rfl rfl) ?_
      refine AD.guardC rfl rfl rfl rfl rfl (fun hg => POp.call (.mk' rfl rfl rfl rfl (by first | rfl | ((repeat (first | exact hg | rfl | refine Bool.and_eq_true_iff.2 ⟨?_, ?_⟩)); done) | simp_all [strip, constAV])) ((objI _))) ?_
      refine AD.nil ?_
      refine DP.tailC 10 (by decide +kernel) rfl ?_
      refine OL.guardC rfl rfl rfl rfl rfl rfl (fun hg => POp.call (.mk' rfl rfl rfl rfl (by first | rfl | ((repeat (first | exact hg | rfl | refine Bool.and_eq_true_iff.2 ⟨?_, ?_⟩)); done) | simp_all [strip, constAV])) (sContainsMV (thOf g.objs q).slots (3, n))) ?_
      refine Opk ?_; refine Oas ?_; refine S4 ?_; refine Oar ?_; refine Omv ?_; refine S1 ?_
      exact ag (⟨j + 1, by rw [← hqs], rfl, hji⟩)
     ·
      replace h4 := nm h4
      obtain rfl : i = j := by omega
      refine S8 ?_; refine Omv ?_; refine Ont ?_; refine S2 ?_
      refine CW.cond rfl (fun h5 => ?_) (fun h5 => ?_)
      ·
       rw [hnf] at h5; cases h5
      ·
       replace h5 := nm h5
       refine S3 ?_; refine Omv ?_; refine Omv ?_
       refine OL.popC (x := .sl 1 [[AV.i n]]) rfl rfl rfl (POp.row rfl rfl (by first | rfl | simp_all [strip]) rfl rfl rfl rfl rfl rfl) ?_
       refine OL.appendC rfl rfl rfl rfl rfl rfl rfl rfl (AVle.refl _) (rfl) (fun v => by repeat (first | exact Upd.head _ _ _ | apply Upd.tail)) (by simp only [List.length_map, List.length_take, List.length_singleton, List.length_cons, List.length_nil] at *; omega) (by simp only [List.length_map, List.length_take, List.length_singleton, List.length_cons, List.length_nil] at *; omega) (fun v103 => ?_)
       refine Oas ?_; refine S4 ?_; refine Oar ?_; refine Omv ?_; refine S1 ?_
       exact ag (⟨i + 1, v103, by rw [← take_getD hil, ints_snoc, ← hn'], rfl, hil⟩)
   ·
    replace h2 := nm h2
    obtain rfl : i = L.length := by omega
    refine S7 ?_
    refine OL.popC rfl rfl rfl (POp.call (.mk' rfl rfl rfl rfl rfl) (hk)) ?_
    refine Oas ?_; refine S3 ?_
    refine r1 2 (H) ?_
    exact ⟨by rfl, rfl⟩
end Go.Proofs.YtpgnjlngepfanaaGreat
