/- Part 15 of the proof: contracts of functions of the program and what they need. No condition beyond those that each theorem names. -/
import Derived.Test.YtpgnjlngepfanaaGreatIbP14
set_option linter.unusedVariables false
set_option linter.unusedSimpArgs false
set_option maxRecDepth 10000
namespace Go.Proofs.YtpgnjlngepfanaaGreat
open Go.Eng
open Go.Eng.Fc
open Go.Eng.Bd
open Go.Eng.Im (U8 u8 u8s sumR splitR)
theorem eqU8 (a : List U8) : PCall Tryz.prog 41 [u8s a, u8s a] (.b true) := by
 intro H
 refine ACall.mk' (n := 26) Tryz.func41 rfl (by kernel_rfl) rfl rfl (fun B I w0 => ?_)
 refine CW.boundM (t := 0) rfl (fun hb0 => ?_)
 refine S2 ?_; refine Oas ?_; refine S5 ?_; refine Omv ?_; refine Oln ?_; refine Omv ?_; refine Oln ?_; refine Ocm ?_; refine S2 ?_
 refine CW.cond rfl (fun h0 => ?_) (fun h0 => ?_)
 ·
  exact absurd h0 (by simp)
 ·
  refine S5 ?_; refine Omv ?_; refine Oln ?_; refine Omv ?_; refine S3 ?_
  refine lj (fun m st => ∃ i : Nat, st = ⟨[(13, .i i), (12, .i a.length), (0, u8s a), (1, u8s a)], H⟩ ∧ m = a.length - i ∧ i ≤ a.length) (⟨0, rfl, rfl, by omega⟩) ?_
  rintro m _ ⟨i, rfl, rfl, hi⟩
  refine S2 ?_; refine Ocm ?_; refine S3 ?_
  refine CW.cond rfl (fun h1 => ?_) (fun h1 => ?_)
  ·
   replace h1 := nm h1
   have hil : i < a.length := by omega
   refine S6 ?_; refine Omv ?_; refine Oas ?_; refine S3 ?_
   refine CW.dp mixed ?_
   refine DP.anyC 0 8 26 rfl (by decide +kernel) rfl rfl (by decide +kernel) ?_
   refine Amv ?_; refine Amv ?_
   refine AD.popC rfl rfl rfl ((by first | exact POp.ixM rfl rfl rfl rfl rfl hil | exact POp.ixI rfl rfl rfl rfl rfl hil)) ?_
   refine Ald ?_; refine Amv ?_; refine Amv ?_
   refine AD.popC rfl rfl rfl ((by first | exact POp.ixM rfl rfl rfl rfl rfl hil | exact POp.ixI rfl rfl rfl rfl rfl hil)) ?_
   refine Ald ?_
   refine AD.nil ?_
   refine DP.tailC 8 (by decide +kernel) rfl ?_
   refine Ocm ?_; refine S2 ?_
   refine CW.cond rfl (fun h2 => ?_) (fun h2 => ?_)
   ·
    exact absurd h2 (by simp)
   ·
    refine S4 ?_; refine Oar ?_; refine Omv ?_; refine S1 ?_
    exact ag (⟨i + 1, rfl, rfl, hil⟩)
  ·
   replace h1 := nm h1
   refine S7 ?_; refine Oas ?_; refine S3 ?_
   refine r1 4 (H) ?_
   exact ⟨by rfl, rfl⟩
theorem sameT (a : List Th) : PCall Tryz.prog 22 [AV.ths a, AV.ths a] (.b true) := by
 intro H
 refine ACall.mk' (n := 42) Tryz.func22 rfl (by kernel_rfl) rfl rfl (fun B I w0 => ?_)
 refine CW.boundM (t := 0) rfl (fun hb0 => ?_)
 refine S2 ?_; refine Oas ?_; refine S5 ?_; refine Omv ?_; refine Oln ?_; refine Omv ?_; refine Oln ?_; refine Ocm ?_; refine S2 ?_
 refine CW.cond rfl (fun h0 => ?_) (fun h0 => ?_)
 ·
  exact absurd h0 (by simp)
 ·
  refine S5 ?_; refine Oas ?_; refine S3 ?_
  refine lj (fun m st => ∃ i : Nat, st = ⟨[(5, .i i), (0, AV.ths a), (1, AV.ths a)], H⟩ ∧ m = a.length - i ∧ i ≤ a.length) (⟨0, rfl, rfl, by omega⟩) ?_
  rintro m _ ⟨i, rfl, rfl, hi⟩
  refine S3 ?_; refine Omv ?_; refine Omv ?_; refine Oln ?_; refine Ocm ?_; refine S2 ?_
  refine CW.cond rfl (fun h1 => ?_) (fun h1 => ?_)
  ·
   replace h1 := nm h1
   have hil : i < a.length := by omega
   refine S5 ?_
   refine CW.dp mixed ?_
   refine DP.anyC 0 10 42 rfl (by decide +kernel) rfl rfl (by decide +kernel) ?_
   refine Amv ?_; refine Amv ?_
   refine AD.popC rfl rfl rfl ((by first | exact POp.ixM rfl rfl rfl rfl rfl hil | exact POp.ixI rfl rfl rfl rfl rfl hil)) ?_
   refine Afa ?_; refine Ald ?_; refine Amv ?_; refine Amv ?_
   refine AD.popC rfl rfl rfl ((by first | exact POp.ixM rfl rfl rfl rfl rfl hil | exact POp.ixI rfl rfl rfl rfl rfl hil)) ?_
   refine Afa ?_; refine Ald ?_
   refine AD.nil ?_
   refine DP.one (k := 10) (by decide +kernel) rfl ?_
   refine Ocm ?_
   refine OL.nil (Done.dp ?_)
   refine DP.one (k := 11) (by decide +kernel) rfl ?_
   refine Omv ?_
   refine OL.nil (Done.dp ?_)
   refine DP.anyC 12 22 42 rfl (by decide +kernel) rfl rfl (by decide +kernel) ?_
   refine AD.guardC rfl rfl rfl rfl rfl (fun hg => POp.move rfl rfl rfl) ?_
   refine AD.guardC rfl rfl rfl rfl rfl (fun hg => POp.move rfl rfl rfl) ?_
   refine AD.guardC rfl rfl rfl rfl rfl (fun hg => (by first | exact POp.ixM rfl rfl (gd hg) rfl (gd hg) hil | exact POp.ixI rfl rfl (gd hg) rfl (gd hg) hil)) ?_
   refine AD.guardC rfl rfl rfl rfl rfl (fun hg => (by first | exact POp.fa rfl rfl (gd hg) rfl | exact POp.faP rfl rfl (gd hg) rfl)) ?_
   refine AD.guardC rfl rfl rfl rfl rfl (fun hg => (by first | exact POp.ld1 rfl rfl (gd hg) rfl | (apply POp.ld1H rfl rfl (gd hg); (case hm => repeat (first | exact .head _ | refine .tail _ ?_)); (case hy => rfl)))) ?_
   refine AD.guardC rfl rfl rfl rfl rfl (fun hg => POp.move rfl rfl rfl) ?_
   refine AD.guardC rfl rfl rfl rfl rfl (fun hg => POp.move rfl rfl rfl) ?_
   refine AD.guardC rfl rfl rfl rfl rfl (fun hg => (by first | exact POp.ixM rfl rfl (gd hg) rfl (gd hg) hil | exact POp.ixI rfl rfl (gd hg) rfl (gd hg) hil)) ?_
   refine AD.guardC rfl rfl rfl rfl rfl (fun hg => (by first | exact POp.fa rfl rfl (gd hg) rfl | exact POp.faP rfl rfl (gd hg) rfl)) ?_
   refine AD.guardC rfl rfl rfl rfl rfl (fun hg => (by first | exact POp.ld1 rfl rfl (gd hg) rfl | (apply POp.ld1H rfl rfl (gd hg); (case hm => repeat (first | exact .head _ | refine .tail _ ?_)); (case hy => rfl)))) ?_
   refine AD.nil ?_
   refine DP.tailC 22 (by decide +kernel) rfl ?_
   refine OL.guardC rfl rfl rfl rfl rfl rfl (fun hg => POp.call (.mk' rfl rfl rfl rfl (by first | rfl | ((repeat (first | exact hg | rfl | refine Bool.and_eq_true_iff.2 ⟨?_, ?_⟩)); done) | simp_all [strip, constAV])) (sameV (a.getD i default).slots (a.getD i default).slots)) ?_
   refine Pnt ?_; refine Opk ?_; refine S2 ?_
   refine CW.cond rfl (fun h2 => ?_) (fun h2 => ?_)
   ·
    exact absurd h2 (by simp)
   ·
    refine S4 ?_; refine Omv ?_; refine Oar ?_; refine Oas ?_; refine S1 ?_
    exact ag (⟨i + 1, rfl, rfl, hil⟩)
  ·
   replace h1 := nm h1
   refine S7 ?_; refine Oas ?_; refine S3 ?_
   refine r1 4 (H) ?_
   exact ⟨by rfl, rfl⟩
instance : HasEq Tryz.prog 143 2 := ⟨by kernel_rfl⟩
theorem sameN (a : List (Int × Int)) : PCall Tryz.prog 149 [AV.mvs a, AV.mvs a] (.b true) := by
 intro H
 refine ACall.mk' (n := 26) Tryz.func149 rfl (by kernel_rfl) rfl rfl (fun B I w0 => ?_)
 refine CW.boundM (t := 0) rfl (fun hb0 => ?_)
 refine S2 ?_; refine Oas ?_; refine S5 ?_; refine Omv ?_; refine Oln ?_; refine Omv ?_; refine Oln ?_; refine Ocm ?_; refine S2 ?_
 refine CW.cond rfl (fun h0 => ?_) (fun h0 => ?_)
 ·
  exact absurd h0 (by simp)
 ·
  refine S5 ?_; refine Oas ?_; refine S3 ?_
  refine lj (fun m st => ∃ i : Nat, st = ⟨[(5, .i i), (0, AV.mvs a), (1, AV.mvs a)], H⟩ ∧ m = a.length - i ∧ i ≤ a.length) (⟨0, rfl, rfl, by omega⟩) ?_
  rintro m _ ⟨i, rfl, rfl, hi⟩
  refine S3 ?_; refine Omv ?_; refine Omv ?_; refine Oln ?_; refine Ocm ?_; refine S2 ?_
  refine CW.cond rfl (fun h1 => ?_) (fun h1 => ?_)
  ·
   replace h1 := nm h1
   have hil : i < a.length := by omega
   refine S5 ?_
   refine CW.dp mixed ?_
   refine DP.anyC 0 8 26 rfl (by decide +kernel) rfl rfl (by decide +kernel) ?_
   refine Amv ?_; refine Amv ?_
   refine AD.popC rfl rfl rfl ((by first | exact POp.ixM rfl rfl rfl rfl rfl hil | exact POp.ixI rfl rfl rfl rfl rfl hil)) ?_
   refine Ala ?_; refine Amv ?_; refine Amv ?_
   refine AD.popC rfl rfl rfl ((by first | exact POp.ixM rfl rfl rfl rfl rfl hil | exact POp.ixI rfl rfl rfl rfl rfl hil)) ?_
   refine Ala ?_
   refine AD.nil ?_
   refine DP.tailC 8 (by decide +kernel) rfl ?_
   refine OL.popC rfl rfl rfl (POp.neI [(a.getD i default).1, (a.getD i default).2] [(a.getD i default).1, (a.getD i default).2] rfl rfl rfl rfl rfl rfl rfl) ?_
   refine S2 ?_
   refine CW.cond rfl (fun h2 => ?_) (fun h2 => ?_)
   ·
    exact absurd h2 (by simp)
   ·
    refine S4 ?_; refine Omv ?_; refine Oar ?_; refine Oas ?_; refine S1 ?_
    exact ag (⟨i + 1, rfl, rfl, hil⟩)
  ·
   replace h1 := nm h1
   refine S7 ?_; refine Oas ?_; refine S3 ?_
   refine r1 4 (H) ?_
   exact ⟨by rfl, rfl⟩
theorem same_step (f : Fact) (ih : ∀ k ∈ f.kids, PCall Tryz.prog 150 [AV.fact k, AV.fact k] (.b true)) : PCall Tryz.prog 150 [AV.fact f, AV.fact f] (.b true) := by
 intro H
 refine ACall.mk' (n := 68) Tryz.func150 rfl (by kernel_rfl) rfl rfl (fun B I w0 => ?_)
 refine S2 ?_; refine Obx ?_; refine Obx ?_; refine Oas ?_; refine S5 ?_; refine Ofa ?_; refine Old ?_; refine Ofa ?_; refine Old ?_; refine Ocm ?_; refine Omv ?_; refine Pfa ?_
 refine Pld ?_; refine Pfa ?_; refine Pld ?_; refine Pcm ?_; refine Opk ?_; refine Omv ?_; refine Pfa ?_; refine Pld ?_; refine Pfa ?_; refine Pld ?_; refine Pcm ?_; refine Opk ?_
 refine Omv ?_; refine Pfa ?_; refine Pld ?_; refine Pfa ?_; refine Pld ?_; refine Pcm ?_; refine Opk ?_; refine Omv ?_; refine Pfa ?_; refine Pld ?_; refine Pfa ?_; refine Pld ?_
 refine OL.guardC rfl rfl rfl rfl rfl rfl (fun hg => POp.call (.mk' rfl rfl rfl rfl (by first | rfl | ((repeat (first | exact hg | rfl | refine Bool.and_eq_true_iff.2 ⟨?_, ?_⟩)); done) | simp_all [strip, constAV])) (sameI f.path f.path)) ?_
 refine Pnt ?_; refine Opk ?_; refine Omv ?_; refine Pfa ?_; refine Pld ?_; refine Pln ?_; refine Pfa ?_; refine Pld ?_; refine Pln ?_; refine Pcm ?_; refine Opk ?_; refine S2 ?_
 refine CW.cond rfl (fun h0 => ?_) (fun h0 => ?_)
 ·
  exact absurd h0 (by simp)
 ·
  refine S5 ?_; refine Ofa ?_; refine Old ?_; refine Oln ?_; refine Omv ?_; refine S3 ?_
  refine CW.boundM (t := 50) rfl (fun hb0 => ?_)
  refine lj (fun m st => ∃ i : Nat, st = ⟨[(52, .i i), (51, .i f.kids.length), (2, .ptr (Fcells f)), (3, .ptr (Fcells f))], H⟩ ∧ m = f.kids.length - i ∧ i ≤ f.kids.length) (⟨0, rfl, rfl, by omega⟩) ?_
  rintro m _ ⟨i, rfl, rfl, hi⟩
  refine S2 ?_; refine Ocm ?_; refine S3 ?_
  refine CW.cond rfl (fun h1 => ?_) (fun h1 => ?_)
  ·
   replace h1 := nm h1
   have hil : i < f.kids.length := by omega
   refine S6 ?_; refine Omv ?_; refine Oas ?_; refine S3 ?_
   refine CW.dp mixed ?_
   refine DP.anyC 0 10 68 rfl (by decide +kernel) rfl rfl (by decide +kernel) ?_
   refine Afa ?_; refine Ald ?_; refine Amv ?_
   refine AD.popC rfl rfl rfl ((by first | exact POp.ixM rfl rfl rfl rfl rfl hil | exact POp.ixI rfl rfl rfl rfl rfl hil)) ?_
   refine Ala ?_; refine Afa ?_; refine Ald ?_; refine Amv ?_
   refine AD.popC rfl rfl rfl ((by first | exact POp.ixM rfl rfl rfl rfl rfl hil | exact POp.ixI rfl rfl rfl rfl rfl hil)) ?_
   refine Ala ?_
   refine AD.nil ?_
   refine DP.tailC 10 (by decide +kernel) rfl ?_
   refine OL.popC rfl rfl rfl (POp.call (.mk' rfl rfl rfl rfl rfl) (ih _ (getD_memB hil))) ?_
   refine Ont ?_; refine S2 ?_
   refine CW.cond rfl (fun h2 => ?_) (fun h2 => ?_)
   ·
    exact absurd h2 (by simp)
   ·
    refine S4 ?_; refine Oar ?_; refine Omv ?_; refine S1 ?_
    exact ag (⟨i + 1, rfl, rfl, hil⟩)
  ·
   replace h1 := nm h1
   refine S7 ?_; refine Oas ?_; refine S3 ?_
   refine r1 4 (H) ?_
   exact ⟨by rfl, rfl⟩
theorem sameF : ∀ f : Fact, PCall Tryz.prog 150 [AV.fact f, AV.fact f] (.b true) := Fact.ind1 same_step
theorem sameP {p : Prog} (hp : okP p) : PCall Tryz.prog 75 [AV.prog p, AV.prog p] (.b true) := by
 intro H
 refine ACall.mk' (n := 181) Tryz.func75 rfl (by kernel_rfl) rfl rfl (fun B I w0 => ?_)
 have hpc := hp.cl
 have hpm := hp.ml
 have hpn := hp.nl
 refine S2 ?_; refine Obx ?_; refine Obx ?_; refine Oas ?_; refine S5 ?_; refine Ofa ?_; refine Old ?_; refine Ofa ?_; refine Old ?_; refine Ocm ?_; refine Omv ?_; refine Pfa ?_
 refine Pld ?_; refine Pfa ?_; refine Pld ?_; refine Pcm ?_; refine Opk ?_; refine Omv ?_; refine Pfa ?_; refine Pld ?_; refine Pfa ?_; refine Pld ?_
 refine OL.guardC rfl rfl rfl rfl rfl rfl (fun hg => POp.call (.mk' rfl rfl rfl rfl (by first | rfl | ((repeat (first | exact hg | rfl | refine Bool.and_eq_true_iff.2 ⟨?_, ?_⟩)); done) | simp_all [strip, constAV])) (sameI p.gens p.gens)) ?_
 refine Pnt ?_; refine Opk ?_; refine Omv ?_; refine Pfa ?_; refine Pld ?_; refine Pln ?_; refine Pfa ?_; refine Pld ?_; refine Pln ?_; refine Pcm ?_; refine Opk ?_; refine Omv ?_
 refine Pfa ?_; refine Pld ?_; refine Pln ?_; refine Pfa ?_; refine Pld ?_; refine Pln ?_; refine Pcm ?_; refine Opk ?_; refine Omv ?_; refine Pfa ?_; refine Pld ?_; refine Pln ?_
 refine Pfa ?_; refine Pld ?_; refine Pln ?_; refine Pcm ?_; refine Opk ?_; refine S2 ?_
 refine CW.cond rfl (fun h0 => ?_) (fun h0 => ?_)
 ·
  exact absurd h0 (by simp)
 ·
  refine S5 ?_; refine Oas ?_; refine S3 ?_
  refine lj (fun m st => ∃ i : Nat, st = ⟨[(5, .i i), (2, .ptr (progC p)), (3, .ptr (progC p))], H⟩ ∧ m = p.classes.length - i ∧ i ≤ p.classes.length) (⟨0, rfl, rfl, by omega⟩) ?_
  rintro m _ ⟨i, rfl, rfl, hi⟩
  refine S3 ?_; refine Omv ?_; refine Ofa ?_; refine Old ?_; refine Oln ?_; refine Ocm ?_; refine S2 ?_
  refine CW.cond rfl (fun h1 => ?_) (fun h1 => ?_)
  ·
   replace h1 := nm h1
   have hil : i < p.classes.length := by omega
   obtain ⟨C, hC⟩ : ∃ C, C = (p.classes.getD i default) := ⟨_, rfl⟩
   refine S5 ?_
   refine CW.dp mixed ?_
   refine DP.anyV [⟨10, 6, 79, [.slice none 0 0, .slice none 0 0, .slice none 0 0], 12, clsA (p.classes.getD i default)⟩, ⟨11, 7, 79, [.slice none 0 0, .slice none 0 0, .slice none 0 0], 13, clsA (p.classes.getD i default)⟩] 0 14 181 rfl (by decide +kernel) (by kernel_rfl) rfl rfl (by decide +kernel) ?_
   refine UD.popV rfl rfl rfl rfl ((by first | exact POp.fa rfl rfl rfl rfl | exact POp.faP rfl rfl rfl rfl)) ?_
   refine UD.popV rfl rfl rfl rfl ((by first | exact POp.ld1 rfl rfl rfl rfl | (apply POp.ld1H rfl rfl rfl; (case hm => repeat (first | exact .head _ | refine .tail _ ?_)); (case hy => rfl)))) ?_
   refine UD.popV rfl rfl rfl rfl (POp.move rfl rfl rfl) ?_
   refine UD.popV rfl rfl rfl rfl ((by first | exact POp.ixM rfl rfl rfl rfl rfl hil | exact POp.ixI rfl rfl rfl rfl rfl hil)) ?_
   refine UD.popV rfl rfl rfl rfl ((by first | exact POp.ldA rfl rfl rfl rfl | (apply POp.ldAH rfl rfl rfl; (case hm => repeat (first | exact .head _ | refine .tail _ ?_)); (case hy => rfl); (case hn => rfl)))) ?_
   refine UD.popV rfl rfl rfl rfl ((by first | exact POp.fa rfl rfl rfl rfl | exact POp.faP rfl rfl rfl rfl)) ?_
   refine UD.popV rfl rfl rfl rfl ((by first | exact POp.ld1 rfl rfl rfl rfl | (apply POp.ld1H rfl rfl rfl; (case hm => repeat (first | exact .head _ | refine .tail _ ?_)); (case hy => rfl)))) ?_
   refine UD.popV rfl rfl rfl rfl (POp.move rfl rfl rfl) ?_
   refine UD.popV rfl rfl rfl rfl ((by first | exact POp.ixM rfl rfl rfl rfl rfl hil | exact POp.ixI rfl rfl rfl rfl rfl hil)) ?_
   refine UD.popV rfl rfl rfl rfl ((by first | exact POp.ldA rfl rfl rfl rfl | (apply POp.ldAH rfl rfl rfl; (case hm => repeat (first | exact .head _ | refine .tail _ ?_)); (case hy => rfl); (case hn => rfl)))) ?_
   refine UD.effV [] [⟨11, 7, 79, [.slice none 0 0, .slice none 0 0, .slice none 0 0], 13, clsA (p.classes.getD i default)⟩] ⟨10, 6, 79, [.slice none 0 0, .slice none 0 0, .slice none 0 0], 12, clsA (p.classes.getD i default)⟩ rfl ⟨0, 14, by kernel_rfl⟩ rfl rfl rfl rfl rfl rfl rfl ?_
   refine UD.effV [⟨10, 6, 79, [.slice none 0 0, .slice none 0 0, .slice none 0 0], 12, clsA (p.classes.getD i default)⟩] [] ⟨11, 7, 79, [.slice none 0 0, .slice none 0 0, .slice none 0 0], 13, clsA (p.classes.getD i default)⟩ rfl ⟨0, 14, by kernel_rfl⟩ rfl rfl rfl rfl rfl rfl rfl ?_
   refine UD.stoV [] [⟨11, 7, 79, [.slice none 0 0, .slice none 0 0, .slice none 0 0], 13, clsA (p.classes.getD i default)⟩] ⟨10, 6, 79, [.slice none 0 0, .slice none 0 0, .slice none 0 0], 12, clsA (p.classes.getD i default)⟩ rfl ⟨0, 14, by kernel_rfl⟩ rfl rfl rfl (fun b H1 H2 hu => .store rfl rfl rfl rfl rfl rfl rfl rfl hu (by exact rfl) (by exact rfl)) ?_
   refine UD.stoV [⟨10, 6, 79, [.slice none 0 0, .slice none 0 0, .slice none 0 0], 12, clsA (p.classes.getD i default)⟩] [] ⟨11, 7, 79, [.slice none 0 0, .slice none 0 0, .slice none 0 0], 13, clsA (p.classes.getD i default)⟩ rfl ⟨0, 14, by kernel_rfl⟩ rfl rfl rfl (fun b H1 H2 hu => .store rfl rfl rfl rfl rfl rfl rfl rfl hu (by exact rfl) (by exact rfl)) ?_
   refine UD.nil (fun bs => ?_)
   simp only [List.map_cons, List.map_nil, List.cons_append, List.nil_append]
   refine DP.done rfl ?_
   refine S2 ?_
   rw [← hC]
   refine CW.freezeP (d := 6) rfl (by repeat (first | exact Del.head _ _ | apply Del.tail)) ?_
   refine CW.freezeP (d := 7) rfl (by repeat (first | exact Del.head _ _ | apply Del.tail)) ?_
   refine S1 ?_; refine Ofa ?_; refine Old ?_; refine Ofa ?_; refine Old ?_
   refine OL.popC rfl rfl rfl (POp.call (.mk' rfl rfl rfl rfl rfl) (sameI C.parents C.parents)) ?_
   refine Ont ?_; refine Omv ?_; refine Pfa ?_; refine Pld ?_; refine Pfa ?_; refine Pld ?_
   refine OL.guardC rfl rfl rfl rfl rfl rfl (fun hg => POp.call (.mk' rfl rfl rfl rfl (by first | rfl | ((repeat (first | exact hg | rfl | refine Bool.and_eq_true_iff.2 ⟨?_, ?_⟩)); done) | simp_all [strip, constAV])) (sameI C.slots C.slots)) ?_
   refine Pnt ?_; refine Opk ?_; refine Omv ?_; refine Pfa ?_; refine Pld ?_; refine Pfa ?_; refine Pld ?_
   refine OL.guardC rfl rfl rfl rfl rfl rfl (fun hg => POp.call (.mk' rfl rfl rfl rfl (by first | rfl | ((repeat (first | exact hg | rfl | refine Bool.and_eq_true_iff.2 ⟨?_, ?_⟩)); done) | simp_all [strip, constAV])) (sameN C.inits)) ?_
   refine Pnt ?_; refine Opk ?_; refine S2 ?_
   refine CW.cond rfl (fun h2 => ?_) (fun h2 => ?_)
   ·
    exact absurd h2 (by simp)
   ·
    refine S4 ?_; refine Omv ?_; refine Oar ?_; refine Oas ?_; refine S1 ?_
    exact ag (⟨i + 1, rfl, rfl, hil⟩)
  ·
   replace h1 := nm h1
   refine S8 ?_; refine Oas ?_; refine S3 ?_
   refine lj (fun m st => ∃ i : Nat, st = ⟨[(8, .i i), (2, .ptr (progC p)), (3, .ptr (progC p))], H⟩ ∧ m = p.methods.length - i ∧ i ≤ p.methods.length) (⟨0, rfl, rfl, by omega⟩) ?_
   rintro m _ ⟨i, rfl, rfl, hi⟩
   refine S3 ?_; refine Omv ?_; refine Ofa ?_; refine Old ?_; refine Oln ?_; refine Ocm ?_; refine S2 ?_
   refine CW.cond rfl (fun h3 => ?_) (fun h3 => ?_)
   ·
    replace h3 := nm h3
    have hil : i < p.methods.length := by omega
    obtain ⟨M, hM⟩ : ∃ M, M = (p.methods.getD i default) := ⟨_, rfl⟩
    refine S5 ?_
    refine CW.dp mixed ?_
    refine DP.anyV [⟨10, 9, 168, [.int .i64 0, .int .i64 0, .int .i64 0, .int .i64 0, .slice none 0 0, .int .i64 0, .int .i64 0, .slice none 0 0, .int .i64 0], 12, mthA (p.methods.getD i default)⟩, ⟨11, 10, 168, [.int .i64 0, .int .i64 0, .int .i64 0, .int .i64 0, .slice none 0 0, .int .i64 0, .int .i64 0, .slice none 0 0, .int .i64 0], 13, mthA (p.methods.getD i default)⟩] 0 14 181 rfl (by decide +kernel) (by kernel_rfl) rfl rfl (by decide +kernel) ?_
    refine UD.popV rfl rfl rfl rfl ((by first | exact POp.fa rfl rfl rfl rfl | exact POp.faP rfl rfl rfl rfl)) ?_
    refine UD.popV rfl rfl rfl rfl ((by first | exact POp.ld1 rfl rfl rfl rfl | (apply POp.ld1H rfl rfl rfl; (case hm => repeat (first | exact .head _ | refine .tail _ ?_)); (case hy => rfl)))) ?_
    refine UD.popV rfl rfl rfl rfl (POp.move rfl rfl rfl) ?_
    refine UD.popV rfl rfl rfl rfl ((by first | exact POp.ixM rfl rfl rfl rfl rfl hil | exact POp.ixI rfl rfl rfl rfl rfl hil)) ?_
    refine UD.popV rfl rfl rfl rfl ((by first | exact POp.ldA rfl rfl rfl rfl | (apply POp.ldAH rfl rfl rfl; (case hm => repeat (first | exact .head _ | refine .tail _ ?_)); (case hy => rfl); (case hn => rfl)))) ?_
    refine UD.popV rfl rfl rfl rfl ((by first | exact POp.fa rfl rfl rfl rfl | exact POp.faP rfl rfl rfl rfl)) ?_
    refine UD.popV rfl rfl rfl rfl ((by first | exact POp.ld1 rfl rfl rfl rfl | (apply POp.ld1H rfl rfl rfl; (case hm => repeat (first | exact .head _ | refine .tail _ ?_)); (case hy => rfl)))) ?_
    refine UD.popV rfl rfl rfl rfl (POp.move rfl rfl rfl) ?_
    refine UD.popV rfl rfl rfl rfl ((by first | exact POp.ixM rfl rfl rfl rfl rfl hil | exact POp.ixI rfl rfl rfl rfl rfl hil)) ?_
    refine UD.popV rfl rfl rfl rfl ((by first | exact POp.ldA rfl rfl rfl rfl | (apply POp.ldAH rfl rfl rfl; (case hm => repeat (first | exact .head _ | refine .tail _ ?_)); (case hy => rfl); (case hn => rfl)))) ?_
    refine UD.effV [] [⟨11, 10, 168, [.int .i64 0, .int .i64 0, .int .i64 0, .int .i64 0, .slice none 0 0, .int .i64 0, .int .i64 0, .slice none 0 0, .int .i64 0], 13, mthA (p.methods.getD i default)⟩] ⟨10, 9, 168, [.int .i64 0, .int .i64 0, .int .i64 0, .int .i64 0, .slice none 0 0, .int .i64 0, .int .i64 0, .slice none 0 0, .int .i64 0], 12, mthA (p.methods.getD i default)⟩ rfl ⟨0, 14, by kernel_rfl⟩ rfl rfl rfl rfl rfl rfl rfl ?_
    refine UD.effV [⟨10, 9, 168, [.int .i64 0, .int .i64 0, .int .i64 0, .int .i64 0, .slice none 0 0, .int .i64 0, .int .i64 0, .slice none 0 0, .int .i64 0], 12, mthA (p.methods.getD i default)⟩] [] ⟨11, 10, 168, [.int .i64 0, .int .i64 0, .int .i64 0, .int .i64 0, .slice none 0 0, .int .i64 0, .int .i64 0, .slice none 0 0, .int .i64 0], 13, mthA (p.methods.getD i default)⟩ rfl ⟨0, 14, by kernel_rfl⟩ rfl rfl rfl rfl rfl rfl rfl ?_
    refine UD.stoV [] [⟨11, 10, 168, [.int .i64 0, .int .i64 0, .int .i64 0, .int .i64 0, .slice none 0 0, .int .i64 0, .int .i64 0, .slice none 0 0, .int .i64 0], 13, mthA (p.methods.getD i default)⟩] ⟨10, 9, 168, [.int .i64 0, .int .i64 0, .int .i64 0, .int .i64 0, .slice none 0 0, .int .i64 0, .int .i64 0, .slice none 0 0, .int .i64 0], 12, mthA (p.methods.getD i default)⟩ rfl ⟨0, 14, by kernel_rfl⟩ rfl rfl rfl (fun b H1 H2 hu => .store rfl rfl rfl rfl rfl rfl rfl rfl hu (by exact rfl) (by exact rfl)) ?_
    refine UD.stoV [⟨10, 9, 168, [.int .i64 0, .int .i64 0, .int .i64 0, .int .i64 0, .slice none 0 0, .int .i64 0, .int .i64 0, .slice none 0 0, .int .i64 0], 12, mthA (p.methods.getD i default)⟩] [] ⟨11, 10, 168, [.int .i64 0, .int .i64 0, .int .i64 0, .int .i64 0, .slice none 0 0, .int .i64 0, .int .i64 0, .slice none 0 0, .int .i64 0], 13, mthA (p.methods.getD i default)⟩ rfl ⟨0, 14, by kernel_rfl⟩ rfl rfl rfl (fun b H1 H2 hu => .store rfl rfl rfl rfl rfl rfl rfl rfl hu (by exact rfl) (by exact rfl)) ?_
    refine UD.nil (fun bs => ?_)
    simp only [List.map_cons, List.map_nil, List.cons_append, List.nil_append]
    refine DP.done rfl ?_
    refine S2 ?_
    rw [← hM]
    refine CW.freezeP (d := 9) rfl (by repeat (first | exact Del.head _ _ | apply Del.tail)) ?_
    refine CW.freezeP (d := 10) rfl (by repeat (first | exact Del.head _ _ | apply Del.tail)) ?_
    refine S1 ?_; refine Ofa ?_; refine Old ?_; refine Ofa ?_; refine Old ?_; refine Ocm ?_; refine Omv ?_; refine Pfa ?_; refine Pld ?_; refine Pfa ?_; refine Pld ?_; refine Pcm ?_
    refine Opk ?_; refine Omv ?_; refine Pfa ?_; refine Pld ?_; refine Pfa ?_; refine Pld ?_; refine Pcm ?_; refine Opk ?_; refine Omv ?_; refine Pfa ?_; refine Pla ?_; refine Pfa ?_
    refine Pla ?_
    refine OL.guardC rfl rfl rfl rfl rfl rfl (fun hg => POp.call (.mk' rfl rfl rfl rfl (by first | rfl | ((repeat (first | exact hg | rfl | refine Bool.and_eq_true_iff.2 ⟨?_, ?_⟩)); done) | simp_all [strip, constAV])) (sameF M.fact)) ?_
    refine Pnt ?_; refine Opk ?_; refine S2 ?_
    refine CW.cond rfl (fun h4 => ?_) (fun h4 => ?_)
    ·
     exact absurd h4 (by simp)
    ·
     refine S4 ?_; refine Omv ?_; refine Oar ?_; refine Oas ?_; refine S1 ?_
     exact ag (⟨i + 1, rfl, rfl, hil⟩)
   ·
    replace h3 := nm h3
    refine S8 ?_; refine Oas ?_; refine S3 ?_
    refine lj (fun m st => ∃ i : Nat, st = ⟨[(11, .i i), (2, .ptr (progC p)), (3, .ptr (progC p))], H⟩ ∧ m = p.nodes.length - i ∧ i ≤ p.nodes.length) (⟨0, rfl, rfl, by omega⟩) ?_
    rintro m _ ⟨i, rfl, rfl, hi⟩
    refine S3 ?_; refine Omv ?_; refine Ofa ?_; refine Old ?_; refine Oln ?_; refine Ocm ?_; refine S2 ?_
    refine CW.cond rfl (fun h5 => ?_) (fun h5 => ?_)
    ·
     replace h5 := nm h5
     have hil : i < p.nodes.length := by omega
     obtain ⟨N, hN⟩ : ∃ N, N = (p.nodes.getD i default) := ⟨_, rfl⟩
     refine S5 ?_
     refine CW.dp mixed ?_
     refine DP.anyV [⟨10, 12, 146, [.int .i64 0, .int .i64 0, .slice none 0 0], 12, ndA (p.nodes.getD i default)⟩, ⟨11, 13, 146, [.int .i64 0, .int .i64 0, .slice none 0 0], 13, ndA (p.nodes.getD i default)⟩] 0 14 181 rfl (by decide +kernel) (by kernel_rfl) rfl rfl (by decide +kernel) ?_
     refine UD.popV rfl rfl rfl rfl ((by first | exact POp.fa rfl rfl rfl rfl | exact POp.faP rfl rfl rfl rfl)) ?_
     refine UD.popV rfl rfl rfl rfl ((by first | exact POp.ld1 rfl rfl rfl rfl | (apply POp.ld1H rfl rfl rfl; (case hm => repeat (first | exact .head _ | refine .tail _ ?_)); (case hy => rfl)))) ?_
     refine UD.popV rfl rfl rfl rfl (POp.move rfl rfl rfl) ?_
     refine UD.popV rfl rfl rfl rfl ((by first | exact POp.ixM rfl rfl rfl rfl rfl hil | exact POp.ixI rfl rfl rfl rfl rfl hil)) ?_
     refine UD.popV rfl rfl rfl rfl ((by first | exact POp.ldA rfl rfl rfl rfl | (apply POp.ldAH rfl rfl rfl; (case hm => repeat (first | exact .head _ | refine .tail _ ?_)); (case hy => rfl); (case hn => rfl)))) ?_
     refine UD.popV rfl rfl rfl rfl ((by first | exact POp.fa rfl rfl rfl rfl | exact POp.faP rfl rfl rfl rfl)) ?_
     refine UD.popV rfl rfl rfl rfl ((by first | exact POp.ld1 rfl rfl rfl rfl | (apply POp.ld1H rfl rfl rfl; (case hm => repeat (first | exact .head _ | refine .tail _ ?_)); (case hy => rfl)))) ?_
     refine UD.popV rfl rfl rfl rfl (POp.move rfl rfl rfl) ?_
     refine UD.popV rfl rfl rfl rfl ((by first | exact POp.ixM rfl rfl rfl rfl rfl hil | exact POp.ixI rfl rfl rfl rfl rfl hil)) ?_
     refine UD.popV rfl rfl rfl rfl ((by first | exact POp.ldA rfl rfl rfl rfl | (apply POp.ldAH rfl rfl rfl; (case hm => repeat (first | exact .head _ | refine .tail _ ?_)); (case hy => rfl); (case hn => rfl)))) ?_
     refine UD.effV [] [⟨11, 13, 146, [.int .i64 0, .int .i64 0, .slice none 0 0], 13, ndA (p.nodes.getD i default)⟩] ⟨10, 12, 146, [.int .i64 0, .int .i64 0, .slice none 0 0], 12, ndA (p.nodes.getD i default)⟩ rfl ⟨0, 14, by kernel_rfl⟩ rfl rfl rfl rfl rfl rfl rfl ?_
     refine UD.effV [⟨10, 12, 146, [.int .i64 0, .int .i64 0, .slice none 0 0], 12, ndA (p.nodes.getD i default)⟩] [] ⟨11, 13, 146, [.int .i64 0, .int .i64 0, .slice none 0 0], 13, ndA (p.nodes.getD i default)⟩ rfl ⟨0, 14, by kernel_rfl⟩ rfl rfl rfl rfl rfl rfl rfl ?_
     refine UD.stoV [] [⟨11, 13, 146, [.int .i64 0, .int .i64 0, .slice none 0 0], 13, ndA (p.nodes.getD i default)⟩] ⟨10, 12, 146, [.int .i64 0, .int .i64 0, .slice none 0 0], 12, ndA (p.nodes.getD i default)⟩ rfl ⟨0, 14, by kernel_rfl⟩ rfl rfl rfl (fun b H1 H2 hu => .store rfl rfl rfl rfl rfl rfl rfl rfl hu (by exact rfl) (by exact rfl)) ?_
     refine UD.stoV [⟨10, 12, 146, [.int .i64 0, .int .i64 0, .slice none 0 0], 12, ndA (p.nodes.getD i default)⟩] [] ⟨11, 13, 146, [.int .i64 0, .int .i64 0, .slice none 0 0], 13, ndA (p.nodes.getD i default)⟩ rfl ⟨0, 14, by kernel_rfl⟩ rfl rfl rfl (fun b H1 H2 hu => .store rfl rfl rfl rfl rfl rfl rfl rfl hu (by exact rfl) (by exact rfl)) ?_
     refine UD.nil (fun bs => ?_)
     simp only [List.map_cons, List.map_nil, List.cons_append, List.nil_append]
     refine DP.done rfl ?_
     refine S2 ?_
     rw [← hN]
     refine CW.freezeP (d := 12) rfl (by repeat (first | exact Del.head _ _ | apply Del.tail)) ?_
     refine CW.freezeP (d := 13) rfl (by repeat (first | exact Del.head _ _ | apply Del.tail)) ?_
     refine S1 ?_; refine Ofa ?_; refine Old ?_; refine Ofa ?_; refine Old ?_; refine Ocm ?_; refine Omv ?_; refine Pfa ?_; refine Pld ?_; refine Pfa ?_; refine Pld ?_; refine Pcm ?_
     refine Opk ?_; refine Omv ?_; refine Pfa ?_; refine Pld ?_; refine Pfa ?_; refine Pld ?_
     refine OL.guardC rfl rfl rfl rfl rfl rfl (fun hg => POp.call (.mk' rfl rfl rfl rfl (by first | rfl | ((repeat (first | exact hg | rfl | refine Bool.and_eq_true_iff.2 ⟨?_, ?_⟩)); done) | simp_all [strip, constAV])) (sameI N.kids N.kids)) ?_
     refine Pnt ?_; refine Opk ?_; refine S2 ?_
     refine CW.cond rfl (fun h6 => ?_) (fun h6 => ?_)
     ·
      exact absurd h6 (by simp)
     ·
      refine S4 ?_; refine Omv ?_; refine Oar ?_; refine Oas ?_; refine S1 ?_
      exact ag (⟨i + 1, rfl, rfl, hil⟩)
    ·
     replace h5 := nm h5
     refine S7 ?_; refine Oas ?_; refine S3 ?_
     refine r1 4 (H) ?_
     exact ⟨by rfl, rfl⟩
theorem sameProg {p : Prog} (hp : okP p) : PCall Tryz.prog 21 [AV.prog p, AV.prog p] (.b true) := by
 intro H
 refine ACall.mk' (n := 8) Tryz.func21 rfl (by kernel_rfl) rfl rfl (fun B I w0 => ?_)
 refine S2 ?_; refine Obx ?_; refine Obx ?_; refine Oas ?_; refine S4 ?_; refine Ola ?_; refine Ola ?_
 refine OL.popC rfl rfl rfl (POp.call (.mk' rfl rfl rfl rfl rfl) (sameP hp)) ?_
 refine Oas ?_; refine S3 ?_
 refine r1 4 (H) ?_
 exact ⟨by rfl, rfl⟩
theorem image_len {p : Prog} {objs : List Th} (h : checkP p objs = true) : (imageP p objs).length ≤ 1048576 := by
 obtain ⟨h1, h2, h3⟩ := ok_of h
 have hl1 := progW_len h1
 have hl2 := objs_len h2 h3
 have hs1 := secW_len (k := 1) (b := progW p) (by omega)
 have hs2 := secW_len (k := 2) (b := listW thW objs) (by omega)
 simp only [imageP, List.length_append, List.length_cons, List.length_nil]; omega
theorem imageQ_of {p : Prog} {objs : List Th} (h : checkP p objs = true) : imageQ p objs = imageP p objs := by rw [imageQ, if_pos h]
def rp (b : List U8) : Prog := match readR b with | some x => x.1 | none => noProg
def ro (b : List U8) : List Th := match readR b with | some x => x.2 | none => []
def re (b : List U8) : Int := match readR b with | some _ => 0 | none => 4
theorem readU (b : List U8) (hl : b.length ≤ 1048576) : PCall Tryz.prog 19 [u8s b] (.tup [AV.prog (rp b), AV.ths (ro b), .i (re b)]) := by
 have h := readC b hl
 rcases e : readR b with _ | ⟨p, objs⟩ <;> (rw [readA, e] at h; rw [rp, ro, re, e]; exact h)
theorem readBack {p : Prog} {objs : List Th} (h : checkP p objs = true) : PCall Tryz.prog 19 [u8s (imageQ p objs)] (.tup [AV.prog p, AV.ths objs, .i 0]) := by
 have h1 := readC (imageP p objs) (image_len h)
 rw [readA, read_fwd h] at h1
 rw [imageQ_of h]; exact h1
theorem re_ok {b : List U8} (h : re b = 0) : imageQ (rp b) (ro b) = b ∧ checkP (rp b) (ro b) = true := by
 rcases e : readR b with _ | ⟨p, objs⟩
 ·rw [re, e] at h; cases h
 ·rw [rp, ro, e]
  obtain ⟨h1, h2⟩ := read_inv e
  exact ⟨by rw [imageQ_of h2]; exact h1, h2⟩
theorem re_no {b : List U8} (h : re b ≠ 0) : re b = 4 := by
 unfold re at h ⊢
 split
 ·rename_i x e; rw [e] at h; exact absurd rfl h
 ·rfl
theorem small_ok {p : Prog} (h : okP p) : p.Small := ⟨by have := h.cl; omega, fun c hc => by have := (h.cs c hc).pl; omega⟩
theorem okG_of {p : Prog} {objs : List Th} (h : checkP p objs = true) : okG p objs := by obtain ⟨h1, h2, h3⟩ := ok_of h; exact ⟨h1, h2, h3⟩
theorem backC {g : Gv} (hp : g.p.Small) (hb : g.bytes.length ≤ 1048576) : PCall Tryz.prog 10 [AV.given g] (.b true) := by
 intro H
 refine ACall.mk' (n := 73) Tryz.func10 rfl (by kernel_rfl) rfl rfl (fun B I w0 => ?_)
 refine S2 ?_; refine Obx ?_; refine Oas ?_; refine S4 ?_; refine Ofa ?_; refine Ola ?_; refine Ofa ?_; refine Old ?_
 refine OL.popC rfl rfl rfl (POp.call (.mk' rfl rfl rfl rfl rfl) (imageC hp g.objs okG_of)) ?_
 refine Omv ?_; refine Oex ?_; refine Oex ?_; refine Oas ?_; refine Oas ?_; refine S2 ?_
 refine CW.cutJ (fun st => st = ⟨[(1, .ptr (Gcells g))], H⟩) ?_ ?_
 ·
  refine S2 ?_; refine Omv ?_; refine Ocm ?_; refine S2 ?_
  refine CW.cond rfl (fun h0 => ?_) (fun h0 => ?_)
  ·
   have hc : checkP g.p g.objs = true := by cases h : checkP g.p g.objs <;> simp_all
   refine S2 ?_; refine Omv ?_
   refine OL.popC rfl rfl rfl (POp.call (.mk' rfl rfl rfl rfl rfl) (readBack hc)) ?_
   refine Omv ?_; refine Oex ?_; refine Oex ?_; refine Oex ?_
   refine OL.alC rfl rfl rfl rfl (fun ab => ?_)
   refine Sto ?_; refine Oas ?_; refine Oas ?_; refine S3 ?_
   refine CW.freezeP (d := 5) rfl (by repeat (first | exact Del.head _ _ | apply Del.tail)) ?_
   refine S1 ?_; refine Omv ?_; refine Ocm ?_; refine Omv ?_; refine Pla ?_; refine Pfa ?_; refine Pla ?_
   refine OL.guardC rfl rfl rfl rfl rfl rfl (fun hg => POp.call (.mk' rfl rfl rfl rfl (by first | rfl | ((repeat (first | exact hg | rfl | refine Bool.and_eq_true_iff.2 ⟨?_, ?_⟩)); done) | simp_all [strip, constAV])) (sameProg (ok_of hc).1)) ?_
   refine Pnt ?_; refine Opk ?_; refine Omv ?_; refine Pmv ?_; refine Pfa ?_; refine Pld ?_
   refine OL.guardC rfl rfl rfl rfl rfl rfl (fun hg => POp.call (.mk' rfl rfl rfl rfl (by first | rfl | ((repeat (first | exact hg | rfl | refine Bool.and_eq_true_iff.2 ⟨?_, ?_⟩)); done) | simp_all [strip, constAV])) (sameT g.objs)) ?_
   refine Pnt ?_; refine Opk ?_; refine S2 ?_
   refine CW.cond rfl (fun h1 => ?_) (fun h1 => ?_)
   ·
    exact absurd h1 (by simp)
   ·
    refine S1 ?_
    exact Done.cutJ rfl (by repeat (first | exact trivial | refine ⟨rfl, ?_⟩)) (by repeat (first | exact List.Sublist.refl _ | refine List.Sublist.cons _ ?_))
  ·
   refine S1 ?_
   exact Done.cutJ rfl (by repeat (first | exact trivial | refine ⟨rfl, ?_⟩)) (by repeat (first | exact List.Sublist.refl _ | refine List.Sublist.cons _ ?_))
 ·
  rintro _ rfl
  refine S2 ?_; refine Ofa ?_; refine Old ?_
  refine OL.popC rfl rfl rfl (POp.call (.mk' rfl rfl rfl rfl rfl) (readU g.bytes hb)) ?_
  refine Omv ?_; refine Oex ?_; refine Oex ?_; refine Oex ?_
  refine OL.alC rfl rfl rfl rfl (fun ab => ?_)
  refine Sto ?_; refine Oas ?_; refine Oas ?_; refine S4 ?_
  refine CW.freezeP (d := 8) rfl (by repeat (first | exact Del.head _ _ | apply Del.tail)) ?_
  refine S1 ?_; refine Omv ?_; refine Ocm ?_; refine S2 ?_
  refine CW.cond rfl (fun h2 => ?_) (fun h2 => ?_)
  ·
   replace h2 := nm h2
   have he := re_no (b := g.bytes) (by simpa using h2)
   refine S2 ?_; refine Omv ?_; refine Ocm ?_; refine Omv ?_
   refine OL.guardC rfl rfl rfl rfl rfl rfl (fun hg => POp.call (.mk' rfl rfl rfl rfl rfl) (knownC)) ?_
   refine Opk ?_; refine Oas ?_; refine S4 ?_
   refine r1 2 (H) ?_
   exact ⟨retB (by rw [he]; rfl), rfl⟩
  ·
   replace h2 := nm h2
   obtain ⟨he, hck⟩ := re_ok (b := g.bytes) (by simpa using h2)
   refine S4 ?_; refine Ola ?_; refine Omv ?_
   refine OL.popC rfl rfl rfl (POp.call (.mk' rfl rfl rfl rfl rfl) (imageC (small_ok (ok_of hck).1) (ro g.bytes) okG_of)) ?_
   refine Omv ?_; refine Oex ?_; refine Oex ?_; refine Oas ?_; refine Oas ?_; refine S3 ?_
   rw [he, if_pos hck]
   refine S1 ?_; refine Omv ?_; refine Ocm ?_; refine Omv ?_; refine Pmv ?_; refine Pfa ?_; refine Pld ?_
   refine OL.guardC rfl rfl rfl rfl rfl rfl (fun hg => POp.call (.mk' rfl rfl rfl rfl (by first | rfl | ((repeat (first | exact hg | rfl | refine Bool.and_eq_true_iff.2 ⟨?_, ?_⟩)); done) | simp_all [strip, constAV])) (eqU8 g.bytes)) ?_
   refine Opk ?_; refine Omv ?_
   refine OL.guardC rfl rfl rfl rfl rfl rfl (fun hg => POp.call (.mk' rfl rfl rfl rfl rfl) (knownC)) ?_
   refine Opk ?_; refine Oas ?_; refine S3 ?_
   refine r1 2 (H) ?_
   exact ⟨by rfl, rfl⟩
end Go.Proofs.YtpgnjlngepfanaaGreat
