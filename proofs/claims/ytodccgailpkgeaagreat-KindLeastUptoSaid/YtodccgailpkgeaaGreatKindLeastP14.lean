/- Part 14 of the proof: contracts of functions of the program and what they need. No condition beyond those that each theorem names. -/
import Derived.Test.YtodccgailpkgeaaGreatKindLeastP13
import Derived.Tactics
import Derived.Tactics2
import Derived.Laws.Pointers
import Derived.TacticsInMore
import Derived.RegionIn
import Derived.RecoverIn
set_option maxHeartbeats 1000000
set_option linter.unusedVariables false
set_option linter.unusedSimpArgs false
set_option maxRecDepth 10000
namespace Go.Proofs.YtodccgailpkgeaaGreat
open Go.Eng
open Go.Eng.Fc
open Go.Eng.ei
variable{p:Prog}{B tb:Nat}{cl:a8}{aO w:World}{env:List (Nat×aa)}{x:Bool}{H:List aj}{a:Act}{bw E:aa->List aj->Prop}
theorem abW:∀{f:Fact},oA f=true->ba Tryz.prog 134 [aa.fact f] (.i (oB f)):=λ{f}=>by
 refine Fact.p8 (P:=λf=>oA f=true->ba Tryz.prog 134 [aa.fact f] (.i (oB f))) (λf bm aP=>ZF f aP λk ao=>bm k ao ((DS aP).2.2 k ao)) f
theorem abX(W:Fc.bb)(f:Fact):ba Tryz.prog 133 [aa.world W,aa.fact f] (.i (if dm W && mD W f then 0 else 2)):=by
 cases h:dm W with
 | true=>simpa using aao h f
 | false=>simpa using aap h f
theorem abY(aB:p.Small)(dL:Nat)(H:List aj):b1 Tryz.prog 124 [.ptr (dF p),.p dL 0] (.aI dL 23 [(.val (.slice none 0 0))]::H) (λ_ H'=>∃nb o,bK p=some o/\H'=jl dL nb p.nodes.length o++H) (λy H'=>y=uI/\bK p=none/\∃v,H'= .aI dL 23 [.val v]::H):=by
 refine bh (n:=130) Tryz.func124 λB I aO=>?_;refine bg ?_;refine au.qI rfl rfl .k (abH aB _).b ?_ ?_
 ·rintro y H1 ⟨dp,rfl⟩;obtain⟨abZ,j6⟩:=D1 dp;refine AM ?_;rcases qZ (q1 p) with az | az
  ·refine au.m7 rfl rfl (.mk' rfl rfl rfl rfl rfl) (nd (by simp only[Bool.cond_false_right];exact az) _) fm ?_;intro a w s;exact lG (P:=Tryz.prog) (fn:=Tryz.f124) fm (.refl _) ⟨rfl,PI az,_,rfl⟩ a w s
  ·refine au.nG rfl rfl rfl (.mk' rfl rfl rfl rfl rfl) (nW (by simp only[Bool.cond_false_right];exact az) _) ?_;have sH:=az;simp only[q1,Bool.and_eq_true,decide_eq_true_eq] at sH;refine cT ?_;refine cq (λm st=>∃i:Nat,st=⟨[(36,.i i),(35,.i p.du.length),(34,aa.ints p.du),(0,.ptr (dF p)),(1,.p dL 0)],.aI dL 23 [(.val (.slice none 0 0))]::H⟩/\m=p.du.length - i/\i<=p.du.length/\(p.du.take i).all nU=true) (⟨0,rfl,rfl,ad,rfl⟩) ?_;rintro m _ ⟨i,rfl,rfl,av,Eo⟩;refine aT ?_;refine aZ (λai=>?_) λai=>?_
   ·have a1:i<p.du.length:=by omega
    refine kC ?_;rcases qZ (nU (p.du.getD i default)) with ab | ab
    ·refine au.m7 rfl rfl (.mk' rfl rfl rfl rfl rfl) (nd CI _) fm ?_;intro a w s;exact lG (P:=Tryz.prog) (fn:=Tryz.f124) fm (.refl _) ⟨rfl,PJ (Y2 a1 ab),_,rfl⟩ a w s
    ·refine au.nG rfl rfl rfl (.mk' rfl rfl rfl rfl rfl) (nW CI _) ?_;refine bn ?_;exact bV (⟨i+1,rfl,rfl,a1,by rw[<-eE a1,List.all_append,Eo,List.all_cons,ab];rfl⟩)
   ·obtain rfl:i=p.du.length:=by omega
    rw[List.take_length] at Eo;refine bn ?_;refine au.bB (x:=.aF 1 [[.i (-1)]]) rfl rfl rfl (af.row rfl rfl c4 rfl rfl rfl rfl rfl rfl) ?_;refine bg ?_;refine dE .k (aaI p.nodes.length ad _).b ?_
    ·rintro _ _ ⟨nb,rfl,rfl⟩;refine bI ?_;refine aq.perm (H':=.aI dL 23 [(.val (.slice (some ⟨nb,0,none⟩) p.nodes.length p.nodes.length))]::.aI nb 3 (List.replicate p.nodes.length (.i (-1)))::H) (.swap _ _ _) ?_;refine aq.kz (H':=jl dL nb p.nodes.length (kn p)++H) (by rw[<-Y1];rfl) ?_;refine bs ?_;refine aG (af.call .k (Qq p ad j6)) ?_;refine au.cG rfl rfl rfl rfl (λcE=>?_);refine bz ?_;refine aq.ep (d:=5) rfl ey ?_;refine bs ?_;refine cq (λm st=>∃(i:Nat) (o:List Int),st=⟨[(59,.i i),(58,.i p.methods.length),(57,.aF 9 (p.methods.map fw)),(5,.ptr (dH (cH p))),(4,(.fn (.func 128) [] [.ptr (dF p),.p dL 0])),(0,.ptr (dF p)),(1,.p dL 0)],jl dL nb p.nodes.length o++H⟩/\m=p.methods.length - i/\i<=p.methods.length/\hS p p.methods (kn p)=hS p (p.methods.drop i) o/\o.length=p.nodes.length) (⟨0,kn p,rfl,rfl,ad,rfl,by simp[kn]⟩) ?_;rintro m _ ⟨i,o,rfl,rfl,av,rZ,gj⟩;refine aT ?_;refine aZ (λab=>?_) λab=>?_
     ·have a1:i<p.methods.length:=by omega
      obtain⟨M,bT⟩:∃M,M=(p.methods.getD i default):=⟨_,rfl⟩;refine bs ?_;refine au.cG rfl rfl rfl rfl (λkd=>?_);refine bI ?_;rw[<-bT];refine aq.ep (d:=7) rfl ey ?_;refine oz ?_;rcases qZ (rQ p M) with ab | ab
      ·refine au.m7 rfl rfl (.mk' rfl rfl rfl rfl rfl) (nd CI _) fm ?_;intro a w s;exact lG (P:=Tryz.prog) (fn:=Tryz.f124) fm (.cons_cons _ (.cons _ (.refl _))) ⟨rfl,A8 (by rw[rZ];exact Ir a1 bT (by rw[ab];rfl)),_,rfl⟩ a w s
      ·refine au.nG rfl rfl rfl (.mk' rfl rfl rfl rfl rfl) (nW CI _) ?_;have rY:=ab;simp only[rQ,Bool.and_eq_true,decide_eq_true_eq] at rY;have ab0:M.gen.toNat<p.du.length:=by omega
       have Ep:=uE Eo (cp ab0);refine bg ?_;refine aq.bL mixed ?_;refine bk.b7 0 3 130 rfl ay rfl rfl ay ?_;refine bz ?_;refine aG (af.call .k (abX (cH p) M.fact)) ?_;refine c6 ?_;refine bk.b7 6 15 130 rfl ay rfl rfl ay ?_;refine bC ?_;refine bU.cb rfl rfl rfl rfl rfl (λal=>af.call (.mk' rfl rfl rfl rfl dv) (abW (PG (w:=cH p) (by have:=Y3 al;rw[Bool.and_eq_true] at this;exact this.2)))) ?_;refine bI ?_;refine bU.cb rfl rfl rfl rfl rfl (λal=>LS) ?_;refine bz ?_;rcases qZ (rR p M) with ae | ae
       ·refine au.m7 rfl rfl (.mk' rfl rfl rfl rfl rfl) (nd (by rw[Bool.cond_false_right,Is];exact ae) _) fm ?_;intro a w s;exact lG (P:=Tryz.prog) (fn:=Tryz.f124) fm (.cons_cons _ (.cons _ (.refl _))) ⟨rfl,A8 (by rw[rZ];exact Ir a1 bT (by rw[ae,Bool.and_false])),_,rfl⟩ a w s
       ·refine au.nG rfl rfl rfl (.mk' rfl rfl rfl rfl rfl) (nW (by rw[Bool.cond_false_right,Is];exact ae) _) ?_;refine bC ?_;refine aq.bL mixed ?_;refine bk.b7 0 17 130 rfl ay rfl rfl ay ?_;refine bn ?_;refine bU.bB rfl rfl rfl (ob) ?_;refine cw ?_;have q4:(bif (M.kind==1) then true else (M.kind==4))=me M:=by unfold me;rw[Bool.cond_true_left]
        refine au.qI rfl rfl .k (QS rfl M.node (p.du.getD M.gen.toNat default) _ ad o gj ad dL nb H).b ?_ ?_
        ·rintro y H1 ⟨aC,rfl⟩;rw[q4] at aC ⊢;have yb:=PQ (p:=p) (next:=me M) (x:=ns p M) rfl aC;refine bn ?_;exact bV (⟨i+1,iD (visit p (me M) 13 (ns p M) o).1 o,rfl,rfl,a1,by rw[rZ,PO a1 bT (by rw[ab,ae];rfl) yb],by rw[yw,gj]⟩)
        ·rintro y H1 ⟨rfl,aC,cV,rfl⟩ a w s I v sX;rw[fm.is _ _ _ sX];rw[q4] at aC;exact lG (P:=Tryz.prog) (fn:=Tryz.f124) fm (.cons_cons _ (.cons _ (.refl _))) ⟨rfl,A8 (by rw[rZ];exact PN a1 bT (Option.isNone_iff_eq_none.1 aC)),_,rfl⟩ a w s
     ·obtain rfl:i=p.methods.length:=by omega
      rw[List.drop_length] at rZ;replace rZ:hS p p.methods (kn p)=some o:=rZ;refine c6 ?_;refine au.qI rfl rfl .k (QS rfl p.main 0 false ad o gj ad dL nb H).b ?_ ?_
      ·rintro y H1 ⟨aC,rfl⟩;have yb:=PQ (p:=p) (next:=false) (x:=⟨p.main,0,1⟩) rfl aC;obtain⟨c7,o3⟩:∃c7,c7=iD (visit p false 13 ⟨p.main,0,1⟩ o).1 o:=⟨_,rfl⟩;rw[<-o3] at yb ⊢;have By:c7.length=p.nodes.length:=by rw[o3,yw,gj]
       refine bI ?_;refine aG (af.sR .k (gb.outs (pre:=[]) (.tail _ (.head _)) By ad) (Bg c7 (-1))) ?_;refine bt ?_;rcases qZ (c7.contains (-1)) with aD | aD
       ·refine au.nG rfl rfl rfl (.mk' rfl rfl rfl rfl rfl) (nW (by rw[aD];rfl) _) ?_;refine bt ?_;refine jj [] (jl dL nb p.nodes.length c7++H) ?_;exact⟨nb,c7,PM dp az Eo rZ yb aD,rfl⟩
       ·refine au.m7 rfl rfl (.mk' rfl rfl rfl rfl rfl) (nd (by rw[aD];rfl) _) fm ?_;intro a w s;exact lG (P:=Tryz.prog) (fn:=Tryz.f124) fm (.cons_cons _ (.cons _ (.refl _))) ⟨rfl,PL rZ yb aD,_,rfl⟩ a w s
      ·rintro y H1 ⟨rfl,aC,cV,rfl⟩ a w s I v sX;rw[fm.is _ _ _ sX];exact lG (P:=Tryz.prog) (fn:=Tryz.f124) fm (.cons_cons _ (.cons _ (.refl _))) ⟨rfl,PK rZ (Option.isNone_iff_eq_none.1 aC),_,rfl⟩ a w s
 ·rintro y H1 ⟨rfl,dp,rfl⟩ a w s I v aC;rw[fm.is _ _ _ aC];exact lG (P:=Tryz.prog) (fn:=Tryz.f124) fm (.refl _) ⟨rfl,PH dp,_,rfl⟩ a w s
theorem ab1(w:World):(Instr.typeAssert wx 20 207 true).run Tryz.prog w= .ok (.tuple #[.agg #[],.bool true]) w:=by
 simp[Instr.typeAssert,run_underlying (show Tryz.prog.underlying 207=some (.struct #[]) by kernel_rfl)]
theorem ab2(b:Nat)(x:Bool)(w:World)(ak:w.cell? ⟨b,0,none⟩=some (.bool x))(an:w.frozen? ⟨b,0,none⟩=false)(aw:b<w.heap.size):
  CallsDIn (Eng.bb none) 0 Tryz.prog 165 #[.pointer (some ⟨b,0,none⟩)] (.panicking [{v:=wx,recovered:=false}]) w λe u' w'=>
   e= .returned (.tuple #[])/\u'= .panicking [{v:=wx,recovered:=true}]/\w'=(w.alloc (.cells #[] 207)).setCell ⟨b,0,none⟩ (.bool false):=by
 have jx:(w.alloc (.cells #[] 207)).cell? ⟨b,0,none⟩=some (.bool x):=by rw[World.cell?_alloc_lt w _ ⟨b,0,none⟩ aw];exact ak
 have kM:(w.alloc (.cells #[] 207)).frozen? ⟨b,0,none⟩=false:=by rw[World.frozen?_of_block (Go.RowKit.Below.heap_alloc w _ b aw)];exact an
 refine callsDIn_of_wpSIn Tryz.func165 rfl trivial λBA cs hu=>?_;apply wpSIn_seq;apply wpSIn_region;have yJ:=λw=>ab1 w;simp[wpOpsSIn,go_sem,recoverD,hu,Tryz.ntmps165,Exit.thenS,Eng.bb,yJ];apply wpSIn_seq;apply wpSIn_region;simp[wpOpsSIn,go_sem,Exit.thenS];refine wpSIn_cond (t:=true) zn ?_;simp only[if_true];apply wpSIn_seq;apply wpSIn_seq;apply wpSIn_region;simp[wpOpsSIn,go_sem,Exit.thenS,yJ];apply wpSIn_seq;apply wpSIn_region;simp[wpOpsSIn,go_sem,Exit.thenS];refine wpSIn_cond (t:=false) zn ?_;simp only[Bool.false_eq_true,if_false];refine wpSIn_of_wpIn rfl (wpIn_skip ?_);simp only[Exit.thenS];apply wpSIn_region;simp[wpOpsSIn,go_sem,jx,kM,bodyPostS,results,Tryz.results165]
theorem ab3(b:Nat)(w:World):
  CallsDIn (Eng.bb none) 0 Tryz.prog 165 #[.pointer (some ⟨b,0,none⟩)] .returning w λe u' w'=>e= .returned (.tuple #[])/\u'= .returning/\w'=w:=by
 refine callsDIn_of_wpSIn Tryz.func165 rfl trivial λBA cs hu=>?_;apply wpSIn_seq;apply wpSIn_region;simp[wpOpsSIn,go_sem,recoverD,hu,Tryz.ntmps165,Exit.thenS,Eng.bb];apply wpSIn_seq;apply wpSIn_region;simp[wpOpsSIn,go_sem,Exit.thenS];refine wpSIn_cond (t:=false) zn ?_;simp only[Bool.false_eq_true,if_false];refine wpSIn_of_wpIn rfl (wpIn_skip ?_);cases BA;simp_all [bodyPostS,results,Tryz.results165]
def RC(tb:Nat):Deferred:={target:=.fn (.func 165) #[.pointer (some ⟨tb,0,none⟩)],args:=#[]}
theorem RD(fE:bw (.b x) H)(aH:∃I,ck B I w/\Ext B cl aO I w/\br B I w (.aI tb 4 [.b x]::H)/\fs I w (aX env) a)(ht:aX env 2=some (.p tb 0)):
  LeavesIn (Eng.bb none) 0 Tryz.prog Tryz.f123 a.tmps (fD B cl aO bw E) [] .returning w:=by
 obtain⟨I,hw,he,az,aC⟩:=aH;obtain⟨v,ab,ae⟩:=jy.res (P:=Tryz.prog) (c:=⟨B,cl,aO,0,[]⟩) (st:=⟨env,.aI tb 4 [.b x]::H⟩) az aC (fn:=Tryz.f123) (rs:=[.cell 2 4]) rfl (.Cl inferInstance ht (.head _) rfl .nil);exact⟨v,ab,I,H,hw,he,az.tail,.inl ⟨v,_,rfl,ae,fE⟩⟩
theorem RE(tb:Nat)(w:World):(invoke (.fn (.func 165) #[.pointer (some ⟨tb,0,none⟩)]) #[]).run Tryz.prog w= .ok (.enter 165 #[.pointer (some ⟨tb,0,none⟩)]) w:=by
 have:nt Tryz.prog 165=true:=by kernel_rfl
 have h:=xQ this #[.pointer (some ⟨tb,0,none⟩)] w;simp[invoke]
theorem ab4{n:Nat}(fE:bw (.b x) H)(s:Sat ⟨B,cl,aO,n,[RC tb]⟩ ⟨env,.aI tb 4 [.b x]::H⟩ a w)(ht:aX env 2=some (.p tb 0)):
  bodyPostDIn (Eng.bb none) 0 Tryz.prog Tryz.f123 (fD B cl aO bw E) .ret a w:=by
 show LeavesIn _ _ _ _ _ _ a.defers .returning w;rw[s.ds];refine leavesIn_cons (f:=165) (args:=#[.pointer (some ⟨tb,0,none⟩)]) bj (by simp[Eng.bb]) (RE tb w) (λ_ _=>trivial) ?_;refine (ab3 tb w).mono ?_;rintro e u' w' ⟨rfl,rfl,rfl⟩;exact RD fE s.mem ht
theorem ab5{n:Nat}(fE:bw (.b false) H)(s:Sat ⟨B,cl,aO,n,[RC tb]⟩ ⟨env,.aI tb 4 [.b x]::H⟩ a w)(ht:aX env 2=some (.p tb 0)):
  bodyPostDIn (Eng.bb none) 0 Tryz.prog Tryz.f123 (fD B cl aO bw E) (.panic [{v:=wx,recovered:=false}]) a w:=by
 show LeavesIn _ _ _ _ _ _ a.defers (.panicking [{v:=wx,recovered:=false}]) w;rw[s.ds];obtain⟨I,hw,he,az,aC⟩:=s.mem;obtain⟨bE,vs,aw,aK,cu⟩:=az.ok _ (.head _);have dT:vs= #[.bool x]:=by
  have ab:=p1 (vs:=[.bool x]) aK;exact Array.toList_inj.1 ab
 subst dT;have cO:tb<w.heap.size:=(Array.getElem?_eq_some_iff.1 aw).1;refine leavesIn_cons (f:=165) (args:=#[.pointer (some ⟨tb,0,none⟩)]) bj (by simp[Eng.bb]) (RE tb w) (λ_ _=>trivial) ?_;refine (ab2 tb x w (by rw[kQ aw];rfl) (by simp[World.frozen?,aw]) cO).mono ?_;rintro e u' w' ⟨rfl,rfl,rfl⟩;have o0:=hw.alloc (.cells #[] 207);have vD:=az.alloc hw (.cells #[] 207);have gn:(w.alloc (.cells #[] 207)).heap[tb]? =some (.cells #[.bool x] 4 (0,0)):=by rw[Go.RowKit.Below.heap_alloc w _ tb cO];exact aw
 have k4:=mq hw (.cells #[] 207);have wL:=he.trans (kN hw (.cells #[] 207));have gI:=aC.bQ k4;generalize w.alloc (.cells #[] 207)=fA at*;have h4:(fA.setCell ⟨tb,0,none⟩ (.bool false)).heap[tb]? =some (.cells #[.bool false] 4 (0,0)):=one_setCell gn;have m2:∀b i,I b i->(fA.setCell ⟨tb,0,none⟩ (.bool false)).cell? ⟨b,i,none⟩=fA.cell? ⟨b,i,none⟩:=λb i b4=>
  World.cell?_of_block (a:=⟨b,i,none⟩) (Go.RowKit.Below.heap_setCell _ _ _ _ (λe=>cu i (by rw[<-(show b=tb from e)];exact b4)))
 have gD:fb I fA I (fA.setCell ⟨tb,0,none⟩ (.bool false)):=⟨λ_ _ h=>h,m2⟩;have ov:=(Go.RowKit.Below.refl B fA).setCell (p:=⟨tb,0,none⟩) bE (.bool false);exact RD (x:=false) (env:=env) fE ⟨I,⟨Nat.le_trans o0.base ov.size,λb i b4=>by rw[m2 b i b4];exact o0.there b i b4⟩,wL.trans ⟨λ_ _ h=>h,m2,ov⟩,
  vD.gH (.head _ _ _) gD (λb _ bq=>Go.RowKit.Below.heap_setCell _ _ _ _ (λe=>bq (by rw[show b=tb from e];rfl))) (λ_ _ h=>.inl h) ⟨bE,#[.bool false],h4,.cons _ _ _ _ (.val _) .nil,cu⟩ (λ_ h=>.inl h),gI.bQ gD⟩ ht
theorem ab6{g:Fn}{gs gc:List aa}{A Bp:List aj->Prop}(ab7:∀B c0,e4 B Tryz.prog (.fn g gs gc) [] (H++c0) (λ_ H'=>∃H1,H'=H1++c0/\A H1) (λy H'=>y=uI/\∃dK,H'=dK++c0/\Bp dK)):
  b1 Tryz.prog 123 [.fn g gs gc] H (λx H'=>(x= .b true/\A H')\/(x= .b false/\Bp H')) (λ_ _=>False):=by
 refine b1.Nv (n:=6) Tryz.func123 rfl aM rfl rfl (λB I aO=>?_);refine bC ?_;refine au.cG rfl rfl rfl rfl (λtb=>?_);refine bz ?_;refine au.Ny (vs:=[.pointer (some ⟨tb,0,none⟩)]) rfl rfl rfl rfl rfl rfl ?_;refine bg ?_;refine aq.perm (List.perm_append_singleton _ _).symm ?_;refine bC ?_;refine au.Gr rfl rfl rfl rfl rfl rfl rfl (bO.refl _) (ab7 B [.aI tb 4 [.b false]]) ?_ ?_
 ·rintro y _ ⟨H1,rfl,cy⟩;refine bg ?_;refine aq.perm (List.perm_append_singleton _ _) ?_;refine bz ?_;intro a w s;exact ab4 (.inl ⟨rfl,cy⟩) s rfl
 ·rintro y db ⟨rfl,dK,rfl,bE⟩ a w s I v aC;rw[fm.is _ _ _ aC];exact ab5 (.inr ⟨rfl,bE⟩) (s.perm (List.perm_append_singleton _ _)) rfl
theorem ab8(aB:p.Small)(H:List aj):b1 Tryz.prog 87 [aa.prog p] H (λy H'=>H'=H/\((∃o,bK p=some o/\y= .bJ [aa.ints o,.b true])\/(bK p=none/\∃v,y= .bJ [.val v,.b false]))) (λ_ _=>False):=by
 refine bh (n:=10) Tryz.func87 λB I aO=>?_;refine bS ?_;refine au.cG rfl rfl rfl rfl (λdL=>?_);refine bz ?_;refine dE .k (ab6 (H:=.aI dL 23 [.val (.slice none 0 0)]::H) (A:=λH1=>∃nb o,bK p=some o/\H1=jl dL nb p.nodes.length o++H) (Bp:=λdK=>bK p=none/\∃v,dK= .aI dL 23 [.val v]::H)
  (λB c0=>e4.fn ((abY aB dL (H++c0)).imp (λy H'=>?_) (λy H'=>?_)))).b ?_
 ·rintro⟨nb,o,ab,rfl⟩;exact⟨jl dL nb p.nodes.length o++H,by rw[List.append_assoc],nb,o,ab,rfl⟩
 ·rintro⟨rfl,ab,v,rfl⟩;exact⟨rfl,.aI dL 23 [.val v]::H,rfl,ab,v,rfl⟩
 rintro y H1 (⟨rfl,nb,o,aH,rfl⟩ | ⟨rfl,aH,v,rfl⟩)
 ·have gj:=wk aH;refine aT ?_
  first | (refine au.kz (H':=.aI dL 23 [(.val (.slice (some ⟨nb,0,none⟩) p.nodes.length p.nodes.length))]::.aI nb 3 ((o.map λn=>[aa.i n]).flatten++[])::H) (by rw[<-PT];rfl) ?_;refine au.qA (k:=1) (d:=8) rfl (.tail _ _ _ _ (.head _ _)) (by rw[List.length_map];exact gj.1) (λe he=>by obtain⟨y,_,rfl⟩:=List.mem_map.1 he;rfl) (Nat.le_refl _) lu ?_) | skip
  refine aT ?_;refine fR [.tmp 2,.tmp 3] (H) ?_;exact⟨rfl,.inl ⟨o,aH,rfl⟩⟩
 ·refine aT ?_
  first | (refine au.kz (H':=.aI dL 23 [(.val (.slice (some ⟨nb,0,none⟩) p.nodes.length p.nodes.length))]::.aI nb 3 ((o.map λn=>[aa.i n]).flatten++[])::H) (by rw[<-PT];rfl) ?_;refine au.qA (k:=1) (d:=8) rfl (.tail _ _ _ _ (.head _ _)) (by rw[List.length_map];exact gj.1) (λe he=>by obtain⟨y,_,rfl⟩:=List.mem_map.1 he;rfl) (Nat.le_refl _) lu ?_) | skip
  refine aT ?_;refine fR [.tmp 2,.tmp 3] (H) ?_;exact⟨rfl,.inr ⟨aH,v,rfl⟩⟩
theorem Er(aB:p.Small):ba Tryz.prog 41 [aa.prog p] (.i (if(bK p).isSome then 0 else 2)):=by
 intro H;refine bh (n:=12) Tryz.func41 λB I aO=>?_;refine c6 ?_;refine dE .k (ab8 aB H).b ?_;rintro y H1 ⟨e,⟨o,aH,rfl⟩ | ⟨aH,v,rfl⟩⟩
 ·replace e:=e.symm;subst e;refine ev ?_;refine aq.cond rfl (λai=>?_) (λai=>?_)
  ·simp at ai
  ·replace ai:=dZ ai;refine bs ?_;refine aS 2 (H) ?_;exact⟨by rw[aH];rfl,rfl⟩
 ·replace e:=e.symm;subst e;refine ev ?_;refine aq.cond rfl (λab=>?_) (λab=>?_)
  ·replace ab:=dZ ab;refine bn ?_;refine aS 2 (H) ?_;exact⟨by rw[aH];rfl,rfl⟩
  ·simp at ab
theorem Jp(aB:p.Small)(c:Int):ba Tryz.prog 138 [aa.prog p,.i c] (.b (gK p c)):=by
 intro H;refine bh (n:=20) Tryz.func138 λB I aO=>?_;have yF:=aB.aY;refine ma ?_;refine au.cb rfl rfl rfl rfl rfl rfl (λal=>af.call (.mk' rfl rfl rfl rfl dv) ((Er aB))) ?_;refine aT ?_;refine aS 4 (H) ?_;exact⟨bR (by unfold gK;rw[Bool.cond_false_right,Bool.cond_false_right,Is]),rfl⟩
theorem hasB(aB:p.Small)(c:Int):ba Tryz.prog 90 [aa.prog p,.i c] (.bJ [aa.ints (if gK p c then ez p c else []),.i (if gK p c then 0 else 2)]):=by
 intro H;refine bh (n:=13) Tryz.func90 λB I aO=>?_;refine cT ?_;refine aG (af.call .k ((Jp aB _))) ?_;refine bg ?_;refine aZ (λai=>?_) λai=>?_
 ·refine bs ?_;refine aR.c5 (rs:=[.tmp 4,.tmp 5]) (H':=H) rfl (.tmp rfl (.tmp rfl (.nil))) (.cons (aL.nil 1) (.cons (.refl _) .nil)) b8 ?_;exact⟨by rw[show gK p c=false by simpa using ai];rfl,rfl⟩
 ·refine bg ?_;have aA:gK p c=true:=by simpa using ai
  obtain⟨Jg,dp⟩:=It aA;obtain⟨abZ,j6⟩:=D1 dp
  ·refine bg ?_;refine aG (af.call .k (Jf p ad (λc h=>(j6 c h).2) (PV dp) (k:=c) eV ad)) ?_;refine bz ?_;refine fR [.tmp 4,.tmp 5] (H) ?_;exact⟨by rw[aA];rfl,rfl⟩
end Go.Proofs.YtodccgailpkgeaaGreat

namespace Go.Eng.ei
open Go.Eng.Fc
variable{p:Prog}{c:Int}
def mm(p:Prog)(c:Int):List (Int×Int):=(fI (cZ p) c).reverse.flatMap λk=>if k>=3 then (p.aY.getD (k - 3).toNat default).inits else []
def ky(L:List (Int×Int))(s:Int):Option Int:=(L.reverse.find? λx=>x.1==s).map (·.2)
theorem ab9(L:List (Int×Int))(x:Int×Int)(s:Int):ky (L++[x]) s=if x.1=s then some x.2 else ky L s:=by
 unfold ky;rw[List.reverse_append,List.reverse_singleton,List.singleton_append,List.find?_cons];by_cases h:x.1=s
 ·simp[h]
 ·rw[if_neg h,show (x.1==s)=false by simpa using h]
def pz(p:Prog)(c:Int):List (Int×Int):=(ez p c).filterMap λs=>(ky (mm p c) s).map λn=>(s,n)
def nO(p:Prog)(c s:Int):Int×Int:=match ky (mm p c) s with | some n=>(1,n) | none=>(2,0)
structure te(l:List (Int×aa))(L:List (Int×Int)):Prop where
 ok:lK l
 get:∀s,hN l s=(ky L s).map aa.i
theorem te.nil:te [] []:=⟨lK.nil,λs=>rfl⟩
theorem te.put{l:List (Int×aa)}{L:List (Int×Int)}(h:te l L){x:Int×Int}(ao:gL x.1):te (fg l x.1 (.i x.2)) (L++[x]):=by
 refine⟨h.ok.put ao _,λs=>?_⟩;rw[yf,ab9,h.get];by_cases e:x.1=s
 ·rw[if_pos e.symm,if_pos e];rfl
 ·rw[if_neg (λh=>e h.symm),if_neg e]
def yK(p:Prog)(k:Int):List (Int×Int):=if k>=3 then (p.aY.getD (k - 3).toNat default).inits else []
theorem Jq{p:Prog}(h:∀c∈p.aY,c.aJ.length<=1000):∀(n:Nat) (S out:List Int),(k0 p n S out).length<=out.length+1000*n
 | 0,S,out=>by rw[k0];omega
 | n+1,S,out=>by
  rw[k0];split
  ·have ab:=Jq h n (S++(p.aY.getD n default).parents) (out++(p.aY.getD n default).aJ);rw[List.length_append] at ab;have:(p.aY.getD n default).aJ.length<=1000:=by
    by_cases hn:n<p.aY.length
    ·exact h _ (cp hn)
    ·rw[List.getD_eq_getElem?_getD,List.getElem?_eq_none ad];exact Nat.zero_le _
   omega
  ·have:=Jq h n S out;omega
theorem aca{k:Int}(aD:3<=k):yK p k=(p.aY.getD (k - 3).toNat default).inits:=by rw[yK,if_pos aD]
theorem RF(jk:List Int):∀(l:List (Int×Int)) (seen:List Int),mG jk l seen=true->∀x∈l,x.1∈jk
 | y::r,seen,h,x,ag=>by
  simp only[mG,Bool.and_eq_true] at h;rcases List.mem_cons.1 ag with rfl | ag
  ·exact List.contains_iff_mem.1 h.1.1.1
  ·exact RF jk r _ h.2 x ag
structure acb(p:Prog)(c:Int):Prop where
 BB:3<=c
 dS:c<3+p.aY.length
 Jr:p.aY.length<=10
 aF:∀c∈p.aY,c.parents.length<=4000000/\c.aJ.length<=1000
 gT:∀c∈p.aY,∀x∈c.parents,gL x
 IM:gM (cZ p)=true
 ne:fI (cZ p) c≠ []
 len:(fI (cZ p) c).length<=1000
 AX:∀y∈fI (cZ p) c,0<=y/\y<3+p.aY.length
 ak8:∀k∈p.aY,∀x∈k.inits,gL x.1
 has:∀s∈ez p c,gL s
 ax:(ez p c).length<=20000
theorem BC(h:gK p c=true):acb p c:=by
 obtain⟨⟨aD,ak⟩,dp⟩:=It h;obtain⟨fC,aH⟩:=D1 dp;have nX:=dp;simp only[gS,Bool.and_eq_true,decide_eq_true_eq] at nX;obtain⟨⟨⟨ak9,cy⟩,AL,al⟩,hR⟩:=nX;have ly:(cZ p).length=p.aY.length:=by simp[cZ]
 have hm:=yu _ _ cy;have ao:∀(k s:Int),s∈ez p k->gL s:=λk s h=>by
  obtain⟨c,ab,ae⟩:=Ig h;have:=(hm c ab).2 _ ae;unfold gL;omega
 have e6:=A2 al (3+(cZ p).length) (Nat.le_refl _);have Ee:=uz (g:=cZ p) (Nat.le_refl _);rw[A1] at e6 Ee;have cA:=List.all_eq_true.1 hR;have uQ:∀i,i<p.aY.length->pn p i=true:=λi av=>cA i (List.mem_range.2 av);have RG:fI (cZ p) c=(ux (cZ p)).getD c.toNat []:=rfl;have RH:=e6 c.toNat ad;refine⟨aD,ak,fC,aH,PV dp,al,?_,?_,?_,?_,ao c,?_⟩
 ·have:=uQ (c - 3).toNat ad;rw[pn,Bool.and_eq_true,show (((c - 3).toNat:Nat):Int)+3=c by omega] at this;intro e;rw[e] at this;simp at this
 ·have:=RH.len;rw[RG];omega
 ·intro y hy;rw[RG] at hy;have:=RH.AX y hy;omega
 ·intro k k4 x ag;obtain⟨i,av,rfl⟩:=List.mem_iff_getElem.1 k4;have:=uQ i av;rw[pn,Bool.and_eq_true] at this;have e:p.aY.getD i default=p.aY[i]:=by rw[List.getD_eq_getElem?_getD,List.getElem?_eq_getElem av];rfl
  rw[e] at this;exact ao _ _ (RF _ _ _ this.2 x ag)
 ·have:=Jq (p:=p) (λc h=>(aH c h).2) (c - 2).toNat [c] [];unfold ez iB;rw[List.length_mergeSort];simp only[List.length_nil] at this;omega
def uR(p:Prog)(l:List Int)(is:List Nat):List (Int×Int):=is.flatMap λi=>yK p (l.getD i default)
theorem acd(l:List Int):(List.range l.length).map (λi=>l.getD i default)=l:=by
 apply List.ext_getElem
 ·simp
 ·intro i ab ae;rw[List.getElem_map,List.getElem_range,List.getD_eq_getElem?_getD,List.getElem?_eq_getElem pQ];rfl
theorem ace(p:Prog)(c:Int):uR p (fI (cZ p) c) (List.range (fI (cZ p) c).length).reverse=mm p c:=by
 unfold uR mm;show _=(fI (cZ p) c).reverse.flatMap (yK p);rw[show (fI (cZ p) c).reverse=(List.range (fI (cZ p) c).length).reverse.map (λi=>(fI (cZ p) c).getD i default) by rw[List.map_reverse,acd],List.flatMap_map]
theorem acf(p:Prog)(l:List Int)(is:List Nat)(i:Nat):uR p l (is++[i])=uR p l is++yK p (l.getD i default):=by
 rw[uR,List.flatMap_append];simp[uR]
theorem acg{A:List (Int×Int)}{l:List (Int×Int)}{j:Nat}(h:j<l.length):A++l.take (j+1)=(A++l.take j)++[l.getD j default]:=by
 rw[List.append_assoc,eE h]
theorem ach{k:Nat}(ao:k<(ez p c).length)(h:(ky (mm p c) ((ez p c).getD k default)).isSome=true):((ez p c).take (k+1)).filterMap (λs=>(ky (mm p c) s).map λn=>(s,n))=((ez p c).take k).filterMap (λs=>(ky (mm p c) s).map λn=>(s,n))++[((ez p c).getD k default,(ky (mm p c) ((ez p c).getD k default)).getD 0)]:=by
 rw[<-eE ao,List.filterMap_append];generalize (ez p c).getD k default=s at*;obtain⟨n,hn⟩:=Option.isSome_iff_exists.1 h;simp[hn]
theorem aci{k:Nat}(ao:k<(ez p c).length)(h:(ky (mm p c) ((ez p c).getD k default)).isSome=false):((ez p c).take (k+1)).filterMap (λs=>(ky (mm p c) s).map λn=>(s,n))=((ez p c).take k).filterMap (λs=>(ky (mm p c) s).map λn=>(s,n)):=by
 rw[<-eE ao,List.filterMap_append];generalize (ez p c).getD k default=s at*;cases hn:ky (mm p c) s with
 | none=>simp[hn]
 | some n=>rw[hn] at h;cases h
structure wM(f:Int->aa)(l:List (Int×aa))(n:Nat):Prop where
 ok:lK l
 get:∀k,hN l k=if 3<=k/\k<3+n then some (f k) else none
theorem wM.nil(f:Int->aa):wM f [] 0:=⟨lK.nil,λk=>by rw[if_neg ad];rfl⟩
theorem wM.put{f:Int->aa}{l:List (Int×aa)}{n:Nat}(h:wM f l n)(hn:n<=1000):wM f (fg l ((n:Int)+3) (f ((n:Int)+3))) (n+1):=by
 refine⟨h.ok.put eV _,λk=>?_⟩;rw[yf,h.get];by_cases e:k=(n:Int)+3
 ·rw[if_pos e,if_pos ad,e]
 ·rw[if_neg e];by_cases ae:3<=k/\k<3+n
  ·rw[if_pos ae,if_pos ad]
  ·rw[if_neg ae,if_neg ad]
theorem wM.look{f:Int->aa}{l:List (Int×aa)}{n:Nat}(h:wM f l n){k:Int}(ao:3<=k/\k<3+n)(z:aa):aL ((hN l k).getD z) (f k):=by
 rw[h.get,if_pos ao];exact aL.refl _
theorem RI(p:Prog)(c:Int):(pz p c).length<=(ez p c).length:=List.length_filterMap_le _ _
end Go.Eng.ei

namespace Go.Proofs.YtodccgailpkgeaaGreat
open Go.Eng
open Go.Eng.Fc
open Go.Eng.ei
theorem eI.weaken{f:FuncId}{c:Ctx}{r:Option Nat}{P:Program}{st:dn}{Q:Exit->Act->World->Prop}{p:Code}{st':dn}(he:mV st'.env st.env)(b0:st'.H.Sublist st.H)(h:eI f c r P p st' Q):eI f c r P p st Q:=
 λa w s=>h a w (s.weaken (j3 he) b0)
def r0(n k:Nat):List Nat:=((List.range n).drop k).reverse
theorem acj(n:Nat):r0 n n= []:=by rw[r0,List.drop_of_length_le bj];rfl
theorem RJ{n j:Nat}(h:j<n):r0 n (j+1)++[j]=r0 n j:=by
 have e:(List.range n).drop j=j::(List.range n).drop (j+1):=by
  rw[List.drop_eq_getElem_cons h3];simp
 rw[r0,r0,e,List.reverse_cons]
theorem ack(n j:Nat):r0 n j<+:(List.range n).reverse:=by
 refine⟨((List.range n).take j).reverse,?_⟩;rw[r0, <-List.reverse_append,List.take_append_drop]
instance:rN Tryz.prog 190 (3,3):=⟨aM,aM⟩
instance:vT Tryz.prog 3 (.int .i64 0):=⟨aM⟩
theorem acm(l:List (Int×Int))(x:Int×Int):aa.s7 (l++[x])= .aF 2 (l.map vY++[vY x]):=by
 show aa.aF 2 (List.map _ (_++_))=_;rw[List.map_append];rfl
theorem acn{m:List (Int×aa)}{L:List (Int×Int)}(h:te m L)(s:Int):aL (.bJ [(hN m s).getD (.val (.int .i64 0)),.b (hN m s).isSome]) (.bJ [.i ((ky L s).getD 0),.b (ky L s).isSome]):=by
 rw[h.get];cases ky L s <;> exact aL.refl _
theorem aco{B:Nat}{g:Fn}{bM cs:List aa}{l:List Int}(ax:l.length<=1000000){J:List Nat->List aj->Prop}{gJ:aa->List aj->Prop}(iT:yd B Tryz.prog (.fn g bM cs) (λi:Nat=>.i i) (λi=>.i (l.getD i default)) (List.range l.length).reverse false J gJ){iu Hx:List aj}(bF:J [] iu):
  dC B Tryz.prog 180 [.fn g bM cs,.ptr [aa.ints l]] (iu++Hx) (λ_ H'=>∃H1,H'=H1++Hx/\J (List.range l.length).reverse H1) (λ_ _=>False):=by
 refine dC.of (n:=19) Tryz.func180 rfl aM rfl rfl (λI aO=>?_);refine bS ?_;refine cq (λm st=>∃(c:Int) (H1:List aj),st=⟨[(3,.i c),(0,.fn g bM cs),(1,.ptr [aa.ints l])],H1++Hx⟩/\m=(c+1).toNat/\(-1<=c/\c<l.length)/\J (r0 l.length (c+1).toNat) H1) (⟨(l.length:Int) - 1,iu,rfl,rfl,⟨ad,ad⟩,by rw[show ((l.length:Int) - 1+1).toNat=l.length by omega,acj];exact bF⟩) ?_;rintro m _ ⟨c,H1,rfl,rfl,ak,fp⟩;refine bn ?_;refine aZ (λai=>?_) λai=>?_
 ·obtain⟨j,rfl⟩:∃j:Nat,c=j:=⟨c.toNat,ad⟩;have c3:j<l.length:=by omega
  rw[show ((j:Int)+1).toNat=j+1 by omega] at fp;refine cT ?_;refine au.o1 rfl rfl rfl rfl rfl rfl rfl rfl (bO.refl _) ((iT (r0 l.length (j+1)) j H1 Hx (by rw[RJ c3];exact ack _ _) fp).mono (λ_ _ h=>h) (λ_ _ h=>by obtain⟨_,_,_,h,_⟩:=h;cases h)) ?_;rintro y _ ⟨db,rfl,rfl,_,yE⟩;rw[RJ c3] at yE;refine bg ?_;refine aq.cond rfl (λab=>?_) (λab=>?_)
  ·simp at ab
  ·replace ab:=dZ ab;refine bs ?_;exact bV (⟨(j:Int) - 1,db,rfl,rfl,⟨ad,ad⟩,by rw[show ((j:Int) - 1+1).toNat=j by omega];exact yE⟩)
 ·obtain rfl:c= -1:=by omega
  refine bI ?_;refine aR.oY (rs:=[]) rfl (.nil) (bO.refl _) b8 ?_;exact⟨H1,rfl,fp⟩
theorem backward(l:List Int):ba Tryz.prog 142 [aa.ints l] (.fn (.func 180) [] [.ptr [aa.ints l]]):=by
 intro H;refine bh (n:=4) Tryz.func142 λB I aO=>?_;refine ev ?_;refine aS 2 (H) ?_;exact⟨eg,rfl⟩
theorem acp(B:Nat)(l:List Int)(ax:l.length<=1000000):HA B Tryz.prog (.fn (.func 180) [] [.ptr [aa.ints l]]) (λi:Nat=>.i i) (λi=>.i (l.getD i default)) (List.range l.length).reverse false [] (λ_=>True):=by
 intro J gJ g bM cs nK iT H Hx bF;refine e4.sG ((aco ax iT bF).imp ?_ (λ_ _ h=>h.elim));rintro y H' ⟨H1,rfl,fp⟩;exact⟨rfl,H1,[],rfl,trivial,fp⟩
theorem acq(els:List (List aa)):ba Tryz.prog 143 [.aF 2 els] (.aF 2 els):=by
 intro H;refine bh (n:=9) Tryz.func143 λB I aO=>?_;refine cT ?_;refine aG (af.HF rfl rfl rfl rfl rfl rfl rfl) ?_;refine bI ?_;refine aS 2 (H) ?_;exact⟨eg,rfl⟩
theorem acr{p:Prog}(aB:p.Small){c:Int}(aA:gK p c=true):ba Tryz.prog 91 [aa.prog p,.i c] (.bJ [aa.s7 (pz p c),.i 0]):=by
 intro H;refine b1.N4 (n:=81) Tryz.func91 rfl aM rfl rfl (λB I aO=>?_);obtain⟨aD,dp,fC,eZ,Bw,q7,bq,hlen,iH,Js,Es,RK⟩:=BC aA;have ly:(cZ p).length=p.aY.length:=by simp[cZ]
 refine eI.seq ?_;refine aq.nJ ?_;refine bz ?_;refine eI.done ?_;refine eI.seq ?_;refine eI.seq ?_;refine aq.nJ ?_;refine bg ?_;refine aG (af.call .k (Jp aB c)) ?_;refine bC ?_;refine eI.done ?_;refine aq.nJ ?_;refine aq.cond rfl (λai=>?_) (λai=>?_)
 ·simp[aA] at ai
 ·replace ai:=dZ ai;refine bt ?_;refine eI.done ?_;refine eI.seq ?_;refine aq.nJ ?_;refine bC ?_;refine aG (af.call .k (graph p ad (λc h=>(eZ c h).1))) ?_;refine bt ?_;refine aG (af.call .k (QW q7 (c:=c) ad)) ?_;refine aT ?_;refine eI.done ?_;refine eI.seq ?_;refine eI.seq ?_;refine aq.nJ ?_;refine bI ?_;refine eI.done ?_;refine aq.nJ ?_;refine aq.cond rfl (λab=>?_) (λab=>?_)
  ·simp[bq] at ab
  ·replace ab:=dZ ab;refine bt ?_;refine eI.done ?_;refine eI.seq ?_;refine aq.nJ ?_;refine bt ?_;refine au.mkMap rfl rfl rfl rfl (λbo=>?_);refine au.cG rfl rfl rfl rfl (λtb=>?_);refine bC ?_;refine eI.done ?_;refine eI.seq ?_;refine eI.seq ?_;refine aq.nJ ?_;refine aq.ep (d:=8) rfl ey ?_;refine bC ?_;refine aG (af.call .k (backward (fI (cZ p) c))) ?_;refine bt ?_;refine eI.done ?_;refine eI.block ?_;refine eI.weaken (st':=⟨[(34,.fn (.func 180) [] [.ptr [aa.ints (fI (cZ p) c)]]),(8,.ptr [.val (.map (some bo))]),(2,.ptr (dF p)),(1,.i c)],[eu bo []]++([]++H)⟩) h2 b8 ?_;refine eI.N5 Tryz.func91 (λi:Nat=>.i i) (λi=>.i ((fI (cZ p) c).getD i default)) ((List.range (fI (cZ p) c).length).reverse) (false) (λpre H=>∃l,H= [eu bo l]/\te l (uR p (fI (cZ p) c) pre)) (λ_ _=>False) ([eu bo []]) ([]) (H) (λ_=>True) (λx=>[(10,.i ((fI (cZ p) c).getD x default)),(8,.ptr [.val (.map (some bo))]),(2,.ptr (dF p))]) rfl rfl rfl rfl rfl (acp B (fI (cZ p) c) ad) (⟨[],rfl,te.nil⟩) (λ_ _ h=>h.elim) ?_ ?_ ?_ ?_
   ·intro eJ iY fA x c0;refine bg ?_;exact λa w s=>⟨_,rfl,s.weaken (j3 h2) (List.Sublist.refl _)⟩
   ·intro eJ eK dw pre x H1 c0 iY fA e9 bF;obtain⟨l,rfl,bT⟩:=bF;have my:x<(fI (cZ p) c).length:=by have:=e9.subset (show x∈pre++[x] by simp);simpa using this
    obtain⟨k,ao⟩:∃k,k=((fI (cZ p) c).getD x default):=⟨_,rfl⟩;have RL:=iH k (ao▸cp my);have ng:=acf p (fI (cZ p) c) pre x;rw[<-ao] at ng ⊢;refine bn ?_;refine aZ (λae=>?_) λae=>?_
    ·have a1:(k - 3).toNat<p.aY.length:=by omega
     rw[aca ae] at ng;obtain⟨I,b4⟩:∃I,I=(p.aY.getD (k - 3).toNat default).inits:=⟨_,rfl⟩;have GX:∀x∈I,gL x.1:=λx ag=>Js _ (cp a1) x (b4▸ag);rw[<-b4] at ng;refine aT ?_;refine aG (ob) ?_;refine bn ?_;rw[<-b4];refine aq.fi (t:=45) rfl (λala=>?_);refine cq (λm st=>∃(j:Nat) (pA:List (Int×aa)),st=⟨[(47,.i j),(46,.i I.length),(45,aa.s7 I),(8,.ptr [.val (.map (some bo))])],(.loop eJ dw (aX [(34,.fn (.func 180) [] [.ptr [aa.ints (fI (cZ p) c)]]),(8,.ptr [.val (.map (some bo))]),(2,.ptr (dF p)),(1,.i c)])::.obj eK (.deferred (some []))::([eu bo pA]++c0))⟩/\m=I.length - j/\j<=I.length/\te pA (uR p (fI (cZ p) c) pre++I.take j)) (⟨0,l,rfl,rfl,ad,by simpa using bT⟩) ?_;rintro m _ ⟨j,pA,rfl,rfl,aU,Et⟩;refine aT ?_;refine aZ (λaD=>?_) λaD=>?_
     ·have c3:j<I.length:=by omega
      obtain⟨Y,wN⟩:∃Y,Y=I.getD j default:=⟨_,rfl⟩;have BD:gL Y.1:=GX _ (wN▸cp c3);refine bs ?_;refine au.cG rfl rfl rfl rfl (λie=>?_);refine bg ?_;rw[<-wN];refine aq.ep (d:=12) rfl ey ?_;refine aT ?_;refine au.jE (u':=.i Y.2) rfl rfl (.inl rfl) rfl rfl rfl rfl rfl rfl (aL.refl _) (.tail _ _ _ _ _ (.tail _ _ _ _ _ (.head _ _ _))) Et.ok BD ?_;refine bn ?_;exact bV (⟨j+1,_,rfl,rfl,c3,by rw[acg c3, <-wN];exact Et.put BD⟩)
     ·obtain rfl:j=I.length:=by omega
      rw[List.take_length, <-ng] at Et;refine bz ?_;exact aR.Dy (H:=[eu bo pA]) b8 (λ_=>rfl) (⟨pA,rfl,Et⟩)
    ·refine bC ?_;exact aR.Dy (H:=[eu bo l]) b8 (λ_=>rfl) (⟨l,rfl,by rw[ng,yK,if_neg ad,List.append_nil];exact bT⟩)
   ·intro eK H1 I1 nL xW bF;obtain⟨l,rfl,bT⟩:=bF;rw[ace] at bT;refine aR.wi (H':=.obj eK (.deferred (some []))::eu bo l::H) (.cons_cons _ (.cons_cons _ (List.sublist_append_right _ _))) ?_;refine bt ?_;refine eI.done ?_;refine eI.seq ?_;refine aq.nJ ?_;refine bg ?_;refine eI.done ?_;refine eI.seq ?_;refine eI.seq ?_;refine aq.nJ ?_;refine bg ?_;refine aG (af.call .k (Jf p ad (λc h=>(eZ c h).2) Bw (k:=c) eV ad)) ?_;refine bg ?_;refine eI.done ?_;refine eI.block ?_;refine aq.nJ ?_;refine aq.iq 13 101 2 rfl ?_;refine cq (λm st=>∃(k:Nat) (v:Value),st=⟨[(61,.i k),(60,.i (ez p c).length),(59,aa.ints (ez p c)),(13,.as (aa.s7 (((ez p c).take k).filterMap (λs=>(ky (mm p c) s).map λn=>(s,n)))) v),(8,.ptr [.val (.map (some bo))])],.own 101 2 v::.obj eK (.deferred (some []))::eu bo l::H⟩/\m=(ez p c).length - k/\k<=(ez p c).length) (⟨0,_,rfl,rfl,ad⟩) ?_;rintro m _ ⟨k,v,rfl,rfl,ao⟩;refine aT ?_;refine aZ (λaV=>?_) λaV=>?_
    ·have dP:k<(ez p c).length:=by omega
     have wJ:=ach dP;have eF:=aci dP;have eY:=Es _ (cp dP);obtain⟨s,aH⟩:∃s,s=(ez p c).getD k default:=⟨_,rfl⟩;rw[<-aH] at wJ eF eY;refine cT ?_;rw[<-aH];refine bg ?_;refine aG (af.le (af.XY rfl rfl rfl rfl rfl (.tail _ (.tail _ (.head _))) bT.ok eY) (acn bT s)) ?_;refine cT ?_;refine aq.cond rfl (λbl=>?_) (λbl=>?_)
     ·refine bz ?_;refine au.bB (x:=.aF 2 [[.i s,.i ((ky (mm p c) s).getD 0)]]) rfl rfl rfl (af.row rfl rfl c4 rfl rfl rfl rfl rfl rfl) ?_;refine au.gu rfl rfl rfl rfl rfl rfl rfl rfl (aL.refl _) (rfl) (λv=>by repeat (first | exact bu.head _ _ _ | apply bu.tail)) LK LK (λacs=>?_);refine bs ?_;exact bV (⟨k+1,acs,by rw[wJ bl,acm],rfl,dP⟩)
     ·refine bn ?_;exact bV (⟨k+1,v,by rw[eF bl],rfl,dP⟩)
    ·obtain rfl:k=(ez p c).length:=by omega
     rw[List.take_length];refine bI ?_;refine eI.done ?_;refine eI.seq ?_;refine aq.nJ ?_;refine bC ?_;refine aG (af.vv .k (.cons (aL.hb _ _) .nil) (acq _)) ?_;refine bg ?_;refine eI.done ?_;refine aq.nJ ?_;refine bt ?_;refine aR.C7 (rs:=[.tmp 4,.tmp 5]) (H':=H) rfl ey (.tmp rfl (.tmp rfl (.nil))) (bO.refl _) b8 ?_;exact⟨dJ,rfl⟩
   ·intro eK y H1 I1 nL wG iY v1 cI fA oE gI;exact wG.elim
end Go.Proofs.YtodccgailpkgeaaGreat

namespace Go.Eng.ei
open Go.Eng.Fc
variable{k n:Nat}{p:Prog}{l:List Int}{f:Fact}
theorem Eu(n:Nat)(h:n<9223372036854775808):(BitVec.ofInt IntKind.i64.bits (n:Int)).toNat=n:=by
 simp[IntKind.bits];omega
theorem Ev(n:Nat)(h:n<9223372036854775808):IntKind.i64.wrap (n:Int)=n:=by
 simp only[IntKind.wrap,IntKind.bits,IntKind.signed];simp;omega
theorem wO(s t:Nat)(aH:s<9223372036854775808)(ht:t<9223372036854775808):pT .or .i64 (s:Int) (t:Int)=some ((s ||| t:Nat):Int):=by
 show some (IntKind.i64.wrap _)=_;rw[BitVec.toNat_or,Eu s aH,Eu t ht,Ev _ (Nat.or_lt_two_pow (n:=63) aH ht)]
theorem BE(s t:Nat)(aH:s<9223372036854775808)(ht:t<9223372036854775808):pT .and .i64 (s:Int) (t:Int)=some ((s &&& t:Nat):Int):=by
 show some (IntKind.i64.wrap _)=_;rw[BitVec.toNat_and,Eu s aH,Eu t ht,Ev _ (Nat.lt_of_le_of_lt Nat.and_le_left aH)]
theorem Jt(s:Nat)(c:Int):vo .shr .i64 (s:Int) c=some ((s / 2^min c.toNat 64:Nat):Int):=by
 show some ((s:Int).fdiv (2^(min c.toNat 64)))=_;congr 1;have:((2:Int)^min c.toNat 64)=((2^min c.toNat 64:Nat):Int):=by simp
 rw[this];exact (Int.ofNat_fdiv _ _).symm
theorem r1(c:Int)(h:0<=c/\c<63):vo .shl .i64 1 c=some ((2^c.toNat:Nat):Int):=by
 show some (IntKind.i64.wrap _)=_;have e:min c.toNat IntKind.i64.bits=c.toNat:=Nat.min_eq_left (by simp[IntKind.bits];omega);have ae:(1:Int)*2^(min c.toNat IntKind.i64.bits)=((2^c.toNat:Nat):Int):=by rw[e];simp
 rw[ae,Ev _ (Nat.pow_lt_pow_right (a:=2) (n:=63) ad ad)]
theorem RM(s:Nat)(c:Int)(aH:s<9223372036854775808):((((s / 2^min c.toNat 64) &&& 1:Nat):Int)==1)=s.testBit c.toNat:=HY s c ad
def gB(k n:Nat):List Nat:=(List.range n).filter k.testBit
abbrev hV(k:Nat):List Nat:=gB k 62
theorem wP(k n:Nat):gB k (n+1)=gB k n++if k.testBit n then [n] else []:=by
 rw[gB,List.range_succ,List.filter_append];cases h:k.testBit n <;> simp[h,gB]
theorem RN(k n:Nat):∀d,∃r,gB k (n+d)=gB k n++r
 | 0=>⟨[],bj⟩
 | d+1=>by
  obtain⟨r,aK⟩:=RN k n d;exact⟨_,by rw[<-Nat.add_assoc,wP,aK,List.append_assoc]⟩
theorem RO(k:Nat){n:Nat}(h:n<=62):gB k n<+:hV k:=by
 obtain⟨r,aK⟩:=RN k n (62 - n);exact⟨r,by rw[<-aK,show n+(62 - n)=62 by omega]⟩
theorem Ew{k n j:Nat}(h:k<2^n)(aU:n<=j):k.testBit j=false:=Nat.testBit_lt_two_pow (Nat.lt_of_lt_of_le h (Nat.pow_le_pow_right ad aU))
theorem RP{k n:Nat}(h:k<2^n):∀d,gB k (n+d)=gB k n
 | 0=>rfl
 | d+1=>by rw[<-Nat.add_assoc,wP,RP h d,Ew h ad];simp
theorem Ju(h:k<2^n)(hn:n<=62):gB k n=hV k:=by
 have:=RP h (62 - n);rw[show n+(62 - n)=62 by omega] at this;exact this.symm
theorem qf{k c:Nat}:c∈hV k↔c<62/\k.testBit c=true:=by simp[gB]
theorem wQ{k n c:Nat}(h:k<2^n)(ak:c∈hV k):c<n:=by
 have:=(qf.1 ak).2;apply Decidable.byContradiction;intro ae;rw[Ew h ad] at this;cases this
theorem Ex{m k:Nat}(h:k<2^m)(hm:m<=62)(q:Nat->Bool):((List.range m).any λc=>k.testBit c && q c)=(hV k).any q:=by
 rw[Bool.eq_iff_iff,List.any_eq_true,List.any_eq_true];constructor
 ·rintro⟨c,ak,ae⟩;rw[Bool.and_eq_true] at ae;exact⟨c,qf.2 ⟨by have:=List.mem_range.1 ak;omega,ae.1⟩,ae.2⟩
 ·rintro⟨c,ak,ae⟩;exact⟨c,List.mem_range.2 (wQ h ak),by rw[Bool.and_eq_true];exact⟨(qf.1 ak).2,ae⟩⟩
def fU:List Int->List (List Int)
 | []=>[[]]
 | k::r=>(hV k.toNat).flatMap λ(c:Nat)=>(fU r).map λl=>(c:Int)::l
def mn(L:List (List Int))(i:Nat):Nat:=L.foldl (λa l=>a ||| 2^(l.getD i default).toNat) 0
def iZ(p:Prog)(t:bG)(f:Fact)(kinds:List Int):List (List Int):=(fU kinds).filter λl=>(e1 p t l f).1
def iL(L:List (List Int))(n:Nat):List Int:=(List.range n).map λi=>(mn L i:Int)
def jH(p:Prog)(t:bG)(gen:Int)(kinds:List Int)(n:Nat):List (Int×List Int):=
 (List.range n).filterMap λm=>if(p.methods.getD m default).gen=gen/\iZ p t (p.methods.getD m default).fact kinds≠ [] then some ((m:Int),iL (iZ p t (p.methods.getD m default).fact kinds) kinds.length) else none
def hj(p:Prog)(t:bG)(gen:Int)(kinds:List Int):List (Int×List Int):=jH p t gen kinds p.methods.length
structure RQ where
 alb:Fact
 alc:Fact
structure Jv where
 of:Int
 before:Fact
 cases:List RQ
structure acu where
 du:List Jv
 methods:List Jv
instance:Inhabited RQ:=⟨⟨default,default⟩⟩
instance:Inhabited Jv:=⟨⟨0,default,[]⟩⟩
theorem Jw(a:Int):∀(l:List Fact) (n:Int),oC l n<=a↔n<=a/\∀k∈l,oB k<=a
 | [],n=>by simp[oC]
 | k::r,n=>by
  rw[oC,Jw a r,List.forall_mem_cons];constructor
  ·rintro⟨ab,ae⟩;exact⟨ad,ad,ae⟩
  ·rintro⟨ab,ae,aD⟩;exact⟨ad,aD⟩
def mg(p:Prog)(n:Int):Bool:=decide (n>=0) && decide (n<p.du.length)
def ln(p:Prog)(n:Int):Bool:=decide (n>=0) && decide (n<p.methods.length)
def gU(p:Prog)(n:Int):Int:=p.du.getD n.toNat default
def tH(p:Prog)(n:Int):Int:=gU p (p.methods.getD n.toNat default).gen
abbrev tf(a b:Fact):Fact:=.mk 6 0 [] 0 0 [a,b]
theorem qg(an:(bK p).isSome=true):a7 p<=13:=by
 obtain⟨o,aA⟩:=Option.isSome_iff_exists.1 an;have:=(pw.of (kF aA).1).dS;unfold a7;omega
theorem qh(an:(bK p).isSome=true):2^a7 p<=8192:=show 2^a7 p<=2^13 from Nat.pow_le_pow_right e3 (qg an)
def Jy(x y:Bool×Bool):Bool×Bool:=(x.1 && y.1,x.1 && y.2 || x.2 && y.1 || x.2 && y.2)
def RR(x y:Bool×Bool):Bool×Bool:=(x.1 && y.1 || x.1 && y.2 || x.2 && y.1,x.2 && y.2)
theorem acv(x y:Bool×Bool):(Jy x.swap y.swap).swap=RR x y:=by
 obtain⟨a,b⟩:=x;obtain⟨c,d⟩:=y;cases a <;> cases b <;> cases c <;> cases d <;> rfl
structure jD(p:Prog)(l:List Int)(f:Fact):Prop where
 wf:eT (cH p) f=true
 sp:oB f<=l.length
theorem jD.acw(h:jD p l f):∀k∈f.kids,jD p l k:=λk ao=>
 ⟨(na.1 h.wf).2 k ao,((Jw _ _ _).1 (DR f▸h.sp)).2 k ao⟩
theorem jD.leaf(h:jD p l f)(ax:dO f=true):(0<=f.arg/\f.arg<l.length)/\(∀s∈f.path,0<=s/\s<(cH p).owner.length)/\f.path.length<=2/\(f.op=2->0<=f.cls/\f.cls<a7 p):=by
 have ab:=(na.1 h.wf).1;simp only[fz,Bool.and_eq_true] at ab;have ae:=ab.2;rw[ax,if_pos rfl,Bool.and_eq_true] at ae;have aD:=ae.1;simp only[iK,nQ,Bool.not_eq_true',Bool.or_eq_false_iff,Bool.not_eq_false',Bool.and_eq_true,decide_eq_false_iff_not,decide_eq_true_eq] at aD;have aV:=((Jw _ _ _).1 (DR f▸h.sp)).1;simp only[dO,Bool.and_eq_true,decide_eq_true_eq] at ax;rw[hQ,if_pos ad] at aV;refine⟨⟨ad,ad⟩,λs aH=>?_,aD.2.1,λaA=>?_⟩
 ·have:=List.all_eq_true.1 aD.2.2 s aH;simpa only[Fc.nO,Bool.and_eq_true,decide_eq_true_eq] using this
 ·have bl:=ae.2;rw[kj,if_pos aA,Bool.and_eq_true] at bl;have cP:=bl.2;simp only[jZ,Bool.and_eq_true,decide_eq_true_eq] at cP;rw[uM] at cP;exact⟨cP.1,by unfold a7;omega⟩
theorem jD.ops(h:jD p l f):(f.op=5->f.kids.length=1)/\(f.op=6\/f.op=7->f.kids.length=2)/\(f.op≠1->f.op≠5->f.op≠6->f.op≠7->dO f=true):=by
 have ab:=(na.1 h.wf).1;simp only[fz,Bool.and_eq_true,decide_eq_true_eq,beq_iff_eq] at ab;obtain⟨⟨⟨ae,aD⟩,aV⟩,_⟩:=ab;refine⟨λh=>?_,λh=>?_,λa b c d=>?_⟩
 ·rw[h] at aV;simp[kZ] at aV;omega
 ·rcases h with h | h <;> rw[h] at aV <;> simp[kZ] at aV <;> omega
 ·simp only[dO,Bool.and_eq_true,decide_eq_true_eq];omega
section
variable{p:Prog}{t:bG}{l:List Int}{f:Fact}
theorem BF{i:Nat}{r:List Fact}(h:i<r.length):(mH p t l r).getD i default=e1 p t l (r.getD i default):=by
 rw[Ql,List.getD_eq_getElem?_getD,List.getElem?_map,List.getD_eq_getElem?_getD,List.getElem?_eq_getElem h];rfl
theorem acx(h:f.op=1):e1 p t l f=(true,false):=by
 obtain⟨op,arg,path,cls,n,kids⟩:=f;change op=1 at h;subst h;rw[e1,if_pos rfl]
theorem acy(h:f.op=5)(ao:f.kids.length=1):e1 p t l f=(e1 p t l (f.kids.getD 0 default)).swap:=by
 obtain⟨op,arg,path,cls,n,kids⟩:=f;change op=5 at h;change kids.length=1 at ao;subst h;rw[e1,if_neg e3,if_pos rfl,BF ad];rfl
theorem acz(h:f.op=6)(ao:f.kids.length=2):e1 p t l f=Jy (e1 p t l (f.kids.getD 0 default)) (e1 p t l (f.kids.getD 1 default)):=by
 obtain⟨op,arg,path,cls,n,kids⟩:=f;change op=6 at h;change kids.length=2 at ao;subst h;rw[e1,if_neg e3,if_neg e3,if_pos rfl,BF ad,BF ad];rfl
theorem acA(h:f.op=7)(ao:f.kids.length=2):e1 p t l f=RR (e1 p t l (f.kids.getD 0 default)) (e1 p t l (f.kids.getD 1 default)):=by
 obtain⟨op,arg,path,cls,n,kids⟩:=f;change op=7 at h;change kids.length=2 at ao;subst h;rw[e1,if_neg e3,if_neg e3,if_neg e3,if_pos rfl,BF ad,BF ad];rfl
theorem RS(ab:f.op≠1)(bl:f.op≠5)(cP:f.op≠6)(di:f.op≠7):e1 p t l f=(let k:=ll p t (l.getD f.arg.toNat default) f.path
   if f.op=2 then ((List.range (a7 p)).any (λc=>k.1.testBit c && kG (cH p) c f.cls),k.2 || (List.range (a7 p)).any λc=>k.1.testBit c && !kG (cH p) c f.cls) else (k.1.testBit 1,k.2 || decide (k.1≠0))):=by
 obtain⟨op,arg,path,cls,n,kids⟩:=f;change op≠1 at ab;change op≠5 at bl;change op≠6 at cP;change op≠7 at di;rw[e1,if_neg ab,if_neg bl,if_neg cP,if_neg di];rfl
def pB(p:Prog)(t:bG):Prop:=∀s∈t.aJ,cr (a7 p) s=true
theorem wR{m:Nat}{k:Int}(h:cr m k=true):k=(k.toNat:Int)/\k.toNat<2^m/\k.toNat.testBit 0=false:=by
 simp only[cr,Bool.and_eq_true,decide_eq_true_eq] at h;have ab:k=(k.toNat:Int):=by omega
 refine⟨ab,?_,?_⟩
 ·have:=h.2;rw[ab] at this
  exact_mod_cast this
 ·rw[Nat.testBit_zero];simp;omega
theorem Ey(h:pB p t)(i:Nat):t.aJ.getD i default=((t.aJ.getD i default).toNat:Int)/\(t.aJ.getD i default).toNat<2^a7 p/\(t.aJ.getD i default).toNat.testBit 0=false:=by
 by_cases av:i<t.aJ.length
 ·exact wR (h _ (cp av))
 ·rw[List.getD_eq_getElem?_getD,List.getElem?_eq_none ad];exact⟨rfl,Nat.pow_pos e3,rfl⟩
theorem acB(h:pB p t)(s:Int)(k:Nat×Bool):(lR p t s k).1<2^a7 p:=by
 unfold lR;split
 ·exact (Ey h _).2.1
 ·exact Nat.pow_pos e3
theorem Jz(c:Int)(path:List Int)(s:Int):ll p t c (path++[s])=lR p t s (ll p t c path):=by
 rw[ll,List.foldl_append];rfl
theorem JA(h:pB p t){c:Int}(ak:c.toNat<a7 p):∀path:List Int,(ll p t c path).1<2^a7 p:=λpath=>by
 rcases List.eq_nil_or_concat path with rfl | ⟨q,s,rfl⟩
 ·exact Nat.pow_lt_pow_right e3 ak
 ·rw[List.concat_eq_append,Jz];exact acB h s _
theorem Ez{k:Nat×Bool}(h:k.1<2^a7 p)(hm:a7 p<=62)(s:Int):lR p t s k=(if(hV k.1).any (λc=>fT p c s) then (t.aJ.getD s.toNat default).toNat else 0,k.2 || (hV k.1).any λc=>!fT p c s):=by
 unfold lR;rw[Ex h hm,Ex h hm]
end
end Go.Eng.ei

namespace Go.Proofs.YtodccgailpkgeaaGreat
open Go.Eng
open Go.Eng.Fc
open Go.Eng.ei
variable{k c:Nat}
def uS(x:Bool×Bool):Int:=(if x.1 then 1 else 0)+(if x.2 then 2 else 0)
abbrev aa.mh(x:Bool×Bool):aa:=.val (.int .u8 (uS x))
theorem acC(x:Bool×Bool):pT .and .u8 (uS x) 1=some (if x.1 then 1 else 0):=by
 obtain⟨a,b⟩:=x;cases a <;> cases b <;> rfl
theorem acD(x:Bool×Bool):pT .and .u8 (uS x) 2=some (if x.2 then 2 else 0):=by
 obtain⟨a,b⟩:=x;cases a <;> cases b <;> rfl
theorem acE(x y:Bool×Bool):pT .or .u8 (uS x) (uS y)=some (uS (x.1 || y.1,x.2 || y.2)):=by
 obtain⟨a,b⟩:=x;obtain⟨c,d⟩:=y;cases a <;> cases b <;> cases c <;> cases d <;> rfl
theorem wS{x y:Bool×Bool}(h:x=y):kU [aa.mh x]=aa.mh y:=by subst h;rfl
theorem wT(a b:Bool):ba Tryz.prog 82 [.b a,.b b] (aa.mh (a,b)):=by
 intro H;refine bh (n:=13) Tryz.func82 λB I aO=>?_;refine lL ?_;refine aZ (λai=>?_) λai=>?_
 ·refine bC ?_;refine aG (af.bits rfl rfl rfl rfl rfl rfl) ?_;refine bS ?_;refine aZ (λab=>?_) λab=>?_
  ·refine bC ?_;refine aG (af.bits rfl rfl rfl rfl rfl rfl) ?_;refine c6 ?_;refine aS 4 (H) ?_;exact⟨by subst ai ab;rfl,rfl⟩
  ·refine bS ?_;refine aS 4 (H) ?_;exact⟨by subst ai ab;rfl,rfl⟩
 ·refine bs ?_;refine aZ (λae=>?_) λae=>?_
  ·refine bC ?_;refine aG (af.bits rfl rfl rfl rfl rfl rfl) ?_;refine c6 ?_;refine aS 4 (H) ?_;exact⟨by subst ai ae;rfl,rfl⟩
  ·refine bS ?_;refine aS 4 (H) ?_;exact⟨by subst ai ae;rfl,rfl⟩
theorem yL(x:Bool×Bool):ba Tryz.prog 56 [aa.mh x] (.b x.1):=by
 intro H;refine bh (n:=6) Tryz.func56 λB I aO=>?_;refine bs ?_;refine aG (af.bits rfl rfl rfl rfl rfl (acC x)) ?_;refine bz ?_;refine aS 2 (H) ?_;exact⟨bR (by cases x.1 <;> rfl),rfl⟩
theorem EA(x:Bool×Bool):ba Tryz.prog 57 [aa.mh x] (.b x.2):=by
 intro H;refine bh (n:=6) Tryz.func57 λB I aO=>?_;refine bs ?_;refine aG (af.bits rfl rfl rfl rfl rfl (acD x)) ?_;refine bz ?_;refine aS 2 (H) ?_;exact⟨bR (by cases x.2 <;> rfl),rfl⟩
theorem EB(x:Bool×Bool):ba Tryz.prog 99 [aa.mh x] (aa.mh x.swap):=by
 intro H;refine bh (n:=8) Tryz.func99 λB I aO=>?_;refine bs ?_;refine aG (af.call .k ((EA _))) ?_;refine bt ?_;refine aG (af.call .k ((yL _))) ?_;refine aG (af.call .k ((wT _ _))) ?_;refine bI ?_;refine aS 2 (H) ?_;exact⟨dJ,rfl⟩
theorem RT(x y:Bool×Bool):ba Tryz.prog 100 [aa.mh x,aa.mh y] (aa.mh (Jy x y)):=by
 intro H;refine bh (n:=24) Tryz.func100 λB I aO=>?_;refine lL ?_;refine aq.cond rfl (λai=>?_) (λai=>?_)
 ·refine bn ?_;refine aS 4 (H) ?_;exact⟨LP,rfl⟩
 ·refine bz ?_;refine aG (af.call .k ((yL _))) ?_;refine bC ?_;refine au.cb rfl rfl rfl rfl rfl rfl (λal=>af.call (.mk' rfl rfl rfl rfl dv) ((yL _))) ?_;refine bC ?_;refine aG (af.call .k ((EA _))) ?_;refine bC ?_;refine au.cb rfl rfl rfl rfl rfl rfl (λal=>af.call (.mk' rfl rfl rfl rfl dv) ((EA _))) ?_;refine bt ?_;refine aG (af.call .k ((wT _ _))) ?_;refine bI ?_;refine aS 4 (H) ?_;exact⟨wS LP,rfl⟩
theorem JB(k c:Nat)(ao:k<9223372036854775808):ba Tryz.prog 77 [.i k,.i c] (.b (k.testBit c)):=by
 intro H;refine bh (n:=10) Tryz.func77 λB I aO=>?_;refine bS ?_;refine aG (af.shift rfl rfl rfl rfl rfl ad (Jt k c)) ?_;refine aG (af.bits rfl rfl rfl rfl rfl (BE _ 1 (by have:=Nat.div_le_self k (2^min (c:Int).toNat 64);omega) e3)) ?_;refine bz ?_;refine aS 4 (H) ?_;exact⟨bR (RM k c ao),rfl⟩
theorem wU(k:Nat):ba Tryz.prog 37 [.i k] (.fn (.func 76) [] [.ptr [.i k]]):=by
 intro H;refine bh (n:=4) Tryz.func37 λB I aO=>?_;refine ev ?_;refine aS 2 (H) ?_;exact⟨eg,rfl⟩
theorem acF(ak:c<=64):decide (((k / 2^min (c:Int).toNat 64:Nat):Int)>0)=decide (2^c<=k):=by
 rw[show min (c:Int).toNat 64=c by omega,Bool.eq_iff_iff,decide_eq_true_eq,decide_eq_true_eq];have h:0<2^c:=Nat.pow_pos e3;constructor
 ·intro ae;apply Decidable.byContradiction;intro aD;rw[Nat.div_eq_of_lt ad] at ae;simp at ae
 ·intro ae;have:=Nat.div_pos ae h;omega
theorem acG(h:2^c<=k)(ao:k<2^60):c<60:=by
 apply Decidable.byContradiction;intro ae;have:=Nat.pow_le_pow_right (n:=2) e3 (show 60<=c by omega);omega
theorem acH{J Jx:List Nat->List aj->Prop}{H1 Hx H':List aj}{y:aa}(bF:J (gB k c) H1)(ab:k.testBit c=true->∃b db,y= .b b/\H'=db++Hx/\(b=true->J (gB k c++[c]) db)/\(b=false->Jx (gB k c++[c]) db))(ae:k.testBit c=false->y= .b false/\H'=H1++Hx):
  ∃b db,y= .b b/\H'=db++Hx/\((bif k.testBit c then !b else false)=false->J (gB k (c+1)) db)/\((bif k.testBit c then !b else false)=true->Jx (gB k (c+1)) db):=by
 rw[wP];cases h:k.testBit c with
 | true=>
  obtain⟨b,db,rfl,rfl,a6,aW⟩:=ab h;exact⟨b,db,rfl,rfl,λh=>a6 h3,λh=>aW h3⟩
 | false=>
  obtain⟨rfl,rfl⟩:=ae h;exact⟨false,H1,rfl,rfl,λ_=>by simpa using bF,λh=>by simp at h⟩
theorem acI{B k:Nat}(ao:k<2^60){g:Fn}{gs gc:List aa}{J Jx:List Nat->List aj->Prop}(al:pW B Tryz.prog (.fn g gs gc) (λc:Nat=>.i c) (hV k) (λ_=>True) J Jx)(H Hx:List aj)(bF:J [] H):
  dC B Tryz.prog 76 [.fn g gs gc,.ptr [.i k]] (H++Hx) (λ_ H'=>∃H1,H'=H1++Hx/\(J (hV k) H1\/∃pre,pre<+:hV k/\Jx pre H1)) (λ_ _=>False):=by
 refine dC.of (n:=19) Tryz.func76 rfl aM rfl rfl (λI aO=>?_);refine aT ?_;refine cq (λm st=>∃(c:Nat) (H1:List aj),st=⟨[(3,.i c),(0,.fn g gs gc),(1,.ptr [.i k])],H1++Hx⟩/\m=61 - c/\c<=60/\J (gB k c) H1) (⟨0,H,rfl,rfl,ad,bF⟩) ?_;rintro m _ ⟨c,H1,rfl,rfl,ak,fp⟩;refine bz ?_;refine aG (af.shift rfl rfl rfl rfl rfl ad (Jt k c)) ?_;refine bg ?_;rw[acF ad];refine aZ (λai=>?_) λai=>?_
 ·have jx:c<60:=acG ai ao;refine bs ?_;refine aG (af.call .k (JB k c ad)) ?_;refine bg ?_;refine au.Nj rfl rfl rfl rfl rfl rfl rfl rfl (λh=>h) rfl (λh=>by simp_all [strip]) (.cons (aL.refl _) .nil) (λh=>al (gB k c) c H1 Hx (by have:=RO k (n:=c+1) ad;rwa [wP,if_pos h3] at this) trivial fp) ?_;intro y H' wV wW;obtain⟨hU,db,rfl,rfl,a6,aW⟩:=acH fp (λh=>wV h3) (λh=>wW h3);refine bI ?_;refine aq.cond rfl (λab=>?_) (λab=>?_)
  ·refine bz ?_;refine fR [] (db++Hx) ?_;exact⟨db,rfl,.inr ⟨_,RO k ad,aW ab⟩⟩
  ·have ab:(bif k.testBit c then !hU else false)=false:=by simpa using ab
   refine bs ?_;exact bV (⟨c+1,db,rfl,rfl,ad,a6 ab⟩)
 ·refine bI ?_;refine jj [] (H1++Hx) ?_;exact⟨H1,rfl,.inl (by rw[<-Ju (n:=c) ad ad];exact fp)⟩
theorem wX(B:Nat){k:Nat}(ao:k<2^60):zQ B Tryz.prog (.fn (.func 76) [] [.ptr [.i k]]) (λc:Nat=>.i c) (hV k):=
 λJ Jx g gs gc al H Hx bF=>e4.sG (acI ao al H Hx bF)
end Go.Proofs.YtodccgailpkgeaaGreat

