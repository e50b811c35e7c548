/- A part of the proof. No condition. -/
import Derived.Test.YtodccgailpkgeaaGreatKindInfersP13
import Derived.Tactics
import Derived.Tactics2
import Derived.Laws.Pointers
import Derived.TacticsInMore
import Derived.RegionIn
import Derived.RecoverIn
set_option linter.defProp false
set_option maxHeartbeats 1000000
set_option linter.unusedVariables false
set_option linter.unusedSimpArgs false
set_option maxRecDepth 10000
namespace Go.Proofs.YtodccgailpkgeaaGreat
open Go.Proofs.Tryz
open Go.Eng
open Go.Eng.Fc
open Go.Eng.dN
variable{p:Prog}{B tb:Nat}{c5:cp}{bW w:World}{env:List (Nat×ab)}{x:Bool}{H:aA}{a:Act}{eu E:ab->aA->Prop}
def aaP:∀{f:Fact},nn f=true->aG prog 134 [ab.fact f] (.i (np f)):=λ{f}=>by
 refine Fact.l5 (P:=λf=>nn f=true->aG prog 134 [ab.fact f] (.i (np f))) (λf g a=>YA f a λk c=>g k c ((CQ a).2.2 k c)) f
def aaQ(W:Fc.bt)(f):aG prog 133 [ab.world W,ab.fact f] (.i (if cx W && lA W f then 0 else 2)):=by
 cases h:cx W with
 | true=>simpa using Zm h f
 | false=>simpa using Zn h f
def aaR(W:p.Small)(g:Nat)(H):bO prog 124 [.ptr (cM p),.p g 0] (.au g 23 [(.val aL)]::H) (λ_ H'=>∃l o,bw p=some o/\H'=ib g l p.nodes.length o++H) (λy H'=>y=tD/\bw p=none/\∃v,H'= .au g 23 [.val v]::H):=by
 refine aM func124 λB I X=>?_;refine aF ?_;refine aj.s9 rfl rfl .k (aay W _).b ?_ ?_
 ·rintro y C ⟨r,rfl⟩;obtain⟨S,R⟩:=CZ r;refine zq ?_;rcases pU (pW p) with B | B
  ·refine aj.l1 rfl rfl (.mk' rfl rfl rfl rfl rfl) (l7 (by simp only[Bool.cond_false_right];exact B) _) eT ?_;intro a w s;exact kC (P:=prog) (fn:=Tryz.f124) eT h8 ⟨rfl,N6 B,_,rfl⟩ a w s
  ·refine aj.mB rfl rfl rfl (.mk' rfl rfl rfl rfl rfl) (mL (by simp only[Bool.cond_false_right];exact B) _) ?_;have N:=B;simp only[pW,Bool.and_eq_true,decide_eq_true_eq] at N;refine bR ?_;refine bo (λm O=>∃i:Nat,O=⟨[(36,.i i),(35,.i p.cT.length),(34,ab.ints p.cT),(0,.ptr (cM p)),(1,.p g 0)],.au g 23 [(.val aL)]::H⟩/\m=p.cT.length - i/\i<=p.cT.length/\(p.cT.take i).all mJ=true) iA ?_;rintro m _ ⟨i,rfl,rfl,V,q⟩;refine ax ?_;refine az (λaf=>?_) λaf=>?_
   ·have f:i<p.cT.length:=by omega
    refine jI ?_;rcases pU (mJ (p.cT.getD i default)) with ae | ae
    ·refine aj.l1 rfl rfl (.mk' rfl rfl rfl rfl rfl) (l7 Bs _) eT ?_;intro a w s;exact kC (P:=prog) (fn:=Tryz.f124) eT h8 ⟨rfl,N7 (XV f ae),_,rfl⟩ a w s
    ·refine aj.mB rfl rfl rfl (.mk' rfl rfl rfl rfl rfl) (mL Bs _) ?_;refine aP ?_;exact aW (⟨i+1,rfl,rfl,f,by rw[<-c2 f,List.all_append,q,List.all_cons,ae];rfl⟩)
   ·obtain rfl:i=p.cT.length:=by omega
    rw[List.take_length] at q;refine aP ?_;refine aj.cn (x:=.ai 1 [[.i (-1)]]) rfl rfl rfl h7 ?_;refine aF ?_;refine cE .k (ZD p.nodes.length aa _).b ?_
    ·rintro _ _ ⟨l,rfl,rfl⟩;refine aY ?_;refine aB.perm (H':=.au g 23 [(.val (.slice (some ⟨l,0,none⟩) p.nodes.length p.nodes.length))]::.au l 3 (List.replicate p.nodes.length (.i (-1)))::H) (.swap _ _ _) ?_;refine aB.kX (H':=ib g l p.nodes.length (iT p)++H) (by rw[<-XU];rfl) ?_;refine aI ?_;refine ag (ad.call .k (OO p aa R)) ?_;refine bK (λdc=>?_);refine aT ?_;refine eA 5 ?_;refine aI ?_;refine bo (λm O=>∃(i:Nat) (o:ak),O=⟨[(59,.i i),(58,.i p.methods.length),(57,.ai 9 (p.methods.map eR)),(5,.ptr (cD (bS p))),(4,(.fn (.func 128) [] [.ptr (cM p),.p g 0])),(0,.ptr (cM p)),(1,.p g 0)],ib g l p.nodes.length o++H⟩/\m=p.methods.length - i/\i<=p.methods.length/\gZ p p.methods (iT p)=gZ p (p.methods.drop i) o/\o.length=p.nodes.length) (⟨0,iT p,rfl,rfl,aa,rfl,by simp[iT]⟩) ?_;rintro m _ ⟨i,o,rfl,rfl,V,c,t⟩;refine ax ?_;refine az (λae=>?_) λae=>?_
     ·have f:i<p.methods.length:=by omega
      obtain⟨M,D⟩:∃M,M=(p.methods.getD i default):=⟨_,rfl⟩;refine aI ?_;refine bK (λb1=>?_);refine aY ?_;rw[<-D];refine eA 7 ?_;refine nk ?_;rcases pU (qX p M) with ae | ae
      ·refine aj.l1 rfl rfl (.mk' rfl rfl rfl rfl rfl) (l7 Bs _) eT ?_;intro a w s;exact kC (P:=prog) (fn:=Tryz.f124) eT xb ⟨rfl,zP (by rw[c];exact G9 f D (by rw[ae];rfl)),_,rfl⟩ a w s
      ·refine aj.mB rfl rfl rfl (.mk' rfl rfl rfl rfl rfl) (mL Bs _) ?_;have L:=ae;simp only[qX,Bool.and_eq_true,decide_eq_true_eq] at L;have Q:M.gen.toNat<p.cT.length:=by omega
       have U:=qZ q (bI Q);refine aF ?_;refine bP 3 130 ?_;refine aT ?_;refine ag (ad.call .k (aaQ (bS p) M.fact)) ?_;refine bY ?_;refine b0.dG 6 15 130 rfl aq rfl rfl aq ?_;refine aO ?_;refine eO.db rfl rfl rfl rfl rfl (λaw=>ad.call (.mk' rfl rfl rfl rfl c9) (aaP (N4 (w:=bS p) (by have:=XW aw;rw[Bool.and_eq_true] at this;exact this.2)))) ?_;refine aY ?_;refine jJ (λaw=>KC) ?_;refine aT ?_;rcases pU (qY p M) with K | K
       ·refine aj.l1 rfl rfl (.mk' rfl rfl rfl rfl rfl) (l7 (by rw[Bool.cond_false_right,Ha];exact K) _) eT ?_;intro a w s;exact kC (P:=prog) (fn:=Tryz.f124) eT xb ⟨rfl,zP (by rw[c];exact G9 f D (by rw[K,Bool.and_false])),_,rfl⟩ a w s
       ·refine aj.mB rfl rfl rfl (.mk' rfl rfl rfl rfl rfl) (mL (by rw[Bool.cond_false_right,Ha];exact K) _) ?_;refine aO ?_;refine bP 17 130 ?_;refine aP ?_;refine bg (lL) ?_;refine bE ?_;have J:(bif (M.kind==1) then true else (M.kind==4))=k4 M:=by unfold k4;rw[Bool.cond_true_left]
        refine aj.s9 rfl rfl .k (Pe rfl M.node (p.cT.getD M.gen.toNat default) _ aa o t aa g l H).b ?_ ?_
        ·rintro y C ⟨j,rfl⟩;rw[J] at j ⊢;have h:=Od (p:=p) (next:=k4 M) (x:=mr p M) rfl j;refine aP ?_;exact aW (⟨i+1,hD (visit p (k4 M) 13 (mr p M) o).1 o,rfl,rfl,f,by rw[c,Oc f D (by rw[ae,K];rfl) h],by rw[xk,t]⟩)
        ·rintro y C ⟨rfl,j,T,rfl⟩ a w s I v A;rw[eT.is _ _ _ A];rw[J] at j;exact kC (P:=prog) (fn:=Tryz.f124) eT xb ⟨rfl,zP (by rw[c];exact Ob f D (Option.isNone_iff_eq_none.1 j)),_,rfl⟩ a w s
     ·obtain rfl:i=p.methods.length:=by omega
      rw[List.drop_length] at c;replace c:gZ p p.methods (iT p)=some o:=c;refine bY ?_;refine aj.s9 rfl rfl .k (Pe rfl p.main 0 false aa o t aa g l H).b ?_ ?_
      ·rintro y C ⟨j,rfl⟩;have h:=Od (p:=p) (next:=false) (x:=⟨p.main,0,1⟩) rfl j;obtain⟨z,E⟩:∃z,z=hD (visit p false 13 ⟨p.main,0,1⟩ o).1 o:=⟨_,rfl⟩;rw[<-E] at h ⊢;have F:z.length=p.nodes.length:=by rw[E,xk,t]
       refine aY ?_;refine ag (ad.qF .k (fp.outs (pre:=[]) uX F aa) (zU z (-1))) ?_;refine aR ?_;rcases pU (z.contains (-1)) with G | G
       ·refine aj.mB rfl rfl rfl (.mk' rfl rfl rfl rfl rfl) (mL (by rw[G];rfl) _) ?_;refine aR ?_;refine gM [] (ib g l p.nodes.length z++H) ?_;exact⟨l,z,Oa r B q c h G,rfl⟩
       ·refine aj.l1 rfl rfl (.mk' rfl rfl rfl rfl rfl) (l7 (by rw[G];rfl) _) eT ?_;intro a w s;exact kC (P:=prog) (fn:=Tryz.f124) eT xb ⟨rfl,N9 c h G,_,rfl⟩ a w s
      ·rintro y C ⟨rfl,j,T,rfl⟩ a w s I v A;rw[eT.is _ _ _ A];exact kC (P:=prog) (fn:=Tryz.f124) eT xb ⟨rfl,N8 c (Option.isNone_iff_eq_none.1 j),_,rfl⟩ a w s
 ·rintro y C ⟨rfl,r,rfl⟩ a w s I v j;rw[eT.is _ _ _ j];exact kC (P:=prog) (fn:=Tryz.f124) eT h8 ⟨rfl,N5 r,_,rfl⟩ a w s
def aaS(w):(Instr.typeAssert vh 20 207 true).run prog w= .ok (.tuple #[.agg #[],.bool true]) w:=by
 simp[Instr.typeAssert,run_underlying (show prog.underlying 207=some (.struct #[]) by kernel_rfl)]
def aaT(b)(x)(w)(m:w.cell? ⟨b,0,none⟩=some (.bool x))(j:w.frozen? ⟨b,0,none⟩=false)(g:b<w.heap.size):
  CallsDIn (Eng.bt none) 0 prog 165 #[.pointer (some ⟨b,0,none⟩)] (.panicking [{v:=vh,recovered:=false}]) w λe h l=>
   e= .returned (.tuple #[])/\h= .panicking [{v:=vh,recovered:=true}]/\l=(w.alloc (.cells #[] 207)).setCell ⟨b,0,none⟩ (.bool false):=by
 have c:(w.alloc (.cells #[] 207)).cell? ⟨b,0,none⟩=some (.bool x):=by rw[World.cell?_alloc_lt w _ ⟨b,0,none⟩ g];exact m
 have f:(w.alloc (.cells #[] 207)).frozen? ⟨b,0,none⟩=false:=by rw[World.frozen?_of_block (Go.RowKit.Below.heap_alloc w _ b g)];exact j
 refine callsDIn_of_wpSIn func165 rfl trivial λAb q o=>?_;apply wpSIn_seq;apply wpSIn_region;have a:=λw=>aaS w;simp[wpOpsSIn,go_sem,recoverD,o,Tryz.ntmps165,Exit.thenS,Eng.bt,a];apply wpSIn_seq;apply wpSIn_region;simp[wpOpsSIn,go_sem,Exit.thenS];refine wpSIn_cond (t:=true) yg ?_;simp[if_true];apply wpSIn_seq;apply wpSIn_seq;apply wpSIn_region;simp[wpOpsSIn,go_sem,Exit.thenS,a];apply wpSIn_seq;apply wpSIn_region;simp[wpOpsSIn,go_sem,Exit.thenS];refine wpSIn_cond (t:=false) yg ?_;simp[Bool.false_eq_true,if_false];refine wpSIn_of_wpIn rfl (wpIn_skip ?_);simp[Exit.thenS];apply wpSIn_region;simp[wpOpsSIn,go_sem,c,f,bodyPostS,results,Tryz.results165]
def aaU(b)(w):
  CallsDIn (Eng.bt none) 0 prog 165 #[.pointer (some ⟨b,0,none⟩)] .returning w λe c f=>e= .returned (.tuple #[])/\c= .returning/\f=w:=by
 refine callsDIn_of_wpSIn func165 rfl trivial λAb h g=>?_;apply wpSIn_seq;apply wpSIn_region;simp[wpOpsSIn,go_sem,recoverD,g,Tryz.ntmps165,Exit.thenS,Eng.bt];apply wpSIn_seq;apply wpSIn_region;simp[wpOpsSIn,go_sem,Exit.thenS];refine wpSIn_cond (t:=false) yg ?_;simp[Bool.false_eq_true,if_false];refine wpSIn_of_wpIn rfl (wpIn_skip ?_);cases Ab;simp_all [bodyPostS,results,Tryz.results165]
def PU(tb:Nat):Deferred:={target:=.fn (.func 165) #[.pointer (some ⟨tb,0,none⟩)],args:=#[]}
def PV(f:eu (.b x) H)(h:∃I,bV B I w/\Ext B c5 bW I w/\a7 B I w (.au tb 4 [.b x]::H)/\fM I w (aD env) a)(ht:aD env 2=some (.p tb 0)):
  LeavesIn (Eng.bt none) 0 prog Tryz.f123 a.tmps (e4 B c5 bW eu E) [] .returning w:=by
 obtain⟨I,j,q,g,l⟩:=h;obtain⟨v,o,m⟩:=iq.res (P:=prog) (c:=⟨B,c5,bW,0,[]⟩) (st:=⟨env,.au tb 4 [.b x]::H⟩) g l (fn:=Tryz.f123) (rs:=[.cell 2 4]) rfl (.A8 inferInstance ht dv rfl .nil);exact⟨v,o,I,H,j,q,g.tail,.inl ⟨v,_,rfl,m,f⟩⟩
def PW(tb)(w):(invoke (.fn (.func 165) #[.pointer (some ⟨tb,0,none⟩)]) #[]).run prog w= .ok (.enter 165 #[.pointer (some ⟨tb,0,none⟩)]) w:=by
 have:m4 prog 165=true:=by kernel_rfl
 have h:=wB this #[.pointer (some ⟨tb,0,none⟩)] w;simp[invoke]
def aaV{n}(c:eu (.b x) H)(s:Sat ⟨B,c5,bW,n,[PU tb]⟩ ⟨env,.au tb 4 [.b x]::H⟩ a w)(ht:aD env 2=some (.p tb 0)):
  bodyPostDIn (Eng.bt none) 0 prog Tryz.f123 (e4 B c5 bW eu E) .ret a w:=by
 show LeavesIn _ _ _ _ _ _ a.defers .returning w;rw[s.ds];refine leavesIn_cons (f:=165) (args:=#[.pointer (some ⟨tb,0,none⟩)]) aS (by simp[Eng.bt]) (PW tb w) (λ_ _=>trivial) ?_;refine (aaU tb w).mono ?_;rintro e g h ⟨rfl,rfl,rfl⟩;exact PV c s.mem ht
def aaW{n:Nat}(F:eu (.b false) H)(s:Sat ⟨B,c5,bW,n,[PU tb]⟩ ⟨env,.au tb 4 [.b x]::H⟩ a w)(ht:aD env 2=some (.p tb 0)):
  bodyPostDIn (Eng.bt none) 0 prog Tryz.f123 (e4 B c5 bW eu E) (.panic [{v:=vh,recovered:=false}]) a w:=by
 show LeavesIn _ _ _ _ _ _ a.defers (.panicking [{v:=vh,recovered:=false}]) w;rw[s.ds];obtain⟨I,z,R,M,P⟩:=s.mem;obtain⟨N,vs,r,O,o⟩:=M.ok _ (.head _);have L:vs= #[.bool x]:=by
  have Q:=oT (vs:=[.bool x]) O;exact Array.toList_inj.1 Q
 subst L;have m:tb<w.heap.size:=(Array.getElem?_eq_some_iff.1 r).1;refine leavesIn_cons (f:=165) (args:=#[.pointer (some ⟨tb,0,none⟩)]) aS (by simp[Eng.bt]) (PW tb w) (λ_ _=>trivial) ?_;refine (aaT tb x w (by rw[jC r];rfl) (by simp[World.frozen?,r]) m).mono ?_;rintro e S T ⟨rfl,rfl,rfl⟩;have q:=z.alloc (.cells #[] 207);have C:=M.alloc z (.cells #[] 207);have K:(w.alloc (.cells #[] 207)).heap[tb]? =some (.cells #[.bool x] 4 (0,0)):=by rw[Go.RowKit.Below.heap_alloc w _ tb m];exact r
 have A:=lP z (.cells #[] 207);have D:=R.trans (jB z (.cells #[] 207));have J:=P.bs A;generalize w.alloc (.cells #[] 207)=gd at*;have l:(gd.setCell ⟨tb,0,none⟩ (.bool false)).heap[tb]? =some (.cells #[.bool false] 4 (0,0)):=one_setCell K;have c:∀b i,I b i->(gd.setCell ⟨tb,0,none⟩ (.bool false)).cell? ⟨b,i,none⟩=gd.cell? ⟨b,i,none⟩:=λb i t=>
  World.cell?_of_block (a:=⟨b,i,none⟩) (Go.RowKit.Below.heap_setCell _ _ _ _ (λe=>o i (by rw[<-(show b=tb from e)];exact t)))
 have j:er I gd I (gd.setCell ⟨tb,0,none⟩ (.bool false)):=⟨λ_ _ h=>h,c⟩;have g:=(Go.RowKit.Below.refl B gd).setCell (p:=⟨tb,0,none⟩) N (.bool false);exact PV (x:=false) (env:=env) F ⟨I,⟨Nat.le_trans q.base g.size,λb i t=>by rw[c b i t];exact q.there b i t⟩,D.trans ⟨λ_ _ h=>h,c,g⟩,
  C.fE (.head _ _ _) j (λb _ G=>Go.RowKit.Below.heap_setCell _ _ _ _ (λe=>G (by rw[show b=tb from e];rfl))) (λ_ _ h=>.inl h) ⟨N,#[.bool false],l,.cons _ _ _ _ (.val _) .nil,o⟩ (λ_ h=>.inl h),J.bs j⟩ ht
def aaX{g}{m o:bl}{A Bp:aA->Prop}(l:∀B f,eY B prog (.fn g m o) [] (H++f) (λ_ c=>∃j,c=j++f/\A j) (λy c=>y=tD/\∃h,c=h++f/\Bp h)):
  bO prog 123 [.fn g m o] H (λx c=>(x= .b true/\A c)\/(x= .b false/\Bp c)) (λ_ _=>False):=by
 refine bO.L1 (n:=6) func123 rfl ay rfl rfl (λB I C=>?_);refine aO ?_;refine bK (λtb=>?_);refine aT ?_;refine aj.L4 (vs:=[.pointer (some ⟨tb,0,none⟩)]) rfl rfl rfl rfl rfl rfl ?_;refine aF ?_;refine aB.perm (List.perm_append_singleton _ _).symm ?_;refine aO ?_;refine aj.Fs rfl rfl rfl rfl rfl rfl rfl (c0.refl _) (l B [.au tb 4 [.b false]]) ?_ ?_
 ·rintro y _ ⟨j,rfl,t⟩;refine aF ?_;refine aB.perm (List.perm_append_singleton _ _) ?_;refine aT ?_;intro a w s;exact aaV (.inl ⟨rfl,t⟩) s rfl
 ·rintro y D ⟨rfl,h,rfl,q⟩ a w s I v r;rw[eT.is _ _ _ r];exact aaW (.inr ⟨rfl,q⟩) (s.perm (List.perm_append_singleton _ _)) rfl
def aaY(q:p.Small)(H):bO prog 87 [ab.prog p] H (λy H'=>H'=H/\((∃o,bw p=some o/\y= .bk [.ints o,.b true])\/(bw p=none/\∃v,y= .bk [.val v,.b false]))) (λ_ _=>False):=by
 refine aM func87 λB I s=>?_;refine ba ?_;refine bK (λdF=>?_);refine aT ?_;refine cE .k (aaX (H:=.au dF 23 [.val aL]::H) (A:=λH1=>∃a o,bw p=some o/\H1=ib dF a p.nodes.length o++H) (Bp:=λjD=>bw p=none/\∃v,jD= .au dF 23 [.val v]::H)
  (λB l=>eY.fn ((aaR q dF (H++l)).imp (λy H'=>?_) λy H'=>?_))).b ?_
 ·rintro⟨a,o,h,rfl⟩;exact⟨ib dF a p.nodes.length o++H,by rw[List.append_assoc],a,o,h,rfl⟩
 ·rintro⟨rfl,h,v,rfl⟩;exact⟨rfl,.au dF 23 [.val v]::H,rfl,h,v,rfl⟩
 rintro y H1 (⟨rfl,a,o,g,rfl⟩ | ⟨rfl,g,v,rfl⟩)
 ·have f:=sb g;refine ax ?_
  first | (refine .kX (H':=.au dF 23 [(.val (.slice (some ⟨a,0,none⟩) p.nodes.length p.nodes.length))]::.au a 3 ((o.map λn=>[.i n]).flatten++[])::H) (by rw[<-Og];rfl) ?_;refine .oM (k:=1) (d:=8) rfl (.tail _ _ _ _ (.head _ _)) (by rw[List.length_map];exact f.1) (λe j=>by obtain⟨y,_,rfl⟩:=List.mem_map.1 j;rfl) fs h5 ?_) | skip
  refine ax ?_;refine dL [.tmp 2,.tmp 3] H ?_;exact⟨rfl,.inl ⟨o,g,rfl⟩⟩
 ·refine ax ?_
  first | (refine .kX (H':=.au dF 23 [(.val (.slice (some ⟨a,0,none⟩) p.nodes.length p.nodes.length))]::.au a 3 ((o.map λn=>[.i n]).flatten++[])::H) (by rw[<-Og];rfl) ?_;refine .oM (k:=1) (d:=8) rfl (.tail _ _ _ _ (.head _ _)) (by rw[List.length_map];exact f.1) (λe j=>by obtain⟨y,_,rfl⟩:=List.mem_map.1 j;rfl) fs h5 ?_) | skip
  refine ax ?_;refine dL [.tmp 2,.tmp 3] H ?_;exact⟨rfl,.inr ⟨g,v,rfl⟩⟩
def Dg(g:p.Small):aG prog 41 [ab.prog p] (.i (if(bw p).isSome then 0 else 2)):=by
 intro H;refine aM func41 λB I j=>?_;refine bY ?_;refine cE .k (aaY g H).b ?_;rintro y h ⟨e,⟨o,a,rfl⟩ | ⟨a,v,rfl⟩⟩
 ·replace e:=e.symm;subst e;refine dk ?_;refine bc (λaf=>?_) λaf=>?_
  ·simp at af
  ·replace af:=dC af;refine aI ?_;refine aC 2 H ?_;exact⟨by rw[a];rfl,rfl⟩
 ·replace e:=e.symm;subst e;refine dk ?_;refine bc (λae=>?_) λae=>?_
  ·replace ae:=dC ae;refine aP ?_;refine aC 2 H ?_;exact⟨by rw[a];rfl,rfl⟩
  ·simp at ae
def HT(a:p.Small)(c):aG prog 138 [ab.prog p,.i c] (.b (eH p c)):=by
 intro H;refine aM func138 λB I g=>?_;have f:=a.aE;refine jj ?_;refine aj.db rfl rfl rfl rfl rfl rfl (λaw=>.call (.mk' rfl rfl rfl rfl c9) ((Dg a))) ?_;refine ax ?_;refine aC 4 H ?_;exact⟨bq (by unfold eH;rw[Bool.cond_false_right,Bool.cond_false_right,Ha]),rfl⟩
def hasB(o:p.Small)(c):aG prog 90 [ab.prog p,.i c] (.bk [.ints (if eH p c then cu p c else []),.i (if eH p c then 0 else 2)]):=by
 intro H;refine aM func90 λB I q=>?_;refine bR ?_;refine ag (.call .k ((HT o _))) ?_;refine aF ?_;refine az (λaf=>?_) λaf=>?_
 ·refine aI ?_;refine .cg (rs:=[.tmp 4,.tmp 5]) (H':=H) rfl qV GD bC ?_;exact⟨by rw[show eH p c=false by simpa using af];rfl,rfl⟩
 ·refine aF ?_;have g:eH p c=true:=by simpa using af
  obtain⟨m,a⟩:=ve g;obtain⟨j,f⟩:=CZ a
  ·refine aF ?_;refine ag (.call .k (HK p aa (λc h=>(f c h).2) (Oh a) (k:=c) ey aa)) ?_;refine aT ?_;refine dL [.tmp 4,.tmp 5] H ?_;exact⟨by rw[g];rfl,rfl⟩
end Go.Proofs.YtodccgailpkgeaaGreat

namespace Go.Eng.dN
open Go.Eng.Fc
variable{p:Prog}{c:Int}
def kR(p:Prog)(c:Int):List (Int×Int):=(dE (b9 p) c).reverse.flatMap λk=>if k>=3 then (p.aE.getD (k - 3).toNat default).inits else []
def e1(L:List (Int×Int))(s:Int):Option Int:=(L.reverse.find? λx=>x.1==s).map (·.2)
def aaZ(L)(x)(s):e1 (L++[x]) s=if x.1=s then some x.2 else e1 L s:=by
 unfold e1;rw[List.reverse_append,List.reverse_singleton,List.singleton_append,List.find?_cons];by_cases h:x.1=s
 ·simp[h]
 ·rw[if_neg h,show (x.1==s)=false by simpa using h]
def nv(p:Prog)(c:Int):List (Int×Int):=(cu p c).filterMap λs=>(e1 (kR p c) s).map λn=>(s,n)
structure sk(l:List (Int×ab))(L:List (Int×Int)):Prop where
 ok:lx l
 get:∀s,hz l s=(e1 L s).map ab.i
def sk.nil:sk [] []:=⟨lx.nil,λs=>rfl⟩
def sk.put{l}{L}(h:sk l L){x}(a:fV x.1):sk (eP l x.1 (.i x.2)) (L++[x]):=by
 refine⟨h.ok.put a _,λs=>?_⟩;rw[zm,aaZ,h.get];by_cases e:x.1=s
 ·rw[if_pos e.symm,if_pos e];rfl
 ·rw[if_neg (λh=>e h.symm),if_neg e]
def Dh(A B)(s):e1 (A++B) s=(e1 B s).or (e1 A s):=by
 unfold e1;rw[List.reverse_append,List.find?_append];cases B.reverse.find? λx=>x.1==s <;> rfl
def HU{L}{s}(h:∀x∈L,x.1≠s):e1 L s=none:=by
 unfold e1;rw[List.find?_eq_none.2 (λx a=>by simpa using h x (List.mem_reverse.1 a))];rfl
def aa0(L)(s):e1 (L.filter λx=>x.1==s) s=e1 L s:=by
 induction L with
 | nil=>rfl
 | cons x r a=>
  rw[show x::r= [x]++r from rfl,List.filter_append,Dh,Dh,a];by_cases h:x.1=s
  ·simp[h]
  ·rw[show [x].filter (λx=>x.1==s)= [] by simp[h],HU (L:=[x]) gQ,HU (L:=[]) aS]
def kJ(p:Prog)(k:Int):List (Int×Int):=if k>=3 then (p.aE.getD (k - 3).toNat default).inits else []
def h2(p:Prog)(s:Int):ak->List (Int×Int)
 | []=>[]
 | k::r=>let m:=(kJ p k).filter λx=>x.1==s;if m.isEmpty then h2 p s r else m
def mN(p:Prog)(c:Int):List (Int×Int):=(cu p c).flatMap λs=>h2 p s (dE (b9 p) c)
theorem PX{p}{s}:∀(l:ak),∀x∈h2 p s l,x.1=s
 | [],x,h=>by cases h
 | k::r,x,h=>by
  simp[h2] at h;split at h
  ·exact PX r x h
  ·simpa using (List.mem_filter.1 h).2
theorem PY(p)(s):∀l:ak,e1 (h2 p s l) s=e1 (l.reverse.flatMap (kJ p)) s
 | []=>rfl
 | k::r=>by
  rw[List.reverse_cons,List.flatMap_append,Dh,show [k].flatMap (kJ p)=kJ p k by simp, <-PY p s r, <-aa0 (kJ p k)];simp[h2];split
  ·rename_i h;rw[List.isEmpty_iff.1 h];rfl
  ·rename_i h;cases hm:e1 ((kJ p k).filter λx=>x.1==s) s with
   | some y=>rfl
   | none=>
    exfalso;apply h;rw[List.isEmpty_iff];cases e5:(kJ p k).filter λx=>x.1==s with
    | nil=>rfl
    | cons y t=>
     exfalso;have a:∀x∈y::t,x.1=s:=λx c=>by
      rw[<-e5] at c;simpa using (List.mem_filter.1 c).2
     rw[e5] at hm;unfold e1 at hm;rw[Option.map_eq_none_iff,List.find?_eq_none] at hm;exact hm y aS (by simpa using a y dv)
theorem PZ(p)(s)(o):∀l:ak,e1 (l.flatMap λt=>h2 p t o) s=if s∈l then e1 (h2 p s o) s else none
 | []=>rfl
 | t::r=>by
  rw[List.flatMap_cons,Dh,PZ p s o r];by_cases h:s=t
  ·subst h;by_cases a:s∈r
   ·rw[if_pos a,if_pos dv];cases e1 (h2 p s o) s <;> rfl
   ·rw[if_neg a,if_pos dv];rfl
  ·rw[HU (L:=h2 p t o) λx c e=>h (by rw[<-e,PX o x c])];by_cases a:s∈r
   ·rw[if_pos a,if_pos (.tail _ a)];cases e1 (h2 p s o) s <;> rfl
   ·rw[if_neg a,if_neg (by rw[List.mem_cons];rintro (e | e);exact h e;exact a e)];rfl
def aa1{c s}(h:s∈cu p c):e1 (mN p c) s=e1 (kR p c) s:=by
 unfold mN;rw[PZ,if_pos h,PY];rfl
theorem HV{p}(h:∀c∈p.aE,c.av.length<=1000):∀(n:Nat) (S a:ak),(jK p n S a).length<=a.length+1000*n
 | 0,S,a=>by rw[jK];omega
 | n+1,S,a=>by
  rw[jK];split
  ·have g:=HV h n (S++(p.aE.getD n default).parents) (a++(p.aE.getD n default).av);rw[List.length_append] at g;have:(p.aE.getD n default).av.length<=1000:=by
    by_cases f:n<p.aE.length
    ·exact h _ (bI f)
    ·rw[List.getD_eq_getElem?_getD,List.getElem?_eq_none aa];exact Nat.zero_le _
   omega
  ·have:=HV h n S a;omega
def P0{k}(a:3<=k):kJ p k=(p.aE.getD (k - 3).toNat default).inits:=by rw[kJ,if_pos a]
theorem HW(a):∀(l:List (Int×Int)) (c:ak),kG a l c=true->∀x∈l,x.1∈a
 | y::r,c,h,x,f=>by
  simp only[kG,Bool.and_eq_true] at h;rcases List.mem_cons.1 f with rfl | f
  ·exact List.contains_iff_mem.1 h.1.1.1
  ·exact HW a r _ h.2 x f
structure aa2(p:Prog)(c:Int):Prop where
 akE:3<=c
 dr:c<3+p.aE.length
 akF:p.aE.length<=10
 ai:∀c∈p.aE,c.parents.length<=4000000/\c.av.length<=1000
 jM:∀c∈p.aE,∀x∈c.parents,fV x
 Hi:fX (b9 p)=true
 ne:dE (b9 p) c≠ []
 len:(dE (b9 p) c).length<=1000
 zF:∀y∈dE (b9 p) c,0<=y/\y<3+p.aE.length
 akG:∀k∈p.aE,∀x∈k.inits,fV x.1
 has:∀s∈cu p c,fV s
 br:(cu p c).length<=20000
def o7(h:eH p c):aa2 p c:=by
 obtain⟨⟨I,E⟩,l⟩:=ve h;obtain⟨r,w⟩:=CZ l;have a:=l;simp only[fP,Bool.and_eq_true,decide_eq_true_eq] at a;obtain⟨⟨⟨D,H⟩,L,B⟩,J⟩:=a;have G:(b9 p).length=p.aE.length:=by simp[b9]
 have N:=u9 _ _ H;have C:∀(k s:Int),s∈cu p k->fV s:=λk s h=>by
  obtain⟨c,F,M⟩:=GZ h;have:=(N c F).2 _ M;unfold fV;omega
 have z:=zI B (3+(b9 p).length) fs;have v:=tu (g:=b9 p) fs;rw[zH] at z v;have t:=List.all_eq_true.1 J;have j:∀i,i<p.aE.length->nr p i=true:=λi o=>t i (List.mem_range.2 o);have f:dE (b9 p) c=(ts (b9 p)).getD c.toNat []:=rfl;have m:=z c.toNat aa;refine⟨I,E,r,w,Oh l,B,?_,?_,?_,?_,C c,?_⟩
 ·have:=j (c - 3).toNat aa;rw[nr,Bool.and_eq_true,show (((c - 3).toNat:Nat):Int)+3=c by omega] at this;intro e;rw[e] at this;simp at this
 ·have:=m.len;rw[f];omega
 ·intro y A;rw[f] at A;have:=m.zF y A;omega
 ·intro k q x K;obtain⟨i,o,rfl⟩:=List.mem_iff_getElem.1 q;have:=j i o;rw[nr,Bool.and_eq_true] at this;have e:p.aE.getD i default=p.aE[i]:=by rw[List.getD_eq_getElem?_getD,List.getElem?_eq_getElem o];rfl
  rw[e] at this;exact C _ _ (HW _ _ _ this.2 x K)
 ·have:=HV (p:=p) (λc h=>(w c h).2) (c - 2).toNat [c] [];unfold cu hS;rw[List.length_mergeSort];simp[List.length_nil] at this;omega
def tJ(p:Prog)(l:ak)(is:dq):List (Int×Int):=is.flatMap λi=>kJ p (l.getD i default)
def aa3(l:ak):(List.range l.length).map (λi=>l.getD i default)=l:=by
 apply List.ext_getElem
 ·simp
 ·intro i ae a;rw[List.getElem_map,List.getElem_range,List.getD_eq_getElem?_getD,List.getElem?_eq_getElem m2];rfl
def aa4(p)(c):tJ p (dE (b9 p) c) (List.range (dE (b9 p) c).length).reverse=kR p c:=by
 unfold tJ kR;show _=(dE (b9 p) c).reverse.flatMap (kJ p);rw[show (dE (b9 p) c).reverse=(List.range (dE (b9 p) c).length).reverse.map (λi=>(dE (b9 p) c).getD i default) by rw[List.map_reverse,aa3],List.flatMap_map]
def aa5(p)(l)(is)(i):tJ p l (is++[i])=tJ p l is++kJ p (l.getD i default):=by
 rw[tJ,List.flatMap_append];simp[tJ]
def aa6{A}{l:List (Int×Int)}{j}(h:j<l.length):A++l.take (j+1)=(A++l.take j)++[l.getD j default]:=by
 rw[List.append_assoc,c2 h]
def aa7{k}(f:k<(cu p c).length)(h:(e1 (kR p c) ((cu p c).getD k default)).isSome):((cu p c).take (k+1)).filterMap (λs=>(e1 (kR p c) s).map λn=>(s,n))=((cu p c).take k).filterMap (λs=>(e1 (kR p c) s).map λn=>(s,n))++[((cu p c).getD k default,(e1 (kR p c) ((cu p c).getD k default)).getD 0)]:=by
 rw[<-c2 f,List.filterMap_append];generalize (cu p c).getD k default=s at*;obtain⟨n,a⟩:=Option.isSome_iff_exists.1 h;simp[a]
def aa8{k}(a:k<(cu p c).length)(h:(e1 (kR p c) ((cu p c).getD k default)).isSome=false):((cu p c).take (k+1)).filterMap (λs=>(e1 (kR p c) s).map λn=>(s,n))=((cu p c).take k).filterMap (λs=>(e1 (kR p c) s).map λn=>(s,n)):=by
 rw[<-c2 a,List.filterMap_append];generalize (cu p c).getD k default=s at*;cases hn:e1 (kR p c) s with
 | none=>simp[hn]
 | some n=>rw[hn] at h;cases h
end Go.Eng.dN

namespace Go.Proofs.YtodccgailpkgeaaGreat
open Go.Proofs.Tryz
open Go.Eng
open Go.Eng.Fc
open Go.Eng.dN
def ee.weaken{f}{c}{r}{P}{st}{Q}{p}{st'}(j:m7 st'.env st.env)(g:st'.H.Sublist st.H)(h:ee f c r P p st' Q):ee f c r P p st Q:=
 λa w s=>h a w (s.weaken (lQ j) g)
def rb(n k:Nat):dq:=((List.range n).drop k).reverse
def aa9(n):rb n n= []:=by rw[rb,List.drop_of_length_le aS];rfl
def P1{n j}(h:j<n):rb n (j+1)++[j]=rb n j:=by
 have e:(List.range n).drop j=j::(List.range n).drop (j+1):=by
  rw[List.drop_eq_getElem_cons gQ];simp
 rw[rb,rb,e,List.reverse_cons]
def aba(n j):rb n j<+:(List.range n).reverse:=by
 refine⟨((List.range n).take j).reverse,?_⟩;rw[rb, <-List.reverse_append,List.take_append_drop]
instance:qT prog 190 (3,3):=⟨ay,ay⟩
instance:uU prog 3 aX:=⟨ay⟩
def P2(l)(x):ab.l6 (l++[x])= .ai 2 (l.map qW++[qW x]):=by
 show ab.ai 2 (List.map _ (_++_))=_;rw[List.map_append];rfl
def abb{m}{L}(h:sk m L)(s):an (.bk [(hz m s).getD (.val aX),.b (hz m s).isSome]) (.bk [.i ((e1 L s).getD 0),.b (e1 L s).isSome]):=by
 rw[h.get];cases e1 L s <;> exact .refl _
def abc{B}{g}{r cs}{l}(D:l.length<=1000000){J}{C}(s:w4 B prog (.fn g r cs) (λi:Nat=>.i i) (λi=>.i (l.getD i default)) (List.range l.length).reverse false J C){t Hx}(w:J [] t):
  eK B prog 180 [.fn g r cs,.ptr [.ints l]] (t++Hx) (λ_ x=>∃a,x=a++Hx/\J (List.range l.length).reverse a) (λ_ _=>False):=by
 refine .of func180 rfl ay rfl rfl λI E=>?_;refine ba ?_;refine bo (λm A=>∃(c:Int) (a:aA),A=⟨[(3,.i c),(0,.fn g r cs),(1,.ptr [.ints l])],a++Hx⟩/\m=(c+1).toNat/\(-1<=c/\c<l.length)/\J (rb l.length (c+1).toNat) a) (⟨(l.length:Int) - 1,t,rfl,rfl,lz,by rw[show ((l.length:Int) - 1+1).toNat=l.length by omega,aa9];exact w⟩) ?_;rintro m _ ⟨c,a,rfl,rfl,F,f⟩;refine aP ?_;refine az (λaf=>?_) λaf=>?_
 ·obtain⟨j,rfl⟩:∃j:Nat,c=j:=⟨c.toNat,aa⟩;have o:j<l.length:=by omega
  rw[show ((j:Int)+1).toNat=j+1 by omega] at f;refine bR ?_;refine .n1 rfl rfl rfl rfl rfl rfl rfl rfl cL ((s (rb l.length (j+1)) j a Hx (by rw[P1 o];exact aba _ _) f).mono (λ_ _ h=>h) (λ_ _ h=>by obtain⟨_,_,_,h,_⟩:=h;cases h)) ?_;rintro y _ ⟨z,rfl,rfl,_,q⟩;rw[P1 o] at q;refine aF ?_;refine bc (λae=>?_) λae=>?_
  ·simp at ae
  ·replace ae:=dC ae;refine aI ?_;exact aW (⟨(j:Int) - 1,z,rfl,rfl,lz,by rw[show ((j:Int) - 1+1).toNat=j by omega];exact q⟩)
 ·obtain rfl:c= -1:=by omega
  refine aY ?_;refine .nU (rs:=[]) rfl (.nil) cL bC ?_;exact⟨a,rfl,f⟩
def backward(l):aG prog 142 [.ints l] (.fn (.func 180) [] [.ptr [.ints l]]):=by
 intro H;refine aM func142 λB I a=>?_;refine dk ?_;refine aC 2 (H) ?_;exact⟨dO,rfl⟩
def abd(B)(l)(j:l.length<=1000000):Gp B prog (.fn (.func 180) [] [.ptr [.ints l]]) (λi:Nat=>.i i) (λi=>.i (l.getD i default)) (List.range l.length).reverse false [] (λ_=>True):=by
 intro J v g s t f c H q o;refine eY.rU ((abc j c o).imp ?_ λ_ _ h=>h.elim);rintro y r ⟨m,rfl,a⟩;exact⟨rfl,m,[],rfl,trivial,a⟩
def abe(els):aG prog 143 [.ai 2 els] (.ai 2 els):=by
 intro H;refine aM func143 λB I a=>?_;refine bR ?_;refine ag (.Gt rfl rfl rfl rfl rfl rfl rfl) ?_;refine aY ?_;refine aC 2 (H) ?_;exact⟨dO,rfl⟩
def abf{p:Prog}(ck:p.Small){c:Int}(bb:eH p c):aG prog 91 [ab.prog p,.i c] (.bk [ab.l6 (nv p c),.i 0]):=by
 intro H;refine bO.Mu func91 rfl ay rfl rfl (λB I bW=>?_);obtain⟨aV,im,hN,J,W,A,S,a3,Z,N,M,gF⟩:=o7 bb;have ac:(b9 p).length=p.aE.length:=by simp[b9]
 refine ee.seq ?_;refine aB.mD ?_;refine aT ?_;refine ee.done ?_;refine ee.seq ?_;refine ee.seq ?_;refine aB.mD ?_;refine aF ?_;refine ag (ad.call .k (HT ck c)) ?_;refine aO ?_;refine ee.done ?_;refine aB.mD ?_;refine bc (λaf=>?_) (λaf=>?_)
 ·simp[bb] at af
 ·replace af:=dC af;refine aR ?_;refine ee.done ?_;refine ee.seq ?_;refine aB.mD ?_;refine aO ?_;refine ag (ad.call .k (graph p aa (λc h=>(J c h).1))) ?_;refine aR ?_;refine ag (ad.call .k (Pg A (c:=c) aa)) ?_;refine ax ?_;refine ee.done ?_;refine ee.seq ?_;refine ee.seq ?_;refine aB.mD ?_;refine aY ?_;refine ee.done ?_;refine aB.mD ?_;refine bc (λae=>?_) (λae=>?_)
  ·simp[S] at ae
  ·replace ae:=dC ae;refine aR ?_;refine ee.done ?_;refine ee.seq ?_;refine aB.mD ?_;refine aR ?_;refine aj.mkMap rfl rfl rfl rfl (λbp=>?_);refine bK (λtb=>?_);refine aO ?_;refine ee.done ?_;refine ee.seq ?_;refine ee.seq ?_;refine aB.mD ?_;refine eA 8 ?_;refine aO ?_;refine ag (ad.call .k (backward (dE (b9 p) c))) ?_;refine aR ?_;refine ee.done ?_;refine ee.block ?_;refine ee.weaken (st':=⟨[(34,.fn (.func 180) [] [.ptr [ab.ints (dE (b9 p) c)]]),(8,.ptr [.val (.map (some bp))]),(2,.ptr (cM p)),(1,.i c)],[dW bp []]++([]++H)⟩) hW bC ?_;refine ee.Mv func91 (λi:Nat=>.i i) (λi=>.i ((dE (b9 p) c).getD i default)) ((List.range (dE (b9 p) c).length).reverse) (false) (λpre H=>∃l,H= [dW bp l]/\sk l (tJ p (dE (b9 p) c) pre)) (λ_ _=>False) ([dW bp []]) ([]) (H) (λ_=>True) (λx=>[(10,.i ((dE (b9 p) c).getD x default)),(8,.ptr [.val (.map (some bp))]),(2,.ptr (cM p))]) rfl rfl rfl rfl rfl (abd B (dE (b9 p) c) aa) (⟨[],rfl,sk.nil⟩) (λ_ _ h=>h.elim) ?_ ?_ ?_ ?_
   ·intro hE nw gd x eE;refine aF ?_;exact λa w s=>⟨_,rfl,s.weaken xc w8⟩
   ·intro hE L fD pre x H1 eE nw gd G T;obtain⟨l,rfl,C⟩:=T;have a2:x<(dE (b9 p) c).length:=by have:=G.subset (show x∈pre++[x] by simp);simpa using this
    obtain⟨k,U⟩:∃k,k=((dE (b9 p) c).getD x default):=⟨_,rfl⟩;have a4:=Z k (U▸bI a2);have g:=aa5 p (dE (b9 p) c) pre x;rw[<-U] at g ⊢;refine aP ?_;refine az (λao=>?_) λao=>?_
    ·have V:(k - 3).toNat<p.aE.length:=by omega
     rw[P0 ao] at g;obtain⟨I,R⟩:∃I,I=(p.aE.getD (k - 3).toNat default).inits:=⟨_,rfl⟩;have a0:∀x∈I,fV x.1:=λx aK=>N _ (bI V) x (R▸aK);rw[<-R] at g;refine ax ?_;refine ag (lL) ?_;refine aP ?_;rw[<-R];refine aB.eG (t:=45) rfl (λakH=>?_);refine bo (λm P=>∃(j:Nat) (D:List (Int×ab)),P=⟨[(47,.i j),(46,.i I.length),(45,ab.l6 I),(8,.ptr [.val (.map (some bp))])],(.loop hE fD (aD [(34,.fn (.func 180) [] [.ptr [ab.ints (dE (b9 p) c)]]),(8,.ptr [.val (.map (some bp))]),(2,.ptr (cM p)),(1,.i c)])::.obj L (.deferred (some []))::([dW bp D]++eE))⟩/\m=I.length - j/\j<=I.length/\sk D (tJ p (dE (b9 p) c) pre++I.take j)) (⟨0,l,rfl,rfl,aa,by simpa using C⟩) ?_;rintro m _ ⟨j,D,rfl,rfl,cm,q⟩;refine ax ?_;refine az (λaV=>?_) λaV=>?_
     ·have z:j<I.length:=by omega
      obtain⟨Y,vq⟩:∃Y,Y=I.getD j default:=⟨_,rfl⟩;have K:fV Y.1:=a0 _ (vq▸bI z);refine aI ?_;refine bK (λhk=>?_);refine aF ?_;rw[<-vq];refine eA 12 ?_;refine ax ?_;refine aj.iu (u':=.i Y.2) rfl rfl (.inl rfl) rfl rfl rfl rfl rfl rfl (an.refl _) (.tail _ _ _ _ _ (.tail _ _ _ _ _ (.head _ _ _))) q.ok K ?_;refine aP ?_;exact aW (⟨j+1,_,rfl,rfl,z,by rw[aa6 z, <-vq];exact q.put K⟩)
     ·obtain rfl:j=I.length:=by omega
      rw[List.take_length, <-g] at q;refine aT ?_;exact aZ.Cr (H:=[dW bp D]) bC (λ_=>rfl) (⟨D,rfl,q⟩)
    ·refine aO ?_;exact aZ.Cr (H:=[dW bp l]) bC (λ_=>rfl) (⟨l,rfl,by rw[g,kJ,if_neg aa,List.append_nil];exact C⟩)
   ·intro L H1 O Q a5 T;obtain⟨l,rfl,C⟩:=T;rw[aa4] at C;refine aZ.vc (H':=.obj L (.deferred (some []))::dW bp l::H) (.cons_cons _ (.cons_cons _ (List.sublist_append_right _ _))) ?_;refine aR ?_;refine ee.done ?_;refine ee.seq ?_;refine aB.mD ?_;refine aF ?_;refine ee.done ?_;refine ee.seq ?_;refine ee.seq ?_;refine aB.mD ?_;refine aF ?_;refine ag (ad.call .k (HK p aa (λc h=>(J c h).2) W (k:=c) ey aa)) ?_;refine aF ?_;refine ee.done ?_;refine ee.block ?_;refine aB.mD ?_;refine hh 13 101 2 ?_;refine bo (λm P=>∃(k:Nat) (v:Value),P=⟨[(61,.i k),(60,.i (cu p c).length),(59,ab.ints (cu p c)),(13,.as (ab.l6 (((cu p c).take k).filterMap (λs=>(e1 (kR p c) s).map λn=>(s,n)))) v),(8,.ptr [.val (.map (some bp))])],.own 101 2 v::.obj L (.deferred (some []))::dW bp l::H⟩/\m=(cu p c).length - k/\k<=(cu p c).length) (⟨0,_,rfl,rfl,aa⟩) ?_;rintro m _ ⟨k,v,rfl,rfl,U⟩;refine ax ?_;refine az (λbu=>?_) λbu=>?_
    ·have f:k<(cu p c).length:=by omega
     have r:=aa7 f;have E:=aa8 f;have F:=M _ (bI f);obtain⟨s,b6⟩:∃s,s=(cu p c).getD k default:=⟨_,rfl⟩;rw[<-b6] at r E F;refine bR ?_;rw[<-b6];refine aF ?_;refine ag (ad.le (ad.WJ rfl rfl rfl rfl rfl (.tail _ (.tail _ (.head _))) C.ok F) (abb C s)) ?_;refine bR ?_;refine bc (λcr=>?_) (λcr=>?_)
     ·refine aT ?_;refine aj.cn (x:=.ai 2 [[.i s,.i ((e1 (kR p c) s).getD 0)]]) rfl rfl rfl (ad.row rfl rfl cC rfl rfl rfl rfl rfl rfl) ?_;refine aj.dJ rfl rfl rfl rfl rfl rfl rfl rfl (an.refl _) (rfl) (λ_=>df) Ks Ks (λabg=>?_);refine aI ?_;exact aW (⟨k+1,abg,by rw[r cr,P2],rfl,f⟩)
     ·refine aP ?_;exact aW (⟨k+1,v,by rw[E cr],rfl,f⟩)
    ·obtain rfl:k=(cu p c).length:=by omega
     rw[List.take_length];refine aY ?_;refine ee.done ?_;refine ee.seq ?_;refine aB.mD ?_;refine aO ?_;refine ag (ad.s4 .k (.cons (an.e2 _ _) .nil) (abe _)) ?_;refine aF ?_;refine ee.done ?_;refine aB.mD ?_;refine aR ?_;refine aZ.B1 (rs:=[.tmp 4,.tmp 5]) (H':=H) rfl pq (.tmp rfl (.tmp rfl (.nil))) (c0.refl _) bC ?_;exact⟨cO,rfl⟩
   ·intro L y H1 O Q X nw v1 bF gd a9 dV;exact X.elim
end Go.Proofs.YtodccgailpkgeaaGreat

namespace Go.Eng.dN
open Go.Eng.Fc
variable{k n:Nat}{p:Prog}{l:ak}{f:Fact}
def Di(n:Nat)(h:n<9223372036854775808):(BitVec.ofInt IntKind.i64.bits (n:Int)).toNat=n:=by
 simp[IntKind.bits];omega
def HX(n:Nat)(h:n<9223372036854775808):IntKind.i64.wrap (n:Int)=n:=by
 simp only[IntKind.wrap,IntKind.bits,IntKind.signed];simp;omega
def kg(s t:Nat)(a:s<9223372036854775808)(ht:t<9223372036854775808):pz .or .i64 (s:Int) (t:Int)=some ((s ||| t:Nat):Int):=by
 show some (IntKind.i64.wrap _)=_;rw[BitVec.toNat_or,Di s a,Di t ht,HX _ (Nat.or_lt_two_pow (n:=63) a ht)]
def HY(s t:Nat)(a:s<9223372036854775808)(ht:t<9223372036854775808):pz .and .i64 (s:Int) (t:Int)=some ((s &&& t:Nat):Int):=by
 show some (IntKind.i64.wrap _)=_;rw[BitVec.toNat_and,Di s a,Di t ht,HX _ (Nat.lt_of_le_of_lt Nat.and_le_left a)]
def HZ(s:Nat)(c):ux .shr .i64 (s:Int) c=some ((s / 2^min c.toNat 64:Nat):Int):=by
 show some ((s:Int).fdiv (2^(min c.toNat 64)))=_;congr 1;have:((2:Int)^min c.toNat 64)=((2^min c.toNat 64:Nat):Int):=by simp
 rw[this];exact (Int.ofNat_fdiv _ _).symm
def mO(c)(h:0<=c/\c<63):ux .shl .i64 1 c=some ((2^c.toNat:Nat):Int):=by
 show some (IntKind.i64.wrap _)=_;have e:min c.toNat IntKind.i64.bits=c.toNat:=Nat.min_eq_left (by simp[IntKind.bits];omega);have f:(1:Int)*2^(min c.toNat IntKind.i64.bits)=((2^c.toNat:Nat):Int):=by rw[e];simp
 rw[f,HX _ (Nat.pow_lt_pow_right (a:=2) (n:=63) aa aa)]
def P3(s)(c:Int)(a:s<9223372036854775808):((((s / 2^min c.toNat 64) &&& 1:Nat):Int)==1)=s.testBit c.toNat:=GI s c aa
def eN(k n:Nat):dq:=(List.range n).filter k.testBit
abbrev gf(k:Nat):dq:=eN k 62
def tK(k n):eN k (n+1)=eN k n++if k.testBit n then [n] else []:=by
 rw[eN,List.range_succ,List.filter_append];cases h:k.testBit n <;> simp[h,eN]
theorem P4(k n):∀d,∃r,eN k (n+d)=eN k n++r
 | 0=>⟨[],aS⟩
 | d+1=>by
  obtain⟨r,a⟩:=P4 k n d;exact⟨_,by rw[<-Nat.add_assoc,tK,a,List.append_assoc]⟩
def P5(k){n}(h:n<=62):eN k n<+:gf k:=by
 obtain⟨r,a⟩:=P4 k n (62 - n);exact⟨r,by rw[<-a,show n+(62 - n)=62 by omega]⟩
def Dj{k n j}(h:k<2^n)(a:n<=j):k.testBit j=false:=Nat.testBit_lt_two_pow (Nat.lt_of_lt_of_le h (Nat.pow_le_pow_right aa a))
theorem P6{k n}(h:k<2^n):∀d,eN k (n+d)=eN k n
 | 0=>rfl
 | d+1=>by rw[<-Nat.add_assoc,tK,P6 h d,Dj h aa];simp
def Ac(h:k<2^n)(hn:n<=62):eN k n=gf k:=by
 have:=P6 h (62 - n);rw[show n+(62 - n)=62 by omega] at this;exact this.symm
def tL{k c}:c∈gf k↔c<62/\k.testBit c=true:=by simp[eN]
def tM{k n c}(h:k<2^n)(a:c∈gf k):c<n:=by
 have:=(tL.1 a).2;apply Decidable.byContradiction;intro f;rw[Dj h aa] at this;cases this
def Dk{m k}(h:k<2^m)(hm:m<=62)(q):((List.range m).any λc=>k.testBit c && q c)=(gf k).any q:=by
 rw[Bool.eq_iff_iff,List.any_eq_true,List.any_eq_true];constructor
 ·rintro⟨c,f,a⟩;rw[Bool.and_eq_true] at a;exact⟨c,tL.2 ⟨by have:=List.mem_range.1 f;omega,a.1⟩,a.2⟩
 ·rintro⟨c,f,a⟩;exact⟨c,List.mem_range.2 (tM h f),by rw[Bool.and_eq_true];exact⟨(tL.1 f).2,a⟩⟩
def en:ak->List ak
 | []=>[[]]
 | k::r=>(gf k.toNat).flatMap λ(c:Nat)=>(en r).map λl=>(c:Int)::l
def lM(L:List ak)(i:Nat):Nat:=L.foldl (λa l=>a ||| 2^(l.getD i default).toNat) 0
def hb(p:Prog)(t:cI)(f:Fact)(kinds:ak):List ak:=(en kinds).filter λl=>(di p t l f).1
def hl(L:List ak)(n:Nat):ak:=(List.range n).map λi=>(lM L i:Int)
def h3(p:Prog)(t:cI)(gen:Int)(kinds:ak)(n:Nat):List (Int×ak):=
 (List.range n).filterMap λm=>if(p.methods.getD m default).gen=gen/\hb p t (p.methods.getD m default).fact kinds≠ [] then some ((m:Int),hl (hb p t (p.methods.getD m default).fact kinds) kinds.length) else none
def eI(p:Prog)(t:cI)(gen:Int)(kinds:ak):List (Int×ak):=h3 p t gen kinds p.methods.length
theorem H0(a):∀(l:List Fact) (n:Int),nq l n<=a↔n<=a/\∀k∈l,np k<=a
 | [],n=>by simp[nq]
 | k::r,n=>by
  rw[nq,H0 a r,List.forall_mem_cons];constructor
  ·rintro⟨g,c⟩;exact⟨aa,aa,c⟩
  ·rintro⟨g,c,f⟩;exact⟨aa,f⟩
def k6(p:Prog)(n:Int):Bool:=decide (n>=0) && decide (n<p.cT.length)
def jr(p:Prog)(n:Int):Bool:=decide (n>=0) && decide (n<p.methods.length)
def fG(p:Prog)(n:Int):Int:=p.cT.getD n.toNat default
def sU(p:Prog)(n:Int):Int:=fG p (p.methods.getD n.toNat default).gen
def nx(a:(bw p).isSome):aJ p<=13:=by
 obtain⟨o,c⟩:=Option.isSome_iff_exists.1 a;have:=(oh.of (iF c).1).dr;unfold aJ;omega
def o8(a:(bw p).isSome):2^aJ p<=8192:=show 2^aJ p<=2^13 from Nat.pow_le_pow_right c8 (nx a)
def Ad(x y:Bool×Bool):Bool×Bool:=(x.1 && y.1,x.1 && y.2 || x.2 && y.1 || x.2 && y.2)
def Dl(x y:Bool×Bool):Bool×Bool:=(x.1 && y.1 || x.1 && y.2 || x.2 && y.1,x.2 && y.2)
def abh(x y):(Ad x.swap y.swap).swap=Dl x y:=by
 obtain⟨a,b⟩:=x;obtain⟨c,d⟩:=y;cases a <;> cases b <;> cases c <;> cases d <;> rfl
structure ir(p:Prog)(l:ak)(f:Fact):Prop where
 wf:dS (bS p) f=true
 sp:np f<=l.length
def ir.P7(h:ir p l f):∀k∈f.kids,ir p l k:=λk a=>
 ⟨(mK.1 h.wf).2 k a,((H0 _ _ _).1 (CP f▸h.sp)).2 k a⟩
def ir.leaf(h:ir p l f)(j:dm f):(0<=f.arg/\f.arg<l.length)/\(∀s∈f.path,0<=s/\s<(bS p).owner.length)/\f.path.length<=2/\(f.op=2->0<=f.cls/\f.cls<aJ p):=by
 have m:=(mK.1 h.wf).1;simp only[gN,Bool.and_eq_true] at m;have c:=m.2;rw[j,if_pos rfl,Bool.and_eq_true] at c;have a:=c.1;simp only[jl,o2,Bool.not_eq_true',Bool.or_eq_false_iff,Bool.not_eq_false',Bool.and_eq_true,decide_eq_false_iff_not,decide_eq_true_eq] at a;have q:=((H0 _ _ _).1 (CP f▸h.sp)).1;simp only[dm,Bool.and_eq_true,decide_eq_true_eq] at j;rw[gY,if_pos aa] at q;refine⟨lz,λs r=>?_,a.2.1,λbb=>?_⟩
 ·have:=List.all_eq_true.1 a.2.2 s r;simpa only[Fc.o0,Bool.and_eq_true,decide_eq_true_eq] using this
 ·have o:=c.2;rw[kE,if_pos bb,Bool.and_eq_true] at o;have g:=o.2;simp[jf,Bool.and_eq_true,decide_eq_true_eq] at g;rw[q6] at g;exact⟨g.1,by unfold aJ;omega⟩
def ir.ops(h:ir p l f):(f.op=5->f.kids.length=1)/\(f.op=6\/f.op=7->f.kids.length=2)/\(f.op≠1->f.op≠5->f.op≠6->f.op≠7->dm f=true):=by
 have g:=(mK.1 h.wf).1;simp[gN,Bool.and_eq_true,decide_eq_true_eq,beq_iff_eq] at g;obtain⟨⟨⟨m,j⟩,a⟩,_⟩:=g;refine⟨λh=>?_,λh=>?_,λa b c d=>?_⟩
 ·rw[h] at a;simp[j6] at a;omega
 ·rcases h with h | h <;> rw[h] at a <;> simp[j6] at a <;> omega
 ·simp[dm,Bool.and_eq_true,decide_eq_true_eq];omega
section
variable{p:Prog}{t:cI}{l:ak}{f:Fact}
def Ae{i}{r}(h:i<r.length):(sf p t l r).getD i default=di p t l (r.getD i default):=by
 rw[OI,List.getD_eq_getElem?_getD,List.getElem?_map,List.getD_eq_getElem?_getD,List.getElem?_eq_getElem h];rfl
def P8(h:f.op=1):di p t l f=(true,false):=by
 obtain⟨op,arg,path,cls,n,kids⟩:=f;change op=1 at h;subst h;rw[di,if_pos rfl]
def P9(h:f.op=5)(a:f.kids.length=1):di p t l f=(di p t l (f.kids.getD 0 default)).swap:=by
 obtain⟨op,arg,path,cls,n,kids⟩:=f;change op=5 at h;change kids.length=1 at a;subst h;rw[di,if_neg c8,if_pos rfl,Ae aa];rfl
def Qa(h:f.op=6)(a:f.kids.length=2):di p t l f=Ad (di p t l (f.kids.getD 0 default)) (di p t l (f.kids.getD 1 default)):=by
 obtain⟨op,arg,path,cls,n,kids⟩:=f;change op=6 at h;change kids.length=2 at a;subst h;rw[di,if_neg c8,if_neg c8,if_pos rfl,Ae aa,Ae aa];rfl
def Qb(h:f.op=7)(a:f.kids.length=2):di p t l f=Dl (di p t l (f.kids.getD 0 default)) (di p t l (f.kids.getD 1 default)):=by
 obtain⟨op,arg,path,cls,n,kids⟩:=f;change op=7 at h;change kids.length=2 at a;subst h;rw[di,if_neg c8,if_neg c8,if_neg c8,if_pos rfl,Ae aa,Ae aa];rfl
def Qc(g:f.op≠1)(j:f.op≠5)(h:f.op≠6)(a:f.op≠7):di p t l f=(let k:=kb p t (l.getD f.arg.toNat default) f.path
   if f.op=2 then ((List.range (aJ p)).any (λc=>k.1.testBit c && iU (bS p) c f.cls),k.2 || (List.range (aJ p)).any λc=>k.1.testBit c && !iU (bS p) c f.cls) else (k.1.testBit 1,k.2 || decide (k.1≠0))):=by
 obtain⟨op,arg,path,cls,n,kids⟩:=f;change op≠1 at g;change op≠5 at j;change op≠6 at h;change op≠7 at a;rw[di,if_neg g,if_neg j,if_neg h,if_neg a];rfl
def lF(p:Prog)(t:cI):Prop:=∀s∈t.av,ct (aJ p) s=true
def tN{m}{k}(h:ct m k):k=(k.toNat:Int)/\k.toNat<2^m/\k.toNat.testBit 0=false:=by
 simp[ct,Bool.and_eq_true,decide_eq_true_eq] at h;have a:k=(k.toNat:Int):=by omega
 refine⟨a,?_,?_⟩
 ·have:=h.2;rw[a] at this
  exact_mod_cast this
 ·rw[Nat.testBit_zero];simp;omega
def Dm(h:lF p t)(i):t.av.getD i default=((t.av.getD i default).toNat:Int)/\(t.av.getD i default).toNat<2^aJ p/\(t.av.getD i default).toNat.testBit 0=false:=by
 by_cases a:i<t.av.length
 ·exact tN (h _ (bI a))
 ·rw[List.getD_eq_getElem?_getD,List.getElem?_eq_none aa];exact⟨rfl,Nat.pow_pos c8,rfl⟩
def abi(h:lF p t)(s)(k):(nu p t s k).1<2^aJ p:=by
 unfold nu;split
 ·exact (Dm h _).2.1
 ·exact Nat.pow_pos c8
def H3(c)(path)(s):kb p t c (path++[s])=nu p t s (kb p t c path):=by
 rw[kb,List.foldl_append];rfl
def Dn(h:lF p t){c}(a:c.toNat<aJ p):∀path:ak,(kb p t c path).1<2^aJ p:=λpath=>by
 rcases List.eq_nil_or_concat path with rfl | ⟨q,s,rfl⟩
 ·exact Nat.pow_lt_pow_right c8 a
 ·rw[List.concat_eq_append,H3];exact abi h s _
def Dp{k}(h:k.1<2^aJ p)(hm:aJ p<=62)(s):nu p t s k=(if(gf k.1).any (λc=>dT p c s) then (t.av.getD s.toNat default).toNat else 0,k.2 || (gf k.1).any λc=>!dT p c s):=by
 unfold nu;rw[Dk h hm,Dk h hm]
end
end Go.Eng.dN

namespace Go.Proofs.YtodccgailpkgeaaGreat
open Go.Proofs.Tryz
open Go.Eng
open Go.Eng.Fc
open Go.Eng.dN
variable{k c:Nat}
def tO(x:Bool×Bool):Int:=(if x.1 then 1 else 0)+(if x.2 then 2 else 0)
abbrev ab.k7(x:Bool×Bool):ab:=.val (.int .u8 (tO x))
def abj(x):pz .and .u8 (tO x) 1=some (if x.1 then 1 else 0):=by
 obtain⟨a,b⟩:=x;cases a <;> cases b <;> rfl
def abk(x):pz .and .u8 (tO x) 2=some (if x.2 then 2 else 0):=by
 obtain⟨a,b⟩:=x;cases a <;> cases b <;> rfl
def abl(x y):pz .or .u8 (tO x) (tO y)=some (tO (x.1 || y.1,x.2 || y.2)):=by
 obtain⟨a,b⟩:=x;obtain⟨c,d⟩:=y;cases a <;> cases b <;> cases c <;> cases d <;> rfl
def vr{x y}(h:x=y):iy [ab.k7 x]=ab.k7 y:=by subst h;rfl
def CG(a b):aG prog 82 [.b a,.b b] (ab.k7 (a,b)):=by
 intro H;refine aM func82 λB I h=>?_;refine ji ?_;refine az (λaf=>?_) λaf=>?_
 ·refine aO ?_;refine ag (.bits rfl rfl rfl rfl rfl rfl) ?_;refine ba ?_;refine az (λae=>?_) λae=>?_
  ·refine aO ?_;refine ag (.bits rfl rfl rfl rfl rfl rfl) ?_;refine bY ?_;refine aC 4 H ?_;exact⟨by subst af ae;rfl,rfl⟩
  ·refine ba ?_;refine aC 4 H ?_;exact⟨by subst af ae;rfl,rfl⟩
 ·refine aI ?_;refine az (λao=>?_) λao=>?_
  ·refine aO ?_;refine ag (.bits rfl rfl rfl rfl rfl rfl) ?_;refine bY ?_;refine aC 4 H ?_;exact⟨by subst af ao;rfl,rfl⟩
  ·refine ba ?_;refine aC 4 H ?_;exact⟨by subst af ao;rfl,rfl⟩
def MV(x):aG prog 56 [ab.k7 x] (.b x.1):=by
 intro H;refine aM func56 λB I a=>?_;refine aI ?_;refine ag (.bits rfl rfl rfl rfl rfl (abj x)) ?_;refine aT ?_;refine aC 2 H ?_;exact⟨bq (by cases x.1 <;> rfl),rfl⟩
def Dq(x):aG prog 57 [ab.k7 x] (.b x.2):=by
 intro H;refine aM func57 λB I a=>?_;refine aI ?_;refine ag (.bits rfl rfl rfl rfl rfl (abk x)) ?_;refine aT ?_;refine aC 2 H ?_;exact⟨bq (by cases x.2 <;> rfl),rfl⟩
def Dr(x):aG prog 99 [ab.k7 x] (ab.k7 x.swap):=by
 intro H;refine aM func99 λB I a=>?_;refine aI ?_;refine ag (.call .k ((Dq _))) ?_;refine aR ?_;refine ag zy ?_;refine ag CF ?_;refine aY ?_;refine aC 2 (H) ?_;exact⟨cO,rfl⟩
def Qd(x y):aG prog 100 [ab.k7 x,ab.k7 y] (ab.k7 (Ad x y)):=by
 intro H;refine aM func100 λB I f=>?_;refine ji ?_;refine bc (λaf=>?_) λaf=>?_
 ·refine aP ?_;refine aC 4 H ?_;exact⟨Ky,rfl⟩
 ·refine aT ?_;refine ag zy ?_;refine aO ?_;refine aj.db rfl rfl rfl rfl rfl rfl (λaw=>.call (.mk' rfl rfl rfl rfl c9) ((MV _))) ?_;refine aO ?_;refine ag (.call .k ((Dq _))) ?_;refine aO ?_;refine aj.db rfl rfl rfl rfl rfl rfl (λaw=>.call (.mk' rfl rfl rfl rfl c9) ((Dq _))) ?_;refine aR ?_;refine ag CF ?_;refine aY ?_;refine aC 4 H ?_;exact⟨vr Ky,rfl⟩
def H4(k c:Nat)(a:k<9223372036854775808):aG prog 77 [.i k,.i c] (.b (k.testBit c)):=by
 intro H;refine aM func77 λB I f=>?_;refine ba ?_;refine ag (.shift rfl rfl rfl rfl rfl aa (HZ k c)) ?_;refine ag (.bits rfl rfl rfl rfl rfl (HY _ 1 (by have:=Nat.div_le_self k (2^min (c:Int).toNat 64);omega) c8)) ?_;refine aT ?_;refine aC 4 H ?_;exact⟨bq (P3 k c a),rfl⟩
def zw(k:Nat):aG prog 37 [.i k] (.fn (.func 76) [] [.ptr [.i k]]):=by
 intro H;refine aM func37 λB I a=>?_;refine dk ?_;refine aC 2 (H) ?_;exact⟨dO,rfl⟩
def abm(f:c<=64):decide (((k / 2^min (c:Int).toNat 64:Nat):Int)>0)=decide (2^c<=k):=by
 rw[show min (c:Int).toNat 64=c by omega,Bool.eq_iff_iff,decide_eq_true_eq,decide_eq_true_eq];have h:0<2^c:=Nat.pow_pos c8;constructor
 ·intro a;apply Decidable.byContradiction;intro g;rw[Nat.div_eq_of_lt aa] at a;simp at a
 ·intro a;have:=Nat.div_pos a h;omega
def abn(h:2^c<=k)(a:k<2^60):c<60:=by
 apply Decidable.byContradiction;intro f;have:=Nat.pow_le_pow_right (n:=2) c8 (show 60<=c by omega);omega
def abo{J Jx:dq->aA->Prop}{f Hx H'}{y:ab}(g:J (eN k c) f)(l:k.testBit c=true->∃b a,y= .b b/\H'=a++Hx/\(b=true->J (eN k c++[c]) a)/\(b=false->Jx (eN k c++[c]) a))(j:k.testBit c=false->y= .b false/\H'=f++Hx):
  ∃b a,y= .b b/\H'=a++Hx/\((bif k.testBit c then !b else false)=false->J (eN k (c+1)) a)/\((bif k.testBit c then !b else false)=true->Jx (eN k (c+1)) a):=by
 rw[tK];cases h:k.testBit c with
 | true=>
  obtain⟨b,a,rfl,rfl,m,o⟩:=l h;exact⟨b,a,rfl,rfl,λh=>m gQ,λh=>o gQ⟩
 | false=>
  obtain⟨rfl,rfl⟩:=j h;exact⟨false,f,rfl,rfl,λ_=>by simpa using g,λh=>by simp at h⟩
def abp{B k}(bD:k<2^60){g}{gs gc}{J Jx}(aw:oQ B prog (.fn g gs gc) (λc:Nat=>.i c) (gf k) (λ_=>True) J Jx)(H Hx)(eD:J [] H):
  eK B prog 76 [.fn g gs gc,.ptr [.i k]] (H++Hx) (λ_ v=>∃a,v=a++Hx/\(J (gf k) a\/∃pre,pre<+:gf k/\Jx pre a)) (λ_ _=>False):=by
 refine .of func76 rfl ay rfl rfl λI bW=>?_;refine ax ?_;refine bo (λm st=>∃(c:Nat) (a:aA),st=⟨[(3,.i c),(0,.fn g gs gc),(1,.ptr [.i k])],a++Hx⟩/\m=61 - c/\c<=60/\J (eN k c) a) ⟨0,H,rfl,rfl,aa,eD⟩ ?_;rintro m _ ⟨c,a,rfl,rfl,a1,kr⟩;refine aT ?_;refine ag (.shift rfl rfl rfl rfl rfl aa (HZ k c)) ?_;refine aF ?_;rw[abm aa];refine az (λaf=>?_) λaf=>?_
 ·have abq:c<60:=abn af bD;refine aI ?_;refine ag (.call .k (H4 k c aa)) ?_;refine aF ?_;refine .LW rfl rfl rfl rfl rfl rfl rfl rfl (λh=>h) rfl (λh=>by simp_all [strip]) (.cons gu .nil) (λh=>aw (eN k c) c a Hx (by have:=P5 k (n:=c+1) aa;rwa [tK,if_pos gQ] at this) trivial kr) ?_;intro y v vt vu;obtain⟨o9,H2,rfl,rfl,bM,bL⟩:=abo kr (λh=>vt gQ) λh=>vu gQ;refine aY ?_;refine bc (λae=>?_) λae=>?_
  ·refine aT ?_;refine dL [] (H2++Hx) ?_;exact⟨H2,rfl,.inr ⟨_,P5 k aa,bL ae⟩⟩
  ·have ae:(bif k.testBit c then !o9 else false)=false:=by simpa using ae
   refine aI ?_;exact aW ⟨c+1,H2,rfl,rfl,aa,bM ae⟩
 ·refine aY ?_;refine gM [] (a++Hx) ?_;exact⟨a,rfl,.inl (by rw[<-Ac (n:=c) aa aa];exact kr)⟩
def vv(B){k:Nat}(j:k<2^60):yC B prog (.fn (.func 76) [] [.ptr [.i k]]) (λc:Nat=>.i c) (gf k):=
 λJ m g o l h H a f=>eY.rU (abp j h H a f)
end Go.Proofs.YtodccgailpkgeaaGreat

