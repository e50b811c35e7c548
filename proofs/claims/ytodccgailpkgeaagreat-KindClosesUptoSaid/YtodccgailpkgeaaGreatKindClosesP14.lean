/- A part of the proof. No condition. -/
import Derived.Test.YtodccgailpkgeaaGreatKindClosesP13
import Derived.Tactics
import Derived.Tactics2
import Derived.Laws.Pointers
import Derived.TacticsInMore
import Derived.RegionIn
import Derived.RecoverIn
set_option linter.defProp false
set_option maxHeartbeats 1000000
set_option linter.unusedVariables false
set_option linter.unusedSimpArgs false
set_option maxRecDepth 10000
namespace Go.Proofs.YtodccgailpkgeaaGreat
open Go.Proofs.Tryz
open Go.Eng
open Go.Eng.Fc
open Go.Eng.dO
variable{p:Prog}{B tb:Nat}{c9:cr}{bN w:World}{env:List (Nat×ab)}{x:Bool}{H:aC}{a:Act}{eu E:ab->aC->Prop}
def abB:∀{f:Fact},nB f=true->aI prog 134 [ab.fact f] (.i (nC f)):=λ{f}=>by
 refine Fact.mf (P:=λf=>nB f=true->aI prog 134 [ab.fact f] (.i (nC f))) (λf g a=>Zm f a λk c=>g k c ((C3 a).2.2 k c)) f
def abC(W:Fc.bx)(f):aI prog 133 [ab.world W,ab.fact f] (.i (if cy W && lL W f then 0 else 2)):=by
 cases h:cy W with
 | true=>simpa using Z8 h f
 | false=>simpa using Z9 h f
def abD(W:p.Small)(g:Nat)(H):bP prog 124 [.ptr (cH p),.p g 0] (.au g 23 [(.val aX)]::H) (λ_ H'=>∃l o,bu p=some o/\H'=ik g l p.nodes.length o++H) (λy H'=>y=tK/\bu p=none/\∃v,H'= .au g 23 [.val v]::H):=by
 refine aM func124 λB I X=>?_;refine aH ?_;refine ai.tk rfl rfl .k (abk W _).b ?_ ?_
 ·rintro y C ⟨r,rfl⟩;obtain⟨S,R⟩:=Dc r;refine xa ?_;rcases pY (p0 p) with B | B
  ·refine ai.ma rfl rfl (.mk' rfl rfl rfl rfl rfl) (mh (by simp only[Bool.cond_false_right];exact B) _) eU ?_;intro a w s;exact kL (P:=prog) (fn:=Tryz.f124) eU ig ⟨rfl,Oy B,_,rfl⟩ a w s
  ·refine ai.mL rfl rfl rfl (.mk' rfl rfl rfl rfl rfl) (mT (by simp only[Bool.cond_false_right];exact B) _) ?_;have N:=B;simp only[p0,Bool.and_eq_true,decide_eq_true_eq] at N;refine bS ?_;refine bm (λm O=>∃i:Nat,O=⟨[(36,.i i),(35,.i p.c2.length),(34,ab.ints p.c2),(0,.ptr (cH p)),(1,.p g 0)],.au g 23 [(.val aX)]::H⟩/\m=p.c2.length - i/\i<=p.c2.length/\(p.c2.take i).all mR=true) iI ?_;rintro m _ ⟨i,rfl,rfl,V,q⟩;refine ay ?_;refine az (λaf=>?_) λaf=>?_
   ·have f:i<p.c2.length:=by omega
    refine jR ?_;rcases pY (mR (p.c2.getD i default)) with ae | ae
    ·refine ai.ma rfl rfl (.mk' rfl rfl rfl rfl rfl) (mh BD _) eU ?_;intro a w s;exact kL (P:=prog) (fn:=Tryz.f124) eU ig ⟨rfl,Oz (Yz f ae),_,rfl⟩ a w s
    ·refine ai.mL rfl rfl rfl (.mk' rfl rfl rfl rfl rfl) (mT BD _) ?_;refine aP ?_;exact aU (⟨i+1,rfl,rfl,f,by rw[<-c3 f,List.all_append,q,List.all_cons,ae];rfl⟩)
   ·obtain rfl:i=p.c2.length:=by omega
    rw[List.take_length] at q;refine aP ?_;refine ai.cc (x:=.aj 1 [[.i (-1)]]) rfl rfl rfl ie ?_;refine aH ?_;refine cI .k (aap p.nodes.length aa _).b ?_
    ·rintro _ _ ⟨l,rfl,rfl⟩;refine aV ?_;refine aA.perm (H':=.au g 23 [(.val (.slice (some ⟨l,0,none⟩) p.nodes.length p.nodes.length))]::.au l 3 (List.replicate p.nodes.length (.i (-1)))::H) (.swap _ _ _) ?_;refine aA.k9 (H':=ik g l p.nodes.length (je p)++H) (by rw[<-Yy];rfl) ?_;refine aJ ?_;refine ag (ad.call .k (Pb p aa R)) ?_;refine bT (λda=>?_);refine aS ?_;refine eB 5 ?_;refine aJ ?_;refine bm (λm O=>∃(i:Nat) (o:al),O=⟨[(59,.i i),(58,.i p.methods.length),(57,.aj 9 (p.methods.map eS)),(5,.ptr (cB (bR p))),(4,(.fn (.func 128) [] [.ptr (cH p),.p g 0])),(0,.ptr (cH p)),(1,.p g 0)],ik g l p.nodes.length o++H⟩/\m=p.methods.length - i/\i<=p.methods.length/\hb p p.methods (je p)=hb p (p.methods.drop i) o/\o.length=p.nodes.length) (⟨0,je p,rfl,rfl,aa,rfl,by simp[je]⟩) ?_;rintro m _ ⟨i,o,rfl,rfl,V,c,t⟩;refine ay ?_;refine az (λae=>?_) λae=>?_
     ·have f:i<p.methods.length:=by omega
      obtain⟨M,D⟩:∃M,M=(p.methods.getD i default):=⟨_,rfl⟩;refine aJ ?_;refine bT (λb1=>?_);refine aV ?_;rw[<-D];refine eB 7 ?_;refine nz ?_;rcases pY (q6 p M) with ae | ae
      ·refine ai.ma rfl rfl (.mk' rfl rfl rfl rfl rfl) (mh BD _) eU ?_;intro a w s;exact kL (P:=prog) (fn:=Tryz.f124) eU xe ⟨rfl,zX (by rw[c];exact Hh f D (by rw[ae];rfl)),_,rfl⟩ a w s
      ·refine ai.mL rfl rfl rfl (.mk' rfl rfl rfl rfl rfl) (mT BD _) ?_;have L:=ae;simp only[q6,Bool.and_eq_true,decide_eq_true_eq] at L;have Q:M.gen.toNat<p.c2.length:=by omega
       have U:=sj q (bH Q);refine aH ?_;refine b0 3 130 ?_;refine aS ?_;refine ag (ad.call .k (abC (bR p) M.fact)) ?_;refine bQ ?_;refine bW.dk 6 15 130 rfl ao rfl rfl ao ?_;refine aQ ?_;refine ed.cG rfl rfl rfl rfl rfl (λav=>ad.call (.mk' rfl rfl rfl rfl cU) (abB (Ow (w:=bR p) (by have:=YA av;rw[Bool.and_eq_true] at this;exact this.2)))) ?_;refine aV ?_;refine jS (λav=>KY) ?_;refine aS ?_;rcases pY (q7 p M) with K | K
       ·refine ai.ma rfl rfl (.mk' rfl rfl rfl rfl rfl) (mh (by rw[Bool.cond_false_right,Hi];exact K) _) eU ?_;intro a w s;exact kL (P:=prog) (fn:=Tryz.f124) eU xe ⟨rfl,zX (by rw[c];exact Hh f D (by rw[K,Bool.and_false])),_,rfl⟩ a w s
       ·refine ai.mL rfl rfl rfl (.mk' rfl rfl rfl rfl rfl) (mT (by rw[Bool.cond_false_right,Hi];exact K) _) ?_;refine aQ ?_;refine b0 17 130 ?_;refine aP ?_;refine bh (k1) ?_;refine bA ?_;have J:(bif (M.kind==1) then true else (M.kind==4))=lh M:=by unfold lh;rw[Bool.cond_true_left]
        refine ai.tk rfl rfl .k (PC rfl M.node (p.c2.getD M.gen.toNat default) _ aa o t aa g l H).b ?_ ?_
        ·rintro y C ⟨j,rfl⟩;rw[J] at j ⊢;have h:=OF (p:=p) (next:=lh M) (x:=mE p M) rfl j;refine aP ?_;exact aU (⟨i+1,hG (visit p (lh M) 13 (mE p M) o).1 o,rfl,rfl,f,by rw[c,OE f D (by rw[ae,K];rfl) h],by rw[xn,t]⟩)
        ·rintro y C ⟨rfl,j,T,rfl⟩ a w s I v A;rw[eU.is _ _ _ A];rw[J] at j;exact kL (P:=prog) (fn:=Tryz.f124) eU xe ⟨rfl,zX (by rw[c];exact OD f D (Option.isNone_iff_eq_none.1 j)),_,rfl⟩ a w s
     ·obtain rfl:i=p.methods.length:=by omega
      rw[List.drop_length] at c;replace c:hb p p.methods (je p)=some o:=c;refine bQ ?_;refine ai.tk rfl rfl .k (PC rfl p.main 0 false aa o t aa g l H).b ?_ ?_
      ·rintro y C ⟨j,rfl⟩;have h:=OF (p:=p) (next:=false) (x:=⟨p.main,0,1⟩) rfl j;obtain⟨z,E⟩:∃z,z=hG (visit p false 13 ⟨p.main,0,1⟩ o).1 o:=⟨_,rfl⟩;rw[<-E] at h ⊢;have F:z.length=p.nodes.length:=by rw[E,xn,t]
       refine aV ?_;refine ag (ad.qO .k (fq.outs (pre:=[]) uY F aa) (z8 z (-1))) ?_;refine aR ?_;rcases pY (z.contains (-1)) with G | G
       ·refine ai.mL rfl rfl rfl (.mk' rfl rfl rfl rfl rfl) (mT (by rw[G];rfl) _) ?_;refine aR ?_;refine gQ [] (ik g l p.nodes.length z++H) ?_;exact⟨l,z,OC r B q c h G,rfl⟩
       ·refine ai.ma rfl rfl (.mk' rfl rfl rfl rfl rfl) (mh (by rw[G];rfl) _) eU ?_;intro a w s;exact kL (P:=prog) (fn:=Tryz.f124) eU xe ⟨rfl,OB c h G,_,rfl⟩ a w s
      ·rintro y C ⟨rfl,j,T,rfl⟩ a w s I v A;rw[eU.is _ _ _ A];exact kL (P:=prog) (fn:=Tryz.f124) eU xe ⟨rfl,OA c (Option.isNone_iff_eq_none.1 j),_,rfl⟩ a w s
 ·rintro y C ⟨rfl,r,rfl⟩ a w s I v j;rw[eU.is _ _ _ j];exact kL (P:=prog) (fn:=Tryz.f124) eU ig ⟨rfl,Ox r,_,rfl⟩ a w s
def abE(w):(Instr.typeAssert vi 20 207 true).run prog w= .ok (.tuple #[.agg #[],.bool true]) w:=by
 simp[Instr.typeAssert,run_underlying (show prog.underlying 207=some (.struct #[]) by kernel_rfl)]
def abF(b)(x)(w)(m:w.cell? ⟨b,0,none⟩=some (.bool x))(j:w.frozen? ⟨b,0,none⟩=false)(g:b<w.heap.size):
  CallsDIn (Eng.bx none) 0 prog 165 #[.pointer (some ⟨b,0,none⟩)] (.panicking [{v:=vi,recovered:=false}]) w λe h l=>
   e= .returned (.tuple #[])/\h= .panicking [{v:=vi,recovered:=true}]/\l=(w.alloc (.cells #[] 207)).setCell ⟨b,0,none⟩ (.bool false):=by
 have c:(w.alloc (.cells #[] 207)).cell? ⟨b,0,none⟩=some (.bool x):=by rw[World.cell?_alloc_lt w _ ⟨b,0,none⟩ g];exact m
 have f:(w.alloc (.cells #[] 207)).frozen? ⟨b,0,none⟩=false:=by rw[World.frozen?_of_block (Go.RowKit.Below.heap_alloc w _ b g)];exact j
 refine callsDIn_of_wpSIn func165 rfl trivial λAj q o=>?_;apply wpSIn_seq;apply wpSIn_region;have a:=λw=>abE w;simp[wpOpsSIn,go_sem,recoverD,o,Tryz.ntmps165,Exit.thenS,Eng.bx,a];apply wpSIn_seq;apply wpSIn_region;simp[wpOpsSIn,go_sem,Exit.thenS];refine wpSIn_cond (t:=true) yp ?_;simp[if_true];apply wpSIn_seq;apply wpSIn_seq;apply wpSIn_region;simp[wpOpsSIn,go_sem,Exit.thenS,a];apply wpSIn_seq;apply wpSIn_region;simp[wpOpsSIn,go_sem,Exit.thenS];refine wpSIn_cond (t:=false) yp ?_;simp[Bool.false_eq_true,if_false];refine wpSIn_of_wpIn rfl (wpIn_skip ?_);simp[Exit.thenS];apply wpSIn_region;simp[wpOpsSIn,go_sem,c,f,bodyPostS,results,Tryz.results165]
def abG(b)(w):
  CallsDIn (Eng.bx none) 0 prog 165 #[.pointer (some ⟨b,0,none⟩)] .returning w λe c f=>e= .returned (.tuple #[])/\c= .returning/\f=w:=by
 refine callsDIn_of_wpSIn func165 rfl trivial λAj h g=>?_;apply wpSIn_seq;apply wpSIn_region;simp[wpOpsSIn,go_sem,recoverD,g,Tryz.ntmps165,Exit.thenS,Eng.bx];apply wpSIn_seq;apply wpSIn_region;simp[wpOpsSIn,go_sem,Exit.thenS];refine wpSIn_cond (t:=false) yp ?_;simp[Bool.false_eq_true,if_false];refine wpSIn_of_wpIn rfl (wpIn_skip ?_);cases Aj;simp_all [bodyPostS,results,Tryz.results165]
def Qh(tb:Nat):Deferred:={target:=.fn (.func 165) #[.pointer (some ⟨tb,0,none⟩)],args:=#[]}
def Qi(f:eu (.b x) H)(h:∃I,bY B I w/\Ext B c9 bN I w/\a7 B I w (.au tb 4 [.b x]::H)/\fL I w (aE env) a)(ht:aE env 2=some (.p tb 0)):
  LeavesIn (Eng.bx none) 0 prog Tryz.f123 a.tmps (e5 B c9 bN eu E) [] .returning w:=by
 obtain⟨I,j,q,g,l⟩:=h;obtain⟨v,o,m⟩:=iz.res (P:=prog) (c:=⟨B,c9,bN,0,[]⟩) (st:=⟨env,.au tb 4 [.b x]::H⟩) g l (fn:=Tryz.f123) (rs:=[.cell 2 4]) rfl (.Bi inferInstance ht dB rfl .nil);exact⟨v,o,I,H,j,q,g.tail,.inl ⟨v,_,rfl,m,f⟩⟩
def Qj(tb)(w):(invoke (.fn (.func 165) #[.pointer (some ⟨tb,0,none⟩)]) #[]).run prog w= .ok (.enter 165 #[.pointer (some ⟨tb,0,none⟩)]) w:=by
 have:nh prog 165=true:=by kernel_rfl
 have h:=wE this #[.pointer (some ⟨tb,0,none⟩)] w;simp[invoke]
def abH{n}(c:eu (.b x) H)(s:Sat ⟨B,c9,bN,n,[Qh tb]⟩ ⟨env,.au tb 4 [.b x]::H⟩ a w)(ht:aE env 2=some (.p tb 0)):
  bodyPostDIn (Eng.bx none) 0 prog Tryz.f123 (e5 B c9 bN eu E) .ret a w:=by
 show LeavesIn _ _ _ _ _ _ a.defers .returning w;rw[s.ds];refine leavesIn_cons (f:=165) (args:=#[.pointer (some ⟨tb,0,none⟩)]) aT (by simp[Eng.bx]) (Qj tb w) (λ_ _=>trivial) ?_;refine (abG tb w).mono ?_;rintro e g h ⟨rfl,rfl,rfl⟩;exact Qi c s.mem ht
def abI{n:Nat}(F:eu (.b false) H)(s:Sat ⟨B,c9,bN,n,[Qh tb]⟩ ⟨env,.au tb 4 [.b x]::H⟩ a w)(ht:aE env 2=some (.p tb 0)):
  bodyPostDIn (Eng.bx none) 0 prog Tryz.f123 (e5 B c9 bN eu E) (.panic [{v:=vi,recovered:=false}]) a w:=by
 show LeavesIn _ _ _ _ _ _ a.defers (.panicking [{v:=vi,recovered:=false}]) w;rw[s.ds];obtain⟨I,z,R,M,P⟩:=s.mem;obtain⟨N,vs,r,O,o⟩:=M.ok _ (.head _);have L:vs= #[.bool x]:=by
  have Q:=o3 (vs:=[.bool x]) O;exact Array.toList_inj.1 Q
 subst L;have m:tb<w.heap.size:=(Array.getElem?_eq_some_iff.1 r).1;refine leavesIn_cons (f:=165) (args:=#[.pointer (some ⟨tb,0,none⟩)]) aT (by simp[Eng.bx]) (Qj tb w) (λ_ _=>trivial) ?_;refine (abF tb x w (by rw[jK r];rfl) (by simp[World.frozen?,r]) m).mono ?_;rintro e S T ⟨rfl,rfl,rfl⟩;have q:=z.alloc (.cells #[] 207);have C:=M.alloc z (.cells #[] 207);have K:(w.alloc (.cells #[] 207)).heap[tb]? =some (.cells #[.bool x] 4 (0,0)):=by rw[Go.RowKit.Below.heap_alloc w _ tb m];exact r
 have A:=lY z (.cells #[] 207);have D:=R.trans (jJ z (.cells #[] 207));have J:=P.bw A;generalize w.alloc (.cells #[] 207)=gf at*;have l:(gf.setCell ⟨tb,0,none⟩ (.bool false)).heap[tb]? =some (.cells #[.bool false] 4 (0,0)):=one_setCell K;have c:∀b i,I b i->(gf.setCell ⟨tb,0,none⟩ (.bool false)).cell? ⟨b,i,none⟩=gf.cell? ⟨b,i,none⟩:=λb i t=>
  World.cell?_of_block (a:=⟨b,i,none⟩) (Go.RowKit.Below.heap_setCell _ _ _ _ (λe=>o i (by rw[<-(show b=tb from e)];exact t)))
 have j:er I gf I (gf.setCell ⟨tb,0,none⟩ (.bool false)):=⟨λ_ _ h=>h,c⟩;have g:=(Go.RowKit.Below.refl B gf).setCell (p:=⟨tb,0,none⟩) N (.bool false);exact Qi (x:=false) (env:=env) F ⟨I,⟨Nat.le_trans q.base g.size,λb i t=>by rw[c b i t];exact q.there b i t⟩,D.trans ⟨λ_ _ h=>h,c,g⟩,
  C.fE (.head _ _ _) j (λb _ G=>Go.RowKit.Below.heap_setCell _ _ _ _ (λe=>G (by rw[show b=tb from e];rfl))) (λ_ _ h=>.inl h) ⟨N,#[.bool false],l,.cons _ _ _ _ (.val _) .nil,o⟩ (λ_ h=>.inl h),J.bw j⟩ ht
def abJ{g}{m o:bl}{A Bp:aC->Prop}(l:∀B f,eZ B prog (.fn g m o) [] (H++f) (λ_ c=>∃j,c=j++f/\A j) (λy c=>y=tK/\∃h,c=h++f/\Bp h)):
  bP prog 123 [.fn g m o] H (λx c=>(x= .b true/\A c)\/(x= .b false/\Bp c)) (λ_ _=>False):=by
 refine bP.Mn (n:=6) func123 rfl ax rfl rfl (λB I C=>?_);refine aQ ?_;refine bT (λtb=>?_);refine aS ?_;refine ai.Mq (vs:=[.pointer (some ⟨tb,0,none⟩)]) rfl rfl rfl rfl rfl rfl ?_;refine aH ?_;refine aA.perm (List.perm_append_singleton _ _).symm ?_;refine aQ ?_;refine ai.FA rfl rfl rfl rfl rfl rfl rfl (c5.refl _) (l B [.au tb 4 [.b false]]) ?_ ?_
 ·rintro y _ ⟨j,rfl,t⟩;refine aH ?_;refine aA.perm (List.perm_append_singleton _ _) ?_;refine aS ?_;intro a w s;exact abH (.inl ⟨rfl,t⟩) s rfl
 ·rintro y D ⟨rfl,h,rfl,q⟩ a w s I v r;rw[eU.is _ _ _ r];exact abI (.inr ⟨rfl,q⟩) (s.perm (List.perm_append_singleton _ _)) rfl
def abK(q:p.Small)(H):bP prog 87 [ab.prog p] H (λy H'=>H'=H/\((∃o,bu p=some o/\y= .bj [.ints o,.b true])\/(bu p=none/\∃v,y= .bj [.val v,.b false]))) (λ_ _=>False):=by
 refine aM func87 λB I s=>?_;refine a8 ?_;refine bT (λdR=>?_);refine aS ?_;refine cI .k (abJ (H:=.au dR 23 [.val aX]::H) (A:=λH1=>∃a o,bu p=some o/\H1=ik dR a p.nodes.length o++H) (Bp:=λjL=>bu p=none/\∃v,jL= .au dR 23 [.val v]::H)
  (λB l=>eZ.fn ((abD q dR (H++l)).imp (λy H'=>?_) λy H'=>?_))).b ?_
 ·rintro⟨a,o,h,rfl⟩;exact⟨ik dR a p.nodes.length o++H,by rw[List.append_assoc],a,o,h,rfl⟩
 ·rintro⟨rfl,h,v,rfl⟩;exact⟨rfl,.au dR 23 [.val v]::H,rfl,h,v,rfl⟩
 rintro y H1 (⟨rfl,a,o,g,rfl⟩ | ⟨rfl,g,v,rfl⟩)
 ·have f:=sk g;refine ay ?_
  first | (refine .k9 (H':=.au dR 23 [(.val (.slice (some ⟨a,0,none⟩) p.nodes.length p.nodes.length))]::.au a 3 ((o.map λn=>[.i n]).flatten++[])::H) (by rw[<-OI];rfl) ?_;refine .oW (k:=1) (d:=8) rfl (.tail _ _ _ _ (.head _ _)) (by rw[List.length_map];exact f.1) (λe j=>by obtain⟨y,_,rfl⟩:=List.mem_map.1 j;rfl) ft ia ?_) | skip
  refine ay ?_;refine dM [.tmp 2,.tmp 3] H ?_;exact⟨rfl,.inl ⟨o,g,rfl⟩⟩
 ·refine ay ?_
  first | (refine .k9 (H':=.au dR 23 [(.val (.slice (some ⟨a,0,none⟩) p.nodes.length p.nodes.length))]::.au a 3 ((o.map λn=>[.i n]).flatten++[])::H) (by rw[<-OI];rfl) ?_;refine .oW (k:=1) (d:=8) rfl (.tail _ _ _ _ (.head _ _)) (by rw[List.length_map];exact f.1) (λe j=>by obtain⟨y,_,rfl⟩:=List.mem_map.1 j;rfl) ft ia ?_) | skip
  refine ay ?_;refine dM [.tmp 2,.tmp 3] H ?_;exact⟨rfl,.inr ⟨g,v,rfl⟩⟩
def Dr(g:p.Small):aI prog 41 [ab.prog p] (.i (if(bu p).isSome then 0 else 2)):=by
 intro H;refine aM func41 λB I j=>?_;refine bQ ?_;refine cI .k (abK g H).b ?_;rintro y h ⟨e,⟨o,a,rfl⟩ | ⟨a,v,rfl⟩⟩
 ·replace e:=e.symm;subst e;refine di ?_;refine bc (λaf=>?_) λaf=>?_
  ·simp at af
  ·replace af:=dA af;refine aJ ?_;refine aB 2 H ?_;exact⟨by rw[a];rfl,rfl⟩
 ·replace e:=e.symm;subst e;refine di ?_;refine bc (λae=>?_) λae=>?_
  ·replace ae:=dA ae;refine aP ?_;refine aB 2 H ?_;exact⟨by rw[a];rfl,rfl⟩
  ·simp at ae
def H8(a:p.Small)(c):aI prog 138 [ab.prog p,.i c] (.b (eJ p c)):=by
 intro H;refine aM func138 λB I g=>?_;have f:=a.aF;refine iY ?_;refine ai.cG rfl rfl rfl rfl rfl rfl (λav=>.call (.mk' rfl rfl rfl rfl cU) ((Dr a))) ?_;refine ay ?_;refine aB 4 H ?_;exact⟨bn (by unfold eJ;rw[Bool.cond_false_right,Bool.cond_false_right,Hi]),rfl⟩
def hasB(o:p.Small)(c):aI prog 90 [ab.prog p,.i c] (.bj [.ints (if eJ p c then cw p c else []),.i (if eJ p c then 0 else 2)]):=by
 intro H;refine aM func90 λB I q=>?_;refine bS ?_;refine ag (.call .k ((H8 o _))) ?_;refine aH ?_;refine az (λaf=>?_) λaf=>?_
 ·refine aJ ?_;refine .cl (rs:=[.tmp 4,.tmp 5]) (H':=H) rfl q4 GN bE ?_;exact⟨by rw[show eJ p c=false by simpa using af];rfl,rfl⟩
 ·refine aH ?_;have g:eJ p c=true:=by simpa using af
  obtain⟨m,a⟩:=vf g;obtain⟨j,f⟩:=Dc a
  ·refine aH ?_;refine ag (.call .k (HX p aa (λc h=>(f c h).2) (OJ a) (k:=c) ey aa)) ?_;refine aS ?_;refine dM [.tmp 4,.tmp 5] H ?_;exact⟨by rw[g];rfl,rfl⟩
end Go.Proofs.YtodccgailpkgeaaGreat

namespace Go.Eng.dO
open Go.Eng.Fc
variable{p:Prog}{c:Int}
def k3(p:Prog)(c:Int):List (Int×Int):=(dH (ca p) c).reverse.flatMap λk=>if k>=3 then (p.aF.getD (k - 3).toNat default).inits else []
def e3(L:List (Int×Int))(s:Int):Option Int:=(L.reverse.find? λx=>x.1==s).map (·.2)
def abL(L)(x)(s):e3 (L++[x]) s=if x.1=s then some x.2 else e3 L s:=by
 unfold e3;rw[List.reverse_append,List.reverse_singleton,List.singleton_append,List.find?_cons];by_cases h:x.1=s
 ·simp[h]
 ·rw[if_neg h,show (x.1==s)=false by simpa using h]
def nH(p:Prog)(c:Int):List (Int×Int):=(cw p c).filterMap λs=>(e3 (k3 p c) s).map λn=>(s,n)
structure sw(l:List (Int×ab))(L:List (Int×Int)):Prop where
 ok:lI l
 get:∀s,hA l s=(e3 L s).map ab.i
def sw.nil:sw [] []:=⟨lI.nil,λs=>rfl⟩
def sw.put{l}{L}(h:sw l L){x}(a:fX x.1):sw (eQ l x.1 (.i x.2)) (L++[x]):=by
 refine⟨h.ok.put a _,λs=>?_⟩;rw[zt,abL,h.get];by_cases e:x.1=s
 ·rw[if_pos e.symm,if_pos e];rfl
 ·rw[if_neg (λh=>e h.symm),if_neg e]
def Ds(A B)(s):e3 (A++B) s=(e3 B s).or (e3 A s):=by
 unfold e3;rw[List.reverse_append,List.find?_append];cases B.reverse.find? λx=>x.1==s <;> rfl
def H9{L}{s}(h:∀x∈L,x.1≠s):e3 L s=none:=by
 unfold e3;rw[List.find?_eq_none.2 (λx a=>by simpa using h x (List.mem_reverse.1 a))];rfl
def abM(L)(s):e3 (L.filter λx=>x.1==s) s=e3 L s:=by
 induction L with
 | nil=>rfl
 | cons x r a=>
  rw[show x::r= [x]++r from rfl,List.filter_append,Ds,Ds,a];by_cases h:x.1=s
  ·simp[h]
  ·rw[show [x].filter (λx=>x.1==s)= [] by simp[h],H9 (L:=[x]) gU,H9 (L:=[]) aT]
def kT(p:Prog)(k:Int):List (Int×Int):=if k>=3 then (p.aF.getD (k - 3).toNat default).inits else []
def h7(p:Prog)(s:Int):al->List (Int×Int)
 | []=>[]
 | k::r=>let m:=(kT p k).filter λx=>x.1==s;if m.isEmpty then h7 p s r else m
def mV(p:Prog)(c:Int):List (Int×Int):=(cw p c).flatMap λs=>h7 p s (dH (ca p) c)
theorem Qk{p}{s}:∀(l:al),∀x∈h7 p s l,x.1=s
 | [],x,h=>by cases h
 | k::r,x,h=>by
  simp[h7] at h;split at h
  ·exact Qk r x h
  ·simpa using (List.mem_filter.1 h).2
theorem Ql(p)(s):∀l:al,e3 (h7 p s l) s=e3 (l.reverse.flatMap (kT p)) s
 | []=>rfl
 | k::r=>by
  rw[List.reverse_cons,List.flatMap_append,Ds,show [k].flatMap (kT p)=kT p k by simp, <-Ql p s r, <-abM (kT p k)];simp[h7];split
  ·rename_i h;rw[List.isEmpty_iff.1 h];rfl
  ·rename_i h;cases hm:e3 ((kT p k).filter λx=>x.1==s) s with
   | some y=>rfl
   | none=>
    exfalso;apply h;rw[List.isEmpty_iff];cases e0:(kT p k).filter λx=>x.1==s with
    | nil=>rfl
    | cons y t=>
     exfalso;have a:∀x∈y::t,x.1=s:=λx c=>by
      rw[<-e0] at c;simpa using (List.mem_filter.1 c).2
     rw[e0] at hm;unfold e3 at hm;rw[Option.map_eq_none_iff,List.find?_eq_none] at hm;exact hm y aT (by simpa using a y dB)
theorem Qm(p)(s)(o):∀l:al,e3 (l.flatMap λt=>h7 p t o) s=if s∈l then e3 (h7 p s o) s else none
 | []=>rfl
 | t::r=>by
  rw[List.flatMap_cons,Ds,Qm p s o r];by_cases h:s=t
  ·subst h;by_cases a:s∈r
   ·rw[if_pos a,if_pos dB];cases e3 (h7 p s o) s <;> rfl
   ·rw[if_neg a,if_pos dB];rfl
  ·rw[H9 (L:=h7 p t o) λx c e=>h (by rw[<-e,Qk o x c])];by_cases a:s∈r
   ·rw[if_pos a,if_pos (.tail _ a)];cases e3 (h7 p s o) s <;> rfl
   ·rw[if_neg a,if_neg (by rw[List.mem_cons];rintro (e | e);exact h e;exact a e)];rfl
def abN{c s}(h:s∈cw p c):e3 (mV p c) s=e3 (k3 p c) s:=by
 unfold mV;rw[Qm,if_pos h,Ql];rfl
theorem Ia{p}(h:∀c∈p.aF,c.aw.length<=1000):∀(n:Nat) (S a:al),(jT p n S a).length<=a.length+1000*n
 | 0,S,a=>by rw[jT];omega
 | n+1,S,a=>by
  rw[jT];split
  ·have g:=Ia h n (S++(p.aF.getD n default).parents) (a++(p.aF.getD n default).aw);rw[List.length_append] at g;have:(p.aF.getD n default).aw.length<=1000:=by
    by_cases f:n<p.aF.length
    ·exact h _ (bH f)
    ·rw[List.getD_eq_getElem?_getD,List.getElem?_eq_none aa];exact Nat.zero_le _
   omega
  ·have:=Ia h n S a;omega
def Qn{k}(a:3<=k):kT p k=(p.aF.getD (k - 3).toNat default).inits:=by rw[kT,if_pos a]
theorem Ib(a):∀(l:List (Int×Int)) (c:al),kQ a l c=true->∀x∈l,x.1∈a
 | y::r,c,h,x,f=>by
  simp only[kQ,Bool.and_eq_true] at h;rcases List.mem_cons.1 f with rfl | f
  ·exact List.contains_iff_mem.1 h.1.1.1
  ·exact Ib a r _ h.2 x f
structure abO(p:Prog)(c:Int):Prop where
 alu:3<=c
 dv:c<3+p.aF.length
 alv:p.aF.length<=10
 aj:∀c∈p.aF,c.parents.length<=4000000/\c.aw.length<=1000
 jW:∀c∈p.aF,∀x∈c.parents,fX x
 Hv:fZ (ca p)=true
 ne:dH (ca p) c≠ []
 len:(dH (ca p) c).length<=1000
 zN:∀y∈dH (ca p) c,0<=y/\y<3+p.aF.length
 alw:∀k∈p.aF,∀x∈k.inits,fX x.1
 has:∀s∈cw p c,fX s
 bq:(cw p c).length<=20000
def pk(h:eJ p c):abO p c:=by
 obtain⟨⟨I,E⟩,l⟩:=vf h;obtain⟨r,w⟩:=Dc l;have a:=l;simp only[fO,Bool.and_eq_true,decide_eq_true_eq] at a;obtain⟨⟨⟨D,H⟩,L,B⟩,J⟩:=a;have G:(ca p).length=p.aF.length:=by simp[ca]
 have N:=va _ _ H;have C:∀(k s:Int),s∈cw p k->fX s:=λk s h=>by
  obtain⟨c,F,M⟩:=G7 h;have:=(N c F).2 _ M;unfold fX;omega
 have z:=zQ B (3+(ca p).length) ft;have v:=tE (g:=ca p) ft;rw[zP] at z v;have t:=List.all_eq_true.1 J;have j:∀i,i<p.aF.length->nE p i=true:=λi o=>t i (List.mem_range.2 o);have f:dH (ca p) c=(tC (ca p)).getD c.toNat []:=rfl;have m:=z c.toNat aa;refine⟨I,E,r,w,OJ l,B,?_,?_,?_,?_,C c,?_⟩
 ·have:=j (c - 3).toNat aa;rw[nE,Bool.and_eq_true,show (((c - 3).toNat:Nat):Int)+3=c by omega] at this;intro e;rw[e] at this;simp at this
 ·have:=m.len;rw[f];omega
 ·intro y A;rw[f] at A;have:=m.zN y A;omega
 ·intro k q x K;obtain⟨i,o,rfl⟩:=List.mem_iff_getElem.1 q;have:=j i o;rw[nE,Bool.and_eq_true] at this;have e:p.aF.getD i default=p.aF[i]:=by rw[List.getD_eq_getElem?_getD,List.getElem?_eq_getElem o];rfl
  rw[e] at this;exact C _ _ (Ib _ _ _ this.2 x K)
 ·have:=Ia (p:=p) (λc h=>(w c h).2) (c - 2).toNat [c] [];unfold cw hV;rw[List.length_mergeSort];simp[List.length_nil] at this;omega
def tQ(p:Prog)(l:al)(is:du):List (Int×Int):=is.flatMap λi=>kT p (l.getD i default)
def abP(l:al):(List.range l.length).map (λi=>l.getD i default)=l:=by
 apply List.ext_getElem
 ·simp
 ·intro i ae a;rw[List.getElem_map,List.getElem_range,List.getD_eq_getElem?_getD,List.getElem?_eq_getElem nf];rfl
def abQ(p)(c):tQ p (dH (ca p) c) (List.range (dH (ca p) c).length).reverse=k3 p c:=by
 unfold tQ k3;show _=(dH (ca p) c).reverse.flatMap (kT p);rw[show (dH (ca p) c).reverse=(List.range (dH (ca p) c).length).reverse.map (λi=>(dH (ca p) c).getD i default) by rw[List.map_reverse,abP],List.flatMap_map]
def abR(p)(l)(is)(i):tQ p l (is++[i])=tQ p l is++kT p (l.getD i default):=by
 rw[tQ,List.flatMap_append];simp[tQ]
def abS{A}{l:List (Int×Int)}{j}(h:j<l.length):A++l.take (j+1)=(A++l.take j)++[l.getD j default]:=by
 rw[List.append_assoc,c3 h]
def abT{k}(f:k<(cw p c).length)(h:(e3 (k3 p c) ((cw p c).getD k default)).isSome):((cw p c).take (k+1)).filterMap (λs=>(e3 (k3 p c) s).map λn=>(s,n))=((cw p c).take k).filterMap (λs=>(e3 (k3 p c) s).map λn=>(s,n))++[((cw p c).getD k default,(e3 (k3 p c) ((cw p c).getD k default)).getD 0)]:=by
 rw[<-c3 f,List.filterMap_append];generalize (cw p c).getD k default=s at*;obtain⟨n,a⟩:=Option.isSome_iff_exists.1 h;simp[a]
def abU{k}(a:k<(cw p c).length)(h:(e3 (k3 p c) ((cw p c).getD k default)).isSome=false):((cw p c).take (k+1)).filterMap (λs=>(e3 (k3 p c) s).map λn=>(s,n))=((cw p c).take k).filterMap (λs=>(e3 (k3 p c) s).map λn=>(s,n)):=by
 rw[<-c3 a,List.filterMap_append];generalize (cw p c).getD k default=s at*;cases hn:e3 (k3 p c) s with
 | none=>simp[hn]
 | some n=>rw[hn] at h;cases h
end Go.Eng.dO

namespace Go.Proofs.YtodccgailpkgeaaGreat
open Go.Proofs.Tryz
open Go.Eng
open Go.Eng.Fc
open Go.Eng.dO
def ef.weaken{f}{c}{r}{P}{st}{Q}{p}{st'}(j:nk st'.env st.env)(g:st'.H.Sublist st.H)(h:ef f c r P p st' Q):ef f c r P p st Q:=
 λa w s=>h a w (s.weaken (lZ j) g)
def rk(n k:Nat):du:=((List.range n).drop k).reverse
def abV(n):rk n n= []:=by rw[rk,List.drop_of_length_le aT];rfl
def Qo{n j}(h:j<n):rk n (j+1)++[j]=rk n j:=by
 have e:(List.range n).drop j=j::(List.range n).drop (j+1):=by
  rw[List.drop_eq_getElem_cons gU];simp
 rw[rk,rk,e,List.reverse_cons]
def abW(n j):rk n j<+:(List.range n).reverse:=by
 refine⟨((List.range n).take j).reverse,?_⟩;rw[rk, <-List.reverse_append,List.take_append_drop]
instance:q2 prog 190 (3,3):=⟨ax,ax⟩
instance:uV prog 3 aY:=⟨ax⟩
def Qp(l)(x):ab.mg (l++[x])= .aj 2 (l.map q5++[q5 x]):=by
 show ab.aj 2 (List.map _ (_++_))=_;rw[List.map_append];rfl
def abX{m}{L}(h:sw m L)(s):aq (.bj [(hA m s).getD (.val aY),.b (hA m s).isSome]) (.bj [.i ((e3 L s).getD 0),.b (e3 L s).isSome]):=by
 rw[h.get];cases e3 L s <;> exact .refl _
def abY{B}{g}{r cs}{l}(D:l.length<=1000000){J}{C}(s:w6 B prog (.fn g r cs) (λi:Nat=>.i i) (λi=>.i (l.getD i default)) (List.range l.length).reverse false J C){t Hx}(w:J [] t):
  eM B prog 180 [.fn g r cs,.ptr [.ints l]] (t++Hx) (λ_ x=>∃a,x=a++Hx/\J (List.range l.length).reverse a) (λ_ _=>False):=by
 refine .of func180 rfl ax rfl rfl λI E=>?_;refine a8 ?_;refine bm (λm A=>∃(c:Int) (a:aC),A=⟨[(3,.i c),(0,.fn g r cs),(1,.ptr [.ints l])],a++Hx⟩/\m=(c+1).toNat/\(-1<=c/\c<l.length)/\J (rk l.length (c+1).toNat) a) (⟨(l.length:Int) - 1,t,rfl,rfl,lK,by rw[show ((l.length:Int) - 1+1).toNat=l.length by omega,abV];exact w⟩) ?_;rintro m _ ⟨c,a,rfl,rfl,F,f⟩;refine aP ?_;refine az (λaf=>?_) λaf=>?_
 ·obtain⟨j,rfl⟩:∃j:Nat,c=j:=⟨c.toNat,aa⟩;have o:j<l.length:=by omega
  rw[show ((j:Int)+1).toNat=j+1 by omega] at f;refine bS ?_;refine .oa rfl rfl rfl rfl rfl rfl rfl rfl cL ((s (rk l.length (j+1)) j a Hx (by rw[Qo o];exact abW _ _) f).mono (λ_ _ h=>h) (λ_ _ h=>by obtain⟨_,_,_,h,_⟩:=h;cases h)) ?_;rintro y _ ⟨z,rfl,rfl,_,q⟩;rw[Qo o] at q;refine aH ?_;refine bc (λae=>?_) λae=>?_
  ·simp at ae
  ·replace ae:=dA ae;refine aJ ?_;exact aU (⟨(j:Int) - 1,z,rfl,rfl,lK,by rw[show ((j:Int) - 1+1).toNat=j by omega];exact q⟩)
 ·obtain rfl:c= -1:=by omega
  refine aV ?_;refine .n3 (rs:=[]) rfl (.nil) cL bE ?_;exact⟨a,rfl,f⟩
def backward(l):aI prog 142 [.ints l] (.fn (.func 180) [] [.ptr [.ints l]]):=by
 intro H;refine aM func142 λB I a=>?_;refine di ?_;refine aB 2 (H) ?_;exact⟨dP,rfl⟩
def abZ(B)(l)(j:l.length<=1000000):Gx B prog (.fn (.func 180) [] [.ptr [.ints l]]) (λi:Nat=>.i i) (λi=>.i (l.getD i default)) (List.range l.length).reverse false [] (λ_=>True):=by
 intro J v g s t f c H q o;refine eZ.r0 ((abY j c o).imp ?_ λ_ _ h=>h.elim);rintro y r ⟨m,rfl,a⟩;exact⟨rfl,m,[],rfl,trivial,a⟩
def ab0(els):aI prog 143 [.aj 2 els] (.aj 2 els):=by
 intro H;refine aM func143 λB I a=>?_;refine bS ?_;refine ag (.GB rfl rfl rfl rfl rfl rfl rfl) ?_;refine aV ?_;refine aB 2 (H) ?_;exact⟨dP,rfl⟩
def ab1{p:Prog}(bV:p.Small){c:Int}(bb:eJ p c):aI prog 91 [ab.prog p,.i c] (.bj [ab.mg (nH p c),.i 0]):=by
 intro H;refine bP.MR func91 rfl ax rfl rfl (λB I bN=>?_);obtain⟨aL,iy,hQ,J,W,A,S,a3,Z,N,M,gJ⟩:=pk bb;have ac:(ca p).length=p.aF.length:=by simp[ca]
 refine ef.seq ?_;refine aA.mM ?_;refine aS ?_;refine ef.done ?_;refine ef.seq ?_;refine ef.seq ?_;refine aA.mM ?_;refine aH ?_;refine ag (ad.call .k (H8 bV c)) ?_;refine aQ ?_;refine ef.done ?_;refine aA.mM ?_;refine bc (λaf=>?_) (λaf=>?_)
 ·simp[bb] at af
 ·replace af:=dA af;refine aR ?_;refine ef.done ?_;refine ef.seq ?_;refine aA.mM ?_;refine aQ ?_;refine ag (ad.call .k (graph p aa (λc h=>(J c h).1))) ?_;refine aR ?_;refine ag (ad.call .k (PF A (c:=c) aa)) ?_;refine ay ?_;refine ef.done ?_;refine ef.seq ?_;refine ef.seq ?_;refine aA.mM ?_;refine aV ?_;refine ef.done ?_;refine aA.mM ?_;refine bc (λae=>?_) (λae=>?_)
  ·simp[S] at ae
  ·replace ae:=dA ae;refine aR ?_;refine ef.done ?_;refine ef.seq ?_;refine aA.mM ?_;refine aR ?_;refine ai.mkMap rfl rfl rfl rfl (λbt=>?_);refine bT (λtb=>?_);refine aQ ?_;refine ef.done ?_;refine ef.seq ?_;refine ef.seq ?_;refine aA.mM ?_;refine eB 8 ?_;refine aQ ?_;refine ag (ad.call .k (backward (dH (ca p) c))) ?_;refine aR ?_;refine ef.done ?_;refine ef.block ?_;refine ef.weaken (st':=⟨[(34,.fn (.func 180) [] [.ptr [ab.ints (dH (ca p) c)]]),(8,.ptr [.val (.map (some bt))]),(2,.ptr (cH p)),(1,.i c)],[dV bt []]++([]++H)⟩) h1 bE ?_;refine ef.MS func91 (λi:Nat=>.i i) (λi=>.i ((dH (ca p) c).getD i default)) ((List.range (dH (ca p) c).length).reverse) (false) (λpre H=>∃l,H= [dV bt l]/\sw l (tQ p (dH (ca p) c) pre)) (λ_ _=>False) ([dV bt []]) ([]) (H) (λ_=>True) (λx=>[(10,.i ((dH (ca p) c).getD x default)),(8,.ptr [.val (.map (some bt))]),(2,.ptr (cH p))]) rfl rfl rfl rfl rfl (abZ B (dH (ca p) c) aa) (⟨[],rfl,sw.nil⟩) (λ_ _ h=>h.elim) ?_ ?_ ?_ ?_
   ·intro hH nI gf x eG;refine aH ?_;exact λa w s=>⟨_,rfl,s.weaken xf xb⟩
   ·intro hH L fD pre x H1 eG nI gf G T;obtain⟨l,rfl,C⟩:=T;have a2:x<(dH (ca p) c).length:=by have:=G.subset (show x∈pre++[x] by simp);simpa using this
    obtain⟨k,U⟩:∃k,k=((dH (ca p) c).getD x default):=⟨_,rfl⟩;have a4:=Z k (U▸bH a2);have g:=abR p (dH (ca p) c) pre x;rw[<-U] at g ⊢;refine aP ?_;refine az (λak=>?_) λak=>?_
    ·have V:(k - 3).toNat<p.aF.length:=by omega
     rw[Qn ak] at g;obtain⟨I,R⟩:∃I,I=(p.aF.getD (k - 3).toNat default).inits:=⟨_,rfl⟩;have a0:∀x∈I,fX x.1:=λx aK=>N _ (bH V) x (R▸aK);rw[<-R] at g;refine ay ?_;refine ag (k1) ?_;refine aP ?_;rw[<-R];refine aA.ez (t:=45) rfl (λalx=>?_);refine bm (λm P=>∃(j:Nat) (D:List (Int×ab)),P=⟨[(47,.i j),(46,.i I.length),(45,ab.mg I),(8,.ptr [.val (.map (some bt))])],(.loop hH fD (aE [(34,.fn (.func 180) [] [.ptr [ab.ints (dH (ca p) c)]]),(8,.ptr [.val (.map (some bt))]),(2,.ptr (cH p)),(1,.i c)])::.obj L (.deferred (some []))::([dV bt D]++eG))⟩/\m=I.length - j/\j<=I.length/\sw D (tQ p (dH (ca p) c) pre++I.take j)) (⟨0,l,rfl,rfl,aa,by simpa using C⟩) ?_;rintro m _ ⟨j,D,rfl,rfl,cp,q⟩;refine ay ?_;refine az (λaL=>?_) λaL=>?_
     ·have z:j<I.length:=by omega
      obtain⟨Y,vt⟩:∃Y,Y=I.getD j default:=⟨_,rfl⟩;have K:fX Y.1:=a0 _ (vt▸bH z);refine aJ ?_;refine bT (λhk=>?_);refine aH ?_;rw[<-vt];refine eB 12 ?_;refine ay ?_;refine ai.iA (u':=.i Y.2) rfl rfl (.inl rfl) rfl rfl rfl rfl rfl rfl (aq.refl _) (.tail _ _ _ _ _ (.tail _ _ _ _ _ (.head _ _ _))) q.ok K ?_;refine aP ?_;exact aU (⟨j+1,_,rfl,rfl,z,by rw[abS z, <-vt];exact q.put K⟩)
     ·obtain rfl:j=I.length:=by omega
      rw[List.take_length, <-g] at q;refine aS ?_;exact aZ.CE (H:=[dV bt D]) bE (λ_=>rfl) (⟨D,rfl,q⟩)
    ·refine aQ ?_;exact aZ.CE (H:=[dV bt l]) bE (λ_=>rfl) (⟨l,rfl,by rw[g,kT,if_neg aa,List.append_nil];exact C⟩)
   ·intro L H1 O Q a5 T;obtain⟨l,rfl,C⟩:=T;rw[abQ] at C;refine aZ.vd (H':=.obj L (.deferred (some []))::dV bt l::H) (.cons_cons _ (.cons_cons _ (List.sublist_append_right _ _))) ?_;refine aR ?_;refine ef.done ?_;refine ef.seq ?_;refine aA.mM ?_;refine aH ?_;refine ef.done ?_;refine ef.seq ?_;refine ef.seq ?_;refine aA.mM ?_;refine aH ?_;refine ag (ad.call .k (HX p aa (λc h=>(J c h).2) W (k:=c) ey aa)) ?_;refine aH ?_;refine ef.done ?_;refine ef.block ?_;refine aA.mM ?_;refine hi 13 101 2 ?_;refine bm (λm P=>∃(k:Nat) (v:Value),P=⟨[(61,.i k),(60,.i (cw p c).length),(59,ab.ints (cw p c)),(13,.as (ab.mg (((cw p c).take k).filterMap (λs=>(e3 (k3 p c) s).map λn=>(s,n)))) v),(8,.ptr [.val (.map (some bt))])],.own 101 2 v::.obj L (.deferred (some []))::dV bt l::H⟩/\m=(cw p c).length - k/\k<=(cw p c).length) (⟨0,_,rfl,rfl,aa⟩) ?_;rintro m _ ⟨k,v,rfl,rfl,U⟩;refine ay ?_;refine az (λbo=>?_) λbo=>?_
    ·have f:k<(cw p c).length:=by omega
     have r:=abT f;have E:=abU f;have F:=M _ (bH f);obtain⟨s,b4⟩:∃s,s=(cw p c).getD k default:=⟨_,rfl⟩;rw[<-b4] at r E F;refine bS ?_;rw[<-b4];refine aH ?_;refine ag (ad.le (ad.Xo rfl rfl rfl rfl rfl (.tail _ (.tail _ (.head _))) C.ok F) (abX C s)) ?_;refine bS ?_;refine bc (λcm=>?_) (λcm=>?_)
     ·refine aS ?_;refine ai.cc (x:=.aj 2 [[.i s,.i ((e3 (k3 p c) s).getD 0)]]) rfl rfl rfl (ad.row rfl rfl cD rfl rfl rfl rfl rfl rfl) ?_;refine ai.dJ rfl rfl rfl rfl rfl rfl rfl rfl (aq.refl _) (rfl) (λ_=>dt) KO KO (λab2=>?_);refine aJ ?_;exact aU (⟨k+1,ab2,by rw[r cm,Qp],rfl,f⟩)
     ·refine aP ?_;exact aU (⟨k+1,v,by rw[E cm],rfl,f⟩)
    ·obtain rfl:k=(cw p c).length:=by omega
     rw[List.take_length];refine aV ?_;refine ef.done ?_;refine ef.seq ?_;refine aA.mM ?_;refine aQ ?_;refine ag (ad.tf .k (.cons (aq.eY _ _) .nil) (ab0 _)) ?_;refine aH ?_;refine ef.done ?_;refine aA.mM ?_;refine aR ?_;refine aZ.Cd (rs:=[.tmp 4,.tmp 5]) (H':=H) rfl na (.tmp rfl (.tmp rfl (.nil))) (c5.refl _) bE ?_;exact⟨cM,rfl⟩
   ·intro L y H1 O Q X nI v1 bI gf a9 dU;exact X.elim
end Go.Proofs.YtodccgailpkgeaaGreat

namespace Go.Eng.dO
open Go.Eng.Fc
variable{k n:Nat}{p:Prog}{l:al}{f:Fact}
def Dt(n:Nat)(h:n<9223372036854775808):(BitVec.ofInt IntKind.i64.bits (n:Int)).toNat=n:=by
 simp[IntKind.bits];omega
def Ic(n:Nat)(h:n<9223372036854775808):IntKind.i64.wrap (n:Int)=n:=by
 simp only[IntKind.wrap,IntKind.bits,IntKind.signed];simp;omega
def kt(s t:Nat)(a:s<9223372036854775808)(ht:t<9223372036854775808):pG .or .i64 (s:Int) (t:Int)=some ((s ||| t:Nat):Int):=by
 show some (IntKind.i64.wrap _)=_;rw[BitVec.toNat_or,Dt s a,Dt t ht,Ic _ (Nat.or_lt_two_pow (n:=63) a ht)]
def Ie(s t:Nat)(a:s<9223372036854775808)(ht:t<9223372036854775808):pG .and .i64 (s:Int) (t:Int)=some ((s &&& t:Nat):Int):=by
 show some (IntKind.i64.wrap _)=_;rw[BitVec.toNat_and,Dt s a,Dt t ht,Ic _ (Nat.lt_of_le_of_lt Nat.and_le_left a)]
def Ig(s:Nat)(c):uA .shr .i64 (s:Int) c=some ((s / 2^min c.toNat 64:Nat):Int):=by
 show some ((s:Int).fdiv (2^(min c.toNat 64)))=_;congr 1;have:((2:Int)^min c.toNat 64)=((2^min c.toNat 64:Nat):Int):=by simp
 rw[this];exact (Int.ofNat_fdiv _ _).symm
def ml(c)(h:0<=c/\c<63):uA .shl .i64 1 c=some ((2^c.toNat:Nat):Int):=by
 show some (IntKind.i64.wrap _)=_;have e:min c.toNat IntKind.i64.bits=c.toNat:=Nat.min_eq_left (by simp[IntKind.bits];omega);have f:(1:Int)*2^(min c.toNat IntKind.i64.bits)=((2^c.toNat:Nat):Int):=by rw[e];simp
 rw[f,Ic _ (Nat.pow_lt_pow_right (a:=2) (n:=63) aa aa)]
def Qq(s)(c:Int)(a:s<9223372036854775808):((((s / 2^min c.toNat 64) &&& 1:Nat):Int)==1)=s.testBit c.toNat:=GR s c aa
def eP(k n:Nat):du:=(List.range n).filter k.testBit
abbrev fP(k:Nat):du:=eP k 62
def tR(k n):eP k (n+1)=eP k n++if k.testBit n then [n] else []:=by
 rw[eP,List.range_succ,List.filter_append];cases h:k.testBit n <;> simp[h,eP]
theorem Qr(k n):∀d,∃r,eP k (n+d)=eP k n++r
 | 0=>⟨[],aT⟩
 | d+1=>by
  obtain⟨r,a⟩:=Qr k n d;exact⟨_,by rw[<-Nat.add_assoc,tR,a,List.append_assoc]⟩
def Qs(k){n}(h:n<=62):eP k n<+:fP k:=by
 obtain⟨r,a⟩:=Qr k n (62 - n);exact⟨r,by rw[<-a,show n+(62 - n)=62 by omega]⟩
def Du{k n j}(h:k<2^n)(a:n<=j):k.testBit j=false:=Nat.testBit_lt_two_pow (Nat.lt_of_lt_of_le h (Nat.pow_le_pow_right aa a))
theorem Qt{k n}(h:k<2^n):∀d,eP k (n+d)=eP k n
 | 0=>rfl
 | d+1=>by rw[<-Nat.add_assoc,tR,Qt h d,Du h aa];simp
def Ak(h:k<2^n)(hn:n<=62):eP k n=fP k:=by
 have:=Qt h (62 - n);rw[show n+(62 - n)=62 by omega] at this;exact this.symm
def tS{k c}:c∈fP k↔c<62/\k.testBit c=true:=by simp[eP]
def tT{k n c}(h:k<2^n)(a:c∈fP k):c<n:=by
 have:=(tS.1 a).2;apply Decidable.byContradiction;intro f;rw[Du h aa] at this;cases this
def Al{m k}(h:k<2^m)(hm:m<=62)(q):((List.range m).any λc=>k.testBit c && q c)=(fP k).any q:=by
 rw[Bool.eq_iff_iff,List.any_eq_true,List.any_eq_true];constructor
 ·rintro⟨c,f,a⟩;rw[Bool.and_eq_true] at a;exact⟨c,tS.2 ⟨by have:=List.mem_range.1 f;omega,a.1⟩,a.2⟩
 ·rintro⟨c,f,a⟩;exact⟨c,List.mem_range.2 (tT h f),by rw[Bool.and_eq_true];exact⟨(tS.1 f).2,a⟩⟩
def eb:al->List al
 | []=>[[]]
 | k::r=>(fP k.toNat).flatMap λ(c:Nat)=>(eb r).map λl=>(c:Int)::l
def lV(L:List al)(i:Nat):Nat:=L.foldl (λa l=>a ||| 2^(l.getD i default).toNat) 0
def hd(p:Prog)(t:cv)(f:Fact)(kinds:al):List al:=(eb kinds).filter λl=>(cX p t l f).1
def hl(L:List al)(n:Nat):al:=(List.range n).map λi=>(lV L i:Int)
def h8(p:Prog)(t:cv)(gen:Int)(kinds:al)(n:Nat):List (Int×al):=
 (List.range n).filterMap λm=>if(p.methods.getD m default).gen=gen/\hd p t (p.methods.getD m default).fact kinds≠ [] then some ((m:Int),hl (hd p t (p.methods.getD m default).fact kinds) kinds.length) else none
def eK(p:Prog)(t:cv)(gen:Int)(kinds:al):List (Int×al):=h8 p t gen kinds p.methods.length
structure Qu where
 aly:Fact
 alz:Fact
structure ab3 where
 of:Int
 before:Fact
 cases:List Qu
instance:Inhabited Qu:=⟨⟨default,default⟩⟩
instance:Inhabited ab3:=⟨⟨0,default,[]⟩⟩
theorem Ih(a):∀(l:List Fact) (n:Int),nD l n<=a↔n<=a/\∀k∈l,nC k<=a
 | [],n=>by simp[nD]
 | k::r,n=>by
  rw[nD,Ih a r,List.forall_mem_cons];constructor
  ·rintro⟨g,c⟩;exact⟨aa,aa,c⟩
  ·rintro⟨g,c,f⟩;exact⟨aa,f⟩
def ll(p:Prog)(n:Int):Bool:=decide (n>=0) && decide (n<p.c2.length)
def iO(p:Prog)(n:Int):Bool:=decide (n>=0) && decide (n<p.methods.length)
def gg(p:Prog)(n:Int):Int:=p.c2.getD n.toNat default
def rL(p:Prog)(n:Int):Int:=gg p (p.methods.getD n.toNat default).gen
def mm(a:(bu p).isSome):aG p<=13:=by
 obtain⟨o,c⟩:=Option.isSome_iff_exists.1 a;have:=(ow.of (jf c).1).dv;unfold aG;omega
def oA(a:(bu p).isSome):2^aG p<=8192:=show 2^aG p<=2^13 from Nat.pow_le_pow_right c8 (mm a)
def Am(x y:Bool×Bool):Bool×Bool:=(x.1 && y.1,x.1 && y.2 || x.2 && y.1 || x.2 && y.2)
def Dv(x y:Bool×Bool):Bool×Bool:=(x.1 && y.1 || x.1 && y.2 || x.2 && y.1,x.2 && y.2)
def ab4(x y):(Am x.swap y.swap).swap=Dv x y:=by
 obtain⟨a,b⟩:=x;obtain⟨c,d⟩:=y;cases a <;> cases b <;> cases c <;> cases d <;> rfl
structure ib(p:Prog)(l:al)(f:Fact):Prop where
 wf:dS (bR p) f=true
 sp:nC f<=l.length
def ib.Qv(h:ib p l f):∀k∈f.kids,ib p l k:=λk a=>
 ⟨(mS.1 h.wf).2 k a,((Ih _ _ _).1 (C2 f▸h.sp)).2 k a⟩
def ib.leaf(h:ib p l f)(j:dp f):(0<=f.arg/\f.arg<l.length)/\(∀s∈f.path,0<=s/\s<(bR p).owner.length)/\f.path.length<=2/\(f.op=2->0<=f.cls/\f.cls<aG p):=by
 have m:=(mS.1 h.wf).1;simp only[gS,Bool.and_eq_true] at m;have c:=m.2;rw[j,if_pos rfl,Bool.and_eq_true] at c;have a:=c.1;simp only[jx,pe,Bool.not_eq_true',Bool.or_eq_false_iff,Bool.not_eq_false',Bool.and_eq_true,decide_eq_false_iff_not,decide_eq_true_eq] at a;have q:=((Ih _ _ _).1 (C2 f▸h.sp)).1;simp only[dp,Bool.and_eq_true,decide_eq_true_eq] at j;rw[ha,if_pos aa] at q;refine⟨lK,λs r=>?_,a.2.1,λbb=>?_⟩
 ·have:=List.all_eq_true.1 a.2.2 s r;simpa only[Fc.pc,Bool.and_eq_true,decide_eq_true_eq] using this
 ·have o:=c.2;rw[kO,if_pos bb,Bool.and_eq_true] at o;have g:=o.2;simp[jr,Bool.and_eq_true,decide_eq_true_eq] at g;rw[rf] at g;exact⟨g.1,by unfold aG;omega⟩
def ib.ops(h:ib p l f):(f.op=5->f.kids.length=1)/\(f.op=6\/f.op=7->f.kids.length=2)/\(f.op≠1->f.op≠5->f.op≠6->f.op≠7->dp f=true):=by
 have g:=(mS.1 h.wf).1;simp[gS,Bool.and_eq_true,decide_eq_true_eq,beq_iff_eq] at g;obtain⟨⟨⟨m,j⟩,a⟩,_⟩:=g;refine⟨λh=>?_,λh=>?_,λa b c d=>?_⟩
 ·rw[h] at a;simp[kj] at a;omega
 ·rcases h with h | h <;> rw[h] at a <;> simp[kj] at a <;> omega
 ·simp[dp,Bool.and_eq_true,decide_eq_true_eq];omega
section
variable{p:Prog}{t:cv}{l:al}{f:Fact}
def An{i}{r}(h:i<r.length):(so p t l r).getD i default=cX p t l (r.getD i default):=by
 rw[O6,List.getD_eq_getElem?_getD,List.getElem?_map,List.getD_eq_getElem?_getD,List.getElem?_eq_getElem h];rfl
def Qw(h:f.op=1):cX p t l f=(true,false):=by
 obtain⟨op,arg,path,cls,n,kids⟩:=f;change op=1 at h;subst h;rw[cX,if_pos rfl]
def Qx(h:f.op=5)(a:f.kids.length=1):cX p t l f=(cX p t l (f.kids.getD 0 default)).swap:=by
 obtain⟨op,arg,path,cls,n,kids⟩:=f;change op=5 at h;change kids.length=1 at a;subst h;rw[cX,if_neg c8,if_pos rfl,An aa];rfl
def Qy(h:f.op=6)(a:f.kids.length=2):cX p t l f=Am (cX p t l (f.kids.getD 0 default)) (cX p t l (f.kids.getD 1 default)):=by
 obtain⟨op,arg,path,cls,n,kids⟩:=f;change op=6 at h;change kids.length=2 at a;subst h;rw[cX,if_neg c8,if_neg c8,if_pos rfl,An aa,An aa];rfl
def Qz(h:f.op=7)(a:f.kids.length=2):cX p t l f=Dv (cX p t l (f.kids.getD 0 default)) (cX p t l (f.kids.getD 1 default)):=by
 obtain⟨op,arg,path,cls,n,kids⟩:=f;change op=7 at h;change kids.length=2 at a;subst h;rw[cX,if_neg c8,if_neg c8,if_neg c8,if_pos rfl,An aa,An aa];rfl
def QA(g:f.op≠1)(j:f.op≠5)(h:f.op≠6)(a:f.op≠7):cX p t l f=(let k:=kp p t (l.getD f.arg.toNat default) f.path
   if f.op=2 then ((List.range (aG p)).any (λc=>k.1.testBit c && jg (bR p) c f.cls),k.2 || (List.range (aG p)).any λc=>k.1.testBit c && !jg (bR p) c f.cls) else (k.1.testBit 1,k.2 || decide (k.1≠0))):=by
 obtain⟨op,arg,path,cls,n,kids⟩:=f;change op≠1 at g;change op≠5 at j;change op≠6 at h;change op≠7 at a;rw[cX,if_neg g,if_neg j,if_neg h,if_neg a];rfl
def ln(p:Prog)(t:cv):Prop:=∀s∈t.aw,cq (aG p) s=true
def sx{m}{k}(h:cq m k):k=(k.toNat:Int)/\k.toNat<2^m/\k.toNat.testBit 0=false:=by
 simp[cq,Bool.and_eq_true,decide_eq_true_eq] at h;have a:k=(k.toNat:Int):=by omega
 refine⟨a,?_,?_⟩
 ·have:=h.2;rw[a] at this
  exact_mod_cast this
 ·rw[Nat.testBit_zero];simp;omega
def Dw(h:ln p t)(i):t.aw.getD i default=((t.aw.getD i default).toNat:Int)/\(t.aw.getD i default).toNat<2^aG p/\(t.aw.getD i default).toNat.testBit 0=false:=by
 by_cases a:i<t.aw.length
 ·exact sx (h _ (bH a))
 ·rw[List.getD_eq_getElem?_getD,List.getElem?_eq_none aa];exact⟨rfl,Nat.pow_pos c8,rfl⟩
def ab5(h:ln p t)(s)(k):(nF p t s k).1<2^aG p:=by
 unfold nF;split
 ·exact (Dw h _).2.1
 ·exact Nat.pow_pos c8
def Ii(c)(path)(s):kp p t c (path++[s])=nF p t s (kp p t c path):=by
 rw[kp,List.foldl_append];rfl
def Dx(h:ln p t){c}(a:c.toNat<aG p):∀path:al,(kp p t c path).1<2^aG p:=λpath=>by
 rcases List.eq_nil_or_concat path with rfl | ⟨q,s,rfl⟩
 ·exact Nat.pow_lt_pow_right c8 a
 ·rw[List.concat_eq_append,Ii];exact ab5 h s _
def Dy{k}(h:k.1<2^aG p)(hm:aG p<=62)(s):nF p t s k=(if(fP k.1).any (λc=>dK p c s) then (t.aw.getD s.toNat default).toNat else 0,k.2 || (fP k.1).any λc=>!dK p c s):=by
 unfold nF;rw[Al h hm,Al h hm]
end
end Go.Eng.dO

namespace Go.Proofs.YtodccgailpkgeaaGreat
open Go.Proofs.Tryz
open Go.Eng
open Go.Eng.Fc
open Go.Eng.dO
variable{k c:Nat}
def tU(x:Bool×Bool):Int:=(if x.1 then 1 else 0)+(if x.2 then 2 else 0)
abbrev ab.lp(x:Bool×Bool):ab:=.val (.int .u8 (tU x))
def ab6(x):pG .and .u8 (tU x) 1=some (if x.1 then 1 else 0):=by
 obtain⟨a,b⟩:=x;cases a <;> cases b <;> rfl
def ab7(x):pG .and .u8 (tU x) 2=some (if x.2 then 2 else 0):=by
 obtain⟨a,b⟩:=x;cases a <;> cases b <;> rfl
def ab8(x y):pG .or .u8 (tU x) (tU y)=some (tU (x.1 || y.1,x.2 || y.2)):=by
 obtain⟨a,b⟩:=x;obtain⟨c,d⟩:=y;cases a <;> cases b <;> cases c <;> cases d <;> rfl
def vu{x y}(h:x=y):iG [ab.lp x]=ab.lp y:=by subst h;rfl
def CS(a b):aI prog 82 [.b a,.b b] (ab.lp (a,b)):=by
 intro H;refine aM func82 λB I h=>?_;refine iB ?_;refine az (λaf=>?_) λaf=>?_
 ·refine aQ ?_;refine ag (.bits rfl rfl rfl rfl rfl rfl) ?_;refine a8 ?_;refine az (λae=>?_) λae=>?_
  ·refine aQ ?_;refine ag (.bits rfl rfl rfl rfl rfl rfl) ?_;refine bQ ?_;refine aB 4 H ?_;exact⟨by subst af ae;rfl,rfl⟩
  ·refine a8 ?_;refine aB 4 H ?_;exact⟨by subst af ae;rfl,rfl⟩
 ·refine aJ ?_;refine az (λak=>?_) λak=>?_
  ·refine aQ ?_;refine ag (.bits rfl rfl rfl rfl rfl rfl) ?_;refine bQ ?_;refine aB 4 H ?_;exact⟨by subst af ak;rfl,rfl⟩
  ·refine a8 ?_;refine aB 4 H ?_;exact⟨by subst af ak;rfl,rfl⟩
def Nl(x):aI prog 56 [ab.lp x] (.b x.1):=by
 intro H;refine aM func56 λB I a=>?_;refine aJ ?_;refine ag (.bits rfl rfl rfl rfl rfl (ab6 x)) ?_;refine aS ?_;refine aB 2 H ?_;exact⟨bn (by cases x.1 <;> rfl),rfl⟩
def Dz(x):aI prog 57 [ab.lp x] (.b x.2):=by
 intro H;refine aM func57 λB I a=>?_;refine aJ ?_;refine ag (.bits rfl rfl rfl rfl rfl (ab7 x)) ?_;refine aS ?_;refine aB 2 H ?_;exact⟨bn (by cases x.2 <;> rfl),rfl⟩
def DA(x):aI prog 99 [ab.lp x] (ab.lp x.swap):=by
 intro H;refine aM func99 λB I a=>?_;refine aJ ?_;refine ag (.call .k ((Dz _))) ?_;refine aR ?_;refine ag zF ?_;refine ag CR ?_;refine aV ?_;refine aB 2 (H) ?_;exact⟨cM,rfl⟩
def QB(x y):aI prog 100 [ab.lp x,ab.lp y] (ab.lp (Am x y)):=by
 intro H;refine aM func100 λB I f=>?_;refine iB ?_;refine bc (λaf=>?_) λaf=>?_
 ·refine aP ?_;refine aB 4 H ?_;exact⟨KV,rfl⟩
 ·refine aS ?_;refine ag zF ?_;refine aQ ?_;refine ai.cG rfl rfl rfl rfl rfl rfl (λav=>.call (.mk' rfl rfl rfl rfl cU) ((Nl _))) ?_;refine aQ ?_;refine ag (.call .k ((Dz _))) ?_;refine aQ ?_;refine ai.cG rfl rfl rfl rfl rfl rfl (λav=>.call (.mk' rfl rfl rfl rfl cU) ((Dz _))) ?_;refine aR ?_;refine ag CR ?_;refine aV ?_;refine aB 4 H ?_;exact⟨vu KV,rfl⟩
def Ij(k c:Nat)(a:k<9223372036854775808):aI prog 77 [.i k,.i c] (.b (k.testBit c)):=by
 intro H;refine aM func77 λB I f=>?_;refine a8 ?_;refine ag (.shift rfl rfl rfl rfl rfl aa (Ig k c)) ?_;refine ag (.bits rfl rfl rfl rfl rfl (Ie _ 1 (by have:=Nat.div_le_self k (2^min (c:Int).toNat 64);omega) c8)) ?_;refine aS ?_;refine aB 4 H ?_;exact⟨bn (Qq k c a),rfl⟩
def zD(k:Nat):aI prog 37 [.i k] (.fn (.func 76) [] [.ptr [.i k]]):=by
 intro H;refine aM func37 λB I a=>?_;refine di ?_;refine aB 2 (H) ?_;exact⟨dP,rfl⟩
def ab9(f:c<=64):decide (((k / 2^min (c:Int).toNat 64:Nat):Int)>0)=decide (2^c<=k):=by
 rw[show min (c:Int).toNat 64=c by omega,Bool.eq_iff_iff,decide_eq_true_eq,decide_eq_true_eq];have h:0<2^c:=Nat.pow_pos c8;constructor
 ·intro a;apply Decidable.byContradiction;intro g;rw[Nat.div_eq_of_lt aa] at a;simp at a
 ·intro a;have:=Nat.div_pos a h;omega
def aca(h:2^c<=k)(a:k<2^60):c<60:=by
 apply Decidable.byContradiction;intro f;have:=Nat.pow_le_pow_right (n:=2) c8 (show 60<=c by omega);omega
def acb{J Jx:du->aC->Prop}{f Hx H'}{y:ab}(g:J (eP k c) f)(l:k.testBit c=true->∃b a,y= .b b/\H'=a++Hx/\(b=true->J (eP k c++[c]) a)/\(b=false->Jx (eP k c++[c]) a))(j:k.testBit c=false->y= .b false/\H'=f++Hx):
  ∃b a,y= .b b/\H'=a++Hx/\((bif k.testBit c then !b else false)=false->J (eP k (c+1)) a)/\((bif k.testBit c then !b else false)=true->Jx (eP k (c+1)) a):=by
 rw[tR];cases h:k.testBit c with
 | true=>
  obtain⟨b,a,rfl,rfl,m,o⟩:=l h;exact⟨b,a,rfl,rfl,λh=>m gU,λh=>o gU⟩
 | false=>
  obtain⟨rfl,rfl⟩:=j h;exact⟨false,f,rfl,rfl,λ_=>by simpa using g,λh=>by simp at h⟩
def acd{B k}(bD:k<2^60){g}{gs gc}{J Jx}(av:o0 B prog (.fn g gs gc) (λc:Nat=>.i c) (fP k) (λ_=>True) J Jx)(H Hx)(eF:J [] H):
  eM B prog 76 [.fn g gs gc,.ptr [.i k]] (H++Hx) (λ_ v=>∃a,v=a++Hx/\(J (fP k) a\/∃pre,pre<+:fP k/\Jx pre a)) (λ_ _=>False):=by
 refine .of func76 rfl ax rfl rfl λI bN=>?_;refine ay ?_;refine bm (λm st=>∃(c:Nat) (a:aC),st=⟨[(3,.i c),(0,.fn g gs gc),(1,.ptr [.i k])],a++Hx⟩/\m=61 - c/\c<=60/\J (eP k c) a) ⟨0,H,rfl,rfl,aa,eF⟩ ?_;rintro m _ ⟨c,a,rfl,rfl,a1,kE⟩;refine aS ?_;refine ag (.shift rfl rfl rfl rfl rfl aa (Ig k c)) ?_;refine aH ?_;rw[ab9 aa];refine az (λaf=>?_) λaf=>?_
 ·have ace:c<60:=aca af bD;refine aJ ?_;refine ag (.call .k (Ij k c aa)) ?_;refine aH ?_;refine .Mi rfl rfl rfl rfl rfl rfl rfl rfl (λh=>h) rfl (λh=>by simp_all [strip]) (.cons gx .nil) (λh=>av (eP k c) c a Hx (by have:=Qs k (n:=c+1) aa;rwa [tR,if_pos gU] at this) trivial kE) ?_;intro y v vv vw;obtain⟨pn,H2,rfl,rfl,bM,bJ⟩:=acb kE (λh=>vv gU) λh=>vw gU;refine aV ?_;refine bc (λae=>?_) λae=>?_
  ·refine aS ?_;refine dM [] (H2++Hx) ?_;exact⟨H2,rfl,.inr ⟨_,Qs k aa,bJ ae⟩⟩
  ·have ae:(bif k.testBit c then !pn else false)=false:=by simpa using ae
   refine aJ ?_;exact aU ⟨c+1,H2,rfl,rfl,aa,bM ae⟩
 ·refine aV ?_;refine gQ [] (a++Hx) ?_;exact⟨a,rfl,.inl (by rw[<-Ak (n:=c) aa aa];exact kE)⟩
def vx(B){k:Nat}(j:k<2^60):yK B prog (.fn (.func 76) [] [.ptr [.i k]]) (λc:Nat=>.i c) (fP k):=
 λJ m g o l h H a f=>eZ.r0 (acd j h H a f)
end Go.Proofs.YtodccgailpkgeaaGreat

