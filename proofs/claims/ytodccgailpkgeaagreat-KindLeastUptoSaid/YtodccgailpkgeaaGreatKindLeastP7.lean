/- Part 7 of the proof: contracts of functions of the program and what they need. No condition beyond those that each theorem names. -/
import Derived.Test.YtodccgailpkgeaaGreatKindLeastP6
import Derived.Laws.StructEq
import Derived.ChangeKeysEq
import Derived.Laws.Pointers
set_option maxHeartbeats 1000000
set_option linter.unusedVariables false
set_option linter.unusedSimpArgs false
namespace Go.Eng
open Go.RowKit (Below)
section
variable{c:Ctx}{r:Option Nat}{P:Program}{ops:Array Oper}{rest L:List Oper}{o:Oper}{env:List (Nat×aa)}{H:List aj}{Q:Exit->Act->World->Prop}{x:aa}{d n j k:Nat}{want g:Bool}{K:List (Nat×aa)->Prop}
end
structure Hid(p:Prop):Prop where
 out:p
theorem ib{goal next:Prop}(k:next)(h:Hid next->goal:=by
  intro k
  first
   | with_reducible refine aR.seq ?_
   | with_reducible refine aq.seq ?_
   | with_reducible refine aq.region ?_
   | with_reducible refine au.nil ?_
   | with_reducible refine aq.skip ?_
   | with_reducible refine aq.ret ?_
   | with_reducible refine aq.block ?_
   | with_reducible refine aq.exit ?_
   | with_reducible refine aR.VG ?_
   | with_reducible refine aR.VF ?_
   | with_reducible refine aR.VH ?_
   | with_reducible refine aR.VI ?_
   | with_reducible refine aR.VJ ?_
   | refine aR.VK rfl ?_
  exact k.out):goal:=h ⟨k⟩
theorem akc{goal next:Prop}(k:next)(h:Hid next->goal:=by
  intro k
  iterate 2 refine ib ?_
  exact k.out):goal:=h ⟨k⟩
theorem akd{goal next:Prop}(k:next)(h:Hid next->goal:=by
  intro k
  iterate 3 refine ib ?_
  exact k.out):goal:=h ⟨k⟩
theorem ake{goal next:Prop}(k:next)(h:Hid next->goal:=by
  intro k
  iterate 4 refine ib ?_
  exact k.out):goal:=h ⟨k⟩
theorem akf{goal next:Prop}(k:next)(h:Hid next->goal:=by
  intro k
  iterate 5 refine ib ?_
  exact k.out):goal:=h ⟨k⟩
theorem akg{goal next:Prop}(k:next)(h:Hid next->goal:=by
  intro k
  iterate 6 refine ib ?_
  exact k.out):goal:=h ⟨k⟩
theorem akh{goal next:Prop}(k:next)(h:Hid next->goal:=by
  intro k
  iterate 7 refine ib ?_
  exact k.out):goal:=h ⟨k⟩
theorem aki{goal next:Prop}(k:next)(h:Hid next->goal:=by
  intro k
  iterate 8 refine ib ?_
  exact k.out):goal:=h ⟨k⟩
theorem akj{goal next:Prop}(k:next)(h:Hid next->goal:=by
  intro k
  iterate 9 refine ib ?_
  exact k.out):goal:=h ⟨k⟩
theorem akk{goal next:Prop}(k:next)(h:Hid next->goal:=by
  intro k
  iterate 10 refine ib ?_
  exact k.out):goal:=h ⟨k⟩
theorem akl{goal next:Prop}(k:next)(h:Hid next->goal:=by
  intro k
  iterate 11 refine ib ?_
  exact k.out):goal:=h ⟨k⟩
theorem akm{goal next:Prop}(k:next)(h:Hid next->goal:=by
  intro k
  iterate 12 refine ib ?_
  exact k.out):goal:=h ⟨k⟩
theorem akn{goal next:Prop}(k:next)(h:Hid next->goal:=by
  intro k
  iterate 13 refine ib ?_
  exact k.out):goal:=h ⟨k⟩
theorem ako{goal next:Prop}(k:next)(h:Hid next->goal:=by
  intro k
  iterate 14 refine ib ?_
  exact k.out):goal:=h ⟨k⟩
theorem akp{goal next:Prop}(k:next)(h:Hid next->goal:=by
  intro k
  iterate 15 refine ib ?_
  exact k.out):goal:=h ⟨k⟩
theorem akq{goal next:Prop}(k:next)(h:Hid next->goal:=by
  intro k
  iterate 16 refine ib ?_
  exact k.out):goal:=h ⟨k⟩
theorem akr{goal next:Prop}(k:next)(h:Hid next->goal:=by
  intro k
  iterate 17 refine ib ?_
  exact k.out):goal:=h ⟨k⟩
theorem aks{goal next:Prop}(k:next)(h:Hid next->goal:=by
  intro k
  iterate 18 refine ib ?_
  exact k.out):goal:=h ⟨k⟩
theorem akt{goal next:Prop}(k:next)(h:Hid next->goal:=by
  intro k
  iterate 19 refine ib ?_
  exact k.out):goal:=h ⟨k⟩
theorem aku{goal next:Prop}(k:next)(h:Hid next->goal:=by
  intro k
  iterate 20 refine ib ?_
  exact k.out):goal:=h ⟨k⟩
theorem akv{goal next:Prop}(k:next)(h:Hid next->goal:=by
  intro k
  iterate 21 refine ib ?_
  exact k.out):goal:=h ⟨k⟩
theorem akw{goal next:Prop}(k:next)(h:Hid next->goal:=by
  intro k
  iterate 22 refine ib ?_
  exact k.out):goal:=h ⟨k⟩
theorem akx{goal next:Prop}(k:next)(h:Hid next->goal:=by
  intro k
  iterate 23 refine ib ?_
  exact k.out):goal:=h ⟨k⟩
theorem aky{goal next:Prop}(k:next)(h:Hid next->goal:=by
  intro k
  iterate 24 refine ib ?_
  exact k.out):goal:=h ⟨k⟩
theorem akz{goal next:Prop}(k:next)(h:Hid next->goal:=by
  intro k
  iterate 25 refine ib ?_
  exact k.out):goal:=h ⟨k⟩
theorem akA{goal next:Prop}(k:next)(h:Hid next->goal:=by
  intro k
  iterate 26 refine ib ?_
  exact k.out):goal:=h ⟨k⟩
theorem akB{goal next:Prop}(k:next)(h:Hid next->goal:=by
  intro k
  iterate 27 refine ib ?_
  exact k.out):goal:=h ⟨k⟩
theorem akC{goal next:Prop}(k:next)(h:Hid next->goal:=by
  intro k
  iterate 28 refine ib ?_
  exact k.out):goal:=h ⟨k⟩
theorem akD{goal next:Prop}(k:next)(h:Hid next->goal:=by
  intro k
  iterate 29 refine ib ?_
  exact k.out):goal:=h ⟨k⟩
theorem akE{goal next:Prop}(k:next)(h:Hid next->goal:=by
  intro k
  iterate 30 refine ib ?_
  exact k.out):goal:=h ⟨k⟩
theorem XS{goal next:Prop}(k:next)(h:Hid next->goal:=by
  intro k;apply au.j9 rfl rfl rfl rfl rfl rfl rfl rfl rfl rfl;(case hu=>repeat (first | exact bu.head _ _ _ | apply bu.tail));(case hfit=>rfl);(case hds=>rfl);exact k.out):goal:=h ⟨k⟩
theorem cL{G p:Prop}(al:G)(h:G->p:=by
  intro al
  first | rfl | exact al | exact (Bool.and_eq_true_iff.1 al).1 | exact (Bool.and_eq_true_iff.1 (Bool.and_eq_true_iff.1 al).1).1 | simp_all):p:=h al
theorem dZ{p q:Prop}(h:p)(s:p->q:=by
  intro h
  first
   | (simp only[decide_eq_true_eq,decide_eq_false_iff_not,beq_iff_eq,bne_iff_ne,ne_eq,Int.not_lt,Int.not_le,beq_eq_false_iff_ne,gt_iff_lt,ge_iff_le,Bool.not_eq_true,Bool.not_eq_false,Bool.not_eq_false',bne_eq_false_iff_eq] at h;exact h)
   | exact h):q:=s h
section
variable{c:Ctx}{r:Option Nat}{P:Program}{Q:Exit->Act->World->Prop}{st:dn}
theorem cq(J:Nat->Go.Eng.dn->Prop){p:Code}{m:Nat}{st':Go.Eng.dn}(bF:J m st')
  (round:∀m st',J m st'->aq c r P p st' (Exit.then (λa w=>∃hs j5,hs<m/\J hs j5/\Sat c j5 a w) Q))
  (he:mV st'.env st.env:=by repeat (first | exact trivial | refine⟨rfl,?_⟩))
  (b0:st'.H.Sublist st.H:=by repeat (first | exact List.Sublist.refl _ | refine List.Sublist.cons _ ?_)):aq c r P (.loop p) st Q:=
 aq.MM J ⟨m,st',bF,he,b0⟩ round
theorem bV{J:Nat->Go.Eng.dn->Prop}{m hs:Nat}{st':Go.Eng.dn}(bF:J hs st')(hm:hs<m:=by omega)(he:mV st'.env st.env:=by repeat (first | exact trivial | refine⟨rfl,?_⟩))
  (b0:st'.H.Sublist st.H:=by repeat (first | exact List.Sublist.refl _ | refine List.Sublist.cons _ ?_)):aR c st .normal (Exit.then (λa w=>∃hs j5,hs<m/\J hs j5/\Sat c j5 a w) Q):=
 aR.V4 bF hm he b0
theorem aS{fn:Func}{B:Nat}{cl:a8}{aO:World}{n:Nat}{bw:aa->List aj->Prop}{E:aa->List aj->Prop}(t:Nat)(H':List aj){y:aa}(fE:bw (kU [y]) H')(aK:fn.results= #[.tmp t]:=by exact rfl)(hy:jy P st [.tmp t] [y]:=by exact .tmp rfl .nil)
  (b0:H'.Sublist st.H:=by repeat (first | exact List.Sublist.refl _ | refine List.Sublist.cons _ ?_)):aR ⟨B,cl,aO,n,[]⟩ st .ret (bodyPost P fn (fD B cl aO bw E)):=
 aR.c5 (rs:=[.tmp t]) (H':=H') aK hy (bO.refl _) b0 fE
end
theorem Of{k:Nat}:∀(parts:List (Nat×aa)) (i0:Nat) (cs:List aa),parts.map (·.1)=(List.range parts.length).map (i0+ ·)->(∀p∈parts,ha p.2=true/\(dq p.2).length=k)->(i0+parts.length)*k<=cs.length->
  nx (λi=>some (i*k,k)) cs parts=some (cs.take (i0*k)++(parts.map λp=>dq p.2).flatten++cs.drop ((i0+parts.length)*k))
 | [],i0,cs,_,_,_=>by simp[nx]
 | (i,x)::r,i0,cs,av,aB,ax=>by
  have ag:=aB (i,x) (.head _);rw[List.length_cons,List.range_succ_eq_map,List.map_cons,List.map_cons,List.cons.injEq,List.map_map] at av;obtain⟨e,av⟩:=av;simp only[Nat.add_zero] at e;subst e;rw[List.length_cons] at ax;have hm:(i+1)*k<=cs.length:=Nat.le_trans (Nat.mul_le_mul_right k ad) ax;have a6:(i+1)*k=i*k+k:=Nat.succ_mul i k;have hlen:(cs.take (i*k)++dq x++cs.drop (i*k+k)).length=cs.length:=by
   simp only[List.length_append,List.length_take,List.length_drop,ag.2];omega
  rw[nx];simp only[ag.1,ag.2,Nat.beq_refl,Bool.true_and,Nat.ble_eq_true_of_le (a6▸hm),cond_true];rw[Of r (i+1) _ (by rw[av];exact List.map_congr_left λa _=>by simp;omega) (λp h=>aB p (.tail _ h)) (by rw[hlen];rw[show i+1+r.length=i+(r.length+1) by omega];exact ax)];rw[show i+1+r.length=i+(r.length+1) by omega,a6];congr 1;have t1:(cs.take (i*k)++dq x++cs.drop (i*k+k)).take (i*k+k)=cs.take (i*k)++dq x:=by
   rw[List.take_append_of_le_length F3,List.take_of_length_le F3]
  have t2:(cs.take (i*k)++dq x++cs.drop (i*k+k)).drop ((i+(r.length+1))*k)=cs.drop ((i+(r.length+1))*k):=by
   have hle:i*k+k<=(i+(r.length+1))*k:=by rw[<-a6];exact Nat.mul_le_mul_right k ad
   rw[List.drop_append,List.drop_of_length_le F3,List.nil_append,List.drop_drop];congr 1;simp only[List.length_append,List.length_take,ag.2];omega
  rw[t1,t2];simp
section
variable{P:Program}{H:List aj}{ρ:Nat->Option aa}{o:Oper}
theorem af.AJ{t:TypeId}{n k:Nat}{bH:Array (Nat×Operand)}{bY:List Value}(ys:List (Bool×aa))[hR:la P t (k,bY)](h:o.op= .buildSlice t n bH)
  (hy:j2 ρ (bH.toList.map (·.2))=some ys) (al:ys.all (·.1)=true) (XT:bH.toList.map (·.1)=List.range n) (aw:ys.all (λy=>ha y.2 && Nat.beq (dq y.2).length k)=true) (hlen:Nat.beq ys.length n=true)
  (eY:Nat.ble (n*k) 16777216=true) (ju:Nat.blt 0 (n*k)=true):af P H ρ o (.aF k (ys.map λy=>dq y.2)):=by
 have hn:=Nat.eq_of_beq_eq_true hlen;simp only[List.all_eq_true,Bool.and_eq_true] at aw;have hL:partsOf bH.toList ys=(List.range n).zip (ys.map (·.2)):=by rw[partsOf,XT]
 have Og:((List.range n).zip (ys.map (·.2))).map (·.2)=ys.map (·.2):=List.map_snd_zip (by rw[List.length_range,List.length_map,hn];exact Nat.le_refl _);have XU:((List.range n).zip (ys.map (·.2))).map (·.1)=List.range n:=List.map_fst_zip (by rw[List.length_range,List.length_map,hn];exact Nat.le_refl _);have HP:((List.range n).zip (ys.map (·.2))).length=n:=by rw[List.length_zip,List.length_range,List.length_map,hn,Nat.min_self]
 have pd:(ys.map (·.2)).map dq=ys.map λy=>dq y.2:=by rw[List.map_map];rfl
 have fe:(ys.map λy=>dq y.2).all (λe=>Nat.beq e.length k)=true:=by
  rw[List.all_eq_true];intro e he;obtain⟨y,hy,rfl⟩:=List.mem_map.1 he;exact (aw y hy).2
 refine af.row (hR:=hR) h hy al (els:=ys.map λy=>dq y.2) ?_ (by rw[List.length_map];exact hlen) fe eY ju ?_
 ·rw[hL,show (λx:Nat×aa=>dq x.2)=dq∘(·.2) from rfl, <-List.map_map,Og,pd]
 ·rw[hL,Of ((List.range n).zip (ys.map (·.2))) 0 _ (by rw[XU,HP];simp) ?_ ?_]
  ·rw[HP];have XV:((l4 n k bY).map aa.val).length=n*k:=by simp[l4]
   rw[show (0+n)*k=n*k by rw[Nat.zero_add],List.drop_of_length_le (by rw[XV];exact Nat.le_refl _)];simp only[Nat.zero_mul,List.take_zero,List.nil_append,List.append_nil];rw[show (λp:Nat×aa=>dq p.2)=dq∘(·.2) from rfl, <-List.map_map,Og,pd]
  ·intro p aB;obtain⟨y,hy,e⟩:=List.mem_map.1 (List.of_mem_zip aB).2;have:=aw y hy;rw[<-e];exact⟨this.1,Nat.eq_of_beq_eq_true this.2⟩
  ·rw[HP];simp[l4]
end
def HQ(P:Program)(p:Field×Nat):Bool:=p.1.offset==p.2 && p.1.name != "_" && P.plainKey p.1.type && (match P.underlying p.1.type with | some (.int _)=>true | _=>false)
def Oh(P:Program)(t:TypeId)(n:Nat):Bool:=(match P.underlying t with | some (.struct bM)=>bM.toList.length==n && bM.toList.zipIdx.all (HQ P) | _=>false) && !P.stoodInHeld t && !P.eqGuardType P.depth t
class XW (P:Program) (t:TypeId) (n:outParam Nat):Prop where
 h:Oh P t n=true
abbrev uu(l:List Int):Array Value:=(l.map λn=>Value.int .i64 n).toArray
theorem Oi{P:Program}{w:World}(d:Nat){as b9:List Int}{n:Nat}(bN:as.length=n)(aw:b9.length=n):∀(bM:List Field) (k:Nat),k+bM.length=n->((bM.zipIdx k).all (HQ P))=true->
  (Op.eqFields (d+1) (uu as) (uu b9) bM).run P w= .ok (as.drop k==b9.drop k) w
 | [],k,ao,_=>by
  rw[List.length_nil] at ao;rw[List.drop_of_length_le ad,List.drop_of_length_le ad];rfl
 | f::bM,k,ao,aP=>by
  rw[List.length_cons] at ao;rw[List.zipIdx_cons,List.all_cons,Bool.and_eq_true] at aP;have ab:=aP.1;simp only[HQ,Bool.and_eq_true,beq_iff_eq,bne_iff_ne,ne_eq] at ab;obtain⟨⟨⟨aA,hn⟩,aB⟩,hu⟩:=ab;obtain⟨cJ,hu⟩:∃cJ,P.underlying f.type=some (.int cJ):=by
   split at hu
   ·rename_i cJ e;exact⟨cJ,e⟩
   ·cases hu
  have m8:k<as.length:=by omega
  have lf:k<b9.length:=by omega
  have XX:(uu as)[f.offset]? =some (.int .i64 as[k]):=by rw[aA];simp[uu,List.getElem?_eq_getElem m8]
  have de:(uu b9)[f.offset]? =some (.int .i64 b9[k]):=by rw[aA];simp[uu,List.getElem?_eq_getElem lf]
  have s3:(as.drop k==b9.drop k)=(as[k]==b9[k] && as.drop (k+1)==b9.drop (k+1)):=by rw[List.drop_eq_getElem_cons m8,List.drop_eq_getElem_cons lf];rfl
  rw[s3];simp only[Op.eqFields,Sem.run_ite,Sem.run_bind];rw[if_pos hn,Go.run_part_plain (w:=w) aB XX];simp only[Result.andThen_ok];rw[Go.run_part_plain (w:=w) aB de];simp only[Result.andThen_ok];rw[run_equalIn_int w d f.type .i64 cJ as[k] b9[k] hu];simp only[Result.andThen_ok];have bm:=Oi (P:=P) (w:=w) d bN aw bM (k+1) ad aP.2;by_cases e:as[k]=b9[k]
  ·have aW:(as[k]==b9[k])=true:=by simpa using e
   rw[aW];simp only[Bool.not_true,Bool.false_eq_true,if_false,Bool.true_and];exact bm
  ·have aW:(as[k]==b9[k])=false:=by simpa using e
   rw[aW];simp only[Bool.not_false,if_true,Sem.run_pure,Bool.false_and]
section
variable{P:Program}{H:List aj}{ρ:Nat->Option aa}{o:Oper}
theorem HR{I:a8}{w:World}:∀{l:List Int} {vs:List Value},bZ I w (l.map aa.i) vs->vs=l.map λn=>Value.int .i64 n
 | [],_,h=>by cases h;rfl
 | n::r,_,h=>by
  cases h with
  | cons _ v _ vs aC ht=>
   rw[ct aC,HR ht];rfl
theorem af.dx{t dR:TypeId}{x y:Operand}{n:Nat}(as b9:List Int){cC cR:Bool}[he:XW P t n](h:o.op= .binOp .eql t x y dR)(ag:bf ρ x=some (cC,.agg (as.map aa.i)))(hy:bf ρ y=some (cR,.agg (b9.map aa.i)))(dG:cC=true)(dX:cR=true)
  (bN:Nat.beq as.length n=true) (aw:Nat.beq b9.length n=true):af P H ρ o (.b (as==b9)):=by
 have bN:=Nat.eq_of_beq_eq_true bN;have aw:=Nat.eq_of_beq_eq_true aw;have az:=he.h;simp only[Oh,Bool.and_eq_true,Bool.not_eq_true'] at az;obtain⟨⟨ab,ae⟩,aD⟩:=az;obtain⟨bM,hu⟩:∃bM,P.underlying t=some (.struct bM):=by
  split at ab
  ·rename_i bM e;exact⟨bM,e⟩
  ·cases ab
 rw[hu] at ab;simp only[Bool.and_eq_true,beq_iff_eq] at ab;have uv:P.fieldsOf t=bM:=by rw[Program.fieldsOf,hu]
 refine .same cB λI w f aA=>?_;have dg:=aA.get cx ag dG;have dh:=aA.get cx hy dX;generalize aC:f.eval x=u at dg;generalize an:f.eval y=z at dh;cases dg with
 | agg _ vs p6=>
  cases dh with
  | agg _ us ox=>
   have a6:vs=uu as:=Array.toList_inj.1 (by rw[HR p6]);have aW:us=uu b9:=Array.toList_inj.1 (by rw[HR ox]);subst a6;subst aW;refine⟨.bool (as==b9),?_,.val _⟩;have dW:=Oi (P:=P) (w:=w) 9998 bN aw bM.toList 0 ad ab.2;rw[List.drop_zero,List.drop_zero] at dW;simp only[execOp,h,aC,an,Sem.run_bind];rw[run_eqGuard_agg w .eql t x y _ _ aD];simp only[Result.andThen_ok];rw[run_eql_struct,run_equalIn_agg w 9999 t _ _ (by rw[uv];exact hu) ae,uv,dW];rfl
end
section
variable{P:Program}{H:List aj}{ρ:Nat->Option aa}{o:Oper}
end
section
variable{P:Program}{H:List aj}{ρ:Nat->Option aa}{o:Oper}
theorem af.XY{t:TypeId}{x dN:Operand}{b:Nat}{ke:Nat×Nat}{l:List (Int×aa)}{k:Int}{g1 g2:Bool}{zv:Value}[bT:rN P t ke][hZ:vT P ke.2 zv](h:o.op= .lookup t x dN true)
  (ag:bf ρ x=some (g1,.val (.map (some b)))) (dB:g1=true) (ao:bf ρ dN=some (g2,.i k)) (dY:g2=true) (hm:eu b l∈H) (ax:lK l) (eY:gL k):af P H ρ o (.bJ [(hN l k).getD (.val zv),.b (hN l k).isSome]):=by
 intro B I w r a eo hw az aH aA;have hM:=ct (aA.get cx ag dB);have gw:=ct (aA.get cx ao dY);obtain⟨bE,⟨cv,dS,aw,ka,p3⟩,cu⟩:=az.ok _ (aH _ hm);have K:=Go.Maps.int_keyed bT.int;obtain⟨sO,ia⟩:=yg bT.int eY;have fe:∀e∈cv.toList,∃l,keyOf P ke.1 e.key=some l:=λe he=>by
  have:e.key∈(l.map λp=>((Value.int .i64 p.1,p.2):Value×aa)).map (·.1):=by rw[<-ka];exact List.mem_map_of_mem he
  rw[List.map_map] at this;obtain⟨p,aB,o5⟩:=List.mem_map.1 this;rw[<-o5];exact yg bT.int (ax.small p aB)
 have dQ:=K.check w cv.isEmpty ia;have iv:(getObj b).run P w= .ok (.map cv dS) w:=by simp[getObj,Sem.run,aw]
 rcases K.find w ia cv.toList fe with⟨aP,bq⟩ | ⟨j,e,aP,aU,kW⟩
 ·have an:=HM hZ.h w;have dW:(execOp a.eval o).run P w= .ok (.value (.tuple #[zv,.bool false])) w:=by
   simp[execOp,h,Instr.lookup,run_underlying bT.h,hM,gw,iv,dQ,aP,an]
  have al:hN l k=none:=HL l k λp aB e=>by
   have:(Value.int .i64 p.1)∈cv.toList.map (·.key):=by rw[ka,List.map_map];exact List.mem_map.2 ⟨p,aB,rfl⟩
   obtain⟨e',cc,m3⟩:=List.mem_map.1 this;exact bq e' cc (by rw[m3,e])
  refine cM.fN cB dW ⟨I,hw,Ext.refl _ _ _,az,?_⟩;rw[al];exact .bJ _ _ (.cons _ _ _ _ (.val _) (.cons _ _ _ _ (.val _) .nil))
 ·have dW:(execOp a.eval o).run P w= .ok (.value (.tuple #[e.val,.bool true])) w:=by
   simp[execOp,h,Instr.lookup,run_underlying bT.h,hM,gw,iv,dQ,aP]
  obtain⟨u,gQ,m4⟩:=x4 p3 (i:=j) (v:=e.val) (by rw[List.getElem?_map,aU];rfl);have AI:l[j]? =some (k,u):=by
   rw[List.map_map,List.getElem?_map] at gQ;cases aB:l[j]? with
   | none=>rw[aB] at gQ;cases gQ
   | some p=>
    rw[aB] at gQ;have ae:((l.map λp=>((Value.int .i64 p.1,p.2):Value×aa)).map (·.1))[j]? =some e.key:=by rw[<-ka,List.getElem?_map,aU];rfl
    rw[List.map_map,List.getElem?_map,aB] at ae;simp at gQ ae;rw[kW] at ae;simp at ae;rw[show p=(k,u) from Prod.ext ae gQ]
  refine cM.fN cB dW ⟨I,hw,Ext.refl _ _ _,az,?_⟩;rw[(Dz l k .any j u ax.nodup AI).2];exact .bJ _ _ (.cons _ _ _ _ m4 (.cons _ _ _ _ (.val _) .nil))
end
section
variable{P:Program}{H:List aj}{ρ:Nat->Option aa}{o:Oper}{X:jP}
end
theorem Rel.Oj{I:a8}{w:World}{k:Nat}{xs ys:List (List aa)}{v:Value}(h:Rel I w (.aF k xs) v)(ax:ys.length=xs.length)(ak:∀(i:Nat) (x y:List aa),xs[i]? =some x->ys[i]? =some y->y.length=x.length/\∀b o,Cells I w b o x->Cells I w b o y):Rel I w (.aF k ys) v:=by
 have key:∀(xs ys:List (List aa)) (b o:Nat),ys.length=xs.length->(∀(i:Nat) (x y:List aa),xs[i]? =some x->ys[i]? =some y->y.length=x.length/\∀b o,Cells I w b o x->Cells I w b o y)->fX I w k b o xs->fX I w k b o ys:=by
  intro xs
  induction xs with
  | nil=>intro ys b o ax _ _;rw[List.eq_nil_of_length_eq_zero ax];exact .nil _ _ _
  | cons x xs bm=>
   intro ys b o ax ak h;cases ys with
   | nil=>simp at ax
   | cons y ys=>
    cases h with
    | cons _ _ _ _ _ ao ab t=>
     obtain⟨a6,aW⟩:=ak 0 x y rfl rfl;exact .cons _ _ _ _ _ (a6.trans ao) (aW _ _ ab) (bm ys _ _ (by simpa using ax) (λi x y ag hy=>ak (i+1) x y ag hy) t)
 cases h with
 | eP=>rw[List.eq_nil_of_length_eq_zero ax];exact .eP _ _ _
 | aF _ _ b off len cap ox jx hm he=>exact .aF _ _ _ _ _ _ (ax.trans ox) jx hm (key _ _ _ _ ax ak he)
theorem Cells.last{I:a8}{w:World}{x y:aa}(rD:∀v,Rel I w x v->Rel I w y v):∀(pre:List aa) (b o:Nat),Cells I w b o (pre++[x])->Cells I w b o (pre++[y])
 | [],b,o,h=>by
  cases h with
  | cons _ _ _ c _ ak b4 ag ht=>exact .cons _ _ _ _ _ ak b4 (rD _ ag) (.nil _ _)
 | z::pre,b,o,h=>by
  cases h with
  | cons _ _ _ c _ ak b4 ag ht=>exact .cons _ _ _ _ _ ak b4 ag (Cells.last rD pre _ _ ht)
abbrev XZ:=List aa×Value×List (List aa)
theorem br.DB{B:Nat}{w:World}{t k:Nat}{E:List aj}:∀{I:a8} (L:List XZ),ck B I w->br B I w (L.map (λq=>aj.row t k q.2.1 q.2.2.length q.2.2.flatten)++E)->(∀q∈L,∀e∈q.2.2,e.length=k)->
  ∃J,ck B J w/\Ext B I w J w/\br B J w E/\∀q∈L,Rel J w (.aF k q.2.2) q.2.1
 | I,[],hw,az,_=>⟨I,hw,Ext.refl _ _ _,az,bj⟩
 | I,q::L,hw,az,ao=>by
  obtain⟨J,cI,a2,a3,a4⟩:=br.qN hw az (ao q (.head _));obtain⟨sI,kd,kf,vR,HS⟩:=br.DB L cI a3 λq bd=>ao q (.tail _ bd);refine⟨sI,kd,a2.trans kf,vR,λff bd=>?_⟩;rcases List.mem_cons.1 bd with rfl | bd
  ·exact a4.bQ kf.keeps
  ·exact HS ff bd
section
variable{c:Ctx}{r:Option Nat}{P:Program}{env:List (Nat×aa)}{H:List aj}{Q:Exit->Act->World->Prop}{d:Nat}
theorem aR.x7{ex:Exit}{t k n:Nat}{v:Value}{cs:List aa}{H':Nat->Nat->List aa->List aj}(hn:n≠0)(hu:∀b cap more,bu H (.row t k v n cs) (.aI b t (cs++more)) (H' b cap more))
  (h:∀b cap more,v= .slice (some ⟨b,0,none⟩) n cap->n<=cap->cap<=maxLen->(cs++more).length=cap*k->cs.length=n*k->aR c ⟨env,H' b cap more⟩ ex Q):aR c ⟨env,H⟩ ex Q:=λa w s=>by
 obtain⟨I,hw,he,az,aC⟩:=s.mem;obtain⟨b,cap,more,a6,aW,cN,gO,mv,Hj⟩:=aj.vO hn (az.ok _ (hu 0 0 []).mem);refine h b cap more a6 aW cN gO mv a w ⟨s.ds,s.size,I,hw,he,az.sV (hu b cap more) (λ_=>Hj) (λx ag=>?_),aC⟩;subst a6;exact ag
end
section
variable{c:Ctx}{r:Option Nat}{P:Program}{l:List Oper}{Q:Exit->Act->World->Prop}
abbrev qm(H:List aj)(bw:aa->List aj->Prop)(fG:Nat):Nat->Mem:=λj B a I w=>match j with
 | 0=>br B I w H
 | _=>∃y H',bw y H'/\br B I w H'/\Rel I w y (a.tmps.getD fG undef)
theorem bk.X0{env:List (Nat×aa)}{H:List aj}(bw:aa->List aj->Prop)(fG e:Nat)(k m n:Nat)(hn:c.n=n)(dQ:o2 l k m=true)(p4:uf [e] k m=true)(gv:Nat.ble k m=true)(en:Nat.ble m l.length=true)(iR:(l.all λo=>(looks l o).all λt=>Nat.blt t n)=true)
  (h:b6 P (qm H bw fG) l [e] c.n k ((l.drop k).take (m - k)) env λenv=>∀y H',bw y H'->bk c r P l Q m ⟨(fG,y)::env,H'⟩):bk c r P l Q k ⟨env,H⟩:=
 bk.anyS (Hs:=qm H bw fG) dQ p4 (Nat.le_of_ble_eq_true gv) (Nat.le_of_ble_eq_true en) sq (λB a I w az=>az) (h.mono λenv aN a w I dg dh ea gP jA kV=>by
  obtain⟨y,H',ab,az,aK⟩:=jA;exact aN y H' ab a w ⟨dg,dh,I,ea,gP,az,Sat.tS kV aK⟩)
end
section
variable{P:Program}{L rest:List Oper}{ss:List Nat}{n i d:Nat}{o:Oper}{env:List (Nat×aa)}{K:List (Nat×aa)->Prop}{x:aa}{H:List aj}{bw:aa->List aj->Prop}{fG:Nat}
theorem b6.oy(aH:o6 ss i=0)(al:o.guard=none)(aN:o.dst=some d)(hn:Nat.blt d n=true)(Ha:Nat.beq d fG=false)(ab:∀y H',bw y H'->af P H' (aX ((fG,y)::env)) o x)(ai:Dk L ss i=0->af P H (aX env) o x)(next:b6 P (qm H bw fG) L ss n (i+1) rest ((d,x)::env) K):b6 P (qm H bw fG) L ss n i (o::rest) env K:=
 ⟨x,λj fv eB=>by
  rw[aH];refine iU.of al (λB I w r a hw hm aA an=>?_);cases j with
  | zero=>exact (ai ad) B I w r a _ hw hm (λ_ h=>h) aA
  | succ j=>
   obtain⟨y,H',a6,az,aK⟩:=hm;refine (ab y H' a6 B I w r a _ hw az (λ_ h=>h) (NR aA aK)).mono (λv w' ⟨aQ,cI,a2,a3,a4⟩=>⟨aQ,cI,a2,⟨y,H',a6,a3,?_⟩,a4⟩) (λ_ _ h=>h);rw[aN,oR (λe=>by subst e;simp at Ha)];exact aK.bQ a2.keeps,jg aN hn,ih⟩
theorem b6.X1{f:FuncId}{xs:List aa}(az:ue L ss i=0)(aH:o6 ss i=1)(al:o.guard=none)(aN:o.dst=some fG)(hn:Nat.blt fG n=true)(ak:gZ P (aX env) o f xs)(h:∀B,dC B P f xs H bw (λ_ _=>False))
  (next:b6 P (qm H bw fG) L ss n (i+1) rest ((fG,.any)::env) K):b6 P (qm H bw fG) L ss n i (o::rest) env K:=
 ⟨.any,λj ab ae=>by
  obtain rfl:j=0:=by omega
  rw[aH];refine iU.of al (λB I w r a hw hm aA an=>?_);refine (x3 (c:=⟨B,I,w,0,[]⟩) ak (h B) hw hm aA).mono (λv w' hR=>?_) (λ_ _ h=>h);obtain⟨aQ,db,z,cI,a2,a3,a4,a5⟩:=hR;exact⟨aQ,cI,a2,⟨z,db,a5,a3,by rw[aN,tN (an fG aN)];exact a4⟩,.any _⟩,jg aN hn,ih⟩
end
section
variable{P:Program}{H:List aj}{ρ:Nat->Option aa}{o:Oper}
end
theorem br.Ol{B:Nat}{I:a8}{w:World}{H:List aj}{e e':aj}(az:br B I w (e::H))(h:e.ok B I w->e'.ok B I w)(aP:e'.eX=e.eX):br B I w (e'::H):=by
 refine⟨λf hm=>?_,List.pairwise_cons.2 ⟨λf zL b aw=>(List.pairwise_cons.1 az.apart).1 f zL b (by rw[<-aP];exact aw),(List.pairwise_cons.1 az.apart).2⟩⟩;rcases List.mem_cons.1 hm with rfl | hm
 ·exact h (az.ok _ (.head _))
 ·exact az.ok f (.tail _ hm)
theorem bZ.Om{I:a8}{w:World}{x y:aa}(h:∀v,Rel I w x v->Rel I w y v):∀{xs ys:List aa} {vs:List Value},bZ I w (xs++x::ys) vs->bZ I w (xs++y::ys) vs:=λ{xs ys vs} aK=>by
 obtain⟨us,bY,rfl,ab,ae⟩:=aK.sS;cases ae with
 | cons _ v _ bY ag ht=>exact ab.append (.cons _ _ _ _ (h v ag) ht)
section
variable{c:Ctx}{r:Option Nat}{P:Program}{env:List (Nat×aa)}{Q:Exit->Act->World->Prop}
theorem aq.On{p:Code}{uw eC t tb n cap k:Nat}{els:List (List aa)}{more xs ys:List aa}{R:List aj}
  (hn:els.length=n) (ao:∀e∈els,e.length=k) (ak:n<=cap) (hm:cap<=maxLen) (h:aq c r P p ⟨env,.aI eC tb (xs++.aF k els::ys)::R⟩ Q):aq c r P p ⟨env,.aI uw t (els.flatten++more)::.aI eC tb (xs++.val (.slice (some ⟨uw,0,none⟩) n cap)::ys)::R⟩ Q:=λa w s=>by
 refine h a w ?_;obtain⟨I,hw,he,az,aC⟩:=s.mem;obtain⟨bE,vs,aw,aK,cu⟩:=az.ok _ (.head _);obtain⟨cI,a2,a3,a4⟩:=a8.freeze (n:=vs.size) hw az (.head _ _) (b:=uw) rfl aw (Nat.le_refl _);have ab:=(a4 _ vs.toList aK CH).take els.flatten.length;rw[List.take_left] at ab;refine⟨s.ds,s.size,_,cI,he.trans a2,br.Ol a3 (λ⟨dg,us,dh,ea,gP⟩=>⟨dg,us,dh,bZ.Om (λv aC=>?_) ea,gP⟩) rfl,aC.bQ a2.keeps⟩;rw[ct aC];exact .aF _ _ _ _ _ _ hn ak hm (oj els 0 ao ab)
end
section
variable{c:Ctx}{r:Option Nat}{P:Program}{env:List (Nat×aa)}{Q:Exit->Act->World->Prop}
theorem Sat.yh{a:Act}{w:World}{eC t tb k:Nat}{v:Value}{els:List (List aa)}{xs ys:List aa}{R:List aj}(ao:∀e∈els,e.length=k)
  (s:Sat c ⟨env,.row t k v els.length els.flatten::.aI eC tb (xs++.val v::ys)::R⟩ a w):Sat c ⟨env,.aI eC tb (xs++.aF k els::ys)::R⟩ a w:=by
 obtain⟨I,hw,he,az,aC⟩:=s.mem;obtain⟨J,qP,nF,sW,qQ⟩:=br.qN hw az ao;refine⟨s.ds,s.size,J,qP,he.trans nF,br.Ol sW (λ⟨dg,us,dh,ea,gP⟩=>⟨dg,us,dh,bZ.Om (λu hu=>?_) ea,gP⟩) rfl,aC.bQ nF.keeps⟩;rw[ct hu];exact qQ
theorem aq.yh{p:Code}{eC t tb k:Nat}{v:Value}{els:List (List aa)}{xs ys:List aa}{R:List aj}(ao:∀e∈els,e.length=k)
  (h:aq c r P p ⟨env,.aI eC tb (xs++.aF k els::ys)::R⟩ Q):aq c r P p ⟨env,.row t k v els.length els.flatten::.aI eC tb (xs++.val v::ys)::R⟩ Q:=λa w s=>h a w (s.yh ao)
theorem aR.yh{e:Exit}{eC t tb k:Nat}{v:Value}{els:List (List aa)}{xs ys:List aa}{R:List aj}(ao:∀e∈els,e.length=k)
  (h:aR c ⟨env,.aI eC tb (xs++.aF k els::ys)::R⟩ e Q):aR c ⟨env,.row t k v els.length els.flatten::.aI eC tb (xs++.val v::ys)::R⟩ e Q:=λa w s=>h a w (s.yh ao)
end
section
variable{c:Ctx}{r:Option Nat}{P:Program}{st:dn}{Q:Exit->Act->World->Prop}
theorem aj.X2{B:Nat}{I:a8}{w:World}{t k n:Nat}{v:Value}{cs:List aa}(h:(aj.row t k v n cs).ok B I w):∃a cap,v= .slice a n cap:=by
 obtain⟨xs,fx,_⟩:=h;rcases fx.2 with⟨rfl,hn⟩ | ⟨g,cap,cur,rfl,_⟩
 ·exact⟨none,0,by rw[hn]⟩
 ·exact⟨_,cap,rfl⟩
end
section
variable{r:Option Nat}{P:Program}{st:dn}{Q:Exit->Act->World->Prop}{B:Nat}{cl:a8}{aO:World}{n:Nat}{Hx:List aj}
abbrev hO(gz:List Nat):List aj:=gz.map λD=>.obj D (.deferred (some []))
abbrev qV(B:Nat)(cl:a8)(aO:World)(n:Nat)(gz:List Nat):Ctx:=⟨B,cl,aO,n,gz.map mark⟩
theorem aq.AK(J:Nat->dn->Prop)(hP:List Nat)(Hx:List aj){p:Code}(ai:∃m st',J m st'/\mV st'.env st.env/\(st'.H++(hO hP++Hx)).Sublist st.H)
  (round:∀gz m st',J m st'->aq (qV B cl aO n gz) r P p ⟨st'.env,st'.H++(hO gz++Hx)⟩ (Exit.then (λa w=>∃vU hs j5,hs<m/\J hs j5/\Sat (qV B cl aO n vU) ⟨j5.env,j5.H++(hO vU++Hx)⟩ a w) Q)):aq (qV B cl aO n hP) r P (.loop p) st Q:=by
 intro a w s b k cs mr aw aK;obtain⟨X3,X4,X5,X6,X7⟩:=ai;have key:∀m gz st' a w,J m st'->Sat (qV B cl aO n gz) ⟨st'.env,st'.H++(hO gz++Hx)⟩ a w->
   ∃e fY w',Q e fY w'/\ArrivesIn (Machine.fenced P (bb r)) P (lone (b.atR a (.code p::.inLoop p::k)) cs w) b k cs e fY w':=by
  intro m
  induction m using Nat.strongRecOn with
  | _ m bm=>
   intro gz st' a w bF b4;obtain⟨e,gY,gG,bd,eR⟩:=round gz m st' bF a w b4 b (.inLoop p::k) cs mr aw aK;cases e with
   | normal=>
    obtain⟨vU,hs,j5,cO,X8,F9⟩:=bd;obtain⟨vn,qt,od,pS,qu⟩:=bm hs cO vU j5 gY gG X8 F9;exact⟨vn,qt,od,pS,.of_steps (StepsIn.trans eR (.one (fenced_calm aw aK rfl) stepR_inLoop)) qu⟩
   | exit id=>exact⟨_,gY,gG,bd,.pass (x:=.inLoop p) rfl (λ_ _=>.inl bj) eR⟩
   | goto l=>exact⟨_,gY,gG,bd,.pass (x:=.inLoop p) rfl (λ_ _=>.inl bj) eR⟩
   | ret=>exact⟨_,gY,gG,bd,.pass (x:=.inLoop p) rfl (λ_ _=>.inl bj) eR⟩
   | panic ch=>exact⟨_,gY,gG,bd,.pass (x:=.inLoop p) rfl (λ_ _=>.inl bj) eR⟩
   | outgrown=>exact⟨_,gY,gG,bd,.pass (x:=.inLoop p) rfl (λ_ _=>.inl bj) eR⟩
 obtain⟨e,fY,w',bd,eR⟩:=key X3 hP X4 a w X5 (s.weaken (j3 X6) X7);exact⟨e,fY,w',bd,.of_steps (.one (fenced_calm aw aK rfl) stepR_loop) eR⟩
theorem aR.pe(gz:List Nat){J:Nat->dn->Prop}{m hs:Nat}{st':dn}(bF:J hs st')(hm:hs<m)(he:mV st'.env st.env)(b0:(st'.H++(hO gz++Hx)).Sublist st.H):
  aR (qV B cl aO n gz) st .normal (Exit.then (λa w=>∃vU hs j5,hs<m/\J hs j5/\Sat (qV B cl aO n vU) ⟨j5.env,j5.H++(hO vU++Hx)⟩ a w) Q):=
 λa w s=>⟨gz,hs,st',hm,bF,s.weaken (j3 he) b0⟩
theorem Oo{fn:Func}{R:Ending->World->Prop}{tmps:Array Value}{H:List aj}{I:a8}:∀(gz:List Nat) (w:World),ck B I w->Ext B cl aO I w->br B I w (hO gz++H)->
  (∀w',ck B I w'->Ext B cl aO I w'->br B I w' H->fb I w I w'->LeavesIn (bb none) 0 P fn tmps R [] .returning w')->LeavesInM (bb none) 0 P fn tmps R (gz.map mark) .returning w
 | [],w,hw,he,az,k=>k w hw he az ⟨λ_ _ x=>x,λ_ _ _=>rfl⟩
 | D::gz,w,hw,he,az,k=>by
  obtain⟨bE,aw,cu⟩:=az.ok _ (.head _);have ao:fb I w I (w.putObj D (.deferred none)):=qJ (B:=B) cu;have fZ:hq (hO (D::gz)++H) (.obj D (.deferred (some []))) (hO gz++H):=hq.head _ _;have cW:br B I (w.putObj D (.deferred none)) (hO gz++H):=by
   refine (az.sub fZ.sub).bQ ao (λf aP b kR=>World.putObj_heap_other (λe=>?_)) (λ_ _ _ _ _ x=>x);subst e;exact fZ.apart az.apart f aP _ rfl kR
  exact⟨bj,.inl ⟨D,_,rfl,run_takeDeferred aw,Oo gz _ (hw.putObj cu) (he.trans (Ext.putObj bE cu)) cW λw' a b c d=>k w' a b c ⟨λ_ _ x=>x,λb o x=>(d.cell b o x).trans (ao.cell b o x)⟩⟩⟩
theorem aR.l9(gz:List Nat)(dK Hx:List aj){fn:Func}{bw:aa->List aj->Prop}{E:aa->List aj->Prop}{rs:List ResultVar}{ys bY:List aa}{H':List aj}(aK:fn.results=rs.toArray)(aH:(dK++(hO gz++Hx)).Sublist st.H)(h:jy P ⟨st.env,dK++Hx⟩ rs ys)(hle:bO ys bY)
  (b0:H'.Sublist (dK++Hx)) (fE:bw (kU bY) H'):aR (qV B cl aO n gz) st .ret (bodyPostM (bb none) 0 P fn (fD B cl aO bw E)):=by
 intro a w s;obtain⟨I,hw,he,az,aC⟩:=s.mem;show LeavesInM _ _ _ _ _ _ a.defers _ _;rw[show a.defers=gz.map mark from s.ds];refine Oo (H:=dK++Hx) gz w hw he ((az.sub aH).perm (List.perm_append_comm_assoc _ _ _)) λw' dc cc cW ao=>?_;obtain⟨v,ab,ae⟩:=h.res (c:=⟨B,cl,aO,n,[]⟩) (st:=⟨st.env,dK++Hx⟩) cW (aC.bQ ao) aK;exact⟨v,ab,I,H',dc,cc,cW.sub b0,.inl ⟨v,_,rfl,hle.kU _ _ _ ae,fE⟩⟩
theorem aq.rO{α:Type}{t p:Nat}{assign body:Code}{f:FuncId}{mo:List aa}(gz:List Nat)(enc:Nat->α->aa)(own:Nat->α->List aj)(L:List α)(J:List α->List aj->Prop)(Jx:Code->List α->List aj->Prop)(H Hx:List aj)(fF:Nat->α->List (Nat×aa))
  (aK:r=none) (b0:st.H=H++(hO gz++Hx)) (al:aX st.env t=some (.fn (.func f) [] mo)) (aB:Nat.blt p n=true) (vB:C1 B P (.fn (.func f) [] mo) enc own L) (bF:J [] H)
  (vC:∀(l:Nat) (I:a8) (w:World) (k:Nat) (x:α) (c0:List aj),aq ⟨B,I,w,n,[]⟩ (some l) P assign ⟨(p,enc k x)::st.env,c0⟩ (Exit.then (λa w'=>∃st',st'=(⟨fF k x,c0⟩:dn)/\Sat ⟨B,I,w,n,[]⟩ st' a w') (λ_ _ _=>False)))
  (round:∀(l D:Nat) (dw:Loop) (pre:List α) (k:Nat) (x:α) (H1 c0:List aj) (I:a8) (w:World),pre++[x]<+:L->J pre H1->
   aq ⟨B,I,w,n,[]⟩ (some l) P body ⟨fF k x,.loop l dw (aX st.env)::.obj D (.deferred (some []))::(H1++(own k x++c0))⟩ (xU B I w l D dw (aX st.env) J Jx (pre++[x]) (own k x++c0)))
  (done:∀(D:Nat) (H1:List aj),J L H1->aR (qV B cl aO n (D::gz)) ⟨st.env,H1++(hO (D::gz)++Hx)⟩ .normal Q)
  (jump:∀(D:Nat) (code:Code) (pre:List α) (H1:List aj),pre<+:L->Jx code pre H1->aq (qV B cl aO n (D::gz)) r P code ⟨st.env,H1++(hO (D::gz)++Hx)⟩ Q):
  aq (qV B cl aO n gz) r P (.rangeFunc (.tmp t) #[p] assign body) st Q:=by
 refine aq.M1 (c:=qV B cl aO n gz) enc own L J Jx H (hO gz++Hx) fF aK b0 al aB vB bF vC round (λD H1 bF a w s=>?_) (λD code pre H1 e9 bF a w s=>?_)
 ·exact done D H1 bF a w ⟨s.ds,s.size,let ⟨I,cI,a2,a3,a4⟩:=s.mem;⟨I,cI,a2,a3.perm List.perm_middle.symm,a4⟩⟩
 ·exact jump D code pre H1 e9 bF a w ⟨s.ds,s.size,let ⟨I,cI,a2,a3,a4⟩:=s.mem;⟨I,cI,a2,a3.perm List.perm_middle.symm,a4⟩⟩
end
section
variable{c:Ctx}{r:Option Nat}{P:Program}{st:dn}{Q:Exit->Act->World->Prop}
theorem aq.Oq{p:Code}{b t:Nat}{cs ds:List aa}{H':List aj}(hu:bu st.H (.aI b t cs) (.aI b t ds) H')(hle:bO cs ds)(h:aq c r P p ⟨st.env,H'⟩ Q):aq c r P p st Q:=λa w s=>by
 refine h a w ?_;obtain⟨I,hw,he,az,aC⟩:=s.mem;obtain⟨dg,us,dh,ea,gP⟩:=az.ok _ hu.mem;exact⟨s.ds,s.size,I,hw,he,az.gH hu ⟨λ_ _ x=>x,λ_ _ _=>rfl⟩ (λ_ _ _=>rfl) (λ_ _ x=>.inl x) ⟨dg,us,dh,hle.rel ea,gP⟩ (λ_ x=>.inl x),aC⟩
end
section
variable{P:Program}
theorem dC.ofM{B:Nat}{f:FuncId}{fn:Func}{code:Code}{xs:List aa}{H:List aj}{bw:aa->List aj->Prop}{E:aa->List aj->Prop}{n:Nat}(aP:P.funcs[f]? =some fn)(aw:fn.body=some code)(qp:(fn.name== "runtime.NumGoroutine")=false)
  (hn:fn.ntmps=n) (ax:Nat.ble xs.length n=true) (h:∀I w,aq ⟨B,I,w,n,[]⟩ none P code ⟨oi 0 xs,H⟩ (bodyPostM (bb none) 0 P fn (fD B I w bw E))):dC B P f xs H bw E:=by
 refine⟨ve,λI w vs hw az aC=>vk (n:=0) (callsIn_of_wp_marks aP aw trivial ?_ rfl)⟩;refine h I w _ w ⟨rfl,?_,I,hw,Ext.refl _ _ _,az,λt y hy=>?_⟩
 ·have:=aC.length;have:=Nat.le_of_ble_eq_true ax;simp;omega
 ·obtain⟨v,ab,ae⟩:=aC.get zl;have:(vs.toArray++Array.replicate (fn.ntmps - vs.toArray.size) undef).getD t undef=v:=by
   have cO:=(List.getElem?_eq_some_iff.1 ab).1;simp only[Array.getD_eq_getD_getElem?];rw[Array.getElem?_append_left xL];simp[ab]
  rw[this];exact ae
end
class Ot (P:Program) (t:Nat):Prop where h:P.underlying t=some (.pointer (P.pointee t))
class DC (P:Program) (t:Nat) (x:outParam (Nat×Nat)):Prop where
 h:P.underlying t=some (.map x.1 x.2)
 key:Go.Maps.Keyed P x.1
 zero:((P.info? x.2).bind (·.zero))=some (.bool false)
theorem X9{P:Program}{k i m:Nat}(hm:P.types.size=m+2)(av:P.underlying i=some (.int .i64))(ao:P.underlying k=some (.array 2 i))(Ag:P.cellsOf k=2)(ci:P.cellsOf i=1)(G3:P.keyType k=true){a b:Int}
  (bN:(Go.Lit.int .i64 a).wf=true) (aw:(Go.Lit.int .i64 b).wf=true):e0 P k (.agg #[.int .i64 a,.int .i64 b]):=by
 have G4:(Value.agg #[.int .i64 a,.int .i64 b]).formed P k=true:=by simp[Value.formed,ao,Ag]
 have G5:P.keyLits (P.types.size+1) k [.int .i64 a,.int .i64 b]=some [.int .i64 a,.int .i64 b]:=by
  rw[hm];simp[Program.keyLits,ao,av,Ag,ci,bN,aw,List.range,List.range.loop]
 exact⟨.string (keyBytes [.int .i64 a,.int .i64 b]),by
  have ak:(Value.agg #[.int .i64 a,.int .i64 b]).cells.toList= [.int .i64 a,.int .i64 b]:=rfl;simp only[keyOf,ao,G3,G4,Bool.and_self,if_true,ak,G5,Option.map_some]⟩
section
variable{c:Ctx}{r:Option Nat}{P:Program}{ops:Array Oper}{l rest:List Oper}{o:Oper}{env:List (Nat×aa)}{H:List aj}{Q:Exit->Act->World->Prop}{d:Nat}{ρ:Nat->Option aa}
theorem Ya{t:TypeId}{x dN:Operand}{b:Nat}{ke:Nat×Nat}{κ:Value->aa}{vs:List Value}{y:aa}{g1 g2:Bool}[bT:DC P t ke](h:o.op= .lookup t x dN true)
  (ag:bf ρ x=some (g1,.val (.map (some b)))) (dB:g1=true) (ao:bf ρ dN=some (g2,y)) (dY:g2=true) (hy:aL y (.agg (vs.map .val))) (hm:aj.gX b (e0 P ke.1) κ∈H) (kB:e0 P ke.1 (.agg vs.toArray)) {z:Bool} (HT:κ (.agg vs.toArray)= .b z):
  ∀(B:Nat) (I:a8) (w:World) (r:Option Nat) (a:Act) (eo:List aj),ck B I w->br B I w eo->(∀e∈H,e∈eo)->gi I w ρ a o->
   cM P r o a w (λv w'=>w'=w/\(v= .tuple #[.bool z,.bool true]\/v= .tuple #[.bool false,.bool false])) (λ_ _=>False):=by
 intro B I w r a eo hw az aH aA;have hM:=ct (aA.get cx ag dB);have gw:a.eval dN= .agg vs.toArray:=by
  have ai:=hy _ _ _ (aA.get cx ao dY);generalize a.eval dN=u at ai;cases ai with
  | agg _ us aK=>have:=p1 aK;rw[<-this]
 obtain⟨bE,⟨cv,dS,aw,o4⟩,cu⟩:=az.ok _ (aH _ hm);obtain⟨sO,ia⟩:=kB;have fe:∀e∈cv.toList,∃l,keyOf P ke.1 e.key=some l:=λe he=>(o4 e he).1;have dQ:=bT.key.check w cv.isEmpty ia;have iv:(getObj b).run P w= .ok (.map cv dS) w:=by simp[getObj,Sem.run,aw]
 rcases bT.key.find w ia cv.toList fe with⟨aP,bq⟩ | ⟨j,e,aP,aU,kW⟩
 ·have an:=HM bT.zero w;have dW:(execOp a.eval o).run P w= .ok (.value (.tuple #[.bool false,.bool false])) w:=by
   simp[execOp,h,Instr.lookup,run_underlying bT.h,hM,gw,iv,dQ,aP,an]
  exact cM.fN cB dW ⟨rfl,.inr rfl⟩
 ·have aK:=(o4 e (List.mem_of_getElem? aU)).2;rw[kW,HT] at aK;have dW:(execOp a.eval o).run P w= .ok (.value (.tuple #[e.val,.bool true])) w:=by
   simp[execOp,h,Instr.lookup,run_underlying bT.h,hM,gw,iv,dQ,aP]
  exact cM.fN cB dW ⟨rfl,.inl (by rw[ct aK])⟩
theorem au.Ou{t:TypeId}{x dN:Operand}{b:Nat}{ke:Nat×Nat}{κ:Value->aa}{vs:List Value}{y:aa}{g1 g2:Bool}[bT:DC P t ke](cU:o.guard=none)(aN:o.dst=some d)(hn:Nat.blt d c.n=true)(h:o.op= .lookup t x dN true)
  (ag:bf (aX env) x=some (g1,.val (.map (some b)))) (dB:g1=true) (ao:bf (aX env) dN=some (g2,y)) (dY:g2=true) (hy:aL y (.agg (vs.map .val))) (hm:aj.gX b (e0 P ke.1) κ∈H) (kB:e0 P ke.1 (.agg vs.toArray)) {z:Bool} (HT:κ (.agg vs.toArray)= .b z)
  (found:au c r P ops rest ⟨(d,.bJ [.b z,.b true])::env,H⟩ Q) (Ah:au c r P ops rest ⟨(d,.bJ [.b false,.b false])::env,H⟩ Q):au c r P ops (o::rest) ⟨env,H⟩ Q:=by
 intro a w s;refine wpListIn_plain cU λK ca=>?_;obtain⟨I,hw,he,az,aC⟩:=s.mem;refine Ya h ag dB ao dY hy hm kB HT c.B I w r a H hw az (λ_ h=>h) (aC.ops o) K Q ?_ (λ_ _ h=>h.elim);have two:∀(p q:Bool) (a:Act),bZ I w [aa.b p,aa.b q] [.bool p,.bool q]:=λp q _=>.cons _ _ _ _ (.val _) (.cons _ _ _ _ (.val _) .nil);rintro v w' ⟨rfl,rfl | rfl⟩
 ·refine ca _ _ (found _ _ ⟨jr,jq,I,hw,he,az,?_⟩);have:=aC.put (dst:=some d) (x:=.bJ [.b z,.b true]) (v:=.tuple #[.bool z,.bool true]) oQ (.bJ _ _ (two _ _ a));rw[aN];exact this
 ·refine ca _ _ (Ah _ _ ⟨jr,jq,I,hw,he,az,?_⟩);have:=aC.put (dst:=some d) (x:=.bJ [.b false,.b false]) (v:=.tuple #[.bool false,.bool false]) oQ (.bJ _ _ (two _ _ a));rw[aN];exact this
theorem au.Ov{t:TypeId}{x dN z:Operand}{b:Nat}{ke:Nat×Nat}{κ:Value->aa}{vs:List Value}{y u:aa}{g1 g2 g3:Bool}[bT:DC P t ke](cU:o.guard=none)(aN:o.dst=none)(h:o.op= .mapUpdate t x dN z)
  (ag:bf (aX env) x=some (g1,.val (.map (some b)))) (dB:g1=true) (ao:bf (aX env) dN=some (g2,y)) (dY:g2=true) (hy:aL y (.agg (vs.map .val))) (an:bf (aX env) z=some (g3,u)) (sP:g3=true) (hu:aL u (κ (.agg vs.toArray)))
  (hm:aj.gX b (e0 P ke.1) κ∈H) (kB:e0 P ke.1 (.agg vs.toArray)) (next:au c r P ops rest ⟨env,H⟩ Q):au c r P ops (o::rest) ⟨env,H⟩ Q:=by
 intro a w s;refine wpListIn_plain cU λK ca=>?_;obtain⟨I,hw,he,az,aC⟩:=s.mem;have hM:=ct ((aC.ops o).get cx ag dB);have gw:a.eval dN= .agg vs.toArray:=by
  have ai:=hy _ _ _ ((aC.ops o).get cx ao dY);generalize a.eval dN=u at ai;cases ai with
  | agg _ us aK=>have:=p1 aK;rw[<-this]
 have ik:=hu _ _ _ ((aC.ops o).get cx an sP);obtain⟨bE,⟨cv,dS,aw,o4⟩,cu⟩:=az.ok _ hm;have Ai:=kB;obtain⟨sO,ia⟩:=kB;have fe:∀e∈cv.toList,∃l,keyOf P ke.1 e.key=some l:=λe he=>(o4 e he).1;have dQ:=bT.key.check w false ia;have iv:(getObj b).run P w= .ok (.map cv dS) w:=by simp[getObj,Sem.run,aw]
 have h4:∀o':Obj,(setObj b o').run P w= .ok () (w.putObj b o'):=λo'=>by simp[setObj,Sem.run,aw,World.putObj]
 have cO:b<w.heap.size:=(Array.getElem?_eq_some_iff.1 aw).1;have fin:∀(iw:Array MapEntry) (l6:Nat),(∀e∈iw.toList,e0 P ke.1 e.key/\Rel I w (κ e.key) e.val)->
   (execOp a.eval o).run P w= .ok .skip (w.putObj b (.map iw l6))->o.wpIn (bb r) 0 P a w K Q:=by
  intro iw l6 ab dW;have ao:fb I w I (w.putObj b (.map iw l6)):=qJ (B:=c.B) cu;refine cM.vl (R:=λv w'=>v=undef/\w'=w.putObj b (.map iw l6)) (E:=λ_ _=>False) cB dW ⟨rfl,rfl⟩ K Q ?_ (λ_ _ h=>h.elim);rintro v w' ⟨rfl,rfl⟩;have cW:br c.B I (w.putObj b (.map iw l6)) H:=by
   refine⟨λf aP=>?_,az.apart⟩;by_cases kR:f.eX=some b
   ·have:f= .gX b (e0 P ke.1) κ:=by
     refine Classical.byContradiction λbq=>?_;have aB:=az.apart;obtain⟨i,av,vJ⟩:=List.mem_iff_getElem.1 aP;obtain⟨j,aU,sQ⟩:=List.mem_iff_getElem.1 hm;rw[List.pairwise_iff_getElem] at aB;rcases Nat.lt_trichotomy i j with l7 | l7 | l7
     ·exact aB i j av aU l7 b (by rw[vJ];exact kR) (by rw[sQ];rfl)
     ·subst l7;rw[vJ] at sQ;exact bq sQ
     ·exact aB j i aU av l7 b (by rw[sQ];rfl) (by rw[vJ];exact kR)
    subst this;exact⟨bE,⟨iw,l6,World.putObj_heap_same cO,λe he=>⟨(ab e he).1,(ab e he).2.bQ ao⟩⟩,cu⟩
   ·exact aj.bQ (az.ok f aP) ao (λdk gr=>World.putObj_heap_other (λe=>kR (by rw[<-e];exact gr))) (λ_ _ _ x=>x)
  refine ca _ _ ?_;rw[aN];exact next _ _ ⟨s.ds,s.size,I,hw.putObj cu,he.trans (Ext.putObj bE cu),cW,aC.bQ ao⟩
 rcases bT.key.find w ia cv.toList fe with⟨aP,bq⟩ | ⟨j,e,aP,aU,kW⟩
 ·refine fin (cv.push {key:=.agg vs.toArray,val:=a.eval z,born:=dS}) (dS+1) ?_ ?_
  ·intro e he;rw[Array.toList_push] at he;rcases List.mem_append.1 he with he | he
   ·exact o4 e he
   ·simp at he;subst he;exact⟨Ai,ik⟩
  ·simp[execOp,h,Instr.mapUpdate,run_underlying bT.h,hM,gw,iv,dQ,aP,h4]
 ·have uc:cv[j]? =some e:=by simpa using aU
  have Aj:=bT.key.stays w ia;refine fin (cv.modify j λe=>{e with key:=.agg vs.toArray,val:=a.eval z}) dS ?_ ?_
  ·intro e' cc;obtain⟨i,av⟩:=List.mem_iff_getElem?.1 cc;rw[Array.getElem?_toList,Array.getElem?_modify] at av;split at av
   ·cases ag:cv[i]? with
    | none=>simp[ag] at av
    | some aW=>simp[ag] at av;subst av;exact⟨Ai,ik⟩
   ·exact o4 e' (List.mem_of_getElem? rr)
  ·simp[execOp,h,Instr.mapUpdate,run_underlying bT.h,hM,gw,iv,dQ,aP,h4,uc,kW,Aj]
theorem br.gX{B:Nat}{I:a8}{w:World}{b:Nat}{js:Value->Prop}{κ:Value->aa}{H':List aj}(az:br B I w H)(hu:bu H (.map b []) (.gX b js κ) H'):br B I w H':=
 az.sV hu (λ⟨bE,⟨cv,dS,aw,ka,_⟩,cu⟩=>⟨bE,⟨cv,dS,aw,λe he=>by
  have ai:e.key∈cv.toList.map (·.key):=List.mem_map_of_mem he;rw[ka] at ai;cases ai⟩,cu⟩) (λ_ h=>h)
theorem aq.gX{p:Code}{b:Nat}(js:Value->Prop)(κ:Value->aa){H':List aj}(hu:bu H (.map b []) (.gX b js κ) H')(h:aq c r P p ⟨env,H'⟩ Q):aq c r P p ⟨env,H⟩ Q:=λa w s=>by
 obtain⟨I,hw,he,az,aC⟩:=s.mem;exact h a w ⟨s.ds,s.size,I,hw,he,az.gX hu,aC⟩
def nM(v:Value)(i k:Nat):Value:=match v with
 | .slice (some a) _ _=>.pointer (some ⟨a.block,i*k,none⟩)
 | _=>undef
theorem af.jF{t tb:TypeId}{x y:Operand}{k n:Nat}{v:Value}{cs:List aa}{dV:IntKind}{i:Int}{cC cR:Bool}[ht:ft P t k](h:o.op= .indexAddr t x y)(ag:bf ρ x=some (cC,.val v))(dG:cC=true)(hy:bf ρ y=some (cR,.val (.int dV i)))(dX:cR=true)(hm:aj.row tb k v n cs∈H)(ai:0<=i/\i<n):af P H ρ o (.val (nM v i.toNat k)):=by
 refine .xO cB λB I w f b0 aA=>?_;have ab:=ct (aA.get cx ag dG);have ae:=ct (aA.get cx hy dX);obtain⟨b,cap,more,rfl,_⟩:=aj.vO ad (b0 _ hm);refine⟨.pointer (some ⟨b,0+i.toNat*k,none⟩),by simp[execOp,h,ab,ae,Gc ht.h b 0 n cap dV i ai.1 ai.2 w],?_⟩;rw[Nat.zero_add];exact .val _
theorem af.m9{t tb:TypeId}{x:Operand}{v:Value}{n i m:Nat}{cs:List aa}{y:aa}{g:Bool}[ht:dy P t (false,m)](h:o.op= .load t x)(ag:bf ρ x=some (g,.val (nM v i 1)))(al:g=true)(hm:aj.row tb 1 v n cs∈H)(hy:cs[i]? =some y):af P H ρ o y:=by
 refine .xO cB λB I w f b0 aA=>?_;have hlen:∃xs:List Value,xs.length=n*1/\bZ I w cs xs:=by
  obtain⟨xs,fx,aK,_⟩:=b0 _ hm;exact⟨xs,fx.1,aK⟩
 obtain⟨xs,yi,aK⟩:=hlen;have a1:i<cs.length:=(List.getElem?_eq_some_iff.1 hy).1;have hn:n≠0:=by have:=aK.length;omega
 obtain⟨b,cap,more,rfl,_,_,_,_,jc⟩:=aj.vO hn (b0 _ hm);have ab:=ct (aA.get cx ag al);obtain⟨_,vs,ae,aD,_⟩:=jc;obtain⟨u,aV,bl⟩:=aD.get (i:=i) (x:=y) (by rw[List.getElem?_append_left a1];exact hy);refine⟨u,?_,bl⟩;have e:nM (.slice (some ⟨b,0,none⟩) n cap) i 1= .pointer (some ⟨b,i,none⟩):=by simp[nM]
 rw[e] at ab;simp[execOp,h,ab,Instr.loadAt,Instr.sureAddr,zu ht.h b i u w (by rw[kQ ae];simpa using aV)]
theorem bu.x7{B:Nat}{I:a8}{w:World}{t k n:Nat}{v:Value}{cs:List aa}{H':aj->List aj}(hn:n≠0)(az:br B I w H)(hu:∀e,bu H (.row t k v n cs) e (H' e)):
  ∃b cap more,v= .slice (some ⟨b,0,none⟩) n cap/\n<=cap/\cap<=maxLen/\(cs++more).length=cap*k/\cs.length=n*k/\br B I w (H' (.aI b t (cs++more))):=by
 obtain⟨b,cap,more,rfl,ab,ae,aD,aV,bl⟩:=aj.vO hn (az.ok _ (hu default).mem);exact⟨b,cap,more,rfl,ab,ae,aD,aV,az.sV (hu _) (λ_=>bl) (λx ag=>ag)⟩
theorem b1.row{f:FuncId}{t n i:Nat}{v:Value}{cs ds:List aa}{pre post:List aa}{H':aj->List aj}{F:List aj->List aj}{y:aa}(hF:∀H db:List aj,∀e e':aj,bu H e e' db->bu (F H) e e' (F db))(av:i<n)(hds:ds.length=cs.length)(hu:∀e,bu H (.row t 1 v n cs) e (H' e))
  {G:List aj->List aj} (c8:∀H db:List aj,∀e e':aj,bu H e e' db->bu (G H) e e' (G db))
  (h:∀b cap more,v= .slice (some ⟨b,0,none⟩) n cap->b1 P f (pre++.p b i::post) (F (H' (.aI b t (cs++more)))) (λx dK=>x=y/\dK=G (H' (.aI b t (ds++more)))) (λ_ _=>False))
  (m4:∀e e',bu (H' e) e e' (H' e')) (cA:nt P f=true):
  b1 P f (pre++.val (nM v i 1)::post) (F H) (λx dK=>x=y/\dK=G (H' (.row t 1 v n ds))) (λ_ _=>False):=by
 refine⟨cA,λB I w vs hw az dT=>?_⟩;obtain⟨b,cap,more,rfl,ab,ae,aD,aV,bl⟩:=bu.x7 (H:=F H) (H':=λe=>F (H' e)) ad az (λe=>hF _ _ _ _ (hu e));have e:nM (.slice (some ⟨b,0,none⟩) n cap) i 1= .pointer (some ⟨b,i,none⟩):=by simp[nM]
 rw[e] at dT;refine ((h b cap more rfl).2 B I w vs hw bl dT).mono λe' w' aK=>?_;obtain⟨aQ,dK,dc,cc,cW,aK⟩:=aK;rcases aK with⟨u,x,rfl,ag,rfl,rfl⟩ | ⟨u,x,rfl,_,e5⟩
 ·refine⟨aQ,_,dc,cc,cW.sV (c8 _ _ _ _ (m4 (.aI b t (ds++more)) (.row t 1 (.slice (some ⟨b,0,none⟩) n cap) n ds))) (λaw=>aj.NG ab ae (by simp only[List.length_append] at*;omega) ad aw) (λx ag=>ag),.inl ⟨u,x,rfl,ag,rfl,rfl⟩⟩
 ·exact e5.elim
theorem b1.named{f:FuncId}{xs:List aa}{bw:aa->List aj->Prop}{E:aa->List aj->Prop}(h:b1 P f xs H bw E):b1 P f xs H (λy H'=>∃v x,y= .val v/\bw x H') E:=by
 refine⟨h.1,λB I w vs hw az dT=>((h.2 B I w vs hw az dT).mono λe' w' aK=>?_)⟩;obtain⟨aQ,dK,dc,cc,cW,aK⟩:=aK;refine⟨aQ,dK,dc,cc,cW,?_⟩;rcases aK with⟨u,x,ab,ag,fE⟩ | aK
 ·exact .inl ⟨u,.val u,ab,.val u,u,x,rfl,fE⟩
 ·exact .inr aK
theorem b1.yj{f:FuncId}{xs:List aa}{bw jd:aa->List aj->Prop}{E:aa->List aj->Prop}(h:b1 P f xs H bw E)(bd:∀y H',(∃B I w,br B I w H')->bw y H'->jd y H'):b1 P f xs H jd E:=by
 refine⟨h.1,λB I w vs hw az dT=>((h.2 B I w vs hw az dT).mono λe' w' aK=>?_)⟩;obtain⟨aQ,dK,dc,cc,cW,aK⟩:=aK;exact⟨aQ,dK,dc,cc,cW,aK.imp (λ⟨v,x,ab,ae,aD⟩=>⟨v,x,ab,ae,bd _ _ ⟨_,_,_,cW⟩ aD⟩) id⟩
theorem ba.Ow{f:FuncId}{xs:List aa}{k:Nat}(h:ba P f xs (.aF k []))(H:List aj):b1 P f xs H (λy H'=>∃a c,y= .val (.slice a 0 c)/\H'=H) (λ_ _=>False):=by
 have h:=h H;refine⟨h.1,λB I w vs hw az dT=>((h.2 B I w vs hw az dT).mono λe' w' aK=>?_)⟩;obtain⟨aQ,dK,dc,cc,cW,aK⟩:=aK;refine⟨aQ,dK,dc,cc,cW,?_⟩;rcases aK with⟨u,x,ab,ag,rfl,rfl⟩ | aK
 ·refine .inl ⟨u,.val u,ab,.val u,?_⟩;cases ag with
  | eP=>exact⟨_,_,rfl,rfl⟩
  | aF _ _ b off len cap ax=>cases ax;exact⟨_,_,rfl,rfl⟩
 ·exact .inr aK
theorem af.Yb{x:Operand}{t:TypeId}{cJ n:Nat}{v:Value}{g:Bool}[ht:ft P t cJ](aC:∃a c,v= .slice a n c)(h:o.op= .call {callee:=.builtin .len,args:=#[x],argTypes:=#[t]})(ag:bf ρ x=some (g,.val v))(al:g=true):af P H ρ o (.i n):=by
 obtain⟨a,c,rfl⟩:=aC;exact .Cv h ag al
theorem af.Yc{t dR:TypeId}{x y:Operand}{cs:List aa}{cC cR:Bool}[ht:Ot P t](h:o.op= .binOp .neq t x y dR)(ag:bf ρ x=some (cC,.ptr cs))(dG:cC=true)(hy:bf ρ y=some (cR,.val (.pointer none)))(dX:cR=true):af P H ρ o (.b true):=by
 refine .same cB λI w f aA=>?_;have ab:=aA.get cx ag dG;have ae:=ct (aA.get cx hy dX);generalize aC:f.eval x=u at ab;cases ab with
 | ptr _ b o' ak=>exact⟨.bool true,by simp[execOp,h,aC,ae,eqGuard,run_neq_pointer_nil w t (some ⟨b,o',none⟩) ht.h],.val _⟩
theorem b1.heap{f:FuncId}{xs:List aa}{bw jd:aa->List aj->Prop}{E:aa->List aj->Prop}(h:b1 P f xs H bw E)(bd:∀y H1,bw y H1->∃db,jd y db/\∀B I w,br B I w H1->br B I w db):b1 P f xs H jd E:=by
 refine⟨h.1,λB I w vs hw az dT=>((h.2 B I w vs hw az dT).mono λe' w' aK=>?_)⟩;obtain⟨aQ,dK,dc,cc,cW,aK⟩:=aK;rcases aK with⟨v,x,ab,ae,aD⟩ | aK
 ·obtain⟨db,a,b⟩:=bd _ _ aD;exact⟨aQ,db,dc,cc,b _ _ _ cW,.inl ⟨v,x,ab,ae,a⟩⟩
 ·exact⟨aQ,dK,dc,cc,cW,.inr aK⟩
theorem au.HU{t tb n i:Nat}{p z:Operand}{v:Value}{y:aa}{l3 g:Bool}{cs ds:List aa}{H':aj->List aj}{agg:Bool}[ht:dy P t (agg,1)](cU:o.guard=none)(aN:o.dst=none)(h:o.op= .store t p z)
  (aB:bf (aX env) p=some (l3,.val (nM v i 1))) (oU:l3=true) (an:bf (aX env) z=some (g,y)) (al:g=true) (aw:ha y=true) (ab:eG (dq y)=true) (qO:Nat.beq (dq y).length 1=true)
  (hu:∀e,bu H (.row tb 1 v n cs) e (H' e)) (m4:∀e e',bu (H' e) e e' (H' e')) (av:i<n) (AL:cs.length=n) (hds:∀more,(cs++more).take i++dq y++(cs++more).drop (i+1)=ds++more) (tP:ds.length=cs.length)
  (next:au c r P ops rest ⟨env,H' (.row tb 1 v n ds)⟩ Q):au c r P ops (o::rest) ⟨env,H⟩ Q:=λa w s=>by
 obtain⟨I,hw,he,az,aC⟩:=s.mem;obtain⟨b,cap,more,qG,dg,dh,ea,gP,sH⟩:=bu.x7 ad az hu;have lz:nM v i 1= .pointer (some ⟨b,i,none⟩):=by simp[nM,qG]
 rw[lz] at aB;refine au.j9 (tb:=tb) (cs:=cs++more) (ds:=ds++more) cU aN h aB oU an al aw ab qO (m4 _ _) (Nat.ble_eq_true_of_le (by rw[List.length_append];omega)) (hds more) (λfY w' HV=>?_) a w ⟨s.ds,s.size,I,hw,he,sH,aC⟩;obtain⟨aQ,dc,cc,cW,GO⟩:=HV.mem;refine next fY w' ⟨HV.ds,HV.size,aQ,dc,cc,cW.sV (m4 _ _) (λaw=>?_) (λx ag=>by rw[qG] at ag;exact ag),GO⟩;rw[qG];exact aj.NG dg dh (by simp only[List.length_append] at*;omega) ad aw
theorem Yd{t m:Nat}(ht:vq P t=some (m,1))(b o n:Nat)(dV:IntKind)(ab:n<=m)(w:World):(Instr.sliceAt t (.pointer (some ⟨b,o,none⟩)) none (some (.int dV (n:Int))) none).run P w= .ok (.slice (some ⟨b,o,none⟩) n m) w:=by
 unfold vq at ht;split at ht
 ·rename_i Nn e hu;cases kP:P.info? e with
  | none=>simp[kP] at ht
  | some inf=>
   simp only[kP,Option.map_some,Option.some.injEq,Prod.mk.injEq] at ht;obtain⟨rfl,_⟩:=ht;have gF:(Addr.add ⟨b,o,none⟩ 0)=⟨b,o,none⟩:=rfl;simp[Instr.sliceAt,Instr.sureAddr,run_underlying hu,Instr.sliceBounds,Instr.sliceBound,asIntOf,sizeOf,typeInfo,kP,ab,gF]
 ·cases ht
theorem DD{α:Type}(cs:List α):(cs.map λx=>[x]).flatten=cs:=by
 induction cs with
 | nil=>rfl
 | cons x r bm=>rw[List.map_cons,List.flatten_cons,bm];rfl
theorem af.Ye{t:TypeId}{x y:Operand}{cs:List aa}{n m:Nat}{cC cR:Bool}{dV:IntKind}[ht:vu P t (m,1)](h:o.op= .slice t x none (some y) none)(ag:bf ρ x=some (cC,.ptr cs))(dG:cC=true)(hy:bf ρ y=some (cR,.val (.int dV (n:Int))))(dX:cR=true)(ab:n<=m)(ae:m<=maxLen)(aD:n<=cs.length):
  af P H ρ o (.aF 1 ((cs.take n).map λc=>[c])):=by
 refine .same cB λI w f aA=>?_;have dg:=aA.get cx ag dG;have dh:=ct (aA.get cx hy dX);generalize aC:f.eval x=u at dg;cases dg with
 | ptr _ b o' ak=>
  refine⟨.slice (some ⟨b,o',none⟩) n m,by simp[execOp,h,aC,dh,Yd ht.h b o' n dV ab w],?_⟩;refine .aF _ _ _ _ _ _ (by rw[List.length_map,List.length_take];omega) ab ae ?_;exact oj _ _ (λe he=>by obtain⟨z,_,rfl⟩:=List.mem_map.1 he;rfl) (by rw[DD];exact ak.take n)
end
theorem et.Yf{X:jP}{P:Program}{H:List aj}{ρ:Nat->Option aa}{o:Oper}{f:FuncId}{ys:List aa}{z:aa}{F:Value->List aj}{H':Value->List aj}{x:Value->aa}(ak:gZ P ρ o f ys)(h:∀B,dC B P f ys H (λy H1=>∃dr,y= .as z dr/\H1=F dr) (λ_ _=>False))(b0:∀v,H' v=F v)(ag:∀v,x v= .as z v):et X P H H' x ρ o:=λB I w r a hw az aA=>
 (x3 (c:=⟨B,I,w,0,[]⟩) ak (h B) hw az aA).mono (λv w' hR=>by
  obtain⟨aQ,db,y,cI,a2,a3,a4,dr,rfl,rfl⟩:=hR;have e:dr=v:=by cases a4;rfl
  subst e;exact⟨aQ,cI,a2,by rw[b0];exact a3,by rw[ag];exact a4⟩) (λ_ _ h=>h.elim)
section
variable{P:Program}{H:List aj}{ρ:Nat->Option aa}{o:Oper}
theorem af.Yg{s z:Operand}{t tx e k dA cJ:Nat}{els news:List (List aa)}{cX:Option Addr}{y:aa}{g1 g2:Bool}[cy:hv P t (e,k,dA)][je:ft P tx cJ](h:o.op= .call {callee:=.builtin .append,args:=#[s,z],argTypes:=#[t,tx]})
  (aH:bf ρ s=some (g1,.as (.aF k els) (.slice cX els.length els.length))) (dB:g1=true) (an:bf ρ z=some (g2,y)) (dY:g2=true) (hy:aL y (.aF k news)) (ab:news.all eG=true) (bq:news≠ []) (aw:(els.length+news.length)*dA<=140737488355328) (gr:els.length+news.length<=9223372036854775807):af P H ρ o (.aF k (els++news)):=by
 intro B I w r a eo hw az _ aA;obtain⟨i,zv,hu,av,l2,eH,lx,jv,jw⟩:=qB cy.h;obtain⟨e',_,qC,_⟩:=pU je.h;obtain⟨lZ,hold⟩:a.eval s= .slice cX els.length els.length/\Rel I w (.aF k els) (.slice cX els.length els.length):=by
  have ai:=aA.get ig aH dB;generalize a.eval s=u at ai;cases ai with | as _ _ ag=>exact⟨rfl,ag⟩
 have qF:=hy _ _ _ (aA.get ig an dY);obtain⟨us,aS,ee⟩:=zM (P:=P) (tx:=tx) qC qF ab;rw[<-eH] at ee;have ir:=qF.zO;have gj:=hold.zO;have sF:0<news.length:=List.length_pos_iff.2 bq;obtain⟨olds,ed,rB⟩:∃olds:List Value,bZ I w els.flatten olds/\(Builtin.firstCells i.size els.length (.slice cX els.length els.length)).run P w.drew= .ok olds.toArray w.drew:=by
  generalize aC:Value.slice cX els.length els.length=v at hold;cases hold with
  | eP _ a c=>
   cases aC;refine⟨[],.nil,?_⟩;cases cX with
   | none=>simp[Builtin.firstCells]
   | some cX=>exact run_firstCells_some w.drew i.size 0 cX 0 0 [] bj bj
  | aF _ _ b off len cap ax ak hm e5=>
   cases aC;obtain⟨vs,dg,dh,ea⟩:=e5.values;exact⟨vs,dg,run_firstCells_some w.drew i.size els.length _ _ _ vs (by rw[dh,eH]) (λj v aU=>ea j v aU)⟩
 have cO:els.length<els.length+news.length:=by omega
 have kT:Builtin.nextslicecap (els.length+news.length) els.length*i.bytes<=281474976710656:=growslice_fits cO (by rw[lx];exact aw);have aK:=run_append_grow_src (P:=P) w t tx o.type e i zv hu av l2 cX els.length els.length olds rB (a.eval z) news.length us ee cO ad kT;generalize c8:grownCap w (els.length+news.length) els.length e=G at aK;have oX:els.length+news.length<=G:=by rw[<-c8];exact grownCap_ge w _ _ e
 have im:G<=maxLen:=by rw[<-c8];exact grownCap_le_maxLen w _ _ e lu
 obtain⟨cI,a2,a3,a4⟩:=a8.vj hw.drew e ((olds++us).toArray++Builtin.zeroCells zv.cells (G - (els.length+news.length)));have fc:fb I w I w.drew:=⟨λ_ _ x=>x,λ_ _ _=>rfl⟩;have kM:=l1 (I:=I) (w:=w.drew) (Builtin.zeroCells zv.cells (G - (els.length+news.length))).toList;have sE:=a4 ((els.flatten++news.flatten)++(Builtin.zeroCells zv.cells (G - (els.length+news.length))).toList.map .val) (by simpa using ((ed.bQ fc).append (aS.bQ fc)).append kM);have jx:=sE.take (els.flatten++news.flatten).length;rw[List.take_left] at jx;have hlen:∀x∈els++news,x.length=k:=λx ag=>(List.mem_append.1 ag).elim (gj x) (ir x);refine cM.fN cB (tT h a w CS) ⟨_,cI,(Ext.trans ⟨fc.j0,fc.cell,(Below.refl _ _).drew⟩ a2),a3 _ az.drew,.aF _ _ _ _ _ _ (by rw[List.length_append]) oX im (oj (els++news) 0 hlen (by rw[List.flatten_append];exact jx))⟩
end
section
variable{c:Ctx}{r:Option Nat}{P:Program}{ops:Array Oper}{rest:List Oper}{o:Oper}{env:List (Nat×aa)}{H:List aj}{Q:Exit->Act->World->Prop}{d:Nat}
theorem au.clip{t:TypeId}{x y z:Operand}{k:Nat}{els:List (List aa)}{cC cR ye:Bool}{lF Az:IntKind}[ht:ft P t k](cU:o.guard=none)(aN:o.dst=some d)(hn:Nat.blt d c.n=true)(h:o.op= .slice t x none (some y) (some z))(ag:bf (aX env) x=some (cC,.aF k els))(dG:cC=true)
  (hy:bf (aX env) y=some (cR,.val (.int lF (els.length:Int)))) (dX:cR=true) (an:bf (aX env) z=some (ye,.val (.int Az (els.length:Int)))) (HG:ye=true)
  (next:∀cX,au c r P ops rest ⟨(d,.as (.aF k els) (.slice cX els.length els.length))::env,H⟩ Q):au c r P ops (o::rest) ⟨env,H⟩ Q:=λa w s=>by
 refine wpListIn_plain cU λK ca=>?_;obtain⟨I,hw,he,az,aC⟩:=s.mem;have aA:=aC.ops o;have ab:=aA.get cx ag dG;have dh:=ct (aA.get cx hy dX);have ea:=ct (aA.get cx an HG);obtain⟨e,inf,mY,kP,ao⟩:=pU ht.h;obtain⟨cX,dW,ed⟩:∃cX,(execOp a.eval o).run P w= .ok (.value (.slice cX els.length els.length)) w/\Rel I w (.aF k els) (.slice cX els.length els.length):=by
  generalize hu:a.eval x=u at ab;have run:∀(cX:Option Addr) (n cap:Nat),n=els.length->n<=cap->(Instr.sliceAt t (.slice cX n cap) none (some (.int lF (els.length:Int))) (some (.int Az (els.length:Int)))).run P w= .ok (.slice (if n=0 then cX else cX.map (·.add (0*k))) n n) w:=by
   intro cX n cap hn ak;subst hn;have ai:(0:Int)<=(els.length:Int):=Int.natCast_nonneg _;simp[Instr.sliceAt,Instr.slice,run_underlying mY,Instr.sliceBounds,Instr.sliceBound,asIntOf,sizeOf,typeInfo,kP,ao,ak]
  cases ab with
  | aF _ _ b off len cap ax ak hm e5=>
   subst ax;have:=run (some ⟨b,off,none⟩) els.length cap rfl ak;have gF:(if els.length=0 then some (⟨b,off,none⟩:Addr) else (some (⟨b,off,none⟩:Addr)).map (·.add (0*k)))=some ⟨b,off,none⟩:=by split <;> simp[Addr.add]
   rw[gF] at this;exact⟨some ⟨b,off,none⟩,by simp[execOp,h,hu,dh,ea,this],.aF _ _ _ _ _ _ rfl (Nat.le_refl _) (Nat.le_trans ak hm) e5⟩
  | eP _ cX cap=>
   have:=run cX 0 cap rfl (Nat.zero_le _);rw[if_pos rfl] at this;refine⟨cX,?_,.eP _ _ _⟩;show _=Result.ok (Next.value (.slice cX 0 0)) w;simp only[execOp,h,hu,dh,ea,Option.map_none,Option.map_some,Sem.run_bind,this,Result.andThen_ok,Sem.run_pure]
 refine cM.fN (R:=λv w'=>v= .slice cX els.length els.length/\w'=w) (E:=λ_ _=>False) cB dW ⟨rfl,rfl⟩ K Q ?_ (λ_ _ h=>h.elim);rintro v w' ⟨rfl,rfl⟩;refine ca _ _ (next cX _ _ ⟨jr,jq,I,hw,he,az,?_⟩);have:=aC.put (dst:=some d) (x:=.as (.aF k els) (.slice cX els.length els.length)) (v:=.slice cX els.length els.length) oQ (.as _ _ ed);rw[aN];exact this
end
section
variable{P:Program}{H:List aj}{ρ:Nat->Option aa}{o:Oper}
theorem ow.Ox{P:Program}{o:Oper}{H H':List aj}{ρ:Nat->Option aa}{t tb:TypeId}{p z:Operand}{y y':aa}{l3 g:Bool}{b off:Nat}{cs ds:List aa}{agg:Bool}[ht:dy P t (agg,1)](h:o.op= .store t p z)
  (aB:bf ρ p=some (l3,.p b off)) (oU:l3=true) (an:bf ρ z=some (g,y)) (al:g=true) (bd:∀B I w u,br B I w H->Rel I w y u->u.oneCell'=true/\Rel I w y' u)
  (hu:bu H (.aI b tb cs) (.aI b tb ds) H') (hfit:Nat.ble (off+([y']).length) cs.length=true) (hds:cs.take off++[y']++cs.drop (off+([y']).length)=ds):ow P H H' ρ o:=by
 intro B I w r a hw az aA;subst hds;have Am:oT P t=some (agg,([y']).length):=by exact ht.h
 have vt:=ct (aA.get cx aB oU);obtain⟨dg,dh⟩:=bd B I w _ az (aA.get cx an al);have nN:(a.eval z).cells.toList= [a.eval z]:=by
  generalize a.eval z=u at dg;cases u <;> simp[Value.oneCell',Value.cells] at*
 have ik:bZ I w [y'] (a.eval z).cells.toList:=by rw[nN];exact .cons _ _ _ _ dh .nil
 obtain⟨bE,vs,jc,ed,cu⟩:=az.ok _ hu.mem;have qx:∀u∈(a.eval z).cells.toList,u.oneCell'=true:=by rw[nN];simpa using dg
 have hlen:(a.eval z).cells.toList.length=([y']).length:=ik.length;have dp:vs.size=cs.length:=by have:=ed.length;simpa using this
 have zz:off+0+(a.eval z).cells.toList.length<=vs.size:=by
  have:=Nat.le_of_ble_eq_true hfit;rw[hlen,dp];omega
 have dW:=run_storeCells_at P b off tb (a.eval z).cells.toList 0 vs w jc zz qx;obtain⟨_,eH⟩:=zt Am w;generalize pV:(vs.toList.take (off+0)++(a.eval z).cells.toList++vs.toList.drop (off+0+(a.eval z).cells.toList.length)).toArray=cur at dW;have zA:(a.eval z).cells.size=([y']).length:=by simpa using hlen
 have zB:(execOp a.eval o).run P w= .ok .skip (w.setRow b cur):=by
  simp[execOp,h,Instr.storeAt,vt,Instr.sureAddr,storeVar,eH,zA,dW]
 have hK:fb I w I (w.setRow b cur):=⟨λ_ _ x=>x,λdk o' b4=>by
  have bq:dk≠b:=λe=>by subst e;exact cu o' b4
  exact World.cell?_of_block (a:=⟨dk,o',none⟩) (setRow_other w b dk cur bq)⟩
 have sy:Ext B I w I (w.setRow b cur):=⟨hK.j0,hK.cell,⟨rfl,rfl,rfl,bj,λk ao=>setRow_other w b k cur ad⟩⟩;have dc:ck B I (w.setRow b cur):=⟨xK,λdk o' b4=>by rw[hK.cell dk o' b4];exact hw.there dk o' b4⟩;have sz:bZ I w (cs.take off++[y']++cs.drop (off+([y']).length)) cur.toList:=by
  rw[<-pV];simp only[Nat.add_zero,hlen];exact ((ed.take off).append ik).append (ed.drop _)
 have cW:br B I (w.setRow b cur) H':=by
  refine az.gH hu hK (λk ao bq=>setRow_other w b k cur (λe=>bq xN)) (λ_ _ x=>.inl x) ?_ (λk ao=>.inl ao);exact⟨bE,cur,setRow_heap w b vs cur tb (0,0) jc,sz.bQ hK,cu⟩
 exact cM.vl cB zB ⟨I,dc,sy,cW⟩
theorem Yh{B:Nat}{I:a8}{w:World}{tx e' t k n:Nat}{v:Value}{cs:List aa}(ao:P.underlying tx=some (.slice e'))(h:aj.ok B I w (.row t k v n cs))(hn:n≠0)(ab:eG cs=true):∃us,bZ I w cs us/\Src P k tx v n us w:=by
 obtain⟨b,cap,more,rfl,_,_,aD,aV,bE,vs,aw,aK,_⟩:=aj.vO hn h;obtain⟨us,bY,e,aS,ee⟩:=aK.sS;refine⟨us,aS,Src.ofSlice w ao _ _ cap us (by rw[aS.length,aV]) (λj u hu=>?_) (vr aS ab)⟩;have:(⟨b,0,none⟩:Addr).add j=⟨b,0+j,none⟩:=by unfold Addr.add;split <;> simp_all
 rw[this,kQ aw,Nat.zero_add, <-Array.getElem?_toList,e,List.getElem?_append_left (List.getElem?_eq_some_iff.1 hu).1];exact hu
theorem af.Yi{s z:Operand}{t tx e dA cJ tb n:Nat}{cs:List aa}{v:Value}{h8:aa}{g1 g2:Bool}[cy:hv P t (e,1,dA)][je:ft P tx cJ](h:o.op= .call {callee:=.builtin .append,args:=#[s,z],argTypes:=#[t,tx]})
  (aH:bf ρ s=some (g1,h8)) (dB:g1=true) (sD:aL h8 .gF) (an:bf ρ z=some (g2,.val v)) (dY:g2=true) (hm:aj.row tb 1 v n cs∈H) (hn:cs.length=n) (sF:n≠0) (ab:eG cs=true) (aw:n*dA<=140737488355328) (gr:n<=9223372036854775807):af P H ρ o (.aF 1 (cs.map λc=>[c])):=by
 intro B I w r a eo hw az DE aA;obtain⟨i,zv,hu,av,l2,eH,lx,jv,jw⟩:=qB cy.h;obtain⟨e',_,qC,_⟩:=pU je.h;obtain⟨cX,lZ⟩:∃cX,a.eval s= .slice cX 0 0:=by
  have ai:=sD _ _ _ (aA.get ig aH dB);generalize a.eval s=u at ai;cases ai;exact⟨_,rfl⟩
 have ik:=ct (aA.get ig an dY);obtain⟨us,aS,ee⟩:=Yh (P:=P) (tx:=tx) qC (az.ok _ (DE _ hm)) sF ab;rw[<-eH, <-ik] at ee;have rB:(Builtin.firstCells i.size 0 (.slice cX 0 0)).run P w.drew= .ok (#[]:Array Value) w.drew:=by
  cases cX with
  | none=>simp[Builtin.firstCells]
  | some cX=>exact run_firstCells_some w.drew i.size 0 cX 0 0 [] bj bj
 have kT:Builtin.nextslicecap (0+n) 0*i.bytes<=281474976710656:=growslice_fits ad (by rw[lx,Nat.zero_add];exact aw);have aK:=run_append_grow_src (P:=P) w t tx o.type e i zv hu av l2 cX 0 0 [] rB (a.eval z) n us ee ad ad kT;simp only[Nat.zero_add,List.nil_append] at aK;generalize c8:grownCap w n 0 e=G at aK;have oX:n<=G:=by rw[<-c8];exact grownCap_ge w n 0 e
 have im:G<=maxLen:=by rw[<-c8];exact grownCap_le_maxLen w n 0 e lu
 obtain⟨cI,a2,a3,a4⟩:=a8.vj hw.drew e (us.toArray++Builtin.zeroCells zv.cells (G - n));have fc:fb I w I w.drew:=⟨λ_ _ x=>x,λ_ _ _=>rfl⟩;have kM:=l1 (I:=I) (w:=w.drew) (Builtin.zeroCells zv.cells (G - n)).toList;have sE:=a4 (cs++(Builtin.zeroCells zv.cells (G - n)).toList.map .val) (by simpa using (aS.bQ fc).append kM);have jx:=sE.take cs.length;rw[List.take_left] at jx;exact cM.fN cB (tT h a w CS) ⟨_,cI,(Ext.trans ⟨fc.j0,fc.cell,(Below.refl _ _).drew⟩ a2),a3 _ az.drew,.aF _ _ _ _ _ _ (by rw[List.length_map];exact hn) oX im (oj _ 0 (λx ag=>by obtain⟨y,_,rfl⟩:=List.mem_map.1 ag;rfl) (by rw[DD];exact jx))⟩
theorem af.Yj{t dR:TypeId}{x y:Operand}{tb k n:Nat}{v:Value}{cs:List aa}{cC cR:Bool}(h:o.op= .binOp .eql t x y dR)(ht:qv P t=true)(ag:bf ρ x=some (cC,.val v))(dG:cC=true)(hy:bf ρ y=some (cR,.val (.slice none 0 0)))(dX:cR=true)(hm:aj.row tb k v n cs∈H)(hn:n≠0):af P H ρ o (.b false):=by
 refine .xO cB λB I w a b0 aA=>?_;obtain⟨b,cap,more,rfl,_⟩:=aj.vO hn (b0 _ hm);have ab:=ct (aA.get cx ag dG);have ae:=ct (aA.get cx hy dX);have:=run_equal_slice_nil (P:=P) w t _ (some ⟨b,0,none⟩) n cap (Gb ht);exact⟨.bool false,by simp[execOp,h,ab,ae,eqGuard,binOp,this],.val _⟩
theorem af.DF{x y:Operand}{t e dA:Nat}(n:Nat){v:Value}{dN lF:IntKind}{AA AB:Int}{g1 g2:Bool}[bT:ui P t (e,dA,v)](h:o.op= .makeSlice t x y)
  (ag:bf ρ x=some (g1,.val (.int dN AA))) (dB:g1=true) (hy:bf ρ y=some (g2,.val (.int lF AB))) (dY:g2=true) (pc:AA=(n:Int)) (cu:AB=(n:Int)) (aw:dA*n<=281474976710656) (hm:n<=maxLen):af P H ρ o (.aF 1 (List.replicate n [.val v])):=by
 subst pc;subst cu;intro B I w r a eo hw az _ aA;obtain⟨i,z,hu,av,an,ao,lx,jv⟩:=Hf bT.h;have a6:a.eval x= .int dN (n:Int):=ct (aA.get cx ag dB);have aW:a.eval y= .int lF (n:Int):=ct (aA.get cx hy dY);have dW:=run_make (P:=P) w t e i z hu av an dN lF (n:Int) (n:Int) ad ad FX (by simp[maxLen] at hm;omega);rw[jv,ao,Nat.mul_one,Int.toNat_natCast,Hg] at dW;have ab:bZ I w (List.replicate n (.val v)) (List.replicate n v):=by have:=l1 (I:=I) (w:=w) (List.replicate n v);rwa [List.map_replicate] at this
 obtain⟨cI,a2,a3,a4⟩:=a8.vj hw e (List.replicate n v).toArray;have aP:(List.replicate n [aa.val v]).flatten=List.replicate n (.val v):=by
  have:=DD (List.replicate n (aa.val v));rwa [List.map_replicate] at this
 exact cM.fN cB (v:=.slice (some ⟨w.heap.size,0,none⟩) n n) (w':=w.alloc (.cells (List.replicate n v).toArray e)) (by simp[execOp,h,a6,aW,dW]) ⟨_,cI,a2,a3 _ az,.aF _ _ _ _ _ _ bj (Nat.le_refl _) hm (oj _ 0 (λx ag=>by rw[List.eq_of_mem_replicate ag];rfl) (by rw[aP];exact a4 _ pQ))⟩
end
section
variable{c:Ctx}{r:Option Nat}{P:Program}{ops:Array Oper}{l rest:List Oper}{o:Oper}{env:List (Nat×aa)}{H:List aj}{Q:Exit->Act->World->Prop}{d:Nat}
theorem au.x7{t e dA:Nat}{n k:Nat}{bH:Array (Nat×Operand)}{bY:List Value}{ys:List (Bool×aa)}(els:List (List aa))[cy:hv P t (e,k,dA)][hR:la P t (k,bY)](cU:o.guard=none)(aN:o.dst=some d)(hn:Nat.blt d c.n=true)(h:o.op= .buildSlice t n bH)
  (hy:j2 (aX env) (bH.toList.map (·.2))=some ys) (al:ys.all (·.1)=true) (eY:Nat.ble (n*k) 16777216=true) (ju:Nat.blt 0 (n*k)=true)
  (aP:nx (λi=>some (i*k,k)) ((l4 n k bY).map .val) (partsOf bH.toList ys)=some els.flatten)
  (next:∀b,au c r P ops rest ⟨(d,.val (.slice (some ⟨b,0,none⟩) n n))::env,.aI b e els.flatten::H⟩ Q):au c r P ops (o::rest) ⟨env,H⟩ Q:=by
 intro a w s;refine wpListIn_plain cU λK ca=>?_;obtain⟨I,hw,he,az,aC⟩:=s.mem;have aA:=aC.ops o;obtain⟨a6,aW⟩:=CX aA bH cx hy al;obtain⟨us,ab,ae⟩:=zG _ _ ((l4 n k bY).map .val) (l4 n k bY).toArray els.flatten (by simpa using l1 _) a6 aW aP;have eY:=Nat.le_of_ble_eq_true eY;have ju:0<n*k:=Nat.le_of_ble_eq_true ju;obtain⟨i,z,hu,av,an,rG,lx,jv,jw⟩:=qB cy.h;have dW:=NS hu hR.h (bH.map λ(i,x)=>(i,a.eval x)) us eY ju ab w;refine cM.fN (R:=λv w'=>v= .slice (some ⟨w.heap.size,0,none⟩) n n/\w'=w.alloc (.cells us e)) (E:=λ_ _=>False) (v:=.slice (some ⟨w.heap.size,0,none⟩) n n) (w':=w.alloc (.cells us e)) cB xJ ⟨rfl,rfl⟩ K Q ?_ (λ_ _ h=>h.elim);rintro v w' ⟨rfl,rfl⟩;refine ca _ _ (next w.heap.size _ _ ⟨jr,jq,I,hw.alloc _,he.trans (kN hw _),az.new hw e _ us ae,?_⟩);rw[aN];exact (aC.bQ (mq hw _)).put (dst:=some d) oQ (.val _)
end
section
variable{P:Program}{H:List aj}{ρ:Nat->Option aa}{o:Oper}
end
end Go.Eng

