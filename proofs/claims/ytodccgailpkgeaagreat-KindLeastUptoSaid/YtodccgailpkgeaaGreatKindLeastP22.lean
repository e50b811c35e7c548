/- Part 22 of the proof: contracts of functions of the program and what they need. No condition beyond those that each theorem names. -/
import Derived.Test.YtodccgailpkgeaaGreatKindLeastP21
set_option maxHeartbeats 1000000
set_option linter.unusedVariables false
set_option linter.unusedSimpArgs false
set_option maxRecDepth 10000
namespace Go.Proofs.YtodccgailpkgeaaGreat
open Go.Eng
open Go.Eng.Fc
open Go.Eng.ei
variable{p:Prog}{ah:Nat->Nat->Bool}{q:fa}{g:GT}{Hx:List aj}{l:List Bool}{i:Nat}{env:List Int}{y:ew}{bx:Int}
theorem ag9{W:bb}{a b:Fact}(h:ql W [a,b]=true):dm W=true/\eT W a=true/\ej a<=24/\eT W b=true/\ej b<=24:=by
 simp only[ql,List.all_cons,List.all_nil,Bool.and_true,Bool.and_eq_true] at h;have ab:=yx h.2.1;have ae:=yx h.2.2;exact⟨h.1,ab.1,ab.2,ae.1,ae.2⟩
theorem aha{W:bb}{a b:Fact}(h:ql W [a,b]=true):ba Tryz.prog 234 [aa.world W,aa.fact a,aa.fact b] (.bJ [.b (xt W a b),.i 0]):=by
 have ab:=ag9 h;have:=agF h;rwa [imp_eq ab.1 ab.2.1 ab.2.2.2.1 ad ad] at this
instance:Ot Tryz.prog 230:=⟨aM⟩
abbrev dz(p:Prog)(m:Nat):iz:=p.methods.getD m default
def xu(p:Prog)(m n:Nat):Bool:=xt (cH p) (dz p m).fact (dz p n).fact
def bW(p:Prog)(m n:Nat):Bool:=xu p m n && !xu p n m
abbrev xv(p:Prog)(eC:Nat):List aa:=dF p++dH (cH p)++[.val (.map (some eC))]
abbrev K6(p:Prog)(eC:Nat):aj:=.gX eC (e0 Tryz.prog 198) (lX (xu p))
theorem T4(an:(bK p).isSome=true){m:Nat}(hm:m<p.methods.length):dm (cH p)=true/\mD (cH p) (dz p m).fact=true:=by
 obtain⟨o,aA⟩:=Option.isSome_iff_exists.1 an;obtain⟨cV,rY,_⟩:=(kF aA).2.2.2;have:=JW _ _ (by rw[rY];rfl) _ (cp hm);simp only[rR,Bool.and_eq_true] at this;exact this.1
theorem ahb(an:(bK p).isSome=true){m n:Nat}(hm:m<p.methods.length)(hn:n<p.methods.length):ql (cH p) [(dz p m).fact,(dz p n).fact]=true:=by
 have ab:=T4 an hm;have ae:=T4 an hn;rw[ql,ab.1,List.all_cons,List.all_cons,ab.2,ae.2];rfl
theorem Fu{m n:Nat}(hm:m<1000)(hn:n<1000):e0 Tryz.prog 198 (.agg (BT m n).toArray):=
 X9 (i:=3) (m:=348) aM aM aM aM aM aM (y2 ⟨ad,ad⟩) (y2 ⟨ad,ad⟩)
theorem ahc(aB:p.Small)(an:(bK p).isSome=true)(H:List aj):b1 Tryz.prog 186 [aa.prog p] H (λy H'=>∃eC,y= .ptr (xv p eC)/\H'= .map eC []::H) (λ_ _=>False):=by
 refine bh (n:=17) Tryz.func186 λB I aO=>?_;have dD:=JH aB;rw[JG an,an] at dD;refine bS ?_;refine aG (af.call .k (dD)) ?_;refine bg ?_;refine au.cG rfl rfl rfl rfl (λcE=>?_);refine aT ?_;refine aq.ep (d:=3) rfl ey ?_;refine bz ?_;refine aq.cond rfl (λai=>?_) (λai=>?_)
 ·simp at ai
 ·refine aT ?_;refine au.mkMap rfl rfl rfl rfl (λeC=>?_);refine aT ?_;refine aS 2 (.map eC []::H) ?_;exact⟨eC,rfl,rfl⟩
theorem ahd(aB:p.Small)(an:(bK p).isSome=true)(H:List aj):b1 Tryz.prog 186 [aa.prog p] H (λy H'=>∃eC,y= .ptr (xv p eC)/\H'=K6 p eC::H) (λ_ _=>False):=
 (ahc aB an H).heap λy H1 ⟨eC,a6,aW⟩=>⟨_,⟨eC,a6,rfl⟩,λB I w az=>by subst aW;exact az.gX (.head _ _ _)⟩
theorem ahe(p:Prog)(eC:Nat)(x:Int):ba Tryz.prog 209 [.i x,.ptr [.ptr (xv p eC)]] (.b (decide (x<0) || decide (x>=p.methods.length))):=by
 intro H;refine bh (n:=16) Tryz.func209 λB I aO=>?_;refine p7 ?_;refine aS 3 (H) ?_;exact⟨bR (by cases decide (x<0) <;> rfl),rfl⟩
theorem ahf(p:Prog)(eC:Nat)(l:List Int)(ax:∀x∈l,0<=x/\x<p.methods.length):ba Tryz.prog 187 [.ptr (xv p eC),aa.ints l] (.b true):=by
 intro H;refine bh (n:=13) Tryz.func187 λB I aO=>?_;refine bS ?_;refine aG (af.Yc rfl rfl rfl rfl rfl) ?_;refine bg ?_;refine au.cb rfl rfl rfl rfl rfl rfl (λal=>af.call (.mk' rfl rfl rfl rfl dv) (Qv (oZ.of (λx=>ahe p eC x)) l)) ?_;refine aT ?_;refine aS 4 (H) ?_;exact⟨bR (by show (!l.any _)=true;rw[Bool.not_eq_true',List.any_eq_false];intro x ag;have:=ax x ag;simp;omega),rfl⟩
theorem ahg(p:Prog)(eC:Nat){m n:Nat}(hm:m<p.methods.length)(hn:n<p.methods.length):ba Tryz.prog 188 [.ptr (xv p eC),.i m,.i n] (.b ((dz p m).gen==(dz p n).gen && (dz p m).kind==(dz p n).kind)):=by
 intro H;refine bh (n:=37) Tryz.func188 λB I aO=>?_;refine aT ?_;refine aq.bL mixed ?_;refine bk.Hl [⟨16,7,62,[.int .i64 0,.int .i64 0,.int .i64 0,.int .i64 0,.slice none 0 0,.int .i64 0,.int .i64 0,.slice none 0 0,.int .i64 0],18,fw (dz p m)⟩,⟨17,8,62,[.int .i64 0,.int .i64 0,.int .i64 0,.int .i64 0,.slice none 0 0,.int .i64 0,.int .i64 0,.slice none 0 0,.int .i64 0],19,fw (dz p n)⟩] 0 20 37 rfl ay aM rfl rfl ay ?_;refine bp.gx rfl rfl rfl rfl (af.move rfl rfl rfl) ?_;refine bp.gx rfl rfl rfl rfl (hH) ?_;refine bp.gx rfl rfl rfl rfl (cK) ?_;refine bp.gx rfl rfl rfl rfl (cK) ?_;refine bp.gx rfl rfl rfl rfl (dI) ?_;refine bp.gx rfl rfl rfl rfl (af.move rfl rfl rfl) ?_;refine bp.gx rfl rfl rfl rfl ((by first | exact af.iQ rfl rfl rfl rfl rfl hm | exact af.h1 rfl rfl rfl rfl rfl hm)) ?_;refine bp.gx rfl rfl rfl rfl (Cq) ?_;refine bp.gx rfl rfl rfl rfl (af.move rfl rfl rfl) ?_;refine bp.gx rfl rfl rfl rfl (hH) ?_;refine bp.gx rfl rfl rfl rfl (cK) ?_;refine bp.gx rfl rfl rfl rfl (cK) ?_;refine bp.gx rfl rfl rfl rfl (dI) ?_;refine bp.gx rfl rfl rfl rfl (af.move rfl rfl rfl) ?_;refine bp.gx rfl rfl rfl rfl ((by first | exact af.iQ rfl rfl rfl rfl rfl hn | exact af.h1 rfl rfl rfl rfl rfl hn)) ?_;refine bp.gx rfl rfl rfl rfl (Cq) ?_;refine bp.Dp [] [⟨17,8,62,[.int .i64 0,.int .i64 0,.int .i64 0,.int .i64 0,.slice none 0 0,.int .i64 0,.int .i64 0,.slice none 0 0,.int .i64 0],19,fw (dz p n)⟩] ⟨16,7,62,[.int .i64 0,.int .i64 0,.int .i64 0,.int .i64 0,.slice none 0 0,.int .i64 0,.int .i64 0,.slice none 0 0,.int .i64 0],18,fw (dz p m)⟩ rfl ⟨0,20,aM⟩ rfl rfl rfl rfl rfl rfl rfl ?_;refine bp.Dp [⟨16,7,62,[.int .i64 0,.int .i64 0,.int .i64 0,.int .i64 0,.slice none 0 0,.int .i64 0,.int .i64 0,.slice none 0 0,.int .i64 0],18,fw (dz p m)⟩] [] ⟨17,8,62,[.int .i64 0,.int .i64 0,.int .i64 0,.int .i64 0,.slice none 0 0,.int .i64 0,.int .i64 0,.slice none 0 0,.int .i64 0],19,fw (dz p n)⟩ rfl ⟨0,20,aM⟩ rfl rfl rfl rfl rfl rfl rfl ?_;refine bp.Dq [] [⟨17,8,62,[.int .i64 0,.int .i64 0,.int .i64 0,.int .i64 0,.slice none 0 0,.int .i64 0,.int .i64 0,.slice none 0 0,.int .i64 0],19,fw (dz p n)⟩] ⟨16,7,62,[.int .i64 0,.int .i64 0,.int .i64 0,.int .i64 0,.slice none 0 0,.int .i64 0,.int .i64 0,.slice none 0 0,.int .i64 0],18,fw (dz p m)⟩ rfl ⟨0,20,aM⟩ rfl rfl rfl (λb H1 db hu=>.store rfl rfl rfl rfl rfl rfl rfl rfl hu fM fM) ?_;refine bp.Dq [⟨16,7,62,[.int .i64 0,.int .i64 0,.int .i64 0,.int .i64 0,.slice none 0 0,.int .i64 0,.int .i64 0,.slice none 0 0,.int .i64 0],18,fw (dz p m)⟩] [] ⟨17,8,62,[.int .i64 0,.int .i64 0,.int .i64 0,.int .i64 0,.slice none 0 0,.int .i64 0,.int .i64 0,.slice none 0 0,.int .i64 0],19,fw (dz p n)⟩ rfl ⟨0,20,aM⟩ rfl rfl rfl (λb H1 db hu=>.store rfl rfl rfl rfl rfl rfl rfl rfl hu fM fM) ?_;refine bp.nil (λb9=>?_);simp only[List.map_cons,List.map_nil,List.cons_append,List.nil_append];refine bk.done rfl ?_;refine bC ?_;refine aq.ep (d:=7) rfl ey ?_;refine aq.ep (d:=8) rfl ey ?_;refine hB ?_;refine aS 6 (H) ?_;exact⟨bR (by cases (dz p m).gen==(dz p n).gen <;> rfl),rfl⟩
theorem T5(an:(bK p).isSome=true)(eC:Nat){m n:Nat}(hm:m<p.methods.length)(hn:n<p.methods.length):jf Tryz.prog [K6 p eC] 210 [.ptr (xv p eC),.i m,.i n] (.b (xu p m n)):=by
 intro H pC;refine bh (n:=57) Tryz.func210 λB I aO=>?_;have en:=oF an;refine c6 ?_;refine au.cG rfl rfl rfl rfl (λuw=>?_);refine bI ?_;refine aq.ep (d:=7) rfl ey ?_;refine aq.bL mixed ?_;refine bk.b7 0 5 57 rfl ay rfl rfl ay ?_;refine bn ?_;refine au.Ou (vs:=BT m n) (z:=xu p m n) rfl rfl rfl rfl rfl rfl rfl rfl (aL.refl _) (pC _ (.head _)) (Fu ad ad) rfl ?_ ?_
 ·refine aT ?_;refine bk.b7 7 10 57 rfl ay rfl rfl ay ?_;refine fk ?_;refine aq.cond rfl (λai=>?_) (λai=>?_)
  ·simp at ai
  ·refine bS ?_;refine aS 6 (H) ?_;exact⟨dJ,rfl⟩
 ·refine aT ?_;refine bk.b7 7 10 57 rfl ay rfl rfl ay ?_;refine fk ?_;refine aq.cond rfl (λab=>?_) (λab=>?_)
  ·refine bt ?_;refine aq.bL mixed ?_;refine bk.b7 0 22 57 rfl ay rfl rfl ay ?_;refine yl ?_;refine aG (af.call .k (aha (ahb an hm hn))) ?_;refine aT ?_;refine bk.b7 24 27 57 rfl ay rfl rfl ay ?_;refine bI ?_;refine bk.done rfl ?_;refine bt ?_;refine aq.bL mixed ?_;refine bk.b7 0 6 57 rfl ay rfl rfl ay ?_;refine bs ?_;refine au.Ov (vs:=BT m n) rfl rfl rfl rfl rfl rfl rfl (aL.refl _) rfl rfl (aL.refl _) (pC _ (.head _)) (Fu ad ad) ?_;refine bS ?_;refine aS 6 (H) ?_;exact⟨dJ,rfl⟩
  ·simp at ab
theorem ahh(an:(bK p).isSome=true)(eC:Nat){m n:Nat}(hm:m<p.methods.length)(hn:n<p.methods.length):jf Tryz.prog [K6 p eC] 189 [.ptr (xv p eC),.i m,.i n] (.b (bW p m n)):=by
 intro H pC;refine bh (n:=18) Tryz.func189 λB I aO=>?_;refine c6 ?_;refine aG (af.jB .k (bO.refl _) (T5 an eC hm hn) (λe he=>pC e he)) ?_;refine bI ?_;refine au.cb rfl rfl rfl rfl rfl rfl (λal=>af.jB (.mk' rfl rfl rfl rfl dv) (bO.refl _) (T5 an eC hn hm) (λe he=>pC e he)) ?_;refine aT ?_;refine aS 6 (H) ?_;exact⟨by rw[bW];cases xu p m n <;> rfl,rfl⟩
theorem ahi(aB:p.Small)(an:(bK p).isSome=true){m n:Nat}(hm:m<p.methods.length)(hn:n<p.methods.length)(ra:(dz p m).gen=(dz p n).gen/\(dz p m).kind=(dz p n).kind):ba Tryz.prog 153 [aa.prog p,.i m,.i n] (.bJ [.b (bW p m n),.i 0]):=by
 intro H;refine bh (n:=26) Tryz.func153 λB I aO=>?_;refine c6 ?_;refine dE .k ((ahd aB an _).b) ?_;rintro _ _ ⟨eC,rfl,rfl⟩;refine bS ?_;refine aG (af.row rfl rfl c4 rfl rfl rfl rfl rfl rfl) ?_;refine aG (af.call .k (ahf p eC [(m:Int),(n:Int)] (by intro x ag;simp at ag;omega))) ?_;refine bg ?_;refine aq.cond rfl (λai=>?_) (λai=>?_)
 ·simp at ai
 ·refine bs ?_;refine aG (af.call .k (ahg p eC hm hn)) ?_;refine bg ?_;refine aq.cond rfl (λab=>?_) (λab=>?_)
  ·rw[ra.1,ra.2,beq_self_eq_true,beq_self_eq_true] at ab;exact absurd ab e3
  ·refine bn ?_;refine aG (af.jB .k (bO.refl _) (ahh an eC hm hn) (λe he=>by rw[List.mem_singleton] at he;subst he;exact .head _)) ?_;refine bz ?_;refine fR [.tmp 6,.tmp 7] (H) ?_;exact⟨dJ,rfl⟩
theorem T6:yV ah q∈b5 p ah q g Hx:=.tail _ (List.mem_append_left _ (.head _))
theorem ahj(ak:gC p q)(aB:p.Small){k j:Nat}(ao:k<p.methods.length)(aU:j<p.methods.length)(ra:(dz p k).gen=(dz p j).gen/\(dz p k).kind=(dz p j).kind):b1 Tryz.prog 108 [.p q.b3 0,.i (k:Int),.i (j:Int)] (b5 p (bW p) q g Hx) (λr H1=>r= .b (bW p k j)/\H1=b5 p (bW p) q g Hx) (λ_ _=>False):=by
 refine bh (n:=41) Tryz.func108 λB I aO=>?_;have en:=oF ak.an;refine c6 ?_;refine au.cG rfl rfl rfl rfl (λuw=>?_);refine bI ?_;refine aq.ep (d:=7) rfl ey ?_;refine aq.bL mixed ?_;refine bk.b7 0 5 41 rfl ay rfl rfl ay ?_;refine bn ?_;refine au.Ou (vs:=BT k j) (z:=bW p k j) rfl rfl rfl rfl rfl rfl rfl rfl (aL.refl _) T6 (Fu ad ad) rfl ?_ ?_
 ·refine aT ?_;refine bk.b7 7 10 41 rfl ay rfl rfl ay ?_;refine fk ?_;refine aq.cond rfl (λai=>?_) (λai=>?_)
  ·simp at ai
  ·refine bS ?_;refine aS 6 (b5 p (bW p) q g Hx) ?_;exact⟨rfl,rfl⟩
 ·refine aT ?_;refine bk.b7 7 10 41 rfl ay rfl rfl ay ?_;refine fk ?_;refine aq.cond rfl (λab=>?_) (λab=>?_)
  ·refine bs ?_;refine aG (af.call .k (ahi aB ak.an ao aU ra)) ?_;refine aT ?_;refine aq.bL mixed ?_;refine bk.b7 0 6 41 rfl ay rfl rfl ay ?_;refine bs ?_;refine au.Ov (vs:=BT k j) rfl rfl rfl rfl rfl rfl rfl (aL.refl _) rfl rfl (aL.refl _) T6 (Fu ad ad) ?_;refine bS ?_;refine aS 6 (b5 p (bW p) q g Hx) ?_;exact⟨rfl,rfl⟩
  ·simp at ab
theorem K7(h:i<l.length):(l.map aa.b)[i]? =some (.b (l.getD i default)):=by
 rw[List.getElem?_map,List.getD_eq_getElem?_getD,List.getElem?_eq_getElem h];rfl
section
variable{p:Prog}{ah:Nat->Nat->Bool}{n m o:Nat}{g:GT}
theorem ahk(ab:(bif !(g.t.bP.getD o default) then true else ((dz p o).gen !=(dz p m).gen))=true):nY p ah n m g o=g:=by
 unfold nY;simp only;rw[if_neg];intro h;simp only[Bool.and_eq_true] at h;rw[h.1.1] at ab;have:=h.1.2;simp only[dz,Bool.not_true,cond_false,bne_iff_ne,ne_eq] at ab;exact ab (by simpa using this)
theorem ahl(ab:(bif !(g.t.bP.getD o default) then true else ((dz p o).gen !=(dz p m).gen))=false):(dz p m).gen=(dz p o).gen:=by
 cases aK:g.t.bP.getD o default with
 | false=>rw[aK] at ab;cases ab
 | true=>
  rw[aK] at ab;have ae:((dz p o).gen !=(dz p m).gen)=false:=ab;exact (bne_eq_false_iff_eq.1 ae).symm
theorem T7(ab:(bif !(g.t.bP.getD o default) then true else ((dz p o).gen !=(dz p m).gen))=false){B:Bool}(ae:B=(bif (bif (dz p o).kind==(dz p m).kind then (bif (dz p o).kind==(dz p m).kind then ah m o else false) else false) then true else (bif (dz p m).kind==4 then (dz p o).kind==1 else false))):nY p ah n m g o=if B=true then g.cz n (g.t.nodes.getD (dz p o).node.toNat default).toNat else g:=by
 have aD:g.t.bP.getD o default=true/\((dz p o).gen==(dz p m).gen)=true:=by
  cases aK:g.t.bP.getD o default with
  | false=>rw[aK] at ab;cases ab
  | true=>rw[aK] at ab;refine⟨rfl,?_⟩;simpa [bne] using ab
 unfold nY;simp only;have e:(g.t.bP.getD o default && (p.methods.getD o default).gen==(p.methods.getD m default).gen && ((p.methods.getD o default).kind==(p.methods.getD m default).kind && ah m o || (p.methods.getD m default).kind==4 && (p.methods.getD o default).kind==1))=B:=by
  rw[aD.1,show ((p.methods.getD o default).gen==(p.methods.getD m default).gen)=true from aD.2,ae];cases (dz p o).kind==(dz p m).kind <;> cases ah m o <;> cases (dz p m).kind==4 <;> rfl
 rw[e]
end
theorem T8(an:(bK p).isSome=true){i:Nat}(av:i<p.methods.length):0<=(dz p i).node/\(dz p i).node<p.nodes.length:=w7 ((tm an).1 _ (cp av))
theorem ahm(h:bA p g.t)(ah:Nat->Nat->Bool)(n m i:Nat):bA p ((List.range i).foldl (nY p ah n m) g).t:=lW _ h λg o _ h=>by
 unfold nY;simp only;split
 ·exact h.cz _ (iN h.nb _)
 ·exact h
theorem T9{t:bG}(h:bA p t){k:Int}(ao:0<=k/\k<p.nodes.length):t.nodes.getD k.toNat default=((t.nodes.getD k.toNat default).toNat:Int)/\fj p (t.nodes.getD k.toNat default).toNat:=k6.1 (BS h ao)
theorem ahn(ak:gC p q)(aB:p.Small)(h:bA p g.t){n:Nat}(hn:n<p.nodes.length){y:ew}{bc env:List Int}{cj:Int}(pd:cj<0):b1 Tryz.prog 70 [.p q.b3 0,aa.n4 n y bc env cj] (b5 p (bW p) q g Hx) (λr H1=>r= .bJ []/\H1=b5 p (bW p) q (g) Hx) (λ_ _=>False):=by
 refine bh (n:=81) Tryz.func70 λB I aO=>?_;refine ev ?_;refine aq.cond rfl (λai=>?_) (λai=>?_)
 ·refine bC ?_;refine fR [] (b5 p (bW p) q g Hx) ?_;exact⟨rfl,rfl⟩
 ·rw[decide_eq_true pd] at ai;cases ai
theorem aho(ak:gC p q)(aB:p.Small)(h:bA p g.t){n:Nat}(hn:n<p.nodes.length){y:ew}{bc env:List Int}{cj:Int}{k:Nat}(pd:cj=(k:Int))(ao:k<p.methods.length):b1 Tryz.prog 70 [.p q.b3 0,aa.n4 n y bc env cj] (b5 p (bW p) q g Hx) (λr H1=>r= .bJ []/\H1=b5 p (bW p) q (xc p (bW p) n k g) Hx) (λ_ _=>False):=by
 refine bh (n:=81) Tryz.func70 λB I aO=>?_;subst pd;have hm:=ak.many;have en:=oF ak.an;have y7:∀i,bA p ((List.range i).foldl (nY p (bW p) n k) g).t:=λi=>ahm h (bW p) n k i;refine ev ?_;refine aq.cond rfl (λai=>?_) (λai=>?_)
 ·have cQ:=of_decide_eq_true ai;omega
 ·refine bg ?_;refine aq.bL mixed ?_;refine bk.Hl [⟨9,4,62,[.int .i64 0,.int .i64 0,.int .i64 0,.int .i64 0,.slice none 0 0,.int .i64 0,.int .i64 0,.slice none 0 0,.int .i64 0],10,fw (dz p k)⟩] 0 11 81 rfl ay aM rfl rfl ay ?_;refine bp.gx rfl rfl rfl rfl (af.move rfl rfl rfl) ?_;refine bp.gx rfl rfl rfl rfl (hH) ?_;refine bp.gx rfl rfl rfl rfl (cK) ?_;refine bp.gx rfl rfl rfl rfl (cK) ?_;refine bp.gx rfl rfl rfl rfl (dI) ?_;refine bp.gx rfl rfl rfl rfl (cK) ?_;refine bp.gx rfl rfl rfl rfl (dI) ?_;refine bp.gx rfl rfl rfl rfl (ob) ?_;refine bp.gx rfl rfl rfl rfl (Cq) ?_;refine bp.Dp [] [] ⟨9,4,62,[.int .i64 0,.int .i64 0,.int .i64 0,.int .i64 0,.slice none 0 0,.int .i64 0,.int .i64 0,.slice none 0 0,.int .i64 0],10,fw (dz p k)⟩ rfl ⟨0,11,aM⟩ rfl rfl rfl rfl rfl rfl rfl ?_;refine bp.Dq [] [] ⟨9,4,62,[.int .i64 0,.int .i64 0,.int .i64 0,.int .i64 0,.slice none 0 0,.int .i64 0,.int .i64 0,.slice none 0 0,.int .i64 0],10,fw (dz p k)⟩ rfl ⟨0,11,aM⟩ rfl rfl rfl (λb H1 db hu=>.store rfl rfl rfl rfl rfl rfl rfl rfl hu fM fM) ?_;refine bp.nil (λb9=>?_);simp only[List.map_cons,List.map_nil,List.cons_append,List.nil_append];refine bk.done rfl ?_;refine bC ?_;refine aq.ep (d:=4) rfl ey ?_;refine cw ?_;refine cq (λz st=>∃i:Nat,st=⟨[(25,.i i),(24,.i p.methods.length),(23,.aF 9 (p.methods.map fw)),(4,.ptr (fw (dz p k))),(0,.p q.b3 0),(3,.ptr (gE n y bc env k))],b5 p (bW p) q ((List.range i).foldl (nY p (bW p) n k) g) Hx⟩/\z=p.methods.length - i/\i<=p.methods.length) (⟨0,rfl,rfl,ad⟩) ?_;rintro z _ ⟨i,rfl,rfl,av⟩;refine aT ?_;refine aZ (λab=>?_) λab=>?_
  ·have a1:i<p.methods.length:=by omega
   obtain⟨G,c8⟩:∃G,G=((List.range i).foldl (nY p (bW p) n k) g):=⟨_,rfl⟩;have iP:=y7 i;rw[<-c8] at iP;have eh:=uB (f:=nY p (bW p) n k) i g;rw[<-c8] at eh;rw[<-c8];have ja:=iP.jm;have ir:=iP.nl;have o7:0<=(p.methods.getD i default).node/\(p.methods.getD i default).node<p.nodes.length:=T8 ak.an a1;have cu:=T9 iP o7;refine bS ?_;refine au.cG rfl rfl rfl rfl (λfo=>?_);refine aT ?_;refine aq.ep (d:=6) rfl ey ?_;refine bn ?_;refine aG (af.jF rfl rfl rfl rfl rfl (tt (i:=i) ad) ⟨ad,ad⟩) ?_;refine aG (af.m9 rfl rfl rfl (tt (i:=i) ad) (K7 ad)) ?_;refine c6 ?_;refine aq.cond rfl (λae=>?_) (λae=>?_)
   ·have ahp:=ahk (p:=p) (ah:=bW p) (n:=n) (m:=k) (o:=i) ae;refine bs ?_;exact bV (⟨i+1,by rw[eh,ahp],rfl,a1⟩)
   ·have K8:=ahl (p:=p) (m:=k) (o:=i) (g:=G) ae;refine eb ?_;refine au.Ni rfl rfl rfl rfl rfl rfl (λal=>gZ.mk' rfl rfl rfl rfl dv) (λal=>(ahj ak aB ao a1 ⟨K8,(beq_iff_eq.1 al).symm⟩).b) ?_;intro r H' wV wW;obtain⟨rfl,rfl⟩:r= .b (bif ((dz p i).kind==(dz p k).kind) then bW p k i else false)/\H'=b5 p (bW p) q G Hx:=by
     cases E2:((dz p i).kind==(dz p k).kind) with
     | true=>exact wV E2
     | false=>exact wW E2
    refine ev ?_;refine aq.cond rfl (λaD=>?_) (λaD=>?_)
    ·have K9:=T7 (p:=p) (ah:=bW p) (n:=n) (m:=k) (o:=i) ae aD.symm;refine aq.bL mixed ?_;refine bk.b7 0 11 81 rfl ay rfl rfl ay ?_;refine bS ?_;refine bU.bB rfl rfl rfl (af.jF rfl rfl rfl rfl rfl (oJ (i:=(p.methods.getD i default).node.toNat) ad) ⟨ad,ad⟩) ?_;refine bU.bB rfl rfl rfl (af.le (af.m9 rfl rfl rfl (oJ (i:=(p.methods.getD i default).node.toNat) ad) (pJ ad)) (aL.dx cu.1)) ?_;refine bC ?_;refine dE .k ((qk ak iP hn cu.2 y bc env k).b) ?_;rintro _ _ ⟨rfl,rfl⟩;refine bn ?_;exact bV (⟨i+1,by rw[eh,K9,if_pos rfl],rfl,a1⟩)
    ·have K9:=T7 (p:=p) (ah:=bW p) (n:=n) (m:=k) (o:=i) ae aD.symm;refine bn ?_;exact bV (⟨i+1,by rw[eh,K9,if_neg e3],rfl,a1⟩)
  ·obtain rfl:i=p.methods.length:=by omega
   refine bI ?_;refine jj [] (b5 p (bW p) q (xc p (bW p) n k g) Hx) ?_;exact⟨rfl,rfl⟩
theorem ahq{bc env:List Int}{cj:Int}(h:bc.length<=3):aL (.aF 1 ((([.i (bc.getD 0 default),.i (bc.getD 1 default),.i (bc.getD 2 default),aa.ints env,.i cj]:List aa).take bc.length).map λc=>[c])) (aa.ints bc):=by
 match bc,h with
 | [],_=>exact aL.refl _
 | [a],_=>exact aL.refl _
 | [a,b],_=>exact aL.refl _
 | [a,b,c],_=>exact aL.refl _
 | a::b::c::d::r,h=>simp at h
theorem ahr{k:Nat}(ao:k<g.t.bP.length)(h:g.t.bP.getD k default=true):g.reach k=g:=by
 unfold GT.reach;rw[h,(r9 ao).2 h.symm];simp
theorem ahs{k:Nat}(h:k<l.length)(v:Bool)(more:List aa):(l.map aa.b++more).take k++dq (.b v)++(l.map aa.b++more).drop (k+1)=(l.set k v).map aa.b++more:=by
 rw[List.take_append_of_le_length dj,List.drop_append_of_le_length dj,List.set_eq_take_append_cons_drop,if_pos h,List.map_append,List.map_take,List.map_cons,List.map_drop];simp[dq]
theorem B5{α β:Type}[Inhabited α][Inhabited β]{f:α->β}{l:List α}{i:Nat}(h:i<l.length):(l.map f).getD i default=f (l.getD i default):=by
 rw[List.getD_eq_getElem?_getD,List.getElem?_map,List.getD_eq_getElem?_getD,List.getElem?_eq_getElem h];rfl
theorem Ua(a:Int):(bif a==1 then true else a==4)=(a==1 || a==4):=by cases a==1 <;> rfl
theorem aht{t:bG}(h:bA p t){k:Nat}(ao:k<p.methods.length){gen:Int}(al:(p.methods.getD k default).gen=gen):((t.params.getD k default).length:Int)=gU p gen:=by
 rw[h.gT k ao,al];rfl
theorem ahu(ak:gC p q)(h:bA p g.t){n:Nat}(hn:n<p.nodes.length){y:ew}{bc env:List Int}{cj:Int}(eD:∀k∈bc,cr (a7 p) k=true)(dP:bc.length=y.kids.length)(yR:bc.length<=3)(m8:(bc.length:Int)=gU p y.n):b1 Tryz.prog 69 [.p q.b3 0,aa.n4 n y bc env cj] (b5 p ah q g Hx) (λr H1=>r= .bJ []/\H1=b5 p ah q (BQ p n y.n bc g) Hx) (λ_ _=>False):=by
 refine bh (n:=104) Tryz.func69 λB I aO=>?_;have hm:=ak.many;have en:=oF ak.an;have ahv:y.kids.length=bc.length:=dP.symm;have R1:(hj p g.t y.n bc).length<=p.methods.length:=FU (p:=p) (t:=g.t) (gen:=y.n) (kinds:=bc) p.methods.length;have y7:∀i,bA p (((hj p g.t y.n bc).take i).foldl (pF p n) g).t:=λi=>lW _ h λg x ag h=>SG h n (xd eD x (List.mem_of_mem_take ag)).2.2;refine aT ?_;refine aq.bL mixed ?_;refine bk.b7 0 10 104 rfl ay rfl rfl ay ?_;refine bs ?_;refine bU.bB rfl rfl rfl (af.le (af.sm rfl rfl rfl) (aL.dx (by rw[ahv]))) ?_;refine bU.bB rfl rfl rfl (af.le (af.Ye (n:=bc.length) rfl rfl rfl rfl rfl yR e3 (by show bc.length<=5;omega)) (ahq yR)) ?_;refine bC ?_;refine dE .k ((ae5 ak h eD m8 ad).b) ?_;rintro _ _ ⟨rfl,rfl⟩;refine aT ?_;refine bk.b7 12 15 104 rfl ay rfl rfl ay ?_;refine lL ?_;refine aq.le 26 (y:=.i (hj p g.t y.n bc).length) rfl (aL.dx (by rw[List.length_map])) ?_;refine cq (λz st=>∃i:Nat,st=⟨[(27,.i i),(26,.i (hj p g.t y.n bc).length),(25,aa.ints ((hj p g.t y.n bc).map (·.1))),(4,aa.ints ((hj p g.t y.n bc).map (·.1))),(5,aa.bD ((hj p g.t y.n bc).map (·.2))),(0,.p q.b3 0),(3,.ptr (gE n y bc env cj))],b5 p ah q (((hj p g.t y.n bc).take i).foldl (pF p n) g) Hx⟩/\z=(hj p g.t y.n bc).length - i/\i<=(hj p g.t y.n bc).length) (⟨0,rfl,rfl,ad⟩) ?_;rintro z _ ⟨i,rfl,rfl,av⟩;refine aT ?_;refine aZ (λai=>?_) λai=>?_
 ·have a1:i<(hj p g.t y.n bc).length:=by omega
  obtain⟨X,je⟩:∃X,X=((hj p g.t y.n bc).getD i default):=⟨_,rfl⟩;obtain⟨⟨sn,vP,w8⟩,ahw,La⟩:=xd (t:=g.t) (gen:=y.n) eD _ (cp a1);rw[<-je] at sn vP w8 ahw La;obtain⟨M,bT⟩:∃M,M=X.1.toNat:=⟨_,rfl⟩;have ahx:X.1=(M:Int):=by omega
  have rv:M<p.methods.length:=by omega
  have K8:(p.methods.getD M default).gen=y.n:=by rw[bT];exact w8
  obtain⟨G,c8⟩:∃G,G=(((hj p g.t y.n bc).take i).foldl (pF p n) g):=⟨_,rfl⟩;have iP:=y7 i;rw[<-c8] at iP;have eh:=Kv (f:=pF p n) a1 g;rw[<-c8, <-je] at eh;have BX:pF p n G X=if uU (p.methods.getD M default)=true then (re M X.2 (G.reach M)).cz n ((re M X.2 (G.reach M)).t.nodes.getD (p.methods.getD M default).node.toNat default).toNat else (re M X.2 (G.reach M)):=by rw[bT];rfl
  rw[<-c8];have ja:=iP.jm;have hR:=iP.reach M;have Fv:∀j,bA p ((List.range j).foldl (λg k=>g.kp M k (X.2.getD k default).toNat) (G.reach M)).t:=λj=>lW _ hR λg k _ h=>h.kp M k (iN La k);have Lb:bA p (re M X.2 (G.reach M)).t:=Fv _;have ir:=Lb.nl;have o7:0<=(p.methods.getD M default).node/\(p.methods.getD M default).node<p.nodes.length:=T8 ak.an rv;have cu:=T9 Lb o7;have Ra:∀j,(((List.range j).foldl (λg k=>g.kp M k (X.2.getD k default).toNat) (G.reach M)).t.params.getD M default).length=X.2.length:=λj=>by have:=aht (Fv j) rv K8;omega
  have hL:∀j,((List.range j).foldl (λg k=>g.kp M k (X.2.getD k default).toNat) (G.reach M)).t.params.length=p.methods.length:=λj=>(Fv j).pl;obtain⟨A,C,Ub⟩:=SM ah q G.t Hx;have Fw:=Ub G.t.bP (ne_of_lt (i:=M) ad);have Bl:=Ub (G.t.bP.set M true) (ne_of_lt (i:=M) (by rw[List.length_set];omega));rw[List.length_set] at Bl;refine bn ?_;refine aG (LZ) ?_;refine aG (af.le (af.eN rfl rfl rfl rfl) (aL.dx (show _=(M:Int) by rw[B5 a1, <-je,ahx]))) ?_;refine bI ?_;refine aq.oV (λst=>st=⟨[(6,.i i),(7,.i (M:Int)),(27,.i i),(26,.i (hj p g.t y.n bc).length),(25,aa.ints ((hj p g.t y.n bc).map (·.1))),(4,aa.ints ((hj p g.t y.n bc).map (·.1))),(5,aa.bD ((hj p g.t y.n bc).map (·.2))),(0,.p q.b3 0),(3,.ptr (gE n y bc env cj))],b5 p ah q (G.reach M) Hx⟩) ?_ ?_
  ·refine bs ?_;refine aG (af.jF rfl rfl rfl rfl rfl (tt (i:=M) ad) ⟨ad,ad⟩) ?_;refine aG (af.m9 rfl rfl rfl (tt (i:=M) ad) (K7 ad)) ?_;refine bg ?_;refine aq.cond rfl (λab=>?_) (λab=>?_)
   ·have aK:G.t.bP.getD M default=false:=by simpa using ab
    have xf:eU p q true::(A++.row 4 1 q.hD G.t.bP.length ((G.t.bP.set M true).map aa.b)::C)=b5 p ah q (G.reach M) Hx:=by
     have e:(G.reach M).ch=true:=by unfold GT.reach;rw[aK];simp
     show _=eU p q (G.reach M).ch::(eL ah q (G.reach M).t++Hx);rw[e, <-Bl];rfl
    refine bs ?_;refine aG (af.jF rfl rfl rfl rfl rfl (tt (i:=M) ad) ⟨ad,ad⟩) ?_;refine au.kz (H':=eU p q G.ch::(A++.row 4 1 q.hD G.t.bP.length (G.t.bP.map aa.b)::C)) (congrArg (eU p q G.ch::·) Fw) ?_;refine au.HU (i:=M) (H':=λe=>eU p q G.ch::(A++e::C)) (ds:=(G.t.bP.set M true).map aa.b) rfl rfl rfl rfl rfl rfl rfl rfl rfl rfl (λe=>.tail _ _ _ _ _ (bu.under A)) (λe e'=>.tail _ _ _ _ _ (bu.under A)) ad bj (λmore=>ahs ad true more) bj ?_;refine bI ?_;refine aR.perm (H':=b5 p ah q (G.reach M) Hx) (.of_eq xf) ?_;exact gm rfl
   ·have aK:G.t.bP.getD M default=true:=by simpa using ab
    refine bt ?_;refine aR.perm (H':=b5 p ah q (G.reach M) Hx) (.of_eq (by rw[ahr ad aK])) ?_;exact gm rfl
  ·rintro _ rfl;refine bz ?_;refine aG (LZ) ?_;refine aG (af.le (af.eN rfl rfl rfl rfl) (by rw[B5 a1, <-je];exact aL.refl _)) ?_;refine bz ?_;refine cq (λz st=>∃j:Nat,st=⟨[(56,.i j),(55,.i X.2.length),(54,aa.ints X.2),(6,.i i),(7,.i (M:Int)),(27,.i i),(26,.i (hj p g.t y.n bc).length),(25,aa.ints ((hj p g.t y.n bc).map (·.1))),(4,aa.ints ((hj p g.t y.n bc).map (·.1))),(5,aa.bD ((hj p g.t y.n bc).map (·.2))),(0,.p q.b3 0),(3,.ptr (gE n y bc env cj))],b5 p ah q ((List.range j).foldl (λg k=>g.kp M k (X.2.getD k default).toNat) (G.reach M)) Hx⟩/\z=X.2.length - j/\j<=X.2.length) (⟨0,rfl,rfl,ad⟩) ?_;rintro z _ ⟨j,rfl,rfl,aU⟩;refine aT ?_;refine aZ (λae=>?_) λae=>?_
   ·have c3:j<X.2.length:=by omega
    have Uc:=k6.1 (La _ (cp c3));have alE:=Ra j;have alF:=hL j;refine bs ?_;refine aG (af.le (af.eN rfl rfl rfl rfl) (aL.dx Uc.1)) ?_;refine cT ?_;refine aG (VA) ?_;refine bC ?_;refine aG (af.jF rfl rfl rfl rfl rfl (Kn (k:=M) (i:=j) ad ad) ⟨ad,ad⟩) ?_;refine bt ?_;refine dE .k ((SP (Fv j) hm rv ad Uc.2).b) ?_;rintro _ _ ⟨rfl,rfl⟩;refine bn ?_;exact bV (⟨j+1,by rw[uB],rfl,c3⟩)
   ·obtain rfl:j=X.2.length:=by omega
    have Ge:((List.range X.2.length).foldl (λg k=>g.kp M k (X.2.getD k default).toNat) (G.reach M))=(re M X.2 (G.reach M)):=rfl;rw[Ge];refine fk ?_;refine au.cG rfl rfl rfl rfl (λKc=>?_);refine bI ?_;refine aq.ep (d:=10) rfl ey ?_;refine cw ?_;refine aq.cond rfl (λaD=>?_) (λaD=>?_)
    ·have jh:uU (p.methods.getD M default)=true:=by rw[uU, <-Ua];exact aD
     refine aq.bL mixed ?_;refine bk.b7 0 11 104 rfl ay rfl rfl ay ?_;refine bS ?_;refine bU.bB rfl rfl rfl (af.jF rfl rfl rfl rfl rfl (oJ (i:=(p.methods.getD M default).node.toNat) ad) ⟨ad,ad⟩) ?_;refine bU.bB rfl rfl rfl (af.le (af.m9 rfl rfl rfl (oJ (i:=(p.methods.getD M default).node.toNat) ad) (pJ ad)) (aL.dx cu.1)) ?_;refine bC ?_;refine dE .k ((qk ak Lb hn cu.2 y bc env cj).b) ?_;rintro _ _ ⟨rfl,rfl⟩;refine bn ?_;exact bV (⟨i+1,by rw[eh,BX,if_pos jh],rfl,a1⟩)
    ·have jh:uU (p.methods.getD M default)=false:=by rw[uU, <-Ua];exact aD
     refine bn ?_;exact bV (⟨i+1,by rw[eh,BX,if_neg (by rw[jh];decide)],rfl,a1⟩)
 ·obtain rfl:i=(hj p g.t y.n bc).length:=by omega
  rw[List.take_length];refine bI ?_;refine jj [] (b5 p ah q (BQ p n y.n bc g) Hx) ?_;exact⟨rfl,rfl⟩
theorem ahy(els:List (List aa))(H:List aj):b1 Tryz.prog 109 [.aF 1 els] H (λy H'=>∃cX,y= .as (.aF 1 els) (.slice cX els.length els.length)/\H'=H) (λ_ _=>False):=by
 refine bh (n:=9) Tryz.func109 λB I aO=>?_;refine cT ?_;refine au.clip rfl rfl rfl rfl rfl rfl rfl rfl rfl rfl (λcX=>?_);refine bI ?_;refine aS 2 (H) ?_;exact⟨cX,rfl,rfl⟩
instance:rN Tryz.prog 90 (50,106):=⟨aM,aM⟩
instance:vT Tryz.prog 106 .nilFunc:=⟨aM⟩
def oO(op:Int):Nat:=if op=1\/(12<=op/\op<=16) then 59 else if op=2 then 60 else if op=3 then 61 else if op=4 then 62 else if op=6 then 63 else if op=7 then 64 else if op=8 then 65 else if op=9\/op=11 then 66 else if op=10 then 67 else if op=17 then 68 else if op=5 then 69 else if op=18 then 70 else 0
theorem Ud{op:Int}(h:jo op≠none):1<=op/\op<=18:=by
 apply Decidable.byContradiction;intro ae;apply h;unfold jo;rw[if_neg ad,if_neg ad,if_neg ad,if_neg ad,if_neg ad]
theorem ahz{op:Int}(h:1<=op/\op<=18):(hN pI op).getD (.val .nilFunc)= .fn (.func (oO op)) [] []:=by
 rcases (show op=1\/op=2\/op=3\/op=4\/op=5\/op=6\/op=7\/op=8\/op=9\/op=10\/op=11\/op=12\/op=13\/op=14\/op=15\/op=16\/op=17\/op=18 by omega) with rfl | rfl | rfl | rfl | rfl | rfl | rfl | rfl | rfl | rfl | rfl | rfl | rfl | rfl | rfl | rfl | rfl | rfl <;> rfl
theorem ahA:lK pI:=⟨λp aB=>by
 have:p.1∈pI.map (·.1):=List.mem_map_of_mem aB;have ae:∀x∈pI.map (·.1),1<=x/\x<=18:=by decide
 have:=ae _ this;unfold gL;omega,e3⟩
theorem ahB(hy:hI p y bx=true)(h:y.op=3):0<=y.n/\y.n<bx:=by
 rw[hI,if_neg ad,if_neg ad] at hy;simpa [sl,h] using hy
theorem Fx(hy:hI p y bx=true)(h:y.op=4\/y.op=7):0<=y.n/\y.n<p.aJ:=by
 rw[hI,if_neg ad,if_neg ad,sl,if_neg ad,if_pos h] at hy;simpa using hy
theorem oP(hy:hI p y bx=true)(h:y.op=6\/y.op=8):y.n=(y.n.toNat:Int)/\1<=y.n.toNat/\y.n.toNat<a7 p:=by
 rw[hI,if_neg ad,if_pos h] at hy;simp only[Bool.and_eq_true,decide_eq_true_eq] at hy;unfold a7;omega
theorem ahC(ak:gC p q)(aB:p.Small)(h:bA p g.t){n:Nat}(hn:n<p.nodes.length){y:ew}{bc env:List Int}{cj:Int}(hy:hI p y env.length=true)(jV:jo y.op≠none)(he:∀k∈env,cr (a7 p) k=true)(eD:∀k∈bc,cr (a7 p) k=true)
  (dP:bc.length=y.kids.length) (yR:bc.length<=3) (m8:y.op=5->(bc.length:Int)=gU p y.n) (pd:cj<0\/∃k:Nat,cj=k/\k<p.methods.length):
  b1 Tryz.prog (oO y.op) [.p q.b3 0,aa.n4 n y bc env cj] (b5 p (bW p) q g Hx) (λr H1=>r= .bJ []/\H1=b5 p (bW p) q (kq p (bW p) y n env cj bc g) Hx) (λ_ _=>False):=by
 have Ue:=Ud jV;by_cases ai:y.op=1\/(12<=y.op/\y.op<=16)
 ·rw[kq,oO,if_pos ai,if_pos ai];exact aes ak h hn
 by_cases ab:y.op=2
 ·rw[kq,oO,if_neg ai,if_pos ab,if_neg ai,if_pos ab];exact aet ak h hn
 by_cases ae:y.op=3
 ·rw[kq,oO,if_neg ai,if_neg ab,if_pos ae,if_neg ai,if_neg ab,if_pos ae];exact aeu ak h hn (ahB hy ae) he
 by_cases aD:y.op=4
 ·rw[kq,oO,if_neg ai,if_neg ab,if_neg ae,if_pos aD,if_neg ai,if_neg ab,if_neg ae,if_pos aD];exact aeC ak h hn eD (Fx hy (.inl aD))
 by_cases aV:y.op=6
 ·rw[kq,oO,if_neg ai,if_neg ab,if_neg ae,if_neg aD,if_pos aV,if_neg ai,if_neg ab,if_neg ae,if_neg aD,if_pos aV];exact aeP ak h hn (c:=y.n.toNat) (oP hy (.inl aV)).1 (oP hy (.inl aV)).2.1 (oP hy (.inl aV)).2.2
 by_cases bl:y.op=7
 ·rw[kq,oO,if_neg ai,if_neg ab,if_neg ae,if_neg aD,if_neg aV,if_pos bl,if_neg ai,if_neg ab,if_neg ae,if_neg aD,if_neg aV,if_pos bl];exact aeD ak h hn eD (Fx hy (.inr bl))
 by_cases cP:y.op=8
 ·rw[kq,oO,if_neg ai,if_neg ab,if_neg ae,if_neg aD,if_neg aV,if_neg bl,if_pos cP,if_neg ai,if_neg ab,if_neg ae,if_neg aD,if_neg aV,if_neg bl,if_pos cP];exact ae2 ak h hn eD (to:=y.n.toNat) (oP hy (.inr cP)).1 (oP hy (.inr cP)).2.1 (oP hy (.inr cP)).2.2
 by_cases di:y.op=9\/y.op=11
 ·rw[kq,oO,if_neg ai,if_neg ab,if_neg ae,if_neg aD,if_neg aV,if_neg bl,if_neg cP,if_pos di,if_neg ai,if_neg ab,if_neg ae,if_neg aD,if_neg aV,if_neg bl,if_neg cP,if_pos di];exact aev ak h hn eD
 by_cases eW:y.op=10
 ·rw[kq,oO,if_neg ai,if_neg ab,if_neg ae,if_neg aD,if_neg aV,if_neg bl,if_neg cP,if_neg di,if_pos eW,if_neg ai,if_neg ab,if_neg ae,if_neg aD,if_neg aV,if_neg bl,if_neg cP,if_neg di,if_pos eW];exact aex ak h hn eD
 by_cases cQ:y.op=17
 ·rw[kq,oO,if_neg ai,if_neg ab,if_neg ae,if_neg aD,if_neg aV,if_neg bl,if_neg cP,if_neg di,if_neg eW,if_pos cQ,if_neg ai,if_neg ab,if_neg ae,if_neg aD,if_neg aV,if_neg bl,if_neg cP,if_neg di,if_neg eW,if_pos cQ];exact aew ak h hn eD
 by_cases fC:y.op=5
 ·rw[kq,oO,if_neg ai,if_neg ab,if_neg ae,if_neg aD,if_neg aV,if_neg bl,if_neg cP,if_neg di,if_neg eW,if_neg cQ,if_pos fC,if_neg ai,if_neg ab,if_neg ae,if_neg aD,if_neg aV,if_neg bl,if_neg cP,if_neg di,if_neg eW,if_neg cQ,if_pos fC];exact ahu ak h hn eD dP yR (m8 fC)
 by_cases k1:y.op=18
 ·rw[kq,oO,if_neg ai,if_neg ab,if_neg ae,if_neg aD,if_neg aV,if_neg bl,if_neg cP,if_neg di,if_neg eW,if_neg cQ,if_neg fC,if_pos k1,if_neg ai,if_neg ab,if_neg ae,if_neg aD,if_neg aV,if_neg bl,if_neg cP,if_neg di,if_neg eW,if_neg cQ,if_neg fC,if_pos k1];rcases pd with cO | ⟨k,rfl,ao⟩
  ·rw[if_pos cO];exact ahn ak aB h hn cO
  ·rw[if_neg ad];exact aho ak aB h hn rfl ao
 exfalso;omega
theorem ahD{R:Int->List Int->GT->GT}{G:GT}(h:i<y.kids.length):lp R y env i (y.kids.drop i) G=lp R y env (i+1) (y.kids.drop (i+1)) (R (y.kids.getD i default) (if y.op=9/\i=1 then env++[G.t.nodes.getD (y.kids.getD 0 default).toNat default] else env) G):=by
 have e:y.kids.getD i default=y.kids[i]:=by rw[List.getD_eq_getElem?_getD,List.getElem?_eq_getElem h];rfl
 rw[e,List.drop_eq_getElem_cons h,lp]
theorem ahE{n:Int}{KS env:List Int}{cj v:Int}(av:i<3)(ax:i<KS.length)(aC:v=KS.getD i default):(gE n y (KS.take i) env cj).take (4+i)++dq (.i v)++(gE n y (KS.take i) env cj).drop (4+i+1)=gE n y (KS.take (i+1)) env cj:=by
 subst aC
 match i,av with
 | 0,_=>
  cases KS with
  | nil=>simp at ax
  | cons a r=>rfl
 | 1,_=>
  match KS,ax with
  | a::b::r,_=>rfl
 | 2,_=>
  match KS,ax with
  | a::b::c::r,_=>rfl
theorem ahF(l:List Int)(v:Int):aa.aF 1 ((l.map λn=>[aa.i n])++[[.i v]])=aa.ints (l++[v]):=by
 show _=aa.aF 1 (List.map _ (_++_));rw[List.map_append];rfl
theorem ahG(an:(bK p).isSome=true){y:ew}{bx:Int}(qd:jo y.op≠none)(p6:jo y.op=some none->(y.kids.length:Int)=p.du.getD y.n.toNat default)(ox:∀k,jo y.op=some (some k)->y.kids.length=k)(pD:hI p y bx=true):y.kids.length<=3:=by
 by_cases h:y.op=5
 ·have al:mg p y.n=true:=by
   rw[hI,h] at pD;simp[sl] at pD;unfold mg;simp;omega
  have:=J7 an al;have:=p6 (by rw[h];rfl);unfold gU at*;omega
 ·have ak:∃k,k<=3/\jo y.op=some (some k):=by
   revert qd;unfold jo;rw[if_neg h];split
   ·exact λ_=>⟨0,ad,rfl⟩
   ·split
    ·exact λ_=>⟨1,ad,rfl⟩
    ·split
     ·exact λ_=>⟨2,ad,rfl⟩
     ·split
      ·exact λ_=>⟨3,ad,rfl⟩
      ·exact λh=>absurd rfl h
  obtain⟨k,ab,ae⟩:=ak;have:=ox k ae;omega
theorem ahH:eu q.n1 pI∈b5 p ah q g Hx:=.tail _ (List.mem_append_left _ (.tail _ (.head _)))
theorem ahI(ak:gC p q)(aB:p.Small){next:Bool}{cj:Int}(pd:cj<0\/∃k:Nat,cj=k/\k<p.methods.length){f:Nat}(bm:∀{n:Int} {env:List Int} {g:GT} {Hx:List aj},jI p next f n env.length->env.length+f<=20->(∀k∈env,cr (a7 p) k=true)->bA p g.t->b1 Tryz.prog 71 [.p q.b3 0,.i n,aa.ints env,.i cj] (b5 p (bW p) q g Hx) (λr H1=>r= .bJ []/\H1=b5 p (bW p) q (hX p (bW p) cj f n env g) Hx) (λ_ _=>False)){N:Nat}{env:List Int}{g:GT}{Hx:List aj}(bX:jI p next (f+1) N env.length)(sA:env.length+(f+1)<=20)(he:∀k∈env,cr (a7 p) k=true)(h:bA p g.t):b1 Tryz.prog 71 [.p q.b3 0,.i (N:Int),aa.ints env,.i cj] (b5 p (bW p) q g Hx) (λr H1=>r= .bJ []/\H1=b5 p (bW p) q (hX p (bW p) cj (f+1) N env g) Hx) (λ_ _=>False):=by
 refine bh (n:=98) Tryz.func71 λB I aO=>?_;have hm:=ak.many;have iH:=w7 bX;have hn:N<p.nodes.length:=by omega
 have mK:=BN bX;obtain⟨p6,ox⟩:=ER bX;obtain⟨pD,jV,_⟩:=BO bX;have Uf:=bX.2.2;obtain⟨Y,hy⟩:∃Y,Y=hl p (N:Int):=⟨_,rfl⟩;rw[<-hy] at mK p6 ox pD jV Uf;have yR:Y.kids.length<=3:=ahG ak.an jV p6 ox pD;have Ue:=Ud jV;have dW:hX p (bW p) cj (f+1) N env g=kq p (bW p) Y N env cj (lV (lp (hX p (bW p) cj f) Y env 0 Y.kids g).t Y) (lp (hX p (bW p) cj f) Y env 0 Y.kids g):=by rw[hy];rfl
 refine bS ?_;refine aG (ob) ?_;refine aG (af.le (af.zi rfl rfl rfl rfl) (show aL _ (.agg (lN Y)) by rw[hy];exact aL.refl _)) ?_;refine bg ?_;refine au.cG rfl rfl rfl rfl (λn8=>?_);refine eb ?_;refine cq (λz st=>∃(i:Nat) (G:GT),st=⟨[(30,.i i),(29,.i Y.kids.length),(28,aa.ints Y.kids),(8,.p n8 0),(0,.p q.b3 0),(2,aa.ints env),(3,.i cj)],.aI n8 142 (gE (N:Int) Y [] env cj)::b5 p (bW p) q G Hx⟩/\z=Y.kids.length - i/\i<=Y.kids.length/\bA p G.t/\lp (hX p (bW p) cj f) Y env i (Y.kids.drop i) G=(lp (hX p (bW p) cj f) Y env 0 Y.kids g)) (⟨0,g,rfl,rfl,ad,h,rfl⟩) ?_;rintro z _ ⟨i,G,rfl,rfl,av,iP,hinv⟩;refine aT ?_;refine aZ (λai=>?_) λai=>?_
 ·have a1:i<Y.kids.length:=by omega
  have eh:=ahD (R:=(hX p (bW p) cj f)) (y:=Y) (env:=env) (G:=G) a1;have Fy:=Uf i a1;have ir:=iP.nl;obtain⟨e,m3⟩:∃e,e=(if Y.op=9/\i=1 then env++[G.t.nodes.getD (Y.kids.getD 0 default).toNat default] else env):=⟨_,rfl⟩;rw[<-m3] at eh;have ahJ:=mK _ (cp (l:=Y.kids) (k:=0) ad);have lf:=BS iP ahJ;have mP:∀k∈e,cr (a7 p) k=true:=by
   intro k ao;rw[m3] at ao;split at ao
   ·rcases List.mem_append.1 ao with aV | aV
    ·exact he k aV
    ·rw[List.mem_singleton.1 aV];exact lf
   ·exact he k ao
  have ahK:e.length+f<=20:=by
   rw[m3];split
   ·rw[List.length_append];show env.length+1+f<=20;omega
   ·omega
  have lz:jI p next f (Y.kids.getD i default) e.length:=by
   rw[m3];by_cases Ug:Y.op=9/\i=1
   ·rw[if_pos Ug] at Fy ⊢;simpa using Fy
   ·rw[if_neg Ug] at Fy ⊢;exact Fy
  refine yk ?_;refine aq.oV (λst=>st=⟨[(9,.i i),(10,.i (Y.kids.getD i default)),(11,aa.ints e),(30,.i i),(29,.i Y.kids.length),(28,aa.ints Y.kids),(8,.p n8 0),(0,.p q.b3 0),(2,aa.ints env),(3,.i cj)],.aI n8 142 (gE (N:Int) Y [] env cj)::b5 p (bW p) q G Hx⟩) ?_ ?_
  ·refine cT ?_;refine aq.cond rfl (λab=>?_) (λab=>?_)
   ·have ahL:Y.op=9/\i=1:=by
     have cQ:(Y.op==9)=true:=by
      cases aw:(Y.op==9) with
      | true=>rfl
      | false=>rw[aw] at ab;cases ab
     rw[cQ] at ab;exact⟨by simpa using cQ,by have:((i:Int)==1)=true:=ab;simp at this;omega⟩
    have wL:e=env++[G.t.nodes.getD (Y.kids.getD 0 default).toNat default]:=by rw[m3,if_pos ahL]
    subst wL;refine aq.bL mixed ?_;refine bk.X0 (λahM H1=>∃cX,ahM= .as (aa.ints env) (.slice cX (env.map λn=>[aa.i n]).length (env.map λn=>[aa.i n]).length)/\H1= .aI n8 142 (gE (N:Int) Y [] env cj)::b5 p (bW p) q G Hx) 45 1 0 15 98 rfl ay ay rfl rfl ay ?_;refine b6.oy ay rfl rfl rfl rfl (λy H1 iG=>af.move rfl rfl rfl) (λai=>af.move rfl rfl rfl) ?_;refine b6.X1 ay ay rfl rfl rfl .k (λB=>(ahy _ _).b) ?_;refine b6.oy ay rfl rfl rfl rfl (λy H1 iG=>af.move rfl rfl rfl) (λai=>af.move rfl rfl rfl) ?_;refine b6.oy ay rfl rfl rfl rfl (λy H1 iG=>hH) (λai=>hH) ?_;refine b6.oy ay rfl rfl rfl rfl (λy H1 iG=>cK) (λai=>cK) ?_;refine b6.oy ay rfl rfl rfl rfl (λy H1 iG=>cK) (λai=>cK) ?_;refine b6.oy ay rfl rfl rfl rfl (λy H1 iG=>(by obtain⟨cX,_,rfl⟩:=iG;apply af.lr rfl rfl rfl;(case hm=>exact .tail _ (.head _));(case hy=>rfl))) (λai=>dI) ?_;refine b6.oy ay rfl rfl rfl rfl (λy H1 iG=>cK) (λai=>cK) ?_;refine b6.oy ay rfl rfl rfl rfl (λy H1 iG=>cK) (λai=>cK) ?_;refine b6.oy ay rfl rfl rfl rfl (λy H1 iG=>(by obtain⟨cX,_,rfl⟩:=iG;apply af.lr rfl rfl rfl;(case hm=>exact .head _);(case hy=>rfl))) (λai=>dI) ?_;refine b6.oy ay rfl rfl rfl rfl (λy H1 iG=>af.h1 (enc:=λn=>[aa.i n]) (l:=Y.kids) (i:=0) rfl rfl rfl rfl rfl ⟨ad,Mp⟩) (λai=>af.h1 (enc:=λn=>[aa.i n]) (l:=Y.kids) (i:=0) rfl rfl rfl rfl rfl ⟨ad,Mp⟩) ?_;refine b6.oy ay rfl rfl rfl rfl (λy H1 iG=>af.le (af.eN rfl rfl rfl rfl) (aL.dx (show _=Y.kids.getD 0 default from rfl))) (λai=>af.le (af.eN rfl rfl rfl rfl) (aL.dx (show _=Y.kids.getD 0 default from rfl))) ?_;refine b6.oy ay rfl rfl rfl rfl (λy H1 iG=>(by obtain⟨cX,_,rfl⟩:=iG;exact af.jF rfl rfl rfl rfl rfl (.tail _ (oJ (i:=(Y.kids.getD 0 default).toNat) ad)) ⟨ad,ad⟩)) (λai=>af.jF rfl rfl rfl rfl rfl (.tail _ (oJ (i:=(Y.kids.getD 0 default).toNat) ad)) ⟨ad,ad⟩) ?_;refine b6.oy ay rfl rfl rfl rfl (λy H1 iG=>(by obtain⟨cX,_,rfl⟩:=iG;exact af.m9 rfl rfl rfl (.tail _ (oJ (i:=(Y.kids.getD 0 default).toNat) ad)) (pJ ad))) (λai=>af.m9 rfl rfl rfl (.tail _ (oJ (i:=(Y.kids.getD 0 default).toNat) ad)) (pJ ad)) ?_;refine b6.oy ay rfl rfl rfl rfl (λy H1 iG=>af.row rfl rfl c4 rfl rfl rfl rfl rfl rfl) (λai=>af.row rfl rfl c4 rfl rfl rfl rfl rfl rfl) ?_;refine b6.nil (λy H1 iG=>?_);obtain⟨cX,rfl,rfl⟩:=iG;refine bt ?_;refine aG (af.eq (af.Yg rfl rfl rfl rfl rfl (aL.refl _) rfl (by simp[partsOf]) (by simp[partsOf];omega) (by simp[partsOf];omega)) (ahF _ _)) ?_;refine bC ?_;exact gm rfl
   ·have wL:e=env:=by
     rw[m3,if_neg];rintro⟨eW,cQ⟩;rw[eW,cQ] at ab;cases ab
    subst wL;refine bt ?_;exact gm rfl
  ·rintro _ rfl;refine bz ?_;refine au.perm (show (.aI n8 142 (gE (N:Int) Y [] env cj)::((eU p q G.ch::eL (bW p) q G.t)++Hx)).Perm ((eU p q G.ch::eL (bW p) q G.t)++(.aI n8 142 (gE (N:Int) Y [] env cj)::Hx)) from List.perm_middle.symm) ?_;refine dE .k ((bm (Hx:=.aI n8 142 (gE (N:Int) Y [] env cj)::Hx) lz ahK mP iP).b) ?_;rintro _ _ ⟨rfl,rfl⟩;refine au.perm (show ((eU p q ((hX p (bW p) cj f) (Y.kids.getD i default) e G).ch::eL (bW p) q ((hX p (bW p) cj f) (Y.kids.getD i default) e G).t)++(.aI n8 142 (gE (N:Int) Y [] env cj)::Hx)).Perm (.aI n8 142 (gE (N:Int) Y [] env cj)::((eU p q ((hX p (bW p) cj f) (Y.kids.getD i default) e G).ch::eL (bW p) q ((hX p (bW p) cj f) (Y.kids.getD i default) e G).t)++Hx)) from List.perm_middle) ?_;refine bn ?_;exact bV (⟨i+1,(hX p (bW p) cj f) (Y.kids.getD i default) e G,rfl,rfl,a1,EW f lz mP iP,by rw[<-hinv,eh]⟩)
 ·obtain rfl:i=Y.kids.length:=by omega
  have ahN:G=(lp (hX p (bW p) cj f) Y env 0 Y.kids g):=by rw[<-hinv,List.drop_length];rfl
  have ir:=iP.nl;have Uh:(lV G.t Y).length=Y.kids.length:=List.length_map _;refine lL ?_;refine cq (λz st=>∃i:Nat,st=⟨[(70,.i i),(69,.i Y.kids.length),(68,aa.ints Y.kids),(8,.p n8 0),(0,.p q.b3 0)],.aI n8 142 (gE (N:Int) Y ((lV G.t Y).take i) env cj)::b5 p (bW p) q G Hx⟩/\z=Y.kids.length - i/\i<=Y.kids.length) (⟨0,rfl,rfl,ad⟩) ?_;rintro z _ ⟨i,rfl,rfl,av⟩;refine aT ?_;refine aZ (λae=>?_) λae=>?_
  ·have a1:i<Y.kids.length:=by omega
   have rG:=mK _ (cp a1);refine qW ?_;refine aG (af.jF rfl rfl rfl rfl rfl (.tail _ (oJ (i:=(Y.kids.getD i default).toNat) ad)) ⟨ad,ad⟩) ?_;refine aG (af.m9 rfl rfl rfl (.tail _ (oJ (i:=(Y.kids.getD i default).toNat) ad)) (pJ ad)) ?_;refine bt ?_;refine aG (LX) ?_;apply au.j9 rfl rfl rfl rfl rfl rfl rfl rfl rfl rfl
   (case hu=>repeat (first | exact bu.head _ _ _ | apply bu.tail));(case hfit=>exact Nat.ble_eq_true_of_le (show 4+(i:Int).toNat*1+1<=9 by omega));(case hds=>exact (show _=gE (N:Int) Y ((lV G.t Y).take (i+1)) env cj by rw[show 0+4+(i:Int).toNat*1=4+i by omega];exact ahE (KS:=(lV G.t Y)) (i:=i) ad ad (show _=(List.map (λk=>G.t.nodes.getD k.toNat default) Y.kids).getD i default by rw[B5 a1])))
   refine bn ?_;exact bV (⟨i+1,rfl,rfl,a1⟩)
  ·obtain rfl:i=Y.kids.length:=by omega
   rw[List.take_of_length_le (by omega:(lV G.t Y).length<=Y.kids.length)];refine bz ?_;refine aq.bL mixed ?_;refine bk.b7 0 10 98 rfl ay rfl rfl ay ?_;refine bn ?_;refine bU.bB rfl rfl rfl (af.eq (af.ur rfl rfl rfl rfl rfl (.tail _ ahH) ahA eV) (ahz Ue)) ?_;refine bI ?_;refine au.perm (show (.aI n8 142 (gE (N:Int) Y (lV G.t Y) env cj)::((eU p q G.ch::eL (bW p) q G.t)++Hx)).Perm ((eU p q G.ch::eL (bW p) q G.t)++(.aI n8 142 (gE (N:Int) Y (lV G.t Y) env cj)::Hx)) from List.perm_middle.symm) ?_;refine dE .k ((ahC (Hx:=.aI n8 142 (gE (N:Int) Y (lV G.t Y) env cj)::Hx) ak aB iP hn pD jV he (yU iP mK) Uh ad (λbl=>by rw[Uh];exact p6 (by rw[bl];rfl)) pd).b) ?_;rintro _ _ ⟨rfl,rfl⟩;refine bt ?_;refine aR.oY (rs:=[]) (H':=b5 p (bW p) q (kq p (bW p) Y N env cj (lV G.t Y) G) Hx) rfl (.nil) (bO.refl _) (by exact List.Sublist.cons_cons _ (List.Sublist.append (List.Sublist.refl _) (List.sublist_cons_self _ _))) ?_;exact⟨rfl,by rw[dW,ahN]⟩
theorem Lc{p:Prog}{q:fa}(ak:gC p q)(aB:p.Small){next:Bool}{cj:Int}(pd:cj<0\/∃k:Nat,cj=k/\k<p.methods.length):∀(f:Nat) {n:Int} {env:List Int} {g:GT} {Hx:List aj},jI p next f n env.length->env.length+f<=20->(∀k∈env,cr (a7 p) k=true)->bA p g.t->
  b1 Tryz.prog 71 [.p q.b3 0,.i n,aa.ints env,.i cj] (b5 p (bW p) q g Hx) (λr H1=>r= .bJ []/\H1=b5 p (bW p) q (hX p (bW p) cj f n env g) Hx) (λ_ _=>False)
 | 0,n,env,g,Hx,bX,_,_,_=>bX.elim
 | f+1,n,env,g,Hx,bX,sA,he,h=>by
  have iH:=w7 bX;obtain⟨N,rfl⟩:∃N:Nat,n=N:=⟨n.toNat,ad⟩;exact ahI ak aB pd (f:=f) (λa b c d=>Lc ak aB pd f a b c d) bX sA he h
theorem ahO(l:List Int):eG (l.map aa.i)=true:=by simp[eG,ha,Value.oneCell']
theorem ahP(l:List Int):(l.map aa.i).map (λc=>[c])=l.map λn=>[aa.i n]:=by rw[List.map_map];rfl
theorem ahQ{l:List Int}{v:Value}(bq:l≠ [])(ax:l.length<=100000):jf Tryz.prog [.row 3 1 v l.length (l.map aa.i)] 21 [.val v] (aa.ints l):=by
 intro H pC;refine bh (n:=8) Tryz.func21 λB I aO=>?_;have Gd:l.length≠0:=by simpa using bq
 refine bS ?_;refine aG (af.Yj rfl rfl rfl rfl rfl rfl (pC _ (.head _)) Gd) ?_;refine bC ?_;refine aq.cond rfl (λai=>?_) (λai=>?_)
 ·cases ai
 ·refine aT ?_;refine aG (af.eq (af.Yi rfl rfl rfl (aL.refl _) rfl rfl (pC _ (.head _)) bj (by simpa using bq) (ahO l) ad ad) (by rw[ahP])) ?_;refine bI ?_;refine aS 2 (H) ?_;exact⟨dJ,rfl⟩
theorem y8(an:(bK p).isSome=true)(ah:Nat->Nat->Bool){g:GT}(h:bA p g.t){i:Nat}(av:i<p.methods.length):jI p (me (p.methods.getD i default)) 13 (p.methods.getD i default).node (g.t.params.getD i default).length/\(g.t.params.getD i default).length+13<=20/\(∀k∈g.t.params.getD i default,cr (a7 p) k=true)/\bA p (nm p ah g i).t:=by
 have ab:=(tm an).1 _ (cp av);have ae:=h.gT i av;rw[<-ae] at ab;have aD:=h.kH _ (cp (by rw[h.pl];exact av));have al:=w0 an av;obtain⟨o,aA⟩:=Option.isSome_iff_exists.1 an;have:=(uE (kF aA).2.2.1 (cp (l:=p.du) (k:=(p.methods.getD i default).gen.toNat) ad)).2;refine⟨ab,ad,aD,?_⟩;unfold nm;split
 ·exact EW 13 ab aD h
 ·exact h
theorem Ui(an:(bK p).isSome=true)(ah:Nat->Nat->Bool){g:GT}(h:bA p g.t){i:Nat}(av:i<=p.methods.length):bA p ((List.range i).foldl (nm p ah) g).t:=lW _ h λg m hm h=>(y8 an ah h (by have:=List.mem_range.1 hm;omega)).2.2.2
theorem Fz(an:(bK p).isSome=true)(ah:Nat->Nat->Bool){t:bG}(h:bA p t):bA p (gg p ah t).t:=EW 13 (tm an).2.1 (λk ao=>by cases ao) (Ui an ah (g:=⟨t,false⟩) h (Nat.le_refl _))
theorem Uj(ak:gC p q)(aB:p.Small)(h:bA p g.t):b1 Tryz.prog 34 [.p q.b3 0] (b5 p (bW p) q g Hx) (λr H1=>r= .b (gg p (bW p) g.t).ch/\H1=b5 p (bW p) q (gg p (bW p) g.t) Hx) (λ_ _=>False):=by
 refine bh (n:=53) Tryz.func34 λB I aO=>?_;have en:=oF ak.an;have y7:∀i,i<=p.methods.length->bA p ((List.range i).foldl (nm p (bW p)) ⟨g.t,false⟩).t:=λi av=>Ui ak.an (bW p) (g:=⟨g.t,false⟩) h av;refine AM ?_;refine cq (λz st=>∃i:Nat,st=⟨[(14,.i i),(13,.i p.methods.length),(12,.aF 9 (p.methods.map fw)),(0,.p q.b3 0)],b5 p (bW p) q ((List.range i).foldl (nm p (bW p)) ⟨g.t,false⟩) Hx⟩/\z=p.methods.length - i/\i<=p.methods.length) (⟨0,rfl,rfl,ad⟩) ?_;rintro z _ ⟨i,rfl,rfl,av⟩;refine aT ?_;refine aZ (λai=>?_) λai=>?_
 ·have a1:i<p.methods.length:=by omega
  obtain⟨G,c8⟩:∃G,G=((List.range i).foldl (nm p (bW p)) ⟨g.t,false⟩):=⟨_,rfl⟩;have iP:=y7 i av;rw[<-c8] at iP;have eh:=uB (f:=nm p (bW p)) i ⟨g.t,false⟩;rw[<-c8] at eh;rw[<-c8];have ja:=iP.jm;have hL:=iP.pl;obtain⟨gn,mU,R9,Zy⟩:=y8 ak.an (bW p) iP a1;have Uk:=BV ak.an iP a1;refine bS ?_;refine au.cG rfl rfl rfl rfl (λKc=>?_);refine bz ?_;refine aq.ep (d:=4) rfl ey ?_;refine bn ?_;refine aG (af.jF rfl rfl rfl rfl rfl (tt (i:=i) ad) ⟨ad,ad⟩) ?_;refine aG (af.m9 rfl rfl rfl (tt (i:=i) ad) (K7 ad)) ?_;refine bC ?_;refine aq.cond rfl (λab=>?_) (λab=>?_)
  ·have aK:G.t.bP.getD i default=true:=ab;refine aq.bL mixed ?_;refine bk.b7 0 13 53 rfl ay rfl rfl ay ?_;refine bS ?_;refine bU.bB rfl rfl rfl (VB) ?_;refine bt ?_;refine bU.bB rfl rfl rfl (af.jB .k (bO.refl _) (ahQ Uk ad) (λe he=>by rw[List.mem_singleton] at he;subst he;exact Kp ad Uk)) ?_;refine bg ?_;refine dE .k ((Lc ak aB (.inr ⟨i,rfl,a1⟩) 13 gn mU R9 iP).b) ?_;rintro _ _ ⟨rfl,rfl⟩;refine bn ?_;exact bV (⟨i+1,by rw[eh,nm,if_pos aK],rfl,a1⟩)
  ·have aK:G.t.bP.getD i default=false:=ab;refine bn ?_;exact bV (⟨i+1,by rw[eh,nm,if_neg (by rw[aK];decide)],rfl,a1⟩)
 ·obtain rfl:i=p.methods.length:=by omega
  have c8:=y7 _ (Nat.le_refl _);refine ev ?_;refine dE ((gZ.mk' rfl rfl rfl rfl rfl).le (.cons (.refl _) (.cons (.refl _) (.cons (aL.nil 1) (.cons (.refl _) .nil))))) ((Lc ak aB (.inl e3) 13 (tm ak.an).2.1 (env:=[]) e3 (λk ao=>by cases ao) c8).b) ?_;rintro _ _ ⟨rfl,rfl⟩;refine cT ?_;refine aS 2 (b5 p (bW p) q (gg p (bW p) g.t) Hx) ?_;exact⟨rfl,rfl⟩
end Go.Proofs.YtodccgailpkgeaaGreat

