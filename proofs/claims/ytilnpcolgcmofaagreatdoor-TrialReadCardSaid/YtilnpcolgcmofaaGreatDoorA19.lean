/- A part of the proof: Gs Dg Dh Di R10e R10f. -/
import Derived.Test.YtilnpcolgcmofaaGreatDoorA18
set_option maxRecDepth 100000
set_option maxHeartbeats 20000000
set_option linter.all false
namespace Go.Proofs.YtilnpcolgcmofaaGreatDoor
open Tryz
section
open Go
theorem dn.low{s:List au}{i:Nat}{k:au}(h:dn s i k):∀f∈k.fields,Fb k.fields f:=by
 obtain⟨w,r,l,f1,f2,d,p,c,A,z,y,rfl,v,u,q,j,x,b⟩:=h;intro f a;have t:∀n∈[OB,yl,jM,jN,Lu,oZ],n≠gp/\n≠bp:=by decide +kernel
 have o:f.name∈[OB,yl,jM,jN,Lu,oZ]->Fb (cV l::(f1++(f2++(d++(p++c))))) f:=λm=>⟨λe=>absurd e (t _ m).1,λe=>absurd e (t _ m).2⟩
 have g:=a;rcases zU.1 a with rfl|a
 .exact o (by simp[cV])
 rcases zO.1 a with a|a
 .have:=(v.nms).subset (vX (f:=am.name) a);exact o (by simp only[zU,yF,xE]at this⊢;rcases this with e|e|e<;>simp[e])
 rcases zO.1 a with a|a
 .rcases u with rfl|⟨_,rfl⟩
  .cases a
  .rw[zN]at a;subst a;exact o (by simp[w6])
 rcases zO.1 a with a|a
 .exact q.low_ok (λf a=>by simp[a]) f a
 rcases zO.1 a with a|a
 .exact j.low_ok (λf a=>by simp[a]) f a
 .have:=(b.nms).subset (vX (f:=am.name) a);exact o (by simp only[zU,yF,xE]at this⊢;simp[this])
variable {x:ak}
theorem HX.ruleNm(H:HX x){i:Nat}{k:au}(h:x.kz[i]?=some k){f:am}(c:f∈k.fields)(d:f.kind=2):eZ x k i f.name=false/\fJ x k i f.name=false:=by
 obtain⟨j,a⟩:=yO c;have e:=yp (H.form i k h).nodup a;have b:hK x i (a7 k f.name)=(f,true):=by rw[hK,e,LA h,a]
 exact⟨by simp[eZ,b],by simp[fJ,b,d]⟩
theorem sL(k:au)(i:Int):eZ x k i nE=false/\fJ x k i nE=false:=by simp[eZ,fJ,tj]
theorem lg{a b c d:Bool}(k:a=false)(j:b=false)(i:c=false)(h:d=false){g f e n:Int}:js [(a,g),(b,f),(c,e),(d,n)]=0:=by subst k j i h;rfl
theorem bL.rule0(h:bL x){n:Nat}{r:cI}(z:x.rules[n]?=some r):jq x n r=0:=by
 have H:=h.hx;obtain⟨i,_,J⟩:=h.rs;have N:∀(t:Nat)y,x.kz[t]?=some y->y.name=bu t:=λt y E=>(H.form t y E).name;obtain⟨G,l⟩:=J.facts N H.nk;obtain⟨t,k,_,b,R⟩:=l r (zG z);have w:oG x n r=false:=by
  unfold oG;rw[List.any_eq_false];intro s F e;obtain⟨m,l⟩:=yO F;have o:m<n:=by have:=(zE.1 l).1;rw[zR]at this;omega
  rw[List.getElem?_take_of_lt o]at l;obtain⟨C,L⟩:=zE.1 l;obtain⟨B,u⟩:=zE.1 z;exact wS.1 G m n C B o (by rw[L,u];exact(EM _ _).1 e)
 have j:∀n:ByteArray,n=k.name->bf x n=t:=λn e=>by rw[e,N t k b];exact H.kix b
 have low:=(H.form t k b).low;unfold jq
 cases R with
 |low v p A=>
  rw[j _ rfl,wb b];obtain⟨f,d,e⟩:=Rh p;obtain⟨D,g,I,u,K⟩:=(low f d).1 e;have a:=H.ruleNm b d D;have c:=H.ruleNm b I K;rw[e]at a;rw[u]at c;exact lg w (by simp only[a.1,c.1];rfl) (by simp only[a.2,c.2];rfl) (by show seq gp eR=false;decide +kernel)
 |most f2 v p q A=>
  rw[j _ rfl,wb b];obtain⟨f,d,e⟩:=Rh p;have a:=H.ruleNm b d ((low f d).2 e);have c:=sL (x:=x) k t;rw[e]at a;exact lg w (by simp only[a.1,c.1];rfl) (by simp only[a.2,c.2];rfl) (by show seq bp nE=false;decide +kernel)
 |least f2 v p q A=>
  rw[j _ rfl,wb b];obtain⟨f,d,e⟩:=Rh p;have a:=H.ruleNm b d ((low f d).2 e);have c:=sL (x:=x) k t;rw[e]at a;exact lg w (by simp only[a.1,c.1];rfl) (by simp only[a.2,c.2];rfl) (by show seq nE bp=false;decide +kernel)
theorem bL.valid(h:bL x):ik x=true:=by
 have H:=h.hx;have C:=h.cls;have N:∀(t:Nat)y,x.kz[t]?=some y->y.name=bu t:=λt y B=>(H.form t y B).name;simp only[ik,zJ,yA,zQ];refine⟨⟨⟨⟨⟨⟨?_,?_⟩,?_⟩,?_⟩,λk a=>?_⟩,λl z=>?_⟩,λr u=>?_⟩
 .have:=h.ver;simp[cA];omega
 .have:=H.nk;omega
 .have:=C.nl;omega
 .have:=h.nr;omega
 .obtain⟨i,d⟩:=yO a;have j:i<=2:=by have:=(zE.1 d).1;have:=H.nk;omega
  have g:=(C.ks k a).nf;have o:=H.field d;simp only[jv,zJ,yA,zQ];refine⟨⟨⟨by rw[N i k d];exact Q2 j,?_⟩,g⟩,o⟩;obtain⟨V,r,A,f1,f2,U,T,S,M,X,W,rfl,_⟩:=H.form i k d;simp only[zU,yF,xE]at M;simp[lG];omega
 .obtain⟨m,mv,I,G,K,F,q⟩:=h.ls;rw[K,zN]at z;subst z;have c:(fy.take m).length=m:=by rw[zR];simp;omega
  have e:(fy.take m).all aZ=true:=by
   rw[yA];intro w D;have:=xG D;simp only[fy,zU,yF,xE]at this;rcases this with rfl|rfl|rfl|rfl<;>decide +kernel
  have v:mv.all (cb m)=true:=by
   rw[yA];intro p E;have:=q p E;simp[cb,cA];omega
  have f:aZ br=true:=by decide +kernel
  simp only[j6,c,e,v,f,Bool.true_and,Bool.and_true,zJ,zQ,cA];omega
 .obtain⟨i,_,L⟩:=h.rs;obtain⟨_,J⟩:=L.facts N H.nk;obtain⟨t,k,_,a,R⟩:=J r u;have b:t<=2:=by have:=(zE.1 a).1;have:=H.nk;omega
  have Q:=Bi b (R.rn (N t k a));have P:aZ r.kind=true:=by
   have:r.kind=k.name:=by cases R<;>rfl
   rw[this,N t k a];exact Q2 b
  have O:cA r.n (-1048576) 1048576=true:=by have:=(C.rs r u).n;simp[cA];omega
  have s:(dG r.a||aZ r.a)=true/\(dG r.b||aZ r.b)=true/\(!(dG r.a&&dG r.b))=true:=by
   cases R<;>(simp only;decide +kernel)
  simp only[xj,Q,P,O,s.1,s.2.1,s.2.2,Bool.and_self]
theorem aK6{α:Type}{q:Nat}{g:Nat->List α}(h:∀i,i<q->g i=[]):aq q g=[]:=by
 unfold aq;rw[List.flatMap_eq_nil_iff];intro i a;exact h i (xT.1 a)
theorem bL.probs0(h:bL x):eH x=[]:=by
 have H:=h.hx;have v:fI x=0:=by rw[fI,h.valid];rfl
 rw[eH,if_pos v,aK6,aK6,aK6]
 .rfl
 .intro i a;unfold lZ;rw[zD a];simp only;rw[h.rule0 (zD a),vk]
 .intro i a;have b:=zD a;unfold dQ;rw[b];simp only;generalize x.kz[i]=k at b;have E:eX x i k=0:=by
   have F:=H.form i k b;rw[eX,F.name,H.kix b,if_neg (by omega)];obtain⟨o,r,l,f1,f2,g,p,t,s,q,n,rfl,_⟩:=F
   rfl
  rw[E,vk,List.nil_append,aK6];intro j d;have c:=zD d;unfold fo;rw[c];simp only;generalize k.fields[j]=f at c;rw[l8,yp (H.form i k b).nodup c,if_neg (by omega),H.leads b c,vk]
 .intro i a;obtain⟨m,mv,_,_,e,_⟩:=h.ls;rw[e]at a;obtain rfl:i=0:=by simp at a;omega
  unfold lA;rw[e];simp[JP,vk]
end
section
open Go
structure gR where
 a:Int
 b:Int
 mul:Int
 least:Bool
abbrev OF(l:gR):List D:=[iD l.a,iD l.b,iD l.mul,bD l.least]
abbrev lmD(l:gR):D:=.agg (OF l)
abbrev AI(ls:List gR):D:=.sl 4 (ls.map OF)
def XA(l:gR)(n:Nat):Bool:=decide (0<=l.a)&&(decide (l.a<n)&&(decide (-1<=l.b)&&(decide (l.b<n)&&(decide (0<=l.mul)&&decide (l.mul<=65536)))))
def kU(cs:List Int):Bool:=cs.all λc=>decide (0<=c)&&decide (c<=65536)
def ec(l:gR)(cs:List Int):Int:=if 0<=l.b then l.mul*cs.getD l.b.toNat 0 else l.mul
def jk(l:gR)(cs:List Int):Bool:=XA l cs.length&&kU cs&&(if l.least then decide (ec l cs<=cs.getD l.a.toNat 0)else decide (cs.getD l.a.toNat 0<=ec l cs))
theorem u5(l:gR)(n:Nat):APure prog 189 [lmD l,iD n] (bD (XA l n)):=by
 refine ap func189 ntmps189 λa=>?_
 repeat' first|refine aO ?_|(refine aV ?_;constructor<;>intro hc)
 all_goals(refine Rt.pure (zM bD ?_);unfold XA;first|(simp[*];done)|(simp_all;done)|(simp[*];omega)|(simp_all;omega))
theorem aC1(cs:List Int)(hl:cs.length<=1000):APure prog 98 [bj cs] (bD (kU cs)):=by
 unfold kU;refine ap func98 ntmps98 λg=>?_
 repeat refine aO ?_
 refine aR mixed ai (γ:=Nat) (λi=>[(3,iD i)]) (λ_=>[]) (λi=>i<=cs.length/\(cs.take i).all (λc=>decide (0<=c)&&decide (c<=65536))=true) (λi=>cs.length-i) 0 (aj av) (Sc.refl _) ⟨zW _,rfl⟩ ?_;rintro i ⟨hi,b⟩;by_cases hil:i<cs.length
 .obtain⟨y,a⟩:∃y,cs[i]?=some y:=⟨_,zD hil⟩
  have hy:cs[((i:Nat):Int).toNat]?=some y:=a;by_cases hq:0<=y/\y<=65536
  .obtain⟨q,e⟩:=hq
   repeat refine aO ?_
   refine⟨i+1,(aj av),Sc.refl _,⟨by omega,?_⟩,by omega⟩;rw[xC,a,List.all_append,b];simp;omega
  .have f:cs.all (λc=>decide (0<=c)&&decide (c<=65536))=false:=by
    rw[vT];exact⟨y,zG a,by simp;omega⟩
   rw[f];by_cases q:y<0
   .repeat refine aO ?_
    refine Rt.pure (zM bD ?_);rfl
   .repeat refine aO ?_
    refine Rt.pure (zM bD ?_);rfl
 .obtain rfl:i=cs.length:=by omega
  rw[yM]at b
  repeat refine aO ?_
  refine Rt.pure (zM bD ?_);rw[b]
theorem bn2{A B:Prop}(k:B)(h:ar B->A:=by intro q7;(first|refine bO ?_|refine aA ?_|(refine' ah ?hc ?_;(case hc=>first|exact HV|exact HN)));exact q7.1):A:=h ⟨k⟩
theorem bq4{A B:Prop}(k:B)(h:ar B->A:=by intro q7;(first|refine Gt ?_|(with_reducible refine TD trivial ?_)|(with_reducible refine Br.t (wP _) ?_)|refine Gu ?_|((with_reducible refine Sd.go ?qs7 ?_);(case qs7=>first|trivial|(constructor<;>omega)|omega|assumption|(refine And.intro ?_ (cB.mk ?_ ?_)<;>omega)|((try simp only[zL,zR,zI,List.length_cons,List.length_nil,zY,Nat.reduceAdd]at *);first|(constructor<;>omega)|omega)))|((with_reducible refine Ck.go ?qs7 ?_);(case qs7=>kernel_rfl))|((with_reducible refine' TC ?hy ?h0 ?_);(case hy=>exact hya);(case h0=>omega))|((with_reducible refine' TC ?hy ?h0 ?_);(case hy=>exact hyb);(case h0=>omega))|refine Ng ?_|refine KL ?_);exact q7.1):A:=h ⟨k⟩
theorem Sb{A B:Prop}(k:B)(h:ar B->A:=by intro q7;(first|refine bq4 ?_|refine aA ?_|(refine' ah ?hc ?_;(case hc=>first|exact HV|exact HN)));exact q7.1):A:=h ⟨k⟩
theorem Yz{p:Prop}(h:p:=by
 rw[hbd]
 cases hle:l.least with
 |true=>
  refine ap func145 ntmps145 λBB=>?_
  repeat refine Sb ?_
  refine Rt.pure (zM bD ?_);rfl
 |false=>
  refine ap func145 ntmps145 λBB=>?_
  repeat refine Sb ?_
  refine Rt.pure (zM bD ?_);rfl):p:=h
theorem LR{p:Prop}(h:p:=by
 refine ap func145 ntmps145 λBB=>?_
 repeat refine bn2 ?_
 refine Rt.pure (zM bD ?_);rfl):p:=h
theorem u7(l:gR)(cs:List Int)(hl:cs.length<=1000):APure prog 145 [lmD l,bj cs] (bD (jk l cs)):=by
 have HV:=u5 l cs.length;rw[show((cs.length:Nat):Int)=((cs.map λn=>[iD n]).length:Int) by rw[zL]]at HV;have HN:=aC1 cs hl;unfold jk
 cases v:XA l cs.length with
 |false=>
  rw[v]at HV;exact LR
 |true=>
  rw[v]at HV
  cases e:kU cs with
  |false=>
   rw[e]at HN;exact LR
  |true=>
   rw[e]at HN;simp only[XA,zJ,zQ]at v;obtain⟨r,q,o,k,j,i⟩:=v;obtain⟨g,hya⟩:∃y,cs[l.a.toNat]?=some y:=⟨_,zD (by omega)⟩
   have f:cs.getD l.a.toNat 0=g:=by rw[List.getD_eq_getElem?_getD,hya];rfl
   rw[f];have t:l.mul=((l.mul.toNat:Nat):Int):=by omega
   by_cases hb:0<=l.b
   .obtain⟨b,hyb⟩:∃y,cs[l.b.toNat]?=some y:=⟨_,zD (by omega)⟩
    have hbd:ec l cs=l.mul*b:=by unfold ec;rw[if_pos hb,List.getD_eq_getElem?_getD,hyb];rfl
    have a:0<=b/\b<=65536:=by
     unfold kU at e;have:=yA.1 e b (zG hyb);simp at this;omega
    have s:0<=l.mul*b/\l.mul*b<=4294967296:=⟨Int.mul_nonneg j a.1,Int.mul_le_mul (c:=65536) (d:=65536) i a.2 a.1 (by decide)⟩
    exact Yz
   .have hbd:ec l cs=l.mul:=by unfold ec;rw[if_neg hb]
    exact Yz
end
section
open Go
theorem ER{α:Type}{p:α->Bool}{l:List α}{i:Nat}{y:α}(h:l[i]?=some y)(a:p y=false):l.all p=false:=by
 rw[vT];exact⟨y,zG h,by rw[a];simp⟩
theorem xo{α:Type}{p:α->Bool}{l:List α}{i:Nat}{y:α}(h:l[i]?=some y):(l.take (i+1)).all p=((l.take i).all p&&p y):=by
 rw[xC,h];simp
theorem GZ{A B:Prop}(k:B)(h:ar B->A:=by intro q7;(first|refine bO ?_|refine aA ?_|(refine' ah ?hc ?_;(case hc=>exact HH)));exact q7.1):A:=h ⟨k⟩
theorem Hu(ls:List gR)(cs:List Int)(hl:cs.length<=1000)(s:ls.length<=1000):APure prog 99 [AI ls,bj cs] (bD (ls.all λl=>jk l cs)):=by
 refine ap func99 ntmps99 λf=>?_
 repeat refine GZ ?_
 refine aR mixed ai (γ:=Nat) (λi=>[(5,iD i)]) (λ_=>[]) (λi=>i<=ls.length/\(ls.take i).all (λl=>jk l cs)=true) (λi=>ls.length-i) 0 (aj av) (Sc.refl _) ⟨zW _,rfl⟩ ?_;rintro i ⟨hi,e⟩;by_cases hil:i<ls.length
 .obtain⟨y,a⟩:∃y,ls[i]?=some y:=⟨_,zD hil⟩
  have hy:ls[((i:Nat):Int).toNat]?=some y:=a;have HH:=u7 y cs hl
  cases b:jk y cs with
  |true=>
   rw[b]at HH
   repeat refine GZ ?_
   exact⟨i+1,(aj av),Sc.refl _,⟨by omega,by rw[xo a,e,b];rfl⟩,by omega⟩
  |false=>
   rw[b]at HH
   repeat refine GZ ?_
   refine Rt.pure (zM bD ?_);rw[ER (p:=λl=>jk l cs) a b]
 .obtain rfl:i=ls.length:=by omega
  rw[yM]at e
  repeat refine GZ ?_
  refine Rt.pure (zM bD ?_);rw[e]
structure LmS(ls:List gR)(n:Nat):Prop where
 l:ls.length<=200
 v:∀l∈ls,(0<=l.a/\l.a<n)/\(-1<=l.b/\l.b<n)/\(0<=l.mul/\l.mul<=65536)
def eU(n:Nat):List gR->List Bool
 |[]=>List.replicate n false
 |l::s=>if 0<=l.b then(eU n s).set l.b.toNat true else eU n s
theorem Z1(n:Nat):∀s,(eU n s).length=n
 |[]=>by simp[eU]
 |l::s=>by
  rw[eU];split
  .rw[yR,Z1 n s]
  .exact Z1 n s
theorem qE{α:Type}(f:α->D)(l:List α):(l.map λb=>[f b]).flatten=l.map f:=by
 induction l with
 |nil=>rfl
 |cons a l i=>simp[i]
theorem u6(ls:List gR)(n:Nat)(j:n<=100)(h:LmS ls n):APure prog 142 [iD n,AI ls] (.sl 1 ((eU n ls.reverse).map λb=>[bD b])):=by
 have s:=h.l;refine ap func142 ntmps142 λl=>?_
 repeat' first|refine aO ?_|intro b;conv=>whnf
 refine Mk.go n rfl rfl rfl rfl rfl (by simp) (by omega) (by omega) (λo=>?_)
 repeat' first|refine aO ?_|intro b;conv=>whnf
 refine aR mixed ai (γ:=Nat) (λi=>[(6,iD i)]) (λi=>[(o,.cells 4 ((eU n (ls.take i).reverse).map bD))]) (λi=>i<=ls.length) (λi=>ls.length-i) 0 (aj av) (Sc.perm (by simp[eU,List.map_replicate];exact .inr rfl)) (zW _) ?_;intro i hi;by_cases hil:i<ls.length
 .obtain⟨y,a⟩:∃y,ls[i]?=some y:=⟨_,zD hil⟩
  have hy:ls[((i:Nat):Int).toNat]?=some y:=a;have v:=(h.v y (zG a)).2.1;have g:(ls.take (i+1)).reverse=y::(ls.take i).reverse:=by rw[xC,a,List.reverse_append];rfl
  have f:=Z1 n (ls.take i).reverse;by_cases hb:0<=y.b
  .have t:eU n (ls.take (i+1)).reverse=(eU n (ls.take i).reverse).set y.b.toNat true:=by rw[g,eU,if_pos hb]
   repeat' first|refine aO ?_|intro b;conv=>whnf
   refine Sv.cellm (tb:=4) (cs':=(eU n (ls.take (i+1)).reverse).map bD) (τ:=[]) (zH _) (by rw[zL,f];omega) rfl (by rw[t,wL];simp) ?_
   repeat' first|refine aO ?_|intro b;conv=>whnf
   exact⟨i+1,(aj av),Sc.refl _,by omega,by omega⟩
  .have t:eU n (ls.take (i+1)).reverse=eU n (ls.take i).reverse:=by rw[g,eU,if_neg hb]
   repeat' first|refine aO ?_|intro b;conv=>whnf
   exact⟨i+1,(aj av),(by rw[t];exact Sc.refl _),by omega,by omega⟩
 .obtain rfl:i=ls.length:=by omega
  rw[yM];have f:=Z1 n ls.reverse;generalize eU n ls.reverse=L at *;subst f
  repeat' first|refine aO ?_|intro b;conv=>whnf
  have r:=Ql (e:=4) (k:=1) (xs:=L.map λb=>[bD b]) o (λy hy=>by obtain⟨_,_,rfl⟩:=xM.1 hy;rfl) (by rw[zL];unfold maxLen;omega);rw[qE,zL]at r;exact Rt.vs (Vs.row r (bS _))
def bn(n:List Int):List gR->Int×Int
 |[]=>(0,65536)
 |l::s=>if l.a≠n.length\/(n.length:Int)<=l.b then bn n s else if l.least then(max (bn n s).1 (ec l n),(bn n s).2)else((bn n s).1,min (bn n s).2 (ec l n))
structure cN(cs:List Int):Prop where
 l:cs.length<=100
 v:∀c∈cs,0<=c/\c<=65536
theorem EA{l:gR}{n:List Int}(h:0<=l.mul/\l.mul<=65536)(a:cN n):0<=ec l n/\ec l n<=4294967296:=by
 unfold ec;split
 .have:0<=n.getD l.b.toNat 0/\n.getD l.b.toNat 0<=65536:=by
   rw[List.getD_eq_getElem?_getD]
   cases hx:n[l.b.toNat]? with
   |none=>simp
   |some c=>exact a.v c (zG hx)
  exact⟨Int.mul_nonneg h.1 this.1,Int.mul_le_mul (c:=65536) (d:=65536) h.2 this.2 this.1 (by decide)⟩
 .omega
theorem kL{n:List Int}(a:cN n):∀{s:List gR},(∀l∈s,0<=l.mul/\l.mul<=65536)->(0<=(bn n s).1/\(bn n s).1<=4294967296)/\(0<=(bn n s).2/\(bn n s).2<=65536)
 |[],_=>by simp[bn]
 |l::s,h=>by
  have i:=kL a (s:=s) λz b=>h z (yQ _ b);have c:=EA (h l yN) a;rw[bn];split
  .exact i
  .split<;>simp only<;>omega
theorem X1{p:Prop}(h:p:=by
 have e3:(bn now (ls.take (i+1)).reverse).2=(bn now (ls.take i).reverse).2:=by rw[e1]
 repeat refine aO ?_
 exact⟨i+1,(aj av),Sc.refl _,by omega,by omega⟩):p:=h
theorem X0{p:Prop}(h:p:=by
 have e3:(bn now (ls.take (i+1)).reverse).1=(bn now (ls.take i).reverse).1:=by rw[e1]
 repeat refine aO ?_
 exact⟨i+1,(aj av),Sc.refl _,by omega,by omega⟩):p:=h
theorem jU{p:Prop}(h:p:=by
 repeat refine aO ?_
 exact⟨i+1,(aj av),Sc.refl _,by omega,by omega⟩):p:=h
theorem BT(ls:List gR)(now:List Int)(k:cN now)(n:Nat)(h:LmS ls n):APure prog 187 [AI ls,bj now] (.tup [iD (bn now ls.reverse).1,iD (bn now ls.reverse).2]):=by
 have s:=h.l;have r:=k.l;refine ap func187 ntmps187 λw=>?_
 repeat refine aO ?_
 refine aR mixed ai (γ:=Nat) (λi=>[(7,iD (bn now (ls.take i).reverse).1),(8,iD (bn now (ls.take i).reverse).2),(9,iD i)]) (λi=>[]) (λi=>i<=ls.length) (λi=>ls.length-i) 0 (aj av) (Sc.refl _) (zW _) ?_;intro i hi;by_cases hil:i<ls.length
 .obtain⟨y,a⟩:∃y,ls[i]?=some y:=⟨_,zD hil⟩
  have hy:ls[((i:Nat):Int).toNat]?=some y:=a;have v:=h.v y (zG a);have b:(ls.take (i+1)).reverse=y::(ls.take i).reverse:=by rw[xC,a,List.reverse_append];rfl
  have q:=kL k (s:=(ls.take i).reverse) λz o=>(h.v z (xG (List.mem_reverse.1 o))).2.2;have f:=EA v.2.2 k;by_cases hc:y.a≠now.length\/(now.length:Int)<=y.b
  .have e1:bn now (ls.take (i+1)).reverse=bn now (ls.take i).reverse:=by rw[b,bn,if_pos hc]
   have g:(bn now (ls.take (i+1)).reverse).1=(bn now (ls.take i).reverse).1:=by rw[e1]
   have e3:(bn now (ls.take (i+1)).reverse).2=(bn now (ls.take i).reverse).2:=by rw[e1]
   by_cases hca:y.a=now.length
   .have t:(now.length:Int)<=y.b:=hc.resolve_left (by omega);exact jU
   .exact jU
  .have u:y.a=now.length:=by omega
   have hb:y.b<now.length:=by omega
   have e1:bn now (ls.take (i+1)).reverse=if y.least then(max (bn now (ls.take i).reverse).1 (ec y now),(bn now (ls.take i).reverse).2)else((bn now (ls.take i).reverse).1,min (bn now (ls.take i).reverse).2 (ec y now)):=by rw[b,bn,if_neg hc]
   by_cases hy1:0<=y.b
   .obtain⟨z,j⟩:∃z,now[y.b.toNat]?=some z:=⟨_,zD (by omega)⟩
    have l:ec y now=y.mul*z:=by unfold ec;rw[if_pos hy1,List.getD_eq_getElem?_getD,j];rfl
    rw[l]at e1 f
    cases e:y.least with
    |true=>
     rw[e,if_pos rfl]at e1;have g:(bn now (ls.take (i+1)).reverse).1=if(bn now (ls.take i).reverse).1<y.mul*z then y.mul*z else(bn now (ls.take i).reverse).1:=by rw[e1,C']
     exact X1
    |false=>
     rw[e,if_neg (by decide)]at e1;have g:(bn now (ls.take (i+1)).reverse).2=if y.mul*z<(bn now (ls.take i).reverse).2 then y.mul*z else(bn now (ls.take i).reverse).2:=by rw[e1,sW]
     exact X0
   .have l:ec y now=y.mul:=by unfold ec;rw[if_neg hy1]
    rw[l]at e1 f
    cases e:y.least with
    |true=>
     rw[e,if_pos rfl]at e1;have g:(bn now (ls.take (i+1)).reverse).1=if(bn now (ls.take i).reverse).1<y.mul then y.mul else(bn now (ls.take i).reverse).1:=by rw[e1,C']
     exact X1
    |false=>
     rw[e,if_neg (by decide)]at e1;have g:(bn now (ls.take (i+1)).reverse).2=if y.mul<(bn now (ls.take i).reverse).2 then y.mul else(bn now (ls.take i).reverse).2:=by rw[e1,sW]
     exact X0
 .obtain rfl:i=ls.length:=by omega
  rw[yM]
  repeat refine aO ?_
  exact Rt.pure rfl
end
section
open Go
def iP(a b:List Int):Nat->Int
 |0=>0
 |k+1=>iP a b k+(if a.getD k 0-b.getD k 0<b.getD k 0-a.getD k 0 then b.getD k 0-a.getD k 0 else a.getD k 0-b.getD k 0)
def dst(a b:List Int):Int:=iP a b (min a.length b.length)
theorem cN.at_{cs:List Int}(h:cN cs)(k:Nat):0<=cs.getD k 0/\cs.getD k 0<=65536:=by
 rw[List.getD_eq_getElem?_getD]
 cases hx:cs[k]? with
 |none=>simp
 |some c=>exact h.v c (zG hx)
theorem D3{a b:List Int}(c:cN a)(h:cN b):∀k,0<=iP a b k/\iP a b k<=65536*(k:Int)
 |0=>by simp[iP]
 |k+1=>by
  have i:=D3 c h k;have e:=c.at_ k;have d:=h.at_ k;rw[iP];split<;>omega
theorem m8(a b:List Int)(g:cN a)(hb:cN b):APure prog 233 [bj a,bj b] (iD (dst a b)):=by
 have q:=g.l;have l:=hb.l;refine ap func233 ntmps233 λt=>?_
 repeat refine aO ?_
 refine aR mixed ai (γ:=Nat) (λi=>[(5,iD (iP a b i)),(6,iD i)]) (λi=>[]) (λi=>i<=a.length/\i<=b.length) (λi=>a.length-i) 0 (aj av) (Sc.refl _) ⟨zW _,zW _⟩ ?_;rintro i ⟨hi,hj⟩;have o:=D3 g hb i;by_cases hil:i<a.length
 .by_cases hjl:i<b.length
  .obtain⟨y,f⟩:∃y,a[i]?=some y:=⟨_,zD hil⟩
   obtain⟨z,e⟩:∃z,b[i]?=some z:=⟨_,zD hjl⟩
   have hy:a[((i:Nat):Int).toNat]?=some y:=f;have r:b[((i:Nat):Int).toNat]?=some z:=e;have j:=g.v y (zG f);have v:=hb.v z (zG e);have s:iP a b (i+1)=iP a b i+(if y-z<z-y then z-y else y-z):=by
    rw[iP,List.getD_eq_getElem?_getD,List.getD_eq_getElem?_getD,f,e];rfl
   have k:cB (iP a b i+(if y-z<z-y then z-y else y-z)):=by split<;>(constructor<;>omega)
   repeat refine aO ?_
   exact⟨i+1,(aj av),Sc.refl _,⟨by omega,by omega⟩,by omega⟩
  .obtain rfl:i=b.length:=by omega
   repeat refine aO ?_
   refine Rt.pure (zM iD ?_);unfold dst;rw[Nat.min_eq_right (by omega)]
 .obtain rfl:i=a.length:=by omega
  repeat refine aO ?_
  refine Rt.pure (zM iD ?_);unfold dst;rw[vH (by omega)]
def lw:List Int->List Int->Bool
 |x::a,y::s=>if x=y then lw a s else decide (x<y)
 |_,_=>false
theorem nY{α:Type}{l:List α}{i:Nat}{y:α}(h:l[i]?=some y):l.drop i=y::l.drop (i+1):=by
 obtain⟨b,a⟩:=zE.1 h;rw[vG b,a]
theorem pR(a b:List Int)(k:cN a)(hb:cN b):APure prog 234 [bj a,bj b] (bD (lw a b)):=by
 have j:=k.l;have l:=hb.l;refine ap func234 ntmps234 λq=>?_
 repeat refine aO ?_
 refine aR mixed ai (γ:=Nat) (λi=>[(5,iD i)]) (λi=>[]) (λi=>(i<=a.length/\i<=b.length)/\lw a b=lw (a.drop i) (b.drop i)) (λi=>a.length-i) 0 (aj av) (Sc.refl _) ⟨⟨zW _,zW _⟩,rfl⟩ ?_;rintro i ⟨⟨hi,hj⟩,e⟩;by_cases hil:i<a.length
 .by_cases hjl:i<b.length
  .obtain⟨y,g⟩:∃y,a[i]?=some y:=⟨_,zD hil⟩
   obtain⟨z,f⟩:∃z,b[i]?=some z:=⟨_,zD hjl⟩
   have hy:a[((i:Nat):Int).toNat]?=some y:=g;have o:b[((i:Nat):Int).toNat]?=some z:=f;rw[nY g,nY f,lw]at e;by_cases hyz:y=z
   .rw[if_pos hyz]at e
    repeat refine aO ?_
    exact⟨i+1,(aj av),Sc.refl _,⟨⟨by omega,by omega⟩,e⟩,by omega⟩
   .rw[if_neg hyz]at e
    repeat refine aO ?_
    refine Rt.pure (zM bD ?_);rw[e]
  .obtain rfl:i=b.length:=by omega
   have:lw (a.drop b.length) (b.drop b.length)=false:=by rw[List.drop_length];cases a.drop b.length<;>rfl
   repeat refine aO ?_
   refine Rt.pure (zM bD ?_);rw[e,this]
 .obtain rfl:i=a.length:=by omega
  have:lw (a.drop a.length) (b.drop a.length)=false:=by rw[List.drop_length];rfl
  repeat refine aO ?_
  refine Rt.pure (zM bD ?_);rw[e,this]
def qU(want a b:List Int):List Int:=if a.length=0 then b else if b.length=0 then a else if dst want a=dst want b then(if lw b a then b else a)else if dst want a<dst want b then a else b
theorem PF(want a b:List Int):qU want a b=a\/qU want a b=b:=by
 unfold qU
 repeat' split
 all_goals first|exact .inl rfl|exact .inr rfl
theorem Sa{A B:Prop}(k:B)(h:ar B->A:=by intro q7;(first|refine bO ?_|refine aA ?_|(refine' ah ?hc ?_;(case hc=>first|exact H1|exact H2|exact H3)));exact q7.1):A:=h ⟨k⟩
theorem LM{p:Prop}(h:p:=by
 rw[h4]at H3;refine ap func188 ntmps188 λBB=>?_
 repeat refine Sa ?_
 exact Rt.pure rfl):p:=h
theorem tu{p:Prop}(h:p:=by
 refine ap func188 ntmps188 λBB=>?_
 repeat refine Sa ?_
 exact Rt.pure rfl):p:=h
theorem pQ(want a b:List Int)(w:cN want)(e:cN a)(hb:cN b):APure prog 188 [bj want,bj a,bj b] (bj (qU want a b)):=by
 have f:=e.l;have l:=hb.l;have H1:=m8 want a w e;have H2:=m8 want b w hb;have H3:=pR b a hb e;unfold qU;by_cases h1:a.length=0
 .rw[if_pos h1];exact tu
 rw[if_neg h1];by_cases h2:b.length=0
 .rw[if_pos h2];exact tu
 rw[if_neg h2];generalize dst want a=d1 at *;generalize dst want b=d2 at *;by_cases h3:d1=d2
 .rw[if_pos h3]
  cases h4:lw b a with
  |true=>exact LM
  |false=>exact LM
 .rw[if_neg h3];by_cases h4:d1<d2
  .rw[if_pos h4];exact tu
  .rw[if_neg h4];exact tu
def Ep(w lo h:Int):Int:=if h<(if w<lo then lo else w)then h else(if w<lo then lo else w)
def og(want:List Int)(g:Int->List Int)(lo:Int):Nat->List Int
 |0=>[]
 |m+1=>qU want (og want g lo m) (g (lo+m))
def tN(ls:List gR)(lead:List Bool)(want:List Int):Nat->List Int->List Int
 |0,w=>w
 |f+1,w=>if(bn w ls.reverse).2<(bn w ls.reverse).1 then[]else if lead.getD w.length false then og want (λn=>tN ls lead want f (w++[n])) (bn w ls.reverse).1 ((bn w ls.reverse).2+1-(bn w ls.reverse).1).toNat
  else tN ls lead want f (w++[Ep (want.getD w.length 0) (bn w ls.reverse).1 (bn w ls.reverse).2])
def KA(n:Nat)(cs:List Int):Prop:=cN cs/\(cs=[]\/cs.length=n)
theorem cN.snoc{cs:List Int}(h:cN cs)(l:cs.length<100){n:Int}(b:0<=n/\n<=65536):cN (cs++[n]):=
 ⟨by rw[zI,List.length_singleton];omega,λc a=>by
  rcases zO.1 a with a|a
  .exact h.v c a
  .rw[zN]at a;subst a;exact b⟩
theorem nq(n:Nat):KA n []:=⟨⟨by simp,by simp⟩,.inl rfl⟩
theorem lv{want:List Int}{g:Int->List Int}{lo:Int}{n:Nat}:∀m:Nat,(∀q:Nat,q<m->KA n (g (lo+q)))->KA n (og want g lo m)
 |0,_=>nq n
 |m+1,h=>by
  have i:=lv (want:=want) m λq a=>h q (by omega);rw[og];rcases PF want (og want g lo m) (g (lo+m))with e|e<;>rw[e]
  .exact i
  .exact h m (by omega)
theorem I9{p:Prop}(h:p:=by rw[zI,List.length_singleton];omega):p:=h
theorem aL6{ls:List gR}{lead:List Bool}{want:List Int}(m:∀l∈ls,0<=l.mul/\l.mul<=65536)(w:want.length<=90):∀(f:Nat)(n:List Int),cN n->n.length+f=want.length->KA want.length (tN ls lead want f n)
 |0,n,a,e=>⟨a,.inr (by rw[tN];omega)⟩
 |f+1,n,a,e=>by
  have r:=kL a (s:=ls.reverse) λz b=>m z (List.mem_reverse.1 b);rw[tN];split
  .exact nq _
  rename_i c;split
  .refine lv _ λq d=>aL6 m w f _ (a.snoc (by omega) (by omega)) I9
  .refine aL6 m w f _ (a.snoc (by omega) ?_) I9;unfold Ep;split<;>(try split)<;>omega
theorem iw{A B:Prop}(k:B)(h:ar B->A:=by intro q7;(first|refine bO ?_|refine aA ?_|(refine' ah ?hc ?_;(case hc=>first|exact HR|exact HN|exact HB)));exact q7.1):A:=h ⟨k⟩
theorem aO2(ls:List gR)(lead:List Bool)(want:List Int)(L:LmS ls want.length)(J:cN want)(k:want.length<=90)(D:lead.length=want.length):∀(f:Nat)(w:List Int),cN w->w.length+f=want.length->APure prog 144 [AI ls,.sl 1 (lead.map λb=>[bD b]),bj want,bj w] (bj (tN ls lead want f w))
 |0,w,x,U=>by
  rw[tN];refine ap func144 ntmps144 λG=>?_
  repeat' first|refine iw ?_|intro b;conv=>whnf
  (refine Ap.go rfl rfl rfl rfl (ae.e0 _ _ (some ⟨b,0,none⟩)) (bS _) (FE w) (zs:=w.map λn=>[iD n]) rfl (by simp;omega) (by simp;omega) (λs=>s) da (λP M I a=>?_))
  repeat' first|refine iw ?_|intro b;conv=>whnf
  exact Rt.vs (Vs.row a (bS _))
 |f+1,w,x,U=>by
  have K:∀l∈ls,0<=l.mul/\l.mul<=65536:=λl hl=>(L.v l hl).2.2;have HR:=BT ls w x want.length L;have S:=kL x (s:=ls.reverse) λz Q=>K z (List.mem_reverse.1 Q);have t:=λn(h:0<=n/\n<=65536)=>aO2 ls lead want L J k D f (w++[n]) (x.snoc (by omega) h) I9;have u:=λn(h:0<=n/\n<=65536)=>aL6 (lead:=lead) K k f (w++[n]) (x.snoc (by omega) h) I9;rw[tN];generalize bn w ls.reverse=r at *;obtain⟨o,hi⟩:=r;simp only at *;by_cases hlh:hi<o
  .rw[if_pos hlh];refine ap func144 ntmps144 λG=>?_
   repeat' first|refine iw ?_|intro b;conv=>whnf
   exact Rt.vs (Vs.row (ae.nil 3 1) (bS _))
  rw[if_neg hlh];obtain⟨O,j⟩:∃y,lead[w.length]?=some y:=⟨_,zD (by omega)⟩
  have V:lead[(((w.map λn=>[iD n]).length:Nat):Int).toNat]?=some O:=by rw[zL];exact j
  rw[List.getD_eq_getElem?_getD,j,Option.getD_some]
  cases O with
  |false=>
   rw[if_neg (by decide)];obtain⟨C,e⟩:∃y,want[w.length]?=some y:=⟨_,zD (by omega)⟩
   have R:want[(((w.map λn=>[iD n]).length:Nat):Int).toNat]?=some C:=by rw[zL];exact e
   rw[List.getD_eq_getElem?_getD,e,Option.getD_some];have HN:=t (Ep C o hi) (by unfold Ep;split<;>(try split)<;>omega);refine ap func144 ntmps144 λG=>?_
   repeat' first|refine iw ?_|intro b;conv=>whnf
   (refine Ap.go rfl rfl rfl rfl (ae.e0 _ _ (some ⟨b,0,none⟩)) (bS _) (FE w) (zs:=w.map λn=>[iD n]) rfl (by simp;omega) (by simp;omega) (λs=>s) da (λP M I a=>?_))
   repeat' first|refine iw ?_|intro b;conv=>whnf
   refine Ap.frz rfl rfl rfl rfl a (bS _) rfl (zs:=(w++[Ep C o hi]).map λn=>[iD n]) (by rw[yB];rfl) (by simp;omega) (by simp;omega) ?_
   repeat' first|refine iw ?_|intro b;conv=>whnf
   exact Rt.pure rfl
  |true=>
   rw[if_pos rfl];refine ap func144 ntmps144 λG=>?_
   repeat' first|refine iw ?_|intro b;conv=>whnf
   refine xg (i:=12) (d:=.v (.slice none 0 0)) (d':=bj []) (τ:=[]) rfl (λh=>by cases h) (Vs.row (ae.nil 3 1) (bS _)) ?_;refine aR mixed ai (γ:=Nat) (λm=>[(12,bj (og want (λn=>tN ls lead want f (w++[n])) o m)),(13,iD (o+(m:Int)))]) (λ_=>[]) (λm=>m<=(hi+1-o).toNat) (λm=>(hi+1-o).toNat-m) 0 (aj av) (Sc.refl _) (zW _) ?_;intro m T;by_cases hml:m<(hi+1-o).toNat
   .have F:=lv (want:=want) (lo:=o) (n:=want.length) (g:=λn=>tN ls lead want f (w++[n])) m λq X=>u (o+q) (by omega);have E:=u (o+m) (by omega);have HN:=t (o+m) (by omega);have HB:=pQ want _ _ J F.1 E.1;have Y:og want (λn=>tN ls lead want f (w++[n])) o (m+1)=qU want (og want (λn=>tN ls lead want f (w++[n])) o m) (tN ls lead want f (w++[o+(m:Int)])):=rfl
    repeat' first|refine iw ?_|intro b;conv=>whnf
    (refine Ap.go rfl rfl rfl rfl (ae.e0 _ _ (some ⟨b,0,none⟩)) (bS _) (FE w) (zs:=w.map λn=>[iD n]) rfl (by simp;omega) (by simp;omega) (λs=>s) da (λP M I a=>?_))
    repeat' first|refine iw ?_|intro b;conv=>whnf
    refine Ap.frz rfl rfl rfl rfl a (bS _) rfl (zs:=(w++[o+(m:Int)]).map λn=>[iD n]) (by rw[yB];rfl) (by simp;omega) (by simp;omega) ?_
    repeat' first|refine iw ?_|intro b;conv=>whnf
    exact⟨m+1,(aj av),Sc.refl _,by omega,by omega⟩
   .obtain rfl:m=(hi+1-o).toNat:=by omega
    repeat' first|refine iw ?_|intro b;conv=>whnf
    exact Rt.pure rfl
end
section
open Go
theorem kC{A B:Prop}(k:B)(h:ar B->A:=by intro q7;(first|refine bC ?_|refine aA ?_|(refine' ah ?hc ?_;(case hc=>first|exact EX _ _ (by assumption)|exact xu _ _ (by assumption))));exact q7.1):A:=h ⟨k⟩
theorem bf1(s:List am):APure prog 85 [yj s] (bD (bg8 s)):=by
 refine ap func85 ntmps85 λa=>?_
 cases s with
 |nil=>
  repeat' first|refine kC ?_|(refine aV ?_;constructor<;>intro hc)
  refine Rt.pure (zM bD ?_);rfl
 |cons f r=>
  repeat' first|refine kC ?_|(refine aV ?_;constructor<;>intro hc)
  all_goals(refine Rt.pure (zM bD ?_);simp_all[bg8])
def bt(p:fp):List D:=[iD p.1,iD p.2.1,iD p.2.2.1,iD p.2.2.2]
theorem PQ(l:List fp)(v:Value)(s:af)(k f r e:Int)(g:ae 128 4 (l.map bt) v s)(hl:l.length<=1000000) :
  az prog 84 [.v v,iD k,iD f,iD r,iD e] s (λd b=>∃i,d= .v i/\ae 128 4 ((l++one k f r e).map bt) i b):=by
 refine cP func84 ntmps84 λj=>?_
 repeat' first|refine kC ?_|(refine aV ?_;constructor<;>intro hc)
 .refine Rt.same ⟨v,rfl,?_⟩;unfold one;rw[if_pos (by omega)];simpa using g
 .refine Ap.go rfl rfl rfl rfl g (bS _) rfl (zs:=(l++one k f r e).map bt) (by unfold one;rw[if_neg (by omega)];simp[bt]) (by simp[one];split<;>simp<;>omega) (by simp[one];split<;>simp<;>omega) (λb=>b) da (λa c b g=>?_)
  repeat refine kC ?_
  exact Rt.same ⟨_,rfl,g⟩
theorem LV{p:Prop}(h:p:=by
 rw[wC];exact⟨s,zG (i:=m) (by rw[yX,if_pos hm];exact hs),h⟩):p:=h
theorem aW6{x:ak}{i m:Nat}{r s:cI}(hm:m<i)(hs:x.rules[m]?=some s)(h:seq s.name r.name=true):oG x i r=true:=by
 unfold oG;exact LV
theorem XZ{p:Prop}(h:p:=by
 rw[List.any_eq_false];intro s hs;obtain⟨m,hm⟩:=yO hs;rw[yX]at hm;split at hm
 .rename_i hlt;simp[h m s hlt hm]
 .cases hm):p:=h
theorem aJ0{x:ak}{i:Nat}{r:cI}(h:∀(m:Nat)y,m<i->x.rules[m]?=some y->seq y.name r.name=false):oG x i r=false:=by
 unfold oG;exact XZ
theorem mQ{x:ak}{i:Nat}{r:cI}(h:oG x i r=true):jq x i r=7:=by
 unfold jq;split<;>rw[h]<;>rfl
theorem be3{x:ak}{i:Nat}{r:cI}(h:oG x i r=false)(k:dw x (bf x r.kind)=none):jq x i r=12:=by
 simp only[jq,k,h];rfl
theorem pE{x:ak}{i:Nat}{r:cI}{k:au}(h:oG x i r=false)(a:dw x (bf x r.kind)=some k) :
  jq x i r=if eZ x k (bf x r.kind) r.a=true\/eZ x k (bf x r.kind) r.b=true then 12 else if fJ x k (bf x r.kind) r.a=true\/fJ x k (bf x r.kind) r.b=true then 13 else if seq r.a r.b=true then 1 else 0:=by
 simp only[jq,a,h]
 cases eZ x k (bf x r.kind) r.a<;>cases eZ x k (bf x r.kind) r.b<;>cases fJ x k (bf x r.kind) r.a<;>cases fJ x k (bf x r.kind) r.b<;>cases seq r.a r.b<;>rfl
theorem bc3{x:ak}{i j:Int}{k:au}{g:am}(c:0<=i)(h:x.kz[i.toNat]?=some k)(a:0<=j)(b:k.fields[j.toNat]?=some g):hK x i j=(g,true):=by
 unfold hK;rw[Ka c a h,b]
theorem ol{x:ak}{i j:Int}(h:j<0):hK x i j=(x2,false):=by
 unfold hK;rw[al8 (by omega)]
theorem Ie(x:ak)(k:au)(o:Int){n:ByteArray}(h:(n.toList==({ data:=#[] }:ByteArray).toList)=true):eZ x k o n=false/\fJ x k o n=false:=by rw[oW]at h;simp[eZ,fJ,h]
theorem Lq(x:ak)(k:au)(o:Int){n:ByteArray}(h:(n.toList==({ data:=#[] }:ByteArray).toList)=false)(i:a7 k n<0):eZ x k o n=true:=by rw[oW]at h;simp[eZ,h,ol i]
theorem Lh{x:ak}{k:au}{o:Int}{n:ByteArray}{g:am}(h:(n.toList==({ data:=#[] }:ByteArray).toList)=false)(c:0<=o)(a:x.kz[o.toNat]?=some k)(j:0<=a7 k n)(b:k.fields[(a7 k n).toNat]?=some g) :
  eZ x k o n=false/\fJ x k o n=(!decide (g.kind=2) && !decide (g.kind=4)):=by
 rw[oW]at h;simp only[eZ,fJ,h,bc3 c a j b];refine⟨rfl,?_⟩;by_cases h2:g.kind=2<;>by_cases h4:g.kind=4<;>simp[h2,h4]
def bi4(x:ak)(k:au)(o:Int)(r:cI)(g:Nat×Bool):Prop:=(g.1=0/\g.2=false)\/(g.1=1/\eZ x k o r.a=false/\g.2=fJ x k o r.a)\/(g.1=2/\eZ x k o r.a=false/\eZ x k o r.b=false/\g.2=(fJ x k o r.a||fJ x k o r.b))
theorem be9(x:ak)(i:Nat)(r:cI)(hl:x.kz.length<=1000000)(J:∀k∈x.kz,k.fields.length<=1000000)(u:x.rules.length<=1000000)(v:x.rules[i]?=some r):APure prog 87 [ax x,iD i] (iD (jq x i r)):=by
 refine ap func87 ntmps87 λL=>?_
 repeat' first|refine kC ?_|intro b;conv=>whnf|refine ba.mk λy hy=>?_|(refine aV ?_;constructor<;>intro hc)
 refine fZ mixed ai (γ:=Nat) (λq=>[(6,iD q)]) (λ_=>[(b,.cells 96 (dI r))]) (λq=>q<=i/\∀(m:Nat)y,m<q->x.rules[m]?=some y->seq y.name r.name=false) (λq=>i-q) 0 rfl rfl ⟨by omega,λm y hm=>by omega⟩ ?_;rintro q ⟨K,hno⟩;have D:=(zE.1 v).1;have C:=ZF x r.kind
 repeat' first|refine kC ?_|intro b;conv=>whnf|refine ba.mk λy hy=>?_|(refine aV ?_;constructor<;>intro hc)
 .refine Rt.pure (zM iD ?_);exact(mQ (aW6 (m:=q) (by omega) hy (by assumption))).symm
 .exact X9
 .obtain rfl:q=i:=by omega
  refine Rt.pure (zM iD ?_);exact(be3 (aJ0 hno) (by unfold dw;rw[if_neg (by omega)])).symm
 .obtain rfl:q=i:=by omega
  obtain⟨k,s⟩:∃k,x.kz[(bf x r.kind).toNat]?=some k:=⟨_,zD (by omega)⟩
  have t:dw x (bf x r.kind)=some k:=by unfold dw;rw[if_pos (by omega)];exact s
  have E:=pE (aJ0 hno) t;have F:=J k (zG s);have I:=ME k r.a;have G:=ME k r.b;refine fZ mixed ai (γ:=Nat×Bool) (λg=>[(9,bD g.2),(10,iD g.1)]) (λ_=>[(b,.cells 96 (dI r))]) (bi4 x k (bf x r.kind) r) (λg=>2-g.1) (0,false) rfl rfl (.inl ⟨rfl,rfl⟩) ?_;rintro⟨j,w⟩ (⟨rfl,rfl⟩|⟨rfl,l,rfl⟩|⟨rfl,l,hb,rfl⟩)
  .repeat' first|refine kC ?_|intro b;conv=>whnf|refine ba.mk λy hy=>?_|(refine aV ?_;constructor<;>intro hc)
   .exact⟨(1,false),rfl,rfl,.inr (.inl ⟨rfl,(Ie x k _ ‹_›).1,(Ie x k _ ‹_›).2.symm⟩),by simp⟩
   .refine Rt.pure (zM iD ?_);rw[E,if_pos (.inl (Lq x k _ ‹_› (by omega)))]
   all_goals
    have a:=Lh (x:=x) (k:=k) (o:=bf x r.kind) (n:=r.a) ‹_› (by omega) s (by omega) hy
    first
    |exact⟨(1,!decide (y.kind=4)),rfl,rfl,.inr (.inl ⟨rfl,a.1,by rw[a.2];simp[*]⟩),by simp⟩
    |exact⟨(1,false),rfl,rfl,.inr (.inl ⟨rfl,a.1,by rw[a.2];simp[*]⟩),by simp⟩
  .generalize f:fJ x k (bf x r.kind) r.a=w
   repeat' first|refine kC ?_|intro b;conv=>whnf|refine ba.mk λy hy=>?_|(refine aV ?_;constructor<;>intro hc)
   .exact⟨(2,w),rfl,rfl,.inr (.inr ⟨rfl,l,(Ie x k _ ‹_›).1,by rw[(Ie x k _ (n:=r.b) ‹_›).2,f];simp⟩),by simp⟩
   .refine Rt.pure (zM iD ?_);rw[E,if_pos (.inr (Lq x k _ ‹_› (by omega)))]
   all_goals
    have a:=Lh (x:=x) (k:=k) (o:=bf x r.kind) (n:=r.b) ‹_› (by omega) s (by omega) hy
    first
    |exact⟨(2,true),rfl,rfl,.inr (.inr ⟨rfl,l,a.1,by rw[a.2,f];simp[*]⟩),by simp⟩
    |exact⟨(2,!decide (y.kind=4)),rfl,rfl,.inr (.inr ⟨rfl,l,a.1,by rw[a.2,f];simp[*]⟩),by simp⟩
    |exact⟨(2,false),rfl,rfl,.inr (.inr ⟨rfl,l,a.1,by rw[a.2,f];simp[*]⟩),by simp⟩
  .generalize f:(fJ x k (bf x r.kind) r.a||fJ x k (bf x r.kind) r.b)=w;rw[if_neg (by simp[l,hb])]at E;simp only[←xO,f]at E
   repeat' first|refine kC ?_|intro b;conv=>whnf|refine ba.mk λy hy=>?_|(refine aV ?_;constructor<;>intro hc)
   all_goals(refine Rt.pure (zM iD ?_);rw[E];simp[*,seq])
end
section
open Go
theorem ba1{x:ak}{i m:Nat}{l s:bX}(hm:m<i)(hs:x.lz[m]?=some s)(h:seq s.name l.name=true):JP x i l=true:=by
 unfold JP;exact LV
theorem bg3{x:ak}{i:Nat}{l:bX}(h:∀(m:Nat)y,m<i->x.lz[m]?=some y->seq y.name l.name=false):JP x i l=false:=by
 unfold JP;exact XZ
theorem dT{A B:Prop}(k:B)(h:ar B->A:=by intro q7;(first|refine bC ?_|refine aA ?_|(refine' ah ?hc ?_;(case hc=>first|exact HV|exact bf1 _|exact EX _ _ (by assumption)|exact xu _ _ (by assumption)|exact bf0 _ _ _ _ (by assumption) (by assumption) (by assumption) (by assumption)|exact be9 _ _ _ (by assumption) (by assumption) (by assumption) (by assumption))));exact q7.1):A:=h ⟨k⟩
theorem cq3{p:Prop}(h:p:=by
 have hyf:=hnf y (zG hy);have hyl:y.fields.length<=1000000:=by omega
 have ho1:=EL q (-1) (-1) (eX x q y);have hy:x.kz[q]?=some y:=hy;have hSK:=j9 q (dQ x);rw[show dQ x q=one q (-1) (-1) (eX x q y)++aq y.fields.length (fo x q y) by simp only[dQ,hy]]at hSK;refine bc (PQ (L++aq q (dQ x)) _ _ _ _ _ _ (by assumption) (by(try simp only[zI]);omega)) (bS _) (λs'=>s') da ?_;rintro _ s' ⟨v',rfl,hr'⟩
 repeat' first|refine dT ?_|refine ba.mk λy hy=>?_
 have hrow1:ae 128 4 ((L++aq q (dQ x)++one q (-1) (-1) (eX x q y)).map bt) v' s':=by rw[hE];exact hr'
 refine fZ mixed ai (γ:=Nat×Value×af) (λg=>[(4,.v g.2.1),(9,iD g.1)]) (λg=>g.2.2) (λg=>g.1<=y.fields.length/\ae 128 4 ((L++aq q (dQ x)++one q (-1) (-1) (eX x q y)++aq g.1 (fo x q y)).map bt) g.2.1 g.2.2) (λg=>y.fields.length-g.1) (0,v',s') rfl rfl ⟨zW _,by simpa [aq]using hrow1⟩ ?_;rintro⟨j,v,s⟩ ⟨hj,hrow2⟩;simp only at hj hrow2⊢;have hlen3:=fL (aw4 x q y) j;have hS:=j9 j (fo x q y);by_cases hjl:j<y.fields.length
 .obtain⟨f,hf0⟩:∃f,y.fields[j]?=some f:=⟨_,zD hjl⟩
  have hfa:fieldAt x q j=some f:=by rw[Ka (by omega) (by omega) hy];exact hf0
  rw[show fo x q y j=one q j (-1) (l8 x q y j f) by simp only[fo,hf0]]at hS
  repeat' first|refine dT ?_|refine ba.mk λy hy=>?_|(refine aV ?_;constructor<;>intro hc)
  .rw[show l8 x q y j f=7 by unfold l8;rw[if_pos (by assumption)]]at hS;refine bc (PQ (L++aq q (dQ x)++one q (-1) (-1) (eX x q y)++aq j (fo x q y)) _ _ _ _ _ _ (by assumption) (by(try simp only[zI]);omega)) (bS _) (λs'=>s') da ?_;rintro _ s' ⟨v',rfl,hr'⟩
   repeat' first|refine dT ?_|refine ba.mk λy hy=>?_
   exact⟨(j+1,v',s'),rfl,rfl,⟨by simp only;omega,by simp only;rw[hS,←zV];exact hr'⟩,by simp only;omega⟩
  .rw[show l8 x q y j f=cM x q j f by unfold l8;rw[if_neg (by assumption)]]at hS;refine bc (PQ (L++aq q (dQ x)++one q (-1) (-1) (eX x q y)++aq j (fo x q y)) _ _ _ _ _ _ (by assumption) (by(try simp only[zI]);omega)) (bS _) (λs'=>s') da ?_;rintro _ s' ⟨v',rfl,hr'⟩
   repeat' first|refine dT ?_|refine ba.mk λy hy=>?_
   exact⟨(j+1,v',s'),rfl,rfl,⟨by simp only;omega,by simp only;rw[hS,←zV];exact hr'⟩,by simp only;omega⟩
 .obtain rfl:j=y.fields.length:=by omega
  repeat' first|refine dT ?_|refine ba.mk λy hy=>?_|(refine aV ?_;constructor<;>intro hc)
  exact⟨(q+1,v,s),rfl,rfl,⟨by simp only;omega,by simp only;rw[hSK];simp only[zV]at hrow2⊢;exact hrow2⟩,by simp only;omega⟩):p:=h
theorem YF{p:Prop}(h:p:=by
 refine bc (PQ (L++aq q (dQ x)++one q (-1) (-1) (eX x q y)++aq j (fo x q y)) _ _ _ _ _ _ (by assumption) (by(try simp only[zI]);omega)) (bS _) (λs'=>s') da ?_;rintro _ s' ⟨v',rfl,hr'⟩
 repeat' first|refine dT ?_|refine ba.mk λy hy=>?_
 exact⟨(j+1,v',s'),rfl,rfl,⟨by simp only;omega,by simp only;rw[hS,←zV];exact hr'⟩,by simp only;omega⟩):p:=h
theorem vb(x:ak)(HV:APure prog 83 [ax x] (iD (fI x))):APure prog 44 [ax x] (.sl 4 ((eH x).map bt)):=by
 refine ap func44 ntmps44 λX=>?_
 repeat' first|refine dT ?_|refine ba.mk λy hy=>?_
 by_cases hv:fI x=0
 .have V:=kq hv;have hl:x.kz.length<=1000000:=by have:=V.nk;omega
  have S:∀k∈x.kz,k.fields.length<=1000000:=λk Q=>by have:=V.nf k Q;omega
  have O:x.lz.length<=1000000:=by have:=V.nl;omega
  have F:x.rules.length<=1000000:=by have:=V.nr;omega
  have P:eH x=aq x.lz.length (lA x)++aq x.kz.length (dQ x)++aq x.rules.length (lZ x):=by unfold eH;rw[if_pos hv]
  have J:=V.nk;have I:=V.nl;have G:=V.nr;have hnf:=V.nf;clear HV V
  repeat' first|refine dT ?_|refine ba.mk λy hy=>?_
  refine fZ mixed ai (γ:=Nat×Value×af) (λg=>[(4,.v g.2.1),(5,iD g.1)]) (λg=>g.2.2) (λg=>g.1<=x.lz.length/\ae 128 4 ((aq g.1 (lA x)).map bt) g.2.1 g.2.2) (λg=>x.lz.length-g.1) (0,.slice none 0 0,[]) rfl rfl ⟨zW _,ae.nil _ _⟩ ?_;rintro⟨q,v,s⟩ ⟨a,w⟩;simp only at a w⊢
  repeat' first|refine dT ?_|refine ba.mk λy hy=>?_|(refine aV ?_;constructor<;>intro hc)
  .obtain⟨l,t⟩:∃l,x.lz[q]?=some l:=⟨_,zD (by omega)⟩
   have hS:=j9 q (lA x);have E:=fL (aE6 x) q;rw[show lA x q=one (-1) q (-1) (if JP x q l then 7 else 0) by simp only[lA,t]]at hS;refine fZ mixed ai (γ:=Nat) (λm=>[(6,iD m),(4,.v v),(5,iD q)]) (λ_=>s) (λm=>m<=q/\∀(n:Nat)y,n<m->x.lz[n]?=some y->seq y.name l.name=false) (λm=>q-m) 0 rfl rfl ⟨by omega,λn y K=>by omega⟩ ?_;rintro m ⟨R,o⟩
   repeat' first|refine dT ?_|refine ba.mk λy hy=>?_|(refine aV ?_;constructor<;>intro hc)
   .have ht:=ba1 (x:=x) (i:=q) (l:=l) (m:=m) (by omega) hy ‹_›;rw[ht]at hS;refine bc (PQ (aq q (lA x)) _ _ _ _ _ _ (by assumption) (by(try simp only[zI]);omega)) (bS _) (λs'=>s') da ?_;rintro _ s' ⟨v',rfl,hr'⟩
    repeat' first|refine dT ?_|refine ba.mk λy hy=>?_
    exact⟨(q+1,v',s'),rfl,rfl,⟨by simp only;omega,by simp only;rw[hS];exact hr'⟩,by simp only;omega⟩
   .exact⟨m+1,rfl,rfl,⟨by omega,λn z K D=>by
     by_cases e:n=m
     .subst e;rw[show((n:Int)).toNat=n from rfl,D]at hy;cases hy;assumption
     .exact o n z (by omega) D⟩,by omega⟩
   .obtain rfl:m=q:=by omega
    rw[bg3 o]at hS;simp only[wG,uC,vk,zZ]at hS;exact⟨(m+1,v,s),rfl,rfl,⟨by simp only;omega,by simp only;rw[hS];exact w⟩,by simp only;omega⟩
  .obtain rfl:q=x.lz.length:=by omega
   have C:=fL (aE6 x) x.lz.length;generalize U:aq x.lz.length (lA x)=L at *;refine fZ mixed ai (γ:=Nat×Value×af) (λg=>[(4,.v g.2.1),(7,iD g.1)]) (λg=>g.2.2) (λg=>g.1<=x.kz.length/\ae 128 4 ((L++aq g.1 (dQ x)).map bt) g.2.1 g.2.2) (λg=>x.kz.length-g.1) (0,v,s) rfl rfl ⟨zW _,by simpa [aq]using w⟩ ?_;rintro⟨q,v,s⟩ ⟨a,w⟩;simp only at a w⊢;have u:=fL (λi=>bg7 x i hnf) q
   repeat' first|refine dT ?_|refine ba.mk λy hy=>?_|(refine aV ?_;constructor<;>intro hc)
   .have hE:eX x q y=7:=by unfold eX;rw[if_pos (by assumption)]
    exact cq3
   .have hE:eX x q y=0:=by unfold eX;rw[if_neg (by assumption),if_pos (by assumption)]
    have hyf:=hnf y (zG hy);have hyl:y.fields.length<=1000000:=by omega
    have ho1:=EL q (-1) (-1) (eX x q y);have hy:x.kz[q]?=some y:=hy;have hSK:=j9 q (dQ x);rw[show dQ x q=one q (-1) (-1) (eX x q y)++aq y.fields.length (fo x q y) by simp only[dQ,hy]]at hSK;have hrow1:ae 128 4 ((L++aq q (dQ x)++one q (-1) (-1) (eX x q y)).map bt) v s:=by rw[hE,vk,zZ];exact w
    refine fZ mixed ai (γ:=Nat×Value×af) (λg=>[(4,.v g.2.1),(9,iD g.1)]) (λg=>g.2.2) (λg=>g.1<=y.fields.length/\ae 128 4 ((L++aq q (dQ x)++one q (-1) (-1) (eX x q y)++aq g.1 (fo x q y)).map bt) g.2.1 g.2.2) (λg=>y.fields.length-g.1) (0,v,s) rfl rfl ⟨zW _,by simpa [aq]using hrow1⟩ ?_;rintro⟨j,v,s⟩ ⟨hj,hrow2⟩;simp only at hj hrow2⊢;have hlen3:=fL (aw4 x q y) j;have hS:=j9 j (fo x q y);by_cases hjl:j<y.fields.length
    .obtain⟨f,hf0⟩:∃f,y.fields[j]?=some f:=⟨_,zD hjl⟩
     have hfa:fieldAt x q j=some f:=by rw[Ka (by omega) (by omega) hy];exact hf0
     rw[show fo x q y j=one q j (-1) (l8 x q y j f) by simp only[fo,hf0]]at hS
     repeat' first|refine dT ?_|refine ba.mk λy hy=>?_|(refine aV ?_;constructor<;>intro hc)
     .rw[show l8 x q y j f=7 by unfold l8;rw[if_pos (by assumption)]]at hS;exact YF
     .rw[show l8 x q y j f=cM x q j f by unfold l8;rw[if_neg (by assumption)]]at hS;exact YF
    .obtain rfl:j=y.fields.length:=by omega
     repeat' first|refine dT ?_|refine ba.mk λy hy=>?_|(refine aV ?_;constructor<;>intro hc)
     exact⟨(q+1,v,s),rfl,rfl,⟨by simp only;omega,by simp only;rw[hSK];simp only[zV]at hrow2⊢;exact hrow2⟩,by simp only;omega⟩
   .have hE:eX x q y=11:=by unfold eX;rw[if_neg (by assumption),if_neg (by simp[*])]
    exact cq3
   .obtain rfl:q=x.kz.length:=by omega
    generalize T:aq x.kz.length (dQ x)=M at *;refine fZ mixed ai (γ:=Nat×Value×af) (λg=>[(4,.v g.2.1),(10,iD g.1)]) (λg=>g.2.2) (λg=>g.1<=x.rules.length/\ae 128 4 ((L++M++aq g.1 (lZ x)).map bt) g.2.1 g.2.2) (λg=>x.rules.length-g.1) (0,v,s) rfl rfl ⟨zW _,by simpa [aq]using w⟩ ?_;rintro⟨q,v,s⟩ ⟨a,hrow2⟩;simp only at a hrow2⊢;have hlen3:=fL (be2 x) q;have hS:=j9 q (lZ x);by_cases hql:q<x.rules.length
    .obtain⟨r,b⟩:∃r,x.rules[q]?=some r:=⟨_,zD hql⟩
     rw[show lZ x q=one (-1) (-1) q (jq x q r) by simp only[lZ,b]]at hS
     repeat' first|refine dT ?_|refine ba.mk λy hy=>?_|(refine aV ?_;constructor<;>intro hc)
     refine bc (PQ (L++M++aq q (lZ x)) _ _ _ _ _ _ (by assumption) (by(try simp only[zI]);omega)) (bS _) (λs'=>s') da ?_;rintro _ s' ⟨v',rfl,hr'⟩
     repeat' first|refine dT ?_|refine ba.mk λy hy=>?_
     exact⟨(q+1,v',s'),rfl,rfl,⟨by simp only;omega,by simp only;rw[hS,←zV];exact hr'⟩,by simp only;omega⟩
    .obtain rfl:q=x.rules.length:=by omega
     rw[P]
     repeat' first|refine dT ?_|refine ba.mk λy hy=>?_|(refine aV ?_;constructor<;>intro hc)
     exact Rt.vs (Vs.row hrow2 (bS _))
 .have P:eH x=[(-1,-1,-1,fI x)]:=by unfold eH;rw[if_neg hv]
  rw[P]
  repeat' first|refine dT ?_|refine ba.mk λy hy=>?_|(refine aV ?_;constructor<;>intro hc)
  refine bc (PQ [] _ _ _ _ _ _ (ae.nil _ _) (by simp)) (bS _) (λs'=>s') da ?_;rintro _ s' ⟨v',rfl,hr'⟩
  repeat' first|refine dT ?_|refine ba.mk λy hy=>?_
  refine Rt.vs (Vs.row (e:=128) (s:=s') (k:=4) (τ:=[]) ?_ (bS _))
  simpa [one,hv]using hr'
end
end Go.Proofs.YtilnpcolgcmofaaGreatDoor
