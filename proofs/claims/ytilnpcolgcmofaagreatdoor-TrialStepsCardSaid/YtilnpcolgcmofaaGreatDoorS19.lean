/- A part of the proof: Gs Dg Dh Di R10e R10f. -/
import Derived.Test.YtilnpcolgcmofaaGreatDoorS18
set_option maxRecDepth 100000
set_option maxHeartbeats 20000000
set_option linter.all false
namespace Go.Proofs.YtilnpcolgcmofaaGreatDoor
open Tryz
section
open Go
theorem dm.low{s:List au}{i:Nat}{k:au}(h:dm s i k):∀f∈k.fields,EQ k.fields f:=by
 obtain⟨w,r,l,f1,f2,d,p,c,A,z,y,rfl,v,u,q,j,x,b⟩:=h;intro f a;have t:∀n∈[N',xp,jA,jB,KT,oJ],n≠gh/\n≠bj:=by decide +kernel
 have o:f.name∈[N',xp,jA,jB,KT,oJ]->EQ (cT l::(f1++(f2++(d++(p++c))))) f:=λm=>⟨λe=>absurd e (t _ m).1,λe=>absurd e (t _ m).2⟩
 have g:=a;rcases zU.1 a with rfl|a
 .exact o (by simp[cT])
 rcases zO.1 a with a|a
 .have:=(v.nms).subset (vX (f:=am.name) a);exact o (by simp only[zU,yF,xE]at this⊢;rcases this with e|e|e<;>simp[e])
 rcases zO.1 a with a|a
 .rcases u with rfl|⟨_,rfl⟩
  .cases a
  .rw[zN]at a;subst a;exact o (by simp[v6])
 rcases zO.1 a with a|a
 .exact q.low_ok (λf a=>by simp[a]) f a
 rcases zO.1 a with a|a
 .exact j.low_ok (λf a=>by simp[a]) f a
 .have:=(b.nms).subset (vX (f:=am.name) a);exact o (by simp only[zU,yF,xE]at this⊢;simp[this])
variable {x:ak}
theorem HX.ruleNm(H:HX x){i:Nat}{k:au}(h:x.kz[i]?=some k){f:am}(c:f∈k.fields)(d:f.kind=2):eU x k i f.name=false/\fD x k i f.name=false:=by
 obtain⟨j,a⟩:=yO c;have e:=xt (H.form i k h).nodup a;have b:g0 x i (aZ k f.name)=(f,true):=by rw[g0,e,KZ h,a]
 exact⟨by simp[eU,b],by simp[fD,b,d]⟩
theorem sn(k:au)(i:Int):eU x k i nE=false/\fD x k i nE=false:=by simp[eU,fD,sP]
theorem kW{a b c d:Bool}(k:a=false)(j:b=false)(i:c=false)(h:d=false){g f e n:Int}:jg [(a,g),(b,f),(c,e),(d,n)]=0:=by subst k j i h;rfl
theorem bJ.rule0(h:bJ x){n:Nat}{r:cF}(z:x.rules[n]?=some r):je x n r=0:=by
 have H:=h.hx;obtain⟨i,_,J⟩:=h.rs;have N:∀(t:Nat)y,x.kz[t]?=some y->y.name=br t:=λt y E=>(H.form t y E).name;obtain⟨G,l⟩:=J.facts N H.nk;obtain⟨t,k,_,b,R⟩:=l r (zG z);have w:oi x n r=false:=by
  unfold oi;rw[List.any_eq_false];intro s F e;obtain⟨m,l⟩:=yO F;have o:m<n:=by have:=(zE.1 l).1;rw[zR]at this;omega
  rw[List.getElem?_take_of_lt o]at l;obtain⟨C,L⟩:=zE.1 l;obtain⟨B,u⟩:=zE.1 z;exact wS.1 G m n C B o (by rw[L,u];exact(Ek _ _).1 e)
 have j:∀n:ByteArray,n=k.name->bc x n=t:=λn e=>by rw[e,N t k b];exact H.kix b
 have low:=(H.form t k b).low;unfold je
 cases R with
 |low v p A=>
  rw[j _ rfl,ve b];obtain⟨f,d,e⟩:=QK p;obtain⟨D,g,I,u,K⟩:=(low f d).1 e;have a:=H.ruleNm b d D;have c:=H.ruleNm b I K;rw[e]at a;rw[u]at c;exact kW w (by simp only[a.1,c.1];rfl) (by simp only[a.2,c.2];rfl) (by show seq gh eL=false;decide +kernel)
 |most f2 v p q A=>
  rw[j _ rfl,ve b];obtain⟨f,d,e⟩:=QK p;have a:=H.ruleNm b d ((low f d).2 e);have c:=sn (x:=x) k t;rw[e]at a;exact kW w (by simp only[a.1,c.1];rfl) (by simp only[a.2,c.2];rfl) (by show seq bj nE=false;decide +kernel)
 |least f2 v p q A=>
  rw[j _ rfl,ve b];obtain⟨f,d,e⟩:=QK p;have a:=H.ruleNm b d ((low f d).2 e);have c:=sn (x:=x) k t;rw[e]at a;exact kW w (by simp only[a.1,c.1];rfl) (by simp only[a.2,c.2];rfl) (by show seq nE bj=false;decide +kernel)
theorem bJ.valid(h:bJ x):hQ x=true:=by
 have H:=h.hx;have C:=h.cls;have N:∀(t:Nat)y,x.kz[t]?=some y->y.name=br t:=λt y B=>(H.form t y B).name;simp only[hQ,zJ,yA,zQ];refine⟨⟨⟨⟨⟨⟨?_,?_⟩,?_⟩,?_⟩,λk a=>?_⟩,λl z=>?_⟩,λr u=>?_⟩
 .have:=h.ver;simp[cz];omega
 .have:=H.nk;omega
 .have:=C.nl;omega
 .have:=h.nr;omega
 .obtain⟨i,d⟩:=yO a;have j:i<=2:=by have:=(zE.1 d).1;have:=H.nk;omega
  have g:=(C.ks k a).nf;have o:=H.field d;simp only[ji,zJ,yA,zQ];refine⟨⟨⟨by rw[N i k d];exact QE j,?_⟩,g⟩,o⟩;obtain⟨V,r,A,f1,f2,U,T,S,M,X,W,rfl,_⟩:=H.form i k d;simp only[zU,yF,xE]at M;simp[ln];omega
 .obtain⟨m,mv,I,G,K,F,q⟩:=h.ls;rw[K,zN]at z;subst z;have c:(fq.take m).length=m:=by rw[zR];simp;omega
  have e:(fq.take m).all aY=true:=by
   rw[yA];intro w D;have:=xG D;simp only[fq,zU,yF,xE]at this;rcases this with rfl|rfl|rfl|rfl<;>decide +kernel
  have v:mv.all (b8 m)=true:=by
   rw[yA];intro p E;have:=q p E;simp[b8,cz];omega
  have f:aY bn=true:=by decide +kernel
  simp only[jS,c,e,v,f,Bool.true_and,Bool.and_true,zJ,zQ,cz];omega
 .obtain⟨i,_,L⟩:=h.rs;obtain⟨_,J⟩:=L.facts N H.nk;obtain⟨t,k,_,a,R⟩:=J r u;have b:t<=2:=by have:=(zE.1 a).1;have:=H.nk;omega
  have Q:=AU b (R.rn (N t k a));have P:aY r.kind=true:=by
   have:r.kind=k.name:=by cases R<;>rfl
   rw[this,N t k a];exact QE b
  have O:cz r.n (-1048576) 1048576=true:=by have:=(C.rs r u).n;simp[cz];omega
  have s:(dF r.a||aY r.a)=true/\(dF r.b||aY r.b)=true/\(!(dF r.a&&dF r.b))=true:=by
   cases R<;>(simp only;decide +kernel)
  simp only[wn,Q,P,O,s.1,s.2.1,s.2.2,Bool.and_self]
theorem aK2{α:Type}{q:Nat}{g:Nat->List α}(h:∀i,i<q->g i=[]):ap q g=[]:=by
 unfold ap;rw[List.flatMap_eq_nil_iff];intro i a;exact h i (xT.1 a)
theorem bJ.probs0(h:bJ x):ef x=[]:=by
 have H:=h.hx;have v:fC x=0:=by rw[fC,h.valid];rfl
 rw[ef,if_pos v,aK2,aK2,aK2]
 .rfl
 .intro i a;unfold lN;rw[zD a];simp only;rw[h.rule0 (zD a),uQ]
 .intro i a;have b:=zD a;unfold dO;rw[b];simp only;generalize x.kz[i]=k at b;have E:eS x i k=0:=by
   have F:=H.form i k b;rw[eS,F.name,H.kix b,if_neg (by omega)];obtain⟨o,r,l,f1,f2,g,p,t,s,q,n,rfl,_⟩:=F
   rfl
  rw[E,uQ,List.nil_append,aK2];intro j d;have c:=zD d;unfold fi;rw[c];simp only;generalize k.fields[j]=f at c;rw[lT,xt (H.form i k b).nodup c,if_neg (by omega),H.leads b c,uQ]
 .intro i a;obtain⟨m,mv,_,_,e,_⟩:=h.ls;rw[e]at a;obtain rfl:i=0:=by simp at a;omega
  unfold lh;rw[e];simp[Jj,uQ]
end
section
open Go
structure gI where
 a:Int
 b:Int
 mul:Int
 least:Bool
abbrev Oc(l:gI):List D:=[iD l.a,iD l.b,iD l.mul,bD l.least]
abbrev lmD(l:gI):D:=.agg (Oc l)
abbrev Ai(ls:List gI):D:=.sl 4 (ls.map Oc)
def WX(l:gI)(n:Nat):Bool:=decide (0<=l.a)&&(decide (l.a<n)&&(decide (-1<=l.b)&&(decide (l.b<n)&&(decide (0<=l.mul)&&decide (l.mul<=65536)))))
def kI(cs:List Int):Bool:=cs.all λc=>decide (0<=c)&&decide (c<=65536)
def dX(l:gI)(cs:List Int):Int:=if 0<=l.b then l.mul*cs.getD l.b.toNat 0 else l.mul
def i7(l:gI)(cs:List Int):Bool:=WX l cs.length&&kI cs&&(if l.least then decide (dX l cs<=cs.getD l.a.toNat 0)else decide (cs.getD l.a.toNat 0<=dX l cs))
theorem uE(l:gI)(n:Nat):APure prog 189 [lmD l,iD n] (bD (WX l n)):=by
 refine ao func189 ntmps189 λa=>?_
 repeat' first|refine aN ?_|(refine aT ?_;constructor<;>intro hc)
 all_goals(refine Rt.pure (zM bD ?_);unfold WX;first|(simp[*];done)|(simp_all;done)|(simp[*];omega)|(simp_all;omega))
theorem aB8(cs:List Int)(hl:cs.length<=1000):APure prog 98 [bi cs] (bD (kI cs)):=by
 unfold kI;refine ao func98 ntmps98 λg=>?_
 repeat refine aN ?_
 refine aV mixed ai (γ:=Nat) (λi=>[(3,iD i)]) (λ_=>[]) (λi=>i<=cs.length/\(cs.take i).all (λc=>decide (0<=c)&&decide (c<=65536))=true) (λi=>cs.length-i) 0 (aj aw) (Sc.refl _) ⟨zW _,rfl⟩ ?_;rintro i ⟨hi,b⟩;by_cases hil:i<cs.length
 .obtain⟨y,a⟩:∃y,cs[i]?=some y:=⟨_,zD hil⟩
  have hy:cs[((i:Nat):Int).toNat]?=some y:=a;by_cases hq:0<=y/\y<=65536
  .obtain⟨q,e⟩:=hq
   repeat refine aN ?_
   refine⟨i+1,(aj aw),Sc.refl _,⟨by omega,?_⟩,by omega⟩;rw[xC,a,List.all_append,b];simp;omega
  .have f:cs.all (λc=>decide (0<=c)&&decide (c<=65536))=false:=by
    rw[vT];exact⟨y,zG a,by simp;omega⟩
   rw[f];by_cases q:y<0
   .repeat refine aN ?_
    refine Rt.pure (zM bD ?_);rfl
   .repeat refine aN ?_
    refine Rt.pure (zM bD ?_);rfl
 .obtain rfl:i=cs.length:=by omega
  rw[yM]at b
  repeat refine aN ?_
  refine Rt.pure (zM bD ?_);rw[b]
theorem bm7{A B:Prop}(k:B)(h:ar B->A:=by intro q7;(first|refine bQ ?_|refine aA ?_|(refine' ah ?hc ?_;(case hc=>first|exact HV|exact HN)));exact q7.1):A:=h ⟨k⟩
theorem bq0{A B:Prop}(k:B)(h:ar B->A:=by intro q7;(first|refine FV ?_|(with_reducible refine S2 trivial ?_)|(with_reducible refine Br.t (wP _) ?_)|refine FX ?_|((with_reducible refine Sd.go ?qs7 ?_);(case qs7=>first|trivial|(constructor<;>omega)|omega|assumption|(refine And.intro ?_ (cA.mk ?_ ?_)<;>omega)|((try simp only[zL,zR,zI,List.length_cons,List.length_nil,zY,Nat.reduceAdd]at *);first|(constructor<;>omega)|omega)))|((with_reducible refine Ck.go ?qs7 ?_);(case qs7=>kernel_rfl))|((with_reducible refine' S1 ?hy ?h0 ?_);(case hy=>exact hya);(case h0=>omega))|((with_reducible refine' S1 ?hy ?h0 ?_);(case hy=>exact hyb);(case h0=>omega))|refine Kj ?_|refine FY ?_);exact q7.1):A:=h ⟨k⟩
theorem RH{A B:Prop}(k:B)(h:ar B->A:=by intro q7;(first|refine bq0 ?_|refine aA ?_|(refine' ah ?hc ?_;(case hc=>first|exact HV|exact HN)));exact q7.1):A:=h ⟨k⟩
theorem XT{p:Prop}(h:p:=by
 rw[hbd]
 cases hle:l.least with
 |true=>
  refine ao func145 ntmps145 λBB=>?_
  repeat refine RH ?_
  refine Rt.pure (zM bD ?_);rfl
 |false=>
  refine ao func145 ntmps145 λBB=>?_
  repeat refine RH ?_
  refine Rt.pure (zM bD ?_);rfl):p:=h
theorem Lh{p:Prop}(h:p:=by
 refine ao func145 ntmps145 λBB=>?_
 repeat refine bm7 ?_
 refine Rt.pure (zM bD ?_);rfl):p:=h
theorem uG(l:gI)(cs:List Int)(hl:cs.length<=1000):APure prog 145 [lmD l,bi cs] (bD (i7 l cs)):=by
 have HV:=uE l cs.length;rw[show((cs.length:Nat):Int)=((cs.map λn=>[iD n]).length:Int) by rw[zL]]at HV;have HN:=aB8 cs hl;unfold i7
 cases v:WX l cs.length with
 |false=>
  rw[v]at HV;exact Lh
 |true=>
  rw[v]at HV
  cases e:kI cs with
  |false=>
   rw[e]at HN;exact Lh
  |true=>
   rw[e]at HN;simp only[WX,zJ,zQ]at v;obtain⟨r,q,o,k,j,i⟩:=v;obtain⟨g,hya⟩:∃y,cs[l.a.toNat]?=some y:=⟨_,zD (by omega)⟩
   have f:cs.getD l.a.toNat 0=g:=by rw[List.getD_eq_getElem?_getD,hya];rfl
   rw[f];have t:l.mul=((l.mul.toNat:Nat):Int):=by omega
   by_cases hb:0<=l.b
   .obtain⟨b,hyb⟩:∃y,cs[l.b.toNat]?=some y:=⟨_,zD (by omega)⟩
    have hbd:dX l cs=l.mul*b:=by unfold dX;rw[if_pos hb,List.getD_eq_getElem?_getD,hyb];rfl
    have a:0<=b/\b<=65536:=by
     unfold kI at e;have:=yA.1 e b (zG hyb);simp at this;omega
    have s:0<=l.mul*b/\l.mul*b<=4294967296:=⟨Int.mul_nonneg j a.1,Int.mul_le_mul (c:=65536) (d:=65536) i a.2 a.1 (by decide)⟩
    exact XT
   .have hbd:dX l cs=l.mul:=by unfold dX;rw[if_neg hb]
    exact XT
end
section
open Go
theorem Ep{α:Type}{p:α->Bool}{l:List α}{i:Nat}{y:α}(h:l[i]?=some y)(a:p y=false):l.all p=false:=by
 rw[vT];exact⟨y,zG h,by rw[a];simp⟩
theorem wu{α:Type}{p:α->Bool}{l:List α}{i:Nat}{y:α}(h:l[i]?=some y):(l.take (i+1)).all p=((l.take i).all p&&p y):=by
 rw[xC,h];simp
theorem GD{A B:Prop}(k:B)(h:ar B->A:=by intro q7;(first|refine bQ ?_|refine aA ?_|(refine' ah ?hc ?_;(case hc=>exact HH)));exact q7.1):A:=h ⟨k⟩
theorem G3(ls:List gI)(cs:List Int)(hl:cs.length<=1000)(s:ls.length<=1000):APure prog 99 [Ai ls,bi cs] (bD (ls.all λl=>i7 l cs)):=by
 refine ao func99 ntmps99 λf=>?_
 repeat refine GD ?_
 refine aV mixed ai (γ:=Nat) (λi=>[(5,iD i)]) (λ_=>[]) (λi=>i<=ls.length/\(ls.take i).all (λl=>i7 l cs)=true) (λi=>ls.length-i) 0 (aj aw) (Sc.refl _) ⟨zW _,rfl⟩ ?_;rintro i ⟨hi,e⟩;by_cases hil:i<ls.length
 .obtain⟨y,a⟩:∃y,ls[i]?=some y:=⟨_,zD hil⟩
  have hy:ls[((i:Nat):Int).toNat]?=some y:=a;have HH:=uG y cs hl
  cases b:i7 y cs with
  |true=>
   rw[b]at HH
   repeat refine GD ?_
   exact⟨i+1,(aj aw),Sc.refl _,⟨by omega,by rw[wu a,e,b];rfl⟩,by omega⟩
  |false=>
   rw[b]at HH
   repeat refine GD ?_
   refine Rt.pure (zM bD ?_);rw[Ep (p:=λl=>i7 l cs) a b]
 .obtain rfl:i=ls.length:=by omega
  rw[yM]at e
  repeat refine GD ?_
  refine Rt.pure (zM bD ?_);rw[e]
structure ZI(ls:List gI)(n:Nat):Prop where
 l:ls.length<=200
 v:∀l∈ls,(0<=l.a/\l.a<n)/\(-1<=l.b/\l.b<n)/\(0<=l.mul/\l.mul<=65536)
def eO(n:Nat):List gI->List Bool
 |[]=>List.replicate n false
 |l::s=>if 0<=l.b then(eO n s).set l.b.toNat true else eO n s
theorem Zy(n:Nat):∀s,(eO n s).length=n
 |[]=>by simp[eO]
 |l::s=>by
  rw[eO];split
  .rw[yR,Zy n s]
  .exact Zy n s
theorem qm{α:Type}(f:α->D)(l:List α):(l.map λb=>[f b]).flatten=l.map f:=by
 induction l with
 |nil=>rfl
 |cons a l i=>simp[i]
theorem uF(ls:List gI)(n:Nat)(j:n<=100)(h:ZI ls n):APure prog 142 [iD n,Ai ls] (.sl 1 ((eO n ls.reverse).map λb=>[bD b])):=by
 have s:=h.l;refine ao func142 ntmps142 λl=>?_
 repeat' first|refine aN ?_|intro b;conv=>whnf
 refine Mk.go n rfl rfl rfl rfl rfl (by simp) (by omega) (by omega) (λo=>?_)
 repeat' first|refine aN ?_|intro b;conv=>whnf
 refine aV mixed ai (γ:=Nat) (λi=>[(6,iD i)]) (λi=>[(o,.cells 4 ((eO n (ls.take i).reverse).map bD))]) (λi=>i<=ls.length) (λi=>ls.length-i) 0 (aj aw) (Sc.perm (by simp[eO,List.map_replicate];exact .inr rfl)) (zW _) ?_;intro i hi;by_cases hil:i<ls.length
 .obtain⟨y,a⟩:∃y,ls[i]?=some y:=⟨_,zD hil⟩
  have hy:ls[((i:Nat):Int).toNat]?=some y:=a;have v:=(h.v y (zG a)).2.1;have g:(ls.take (i+1)).reverse=y::(ls.take i).reverse:=by rw[xC,a,List.reverse_append];rfl
  have f:=Zy n (ls.take i).reverse;by_cases hb:0<=y.b
  .have t:eO n (ls.take (i+1)).reverse=(eO n (ls.take i).reverse).set y.b.toNat true:=by rw[g,eO,if_pos hb]
   repeat' first|refine aN ?_|intro b;conv=>whnf
   refine Sv.cellm (tb:=4) (cs':=(eO n (ls.take (i+1)).reverse).map bD) (τ:=[]) (zH _) (by rw[zL,f];omega) rfl (by rw[t,wL];simp) ?_
   repeat' first|refine aN ?_|intro b;conv=>whnf
   exact⟨i+1,(aj aw),Sc.refl _,by omega,by omega⟩
  .have t:eO n (ls.take (i+1)).reverse=eO n (ls.take i).reverse:=by rw[g,eO,if_neg hb]
   repeat' first|refine aN ?_|intro b;conv=>whnf
   exact⟨i+1,(aj aw),(by rw[t];exact Sc.refl _),by omega,by omega⟩
 .obtain rfl:i=ls.length:=by omega
  rw[yM];have f:=Zy n ls.reverse;generalize eO n ls.reverse=L at *;subst f
  repeat' first|refine aN ?_|intro b;conv=>whnf
  have r:=PW (e:=4) (k:=1) (xs:=L.map λb=>[bD b]) o (λy hy=>by obtain⟨_,_,rfl⟩:=xM.1 hy;rfl) (by rw[zL];unfold maxLen;omega);rw[qm,zL]at r;exact Rt.vs (Vs.row r (bR _))
def bh(n:List Int):List gI->Int×Int
 |[]=>(0,65536)
 |l::s=>if l.a≠n.length\/(n.length:Int)<=l.b then bh n s else if l.least then(max (bh n s).1 (dX l n),(bh n s).2)else((bh n s).1,min (bh n s).2 (dX l n))
structure cL(cs:List Int):Prop where
 l:cs.length<=100
 v:∀c∈cs,0<=c/\c<=65536
theorem D7{l:gI}{n:List Int}(h:0<=l.mul/\l.mul<=65536)(a:cL n):0<=dX l n/\dX l n<=4294967296:=by
 unfold dX;split
 .have:0<=n.getD l.b.toNat 0/\n.getD l.b.toNat 0<=65536:=by
   rw[List.getD_eq_getElem?_getD]
   cases hx:n[l.b.toNat]? with
   |none=>simp
   |some c=>exact a.v c (zG hx)
  exact⟨Int.mul_nonneg h.1 this.1,Int.mul_le_mul (c:=65536) (d:=65536) h.2 this.2 this.1 (by decide)⟩
 .omega
theorem ky{n:List Int}(a:cL n):∀{s:List gI},(∀l∈s,0<=l.mul/\l.mul<=65536)->(0<=(bh n s).1/\(bh n s).1<=4294967296)/\(0<=(bh n s).2/\(bh n s).2<=65536)
 |[],_=>by simp[bh]
 |l::s,h=>by
  have i:=ky a (s:=s) λz b=>h z (yQ _ b);have c:=D7 (h l yN) a;rw[bh];split
  .exact i
  .split<;>simp only<;>omega
theorem Xz{p:Prop}(h:p:=by
 have e3:(bh now (ls.take (i+1)).reverse).2=(bh now (ls.take i).reverse).2:=by rw[e1]
 repeat refine aN ?_
 exact⟨i+1,(aj aw),Sc.refl _,by omega,by omega⟩):p:=h
theorem Xy{p:Prop}(h:p:=by
 have e3:(bh now (ls.take (i+1)).reverse).1=(bh now (ls.take i).reverse).1:=by rw[e1]
 repeat refine aN ?_
 exact⟨i+1,(aj aw),Sc.refl _,by omega,by omega⟩):p:=h
theorem jK{p:Prop}(h:p:=by
 repeat refine aN ?_
 exact⟨i+1,(aj aw),Sc.refl _,by omega,by omega⟩):p:=h
theorem Bu(ls:List gI)(now:List Int)(k:cL now)(n:Nat)(h:ZI ls n):APure prog 187 [Ai ls,bi now] (.tup [iD (bh now ls.reverse).1,iD (bh now ls.reverse).2]):=by
 have s:=h.l;have r:=k.l;refine ao func187 ntmps187 λw=>?_
 repeat refine aN ?_
 refine aV mixed ai (γ:=Nat) (λi=>[(7,iD (bh now (ls.take i).reverse).1),(8,iD (bh now (ls.take i).reverse).2),(9,iD i)]) (λi=>[]) (λi=>i<=ls.length) (λi=>ls.length-i) 0 (aj aw) (Sc.refl _) (zW _) ?_;intro i hi;by_cases hil:i<ls.length
 .obtain⟨y,a⟩:∃y,ls[i]?=some y:=⟨_,zD hil⟩
  have hy:ls[((i:Nat):Int).toNat]?=some y:=a;have v:=h.v y (zG a);have b:(ls.take (i+1)).reverse=y::(ls.take i).reverse:=by rw[xC,a,List.reverse_append];rfl
  have q:=ky k (s:=(ls.take i).reverse) λz o=>(h.v z (xG (List.mem_reverse.1 o))).2.2;have f:=D7 v.2.2 k;by_cases hc:y.a≠now.length\/(now.length:Int)<=y.b
  .have e1:bh now (ls.take (i+1)).reverse=bh now (ls.take i).reverse:=by rw[b,bh,if_pos hc]
   have g:(bh now (ls.take (i+1)).reverse).1=(bh now (ls.take i).reverse).1:=by rw[e1]
   have e3:(bh now (ls.take (i+1)).reverse).2=(bh now (ls.take i).reverse).2:=by rw[e1]
   by_cases hca:y.a=now.length
   .have t:(now.length:Int)<=y.b:=hc.resolve_left (by omega);exact jK
   .exact jK
  .have u:y.a=now.length:=by omega
   have hb:y.b<now.length:=by omega
   have e1:bh now (ls.take (i+1)).reverse=if y.least then(max (bh now (ls.take i).reverse).1 (dX y now),(bh now (ls.take i).reverse).2)else((bh now (ls.take i).reverse).1,min (bh now (ls.take i).reverse).2 (dX y now)):=by rw[b,bh,if_neg hc]
   by_cases hy1:0<=y.b
   .obtain⟨z,j⟩:∃z,now[y.b.toNat]?=some z:=⟨_,zD (by omega)⟩
    have l:dX y now=y.mul*z:=by unfold dX;rw[if_pos hy1,List.getD_eq_getElem?_getD,j];rfl
    rw[l]at e1 f
    cases e:y.least with
    |true=>
     rw[e,if_pos rfl]at e1;have g:(bh now (ls.take (i+1)).reverse).1=if(bh now (ls.take i).reverse).1<y.mul*z then y.mul*z else(bh now (ls.take i).reverse).1:=by rw[e1,CJ]
     exact Xz
    |false=>
     rw[e,if_neg (by decide)]at e1;have g:(bh now (ls.take (i+1)).reverse).2=if y.mul*z<(bh now (ls.take i).reverse).2 then y.mul*z else(bh now (ls.take i).reverse).2:=by rw[e1,sG]
     exact Xy
   .have l:dX y now=y.mul:=by unfold dX;rw[if_neg hy1]
    rw[l]at e1 f
    cases e:y.least with
    |true=>
     rw[e,if_pos rfl]at e1;have g:(bh now (ls.take (i+1)).reverse).1=if(bh now (ls.take i).reverse).1<y.mul then y.mul else(bh now (ls.take i).reverse).1:=by rw[e1,CJ]
     exact Xz
    |false=>
     rw[e,if_neg (by decide)]at e1;have g:(bh now (ls.take (i+1)).reverse).2=if y.mul<(bh now (ls.take i).reverse).2 then y.mul else(bh now (ls.take i).reverse).2:=by rw[e1,sG]
     exact Xy
 .obtain rfl:i=ls.length:=by omega
  rw[yM]
  repeat refine aN ?_
  exact Rt.pure rfl
end
section
open Go
def iF(a b:List Int):Nat->Int
 |0=>0
 |k+1=>iF a b k+(if a.getD k 0-b.getD k 0<b.getD k 0-a.getD k 0 then b.getD k 0-a.getD k 0 else a.getD k 0-b.getD k 0)
def dst(a b:List Int):Int:=iF a b (min a.length b.length)
theorem cL.at_{cs:List Int}(h:cL cs)(k:Nat):0<=cs.getD k 0/\cs.getD k 0<=65536:=by
 rw[List.getD_eq_getElem?_getD]
 cases hx:cs[k]? with
 |none=>simp
 |some c=>exact h.v c (zG hx)
theorem DF{a b:List Int}(c:cL a)(h:cL b):∀k,0<=iF a b k/\iF a b k<=65536*(k:Int)
 |0=>by simp[iF]
 |k+1=>by
  have i:=DF c h k;have e:=c.at_ k;have d:=h.at_ k;rw[iF];split<;>omega
theorem mO(a b:List Int)(g:cL a)(hb:cL b):APure prog 233 [bi a,bi b] (iD (dst a b)):=by
 have q:=g.l;have l:=hb.l;refine ao func233 ntmps233 λt=>?_
 repeat refine aN ?_
 refine aV mixed ai (γ:=Nat) (λi=>[(5,iD (iF a b i)),(6,iD i)]) (λi=>[]) (λi=>i<=a.length/\i<=b.length) (λi=>a.length-i) 0 (aj aw) (Sc.refl _) ⟨zW _,zW _⟩ ?_;rintro i ⟨hi,hj⟩;have o:=DF g hb i;by_cases hil:i<a.length
 .by_cases hjl:i<b.length
  .obtain⟨y,f⟩:∃y,a[i]?=some y:=⟨_,zD hil⟩
   obtain⟨z,e⟩:∃z,b[i]?=some z:=⟨_,zD hjl⟩
   have hy:a[((i:Nat):Int).toNat]?=some y:=f;have r:b[((i:Nat):Int).toNat]?=some z:=e;have j:=g.v y (zG f);have v:=hb.v z (zG e);have s:iF a b (i+1)=iF a b i+(if y-z<z-y then z-y else y-z):=by
    rw[iF,List.getD_eq_getElem?_getD,List.getD_eq_getElem?_getD,f,e];rfl
   have k:cA (iF a b i+(if y-z<z-y then z-y else y-z)):=by split<;>(constructor<;>omega)
   repeat refine aN ?_
   exact⟨i+1,(aj aw),Sc.refl _,⟨by omega,by omega⟩,by omega⟩
  .obtain rfl:i=b.length:=by omega
   repeat refine aN ?_
   refine Rt.pure (zM iD ?_);unfold dst;rw[Nat.min_eq_right (by omega)]
 .obtain rfl:i=a.length:=by omega
  repeat refine aN ?_
  refine Rt.pure (zM iD ?_);unfold dst;rw[vH (by omega)]
def lc:List Int->List Int->Bool
 |x::a,y::s=>if x=y then lc a s else decide (x<y)
 |_,_=>false
theorem nI{α:Type}{l:List α}{i:Nat}{y:α}(h:l[i]?=some y):l.drop i=y::l.drop (i+1):=by
 obtain⟨b,a⟩:=zE.1 h;rw[vG b,a]
theorem pz(a b:List Int)(k:cL a)(hb:cL b):APure prog 234 [bi a,bi b] (bD (lc a b)):=by
 have j:=k.l;have l:=hb.l;refine ao func234 ntmps234 λq=>?_
 repeat refine aN ?_
 refine aV mixed ai (γ:=Nat) (λi=>[(5,iD i)]) (λi=>[]) (λi=>(i<=a.length/\i<=b.length)/\lc a b=lc (a.drop i) (b.drop i)) (λi=>a.length-i) 0 (aj aw) (Sc.refl _) ⟨⟨zW _,zW _⟩,rfl⟩ ?_;rintro i ⟨⟨hi,hj⟩,e⟩;by_cases hil:i<a.length
 .by_cases hjl:i<b.length
  .obtain⟨y,g⟩:∃y,a[i]?=some y:=⟨_,zD hil⟩
   obtain⟨z,f⟩:∃z,b[i]?=some z:=⟨_,zD hjl⟩
   have hy:a[((i:Nat):Int).toNat]?=some y:=g;have o:b[((i:Nat):Int).toNat]?=some z:=f;rw[nI g,nI f,lc]at e;by_cases hyz:y=z
   .rw[if_pos hyz]at e
    repeat refine aN ?_
    exact⟨i+1,(aj aw),Sc.refl _,⟨⟨by omega,by omega⟩,e⟩,by omega⟩
   .rw[if_neg hyz]at e
    repeat refine aN ?_
    refine Rt.pure (zM bD ?_);rw[e]
  .obtain rfl:i=b.length:=by omega
   have:lc (a.drop b.length) (b.drop b.length)=false:=by rw[List.drop_length];cases a.drop b.length<;>rfl
   repeat refine aN ?_
   refine Rt.pure (zM bD ?_);rw[e,this]
 .obtain rfl:i=a.length:=by omega
  have:lc (a.drop a.length) (b.drop a.length)=false:=by rw[List.drop_length];rfl
  repeat refine aN ?_
  refine Rt.pure (zM bD ?_);rw[e,this]
def qB(want a b:List Int):List Int:=if a.length=0 then b else if b.length=0 then a else if dst want a=dst want b then(if lc b a then b else a)else if dst want a<dst want b then a else b
theorem Pc(want a b:List Int):qB want a b=a\/qB want a b=b:=by
 unfold qB
 repeat' split
 all_goals first|exact .inl rfl|exact .inr rfl
theorem RG{A B:Prop}(k:B)(h:ar B->A:=by intro q7;(first|refine bQ ?_|refine aA ?_|(refine' ah ?hc ?_;(case hc=>first|exact H1|exact H2|exact H3)));exact q7.1):A:=h ⟨k⟩
theorem K'{p:Prop}(h:p:=by
 rw[h4]at H3;refine ao func188 ntmps188 λBB=>?_
 repeat refine RG ?_
 exact Rt.pure rfl):p:=h
theorem sY{p:Prop}(h:p:=by
 refine ao func188 ntmps188 λBB=>?_
 repeat refine RG ?_
 exact Rt.pure rfl):p:=h
theorem py(want a b:List Int)(w:cL want)(e:cL a)(hb:cL b):APure prog 188 [bi want,bi a,bi b] (bi (qB want a b)):=by
 have f:=e.l;have l:=hb.l;have H1:=mO want a w e;have H2:=mO want b w hb;have H3:=pz b a hb e;unfold qB;by_cases h1:a.length=0
 .rw[if_pos h1];exact sY
 rw[if_neg h1];by_cases h2:b.length=0
 .rw[if_pos h2];exact sY
 rw[if_neg h2];generalize dst want a=d1 at *;generalize dst want b=d2 at *;by_cases h3:d1=d2
 .rw[if_pos h3]
  cases h4:lc b a with
  |true=>exact K'
  |false=>exact K'
 .rw[if_neg h3];by_cases h4:d1<d2
  .rw[if_pos h4];exact sY
  .rw[if_neg h4];exact sY
def DZ(w lo h:Int):Int:=if h<(if w<lo then lo else w)then h else(if w<lo then lo else w)
def nV(want:List Int)(g:Int->List Int)(lo:Int):Nat->List Int
 |0=>[]
 |m+1=>qB want (nV want g lo m) (g (lo+m))
def tq(ls:List gI)(lead:List Bool)(want:List Int):Nat->List Int->List Int
 |0,w=>w
 |f+1,w=>if(bh w ls.reverse).2<(bh w ls.reverse).1 then[]else if lead.getD w.length false then nV want (λn=>tq ls lead want f (w++[n])) (bh w ls.reverse).1 ((bh w ls.reverse).2+1-(bh w ls.reverse).1).toNat
  else tq ls lead want f (w++[DZ (want.getD w.length 0) (bh w ls.reverse).1 (bh w ls.reverse).2])
def Kc(n:Nat)(cs:List Int):Prop:=cL cs/\(cs=[]\/cs.length=n)
theorem cL.snoc{cs:List Int}(h:cL cs)(l:cs.length<100){n:Int}(b:0<=n/\n<=65536):cL (cs++[n]):=
 ⟨by rw[zI,List.length_singleton];omega,λc a=>by
  rcases zO.1 a with a|a
  .exact h.v c a
  .rw[zN]at a;subst a;exact b⟩
theorem mX(n:Nat):Kc n []:=⟨⟨by simp,by simp⟩,.inl rfl⟩
theorem la{want:List Int}{g:Int->List Int}{lo:Int}{n:Nat}:∀m:Nat,(∀q:Nat,q<m->Kc n (g (lo+q)))->Kc n (nV want g lo m)
 |0,_=>mX n
 |m+1,h=>by
  have i:=la (want:=want) m λq a=>h q (by omega);rw[nV];rcases Pc want (nV want g lo m) (g (lo+m))with e|e<;>rw[e]
  .exact i
  .exact h m (by omega)
theorem IM{p:Prop}(h:p:=by rw[zI,List.length_singleton];omega):p:=h
theorem aL2{ls:List gI}{lead:List Bool}{want:List Int}(m:∀l∈ls,0<=l.mul/\l.mul<=65536)(w:want.length<=90):∀(f:Nat)(n:List Int),cL n->n.length+f=want.length->Kc want.length (tq ls lead want f n)
 |0,n,a,e=>⟨a,.inr (by rw[tq];omega)⟩
 |f+1,n,a,e=>by
  have r:=ky a (s:=ls.reverse) λz b=>m z (List.mem_reverse.1 b);rw[tq];split
  .exact mX _
  rename_i c;split
  .refine la _ λq d=>aL2 m w f _ (a.snoc (by omega) (by omega)) IM
  .refine aL2 m w f _ (a.snoc (by omega) ?_) IM;unfold DZ;split<;>(try split)<;>omega
theorem ik{A B:Prop}(k:B)(h:ar B->A:=by intro q7;(first|refine bQ ?_|refine aA ?_|(refine' ah ?hc ?_;(case hc=>first|exact HR|exact HN|exact HB)));exact q7.1):A:=h ⟨k⟩
theorem aN9(ls:List gI)(lead:List Bool)(want:List Int)(L:ZI ls want.length)(J:cL want)(k:want.length<=90)(D:lead.length=want.length):∀(f:Nat)(w:List Int),cL w->w.length+f=want.length->APure prog 144 [Ai ls,.sl 1 (lead.map λb=>[bD b]),bi want,bi w] (bi (tq ls lead want f w))
 |0,w,x,U=>by
  rw[tq];refine ao func144 ntmps144 λG=>?_
  repeat' first|refine ik ?_|intro b;conv=>whnf
  (refine Ap.go rfl rfl rfl rfl (ae.e0 _ _ (some ⟨b,0,none⟩)) (bR _) (JS w) (zs:=w.map λn=>[iD n]) rfl (by simp;omega) (by simp;omega) (λs=>s) cZ (λP M I a=>?_))
  repeat' first|refine ik ?_|intro b;conv=>whnf
  exact Rt.vs (Vs.row a (bR _))
 |f+1,w,x,U=>by
  have K:∀l∈ls,0<=l.mul/\l.mul<=65536:=λl hl=>(L.v l hl).2.2;have HR:=Bu ls w x want.length L;have S:=ky x (s:=ls.reverse) λz Q=>K z (List.mem_reverse.1 Q);have t:=λn(h:0<=n/\n<=65536)=>aN9 ls lead want L J k D f (w++[n]) (x.snoc (by omega) h) IM;have u:=λn(h:0<=n/\n<=65536)=>aL2 (lead:=lead) K k f (w++[n]) (x.snoc (by omega) h) IM;rw[tq];generalize bh w ls.reverse=r at *;obtain⟨o,hi⟩:=r;simp only at *;by_cases hlh:hi<o
  .rw[if_pos hlh];refine ao func144 ntmps144 λG=>?_
   repeat' first|refine ik ?_|intro b;conv=>whnf
   exact Rt.vs (Vs.row (ae.nil 3 1) (bR _))
  rw[if_neg hlh];obtain⟨O,j⟩:∃y,lead[w.length]?=some y:=⟨_,zD (by omega)⟩
  have V:lead[(((w.map λn=>[iD n]).length:Nat):Int).toNat]?=some O:=by rw[zL];exact j
  rw[List.getD_eq_getElem?_getD,j,Option.getD_some]
  cases O with
  |false=>
   rw[if_neg (by decide)];obtain⟨C,e⟩:∃y,want[w.length]?=some y:=⟨_,zD (by omega)⟩
   have R:want[(((w.map λn=>[iD n]).length:Nat):Int).toNat]?=some C:=by rw[zL];exact e
   rw[List.getD_eq_getElem?_getD,e,Option.getD_some];have HN:=t (DZ C o hi) (by unfold DZ;split<;>(try split)<;>omega);refine ao func144 ntmps144 λG=>?_
   repeat' first|refine ik ?_|intro b;conv=>whnf
   (refine Ap.go rfl rfl rfl rfl (ae.e0 _ _ (some ⟨b,0,none⟩)) (bR _) (JS w) (zs:=w.map λn=>[iD n]) rfl (by simp;omega) (by simp;omega) (λs=>s) cZ (λP M I a=>?_))
   repeat' first|refine ik ?_|intro b;conv=>whnf
   refine Ap.frz rfl rfl rfl rfl a (bR _) rfl (zs:=(w++[DZ C o hi]).map λn=>[iD n]) (by rw[yB];rfl) (by simp;omega) (by simp;omega) ?_
   repeat' first|refine ik ?_|intro b;conv=>whnf
   exact Rt.pure rfl
  |true=>
   rw[if_pos rfl];refine ao func144 ntmps144 λG=>?_
   repeat' first|refine ik ?_|intro b;conv=>whnf
   refine xz (i:=12) (d:=.v (.slice none 0 0)) (d':=bi []) (τ:=[]) rfl (λh=>by cases h) (Vs.row (ae.nil 3 1) (bR _)) ?_;refine aV mixed ai (γ:=Nat) (λm=>[(12,bi (nV want (λn=>tq ls lead want f (w++[n])) o m)),(13,iD (o+(m:Int)))]) (λ_=>[]) (λm=>m<=(hi+1-o).toNat) (λm=>(hi+1-o).toNat-m) 0 (aj aw) (Sc.refl _) (zW _) ?_;intro m T;by_cases hml:m<(hi+1-o).toNat
   .have F:=la (want:=want) (lo:=o) (n:=want.length) (g:=λn=>tq ls lead want f (w++[n])) m λq X=>u (o+q) (by omega);have E:=u (o+m) (by omega);have HN:=t (o+m) (by omega);have HB:=py want _ _ J F.1 E.1;have Y:nV want (λn=>tq ls lead want f (w++[n])) o (m+1)=qB want (nV want (λn=>tq ls lead want f (w++[n])) o m) (tq ls lead want f (w++[o+(m:Int)])):=rfl
    repeat' first|refine ik ?_|intro b;conv=>whnf
    (refine Ap.go rfl rfl rfl rfl (ae.e0 _ _ (some ⟨b,0,none⟩)) (bR _) (JS w) (zs:=w.map λn=>[iD n]) rfl (by simp;omega) (by simp;omega) (λs=>s) cZ (λP M I a=>?_))
    repeat' first|refine ik ?_|intro b;conv=>whnf
    refine Ap.frz rfl rfl rfl rfl a (bR _) rfl (zs:=(w++[o+(m:Int)]).map λn=>[iD n]) (by rw[yB];rfl) (by simp;omega) (by simp;omega) ?_
    repeat' first|refine ik ?_|intro b;conv=>whnf
    exact⟨m+1,(aj aw),Sc.refl _,by omega,by omega⟩
   .obtain rfl:m=(hi+1-o).toNat:=by omega
    repeat' first|refine ik ?_|intro b;conv=>whnf
    exact Rt.pure rfl
end
section
open Go
theorem ke{A B:Prop}(k:B)(h:ar B->A:=by intro q7;(first|refine bA ?_|refine aA ?_|(refine' ah ?hc ?_;(case hc=>first|exact EA _ _ (by assumption)|exact wM _ _ (by assumption))));exact q7.1):A:=h ⟨k⟩
theorem be4(s:List am):APure prog 85 [xn s] (bD (ZW s)):=by
 refine ao func85 ntmps85 λa=>?_
 cases s with
 |nil=>
  repeat' first|refine ke ?_|(refine aT ?_;constructor<;>intro hc)
  refine Rt.pure (zM bD ?_);rfl
 |cons f r=>
  repeat' first|refine ke ?_|(refine aT ?_;constructor<;>intro hc)
  all_goals(refine Rt.pure (zM bD ?_);simp_all[ZW])
def bp(p:fj):List D:=[iD p.1,iD p.2.1,iD p.2.2.1,iD p.2.2.2]
theorem Pr(l:List fj)(v:Value)(s:af)(k f r e:Int)(g:ae 128 4 (l.map bp) v s)(hl:l.length<=1000000) :
  az prog 84 [.v v,iD k,iD f,iD r,iD e] s (λd b=>∃i,d= .v i/\ae 128 4 ((l++one k f r e).map bp) i b):=by
 refine cU func84 ntmps84 λj=>?_
 repeat' first|refine ke ?_|(refine aT ?_;constructor<;>intro hc)
 .refine Rt.same ⟨v,rfl,?_⟩;unfold one;rw[if_pos (by omega)];simpa using g
 .refine Ap.go rfl rfl rfl rfl g (bR _) rfl (zs:=(l++one k f r e).map bp) (by unfold one;rw[if_neg (by omega)];simp[bp]) (by simp[one];split<;>simp<;>omega) (by simp[one];split<;>simp<;>omega) (λb=>b) cZ (λa c b g=>?_)
  repeat refine ke ?_
  exact Rt.same ⟨_,rfl,g⟩
theorem Lu{p:Prop}(h:p:=by
 rw[wC];exact⟨s,zG (i:=m) (by rw[yX,if_pos hm];exact hs),h⟩):p:=h
theorem aW1{x:ak}{i m:Nat}{r s:cF}(hm:m<i)(hs:x.rules[m]?=some s)(h:seq s.name r.name=true):oi x i r=true:=by
 unfold oi;exact Lu
theorem Xx{p:Prop}(h:p:=by
 rw[List.any_eq_false];intro s hs;obtain⟨m,hm⟩:=yO hs;rw[yX]at hm;split at hm
 .rename_i hlt;simp[h m s hlt hm]
 .cases hm):p:=h
theorem aI5{x:ak}{i:Nat}{r:cF}(h:∀(m:Nat)y,m<i->x.rules[m]?=some y->seq y.name r.name=false):oi x i r=false:=by
 unfold oi;exact Xx
theorem mA{x:ak}{i:Nat}{r:cF}(h:oi x i r=true):je x i r=7:=by
 unfold je;split<;>rw[h]<;>rfl
theorem bd6{x:ak}{i:Nat}{r:cF}(h:oi x i r=false)(k:dv x (bc x r.kind)=none):je x i r=12:=by
 simp only[je,k,h];rfl
theorem pg{x:ak}{i:Nat}{r:cF}{k:au}(h:oi x i r=false)(a:dv x (bc x r.kind)=some k) :
  je x i r=if eU x k (bc x r.kind) r.a=true\/eU x k (bc x r.kind) r.b=true then 12 else if fD x k (bc x r.kind) r.a=true\/fD x k (bc x r.kind) r.b=true then 13 else if seq r.a r.b=true then 1 else 0:=by
 simp only[je,a,h]
 cases eU x k (bc x r.kind) r.a<;>cases eU x k (bc x r.kind) r.b<;>cases fD x k (bc x r.kind) r.a<;>cases fD x k (bc x r.kind) r.b<;>cases seq r.a r.b<;>rfl
theorem bb6{x:ak}{i j:Int}{k:au}{g:am}(c:0<=i)(h:x.kz[i.toNat]?=some k)(a:0<=j)(b:k.fields[j.toNat]?=some g):g0 x i j=(g,true):=by
 unfold g0;rw[JO c a h,b]
theorem nY{x:ak}{i j:Int}(h:j<0):g0 x i j=(xa,false):=by
 unfold g0;rw[al5 (by omega)]
theorem Hs(x:ak)(k:au)(o:Int){n:ByteArray}(h:(n.toList==({ data:=#[] }:ByteArray).toList)=true):eU x k o n=false/\fD x k o n=false:=by rw[oG]at h;simp[eU,fD,h]
theorem KR(x:ak)(k:au)(o:Int){n:ByteArray}(h:(n.toList==({ data:=#[] }:ByteArray).toList)=false)(i:aZ k n<0):eU x k o n=true:=by rw[oG]at h;simp[eU,h,nY i]
theorem KQ{x:ak}{k:au}{o:Int}{n:ByteArray}{g:am}(h:(n.toList==({ data:=#[] }:ByteArray).toList)=false)(c:0<=o)(a:x.kz[o.toNat]?=some k)(j:0<=aZ k n)(b:k.fields[(aZ k n).toNat]?=some g) :
  eU x k o n=false/\fD x k o n=(!decide (g.kind=2) && !decide (g.kind=4)):=by
 rw[oG]at h;simp only[eU,fD,h,bb6 c a j b];refine⟨rfl,?_⟩;by_cases h2:g.kind=2<;>by_cases h4:g.kind=4<;>simp[h2,h4]
def at2(x:ak)(k:au)(o:Int)(r:cF)(g:Nat×Bool):Prop:=(g.1=0/\g.2=false)\/(g.1=1/\eU x k o r.a=false/\g.2=fD x k o r.a)\/(g.1=2/\eU x k o r.a=false/\eU x k o r.b=false/\g.2=(fD x k o r.a||fD x k o r.b))
theorem be2(x:ak)(i:Nat)(r:cF)(hl:x.kz.length<=1000000)(J:∀k∈x.kz,k.fields.length<=1000000)(u:x.rules.length<=1000000)(v:x.rules[i]?=some r):APure prog 87 [ax x,iD i] (iD (je x i r)):=by
 refine ao func87 ntmps87 λL=>?_
 repeat' first|refine ke ?_|intro b;conv=>whnf|refine a7.mk λy hy=>?_|(refine aT ?_;constructor<;>intro hc)
 refine fW mixed ai (γ:=Nat) (λq=>[(6,iD q)]) (λ_=>[(b,.cells 96 (dG r))]) (λq=>q<=i/\∀(m:Nat)y,m<q->x.rules[m]?=some y->seq y.name r.name=false) (λq=>i-q) 0 rfl rfl ⟨by omega,λm y hm=>by omega⟩ ?_;rintro q ⟨K,hno⟩;have D:=(zE.1 v).1;have C:=Y1 x r.kind
 repeat' first|refine ke ?_|intro b;conv=>whnf|refine a7.mk λy hy=>?_|(refine aT ?_;constructor<;>intro hc)
 .refine Rt.pure (zM iD ?_);exact(mA (aW1 (m:=q) (by omega) hy (by assumption))).symm
 .exact XH
 .obtain rfl:q=i:=by omega
  refine Rt.pure (zM iD ?_);exact(bd6 (aI5 hno) (by unfold dv;rw[if_neg (by omega)])).symm
 .obtain rfl:q=i:=by omega
  obtain⟨k,s⟩:∃k,x.kz[(bc x r.kind).toNat]?=some k:=⟨_,zD (by omega)⟩
  have t:dv x (bc x r.kind)=some k:=by unfold dv;rw[if_pos (by omega)];exact s
  have E:=pg (aI5 hno) t;have F:=J k (zG s);have I:=L6 k r.a;have G:=L6 k r.b;refine fW mixed ai (γ:=Nat×Bool) (λg=>[(9,bD g.2),(10,iD g.1)]) (λ_=>[(b,.cells 96 (dG r))]) (at2 x k (bc x r.kind) r) (λg=>2-g.1) (0,false) rfl rfl (.inl ⟨rfl,rfl⟩) ?_;rintro⟨j,w⟩ (⟨rfl,rfl⟩|⟨rfl,l,rfl⟩|⟨rfl,l,hb,rfl⟩)
  .repeat' first|refine ke ?_|intro b;conv=>whnf|refine a7.mk λy hy=>?_|(refine aT ?_;constructor<;>intro hc)
   .exact⟨(1,false),rfl,rfl,.inr (.inl ⟨rfl,(Hs x k _ ‹_›).1,(Hs x k _ ‹_›).2.symm⟩),by simp⟩
   .refine Rt.pure (zM iD ?_);rw[E,if_pos (.inl (KR x k _ ‹_› (by omega)))]
   all_goals
    have a:=KQ (x:=x) (k:=k) (o:=bc x r.kind) (n:=r.a) ‹_› (by omega) s (by omega) hy
    first
    |exact⟨(1,!decide (y.kind=4)),rfl,rfl,.inr (.inl ⟨rfl,a.1,by rw[a.2];simp[*]⟩),by simp⟩
    |exact⟨(1,false),rfl,rfl,.inr (.inl ⟨rfl,a.1,by rw[a.2];simp[*]⟩),by simp⟩
  .generalize f:fD x k (bc x r.kind) r.a=w
   repeat' first|refine ke ?_|intro b;conv=>whnf|refine a7.mk λy hy=>?_|(refine aT ?_;constructor<;>intro hc)
   .exact⟨(2,w),rfl,rfl,.inr (.inr ⟨rfl,l,(Hs x k _ ‹_›).1,by rw[(Hs x k _ (n:=r.b) ‹_›).2,f];simp⟩),by simp⟩
   .refine Rt.pure (zM iD ?_);rw[E,if_pos (.inr (KR x k _ ‹_› (by omega)))]
   all_goals
    have a:=KQ (x:=x) (k:=k) (o:=bc x r.kind) (n:=r.b) ‹_› (by omega) s (by omega) hy
    first
    |exact⟨(2,true),rfl,rfl,.inr (.inr ⟨rfl,l,a.1,by rw[a.2,f];simp[*]⟩),by simp⟩
    |exact⟨(2,!decide (y.kind=4)),rfl,rfl,.inr (.inr ⟨rfl,l,a.1,by rw[a.2,f];simp[*]⟩),by simp⟩
    |exact⟨(2,false),rfl,rfl,.inr (.inr ⟨rfl,l,a.1,by rw[a.2,f];simp[*]⟩),by simp⟩
  .generalize f:(fD x k (bc x r.kind) r.a||fD x k (bc x r.kind) r.b)=w;rw[if_neg (by simp[l,hb])]at E;simp only[←xO,f]at E
   repeat' first|refine ke ?_|intro b;conv=>whnf|refine a7.mk λy hy=>?_|(refine aT ?_;constructor<;>intro hc)
   all_goals(refine Rt.pure (zM iD ?_);rw[E];simp[*,seq])
end
section
open Go
theorem aZ6{x:ak}{i m:Nat}{l s:bW}(hm:m<i)(hs:x.lz[m]?=some s)(h:seq s.name l.name=true):Jj x i l=true:=by
 unfold Jj;exact Lu
theorem bf7{x:ak}{i:Nat}{l:bW}(h:∀(m:Nat)y,m<i->x.lz[m]?=some y->seq y.name l.name=false):Jj x i l=false:=by
 unfold Jj;exact Xx
theorem dR{A B:Prop}(k:B)(h:ar B->A:=by intro q7;(first|refine bA ?_|refine aA ?_|(refine' ah ?hc ?_;(case hc=>first|exact HV|exact be4 _|exact EA _ _ (by assumption)|exact wM _ _ (by assumption)|exact be3 _ _ _ _ (by assumption) (by assumption) (by assumption) (by assumption)|exact be2 _ _ _ (by assumption) (by assumption) (by assumption) (by assumption))));exact q7.1):A:=h ⟨k⟩
theorem cq3{p:Prop}(h:p:=by
 have hyf:=hnf y (zG hy);have hyl:y.fields.length<=1000000:=by omega
 have ho1:=Ej q (-1) (-1) (eS x q y);have hy:x.kz[q]?=some y:=hy;have hSK:=jU q (dO x);rw[show dO x q=one q (-1) (-1) (eS x q y)++ap y.fields.length (fi x q y) by simp only[dO,hy]]at hSK;refine ba (Pr (L++ap q (dO x)) _ _ _ _ _ _ (by assumption) (by(try simp only[zI]);omega)) (bR _) (λs'=>s') cZ ?_;rintro _ s' ⟨v',rfl,hr'⟩
 repeat' first|refine dR ?_|refine a7.mk λy hy=>?_
 have hrow1:ae 128 4 ((L++ap q (dO x)++one q (-1) (-1) (eS x q y)).map bp) v' s':=by rw[hE];exact hr'
 refine fW mixed ai (γ:=Nat×Value×af) (λg=>[(4,.v g.2.1),(9,iD g.1)]) (λg=>g.2.2) (λg=>g.1<=y.fields.length/\ae 128 4 ((L++ap q (dO x)++one q (-1) (-1) (eS x q y)++ap g.1 (fi x q y)).map bp) g.2.1 g.2.2) (λg=>y.fields.length-g.1) (0,v',s') rfl rfl ⟨zW _,by simpa [ap]using hrow1⟩ ?_;rintro⟨j,v,s⟩ ⟨hj,hrow2⟩;simp only at hj hrow2⊢;have hlen3:=fF (Z9 x q y) j;have hS:=jU j (fi x q y);by_cases hjl:j<y.fields.length
 .obtain⟨f,hf0⟩:∃f,y.fields[j]?=some f:=⟨_,zD hjl⟩
  have hfa:fieldAt x q j=some f:=by rw[JO (by omega) (by omega) hy];exact hf0
  rw[show fi x q y j=one q j (-1) (lT x q y j f) by simp only[fi,hf0]]at hS
  repeat' first|refine dR ?_|refine a7.mk λy hy=>?_|(refine aT ?_;constructor<;>intro hc)
  .rw[show lT x q y j f=7 by unfold lT;rw[if_pos (by assumption)]]at hS;refine ba (Pr (L++ap q (dO x)++one q (-1) (-1) (eS x q y)++ap j (fi x q y)) _ _ _ _ _ _ (by assumption) (by(try simp only[zI]);omega)) (bR _) (λs'=>s') cZ ?_;rintro _ s' ⟨v',rfl,hr'⟩
   repeat' first|refine dR ?_|refine a7.mk λy hy=>?_
   exact⟨(j+1,v',s'),rfl,rfl,⟨by simp only;omega,by simp only;rw[hS,←zV];exact hr'⟩,by simp only;omega⟩
  .rw[show lT x q y j f=cJ x q j f by unfold lT;rw[if_neg (by assumption)]]at hS;refine ba (Pr (L++ap q (dO x)++one q (-1) (-1) (eS x q y)++ap j (fi x q y)) _ _ _ _ _ _ (by assumption) (by(try simp only[zI]);omega)) (bR _) (λs'=>s') cZ ?_;rintro _ s' ⟨v',rfl,hr'⟩
   repeat' first|refine dR ?_|refine a7.mk λy hy=>?_
   exact⟨(j+1,v',s'),rfl,rfl,⟨by simp only;omega,by simp only;rw[hS,←zV];exact hr'⟩,by simp only;omega⟩
 .obtain rfl:j=y.fields.length:=by omega
  repeat' first|refine dR ?_|refine a7.mk λy hy=>?_|(refine aT ?_;constructor<;>intro hc)
  exact⟨(q+1,v,s),rfl,rfl,⟨by simp only;omega,by simp only;rw[hSK];simp only[zV]at hrow2⊢;exact hrow2⟩,by simp only;omega⟩):p:=h
theorem XZ{p:Prop}(h:p:=by
 refine ba (Pr (L++ap q (dO x)++one q (-1) (-1) (eS x q y)++ap j (fi x q y)) _ _ _ _ _ _ (by assumption) (by(try simp only[zI]);omega)) (bR _) (λs'=>s') cZ ?_;rintro _ s' ⟨v',rfl,hr'⟩
 repeat' first|refine dR ?_|refine a7.mk λy hy=>?_
 exact⟨(j+1,v',s'),rfl,rfl,⟨by simp only;omega,by simp only;rw[hS,←zV];exact hr'⟩,by simp only;omega⟩):p:=h
theorem uJ(x:ak)(HV:APure prog 83 [ax x] (iD (fC x))):APure prog 44 [ax x] (.sl 4 ((ef x).map bp)):=by
 refine ao func44 ntmps44 λX=>?_
 repeat' first|refine dR ?_|refine a7.mk λy hy=>?_
 by_cases hv:fC x=0
 .have V:=j5 hv;have hl:x.kz.length<=1000000:=by have:=V.nk;omega
  have S:∀k∈x.kz,k.fields.length<=1000000:=λk Q=>by have:=V.nf k Q;omega
  have O:x.lz.length<=1000000:=by have:=V.nl;omega
  have F:x.rules.length<=1000000:=by have:=V.nr;omega
  have P:ef x=ap x.lz.length (lh x)++ap x.kz.length (dO x)++ap x.rules.length (lN x):=by unfold ef;rw[if_pos hv]
  have J:=V.nk;have I:=V.nl;have G:=V.nr;have hnf:=V.nf;clear HV V
  repeat' first|refine dR ?_|refine a7.mk λy hy=>?_
  refine fW mixed ai (γ:=Nat×Value×af) (λg=>[(4,.v g.2.1),(5,iD g.1)]) (λg=>g.2.2) (λg=>g.1<=x.lz.length/\ae 128 4 ((ap g.1 (lh x)).map bp) g.2.1 g.2.2) (λg=>x.lz.length-g.1) (0,.slice none 0 0,[]) rfl rfl ⟨zW _,ae.nil _ _⟩ ?_;rintro⟨q,v,s⟩ ⟨a,w⟩;simp only at a w⊢
  repeat' first|refine dR ?_|refine a7.mk λy hy=>?_|(refine aT ?_;constructor<;>intro hc)
  .obtain⟨l,t⟩:∃l,x.lz[q]?=some l:=⟨_,zD (by omega)⟩
   have hS:=jU q (lh x);have E:=fF (aE2 x) q;rw[show lh x q=one (-1) q (-1) (if Jj x q l then 7 else 0) by simp only[lh,t]]at hS;refine fW mixed ai (γ:=Nat) (λm=>[(6,iD m),(4,.v v),(5,iD q)]) (λ_=>s) (λm=>m<=q/\∀(n:Nat)y,n<m->x.lz[n]?=some y->seq y.name l.name=false) (λm=>q-m) 0 rfl rfl ⟨by omega,λn y K=>by omega⟩ ?_;rintro m ⟨R,o⟩
   repeat' first|refine dR ?_|refine a7.mk λy hy=>?_|(refine aT ?_;constructor<;>intro hc)
   .have ht:=aZ6 (x:=x) (i:=q) (l:=l) (m:=m) (by omega) hy ‹_›;rw[ht]at hS;refine ba (Pr (ap q (lh x)) _ _ _ _ _ _ (by assumption) (by(try simp only[zI]);omega)) (bR _) (λs'=>s') cZ ?_;rintro _ s' ⟨v',rfl,hr'⟩
    repeat' first|refine dR ?_|refine a7.mk λy hy=>?_
    exact⟨(q+1,v',s'),rfl,rfl,⟨by simp only;omega,by simp only;rw[hS];exact hr'⟩,by simp only;omega⟩
   .exact⟨m+1,rfl,rfl,⟨by omega,λn z K D=>by
     by_cases e:n=m
     .subst e;rw[show((n:Int)).toNat=n from rfl,D]at hy;cases hy;assumption
     .exact o n z (by omega) D⟩,by omega⟩
   .obtain rfl:m=q:=by omega
    rw[bf7 o]at hS;simp only[wG,uC,uQ,zZ]at hS;exact⟨(m+1,v,s),rfl,rfl,⟨by simp only;omega,by simp only;rw[hS];exact w⟩,by simp only;omega⟩
  .obtain rfl:q=x.lz.length:=by omega
   have C:=fF (aE2 x) x.lz.length;generalize U:ap x.lz.length (lh x)=L at *;refine fW mixed ai (γ:=Nat×Value×af) (λg=>[(4,.v g.2.1),(7,iD g.1)]) (λg=>g.2.2) (λg=>g.1<=x.kz.length/\ae 128 4 ((L++ap g.1 (dO x)).map bp) g.2.1 g.2.2) (λg=>x.kz.length-g.1) (0,v,s) rfl rfl ⟨zW _,by simpa [ap]using w⟩ ?_;rintro⟨q,v,s⟩ ⟨a,w⟩;simp only at a w⊢;have u:=fF (λi=>bg1 x i hnf) q
   repeat' first|refine dR ?_|refine a7.mk λy hy=>?_|(refine aT ?_;constructor<;>intro hc)
   .have hE:eS x q y=7:=by unfold eS;rw[if_pos (by assumption)]
    exact cq3
   .have hE:eS x q y=0:=by unfold eS;rw[if_neg (by assumption),if_pos (by assumption)]
    have hyf:=hnf y (zG hy);have hyl:y.fields.length<=1000000:=by omega
    have ho1:=Ej q (-1) (-1) (eS x q y);have hy:x.kz[q]?=some y:=hy;have hSK:=jU q (dO x);rw[show dO x q=one q (-1) (-1) (eS x q y)++ap y.fields.length (fi x q y) by simp only[dO,hy]]at hSK;have hrow1:ae 128 4 ((L++ap q (dO x)++one q (-1) (-1) (eS x q y)).map bp) v s:=by rw[hE,uQ,zZ];exact w
    refine fW mixed ai (γ:=Nat×Value×af) (λg=>[(4,.v g.2.1),(9,iD g.1)]) (λg=>g.2.2) (λg=>g.1<=y.fields.length/\ae 128 4 ((L++ap q (dO x)++one q (-1) (-1) (eS x q y)++ap g.1 (fi x q y)).map bp) g.2.1 g.2.2) (λg=>y.fields.length-g.1) (0,v,s) rfl rfl ⟨zW _,by simpa [ap]using hrow1⟩ ?_;rintro⟨j,v,s⟩ ⟨hj,hrow2⟩;simp only at hj hrow2⊢;have hlen3:=fF (Z9 x q y) j;have hS:=jU j (fi x q y);by_cases hjl:j<y.fields.length
    .obtain⟨f,hf0⟩:∃f,y.fields[j]?=some f:=⟨_,zD hjl⟩
     have hfa:fieldAt x q j=some f:=by rw[JO (by omega) (by omega) hy];exact hf0
     rw[show fi x q y j=one q j (-1) (lT x q y j f) by simp only[fi,hf0]]at hS
     repeat' first|refine dR ?_|refine a7.mk λy hy=>?_|(refine aT ?_;constructor<;>intro hc)
     .rw[show lT x q y j f=7 by unfold lT;rw[if_pos (by assumption)]]at hS;exact XZ
     .rw[show lT x q y j f=cJ x q j f by unfold lT;rw[if_neg (by assumption)]]at hS;exact XZ
    .obtain rfl:j=y.fields.length:=by omega
     repeat' first|refine dR ?_|refine a7.mk λy hy=>?_|(refine aT ?_;constructor<;>intro hc)
     exact⟨(q+1,v,s),rfl,rfl,⟨by simp only;omega,by simp only;rw[hSK];simp only[zV]at hrow2⊢;exact hrow2⟩,by simp only;omega⟩
   .have hE:eS x q y=11:=by unfold eS;rw[if_neg (by assumption),if_neg (by simp[*])]
    exact cq3
   .obtain rfl:q=x.kz.length:=by omega
    generalize T:ap x.kz.length (dO x)=M at *;refine fW mixed ai (γ:=Nat×Value×af) (λg=>[(4,.v g.2.1),(10,iD g.1)]) (λg=>g.2.2) (λg=>g.1<=x.rules.length/\ae 128 4 ((L++M++ap g.1 (lN x)).map bp) g.2.1 g.2.2) (λg=>x.rules.length-g.1) (0,v,s) rfl rfl ⟨zW _,by simpa [ap]using w⟩ ?_;rintro⟨q,v,s⟩ ⟨a,hrow2⟩;simp only at a hrow2⊢;have hlen3:=fF (bd5 x) q;have hS:=jU q (lN x);by_cases hql:q<x.rules.length
    .obtain⟨r,b⟩:∃r,x.rules[q]?=some r:=⟨_,zD hql⟩
     rw[show lN x q=one (-1) (-1) q (je x q r) by simp only[lN,b]]at hS
     repeat' first|refine dR ?_|refine a7.mk λy hy=>?_|(refine aT ?_;constructor<;>intro hc)
     refine ba (Pr (L++M++ap q (lN x)) _ _ _ _ _ _ (by assumption) (by(try simp only[zI]);omega)) (bR _) (λs'=>s') cZ ?_;rintro _ s' ⟨v',rfl,hr'⟩
     repeat' first|refine dR ?_|refine a7.mk λy hy=>?_
     exact⟨(q+1,v',s'),rfl,rfl,⟨by simp only;omega,by simp only;rw[hS,←zV];exact hr'⟩,by simp only;omega⟩
    .obtain rfl:q=x.rules.length:=by omega
     rw[P]
     repeat' first|refine dR ?_|refine a7.mk λy hy=>?_|(refine aT ?_;constructor<;>intro hc)
     exact Rt.vs (Vs.row hrow2 (bR _))
 .have P:ef x=[(-1,-1,-1,fC x)]:=by unfold ef;rw[if_neg hv]
  rw[P]
  repeat' first|refine dR ?_|refine a7.mk λy hy=>?_|(refine aT ?_;constructor<;>intro hc)
  refine ba (Pr [] _ _ _ _ _ _ (ae.nil _ _) (by simp)) (bR _) (λs'=>s') cZ ?_;rintro _ s' ⟨v',rfl,hr'⟩
  repeat' first|refine dR ?_|refine a7.mk λy hy=>?_
  refine Rt.vs (Vs.row (e:=128) (s:=s') (k:=4) (τ:=[]) ?_ (bR _))
  simpa [one,hv]using hr'
end
end Go.Proofs.YtilnpcolgcmofaaGreatDoor
