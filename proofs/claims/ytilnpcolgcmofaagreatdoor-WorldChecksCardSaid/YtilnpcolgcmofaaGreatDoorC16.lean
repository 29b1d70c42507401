/- A part of the proof. -/
import Derived.Test.YtilnpcolgcmofaaGreatDoorC15
import Derived.Lib.BufferWrite
import Derived.Lib.AppendStr
import Derived.Deep.AppendSrc
set_option maxRecDepth 100000
set_option maxHeartbeats 20000000
set_option linter.all false
namespace Go.Proofs.YtilnpcolgcmofaaGreatDoor
open Tryz
section
open Go
def cg.hx{x:ak}(h:cg x):HX x where
 nk:=h.nk.2
 form:=h.ks.form
 kd:=λk a f b=>((h.cls.ks k a).fs f b).kd.1
 life:=by
  obtain⟨m,mv,_,_,l,_⟩:=h.ls;rw[l];simp[QM]
def R4{t:Nat}(h:t<=2):bf (bA t)=true:=by
 obtain rfl|rfl|rfl:t=0\/t=1\/t=2:=by omega
 all_goals decide +kernel
def ur:dz nE=true:=by decide +kernel
def E'{p:Prop}(h:p:=by
 (simp only[dV,zJ];refine⟨⟨by decide +kernel,?_⟩,?_⟩)
 ·(simp[m9,iU,iV,jC,iT,eO,ur])
 .simp[fy,lg];omega):p:=h
def aM.ok{p:List an}(h:aM p):∀f∈p,dV f=true:=by
 cases h with
 |none=>simp
 |size a b t s=>
  intro f e;rw[zN]at e;subst e;exact E'
 |tag n ws E g k B=>
  intro f e;rw[zN]at e;subst e
  (simp only[dV,zJ];refine⟨⟨by decide +kernel,?_⟩,?_⟩)
  ·(simp[m9,iU,iV,jC,iT,eO,ur])
  .have D:0<ws.sum:=by
    obtain⟨w,i,v⟩:=B;clear g
    induction ws with
    |nil=>cases i
    |cons z u m=>
     have C:=k z (by simp);have r:∀l:List Int,(∀w∈l,0<=w/\w<=4)->0<=l.sum:=λl=>by
      induction l with
      |nil=>simp
      |cons q l m=>intro j;have:=j q (by simp);have:=m λw g=>j w (by simp[g]);simp;omega
     rw[List.sum_cons];rcases zU.1 i with rfl|i
     .have:=r u λw g=>k w (by simp[g]);omega
     .have:=m (λw g=>k w (by simp[g])) i;omega
   have x:ws.all (λn=>cF n 0 1048576)=true:=by
    rw[yA];intro w g;have:=k w g;simp[cF];omega
   have o:([rt,Q4,jm].take n).all bf=true:=by
    rw[yA];intro w g;have:=xG g;simp only[zU,yF,xE]at this;rcases this with rfl|rfl|rfl<;>decide +kernel
   have j:([rt,Q4,jm].take n).length=n:=by rw[zR];simp;omega
   simp only[fy];rw[if_neg (by simp),if_neg (by simp),if_neg (by simp),if_pos trivial,na,x,o,j,g];simp[cF];omega
 |born a b c d t s A y=>
  intro f e;simp only[zU,yF,xE]at e;rcases e with rfl|rfl
  ·(simp only[dV,zJ];refine⟨⟨by decide +kernel,?_⟩,?_⟩)
   ·(simp[m9,iU,iV,jC,iT,eO,ur])
   .simp[fy,lg,ur];omega
  ·(simp only[dV,zJ];refine⟨⟨by decide +kernel,?_⟩,?_⟩)
   ·(simp[m9,iU,iV,jC,iT,eO,ur])
   .have:bf pY=true:=by decide +kernel
    simp[fy,lg,this];omega
 |state a b t s=>
  intro f e;rw[zN]at e;subst e
  (simp only[dV,zJ];refine⟨⟨by decide +kernel,?_⟩,?_⟩)
  ·(simp[m9,iU,iV,jC,iT,eO,ur])
  .have:bf bz=true:=by decide +kernel
   simp[fy,lg,this];omega
 |low a b c d t s A y=>
  intro f e;simp only[zU,yF,xE]at e;rcases e with rfl|rfl
  .exact E'
  .exact E'
def aM.nm{p:List an}(h:aM p):∀f∈p,bf f.name=true:=λf a=>by
 have:=h.ok f a;simp only[dV,zJ]at this;exact this.1.1
def vX:=@List.mem_map_of_mem
variable{i:Nat}{k:aq}
def dG.nms{s:List aq}(h:dG s i k):∀f∈k.fields,bf f.name=true:=by
 obtain⟨o,r,l,f1,f2,m,p,t,v,u,q,rfl,j,g,d,c,n,b⟩:=h;intro f a;rcases zU.1 a with rfl|a
 .show bf PF=true;decide +kernel
 rcases zO.1 a with a|a
 .have:=(j.nms).subset (vX (f:=an.name) a);simp only[zU,yF,xE]at this;rcases this with e|e|e<;>rw[e]<;>decide +kernel
 rcases zO.1 a with a|a
 .rcases g with rfl|⟨_,rfl⟩
  .cases a
  .rw[zN]at a;subst a;show bf ME=true;decide +kernel
 rcases zO.1 a with a|a
 .exact d.nm f a
 rcases zO.1 a with a|a
 .exact c.nm f a
 .have:=(b.nms).subset (vX (f:=an.name) a);simp only[zU,yF,xE]at this;rw[this];decide +kernel
def HX.field{x:ak}(H:HX x)(u:x.kz[i]?=some k):∀f∈k.fields,dV f=true:=by
 have F:=H.form i k u;have G:i<=2:=by have:=(zE.1 u).1;have:=H.nk;omega
 have m:=F.nms;obtain⟨S,r,A,f1,f2,R,Q,O,Z,Y,w,rfl,N,M,L,K,X,p⟩:=F;intro f h;have c:=m f h;rcases zU.1 h with rfl|h
 .simp only[dV,c,Bool.true_and,zJ];refine⟨by simp[m9,iU,iV,jC,iT,eO,ur,dm],?_⟩;simp only[zU,yF,xE]at w;rcases w with rfl|rfl|rfl|rfl<;>simp[fy,dm,cF]
 rcases zO.1 h with h|h
 .rcases N with rfl|⟨t,z,J,sm,P,B,l,d,C,E,rfl⟩
  .cases h
  rcases zU.1 h with rfl|h
  .simp only[dV,c,Bool.true_and,zJ];refine⟨by simp[m9,iU,iV,jC,iT,eO,ur,it],?_⟩;have:=R4 (t:=t) (by omega);simp only[zU,yF,xE]at d;rcases l with rfl|rfl<;>rcases d with rfl|rfl|rfl|rfl<;>simp[fy,it,this,lg]
  have e:bf zz=true:=by decide +kernel
  have q:bf pX=true:=by decide +kernel
  rcases zO.1 h with h|h
  .rcases C with rfl|⟨y,n,g,s,v,D,rfl⟩
   .cases h
   rw[zN]at h;subst h;have:=(H.form t y s).nms g (zG v);simp only[dV,c,Bool.true_and,zJ];exact⟨by simp[m9,iU,iV,jC,iT,eO,ur,iP],by simp[fy,iP,this,e]⟩
  .rcases E with rfl|⟨a,b,y,n,V,U,s,v,rfl⟩
   .cases h
   rw[zN]at h;subst h;simp only[dV,c,Bool.true_and,zJ];exact⟨by simp[m9,iU,iV,jC,iT,eO,ur,fY],by simp[fy,fY,q,e,lg];exact⟨yJ (by omega),yJ (by omega),yJ (by omega)⟩⟩
 rcases zO.1 h with h|h
 .rcases M with rfl|⟨_,rfl⟩
  .cases h
  .rw[zN]at h;subst h;have:=R4 (t:=0) (by omega);simp only[dV,c,Bool.true_and,zJ];exact⟨by simp[m9,iU,iV,jC,iT,eO,ur,yi],by simp[fy,yi,this,lg]⟩
 rcases zO.1 h with h|h
 .exact L.ok f h
 rcases zO.1 h with h|h
 .exact K.ok f h
 .rcases p with rfl|⟨j,T,I,o,W,rfl⟩
  .cases h
  .rw[zN]at h;subst h;have:=R4 (t:=j) (by have:=(zE.1 o).1;have:=H.nk;omega);simp only[dV,c,Bool.true_and,zJ];exact⟨by simp[m9,iU,iV,jC,iT,eO,ur,br],by simp[fy,br,this]⟩
def uZ(n:ByteArray)(t:Nat):Prop:=n=Q5++(bA t).extract 0 1\/n=hI++(bA t).extract 0 1\/n=N3++(bA t).extract 0 1
def BW{a b:ByteArray}{s t:Nat}(c:s<t)(d:t<=2)(h:uZ a s)(k:uZ b t):a≠b:=by
 obtain⟨rfl,rfl⟩|⟨rfl,rfl⟩|⟨rfl,rfl⟩:(s=0/\t=1)\/(s=0/\t=2)\/(s=1/\t=2):=by omega
 all_goals rcases h with rfl|rfl|rfl<;>rcases k with rfl|rfl|rfl<;>decide +kernel
def BV{a:ByteArray}{t:Nat}(b:t<=2)(h:uZ a t):bf a=true:=by
 obtain rfl|rfl|rfl:t=0\/t=1\/t=2:=by omega
 all_goals rcases h with rfl|rfl|rfl<;>decide +kernel
def cB.rn{r:cH}{t:Nat}(h:cB k r)(b:k.name=bA t):uZ r.name t:=by
 cases h with
 |low n h a=>exact .inl (by rw[b])
 |most f n h c a=>exact .inr (.inl (by rw[b]))
 |least f n h c a=>exact .inr (.inr (by rw[b]))
def dh.facts{f:List aq}{s:List cH}(h:dh f i s)(N:∀(t:Nat)y,f[t]?=some y->y.name=bA t)(u:f.length<=3) :
  s.Pairwise (λa b=>a.name≠b.name)/\∀r∈s,∃t k,t<i/\f[t]?=some k/\cB k r:=by
 induction h with
 |nil=>simp
 |skip h c=>exact⟨c.1,λr g=>by obtain⟨t,k,m,e⟩:=c.2 r g;exact⟨t,k,by omega,e⟩⟩
 | @take i s k r h l g c=>
  refine⟨List.pairwise_append.2 ⟨c.1,by simp,λa o b n=>?_⟩,λq d=>?_⟩
  .rw[zN]at n;subst n;obtain⟨t,j,m,e,p⟩:=c.2 a o;exact BW m (by have:=(zE.1 l).1;omega) (p.rn (N t j e)) (g.rn (N i k l))
  .rcases zO.1 d with d|d
   .obtain⟨t,j,m,e⟩:=c.2 q d;exact⟨t,j,by omega,e⟩
   .rw[zN]at d;subst d;exact⟨i,k,by omega,l,g⟩
def Gh(F:List an)(f:an):Prop:=(f.name=gP->f.kind=2/\∃g∈F,g.name=fo/\g.kind=2)/\(f.name=bw->f.kind=2)
def aM.low_ok{p:List an}(h:aM p){F:List an}(s:∀f∈p,f∈F):∀f∈p,Gh F f:=by
 cases h with
 |none=>simp
 |low a b c d k j i g=>
  intro f e;simp only[zU,yF,xE]at e;rcases e with rfl|rfl
  .exact⟨λ_=>⟨rfl,⟨fo,nE,nE,2,c,10+d,[],[]⟩,s _ (by simp),rfl,rfl⟩,λ_=>rfl⟩
  .exact⟨λh=>absurd h (by show ¬fo=gP;decide +kernel),λ_=>rfl⟩
 |_=>
  intro f e;simp only[zU,yF,xE]at e;rcases e with rfl|rfl<;>refine⟨λh=>?_,λh=>?_⟩<;>first|rfl|(exfalso;simp only at h;revert h;decide +kernel)
end
section
open Go
variable{i:Nat}{k:aq}
def dG.low{s:List aq}(h:dG s i k):∀f∈k.fields,Gh k.fields f:=by
 obtain⟨w,r,l,f1,f2,d,p,c,A,z,y,rfl,v,u,q,j,x,b⟩:=h;intro f a;have t:∀n∈[PF,zz,kH,kI,ME,pX],n≠gP/\n≠bw:=by decide +kernel
 have o:f.name∈[PF,zz,kH,kI,ME,pX]->Gh (dm l::(f1++(f2++(d++(p++c))))) f:=λm=>⟨λe=>absurd e (t _ m).1,λe=>absurd e (t _ m).2⟩
 have g:=a;rcases zU.1 a with rfl|a
 .exact o (by simp[dm])
 rcases zO.1 a with a|a
 .have:=(v.nms).subset (vX (f:=an.name) a);exact o (by simp only[zU,yF,xE]at this⊢;rcases this with e|e|e<;>simp[e])
 rcases zO.1 a with a|a
 .rcases u with rfl|⟨_,rfl⟩
  .cases a
  .rw[zN]at a;subst a;exact o (by simp[yi])
 rcases zO.1 a with a|a
 .exact q.low_ok (λf a=>by simp[a]) f a
 rcases zO.1 a with a|a
 .exact j.low_ok (λf a=>by simp[a]) f a
 .have:=(b.nms).subset (vX (f:=an.name) a);exact o (by simp only[zU,yF,xE]at this⊢;simp[this])
variable {x:ak}
def HX.ruleNm(H:HX x)(h:x.kz[i]?=some k){f:an}(c:f∈k.fields)(d:f.kind=2):fC x k i f.name=false/\gm x k i f.name=false:=by
 obtain⟨j,a⟩:=yO c;have e:=z7 (H.form i k h).nodup a;have b:iC x i (bb k f.name)=(f,true):=by rw[iC,e,MQ h,a]
 exact⟨by simp[fC,b],by simp[gm,b,d]⟩
def tR(k:aq)(i:Int):fC x k i nE=false/\gm x k i nE=false:=by simp[fC,gm,ur]
def mb{a b c d:Bool}(k:a=false)(j:b=false)(i:c=false)(h:d=false){g f e n:Int}:j7 [(a,g),(b,f),(c,e),(d,n)]=0:=by subst k j i h;rfl
def cg.rule0(h:cg x){n:Nat}{r:cH}(z:x.rules[n]?=some r):j5 x n r=0:=by
 have H:=h.hx;obtain⟨i,_,J⟩:=h.rs;have N:∀(t:Nat)y,x.kz[t]?=some y->y.name=bA t:=λt y E=>(H.form t y E).name;obtain⟨G,l⟩:=J.facts N H.nk;obtain⟨t,k,_,b,R⟩:=l r (zG z);have w:pI x n r=false:=by
  unfold pI;rw[List.any_eq_false];intro s F e;obtain⟨m,l⟩:=yO F;have o:m<n:=by have:=(zE.1 l).1;rw[zR]at this;omega
  rw[List.getElem?_take_of_lt o]at l;obtain⟨C,L⟩:=zE.1 l;obtain⟨B,u⟩:=zE.1 z;exact wS.1 G m n C B o (by rw[L,u];exact(FD _ _).1 e)
 have j:∀n:ByteArray,n=k.name->bi x n=t:=λn e=>by rw[e,N t k b];exact H.kix b
 have low:=(H.form t k b).low;unfold j5
 cases R with
 |low v p A=>
  rw[j _ rfl,xv b];obtain⟨f,d,e⟩:=Sa p;obtain⟨D,g,I,u,K⟩:=(low f d).1 e;have a:=H.ruleNm b d D;have c:=H.ruleNm b I K;rw[e]at a;rw[u]at c;exact mb w (by simp only[a.1,c.1];rfl) (by simp only[a.2,c.2];rfl) (by show seq gP fo=false;decide +kernel)
 |most f2 v p q A=>
  rw[j _ rfl,xv b];obtain⟨f,d,e⟩:=Sa p;have a:=H.ruleNm b d ((low f d).2 e);have c:=tR (x:=x) k t;rw[e]at a;exact mb w (by simp only[a.1,c.1];rfl) (by simp only[a.2,c.2];rfl) (by show seq bw nE=false;decide +kernel)
 |least f2 v p q A=>
  rw[j _ rfl,xv b];obtain⟨f,d,e⟩:=Sa p;have a:=H.ruleNm b d ((low f d).2 e);have c:=tR (x:=x) k t;rw[e]at a;exact mb w (by simp only[a.1,c.1];rfl) (by simp only[a.2,c.2];rfl) (by show seq nE bw=false;decide +kernel)
def cg.valid(h:cg x):iS x=true:=by
 have H:=h.hx;have C:=h.cls;have N:∀(t:Nat)y,x.kz[t]?=some y->y.name=bA t:=λt y B=>(H.form t y B).name;simp only[iS,zJ,yA,zQ];refine⟨⟨⟨⟨⟨⟨?_,?_⟩,?_⟩,?_⟩,λk a=>?_⟩,λl z=>?_⟩,λr u=>?_⟩
 .have:=h.ver;simp[cF];omega
 .have:=H.nk;omega
 .have:=C.nl;omega
 .have:=h.nr;omega
 .obtain⟨i,d⟩:=yO a;have j:i<=2:=by have:=(zE.1 d).1;have:=H.nk;omega
  have g:=(C.ks k a).nf;have o:=H.field d;simp only[jK,zJ,yA,zQ];refine⟨⟨⟨by rw[N i k d];exact R4 j,?_⟩,g⟩,o⟩;obtain⟨V,r,A,f1,f2,U,T,S,M,X,W,rfl,_⟩:=H.form i k d;simp only[zU,yF,xE]at M;simp[lg];omega
 .obtain⟨m,mv,I,G,K,F,q⟩:=h.ls;rw[K,zN]at z;subst z;have c:(fZ.take m).length=m:=by rw[zR];simp;omega
  have e:(fZ.take m).all bf=true:=by
   rw[yA];intro w D;have:=xG D;simp only[fZ,zU,yF,xE]at this;rcases this with rfl|rfl|rfl|rfl<;>decide +kernel
  have v:mv.all (ch m)=true:=by
   rw[yA];intro p E;have:=q p E;simp[ch,cF];omega
  have f:bf bz=true:=by decide +kernel
  simp only[jL,c,e,v,f,Bool.true_and,Bool.and_true,zJ,zQ,cF];omega
 .obtain⟨i,_,L⟩:=h.rs;obtain⟨_,J⟩:=L.facts N H.nk;obtain⟨t,k,_,a,R⟩:=J r u;have b:t<=2:=by have:=(zE.1 a).1;have:=H.nk;omega
  have Q:=BV b (R.rn (N t k a));have P:bf r.kind=true:=by
   have:r.kind=k.name:=by cases R<;>rfl
   rw[this,N t k a];exact R4 b
  have O:cF r.n (-1048576) 1048576=true:=by have:=(C.rs r u).n;simp[cF];omega
  have s:(dz r.a||bf r.a)=true/\(dz r.b||bf r.b)=true/\(!(dz r.a&&dz r.b))=true:=by
   cases R<;>(simp only;decide +kernel)
  simp only[yw,Q,P,O,s.1,s.2.1,s.2.2,Bool.and_self]
def aM2{α:Type}{q:Nat}{g:Nat->List α}(h:∀i,i<q->g i=[]):am q g=[]:=by
 unfold am;rw[List.flatMap_eq_nil_iff];intro i a;exact h i (xT.1 a)
def cg.probs0(h:cg x):dJ x=[]:=by
 have H:=h.hx;have v:fD x=0:=by rw[fD,h.valid];rfl
 rw[dJ,if_pos v,aM2,aM2,aM2]
 .rfl
 .intro i a;unfold mZ;rw[zD a];simp only;rw[h.rule0 (zD a),jl]
 .intro i a;have b:=zD a;unfold eu;rw[b];simp only;generalize x.kz[i]=k at b;have E:fz x i k=0:=by
   have F:=H.form i k b;rw[fz,F.name,H.kix b,if_neg (by omega)];obtain⟨o,r,l,f1,f2,g,p,t,s,q,n,rfl,_⟩:=F
   rfl
  rw[E,jl,List.nil_append,aM2];intro j d;have c:=zD d;unfold fU;rw[c];simp only;generalize k.fields[j]=f at c;rw[m',z7 (H.form i k b).nodup c,if_neg (by omega),H.leads b c,jl]
 .intro i a;obtain⟨m,mv,_,_,e,_⟩:=h.ls;rw[e]at a;obtain rfl:i=0:=by simp at a;omega
  unfold my;rw[e];simp[KO,jl]
end
section
open Go
def eS(x:cM)(n:Nat):cM:=(x >>> n) |||(x <<< (32-n))
def ge(x:cM)(i j k:Nat):cM:=eS x i ^^^ eS x j ^^^ eS x k
def sw(x:cM)(d:Nat):cM:=(x <<< 8) |||BitVec.ofNat 32 d
def kn(a b c d:Nat):cM:=sw (sw (sw (sw 0 a) b) c) d
def AH(a b c d:Nat):((BitVec.ofNat 32 a <<< 24 |||BitVec.ofNat 32 b <<< 16) |||BitVec.ofNat 32 c <<< 8) |||BitVec.ofNat 32 d=kn a b c d:=by
 unfold kn sw;simp only[BitVec.shiftLeft_or_distrib,←BitVec.shiftLeft_add,Nat.reduceAdd];simp
def i7(p:cM):cM:=eS p 7 ^^^ eS p 18 ^^^ (p >>> 3)
def lE(q:cM):cM:=eS q 17 ^^^ eS q 19 ^^^ (q >>> 10)
def bP(b:List Nat):Nat->List cM
 |0=>[]
 |t+1=>bP b t++[if t<16 then kn (b.getD (4*t) 0) (b.getD (4*t+1) 0) (b.getD (4*t+2) 0) (b.getD (4*t+3) 0)
   else(bP b t).getD (t-16) 0+i7 ((bP b t).getD (t-15) 0)+(bP b t).getD (t-7) 0+lE ((bP b t).getD (t-2) 0)]
def KL(b:List Nat):∀t,(bP b t).length=t
 |0=>rfl
 |t+1=>by rw[bP,zI,KL b t];rfl
def nY(b:List Nat){i:Nat}:∀{t:Nat},i<t->(bP b t)[i]?=(bP b (i+1))[i]?
 |0,h=>by omega
 |t+1,h=>by
  by_cases e:i=t
  .subst e;rfl
  .have a:i<t:=by omega
   rw[bP,yP (by rw[KL];exact a)];exact nY b a
structure S8 where
 a:cM
 b:cM
 c:cM
 d:cM
 e:cM
 f:cM
 g:cM
 h:cM
def S8.list(s:S8):List cM:=[s.a,s.b,s.c,s.d,s.e,s.f,s.g,s.h]
def Gy(e f g:cM):cM:=(e &&& f) ^^^ (~~~e &&& g)
def xl(a b c:cM):cM:=(a &&& b) ^^^ (a &&& c) ^^^ (b &&& c)
def Ut(s:S8)(k w:cM):S8:=
 ⟨s.h+ge s.e 6 11 25+Gy s.e s.f s.g+k+w+(ge s.a 2 13 22+xl s.a s.b s.c),s.a,s.b,s.c,s.d+(s.h+ge s.e 6 11 25+Gy s.e s.f s.g+k+w),s.e,s.f,s.g⟩
def D4(t:Nat):cM:=BitVec.ofNat 32 (eU.getD t 0)
def dv(s:S8)(b:List Nat):Nat->S8
 |0=>s
 |t+1=>Ut (dv s b t) (D4 t) ((bP b 64).getD t 0)
def S8.add(s t:S8):S8:=⟨s.a+t.a,s.b+t.b,s.c+t.c,s.d+t.d,s.e+t.e,s.f+t.f,s.g+t.g,s.h+t.h⟩
def GK(s:S8)(b:List Nat):S8:=s.add (dv s b 64)
def As:S8:=⟨0x6a09e667,0xbb67ae85,0x3c6ef372,0xa54ff53a,0x510e527f,0x9b05688c,0x1f83d9ab,0x5be0cd19⟩
def fJ(m:List Nat):Nat->S8
 |0=>As
 |n+1=>GK (fJ m n) ((m.drop (64*n)).take 64)
def vK:=@List.take_append_of_le_length
def nW(m t:List Nat):∀n,64*n<=m.length->fJ (m++t) n=fJ m n
 |0,_=>rfl
 |n+1,h=>by
  rw[fJ,fJ,nW m t n (by omega),List.drop_append_of_le_length (by omega),vK (by rw[List.length_drop];omega)]
def rD(n:Nat):List Nat:=o7 8 (8*n)
def iq(n:Nat):Nat:=(119-n%64)%64
def cJ(n:Nat):List Nat:=128::(List.replicate (iq n) 0++rD n)
def bb1(n:Nat):(cJ n).length=iq n+9:=by simp[cJ,rD,Ae]
def I3(n:Nat):(n+(cJ n).length)%64=0:=by rw[bb1];unfold iq;omega
def lj(s:S8)(i:Nat):Nat:=(s.list.getD (i/4) 0).toNat/2 ^ (24-8*(i%4))%256
def qp(m:List Nat):List Nat:=(List.range 32).map (lj (fJ (m++cJ m.length) ((m.length+(cJ m.length).length)/64)))
structure pL(m:List Nat)(s:S8)(b:List Nat):Prop where
 st:s=fJ m (m.length/64)
 len:b.length=64
 bl:b.take (m.length%64)=m.drop (64*(m.length/64))
def pL.begin(b:List Nat)(h:b.length=64):pL [] As b:=⟨rfl,h,by simp⟩
def xb(b:List Nat)(at_:Nat)(t:List Nat):List Nat:=b.take at_++t++b.drop (at_+t.length)
def CD{b t:List Nat}{a:Nat}(h:a+t.length<=b.length):(xb b a t).length=b.length:=by
 unfold xb;simp only[zI,zR,List.length_drop];omega
def pL.more{m b t:List Nat}{s:S8}(h:pL m s b)(c:m.length%64+t.length<64):pL (m++t) s (xb b (m.length%64) t):=by
 have d:(m++t).length/64=m.length/64:=by rw[zI];omega
 have a:(m++t).length%64=m.length%64+t.length:=by rw[zI];omega
 have l:=h.len;refine⟨?_,by rw[CD (by omega)];exact l,?_⟩
 .rw[d,nW m t _ (by omega)];exact h.st
 .rw[d,a,List.drop_append_of_le_length (by omega),←h.bl];unfold xb;rw[vK (by simp only[zI,zR];omega),yL (by simp only[zI,zR];omega)]
def FT(t:Nat)(parts:List (List Nat)):List Nat:=(qp (t::parts.flatMap λp=>bN p.length++p)).take 16
end
section
open Go Go.RowKit Go.Shelf
section
variable {P:Program} {σ:ae} {ρ:Operand->D} {T:TypeId->Option TI}
def cG(D:∀t i,T t=some i->aH P t=some i){o:Oper}{t:TypeId}{x a:Operand}{b f n k m:Nat}{d:IntKind}{j:Int}{G:Bool}{i:TI}(c:o.op= .indexAddr t x a)(hx:ρ x= .v (.pointer (some ⟨b,f,none⟩)))(B:ρ a= .v (.int d j))(q:T t=some i)(C:i.arr=some (n,G,k))(A:j=(m:Int))(y:m<n):Yd P o ρ σ (.v (.pointer (some ⟨b,f+m*k,none⟩))):=by
 subst A;intro w X η h r;obtain⟨dst,op,I,pos,H,g⟩:=o;simp only at c;subst c;have F:=(h x (by simp[Op.operands])).val hx;have E:=(h a (by simp[Op.operands])).val B;obtain⟨e,p,z⟩:=nz (D t i q) C;have l:=(sj z w).2;refine ev (s:=Instr.indexAt t (η x) (η a)) (u:=.pointer (some ⟨b,f+m*k,none⟩)) ?_ (Ex.refl w) (.v _);rw[F,E];simp[Instr.indexAt,Instr.sureAddr,asIntOf,run_underlying p,Result.andThen,l,y3,y]
end
def bF(l:List Nat):ByteArray:=⟨(l.map UInt8.ofNat).toArray⟩
abbrev dr(l:List Nat):D:=.v (.string (bF l))
def lq(l:List Nat):(bF l).size=l.length:=by unfold bF;rw[ByteArray.size];simp
def aU2{l:List Nat}(h:∀d∈l,d<256):Lib.byteCells (bF l).data.toList=l.map λ(d:Nat)=>Value.int .u8 (d:Int):=by
 unfold bF Lib.byteCells;simp only[vA];refine List.map_congr_left λd a=>?_;have:=h d a;simp[UInt8.toNat_ofNat'];omega
section
variable {P:Program} {σ:ae} {ρ:Operand->D}
variable{o:Oper}{l:List Nat}
def Ay{s d e:TypeId}{x:Operand}(z:o.op= .convert s d x)(hx:ρ x= .sl 1 (l.map λ(b:Nat)=>[D.v (.int .u8 (b:Int))]))(J:∀c∈l,c<256)(G:P.underlying s=some (.slice e))(F:P.underlying e=some (.int .u8))(E:P.underlying d=some .string):Yd P o ρ σ (dr l):=by
 intro w X η m H;obtain⟨dst,op,O,pos,N,g⟩:=o;simp only at z;subst z;have h:=m x (by simp[Op.operands]);rw[hx]at h;obtain⟨a,p,vs,r,n,Q,B,I⟩:=h.sl_inv;rw[zL]at r n;refine ev (s:=convert s d (η x)) (u:=.string (bF l)) ?_ (Ex.refl w) (.v _);rw[r]
 cases l with
 |nil=>
  rw[List.length_nil,run_convert_bytes_string w s d e a 0 p G F E]
  cases a<;>simp[Conv.bytesToString,loadCells,loadCellsFrom,Result.andThen,bF]<;>rfl
 |cons c f=>
  obtain⟨b,k,rfl,_⟩:=B 0 _ rfl;have:=run_convert_bytes_back (P:=P) w s d e ⟨b,k,none⟩ p ((c::f).map UInt8.ofNat) G F E (λj A=>by
   rw[zL]at A;have i:(c::f)[j]?=some (c::f)[j]:=zD A;have t:=J _ (zG i);have y:((c::f).map λ(b:Nat)=>[D.v (.int .u8 (b:Int))])[j]?=some [D.v (.int .u8 (((c::f)[j]:Nat):Int))]:=by rw[qA,i];rfl
   obtain⟨R,q,M,_,_,L⟩:=B j _ y
   cases M
   have C:=L 0 (by omega);have K:=(I j _ y 0 _ rfl).val rfl;rw[y3];simp only[Nat.mul_one,Nat.add_zero]at C;rw[C,K];simp only[List.getElem_map,UInt8.toNat_ofNat'];rw[wO (by simpa using t)])
  rw[zL]at this;exact this
def Az{s d e:TypeId}{x:Operand}(u:o.op= .convert s d x)(hx:ρ x=dr l)(B:∀c∈l,c<256)(G:P.underlying s=some .string)(F:P.underlying d=some (.slice e))(E:P.underlying e=some (.int .u8)):Yd P o ρ σ (.sl 1 (l.map λ(b:Nat)=>[D.v (.int .u8 (b:Int))])):=by
 intro w X η f t;obtain⟨dst,op,I,pos,H,g⟩:=o;simp only at u;subst u;have h:=(f x (by simp[Op.operands])).val hx;have n:=run_bytes_of_string (P:=P) w s d e (bF l) G F E;have j:=grownCap_ge w (bF l).size 0 e;generalize grownCap w (bF l).size 0 e=p at *;have k:Ex w (w.drew.alloc (.cells (bytesRow (bF l) p) e ((bytesRow (bF l) p).size,(bytesRow (bF l) p).size+1))):=by
  have:=Ex.refl w;exact Ex.alloc (Ex.drew this)
 refine ev (s:=convert s d (η x)) (by rw[h];exact n) k ?_;have r:∀(q c:Nat),l[q]?=some c->(bytesRow (bF l) p)[q]?=some (.int .u8 (c:Int)):=λq c a=>by
  have i:q<l.length:=(zE.1 a).1;have C:=B c (zG a);unfold bytesRow;rw[vV (by simp[bF];exact i)];simp[bF,a,UInt8.toNat_ofNat'];omega
 have:=Rd.sl (w:=w.drew.alloc (.cells (bytesRow (bF l) p) e ((bytesRow (bF l) p).size,(bytesRow (bF l) p).size+1))) (O:=ay σ X) 1 (l.map λ(b:Nat)=>[D.v (.int .u8 (b:Int))]) (some ⟨w.heap.size,0,none⟩) p (λq _=>(bytesRow (bF l) p).getD q undef) (by rw[zL,←lq];exact j) (λx hx=>by
   obtain⟨c,_,rfl⟩:=xM.1 hx
   rfl) (λq x hx=>⟨w.heap.size,0,rfl,Se t (zT _),by simp,λc C=>by
   obtain rfl:c=0:=by omega
   rw[qA]at hx
   cases a:l[q]? with
   |none=>rw[a]at hx;cases hx
   |some z=>
    have:=r q z a;simp only[xD,Nat.mul_one,Nat.add_zero];have A:=heap_alloc_new w.drew (.cells (bytesRow (bF l) p) e ((bytesRow (bF l) p).size,(bytesRow (bF l) p).size+1));rw[show w.drew.heap.size=w.heap.size from rfl]at A;have m:(w.drew.alloc (.cells (bytesRow (bF l) p) e ((bytesRow (bF l) p).size,(bytesRow (bF l) p).size+1))).cell? ⟨w.heap.size,q,none⟩=(bytesRow (bF l) p)[q]?:=by
     unfold World.cell?;rw[A]
     rfl
    rw[m];simp[this]⟩) (λq x hx c d y=>by
   rw[qA]at hx
   cases a:l[q]? with
   |none=>rw[a]at hx;cases hx
   |some z=>
    rw[a]at hx
    cases hx
    have:=r q z a
    cases c with
    |zero=>
     cases y
     simp only[Array.getD_eq_getD_getElem?,this,Option.getD_some];exact .v _
    |succ c=>cases y)
 rw[zL,←lq]at this;exact this
end
section
variable {P:Program} {w:World} {X:Nat->Prop}
variable{i:TypeInfo}{v:Value}
def pr{t u ty e:TypeId}(g:P.underlying t=some (.slice e))(m:P.underlying u=some .string)(l:P.info? e=some i)(z:i.zero=some (.int .u8 0))(h:i.size=1)(y:i.bytes=1){b n cap:Nat}{vs:Array Value}{st:ByteArray}(d:w.heap[b]?=some (.cells vs e (0,0)))(q:vs.size=cap)(r:n<=cap)(s:n+st.size<=1000000000){w':World}
  (a:(Builtin.append_ #[t,u] ty #[.slice (some ⟨b,0,none⟩) n cap,.string st]).run P w= .ok v w'):v.ownBlock=some b\/v.ownBlock=some w.heap.size:=by
 have S:Src P i.size u (.string st) st.size (Go.byteCells st) w:=by rw[h];exact Src.ofString w m st
 by_cases hroom:n+st.size<=cap
 .have f:=run_append_room_src (P:=P) w t u ty e i g l b 0 n cap (.string st) st.size _ S hroom (λj k=>by
   rw[byteCells_length]at k;simp[World.cell?,d];rw[h];omega) (λj k=>Lib.frozen_of_heap d _)
  rw[f]at a
  cases a
  exact .inl rfl
 .have f:=run_append_grow_src (P:=P) w t u ty e i _ g l z (some ⟨b,0,none⟩) n cap (vs.toList.take n) (by
   refine run_firstCells_some w.drew i.size n ⟨b,0,none⟩ n cap _ (by rw[h,zR,Array.length_toList];omega) (λj p c=>?_);rw[yX]at c;split at c
   .rw[y3];have o:w.drew.heap[b]?=some (.cells vs e (0,0)):=d;unfold World.cell?;rw[o]
    simpa using c
   .cases c) (.string st) st.size _ S (by omega) (by omega) (growslice_fits (by omega) (by rw[y];omega))
  rw[f]at a
  cases a
  exact .inr rfl
def l7(l:List Nat):(l.map λ(d:Nat)=>[D.v (.int .u8 (d:Int))]).flatten=l.map λ(d:Nat)=>D.v (.int .u8 (d:Int)):=by
 induction l with
 |nil=>rfl
 |cons d l i=>rw[List.map_cons,List.flatten_cons,i];rfl
def Nk{p:Prop}(h:p:=by
 simp only[aT,List.map_cons,List.map_nil,zN]at ho;subst ho;exact(zX.1 hg).1):p:=h
def r6{s:ae}{t tx ty e:TypeId}{l:List Nat}{xs:List (List D)}(S:P.underlying t=some (.slice e))(R:P.underlying tx=some .string)(hi:P.info? e=some i)(hz:i.zero=some (.int .u8 0))(f:i.size=1)(hby:i.bytes=1)
  (hr:ab e 1 xs v s) (V:xs≠[]) (L:aW w X s) (hl:∀d∈l,d<256) (hm:xs.length+l.length<=1000000000) :
  ∃v' A s',(Builtin.append_ #[t,tx] ty #[v,.string (bF l)]).run P w= .ok v' A/\ab e 1 (xs++l.map λ(d:Nat)=>[D.v (.int .u8 (d:Int))]) v' s'/\aW A X s'/\Mv w s A s':=by
 obtain⟨b,K,j,rfl,rfl,H,hcap,hj,_⟩:=hr.block V;obtain⟨_,o,g2,vs,rfl,g3⟩:=L.at_ b (.cells e (xs.flatten++j)) (by simp);have n:=Al hr.len;have F:vs.length=K:=by rw[g3.len,zI,n,hj];omega
 have T:=g3.take (xs.length*1);rw[←n,List.take_left]at T;have hxl:xs.flatten.length=xs.length:=by rw[n,Nat.mul_one]
 have U:w.ownsRow 0 e 1 (.slice (some ⟨b,0,none⟩) xs.length K) xs.length (vs.take xs.flatten.length):=
  ⟨by rw[zR,hxl,F,Nat.mul_one];exact vH H,.inr ⟨b,K,vs.toArray,rfl,zW _,g2,H,hcap,by simpa using F,by simp[n]⟩⟩
 obtain⟨v',A,B,k,c,_⟩:=Lib.run_append_own_string (P:=P) w 0 t tx ty e i S R hi hz f hby _ _ _ U (bF l) (by rw[lq];unfold maxLen;omega) (by rw[lq];omega) (zW _);have hblk:=pr S R hi hz f hby g2 (by simpa using F) H (by rw[lq];exact hm) B;have a:ba (λb'=>b'∈aT [(b,ax.cells e (xs.flatten++j))]) w A:=⟨c.os,c.tape,c.output,c.size,λb' hb M=>c.block b' hb (λe=>M (by cases e;simp[aT]))⟩
 have hcs:Lib.strCells (bF l)=l.map λ(d:Nat)=>Value.int .u8 (d:Int):=aU2 hl;rw[lq]at k;have G:bj w (ay [(b,ax.cells e (xs.flatten++j))] X) (l.map λ(d:Nat)=>[D.v (.int .u8 (d:Int))]).flatten (Lib.strCells (bF l)):=by
  rw[hcs];have e1:=l7 l;rw[e1];refine⟨by simp,λq d u h1 h2=>?_⟩;rw[qA]at h1 h2
  cases hq:l[q]? with
  |none=>rw[hq]at h1;cases h1
  |some z=>rw[hq]at h1 h2;cases h1;cases h2;exact .v _
 rcases k.2 with⟨_,h0⟩|⟨g,cap',r,rfl,_,hg,C,J,Z,htk⟩
 .exfalso;have:0<xs.length:=xS.2 V;omega
 .have I:g=b\/g=w.heap.size:=by
   rcases hblk with h|h
   .cases h;exact .inl rfl
   .cases h;exact .inr rfl
  have hbl:b<w.heap.size:=(zX.1 g2).1;generalize Q:(l.map λ(d:Nat)=>[D.v (.int .u8 (d:Int))])=N at *;have m:N.length=l.length:=by rw[←Q,zL]
  have O:∀y∈N,y.length=1:=λy hy=>by
   rw[←Q]at hy;obtain⟨d,_,rfl⟩:=xM.1 hy
   rfl
  have W:∀y∈xs++N,y.length=1:=λy hy=>by
   rcases zO.1 hy with h|h
   .exact hr.len y h
   .exact O y h
  have Y:=Al W;rw[zI,m]at Y;have hXb:¬X g:=by
   rcases I with h|h
   .subst h;exact(L.at_ g (.cells e (xs.flatten++j)) (by simp)).1
   .intro hx;have:=L.xlt g hx;omega
  have hO:∀x,x<w.heap.size->¬ay [(b,ax.cells e (xs.flatten++j))] X x->¬ay [(g,ax.cells e ((xs++N).flatten++List.replicate (r.toList.drop ((xs.length+l.length)*1)).length .any))] X x:=by
   intro x hx M ho;rcases ho with ho|ho
   .exact M (.inl ho)
   .simp only[aT,List.map_cons,List.map_nil,zN]at ho;subst ho;rcases I with h|h
    .subst h;exact M (.inr (by simp[aT]))
    .omega
  have hS:∀x,x<w.heap.size->¬ay [(b,ax.cells e (xs.flatten++j))] X x->A.heap[x]?=w.heap[x]?:=λx hx M=>a.block x hx (λhm=>M (.inr hm));refine⟨_,A,[(g,.cells e ((xs++N).flatten++List.replicate (r.toList.drop ((xs.length+l.length)*1)).length .any))],B,⟨W,.inr ⟨g,cap',_,by rw[zI,m],rfl,by rw[zI,m];exact C,J,?_,λd hd=>(List.mem_replicate.1 hd).2⟩⟩,⟨by simp[aT],?_,λb hb=>yI (L.xlt b hb) a.size,?_⟩,⟨a,?_⟩⟩
  .simp only[zI,m,zY,List.length_drop,Array.length_toList,Z];have:=xZ 1 C;omega
  .intro b' kk hbk;simp only[zN,vY]at hbk;obtain⟨rfl,rfl⟩:=hbk;refine⟨hXb,_,hg,r.toList,by simp,?_⟩;have E:=((T.append G).keep a.size hO hS).append (lO (w:=A) (r.toList.drop ((xs.length+l.length)*1)));rw[←vW,←htk,vF]at E;exact E
  .refine L.gok.keep a.size hO hS ?_;intro x ho;rcases ho with ho|ho
   .exact yI (L.xlt x ho) a.size
   .exact Nk
  .intro b' hb';simp only[aT,List.map_cons,List.map_nil,zN]at hb';subst hb';rcases I with h|h
   .subst h;exact .inl (by simp[aT])
   .exact .inr (by omega)
end
section
variable {P:Program} {r:Option Nat} {n:Nat} {df:Nat} {N:Nat} {σ:ae} {a:List D} {f:aP} {T:TypeId->Option TI} {L:List Oper} {Q:ik} {ρ:Operand->D}
def ce.apstr{o:Oper}{p x:Operand}{t E e:TypeId}{i:TypeInfo}{l:List Nat}{xs:List (List D)}{v:Value}{s τ:ae}{K:aP->ae->Prop}
  (ho:o.op= .call { callee:=.builtin .append,args:=#[p,x],argTypes:=#[t,E] }) (V:aN f p= .v v) (hx:aN f x=dr l) (u:P.underlying t=some (.slice e)) (q:P.underlying E=some .string) (hi:P.info? e=some i) (S:i.zero=some (.int .u8 0)) (g:i.size=1) (A:i.bytes=1)
  (U:ab e 1 xs v s) (z:xs≠[]) (m:σ.Perm (s++τ)) (Z:∀d∈l,d<256) (Y:xs.length+l.length<=1000000000)
  (R:∀j k,ab e 1 (xs++l.map λ(d:Nat)=>[D.v (.int .u8 (d:Int))]) j k->W (aX N o.dst (.v j) f (λJ=>K J (k++τ)))):ce P r n df L N o f σ K:=by
 refine⟨λF Q a c T hk=>?_⟩;refine FJ m ?_;refine nc T (by rw[ho];rfl) λw X I b=>?_;have hpv:=c.le p _ _ _ (b.fr.eval p);rw[V]at hpv;have hpv:=hpv.val rfl;have hxv:=c.le x _ _ _ (b.fr.eval x);rw[hx]at hxv;have hxv:=hxv.val rfl;obtain⟨j,C,k,g1,g2,g3,B⟩:=r6 (ty:=o.type) u q hi S g A U z b.st.left Z Y;have ee:(execOp I.eval o).run P w= .ok (.value j) C:=Fb;rw[ee];obtain⟨O,M,H,G⟩:=stays b.st g3 B;obtain⟨J,y,h4⟩:=fT (R j k g2).h c;exact⟨_,_,M,(⟨b.fr.keep B.keep.size H G,O,b.df.keep B.keep.size H G⟩:St C X df a (k++τ) I).put (.v _) o.dst,hk _ _ _ h4 y⟩
end
end
section
open Go
section
variable {P:Program} {t:TypeId} {p q:Operand} {w:World}
end
def fE(x:cM)(n:Nat)(h0:0<n)(h:n<32):APure prog 284 [wD x,iD n] (wD (eS x n)):=by
 refine ap func284 ntmps284 λa=>?_
 repeat refine aV ?_
 refine Ot.yd (dq (r:=wV (x >>> n)) rfl rfl rfl (λw=>qt x .i64 n (by omega))) ?_
 repeat refine aV ?_
 rw[show(32:Int)-(n:Int)=((32-n:Nat):Int) by omega];refine Ot.yd (dq (r:=wV (x <<< (32-n))) rfl rfl rfl (λw=>lH x .i64 (32-n) (by omega))) ?_
 repeat refine aV ?_
 refine Ot.yd (dq (r:=wV (x >>> n |||x <<< (32-n))) rfl rfl rfl (λw=>tu _ _)) ?_
 repeat refine aV ?_
 exact Rt.pure rfl
end
section
open Go
def wc(l:List cM):List D:=l.map wD++List.replicate (64-l.length) (wD 0)
variable{l:List cM}
def AK(h:l.length<=64):(wc l).length=64:=by unfold wc;simp;omega
def On{i:Nat}(h:i<l.length):(wc l)[i]?=some (wD (l.getD i 0)):=by
 unfold wc;rw[yP (by simpa using h),qA,List.getD_eq_getElem?_getD,zD h]
 rfl
def sK(h:l.length<64)(x:cM):(wc l).set l.length (wD x)=wc (l++[x]):=by
 unfold wc;rw[show 64-l.length=(64-(l++[x]).length)+1 by simp;omega,List.replicate_succ,List.set_append_right _ _ (by simp)];simp
def Hi(h:l.length=64):wc l=l.map wD:=by unfold wc;rw[h];simp
def pG(l:List cM):D:=.agg ((List.range 64).map λi=>wD (l.getD i 0))
def vU:=@List.length_range
def YW{p:Prop}(h:p:=by
 refine List.ext_getElem (by simp[h]) λi h1 h2=>?_;simp only[zL,vU]at h1;have h3:i<l.length:=by omega
 simp[List.getD_eq_getElem?_getD,h3]):p:=h
def pF(h:l.length=64):(List.range 64).map (λi=>wD (l.getD i 0))=l.map wD:=YW
def OY{b:List Nat}{t:Nat}(h:¬t<16):bP b (t+1)=bP b t++[(bP b t).getD (t-16) 0+i7 ((bP b t).getD (t-15) 0)+(bP b t).getD (t-7) 0+lE ((bP b t).getD (t-2) 0)]:=by
 rw[bP,if_neg h]
def iE{P:Program}{σ:ae}{ρ:Operand->D}{T:TypeId->Option TI}(r:∀t i,T t=some i->aH P t=some i){o:Oper}{t:TypeId}{x a:Operand}{b f n m q:Nat}{k:IntKind}{j:Int}{s:Bool}{i:TI}(d:o.op= .indexAddr t x a)(hx:ρ x= .v (.pointer (some ⟨b,f,none⟩)))(l:ρ a= .v (.int k j))(h:T t=some i)(p:i.arr=some (n,s,1))(g:j=(m:Int))(e:m<n)(c:f+m=q):Yd P o ρ σ (.v (.pointer (some ⟨b,q,none⟩))):=by
 subst c;have:=cG (σ:=σ) r d hx l h p g e
 rwa [Nat.mul_one]at this
end
section
open Go
def bc6{l:List Nat}{i d:Nat}(h:l[i]?=some d):l.getD i 0=d:=by rw[List.getD_eq_getElem?_getD,h];rfl
variable{A B:Prop}
def SG(k:B)(h:ar B->A:=by intro q7;(first|fail|((with_reducible refine' Ot.yd ?hyd ?_);(case hyd=>first|(refine' ai9 ai rfl rfl rfl rfl rfl ?hc ?h0;(case hc=>assumption);(case h0=>omega))|(refine ai8 ai rfl rfl rfl rfl rfl ?_;first|omega|(simp only[zL,zR,zI,List.length_cons,List.length_nil,zY,Nat.reduceAdd];omega))|(refine aj2 ai rfl rfl rfl rfl rfl ?_;omega)|exact AD rfl rfl rfl underlying4|exact am9 rfl rfl rfl|exact an0 rfl rfl rfl))|refine u1x ?_);exact q7.1):A:=h ⟨k⟩
def IB(k:B)(h:ar B->A:=by intro q7;(first|refine LP ?_|fail|refine SG ?_);exact q7.1):A:=h ⟨k⟩
def bI(k:B)(h:ar B->A:=by intro q7;(first|refine IB ?_|refine aE ?_|(refine' aj ?hc ?_;(case hc=>first|exact fE _ 7 (by decide) (by decide)|exact fE _ 18 (by decide) (by decide)|exact fE _ 17 (by decide) (by decide)|exact fE _ 19 (by decide) (by decide))));exact q7.1):A:=h ⟨k⟩
def Nm{p:Prop}(h:p:=by
 repeat' first|refine bI ?_|intro b;conv=>whnf
 exact⟨t+1,(ah av),by rw[hn];exact Sc.refl _,by omega,by omega⟩):p:=h
def B7(y:List Nat)(hb:y.length=64)(e:∀d∈y,d<256):APure prog 283 [Bh y] (pG (bP y 64)):=by
 refine ap func283 ntmps283 λF=>?_
 repeat' first|refine bI ?_|intro b;conv=>whnf
 rename_i b2;refine aO mixed ai (γ:=Nat) (λt=>[(4,iD t)]) (λt=>[(b,.cells 375 (wc (bP y t))),(b2,.cells 375 (wc []))]) (λt=>t<=16) (λt=>16-t) 0 (ah av) (Sc.refl _) (by decide) ?_;intro t ht;have a:=KL y t;by_cases o:t<16
 .obtain⟨d0,e0⟩:∃d,y[(4*(t:Int)).toNat]?=some d:=⟨_,zD (by omega)⟩
  obtain⟨d1,v⟩:∃d,y[(4*(t:Int)+1).toNat]?=some d:=⟨_,zD (by omega)⟩
  obtain⟨d2,u⟩:∃d,y[(4*(t:Int)+2).toNat]?=some d:=⟨_,zD (by omega)⟩
  obtain⟨d3,s⟩:∃d,y[(4*(t:Int)+3).toNat]?=some d:=⟨_,zD (by omega)⟩
  have E:=e _ (zG e0);have D:=e _ (zG v);have C:=e _ (zG u);have z:=e _ (zG s);have hn:bP y (t+1)=bP y t++[kn d0 d1 d2 d3]:=by
   rw[bP,if_pos o,bc6 (d:=d0) (by rw[←e0];congr 1),bc6 (d:=d1) (by rw[←v];congr 1),bc6 (d:=d2) (by rw[←u];congr 1),bc6 (d:=d3) (by rw[←s];congr 1)]
  have k:=λx=>sK (l:=bP y t) (by omega) x;rw[a]at k;have f:=AK (l:=bP y t) (by omega);generalize bP y t=l at *
  repeat' first|refine bI ?_|intro b;conv=>whnf
  refine Ot.yd (y4 (m:=(((BitVec.ofNat 32 d0).toNat:Nat):Int)) rfl rfl underlying5 underlying372 (by rw[IntKind.wrap_u32,BitVec.toNat_ofNat];omega)) ?_;repeat'(first|refine bI ?_|intro b;conv=>whnf)
  refine Ot.yd (dq (r:=wV (BitVec.ofNat 32 d0 <<< 24)) rfl rfl rfl (λw=>lH _ .u64 24 (by decide))) ?_;repeat'(first|refine bI ?_|intro b;conv=>whnf)
  refine Ot.yd (y4 (m:=(((BitVec.ofNat 32 d1).toNat:Nat):Int)) rfl rfl underlying5 underlying372 (by rw[IntKind.wrap_u32,BitVec.toNat_ofNat];omega)) ?_;repeat'(first|refine bI ?_|intro b;conv=>whnf)
  refine Ot.yd (dq (r:=wV (BitVec.ofNat 32 d1 <<< 16)) rfl rfl rfl (λw=>lH _ .u64 16 (by decide))) ?_;repeat'(first|refine bI ?_|intro b;conv=>whnf)
  refine Ot.yd (dq (r:=wV (BitVec.ofNat 32 d0 <<< 24 |||BitVec.ofNat 32 d1 <<< 16)) rfl rfl rfl (λw=>tu _ _)) ?_;repeat'(first|refine bI ?_|intro b;conv=>whnf)
  refine Ot.yd (y4 (m:=(((BitVec.ofNat 32 d2).toNat:Nat):Int)) rfl rfl underlying5 underlying372 (by rw[IntKind.wrap_u32,BitVec.toNat_ofNat];omega)) ?_;repeat'(first|refine bI ?_|intro b;conv=>whnf)
  refine Ot.yd (dq (r:=wV (BitVec.ofNat 32 d2 <<< 8)) rfl rfl rfl (λw=>lH _ .u64 8 (by decide))) ?_;repeat'(first|refine bI ?_|intro b;conv=>whnf)
  refine Ot.yd (dq (r:=wV (BitVec.ofNat 32 d0 <<< 24 |||BitVec.ofNat 32 d1 <<< 16 |||BitVec.ofNat 32 d2 <<< 8)) rfl rfl rfl (λw=>tu _ _)) ?_;repeat'(first|refine bI ?_|intro b;conv=>whnf)
  refine Ot.yd (y4 (m:=(((BitVec.ofNat 32 d3).toNat:Nat):Int)) rfl rfl underlying5 underlying372 (by rw[IntKind.wrap_u32,BitVec.toNat_ofNat];omega)) ?_;repeat'(first|refine bI ?_|intro b;conv=>whnf)
  refine Ot.yd (dq (r:=wV (BitVec.ofNat 32 d0 <<< 24 |||BitVec.ofNat 32 d1 <<< 16 |||BitVec.ofNat 32 d2 <<< 8 |||BitVec.ofNat 32 d3)) rfl rfl rfl (λw=>tu _ _)) ?_;repeat'(first|refine bI ?_|intro b;conv=>whnf)
  rw[AH];refine Ot.yd (iE ai (m:=t) (q:=t) rfl rfl rfl rfl rfl (by omega) (by omega) (xD _)) ?_;repeat'(first|refine bI ?_|intro b;conv=>whnf)
  refine Sv.cellm (zH _) (by rw[f];omega) rfl (k _) ?_;exact Nm
 .obtain rfl:t=16:=by omega
  clear a
  repeat' first|refine bI ?_|intro b;conv=>whnf
  refine aO mixed ai (γ:=Nat) (λt=>[(5,iD t)]) (λt=>[(b,.cells 375 (wc (bP y t))),(b2,.cells 375 (wc []))]) (λt=>16<=t/\t<=64) (λt=>64-t) 16 (ah av) (Sc.refl _) (by decide) ?_;rintro t ⟨o,ht⟩;have a:=KL y t;by_cases h64:t<64
  .have g:∀i,i<t->(wc (bP y t))[i]?=some (wD ((bP y t).getD i 0)):=λi hi=>On (by omega);have hn:=OY (b:=y) (t:=t) (by omega);have k:=λx=>sK (l:=bP y t) (by omega) x;rw[a]at k;have f:=AK (l:=bP y t) (by omega);generalize bP y t=l at *
   repeat' first|refine bI ?_|intro b;conv=>whnf
   refine Ot.yd (iE ai (m:=t-15) (q:=t-15) rfl rfl rfl rfl rfl (by omega) (by omega) (xD _)) ?_;repeat'(first|refine bI ?_|intro b;conv=>whnf)
   refine Ld.cellm (tb:=375) (List.Mem.head _) (g (t-15) (by omega)) ?_;repeat'(first|refine bI ?_|intro b;conv=>whnf)
   refine Ot.yd (iE ai (m:=t-15) (q:=t-15) rfl rfl rfl rfl rfl (by omega) (by omega) (xD _)) ?_;repeat'(first|refine bI ?_|intro b;conv=>whnf)
   refine Ld.cellm (tb:=375) (List.Mem.head _) (g (t-15) (by omega)) ?_;repeat'(first|refine bI ?_|intro b;conv=>whnf)
   refine Ot.yd (dq (r:=wV (eS (l.getD (t-15) 0) 7 ^^^ eS (l.getD (t-15) 0) 18)) rfl rfl rfl (λw=>Ab _ _)) ?_;repeat'(first|refine bI ?_|intro b;conv=>whnf)
   refine Ot.yd (iE ai (m:=t-15) (q:=t-15) rfl rfl rfl rfl rfl (by omega) (by omega) (xD _)) ?_;repeat'(first|refine bI ?_|intro b;conv=>whnf)
   refine Ld.cellm (tb:=375) (List.Mem.head _) (g (t-15) (by omega)) ?_;repeat'(first|refine bI ?_|intro b;conv=>whnf)
   refine Ot.yd (dq (r:=wV (l.getD (t-15) 0 >>> 3)) rfl rfl rfl (λw=>qt _ .u64 3 (by decide))) ?_;repeat'(first|refine bI ?_|intro b;conv=>whnf)
   refine Ot.yd (dq (r:=wV (i7 (l.getD (t-15) 0))) rfl rfl rfl (λw=>Ab _ _)) ?_;repeat'(first|refine bI ?_|intro b;conv=>whnf)
   refine Ot.yd (iE ai (m:=t-2) (q:=t-2) rfl rfl rfl rfl rfl (by omega) (by omega) (xD _)) ?_;repeat'(first|refine bI ?_|intro b;conv=>whnf)
   refine Ld.cellm (tb:=375) (List.Mem.head _) (g (t-2) (by omega)) ?_;repeat'(first|refine bI ?_|intro b;conv=>whnf)
   refine Ot.yd (iE ai (m:=t-2) (q:=t-2) rfl rfl rfl rfl rfl (by omega) (by omega) (xD _)) ?_;repeat'(first|refine bI ?_|intro b;conv=>whnf)
   refine Ld.cellm (tb:=375) (List.Mem.head _) (g (t-2) (by omega)) ?_;repeat'(first|refine bI ?_|intro b;conv=>whnf)
   refine Ot.yd (dq (r:=wV (eS (l.getD (t-2) 0) 17 ^^^ eS (l.getD (t-2) 0) 19)) rfl rfl rfl (λw=>Ab _ _)) ?_;repeat'(first|refine bI ?_|intro b;conv=>whnf)
   refine Ot.yd (iE ai (m:=t-2) (q:=t-2) rfl rfl rfl rfl rfl (by omega) (by omega) (xD _)) ?_;repeat'(first|refine bI ?_|intro b;conv=>whnf)
   refine Ld.cellm (tb:=375) (List.Mem.head _) (g (t-2) (by omega)) ?_;repeat'(first|refine bI ?_|intro b;conv=>whnf)
   refine Ot.yd (dq (r:=wV (l.getD (t-2) 0 >>> 10)) rfl rfl rfl (λw=>qt _ .u64 10 (by decide))) ?_;repeat'(first|refine bI ?_|intro b;conv=>whnf)
   refine Ot.yd (dq (r:=wV (lE (l.getD (t-2) 0))) rfl rfl rfl (λw=>Ab _ _)) ?_;repeat'(first|refine bI ?_|intro b;conv=>whnf)
   refine Ot.yd (iE ai (m:=t-16) (q:=t-16) rfl rfl rfl rfl rfl (by omega) (by omega) (xD _)) ?_;repeat'(first|refine bI ?_|intro b;conv=>whnf)
   refine Ld.cellm (tb:=375) (List.Mem.head _) (g (t-16) (by omega)) ?_;repeat'(first|refine bI ?_|intro b;conv=>whnf)
   refine Ot.yd (dq (r:=wV (l.getD (t-16) 0+i7 (l.getD (t-15) 0))) rfl rfl rfl (λw=>m8 _ _)) ?_;repeat'(first|refine bI ?_|intro b;conv=>whnf)
   refine Ot.yd (iE ai (m:=t-7) (q:=t-7) rfl rfl rfl rfl rfl (by omega) (by omega) (xD _)) ?_;repeat'(first|refine bI ?_|intro b;conv=>whnf)
   refine Ld.cellm (tb:=375) (List.Mem.head _) (g (t-7) (by omega)) ?_;repeat'(first|refine bI ?_|intro b;conv=>whnf)
   refine Ot.yd (dq (r:=wV (l.getD (t-16) 0+i7 (l.getD (t-15) 0)+l.getD (t-7) 0)) rfl rfl rfl (λw=>m8 _ _)) ?_;repeat'(first|refine bI ?_|intro b;conv=>whnf)
   refine Ot.yd (dq (r:=wV (l.getD (t-16) 0+i7 (l.getD (t-15) 0)+l.getD (t-7) 0+lE (l.getD (t-2) 0))) rfl rfl rfl (λw=>m8 _ _)) ?_;repeat'(first|refine bI ?_|intro b;conv=>whnf)
   refine Ot.yd (iE ai (m:=t) (q:=t) rfl rfl rfl rfl rfl (by omega) (by omega) (xD _)) ?_;repeat'(first|refine bI ?_|intro b;conv=>whnf)
   refine Sv.cellm (zH _) (by rw[f];exact h64) rfl (k _) ?_;exact Nm
  .obtain rfl:t=64:=by omega
   have j:=Hi a;generalize bP y 64=l at *
   repeat' first|refine bI ?_|intro b;conv=>whnf
   refine Ld.mem (tb:=375) (cs:=wc l) (d:=pG l) (List.Mem.head _) (by rw[j,zL,a];decide) (by rw[j];unfold pG;rw[pF a];simp only[oC,List.drop_zero];rw[yL (by simp[a])];rfl) ?_;unfold pG
   repeat' first|refine bI ?_|intro b;conv=>whnf
   refine Sv.perm (cs':=(List.range 64).map λi=>wD (l.getD i 0)) (List.Perm.swap _ _ _) rfl (by decide) rfl rfl ?_
   repeat' first|refine bI ?_|intro b;conv=>whnf
   exact Rt.pure rfl
end
section
open Go
def JS:∀n∈eU,n<4294967296:=by decide
variable{i:Nat}
def JU{n:Nat}(h:eU[i]?=some n):wV (D4 i)= .int .u32 (n:Int):=by
 have a:=JS n (zG h);unfold D4 wV;rw[List.getD_eq_getElem?_getD,h,Option.getD_some,BitVec.toNat_ofNat,wO a]
def JT(h:i<64):∃n,eU[i]?=some n:=⟨_,zD (by show i<64;exact h)⟩
section
variable {ρ:Operand->D} {σ:ae}
def Sz{o:Oper}{x:Operand}{j:Nat}(c:j<64)(a:o.op= .load 372 x)(hx:ρ x= .v (.pointer (some ⟨2,j,none⟩))):Yd prog o ρ σ (wD (D4 j)):=by
 intro w X η h t;obtain⟨dst,op,y,pos,e,g⟩:=o;simp only at a;subst a;have p:=(h x (by simp[Op.operands])).val hx;obtain⟨d,f⟩:=N6 (ai 372 _ rfl) w;obtain⟨n,b⟩:=JT c;refine ev (s:=Instr.loadAt 372 (η x)) (u:=wV (D4 j)) ?_ (Ex.refl w) (.v _);rw[p];exact R0 d (by rw[JU b];exact t.gok.rc j n b)
end
end
section
open Go
def be4{P:Program}{σ:ae}{ρ:Operand->D}{T:TypeId->Option TI}(g:∀t i,T t=some i->aH P t=some i){o:Oper}{t:TypeId}{x a:Operand}{b f n:Nat}{k:IntKind}{j:Int}{l:Bool}{i:TI}(c:o.op= .indexAddr t x a)(hx:ρ x= .v (.pointer (some ⟨b,f,none⟩)))(d:ρ a= .v (.int k j))(h:T t=some i)(e:i.arr=some (n,l,1))(p:0<=j)(m:j.toNat<n):Yd P o ρ σ (.v (.pointer (some ⟨b,f+j.toNat,none⟩))):=
 iE g c hx d h e (by omega) m rfl
end
section
open Go
def AZ(m k:Nat):((m:Int)).tmod (k:Int)=((m%k:Nat):Int):=(Int.ofNat_tmod m k).symm
def S0(m k:Nat):((m:Int)).tdiv (k:Int)=((m/k:Nat):Int):=(Int.ofNat_tdiv m k).symm
section
variable {P:Program} {t:TypeId} {p q:Operand} {w:World}
def bt9{n:Nat}(h:n<=1000000000):(do eqGuard .mul t p q (.int .u64 8) (.int .u64 (n:Int));binOp .mul t (.int .u64 8) (.int .u64 (n:Int))).run P w= .ok (.int .u64 ((8*n:Nat):Int)) w:=by
 show Result.ok (Value.int .u64 (IntKind.u64.wrap _)) w=_;have e:IntKind.u64.wrap (8*(n:Int))=((8*n:Nat):Int):=by rw[IntKind.wrap_u64];omega
 rw[e]
end
def DW{n i:Nat}(h:i<8):(rD n)[i]?=some (8*n/2 ^ (56-8*i)%256):=by
 unfold rD;rw[aS6 _ _ _ h,show 56-8*i=8*(8-1-i) by omega,Pd]
def bc1(n:Nat):(rD n).length=8:=Ae _ _
def I4(n:Nat):∀d∈cJ n,d<256:=by
 intro d a;unfold cJ at a;rcases zU.1 a with rfl|a
 .decide
 .rcases zO.1 a with h|h
  .rw[(List.mem_replicate.1 h).2];decide
  .exact mg _ _ _ h
def Pa(y:List Nat)(hl:y.length<=1000000):APure prog 282 [Bh y] (Bh (y++cJ y.length)):=by
 refine ap func282 ntmps282 λM=>?_
 repeat' first|refine aV ?_|intro b;conv=>whnf
 refine Ap.go rfl rfl rfl rfl (ab.e0 _ _ (some ⟨b,0,none⟩)) (bR _) (tN y) (zs:=y.map yC) rfl (qk (c:=1000000) hl (by decide)) (LU hl) (λf=>f) dF (λL c1 I t=>?_)
 repeat' first|refine aV ?_|intro b;conv=>whnf
 refine Ap.go rfl rfl rfl rfl t (bR _) rfl (zs:=(y++[128]).map yC) (by rw[yB];rfl) (qk (c:=1000001) (by simp;omega) (by decide)) (by simp;omega) (λf=>f) dF (λK J x q=>?_);clear t
 repeat' first|refine aV ?_|intro b;conv=>whnf
 refine aO mixed ai (γ:=Nat×Value×ae) (λg=>[(3,.v g.2.1)]) (λg=>g.2.2) (λg=>g.1<=iq y.length/\RY (y++128::List.replicate g.1 0) g.2.1 g.2.2) (λg=>iq y.length-g.1) (0,_,x) (ah av) (Sc.refl _) ⟨zW _,q⟩ ?_;clear q;rintro⟨j,v,s⟩ ⟨hj,e⟩;simp only at hj e⊢;obtain⟨a,c,rfl⟩:=ab.slice e;have C:iq y.length=(119-y.length%64)%64:=rfl;have u:((y++128::List.replicate j 0).map yC).length=y.length+1+j:=by simp;omega
 have o:((((y++128::List.replicate j 0).map yC).length:Int)).tmod 64=(((y.length+1+j)%64:Nat):Int):=by rw[u];exact AZ _ 64
 have l:((y.length+(j+1):Nat):Int).tmod 64=(((y.length+(j+1))%64:Nat):Int):=AZ _ 64
 repeat' first|refine aV ?_|intro b;conv=>whnf
 rw[o];by_cases hjz:j<iq y.length
 .repeat' first|refine aV ?_|intro b;conv=>whnf
  refine Ap.go rfl rfl rfl rfl e (bR _) rfl (zs:=(y++128::List.replicate (j+1) 0).map yC) (by rw[List.replicate_succ'];simp) (qk (c:=1000065) (by simp;omega) (by decide)) (by simp;omega) (λf=>f) dF (λF E z k=>?_)
  repeat' first|refine aV ?_|intro b;conv=>whnf
  exact⟨(j+1,_,z),(ah av),Sc.refl _,⟨by simp only;omega,k⟩,by simp only;omega⟩
 .obtain rfl:j=iq y.length:=by omega
  repeat' first|refine aV ?_|intro b;conv=>whnf
  refine Ot.yd (y4 (m:=(y.length:Int)) rfl rfl underlying3 underlying367 (by simp only[IntKind.wrap_u64,zL];omega)) ?_
  repeat' first|refine aV ?_|intro b;conv=>whnf
  refine Ot.yd (dq (r:=.int .u64 ((8*y.length:Nat):Int)) rfl rfl rfl (λw=>bt9 (by omega))) ?_
  repeat' first|refine aV ?_|intro b;conv=>whnf
  refine aO mixed ai (γ:=Nat×Value×ae) (λg=>[(5,iD g.1),(3,.v g.2.1)]) (λg=>g.2.2) (λg=>g.1<=8/\RY (y++128::(List.replicate (iq y.length) 0++(rD y.length).take g.1)) g.2.1 g.2.2) (λg=>8-g.1) (0,_,s) (ah av) (Sc.refl _) ⟨zW _,by simpa using e⟩ ?_;clear e o l u;rintro⟨i,G,x⟩ ⟨hi,e⟩;simp only at hi e⊢;by_cases hi8:i<8
  .have D:=DW (n:=y.length) hi8;generalize 8*y.length=m at *
   repeat' first|refine aV ?_|intro b;conv=>whnf
   rw[show(56:Int)-8*(i:Int)=((56-8*i:Nat):Int) by omega];refine Ot.yd (dq (r:=.int .u64 ((m/2 ^ (56-8*i):Nat):Int)) rfl rfl rfl (λw=>lJ .u64 m .i64 (56-8*i) (by show _<=64;omega))) ?_
   repeat' first|refine aV ?_|intro b;conv=>whnf
   refine Ot.yd (y4 (m:=((m/2 ^ (56-8*i)%256:Nat):Int)) rfl rfl underlying367 underlying5 (by rw[IntKind.wrap_u8];omega)) ?_
   repeat' first|refine aV ?_|intro b;conv=>whnf
   refine Ap.go rfl rfl rfl rfl e (by simp:x.Perm (x++[])) rfl (zs:=(y++128::(List.replicate (iq y.length) 0++(rD y.length).take (i+1))).map yC) (by rw[xC,D];simp) (qk (c:=1000165) (by simp[bc1];omega) (by decide)) (by simp[bc1];omega) (λf=>f) dF (λF E z k=>?_)
   repeat' first|refine aV ?_|intro b;conv=>whnf
   exact⟨(i+1,_,z),(ah av),Sc.refl _,⟨by simp only;omega,k⟩,by simp only;omega⟩
  .obtain rfl:i=8:=by omega
   rw[yL (by rw[bc1];exact zT _)]at e
   repeat' first|refine aV ?_|intro b;conv=>whnf
   exact Rt.vs (Vs.row e (bR _))
end
end Go.Proofs.YtilnpcolgcmofaaGreatDoor
