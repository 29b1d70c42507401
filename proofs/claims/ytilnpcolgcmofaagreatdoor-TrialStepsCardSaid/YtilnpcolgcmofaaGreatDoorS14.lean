/- A part of the proof: Dc Pq Ll Dd De R09 R10c R10d R09b R09c. -/
import Derived.Test.YtilnpcolgcmofaaGreatDoorS13
set_option maxRecDepth 100000
set_option maxHeartbeats 20000000
set_option linter.all false
namespace Go.Proofs.YtilnpcolgcmofaaGreatDoor
open Tryz
section
open Go
def cN(n:Nat):Nat:=if n<=1 then 0 else if n<=4 then 1 else 2
theorem rM{n:Nat}(h:n<=16):n<=2 ^ cN n*2 ^ cN n:=by unfold cN;split;omega;split<;>simp<;>omega
theorem rN(n:Nat):cN n<=2:=by unfold cN;split;omega;split<;>omega
theorem GY(n:Nat)(h:n<=16):APure prog 235 [iD n] (iD ((2 ^ cN n:Nat):Int)):=by
 refine ao func235 ntmps235 λi=>?_
 repeat refine aN ?_
 refine aV mixed ai (γ:=Nat) (λj=>[(3,iD ((2 ^ j:Nat):Int))]) (λ_=>[]) (λj=>j<=cN n) (λj=>cN n-j) 0 (aj aw) (Sc.refl _) (zW _) ?_;intro j hj;have g:=rN n;have S:cN n=if n<=1 then 0 else if n<=4 then 1 else 2:=rfl
 by_cases hjs:j<cN n
 .have a:j=0\/j=1:=by omega
  have f:2 ^ j*2 ^ j<n:=by
   rcases a with rfl|rfl
   .by_cases h1:n<=1
    .rw[if_pos h1]at S;omega
    .simp;omega
   .by_cases h1:n<=1
    .rw[if_pos h1]at S;omega
    .rw[if_neg h1]at S;by_cases h4:n<=4
     .rw[if_pos h4]at S;omega
     .simp;omega
  rcases a with rfl|rfl
  .simp only[Nat.pow_zero,Nat.mul_one]at f⊢
   repeat refine aN ?_
   exact⟨1,(aj aw),Sc.refl _,by omega,by omega⟩
  .simp only[Nat.pow_one,Nat.reduceMul]at f⊢
   repeat refine aN ?_
   exact⟨2,(aj aw),Sc.refl _,by omega,by omega⟩
 .obtain rfl:j=cN n:=by omega
  have k:=rM h;have b:cN n=0\/cN n=1\/cN n=2:=by omega
  rcases b with e|e|e
  all_goals
   rw[e]at k⊢;simp only[Nat.pow_zero,Nat.pow_one,Nat.reducePow,Nat.reduceMul,Nat.mul_one]at k⊢
   repeat refine aN ?_
   refine Rt.pure (zM iD ?_)
   rfl
theorem tm2(a:Nat):((a:Nat):Int).tmod 2=((a%2:Nat):Int):=by rw[Int.tmod_eq_emod_of_nonneg (by omega)];omega
theorem RD(a:Nat):((a:Nat):Int).tdiv 2=((a/2:Nat):Int):=by rw[Int.tdiv_eq_ediv_of_nonneg (by omega)];omega
theorem XN{p:Prop}(h:p:=by
 by_cases hq:A%2=B%2
 .rw[if_pos hq]at hxb
  repeat refine aN ?_
  exact⟨i+1,(aj aw),Sc.refl _,by omega,by omega⟩
 .rw[if_neg hq]at hxb
  repeat refine aN ?_
  exact⟨i+1,(aj aw),Sc.refl _,by omega,by omega⟩):p:=h
theorem NE(a b:Nat)(j:a<65536)(hb:b<65536):APure prog 262 [iD a,iD b] (iD ((a ^^^ b:Nat):Int)):=by
 refine ao func262 ntmps262 λs=>?_
 repeat refine aN ?_
 refine aV mixed ai (γ:=Nat) (λi=>[(0,iD ((a/2 ^ i:Nat):Int)),(1,iD ((b/2 ^ i:Nat):Int)),(5,iD (((a ^^^ b)%2 ^ i:Nat):Int)),(6,iD ((2 ^ i:Nat):Int))]) (λ_=>[]) (λi=>i<=16) (λi=>16-i) 0 (by simp only[Nat.pow_zero,Nat.div_one,Nat.mod_one];exact(aj aw)) (Sc.refl _) (zW _) ?_;intro i hi;have o:2 ^ i<=65536:=Nat.pow_le_pow_right (n:=2) (by decide) hi;have g:a/2 ^ i<=a:=Nat.div_le_self _ _;have f:b/2 ^ i<=b:=Nat.div_le_self _ _;have hx:=vM (a ^^^ b) (show 0<2 ^ i from Nat.pow_pos (by decide));have t1:=tm2 (a/2 ^ i);have t2:=tm2 (b/2 ^ i);have t3:=RD (a/2 ^ i);have t4:=RD (b/2 ^ i);by_cases he:a/2 ^ i=0/\b/2 ^ i=0
 .have:=FA he.1 he.2;obtain⟨l,k⟩:=he
  repeat refine aN ?_
  refine Rt.pure (zM iD ?_);rw[this]
 .have e:i<16:=by
   refine Classical.byContradiction λh=>he ?_;obtain rfl:i=16:=by omega
   exact⟨Nat.div_eq_of_lt j,Nat.div_eq_of_lt hb⟩
  have hxb:=FB a b i;have l:a/2 ^ (i+1)=a/2 ^ i/2:=by rw[Nat.pow_succ,Nat.div_div_eq_div_mul]
  have k:b/2 ^ (i+1)=b/2 ^ i/2:=by rw[Nat.pow_succ,Nat.div_div_eq_div_mul]
  have r:2 ^ (i+1)=2*2 ^ i:=by rw[Nat.pow_succ,Nat.mul_comm]
  generalize a/2 ^ i=A at *;generalize b/2 ^ i=B at *;by_cases hA:0<A
  .exact XN
  .have q:0<B:=by omega
   exact XN
def AS(sd:List Nat)(p:List Int)(b:Nat)(k r:Nat):Nat:=w9 sd p (65536*(k:Int)+(r:Int))%b
theorem rW(sd:List Nat)(p:List Int)(j:Nat)(k r:Nat):AS sd p (2 ^ j) k r<2 ^ j:=vM _ (Nat.pow_pos (by decide))
theorem tmN(a b:Nat):((a:Nat):Int).tmod ((b:Nat):Int)=((a%b:Nat):Int):=by rw[Int.tmod_eq_emod_of_nonneg (by omega)];omega
theorem tdN(a b:Nat):((a:Nat):Int).tdiv ((b:Nat):Int)=((a/b:Nat):Int):=by rw[Int.tdiv_eq_ediv_of_nonneg (by omega)];simp
theorem Ni{A B:Prop}(k:B)(h:ar B->A:=by intro q7;(first|refine bQ ?_|refine aA ?_|(refine' ah ?hc ?_;(case hc=>first|exact HW|exact HX)));exact q7.1):A:=h ⟨k⟩
theorem NF(sd:List Nat)(hs:fX sd)(p:List Int)(z:xg p)(j:Nat)(hj:j<=8)(x:Nat)(hx:x<2 ^ j*2 ^ j):APure prog 236 [cW sd,bi p,iD ((2 ^ j:Nat):Int),iD x] (iD ((m5 (AS sd p (2 ^ j)) (2 ^ j) x:Nat):Int)):=by
 have hb:2 ^ j<=256:=Nat.pow_le_pow_right (n:=2) (by decide) hj;have a:0<2 ^ j:=Nat.pow_pos (by decide);have o:=rW sd p j;have g:x/2 ^ j<2 ^ j:=Nat.div_lt_of_lt_mul hx;have f:x%2 ^ j<2 ^ j:=vM _ a;have y:=λk=>ZA o k (p:=(x/2 ^ j,x%2 ^ j)) g f;have v:=tdN x (2 ^ j);have u:=tmN x (2 ^ j);have t:x<65536:=yI hx (by have:=Nat.mul_le_mul hb hb;omega);unfold m5;have e:∀k r,AS sd p (2 ^ j) k r=w9 sd p (65536*(k:Int)+(r:Int))%2 ^ j:=λ_ _=>rfl;generalize AS sd p (2 ^ j)=F at *;generalize 2 ^ j=B at *;have s:x/B<=x:=Nat.div_le_self _ _;have J:(hH F 0 (x/B,x%B)).1=x/B:=rfl;have I:(hH F 0 (x/B,x%B)).2=x%B:=rfl;refine ao func236 ntmps236 λM=>?_
 repeat refine Ni ?_
 refine aV mixed ai (γ:=Nat) (λk=>[(9,iD (((hH F k (x/B,x%B)).1:Nat):Int)),(10,iD (((hH F k (x/B,x%B)).2:Nat):Int)),(11,iD k)]) (λ_=>[]) (λk=>k<=4) (λk=>4-k) 0 (aj aw) (Sc.refl _) (zW _) ?_;intro k L;obtain⟨h1,h2⟩:=y k;have G:(hH F (k+1) (x/B,x%B)).1=(hH F k (x/B,x%B)).2:=rfl;have E:(hH F (k+1) (x/B,x%B)).2=(hH F k (x/B,x%B)).1 ^^^ F k (hH F k (x/B,x%B)).2:=rfl;by_cases hk4:k<4
 .generalize K:hH F k (x/B,x%B)=q at *;obtain⟨l,r⟩:=q;simp only at G E h1 h2⊢;have HW:=rZ sd hs p z (65536*(k:Int)+(r:Int)) ⟨by omega,by omega⟩;have b:=e k r;have w:=tmN (w9 sd p (65536*(k:Int)+(r:Int))) B;rw[←b]at w;have i:=jY sd p (65536*(k:Int)+(r:Int));have D:=o k r;have HX:=NE l (F k r) (by omega) (by omega);rw[←w]at HX
  repeat refine Ni ?_
  exact⟨k+1,(aj aw),Sc.refl _,by omega,by omega⟩
 .obtain rfl:k=4:=by omega
  generalize hH F 4 (x/B,x%B)=q at *;obtain⟨l,r⟩:=q;simp only at h1 h2⊢;have C:l*B<65536:=by have:=Nat.mul_lt_mul_of_lt_of_le h1 hb (by omega);omega
  have hc:((l*B:Nat):Int)=(l:Int)*(B:Int):=Int.natCast_mul l B
  repeat refine Ni ?_
  refine Rt.pure (zM iD ?_);omega
theorem GH{A B:Prop}(k:B)(h:ar B->A:=by intro q7;(first|refine bQ ?_|refine aA ?_|(refine' ah ?hc ?_;(case hc=>first|exact HS|exact HM)));exact q7.1):A:=h ⟨k⟩
theorem A6(sd:List Nat)(hs:fX sd)(p:List Int)(a:p.length<=8)(n:Int)(b:n<=65536):APure prog 191 [cW sd,bi p,iD n] (iD 0):=by
 have z:=jT sd;have h1:=hs.n;refine ao func191 ntmps191 λe=>?_
 repeat refine GH ?_
 refine Rt.pure (zM iD ?_)
 rfl
theorem mJ(sd:List Nat)(hs:fX sd)(p:List Int)(z:xg p)(n:Nat)(s:n<=16)(i:Nat)(hi:i<n):∃v:Nat,v<n/\APure prog 192 [cW sd,bi p,iD n,iD i] (iD v):=by
 have HS:=GY n s;have C:=rM s;have hj:=rN n;have F:=rW sd p (cN n);have M:=λx hx=>NF sd hs p z (cN n) (by omega) x hx;have t:=λx(hx:x<2 ^ cN n*2 ^ cN n)=>Hz F hx;have j:=λx y(hx:x<2 ^ cN n*2 ^ cN n)(hy:y<2 ^ cN n*2 ^ cN n)h=>B7 F hx hy h;generalize m5 (AS sd p (2 ^ cN n)) (2 ^ cN n)=f at *;generalize 2 ^ cN n=b at *;generalize G:b*b=N at *;obtain⟨u,r,_,l⟩:=qs t j (x:=i) (by omega);obtain⟨k,_,⟨D,g⟩,a⟩:=ww (p:=λk=>0<k/\qU f k i<n) (k:=u) ⟨r,by rw[l];exact hi⟩;refine⟨qU f k i,g,?_⟩;have hit:=λq=>Qt t (x:=i) (by omega) q;have HM:=M i (by omega);refine ao func192 ntmps192 λI=>?_
 repeat refine GH ?_
 refine aV mixed ai (γ:=Nat) (λq=>[(10,iD ((qU f q i:Nat):Int))]) (λ_=>[]) (λq=>1<=q/\q<=k) (λq=>k-q) 1 (aj aP) (Sc.refl _) ⟨zT _,D⟩ ?_;rintro q ⟨e,w⟩;clear HM;by_cases hqk:q<k
 .have o:¬(0<q/\qU f q i<n):=a q hqk;have E:n<=qU f q i:=by
   refine Nat.le_of_not_lt λh=>o ⟨e,h⟩
  have HM:=M _ (hit q)
  repeat refine GH ?_
  exact⟨q+1,(aj aP),Sc.refl _,⟨by omega,by omega⟩,by omega⟩
 .obtain rfl:q=k:=by omega
  repeat refine GH ?_
  refine Rt.pure (zM iD ?_)
  rfl
theorem bn5{A B:Prop}(k:B)(h:ar B->A:=by intro q7;(first|refine bQ ?_|refine aA ?_|(refine' ah ?hc ?_;(case hc=>first|exact HG|exact HP)));exact q7.1):A:=h ⟨k⟩
theorem KE(sd:List Nat)(hs:fX sd)(p:List Int)(e:p.length<=8)(a:∀v∈p,cA v)(n:Nat)(f:n<=16)(i:Nat)(hi:i<n):∃v:Nat,v<n/\APure prog 148 [cW sd,bi p,iD n,iD i] (.tup [iD v,iD 0]):=by
 obtain⟨v,b,HP⟩:=mJ sd hs p ⟨by omega,a⟩ n f i hi;have HG:=A6 sd hs p e n (by omega);refine⟨v,b,?_⟩;refine ao func148 ntmps148 λg=>?_
 repeat refine bn5 ?_
 exact Rt.pure rfl
end
section
def w7(lo h:Int)(n:Nat)(t:Int):Int:=max ((n/2:Nat)*lo) (t-(n-n/2:Nat)*h)
def yc(lo h:Int)(n:Nat)(t:Int):Int:=min ((n/2:Nat)*h) (t-(n-n/2:Nat)*lo)
def jo(lo h:Int)(n:Nat)(t:Int):Prop:=(n:Int)*lo<=t/\t<=(n:Int)*h
theorem Oe{lo i:Int}{n:Nat}{t:Int}(h:jo lo i n t)(l:lo<=i):w7 lo i n t<=yc lo i n t:=by
 obtain⟨b,a⟩:=h;have e:(n:Int)=(n/2:Nat)+(n-n/2:Nat):=by omega
 have c:((n/2:Nat):Int)*lo<=((n/2:Nat):Int)*i:=Int.mul_le_mul_of_nonneg_left l (by omega);have m:((n-n/2:Nat):Int)*lo<=((n-n/2:Nat):Int)*i:=Int.mul_le_mul_of_nonneg_left l (by omega);rw[e,Int.add_mul]at b a;unfold w7 yc;omega
theorem sA{lo h:Int}{n:Nat}{t x:Int}(b:w7 lo h n t<=x)(a:x<=yc lo h n t):jo lo h (n/2) x/\jo lo h (n-n/2) (t-x):=by
 unfold w7 at b;unfold yc at a;unfold jo;omega
structure dY(lo hi:Int)(n:Nat)(t:Int)(l:List Int):Prop where
 len:l.length=n
 sum:l.sum=t
 all:∀x∈l,lo<=x/\x<=hi
end
section
open Go
def dI:List (Nat×Nat):=[(0,8),(0,7),(0,6),(0,5),(0,4),(0,3),(0,2),(4,4),(2,2),(4,2),(6,2),(3,4),(1,2),(3,2),(5,2),(3,3),(2,3)]
def Qp(k f n:Nat):List (Nat×Nat):=(List.range n).map λj=>(k,f+j)
def A0(u:Nat)(l:List (Nat×Nat)):List (List Nat):=l.flatMap λp=>(List.range 8).map λi=>[u,p.1,p.2,i]
def Eo:List (Nat×Nat):=Qp 0 1 5++Qp 1 2 7++Qp 2 2 8
def br3:List (List Nat):=[(1,1),(2,1),(2,2),(2,3),(2,4)].flatMap λp=>dI.map λq=>[2,p.1,p.2,0,q.1,q.2]
def bp8:List (List Nat):=[(1,2),(1,3),(2,2),(2,3)].flatMap λp=>(List.range 8).flatMap λj=>dI.map λq=>[8,p.1,p.2,j,q.1,q.2]
def g6:List (List Nat):=A0 4 Eo++A0 6 Eo++A0 3 Eo++A0 7 (Qp 0 1 6++Qp 1 2 8)++br3++bp8
def an(q:Nat):List (List Nat):=(g6.drop (4*q)).take 4
end
section
open Go
def xh(sd:List Nat)(p:List Int):Prop:=w9 sd p 0<281474976645120
theorem xh.drw{sd:List Nat}{p:List Int}(h:xh sd p){n:Int}(b:n≠0)(c:-65536<=n/\n<=65536):oA sd p n:=by
 refine⟨⟨b,by omega,by omega⟩,?_⟩;unfold xh at h;unfold H';have a:(281474976710656:Int).tmod n<65536:=by
  by_cases a:0<n
  .have:=Int.tmod_lt_of_pos 281474976710656 a;omega
  .have d:(281474976710656:Int).tmod n=(281474976710656:Int).tmod (-n):=by rw[Int.tmod_neg]
   have:=Int.tmod_lt_of_pos 281474976710656 (show 0 < -n by omega);omega
 omega
structure qV where
 seed:List Nat
 path:List Int
 total:Int
 n:Nat
 lo:Int
 hi:Int
abbrev spC(s:qV):List D:=[cW s.seed,bi s.path,iD s.total,iD s.n,iD s.lo,iD s.hi]
abbrev M7(s:qV):D:=.agg (spC s)
structure lE(s:qV):Prop where
 sd:fX s.seed
 pl:s.path.length<=6
 pv:∀v∈s.path,cA v
 n:s.n<=8
 lo:0<=s.lo
 le:s.lo<=s.hi
 hi:s.hi<=100
 t:-1000000<=s.total/\s.total<=1000000
def ov(s:qV):Prop:=∀a n,(a,n)∈dI->xh s.seed (s.path++[(a:Int),(n:Int)])
theorem gS{n:Nat}(h:n<=8){z:Int}(b:0<=z)(a:z<=100):0<=(n:Int)*z/\(n:Int)*z<=800:=by
 have:n=0\/n=1\/n=2\/n=3\/n=4\/n=5\/n=6\/n=7\/n=8:=by omega
 rcases this with rfl|rfl|rfl|rfl|rfl|rfl|rfl|rfl|rfl<;>omega
def xm(s:qV):Int:=if(s.n:Int)*s.lo<=s.total/\s.total<=(s.n:Int)*s.hi then 0 else 5
theorem DV{p:Prop}(h:p:=by
 refine ao func206 ntmps206 λBB=>?_
 repeat refine aN ?_
 refine Rt.pure (zM iD ?_)
 rfl):p:=h
theorem aW8(s:qV)(h:lE s):APure prog 206 [M7 s] (iD (xm s)):=by
 have h1:=h.sd.n;have z:=jT s.seed;have h2:=h.pl;have h3:=h.n;have h4:=h.lo;have h5:=h.le;have a:=h.hi;have e:=gS h3 h4 (by omega);have b:=gS h3 (by omega:0<=s.hi) a;unfold xm;by_cases hf:(s.n:Int)*s.lo<=s.total/\s.total<=(s.n:Int)*s.hi
 .rw[if_pos hf];obtain⟨f1,f2⟩:=hf;exact DV
 .rw[if_neg hf];by_cases f1:s.total<(s.n:Int)*s.lo
  .exact DV
  .have f2:(s.n:Int)*s.hi<s.total:=by omega
   exact DV
theorem CJ(a b:Int):(if a<b then b else a)=max a b:=by split<;>omega
theorem sG(a b:Int):(if b<a then b else a)=min a b:=by split<;>omega
theorem br6{s:qV}(h:lE s){a n:Nat}(d:a<=100)(c:n<=100):∀v∈s.path++[(a:Int),(n:Int)],cA v:=λv b=>by
 rcases zO.1 b with b|b
 .exact h.pv v b
 .simp only[zU,yF,xE]at b;rcases b with rfl|rfl<;>(constructor<;>omega)
theorem pZ{a n:Nat}(h:(a,n)∈dI):a<=6/\2<=n/\n<=8:=by
 have:∀q∈dI,q.1<=6/\2<=q.2/\q.2<=8:=by decide
 exact this _ h
theorem Nh{A B:Prop}(k:B)(h:ar B->A:=by intro q7;(first|refine bQ ?_|refine aA ?_|(refine' ah ?hc ?_;(case hc=>exact HB)));exact q7.1):A:=h ⟨k⟩
theorem rY(s:qV)(h:lE s)(y:ov s)(a n:Nat)(k:(a,n)∈dI)(t:Int)(g:jo s.lo s.hi n t):∃x,APure prog 245 [M7 s,iD a,iD n,iD t] (iD x)/\w7 s.lo s.hi n t<=x/\x<=yc s.lo s.hi n t:=by
 obtain⟨F,E,j⟩:=pZ k;have h2:=h.pl;have h4:=h.lo;have h5:=h.le;have i:=h.hi;have u:=gS (n:=n/2) (by omega) h4 (by omega);have r:=gS (n:=n/2) (by omega) (by omega:0<=s.hi) i;have q:=gS (n:=n-n/2) (by omega) h4 (by omega);have o:=gS (n:=n-n/2) (by omega) (by omega:0<=s.hi) i;have I:=gS j h4 (by omega);have G:=gS j (by omega:0<=s.hi) i;have hl:=Oe g h5;have w:=g.1;have v:=g.2;have C:w7 s.lo s.hi n t=if((n/2:Nat):Int)*s.lo<t-((n-n/2:Nat):Int)*s.hi then t-((n-n/2:Nat):Int)*s.hi else((n/2:Nat):Int)*s.lo:=(CJ _ _).symm
 have z:yc s.lo s.hi n t=if t-((n-n/2:Nat):Int)*s.lo<((n/2:Nat):Int)*s.hi then t-((n-n/2:Nat):Int)*s.lo else((n/2:Nat):Int)*s.hi:=(sG _ _).symm
 have c1:((n-n/2:Nat):Int)=(n:Int)-((n/2:Nat):Int):=by omega
 have e:(n:Int).tdiv 2=((n/2:Nat):Int):=RD n;have K:0<=w7 s.lo s.hi n t:=by unfold w7;omega
 have b2:yc s.lo s.hi n t<=800:=by unfold yc;omega
 have HB:=aG7 s.seed h.sd (s.path++[(a:Int),(n:Int)]) (by simp;omega) (br6 h (by omega) (by omega)) _ _ (show MA (w7 s.lo s.hi n t) (yc s.lo s.hi n t) from⟨by omega,by omega,hl,by omega⟩) ((y a n k).drw (by omega) (by omega));have hx:=E0 (sd:=s.seed) (p:=s.path++[(a:Int),(n:Int)]) (n:=yc s.lo s.hi n t-w7 s.lo s.hi n t+1) (by omega);refine⟨_,?_,show w7 s.lo s.hi n t<=fU s.seed (s.path++[(a:Int),(n:Int)]) (w7 s.lo s.hi n t) (yc s.lo s.hi n t) by unfold fU;omega,by unfold fU;omega⟩;generalize fU s.seed (s.path++[(a:Int),(n:Int)]) (w7 s.lo s.hi n t) (yc s.lo s.hi n t)=x at *;rw[C,z,c1,←e]at HB;rw[c1,←e]at q o;rw[←e]at u r;have d1:1<=(n:Int).tdiv 2/\(n:Int).tdiv 2<=4:=by rw[e];omega
 refine ao func245 ntmps245 λM=>?_
 repeat' first|refine Nh ?_|intro b;conv=>whnf
 refine Ap.go rfl rfl rfl rfl (ae.e0 _ _ (some ⟨b,0,none⟩)) (bR _) (JS s.path) (zs:=s.path.map λn=>[iD n]) rfl (by simp;omega) (by simp;omega) (λl=>l) cZ (λL J D f=>?_)
 repeat' first|refine Nh ?_|intro b;conv=>whnf
 refine Ap.frz rfl rfl rfl rfl f (bR _) rfl (zs:=(s.path++[(a:Int),(n:Int)]).map λn=>[iD n]) (by rw[yB];rfl) (by simp;omega) (by simp;omega) ?_
 repeat' first|refine Nh ?_|intro b;conv=>whnf
 exact Rt.pure rfl
abbrev J':fk (List Int):=λl v s=>ae 3 1 (l.map λn=>[iD n]) v s
theorem np{P:Program}{f:FuncId}{args:List D}{l:List Int}(h:az P f args [] (λd s=>∃v,d= .v v/\J' l v s)):APure P f args (bi l):=
 APure.of_call (az.vs (az.imp h λd s⟨v,a,r⟩=>by rw[a];exact Rt.vs (Vs.row (τ:=[]) r (by simp))))
theorem mY{a n:Nat}(h:(a,n)∈dI):(n/2<=1\/(a,n/2)∈dI)/\(n-n/2<=1\/(a+n/2,n-n/2)∈dI):=by
 have:∀q∈dI,(q.2/2<=1\/(q.1,q.2/2)∈dI)/\(q.2-q.2/2<=1\/(q.1+q.2/2,q.2-q.2/2)∈dI):=by decide
 exact this _ h
theorem kV{s:qV}(h:lE s){n:Nat}(a:n<=8){t:Int}(f:jo s.lo s.hi n t):0<=t/\t<=800:=by
 have b:=gS a h.lo (by have:=h.le;have:=h.hi;omega);have m:=gS a (by have:=h.le;have:=h.lo;omega:0<=s.hi) h.hi;have:=f.1;have:=f.2;omega
def vO:=@List.sum_append
theorem dY.app{lo i:Int}{a b:Nat}{x y:Int}{l m:List Int}(h:dY lo i a x l)(k:dY lo i b y m){n:Nat}{t:Int}(e:a+b=n)(d:x+y=t):dY lo i n t (l++m):=
 ⟨by rw[zI,h.len,k.len,e],by rw[vO,h.sum,k.sum,d],λz c=>by
  rcases zO.1 c with c|c
  .exact h.all z c
  .exact k.all z c⟩
theorem bn4{A B:Prop}(k:B)(h:ar B->A:=by intro q7;(first|refine bQ ?_|refine aA ?_|(refine' ah ?hc ?_;(case hc=>first|exact HL|exact HP2)));exact q7.1):A:=h ⟨k⟩
theorem Ng{A B:Prop}(k:B)(h:ar B->A:=by intro q7;(first|refine bQ ?_|refine mx ?_|(refine' ah ?hc ?_;(case hc=>first|exact HL|exact HP2)));exact q7.1):A:=h ⟨k⟩
theorem An{A B:Prop}(k:B)(h:ar B->A:=by intro q7;(first|refine bQ ?_|refine ir ?_|(refine' ah ?hc ?_;(case hc=>first|exact HL|exact HP2)));exact q7.1):A:=h ⟨k⟩
theorem aK7(s:qV)(h:lE s)(r:ov s):∀(f a n:Nat)(t:Int),n<=f->n<=8->a<=100->(n<=1\/(a,n)∈dI)->jo s.lo s.hi n t->∃l,dY s.lo s.hi n t l/\az prog 237 [M7 s,iD a,iD n,iD t] [] (λd σ=>∃v,d= .v v/\J' l v σ)
 |0,a,n,t,h1,h2,G,h3,b=>by
  obtain rfl:n=0:=by omega
  have:=b.1;have:=b.2;have ht:t=0:=by simp at *;omega
  subst ht;refine⟨[],⟨rfl,rfl,by simp⟩,?_⟩;refine cU func237 ntmps237 λP=>?_
  repeat refine bn4 ?_
  exact Rt.same ⟨_,rfl,ae.nil _ _⟩
 |f+1,a,n,t,h1,h2,G,h3,b=>by
  by_cases hn0:n=0
  .exact aK7 s h r f a n t (by omega) h2 G h3 b
  by_cases D:n=1
  .subst D;have F:=b.1;have E:=b.2;refine⟨[t],⟨rfl,by simp,λz M=>by rw[zN]at M;subst M;simp at F E;omega⟩,?_⟩;refine cU func237 ntmps237 λP=>?_
   repeat refine Ng ?_
   refine Bx.l ?_
   repeat refine Ng ?_
   refine Bx.r ?_;refine KN ai rfl rfl rfl rfl rfl rfl rfl rfl rfl rfl (by decide) (λY=>?_)
   repeat refine Ng ?_
   exact Rt.same ⟨_,rfl,PW (xs:=[[iD t]]) Y (by simp) (by show 1<=maxLen;decide)⟩
  have i:(a,n)∈dI:=h3.resolve_left (by omega);obtain⟨x,HL,C,y⟩:=rY s h r a n i t b;obtain⟨O,U⟩:=sA C y;obtain⟨R,Q⟩:=mY i;have b0:=kV h (by omega) b;have b1:=kV h (by omega) O;obtain⟨w,L,k⟩:=aK7 s h r f a (n/2) x (by omega) (by omega) G R O;obtain⟨q,K,o⟩:=aK7 s h r f (a+n/2) (n-n/2) (t-x) (by omega) (by omega) (by have:=pZ i;omega) Q U;have HP2:=np o;have T:=L.len;have S:=K.len;refine⟨w++q,L.app K (by omega) (by omega),?_⟩;have I:(n:Int).tdiv 2=((n/2:Nat):Int):=RD n;have X:(a:Int)+(n:Int).tdiv 2=((a+n/2:Nat):Int):=by rw[I];omega
  have V:(n:Int)-(n:Int).tdiv 2=((n-n/2:Nat):Int):=by rw[I];omega
  rw[←I]at k;rw[←X,←V]at HP2;refine cU func237 ntmps237 λP=>?_
  repeat refine An ?_
  refine jI ?_;refine lu mixed ai rfl [0,1,2,3,4,6,7,8,9,10,11,12,13,14,15,16,17] 4 (jE [5,19]) (.one 5 (.fst 18 (.one 19 (.fst 20 .done)))) (γ:=Value×af) (λg=>[(8,.v g.1)]) (λg=>g.2) (λg=>J' (w++q) g.1 g.2) (by decide +kernel) ?_ ?_
  .repeat refine An ?_
   refine ba k (bR _) (λu=>u) cZ ?_;rintro _ s1 ⟨Z,rfl,j⟩;obtain⟨a1,c1,rfl⟩:=ae.slice j
   repeat refine An ?_
   refine Ap.go rfl rfl rfl rfl j (bR _) (JS q) (zs:=(w++q).map λn=>[iD n]) (by rw[yB]) (by simp;omega) (by simp;omega) (λu=>u) cZ (λa5 c5 J e=>?_)
   repeat refine An ?_
   exact⟨(_,J),(aj aP),Sc.refl _,e⟩
  .rintro⟨v,J⟩ e
   repeat refine An ?_
   exact Rt.same ⟨_,rfl,e⟩
theorem bn3{A B:Prop}(k:B)(h:ar B->A:=by intro q7;(first|refine bQ ?_|refine aA ?_|(refine' ah ?hc ?_;(case hc=>first|exact HL|exact HO)));exact q7.1):A:=h ⟨k⟩
theorem DQ{p:Prop}(h:p:=by
 refine ao func207 ntmps207 λBB=>?_
 repeat refine bn3 ?_
 exact Rt.pure rfl):p:=h
theorem pn(s:qV)(h:lE s)(u:ov s)(k:Nat)(w:k<=1000):∀(f a n:Nat)(t:Int),n<=f->1<=n->n<=8->a<=100->(n<=1\/(a,n)∈dI)->jo s.lo s.hi n t->∃x y,(s.lo<=x/\x<=s.hi)/\(0<=y/\y<=800*(n:Int))/\APure prog 207 [M7 s,iD a,iD n,iD t,iD k] (.tup [iD x,iD y])
 |0,a,n,t,h1,h0,h2,z,h3,e=>by omega
 |f+1,a,n,t,h1,h0,h2,z,h3,e=>by
  by_cases l:n=1
  .subst l;have r:=e.1;have o:=e.2;refine⟨t,0,by simp at r o;omega,by omega,?_⟩;exact DQ
  have b:(a,n)∈dI:=h3.resolve_left (by omega);obtain⟨x,HL,i,g⟩:=rY s h u a n b t e;obtain⟨C,I⟩:=sA i g;obtain⟨E,D⟩:=mY b;have M:=kV h (by omega) e;have L:=kV h (by omega) C;have v:(n:Int).tdiv 2=((n/2:Nat):Int):=RD n;have K:(a:Int)+(n:Int).tdiv 2=((a+n/2:Nat):Int):=by rw[v];omega
  have J:(n:Int)-(n:Int).tdiv 2=((n-n/2:Nat):Int):=by rw[v];omega
  have G:=pZ b;by_cases hka:k<a+n/2
  .obtain⟨p,q,j,F,HO⟩:=pn s h u k w f a (n/2) x (by omega) (by omega) (by omega) z E C;refine⟨p,q,j,by omega,?_⟩;rw[←v]at HO;exact DQ
  .obtain⟨p,q,j,F,HO⟩:=pn s h u k w f (a+n/2) (n-n/2) (t-x) (by omega) (by omega) (by omega) (by omega) D I;refine⟨p,q+x,j,by omega,?_⟩;rw[←K,←J]at HO;exact DQ
theorem bn2{A B:Prop}(k:B)(h:ar B->A:=by intro q7;(first|refine bQ ?_|refine aA ?_|(refine' ah ?hc ?_;(case hc=>first|exact HV|exact HP)));exact q7.1):A:=h ⟨k⟩
theorem A5(s:qV)(h:lE s)(g:ov s)(e:xm s=0):∃l,dY s.lo s.hi s.n s.total l/\APure prog 194 [M7 s] (.tup [bi l,iD 0]):=by
 have HV:=aW8 s h;rw[e]at HV;have f:jo s.lo s.hi s.n s.total:=by
  unfold xm at e;split at e
  .assumption
  .omega
 have a:=h.n;obtain⟨l,b,o⟩:=aK7 s h g s.n 0 s.n s.total (zT _) a (by omega) (by
  have:∀n,n<=8->(n<=1\/(0,n)∈dI):=by decide
  exact this _ a) f
 have HP:=np o;refine⟨l,b,?_⟩;refine ao func194 ntmps194 λi=>?_
 repeat refine bn2 ?_
 exact Rt.pure rfl
theorem bn1{A B:Prop}(k:B)(h:ar B->A:=by intro q7;(first|refine bQ ?_|refine aA ?_|(refine' ah ?hc ?_;(case hc=>first|exact HV|exact HO)));exact q7.1):A:=h ⟨k⟩
theorem sX{p:Prop}(h:p:=by
 refine ao func157 ntmps157 λBB=>?_
 repeat refine bn1 ?_
 exact Rt.pure rfl):p:=h
theorem GX(s:qV)(h:lE s)(i:ov s)(k:Int)(l:-1000<=k/\k<=1000):∃v e,(0<=v/\v<=s.hi)/\(e=0\/e=5\/e=6)/\APure prog 157 [M7 s,iD k] (.tup [iD v,iD e]):=by
 have HV:=aW8 s h;have o:=h.lo;have f:=h.le;by_cases he:xm s=0
 .rw[he]at HV;have g:jo s.lo s.hi s.n s.total:=by
   unfold xm at he;split at he
   .assumption
   .omega
  have b:=h.n;by_cases hkn:0<=k/\k<s.n
  .obtain⟨j,rfl⟩:∃j:Nat,k=j:=⟨k.toNat,by omega⟩
   obtain⟨x,y,hx,hy,HO⟩:=pn s h i j (by omega) s.n 0 s.n s.total (zT _) (by omega) b (by omega) (by
    have:∀n,n<=8->(n<=1\/(0,n)∈dI):=by decide
    exact this _ b) g
   refine⟨x,0,by omega,.inl rfl,?_⟩;exact sX
  .refine⟨0,6,by omega,.inr (.inr rfl),?_⟩;by_cases hk0:k<0
   .exact sX
   .have:(s.n:Int)<=k:=by omega
    exact sX
 .have a:xm s=5:=by unfold xm at *;split at he<;>simp_all
  rw[a]at HV;refine⟨0,5,by omega,.inr (.inl rfl),?_⟩;exact sX
end
section
open Go
structure tt where
 seed:List Nat
 path:List Int
 from_:Nat
 to:Nat
 lo:Int
 hi:Int
abbrev rlC(r:tt):List D:=[cW r.seed,bi r.path,iD r.from_,iD r.to,iD r.lo,iD r.hi]
abbrev Qh(r:tt):D:=.agg (rlC r)
def tt.spt(r:tt):qV:=⟨r.seed,r.path++[0],r.from_,r.to,r.lo,r.hi⟩
structure lF(r:tt):Prop where
 sd:fX r.seed
 pl:r.path.length<=5
 pv:∀v∈r.path,cA v
 fr:r.from_<=8
 to:r.to<=8
 lo:0<=r.lo
 le:r.lo<=r.hi
 hi:r.hi<=100
theorem lF.spt{r:tt}(h:lF r):lE r.spt:=
 ⟨h.sd,by have:=h.pl;simp[tt.spt];omega,λv a=>by
  rcases zO.1 a with a|a
  .exact h.pv v a
  .rw[zN]at a;subst a;exact⟨by omega,by omega⟩,h.to,h.lo,h.le,h.hi,by have:=h.fr;simp[tt.spt];omega⟩
theorem aN7(r:tt)(h:lF r):APure prog 195 [Qh r] (M7 r.spt):=by
 have h2:=h.pl;refine ao func195 ntmps195 λi=>?_
 repeat' first|refine aN ?_|intro b;conv=>whnf
 refine Ap.go rfl rfl rfl rfl (ae.nil _ _) (show List.Perm _ ([]++_) from zH _) (JS r.path) (zs:=r.path.map λn=>[iD n]) rfl (by simp;omega) (by simp;omega) (λs=>s++_) (λs=>zH _) (λg f e a=>?_)
 repeat' first|refine aN ?_|intro b;conv=>whnf
 refine Ap.frz rfl rfl rfl rfl a (zH _) rfl (zs:=(r.path++[0]).map λn=>[iD n]) (by rw[yB];rfl) (by simp;omega) (by simp;omega) ?_
 repeat' first|refine aN ?_|intro b;conv=>whnf
 exact Rt.pure rfl
theorem bn0{A B:Prop}(k:B)(h:ar B->A:=by intro q7;(first|refine bQ ?_|refine aA ?_|(refine' ah ?hc ?_;(case hc=>first|exact HS|exact HV)));exact q7.1):A:=h ⟨k⟩
theorem be1(r:tt)(h:lF r):APure prog 193 [Qh r] (iD (xm r.spt)):=by
 have h2:=h.pl;have h3:=h.fr;have h4:=h.lo;have HS:=aN7 r h;have HV:=aW8 r.spt h.spt;refine ao func193 ntmps193 λa=>?_
 repeat refine bn0 ?_
 refine Rt.pure (zM iD ?_)
 rfl
theorem Nf{A B:Prop}(k:B)(h:ar B->A:=by intro q7;(first|refine bQ ?_|refine aA ?_|(refine' ah ?hc ?_;(case hc=>exact HP)));exact q7.1):A:=h ⟨k⟩
theorem Bn(r:tt)(h:lF r)(i:Nat)(hi:i<r.from_):∃v:Nat,v<r.from_/\APure prog 196 [Qh r,iD i] (iD v):=by
 have h2:=h.pl;have h3:=h.fr;obtain⟨v,a,HP⟩:=mJ r.seed h.sd (r.path++[1]) ⟨by simp;omega,λv a=>by
  rcases zO.1 a with a|a
  .exact h.pv v a
  .rw[zN]at a;subst a;exact⟨by omega,by omega⟩⟩ r.from_ (by omega) i hi
 refine⟨v,a,?_⟩;refine ao func196 ntmps196 λj=>?_
 repeat refine Nf ?_
 refine Ap.go rfl rfl rfl rfl (ae.nil _ _) (show List.Perm _ ([]++_) from zH _) (JS r.path) (zs:=r.path.map λn=>[iD n]) rfl (by simp;omega) (by simp;omega) (λs=>s++_) (λs=>zH _) (λg f e b=>?_)
 repeat refine Nf ?_
 refine Ap.frz rfl rfl rfl rfl b (zH _) rfl (zs:=(r.path++[1]).map λn=>[iD n]) (by rw[yB];rfl) (by simp;omega) (by simp;omega) ?_
 repeat refine Nf ?_
 refine Rt.pure (zM iD ?_)
 rfl
theorem zC(s:qV):xm s=0\/xm s=5:=by unfold xm;split<;>simp
theorem uO{lo c:Int}{n:Nat}{t:Int}{l:List Int}(h:dY lo c n t l)(p:0<=lo)(j:c<=100)(k:n<=8)(i:Nat):0<=(l.take i).sum/\(l.take i).sum<=800:=by
 have:∀m:List Int,(∀z∈m,0<=z/\z<=100)->0<=m.sum/\m.sum<=100*(m.length:Int):=by
  intro m b
  induction m with
  |nil=>simp
  |cons a m d=>
   have j:=b a yN;have g:=d λw f=>b w (yQ _ f);rw[List.sum_cons,List.length_cons];omega
 have g:=this (l.take i) (λz e=>by have:=h.all z (xG e);omega);have o:(l.take i).length<=l.length:=by rw[zR];omega
 have:=h.len;omega
theorem Am{A B:Prop}(k:B)(h:ar B->A:=by intro q7;(first|refine bQ ?_|refine aA ?_|(refine' ah ?hc ?_;(case hc=>first|exact HV|exact HS|exact HA|exact HU)));exact q7.1):A:=h ⟨k⟩
theorem aS7(r:tt)(h:lF r)(F:ov r.spt)(ht:1<=r.to)(i:Nat)(hi:i<r.from_):∃(j:Nat)(u e:Int),j<r.to/\(0<=u/\u<=100)/\APure prog 149 [Qh r,iD i] (.tup [iD j,iD u,iD e]):=by
 have h3:=h.fr;have K:=h.to;have HV:=be1 r h;rcases zC r.spt with s|s
 .rw[s]at HV;have HS:=aN7 r h;obtain⟨l,b,HA⟩:=A5 r.spt h.spt F s;obtain⟨v,I,HU⟩:=Bn r h i hi;have hl:l.length=r.to:=b.len;have g:l.sum=(r.from_:Int):=b.sum;have a:=uO b h.lo h.hi h.to;obtain⟨j,E,(D:(v:Int)<(l.take (j+1)).sum),o⟩:=ww (p:=λk=>(v:Int)<(l.take (k+1)).sum) (k:=l.length-1) (by
   show(v:Int)<(l.take (l.length-1+1)).sum;rw[show l.length-1+1=l.length by omega,yM,g];omega)
  have w:(l.take j).sum<=v:=by
   cases j with
   |zero=>simp
   |succ j=>
    have:¬(v:Int)<(l.take (j+1)).sum:=o j (by omega);omega
  refine⟨j,v-(l.take j).sum,0,by omega,by have:=a j;omega,?_⟩;have e0:(l.take 0).sum=0:=rfl;refine ao func149 ntmps149 λG=>?_
  repeat refine Am ?_
  refine aV mixed ai (γ:=Nat) (λq=>[(10,iD ((v:Int)-(l.take q).sum)),(11,iD q)]) (λ_=>[]) (λq=>q<=j) (λq=>j-q) 0 (aj aw) (Sc.refl _) (zW _) ?_;intro q J;obtain⟨y,f⟩:∃y,l[q]?=some y:=⟨_,zD (by omega)⟩
  have hy:l[((q:Nat):Int).toNat]?=some y:=f;have t:=aM8 f;have z:=a q;have x:=a (q+1);by_cases hqj:q<j
  .have C:¬(v:Int)<(l.take (q+1)).sum:=o q hqj
   repeat refine Am ?_
   exact⟨q+1,(aj aw),Sc.refl _,by omega,by omega⟩
  .obtain rfl:q=j:=by omega
   repeat refine Am ?_
   exact Rt.pure rfl
 .rw[s]at HV;refine⟨0,0,5,by omega,by omega,?_⟩;refine ao func149 ntmps149 λG=>?_
  repeat refine Am ?_
  exact Rt.pure rfl
theorem DP{p:Prop}(h:p:=by
 refine ao func155 ntmps155 λBB=>?_
 repeat refine Am ?_
 exact Rt.pure rfl):p:=h
theorem aS8(r:tt)(h:lF r)(f:ov r.spt)(j:Nat)(hj:j<=1000):∃(d e:Int),(0<=d/\d<=r.hi)/\APure prog 155 [Qh r,iD j] (.tup [iD d,iD e]):=by
 have HV:=be1 r h;have h4:=h.lo;have h5:=h.le;rcases zC r.spt with b|b
 .rw[b]at HV;by_cases hjt:j<r.to
  .have HS:=aN7 r h;obtain⟨l,k,HA⟩:=A5 r.spt h.spt f b;have hl:l.length=r.to:=k.len;obtain⟨y,a⟩:∃y,l[j]?=some y:=⟨_,zD (by omega)⟩
   have hy:l[((j:Nat):Int).toNat]?=some y:=a;have hb:r.lo<=y/\y<=r.hi:=k.all y (zG a);refine⟨y,0,by omega,?_⟩;exact DP
  .refine⟨0,6,by omega,?_⟩;exact DP
 .rw[b]at HV;refine⟨0,5,by omega,?_⟩;exact DP
end
section
open Go
theorem Xs{p:Prop}(h:p:=by
 repeat' first|refine aq ?_|(refine aT ?_;constructor<;>intro hc)
 all_goals(refine Rt.pure (zM bD ?_);first|(simp[cz, *];done)|(simp[cz];omega))):p:=h
theorem QC(n a b:Int):APure prog 127 [iD n,iD a,iD b] (bD (cz n a b)):=by
 refine ao func127 ntmps127 λe=>?_;exact Xs
theorem Xt{p:Prop}(h:p:=by
 repeat' first|refine aq ?_|(refine aT ?_;constructor<;>intro hc)
 all_goals(refine Rt.pure (zM bD ?_);first|(simp[ln, *];done)|(simp[ln];omega))):p:=h
theorem az5(lo hi a b:Int):APure prog 173 [iD lo,iD hi,iD a,iD b] (bD (ln lo hi a b)):=by
 refine ao func173 ntmps173 λe=>?_;exact Xt
theorem Xu{p:Prop}(h:p:=by
 repeat' first|refine aq ?_|(refine aT ?_;constructor<;>intro hc)
 all_goals(refine Rt.pure (zM bD ?_);first|(simp[I2, *];done)|(simp[I2];omega))):p:=h
theorem aT0(c:UInt8):APure prog 226 [.v (.int .u8 c.toNat)] (bD (I2 c)):=by
 refine ao func226 ntmps226 λa=>?_;exact Xu
theorem Xv{p:Prop}(h:p:=by
 repeat' first|refine aq ?_|(refine aT ?_;constructor<;>intro hc)
 all_goals(refine Rt.pure (zM bD ?_);first|(simp[nK, *];done)|(simp[nK];omega))):p:=h
theorem be8(c:UInt8):APure prog 227 [.v (.int .u8 c.toNat)] (bD (nK c)):=by
 refine ao func227 ntmps227 λa=>?_;exact Xv
def vT:=@List.all_eq_false
theorem JN{α:Type}{p:α->Bool}{l:List α}{q:Nat}{y:α}(a:l[q]?=some y)(h:p y=false):l.all p=false:=by
 rw[vT];exact⟨y,zG a,by simp[h]⟩
theorem JK{α:Type}{p:α->Bool}{l:List α}(h:∀(m:Nat)y,m<l.length->l[m]?=some y->p y=true):l.all p=true:=by
 rw[yA];intro y b;obtain⟨m,a⟩:=yO b;exact h m y (zE.1 a).1 a
theorem Jm{α:Type}{p:α->Bool}{l:List α}{q:Nat}{y:α}(o:∀(m:Nat)y,m<q->l[m]?=some y->p y=true)(b:l[q]?=some y)(h:p y=true):∀(m:Nat)y,m<q+1->l[m]?=some y->p y=true:=by
 intro m z c a;by_cases e:m=q
 .subst e;rw[b]at a;cases a;exact h
 .exact o m z (by omega) a
theorem Y5(s:ByteArray):(bytes s).length=s.size:=by unfold bytes;simp
theorem Al{A B:Prop}(k:B)(h:ar B->A:=by intro q7;(first|refine bA ?_|refine aA ?_|(refine' ah ?hc ?_;(case hc=>first|exact aT0 _|exact be8 _|exact QC _ _ _|exact az5 _ _ _ _)));exact q7.1):A:=h ⟨k⟩
theorem Xw{p:Prop}(h:p:=by
 unfold aY;rw[hw];have hc1:(bytes s)[0]?=some c:=hc0
 cases hb:bytes s with
 |nil=>rw[hb]at h0;simp at h0
 |cons d r=>rw[hb]at hc1;simp at hc1;subst hc1;simp):p:=h
theorem an8(s:ByteArray):APure prog 172 [sD s] (bD (aY s)):=by
 refine ao func172 ntmps172 λi=>?_;by_cases hs:1<=s.size/\s.size<=12
 .have hw:cz s.size 1 12=true:=by simp[cz];omega
  have h0:0<(bytes s).length:=by rw[Y5];omega
  obtain⟨c,hc0⟩:∃c,(bytes s)[(0:Int).toNat]?=some c:=⟨_,zD h0⟩
  have b:aY s=(I2 c&&(bytes s).all eQ):=Xw
  cases t:I2 c with
  |false=>
   repeat' first|refine Al ?_|(refine aT ?_;constructor<;>intro hc)
   all_goals(refine Rt.pure (zM bD ?_);rw[b,t];rfl)
  |true=>
   repeat' first|refine Al ?_|(refine aT ?_;constructor<;>intro hc)
   refine fW mixed ai (γ:=Nat) (λg=>[(3,iD g)]) (λ_=>[]) (λq=>q<=s.size/\∀(m:Nat)y,m<q->(bytes s)[m]?=some y->eQ y=true) (λq=>s.size-q) 0 rfl rfl ⟨by omega,λm y e=>by omega⟩ ?_;rintro q ⟨f,o⟩;by_cases hlt:q<s.size
   .obtain⟨y,hy⟩:∃y,(bytes s)[(q:Int).toNat]?=some y:=⟨_,zD (by rw[Y5];simpa using hlt)⟩
    have a:(bytes s)[q]?=some y:=hy
    repeat' first|refine Al ?_|(refine aT ?_;constructor<;>intro hc)
    all_goals first
     |exact⟨q+1,rfl,rfl,⟨by omega,Jm o a (by simp[eQ, *])⟩,by omega⟩
     |(refine Rt.pure (zM bD ?_);rw[b,JN a (by simp[eQ, *]),wW])
   .repeat' first|refine Al ?_|(refine aT ?_;constructor<;>intro hc)
    refine Rt.pure (zM bD ?_);rw[b,t,JK (λm y e hy=>o m y (by rw[Y5]at e;omega) hy)];rfl
 .have b:aY s=false:=by
   have hw:cz s.size 1 12=false:=by simp[cz];omega
   unfold aY;rw[hw];simp
  repeat' first|refine Al ?_|(refine aT ?_;constructor<;>intro hc)
  all_goals first|(exfalso;omega)|(refine Rt.pure (zM bD ?_);exact b.symm)
theorem GG{A B:Prop}(k:B)(h:ar B->A:=by intro q7;(first|refine bA ?_|refine aA ?_|(refine' ah ?hc ?_;(case hc=>exact an8 _)));exact q7.1):A:=h ⟨k⟩
theorem aD7(l:List ByteArray)(hl:l.length<=1000000):APure prog 175 [gA l] (bD (l.all aY)):=by
 refine ao func175 ntmps175 λe=>?_
 repeat' first|refine GG ?_|refine a7.mk λy hy=>?_
 refine fW mixed ai (γ:=Nat) (λg=>[(3,iD g)]) (λ_=>[]) (λq=>q<=l.length/\∀(m:Nat)y,m<q->l[m]?=some y->aY y=true) (λq=>l.length-q) 0 rfl rfl ⟨by omega,λm y a=>by omega⟩ ?_;rintro q ⟨b,o⟩
 repeat' first|refine GG ?_|refine a7.mk λy hy=>?_|(refine aT ?_;constructor<;>intro hc)
 .exact⟨q+1,rfl,rfl,⟨by omega,Jm o hy (by assumption)⟩,by omega⟩
 .refine Rt.pure (zM bD ?_);rw[JN hy (by assumption)]
 .refine Rt.pure (zM bD ?_);rw[JK (λm y a hy=>o m y (by omega) hy)]
def y8(k:Int):D:=.tup [bD (hZ k),bD (ia k),bD (iJ k),bD (hY k),bD (ej k)]
theorem lw(k:Int):APure prog 228 [iD k] (y8 k):=by
 refine ao func228 ntmps228 λo=>?_;by_cases h:k=0\/k=1\/k=2\/k=3\/k=4\/k=5\/k=6\/k=7\/k=8
 .rcases h with h|h|h|h|h|h|h|h|h
  all_goals
   repeat refine GG ?_
   refine Rt.pure ?_;subst h;rfl
 .have l:¬k=0:=by omega
  have j:¬k=1:=by omega
  have i:¬k=2:=by omega
  have g:¬k=3:=by omega
  have f:¬k=4:=by omega
  have e:¬k=5:=by omega
  have b:¬k=6:=by omega
  have a:¬k=7:=by omega
  have n:¬k=8:=by omega
  repeat refine GG ?_
  refine Rt.pure ?_
  show D.tup [bD (decide (k=8)),bD (decide (k=8)),bD (decide (k=0)),bD (decide (k=7)),bD (decide (k=3))]=_;simp[y8,hZ,ia,iJ,hY,ej,l,j,i,g,f,e,b,a,n]
theorem ue{A B:Prop}(k:B)(h:ar B->A:=by intro q7;(first|refine bA ?_|refine aA ?_|(refine' ah ?hc ?_;(case hc=>first|exact QC _ _ _|exact aD7 _ (by assumption))));exact q7.1):A:=h ⟨k⟩
theorem aT2(f:am)(w:f.words.length<=1000000)(t:f.wz.length<=1000000):APure prog 229 [bM f] (bD (oc f.words f.wz)):=by
 refine ao func229 ntmps229 λv=>?_
 repeat refine ue ?_
 refine fW mixed ai (γ:=Nat×Int) (λg=>[(3,iD g.2),(4,iD g.1)]) (λ_=>[]) (λg=>g.1<=f.wz.length/\g.2=(f.wz.take g.1).sum/\(∀(m:Nat)y,m<g.1->f.wz[m]?=some y->cz y 0 1048576=true)/\0<=g.2/\g.2<=1048576*g.1) (λg=>f.wz.length-g.1) (0,0) rfl rfl ⟨by omega,by simp,λm y s=>by omega,by simp,by simp⟩ ?_;rintro⟨q,u⟩ ⟨k,i,o,b,a⟩;simp only at k i o b a⊢;by_cases hlt:q<f.wz.length
 .obtain⟨y,hy⟩:∃y,f.wz[q]?=some y:=⟨_,zD hlt⟩
  have j:(f.wz.take (q+1)).sum=(f.wz.take q).sum+y:=by
   rw[xC,hy];simp
  cases h1:cz y 0 1048576 with
  |true=>
   have r:0<=y/\y<=1048576:=by simpa [cz]using h1
   repeat' first|refine ue ?_|(refine aT ?_;constructor<;>intro hc)
   exact⟨(q+1,u+y),rfl,rfl,⟨by simp only;omega,by simp only;omega,Jm o hy h1,by simp only;omega,by simp only;omega⟩,by simp only;omega⟩
  |false=>
   repeat' first|refine ue ?_|(refine aT ?_;constructor<;>intro hc)
   all_goals(refine Rt.pure (zM bD ?_);simp only[oc,JN (p:=λn=>cz n 0 1048576) hy h1];simp)
 .obtain rfl:q=f.wz.length:=by omega
  have l:f.wz.all (λn=>cz n 0 1048576)=true:=JK o;rw[yM]at i;have e:oc f.words f.wz=(cz f.words.length 1 12&&decide (f.words.length=f.wz.length)&&decide (0<f.wz.sum)&&f.words.all aY):=by simp[oc,l]
  rw[←i]at e;clear i o b a l k hlt;by_cases e2:f.words.length=f.wz.length
  .by_cases e3:0<u
   .repeat' first|refine ue ?_|(refine aT ?_;constructor<;>intro hc)
    all_goals(refine Rt.pure (zM bD ?_);rw[e];simp_all)
   .rw[yE e3]at e
    repeat' first|refine ue ?_|(refine aT ?_;constructor<;>intro hc)
    all_goals(refine Rt.pure (zM bD ?_);rw[e];simp)
  .repeat' first|refine ue ?_|(refine aT ?_;constructor<;>intro hc)
   all_goals(refine Rt.pure (zM bD ?_);rw[e,yE e2];simp)
end
section
open Go
theorem Zx:Le (.agg [sD ⟨#[]⟩,sD ⟨#[]⟩,sD ⟨#[]⟩,iD 0,iD 0,iD 0,.v (.slice none 0 0),.v (.slice none 0 0)]) (bM xa):=
 qg (fN.cons (Le.refl _) (fN.cons (Le.refl _) (fN.cons (Le.refl _) (fN.cons (Le.refl _) (fN.cons (Le.refl _) (fN.cons (Le.refl _) (fN.cons (gp _) (fN.cons (gp _) fN.nil))))))))
theorem rp{x:ak}{i j:Int}{f:am}(h:aI x i j<0):gL x i j f=none:=by simp[gL,h]
theorem rq{x:ak}{i j:Int}{f:am}{k:au}(h:¬aI x i j<0)(a:x.kz[(aI x i j).toNat]?=some k):gL x i j f=fieldAt x (aI x i j) (aZ k f.of):=by
 have:dv x (aI x i j)=some k:=by unfold dv;rw[if_pos (by omega)];exact a
 simp only[gL,this];rw[if_neg h]
theorem rj(x:ak)(i j:Int):aI x i j<x.kz.length:=by
 by_cases h:0<=aI x i j
 .obtain⟨o,k,b,a⟩:=j6 x i j h;have:=(zE.1 a).1;omega
 .omega
theorem RN{A B:Prop}(k:B)(h:ar B->A:=by intro q7;(first|refine bA ?_|refine aA ?_|(refine' ah ?hc ?_;(case hc=>first|exact EA _ _ (by assumption)|exact wM _ _ (by assumption)|exact PY _ _ _ (by assumption) (by assumption))));exact q7.1):A:=h ⟨k⟩
theorem be6(x:ak)(i j:Int)(f:am)(hl:x.kz.length<=1000000)(r:∀k∈x.kz,k.fields.length<=1000000)(g:fieldAt x i j=some f):APure prog 179 [ax x,iD i,iD j] (.tup [iD (cp x i j f).1,bM (cp x i j f).2]):=by
 refine ao func179 ntmps179 λt=>?_;obtain⟨h0,h1,k,s,n⟩:=E8 g;have l:=rj x i j;by_cases hu:aI x i j<0
 .have ht:cp x i j f=(-1,xa):=by simp[cp,rp hu]
  repeat' first|refine RN ?_|intro b;conv=>whnf|refine a7.mk λy hy=>?_|(refine aT ?_;constructor<;>intro hc)
  rw[ht];exact Rt.vs (Vs.tup (eX.cons (Vs.refl _ _) (eX.cons (Vs.le Zx) (eX.nil _))))
 .obtain⟨a,o⟩:∃a,x.kz[(aI x i j).toNat]?=some a:=⟨_,zD (by omega)⟩
  have q:=r a (zG o);have e:=rq (f:=f) hu o;have p:=L6 a f.of
  repeat' first|refine RN ?_|intro b;conv=>whnf|refine a7.mk λy hy=>?_|(refine aT ?_;constructor<;>intro hc)
  .have ht:cp x i j f=(-1,xa):=by simp only[cp,e,al5 (x:=x) (i:=aI x i j) (j:=aZ a f.of) (by omega)]
   rw[ht];exact Rt.vs (Vs.tup (eX.cons (Vs.refl _ _) (eX.cons (Vs.le Zx) (eX.nil _))))
  .have ht:cp x i j f=(y.kind,y):=by simp only[cp,e,JO (x:=x) (i:=aI x i j) (j:=aZ a f.of) (by omega) (by omega) o,hy]
   rw[ht];exact Rt.vs (Vs.refl _ _)
end
section
open Go
theorem bm9{A B:Prop}(k:B)(h:ar B->A:=by intro q7;(first|refine bA ?_|refine aA ?_|(refine' ah ?hc ?_;(case hc=>first|exact EA _ _ (by assumption)|exact be6 _ _ _ _ (by assumption) (by assumption) (by assumption))));exact q7.1):A:=h ⟨k⟩
theorem be5(x:ak)(i j up:Int)(f:am)(hl:x.kz.length<=1000000)(l:∀k∈x.kz,k.fields.length<=1000000)(a:fieldAt x i j=some f):APure prog 133 [ax x,iD i,iD j,iD up] (iD (Fg x i j f up)):=by
 refine ao func133 ntmps133 λn=>?_;obtain⟨h0,h1,k,g,e⟩:=E8 a
 repeat' first|refine bm9 ?_|intro b;conv=>whnf|(refine aT ?_;constructor<;>intro hc)
 all_goals(refine Rt.pure (zM iD ?_);unfold Fg;(repeat' split)<;>first|rfl|omega)
theorem oG(s:ByteArray):(s.toList==(⟨#[]⟩:ByteArray).toList)=dF s:=by
 unfold dF;have:(⟨#[]⟩:ByteArray).toList=[]:=by rw[ByteArray.toList_eq]
 rw[this]
 cases s.toList<;>rfl
theorem RM{A B:Prop}(k:B)(h:ar B->A:=by intro q7;(first|refine bA ?_|refine aA ?_|(refine' ah ?hc ?_;(case hc=>first|exact wM _ _ (by assumption)|exact PY _ _ _ (by assumption) (by assumption)|exact aW9 _ _ _ _ (by assumption) (by assumption) (by assumption)|exact be5 _ _ _ _ _ (by assumption) (by assumption) (by assumption))));exact q7.1):A:=h ⟨k⟩
theorem XH{p:Prop}(h:p:=by
 exact⟨q+1,rfl,rfl,⟨by omega,λm z hm hz=>by
  by_cases e:m=q
  .subst e;rw[show((m:Int)).toNat=m from rfl,hz]at hy;cases hy;assumption
  .exact hno m z (by omega) hz⟩,by omega⟩):p:=h
theorem be3(x:ak)(i j:Int)(f:am)(hl:x.kz.length<=1000000)(u:∀k∈x.kz,k.fields.length<=1000000)(o:x.lz.length<=1000000)(g:fieldAt x i j=some f):APure prog 86 [ax x,iD i,iD j] (iD (cJ x i j f)):=by
 refine ao func86 ntmps86 λw=>?_;obtain⟨h0,h1,k,n,r⟩:=E8 g;have t:=u k (zG n);have a:dv x i=some k:=by simp[dv,h0,n]
 have s:=L6 k f.of
 repeat' first|refine RM ?_|intro b;conv=>whnf|refine a7.mk λy hy=>?_|(refine aT ?_;constructor<;>intro hc)
 all_goals try
  (refine Rt.pure (zM iD ?_);(try simp only[oG,zL,zR,zI,List.length_cons,List.length_nil,zY,Nat.reduceAdd]at *);unfold cJ;(repeat' split)<;>first|rfl|omega|(unfold qq;rw[a];(repeat' split)<;>first|rfl|omega|(simp_all;done)|(simp_all;omega)))
 have U:cJ x i j f=if x.lz.any (λl=>seq l.name f.of)then 0 else 12:=by
  unfold cJ;rw[if_neg (by omega),if_neg (by omega),if_neg (by omega),if_neg (by omega),if_pos (by omega)]
 rw[U];refine fW mixed ai (γ:=Nat) (λq=>[(10,iD q)]) (λ_=>[(b,.cells 81 (aH f))]) (λq=>q<=x.lz.length/\∀m y,m<q->x.lz[m]?=some y->seq y.name f.of=false) (λq=>x.lz.length-q) 0 rfl rfl ⟨by omega,by omega⟩ ?_;rintro q ⟨v,hno⟩
 repeat' first|refine RM ?_|intro b;conv=>whnf|refine a7.mk λy hy=>?_|(refine aT ?_;constructor<;>intro hc)
 .refine Rt.pure (zM iD ?_);rw[if_pos (wC.2 ⟨y,zG hy,by assumption⟩)]
 .exact XH
 .refine Rt.pure (zM iD ?_);rw[if_neg];rw[wC];rintro⟨y,hy,hs⟩;obtain⟨m,hm⟩:=yO hy;have:=hno m y (by have:=(zE.1 hm).1;omega) hm;rw[this]at hs;cases hs
end
section
open Go
theorem neE(s:ByteArray):(!(s.toList==(⟨#[]⟩:ByteArray).toList))=!dF s:=by rw[oG]
theorem bB6(a:List ByteArray)(b:List Int):(a.isEmpty&&b.isEmpty)=decide (¬(0<(a.length:Int)+b.length)):=by
 cases a<;>cases b<;>simp<;>omega
theorem RL{A B:Prop}(k:B)(h:ar B->A:=by intro q7;(first|refine bA ?_|refine aA ?_|(refine' ah ?hc ?_;(case hc=>first|exact HU|exact an8 _|exact QC _ _ _|exact az5 _ _ _ _|exact aT2 _ (by assumption) (by assumption))));exact q7.1):A:=h ⟨k⟩
theorem k8{p:Prop}(h:p:=by
 repeat' first|refine RL ?_|(refine aT ?_;constructor<;>intro hc)
 all_goals(refine Rt.pure (zM bD ?_);(try simp only[neE,oG]at *);simp[dE,lR,fJ,hZ,ia,iJ,hY,ej,bB6, *])):p:=h
theorem aX9(f:am)(w:f.words.length<=1000000)(g:f.wz.length<=1000000)(k:f.kind=0):APure prog 174 [bM f] (bD (dE f)):=by
 refine ao func174 ntmps174 λa=>?_;have HU:APure prog 228 [iD f.kind] (.tup [bD false,bD false,bD true,bD false,bD false]):=by rw[k];exact lw 0
 exact k8
theorem aX8(f:am)(w:f.words.length<=1000000)(g:f.wz.length<=1000000)(k:f.kind=1):APure prog 174 [bM f] (bD (dE f)):=by
 refine ao func174 ntmps174 λa=>?_;have HU:APure prog 228 [iD f.kind] (.tup [bD true,bD false,bD true,bD true,bD false]):=by rw[k];exact lw 1
 exact k8
theorem aX7(f:am)(w:f.words.length<=1000000)(g:f.wz.length<=1000000)(k:f.kind=2):APure prog 174 [bM f] (bD (dE f)):=by
 refine ao func174 ntmps174 λa=>?_;have HU:APure prog 228 [iD f.kind] (.tup [bD false,bD false,bD true,bD true,bD false]):=by rw[k];exact lw 2
 exact k8
theorem aX6(f:am)(w:f.words.length<=1000000)(g:f.wz.length<=1000000)(k:f.kind=3):APure prog 174 [bM f] (bD (dE f)):=by
 refine ao func174 ntmps174 λa=>?_;have HU:APure prog 228 [iD f.kind] (.tup [bD false,bD false,bD false,bD false,bD true]):=by rw[k];exact lw 3
 exact k8
theorem aX5(f:am)(w:f.words.length<=1000000)(g:f.wz.length<=1000000)(k:f.kind=4):APure prog 174 [bM f] (bD (dE f)):=by
 refine ao func174 ntmps174 λa=>?_;have HU:APure prog 228 [iD f.kind] (.tup [bD true,bD false,bD true,bD true,bD false]):=by rw[k];exact lw 4
 exact k8
theorem aX4(f:am)(w:f.words.length<=1000000)(g:f.wz.length<=1000000)(k:f.kind=5):APure prog 174 [bM f] (bD (dE f)):=by
 refine ao func174 ntmps174 λa=>?_;have HU:APure prog 228 [iD f.kind] (.tup [bD true,bD false,bD true,bD true,bD false]):=by rw[k];exact lw 5
 exact k8
theorem aX3(f:am)(w:f.words.length<=1000000)(g:f.wz.length<=1000000)(k:f.kind=6):APure prog 174 [bM f] (bD (dE f)):=by
 refine ao func174 ntmps174 λa=>?_;have HU:APure prog 228 [iD f.kind] (.tup [bD true,bD false,bD false,bD false,bD false]):=by rw[k];exact lw 6
 exact k8
theorem aX2(f:am)(w:f.words.length<=1000000)(g:f.wz.length<=1000000)(k:f.kind=7):APure prog 174 [bM f] (bD (dE f)):=by
 refine ao func174 ntmps174 λa=>?_;have HU:APure prog 228 [iD f.kind] (.tup [bD true,bD true,bD true,bD true,bD false]):=by rw[k];exact lw 7
 exact k8
theorem aX1(f:am)(w:f.words.length<=1000000)(g:f.wz.length<=1000000)(k:f.kind=8):APure prog 174 [bM f] (bD (dE f)):=by
 refine ao func174 ntmps174 λa=>?_;have HU:APure prog 228 [iD f.kind] (.tup [bD true,bD true,bD false,bD false,bD false]):=by rw[k];exact lw 8
 exact k8
theorem aX0(f:am)(w:f.words.length<=1000000)(g:f.wz.length<=1000000)(k:f.kind<0\/8<f.kind):APure prog 174 [bM f] (bD (dE f)):=by
 refine ao func174 ntmps174 λa=>?_;have HU:=lw f.kind;unfold y8 at HU;have:dE f=false:=by
  have:fJ f=false:=by unfold fJ;repeat(rw[if_neg (by omega)])
  simp[dE,this]
 rw[this]
 repeat' first|refine RL ?_|(refine aT ?_;constructor<;>intro hc)
 all_goals(refine Rt.pure (zM bD ?_);rfl)
theorem aO0(f:am)(w:f.words.length<=1000000)(g:f.wz.length<=1000000):APure prog 174 [bM f] (bD (dE f)):=by
 by_cases hn:f.kind<0\/8<f.kind
 .exact aX0 f w g hn
 .have:f.kind=0\/f.kind=1\/f.kind=2\/f.kind=3\/f.kind=4\/f.kind=5\/f.kind=6\/f.kind=7\/f.kind=8:=by omega
  rcases this with h|h|h|h|h|h|h|h|h
  .exact aX9 f w g h
  .exact aX8 f w g h
  .exact aX7 f w g h
  .exact aX6 f w g h
  .exact aX5 f w g h
  .exact aX4 f w g h
  .exact aX3 f w g h
  .exact aX2 f w g h
  .exact aX1 f w g h
end
section
open Go
structure bC3(f:am):Prop where
 w:f.words.length<=1000000
 g:f.wz.length<=1000000
theorem ud{A B:Prop}(k:B)(h:ar B->A:=by intro q7;(first|refine bA ?_|refine aA ?_|(refine' ah ?hc ?_;(case hc=>first|exact an8 _|exact QC _ _ _|exact az5 _ _ _ _|exact aO0 _ (hs _ (zG hy)).w (hs _ (zG hy)).g)));exact q7.1):A:=h ⟨k⟩
theorem pO(k:au)(hs:∀f∈k.fields,bC3 f)(i:k.fields.length<=1000000):APure prog 128 [fz k] (bD (ji k)):=by
 refine ao func128 ntmps128 λj=>?_
 cases h1:aY k.name
 .repeat' first|refine ud ?_|(refine aT ?_;constructor<;>intro hc)
  all_goals(refine Rt.pure (zM bD ?_);simp[ji,h1])
 cases h2:ln k.lo k.hi 0 65536
 .repeat' first|refine ud ?_|(refine aT ?_;constructor<;>intro hc)
  all_goals(refine Rt.pure (zM bD ?_);simp[ji,h2])
 by_cases h3:k.fields.length<=10
 .have a:ji k=k.fields.all dE:=by simp[ji,h1,h2,h3]
  repeat refine ud ?_
  refine fW mixed ai (γ:=Nat) (λg=>[(3,iD g)]) (λ_=>[]) (λq=>q<=k.fields.length/\∀(m:Nat)y,m<q->k.fields[m]?=some y->dE y=true) (λq=>k.fields.length-q) 0 rfl rfl ⟨by omega,λm y b=>by omega⟩ ?_;rintro q ⟨e,o⟩;by_cases hlt:q<k.fields.length
  .obtain⟨y,hy⟩:∃y,k.fields[(q:Int).toNat]?=some y:=⟨_,zD hlt⟩
   repeat' first|refine ud ?_|(refine aT ?_;constructor<;>intro hc)
   .exact⟨q+1,rfl,rfl,⟨by omega,Jm o hy (by assumption)⟩,by omega⟩
   .refine Rt.pure (zM bD ?_);rw[a,JN hy (by assumption)]
  .repeat' first|refine ud ?_|(refine aT ?_;constructor<;>intro hc)
   refine Rt.pure (zM bD ?_);rw[a,JK (λm y b hy=>o m y (by omega) hy)]
 .repeat' first|refine ud ?_|(refine aT ?_;constructor<;>intro hc)
  all_goals(refine Rt.pure (zM bD ?_);simp[ji,h3])
theorem mf{A B:Prop}(k:B)(h:ar B->A:=by intro q7;(first|refine bA ?_|refine aA ?_|(refine' ah ?hc ?_;(case hc=>first|exact an8 _|exact QC _ _ _|exact aD7 _ (by assumption))));exact q7.1):A:=h ⟨k⟩
theorem pN(x:bW)(hs:x.tz.length<=1000000)(a:x.mz.length<=1000000):APure prog 129 [dj x] (bD (jS x)):=by
 refine ao func129 ntmps129 λf=>?_
 cases h1:aY x.name
 .repeat' first|refine mf ?_|(refine aT ?_;constructor<;>intro hc)
  all_goals(refine Rt.pure (zM bD ?_);simp[jS,h1])
 cases h2:cz x.tz.length 1 12
 .repeat' first|refine mf ?_|(refine aT ?_;constructor<;>intro hc)
  all_goals(refine Rt.pure (zM bD ?_);simp[jS,h2])
 cases h4:x.tz.all aY
 .repeat' first|refine mf ?_|(refine aT ?_;constructor<;>intro hc)
  all_goals(refine Rt.pure (zM bD ?_);simp only[jS,h4];simp)
 by_cases h3:x.mz.length<=32
 .have b:jS x=x.mz.all (b8 x.tz.length):=by simp only[jS,h1,h2,h4,h3];simp
  repeat refine mf ?_
  refine fW mixed ai (γ:=Nat) (λg=>[(3,iD g)]) (λ_=>[]) (λq=>q<=x.mz.length/\∀(m:Nat)y,m<q->x.mz[m]?=some y->b8 x.tz.length y=true) (λq=>x.mz.length-q) 0 rfl rfl ⟨by omega,λm y a=>by omega⟩ ?_;rintro q ⟨e,o⟩;by_cases hlt:q<x.mz.length
  .obtain⟨y,hy⟩:∃y,x.mz[(q:Int).toNat]?=some y:=⟨_,zD hlt⟩
   repeat' first|refine mf ?_|(refine aT ?_;constructor<;>intro hc)
   all_goals first
    |exact⟨q+1,rfl,rfl,⟨by omega,Jm o hy (by simp[b8, *])⟩,by omega⟩
    |(refine Rt.pure (zM bD ?_);rw[b,JN hy (by simp[b8, *])])
  .repeat' first|refine mf ?_|(refine aT ?_;constructor<;>intro hc)
   refine Rt.pure (zM bD ?_);rw[b,JK (λm y a hy=>o m y (by omega) hy)]
 .repeat' first|refine mf ?_|(refine aT ?_;constructor<;>intro hc)
  all_goals(refine Rt.pure (zM bD ?_);simp[jS,h3])
theorem aT1(r:cF):APure prog 130 [eH r] (bD (wn r)):=by
 refine ao func130 ntmps130 λa=>?_
 repeat' first|refine mf ?_|(refine aT ?_;constructor<;>intro hc)
 all_goals(refine Rt.pure (zM bD ?_);(try simp only[neE,oG]at *);simp[wn, *])
end
end Go.Proofs.YtilnpcolgcmofaaGreatDoor
