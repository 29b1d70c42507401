/- A part of the proof: Dc Pq Ll Dd De R09 R10c R10d R09b R09c. -/
import Derived.Test.YtilnpcolgcmofaaGreatDoorA13
set_option maxRecDepth 100000
set_option maxHeartbeats 20000000
set_option linter.all false
namespace Go.Proofs.YtilnpcolgcmofaaGreatDoor
open Tryz
section
open Go
def cO(n:Nat):Nat:=if n<=1 then 0 else if n<=4 then 1 else 2
theorem r5{n:Nat}(h:n<=16):n<=2 ^ cO n*2 ^ cO n:=by unfold cO;split;omega;split<;>simp<;>omega
theorem r6(n:Nat):cO n<=2:=by unfold cO;split;omega;split<;>omega
theorem Hp(n:Nat)(h:n<=16):APure prog 235 [iD n] (iD ((2 ^ cO n:Nat):Int)):=by
 refine ap func235 ntmps235 λi=>?_
 repeat refine aO ?_
 refine aR mixed ai (γ:=Nat) (λj=>[(3,iD ((2 ^ j:Nat):Int))]) (λ_=>[]) (λj=>j<=cO n) (λj=>cO n-j) 0 (aj av) (Sc.refl _) (zW _) ?_;intro j hj;have g:=r6 n;have S:cO n=if n<=1 then 0 else if n<=4 then 1 else 2:=rfl
 by_cases hjs:j<cO n
 .have a:j=0\/j=1:=by omega
  have f:2 ^ j*2 ^ j<n:=by
   rcases a with rfl|rfl
   .by_cases h1:n<=1
    .rw[if_pos h1]at S;omega
    .simp;omega
   .by_cases h1:n<=1
    .rw[if_pos h1]at S;omega
    .rw[if_neg h1]at S;by_cases h4:n<=4
     .rw[if_pos h4]at S;omega
     .simp;omega
  rcases a with rfl|rfl
  .simp only[Nat.pow_zero,Nat.mul_one]at f⊢
   repeat refine aO ?_
   exact⟨1,(aj av),Sc.refl _,by omega,by omega⟩
  .simp only[Nat.pow_one,Nat.reduceMul]at f⊢
   repeat refine aO ?_
   exact⟨2,(aj av),Sc.refl _,by omega,by omega⟩
 .obtain rfl:j=cO n:=by omega
  have k:=r5 h;have b:cO n=0\/cO n=1\/cO n=2:=by omega
  rcases b with e|e|e
  all_goals
   rw[e]at k⊢;simp only[Nat.pow_zero,Nat.pow_one,Nat.reducePow,Nat.reduceMul,Nat.mul_one]at k⊢
   repeat refine aO ?_
   refine Rt.pure (zM iD ?_)
   rfl
theorem tm2(a:Nat):((a:Nat):Int).tmod 2=((a%2:Nat):Int):=by rw[Int.tmod_eq_emod_of_nonneg (by omega)];omega
theorem R8(a:Nat):((a:Nat):Int).tdiv 2=((a/2:Nat):Int):=by rw[Int.tdiv_eq_ediv_of_nonneg (by omega)];omega
theorem Yt{p:Prop}(h:p:=by
 by_cases hq:A%2=B%2
 .rw[if_pos hq]at hxb
  repeat refine aO ?_
  exact⟨i+1,(aj av),Sc.refl _,by omega,by omega⟩
 .rw[if_neg hq]at hxb
  repeat refine aO ?_
  exact⟨i+1,(aj av),Sc.refl _,by omega,by omega⟩):p:=h
theorem N2(a b:Nat)(j:a<65536)(hb:b<65536):APure prog 262 [iD a,iD b] (iD ((a ^^^ b:Nat):Int)):=by
 refine ap func262 ntmps262 λs=>?_
 repeat refine aO ?_
 refine aR mixed ai (γ:=Nat) (λi=>[(0,iD ((a/2 ^ i:Nat):Int)),(1,iD ((b/2 ^ i:Nat):Int)),(5,iD (((a ^^^ b)%2 ^ i:Nat):Int)),(6,iD ((2 ^ i:Nat):Int))]) (λ_=>[]) (λi=>i<=16) (λi=>16-i) 0 (by simp only[Nat.pow_zero,Nat.div_one,Nat.mod_one];exact(aj av)) (Sc.refl _) (zW _) ?_;intro i hi;have o:2 ^ i<=65536:=Nat.pow_le_pow_right (n:=2) (by decide) hi;have g:a/2 ^ i<=a:=Nat.div_le_self _ _;have f:b/2 ^ i<=b:=Nat.div_le_self _ _;have hx:=vM (a ^^^ b) (show 0<2 ^ i from Nat.pow_pos (by decide));have t1:=tm2 (a/2 ^ i);have t2:=tm2 (b/2 ^ i);have t3:=R8 (a/2 ^ i);have t4:=R8 (b/2 ^ i);by_cases he:a/2 ^ i=0/\b/2 ^ i=0
 .have:=F0 he.1 he.2;obtain⟨l,k⟩:=he
  repeat refine aO ?_
  refine Rt.pure (zM iD ?_);rw[this]
 .have e:i<16:=by
   refine Classical.byContradiction λh=>he ?_;obtain rfl:i=16:=by omega
   exact⟨Nat.div_eq_of_lt j,Nat.div_eq_of_lt hb⟩
  have hxb:=F5 a b i;have l:a/2 ^ (i+1)=a/2 ^ i/2:=by rw[Nat.pow_succ,Nat.div_div_eq_div_mul]
  have k:b/2 ^ (i+1)=b/2 ^ i/2:=by rw[Nat.pow_succ,Nat.div_div_eq_div_mul]
  have r:2 ^ (i+1)=2*2 ^ i:=by rw[Nat.pow_succ,Nat.mul_comm]
  generalize a/2 ^ i=A at *;generalize b/2 ^ i=B at *;by_cases hA:0<A
  .exact Yt
  .have q:0<B:=by omega
   exact Yt
def Bg(sd:List Nat)(p:List Int)(b:Nat)(k r:Nat):Nat:=x1 sd p (65536*(k:Int)+(r:Int))%b
theorem sq(sd:List Nat)(p:List Int)(j:Nat)(k r:Nat):Bg sd p (2 ^ j) k r<2 ^ j:=vM _ (Nat.pow_pos (by decide))
theorem tmN(a b:Nat):((a:Nat):Int).tmod ((b:Nat):Int)=((a%b:Nat):Int):=by rw[Int.tmod_eq_emod_of_nonneg (by omega)];omega
theorem tdN(a b:Nat):((a:Nat):Int).tdiv ((b:Nat):Int)=((a/b:Nat):Int):=by rw[Int.tdiv_eq_ediv_of_nonneg (by omega)];simp
theorem NI{A B:Prop}(k:B)(h:ar B->A:=by intro q7;(first|refine bO ?_|refine aA ?_|(refine' ah ?hc ?_;(case hc=>first|exact HW|exact HX)));exact q7.1):A:=h ⟨k⟩
theorem N3(sd:List Nat)(hs:gb sd)(p:List Int)(z:x9 p)(j:Nat)(hj:j<=8)(x:Nat)(hx:x<2 ^ j*2 ^ j):APure prog 236 [cX sd,bj p,iD ((2 ^ j:Nat):Int),iD x] (iD ((ny (Bg sd p (2 ^ j)) (2 ^ j) x:Nat):Int)):=by
 have hb:2 ^ j<=256:=Nat.pow_le_pow_right (n:=2) (by decide) hj;have a:0<2 ^ j:=Nat.pow_pos (by decide);have o:=sq sd p j;have g:x/2 ^ j<2 ^ j:=Nat.div_lt_of_lt_mul hx;have f:x%2 ^ j<2 ^ j:=vM _ a;have y:=λk=>Z3 o k (p:=(x/2 ^ j,x%2 ^ j)) g f;have v:=tdN x (2 ^ j);have u:=tmN x (2 ^ j);have t:x<65536:=yI hx (by have:=Nat.mul_le_mul hb hb;omega);unfold ny;have e:∀k r,Bg sd p (2 ^ j) k r=x1 sd p (65536*(k:Int)+(r:Int))%2 ^ j:=λ_ _=>rfl;generalize Bg sd p (2 ^ j)=F at *;generalize 2 ^ j=B at *;have s:x/B<=x:=Nat.div_le_self _ _;have J:(ie F 0 (x/B,x%B)).1=x/B:=rfl;have I:(ie F 0 (x/B,x%B)).2=x%B:=rfl;refine ap func236 ntmps236 λM=>?_
 repeat refine NI ?_
 refine aR mixed ai (γ:=Nat) (λk=>[(9,iD (((ie F k (x/B,x%B)).1:Nat):Int)),(10,iD (((ie F k (x/B,x%B)).2:Nat):Int)),(11,iD k)]) (λ_=>[]) (λk=>k<=4) (λk=>4-k) 0 (aj av) (Sc.refl _) (zW _) ?_;intro k L;obtain⟨h1,h2⟩:=y k;have G:(ie F (k+1) (x/B,x%B)).1=(ie F k (x/B,x%B)).2:=rfl;have E:(ie F (k+1) (x/B,x%B)).2=(ie F k (x/B,x%B)).1 ^^^ F k (ie F k (x/B,x%B)).2:=rfl;by_cases hk4:k<4
 .generalize K:ie F k (x/B,x%B)=q at *;obtain⟨l,r⟩:=q;simp only at G E h1 h2⊢;have HW:=sw sd hs p z (65536*(k:Int)+(r:Int)) ⟨by omega,by omega⟩;have b:=e k r;have w:=tmN (x1 sd p (65536*(k:Int)+(r:Int))) B;rw[←b]at w;have i:=kg sd p (65536*(k:Int)+(r:Int));have D:=o k r;have HX:=N2 l (F k r) (by omega) (by omega);rw[←w]at HX
  repeat refine NI ?_
  exact⟨k+1,(aj av),Sc.refl _,by omega,by omega⟩
 .obtain rfl:k=4:=by omega
  generalize ie F 4 (x/B,x%B)=q at *;obtain⟨l,r⟩:=q;simp only at h1 h2⊢;have C:l*B<65536:=by have:=Nat.mul_lt_mul_of_lt_of_le h1 hb (by omega);omega
  have hc:((l*B:Nat):Int)=(l:Int)*(B:Int):=Int.natCast_mul l B
  repeat refine NI ?_
  refine Rt.pure (zM iD ?_);omega
theorem G2{A B:Prop}(k:B)(h:ar B->A:=by intro q7;(first|refine bO ?_|refine aA ?_|(refine' ah ?hc ?_;(case hc=>first|exact HS|exact HM)));exact q7.1):A:=h ⟨k⟩
theorem BD(sd:List Nat)(hs:gb sd)(p:List Int)(a:p.length<=8)(n:Int)(b:n<=65536):APure prog 191 [cX sd,bj p,iD n] (iD 0):=by
 have z:=j8 sd;have h1:=hs.n;refine ap func191 ntmps191 λe=>?_
 repeat refine G2 ?_
 refine Rt.pure (zM iD ?_)
 rfl
theorem mZ(sd:List Nat)(hs:gb sd)(p:List Int)(z:x9 p)(n:Nat)(s:n<=16)(i:Nat)(hi:i<n):∃v:Nat,v<n/\APure prog 192 [cX sd,bj p,iD n,iD i] (iD v):=by
 have HS:=Hp n s;have C:=r5 s;have hj:=r6 n;have F:=sq sd p (cO n);have M:=λx hx=>N3 sd hs p z (cO n) (by omega) x hx;have t:=λx(hx:x<2 ^ cO n*2 ^ cO n)=>Il F hx;have j:=λx y(hx:x<2 ^ cO n*2 ^ cO n)(hy:y<2 ^ cO n*2 ^ cO n)h=>CG F hx hy h;generalize ny (Bg sd p (2 ^ cO n)) (2 ^ cO n)=f at *;generalize 2 ^ cO n=b at *;generalize G:b*b=N at *;obtain⟨u,r,_,l⟩:=qK t j (x:=i) (by omega);obtain⟨k,_,⟨D,g⟩,a⟩:=xq (p:=λk=>0<k/\rx f k i<n) (k:=u) ⟨r,by rw[l];exact hi⟩;refine⟨rx f k i,g,?_⟩;have hit:=λq=>Rx t (x:=i) (by omega) q;have HM:=M i (by omega);refine ap func192 ntmps192 λI=>?_
 repeat refine G2 ?_
 refine aR mixed ai (γ:=Nat) (λq=>[(10,iD ((rx f q i:Nat):Int))]) (λ_=>[]) (λq=>1<=q/\q<=k) (λq=>k-q) 1 (aj aQ) (Sc.refl _) ⟨zT _,D⟩ ?_;rintro q ⟨e,w⟩;clear HM;by_cases hqk:q<k
 .have o:¬(0<q/\rx f q i<n):=a q hqk;have E:n<=rx f q i:=by
   refine Nat.le_of_not_lt λh=>o ⟨e,h⟩
  have HM:=M _ (hit q)
  repeat refine G2 ?_
  exact⟨q+1,(aj aQ),Sc.refl _,⟨by omega,by omega⟩,by omega⟩
 .obtain rfl:q=k:=by omega
  repeat refine G2 ?_
  refine Rt.pure (zM iD ?_)
  rfl
theorem bo0{A B:Prop}(k:B)(h:ar B->A:=by intro q7;(first|refine bO ?_|refine aA ?_|(refine' ah ?hc ?_;(case hc=>first|exact HG|exact HP)));exact q7.1):A:=h ⟨k⟩
theorem K5(sd:List Nat)(hs:gb sd)(p:List Int)(e:p.length<=8)(a:∀v∈p,cB v)(n:Nat)(f:n<=16)(i:Nat)(hi:i<n):∃v:Nat,v<n/\APure prog 148 [cX sd,bj p,iD n,iD i] (.tup [iD v,iD 0]):=by
 obtain⟨v,b,HP⟩:=mZ sd hs p ⟨by omega,a⟩ n f i hi;have HG:=BD sd hs p e n (by omega);refine⟨v,b,?_⟩;refine ap func148 ntmps148 λg=>?_
 repeat refine bo0 ?_
 exact Rt.pure rfl
end
section
def xz(lo h:Int)(n:Nat)(t:Int):Int:=max ((n/2:Nat)*lo) (t-(n-n/2:Nat)*h)
def za(lo h:Int)(n:Nat)(t:Int):Int:=min ((n/2:Nat)*h) (t-(n-n/2:Nat)*lo)
def jA(lo h:Int)(n:Nat)(t:Int):Prop:=(n:Int)*lo<=t/\t<=(n:Int)*h
theorem OH{lo i:Int}{n:Nat}{t:Int}(h:jA lo i n t)(l:lo<=i):xz lo i n t<=za lo i n t:=by
 obtain⟨b,a⟩:=h;have e:(n:Int)=(n/2:Nat)+(n-n/2:Nat):=by omega
 have c:((n/2:Nat):Int)*lo<=((n/2:Nat):Int)*i:=Int.mul_le_mul_of_nonneg_left l (by omega);have m:((n-n/2:Nat):Int)*lo<=((n-n/2:Nat):Int)*i:=Int.mul_le_mul_of_nonneg_left l (by omega);rw[e,Int.add_mul]at b a;unfold xz za;omega
theorem sS{lo h:Int}{n:Nat}{t x:Int}(b:xz lo h n t<=x)(a:x<=za lo h n t):jA lo h (n/2) x/\jA lo h (n-n/2) (t-x):=by
 unfold xz at b;unfold za at a;unfold jA;omega
structure ed(lo hi:Int)(n:Nat)(t:Int)(l:List Int):Prop where
 len:l.length=n
 sum:l.sum=t
 all:∀x∈l,lo<=x/\x<=hi
end
section
open Go
def dK:List (Nat×Nat):=[(0,8),(0,7),(0,6),(0,5),(0,4),(0,3),(0,2),(4,4),(2,2),(4,2),(6,2),(3,4),(1,2),(3,2),(5,2),(3,3),(2,3)]
def QN(k f n:Nat):List (Nat×Nat):=(List.range n).map λj=>(k,f+j)
def Bv(u:Nat)(l:List (Nat×Nat)):List (List Nat):=l.flatMap λp=>(List.range 8).map λi=>[u,p.1,p.2,i]
def EQ:List (Nat×Nat):=QN 0 1 5++QN 1 2 7++QN 2 2 8
def br8:List (List Nat):=[(1,1),(2,1),(2,2),(2,3),(2,4)].flatMap λp=>dK.map λq=>[2,p.1,p.2,0,q.1,q.2]
def bq2:List (List Nat):=[(1,2),(1,3),(2,2),(2,3)].flatMap λp=>(List.range 8).flatMap λj=>dK.map λq=>[8,p.1,p.2,j,q.1,q.2]
def hQ:List (List Nat):=Bv 4 EQ++Bv 6 EQ++Bv 3 EQ++Bv 7 (QN 0 1 6++QN 1 2 8)++br8++bq2
def an(q:Nat):List (List Nat):=(hQ.drop (4*q)).take 4
end
section
open Go
def ya(sd:List Nat)(p:List Int):Prop:=x1 sd p 0<281474976645120
theorem ya.drw{sd:List Nat}{p:List Int}(h:ya sd p){n:Int}(b:n≠0)(c:-65536<=n/\n<=65536):oR sd p n:=by
 refine⟨⟨b,by omega,by omega⟩,?_⟩;unfold ya at h;unfold Iy;have a:(281474976710656:Int).tmod n<65536:=by
  by_cases a:0<n
  .have:=Int.tmod_lt_of_pos 281474976710656 a;omega
  .have d:(281474976710656:Int).tmod n=(281474976710656:Int).tmod (-n):=by rw[Int.tmod_neg]
   have:=Int.tmod_lt_of_pos 281474976710656 (show 0 < -n by omega);omega
 omega
structure ry where
 seed:List Nat
 path:List Int
 total:Int
 n:Nat
 lo:Int
 hi:Int
abbrev spC(s:ry):List D:=[cX s.seed,bj s.path,iD s.total,iD s.n,iD s.lo,iD s.hi]
abbrev Nx(s:ry):D:=.agg (spC s)
structure lR(s:ry):Prop where
 sd:gb s.seed
 pl:s.path.length<=6
 pv:∀v∈s.path,cB v
 n:s.n<=8
 lo:0<=s.lo
 le:s.lo<=s.hi
 hi:s.hi<=100
 t:-1000000<=s.total/\s.total<=1000000
def oM(s:ry):Prop:=∀a n,(a,n)∈dK->ya s.seed (s.path++[(a:Int),(n:Int)])
theorem g6{n:Nat}(h:n<=8){z:Int}(b:0<=z)(a:z<=100):0<=(n:Int)*z/\(n:Int)*z<=800:=by
 have:n=0\/n=1\/n=2\/n=3\/n=4\/n=5\/n=6\/n=7\/n=8:=by omega
 rcases this with rfl|rfl|rfl|rfl|rfl|rfl|rfl|rfl|rfl<;>omega
def yi(s:ry):Int:=if(s.n:Int)*s.lo<=s.total/\s.total<=(s.n:Int)*s.hi then 0 else 5
theorem El{p:Prop}(h:p:=by
 refine ap func206 ntmps206 λBB=>?_
 repeat refine aO ?_
 refine Rt.pure (zM iD ?_)
 rfl):p:=h
theorem aX3(s:ry)(h:lR s):APure prog 206 [Nx s] (iD (yi s)):=by
 have h1:=h.sd.n;have z:=j8 s.seed;have h2:=h.pl;have h3:=h.n;have h4:=h.lo;have h5:=h.le;have a:=h.hi;have e:=g6 h3 h4 (by omega);have b:=g6 h3 (by omega:0<=s.hi) a;unfold yi;by_cases hf:(s.n:Int)*s.lo<=s.total/\s.total<=(s.n:Int)*s.hi
 .rw[if_pos hf];obtain⟨f1,f2⟩:=hf;exact El
 .rw[if_neg hf];by_cases f1:s.total<(s.n:Int)*s.lo
  .exact El
  .have f2:(s.n:Int)*s.hi<s.total:=by omega
   exact El
theorem C'(a b:Int):(if a<b then b else a)=max a b:=by split<;>omega
theorem sW(a b:Int):(if b<a then b else a)=min a b:=by split<;>omega
theorem bs1{s:ry}(h:lR s){a n:Nat}(d:a<=100)(c:n<=100):∀v∈s.path++[(a:Int),(n:Int)],cB v:=λv b=>by
 rcases zO.1 b with b|b
 .exact h.pv v b
 .simp only[zU,yF,xE]at b;rcases b with rfl|rfl<;>(constructor<;>omega)
theorem qo{a n:Nat}(h:(a,n)∈dK):a<=6/\2<=n/\n<=8:=by
 have:∀q∈dK,q.1<=6/\2<=q.2/\q.2<=8:=by decide
 exact this _ h
theorem NH{A B:Prop}(k:B)(h:ar B->A:=by intro q7;(first|refine bO ?_|refine aA ?_|(refine' ah ?hc ?_;(case hc=>exact HB)));exact q7.1):A:=h ⟨k⟩
theorem sv(s:ry)(h:lR s)(y:oM s)(a n:Nat)(k:(a,n)∈dK)(t:Int)(g:jA s.lo s.hi n t):∃x,APure prog 245 [Nx s,iD a,iD n,iD t] (iD x)/\xz s.lo s.hi n t<=x/\x<=za s.lo s.hi n t:=by
 obtain⟨F,E,j⟩:=qo k;have h2:=h.pl;have h4:=h.lo;have h5:=h.le;have i:=h.hi;have u:=g6 (n:=n/2) (by omega) h4 (by omega);have r:=g6 (n:=n/2) (by omega) (by omega:0<=s.hi) i;have q:=g6 (n:=n-n/2) (by omega) h4 (by omega);have o:=g6 (n:=n-n/2) (by omega) (by omega:0<=s.hi) i;have I:=g6 j h4 (by omega);have G:=g6 j (by omega:0<=s.hi) i;have hl:=OH g h5;have w:=g.1;have v:=g.2;have C:xz s.lo s.hi n t=if((n/2:Nat):Int)*s.lo<t-((n-n/2:Nat):Int)*s.hi then t-((n-n/2:Nat):Int)*s.hi else((n/2:Nat):Int)*s.lo:=(C' _ _).symm
 have z:za s.lo s.hi n t=if t-((n-n/2:Nat):Int)*s.lo<((n/2:Nat):Int)*s.hi then t-((n-n/2:Nat):Int)*s.lo else((n/2:Nat):Int)*s.hi:=(sW _ _).symm
 have c1:((n-n/2:Nat):Int)=(n:Int)-((n/2:Nat):Int):=by omega
 have e:(n:Int).tdiv 2=((n/2:Nat):Int):=R8 n;have K:0<=xz s.lo s.hi n t:=by unfold xz;omega
 have b2:za s.lo s.hi n t<=800:=by unfold za;omega
 have HB:=aH1 s.seed h.sd (s.path++[(a:Int),(n:Int)]) (by simp;omega) (bs1 h (by omega) (by omega)) _ _ (show MY (xz s.lo s.hi n t) (za s.lo s.hi n t) from⟨by omega,by omega,hl,by omega⟩) ((y a n k).drw (by omega) (by omega));have hx:=Fm (sd:=s.seed) (p:=s.path++[(a:Int),(n:Int)]) (n:=za s.lo s.hi n t-xz s.lo s.hi n t+1) (by omega);refine⟨_,?_,show xz s.lo s.hi n t<=fX s.seed (s.path++[(a:Int),(n:Int)]) (xz s.lo s.hi n t) (za s.lo s.hi n t) by unfold fX;omega,by unfold fX;omega⟩;generalize fX s.seed (s.path++[(a:Int),(n:Int)]) (xz s.lo s.hi n t) (za s.lo s.hi n t)=x at *;rw[C,z,c1,←e]at HB;rw[c1,←e]at q o;rw[←e]at u r;have d1:1<=(n:Int).tdiv 2/\(n:Int).tdiv 2<=4:=by rw[e];omega
 refine ap func245 ntmps245 λM=>?_
 repeat' first|refine NH ?_|intro b;conv=>whnf
 refine Ap.go rfl rfl rfl rfl (ae.e0 _ _ (some ⟨b,0,none⟩)) (bS _) (FE s.path) (zs:=s.path.map λn=>[iD n]) rfl (by simp;omega) (by simp;omega) (λl=>l) da (λL J D f=>?_)
 repeat' first|refine NH ?_|intro b;conv=>whnf
 refine Ap.frz rfl rfl rfl rfl f (bS _) rfl (zs:=(s.path++[(a:Int),(n:Int)]).map λn=>[iD n]) (by rw[yB];rfl) (by simp;omega) (by simp;omega) ?_
 repeat' first|refine NH ?_|intro b;conv=>whnf
 exact Rt.pure rfl
abbrev Kw:eF (List Int):=λl v s=>ae 3 1 (l.map λn=>[iD n]) v s
theorem nL{P:Program}{f:FuncId}{args:List D}{l:List Int}(h:az P f args [] (λd s=>∃v,d= .v v/\Kw l v s)):APure P f args (bj l):=
 APure.of_call (az.vs (az.imp h λd s⟨v,a,r⟩=>by rw[a];exact Rt.vs (Vs.row (τ:=[]) r (by simp))))
theorem nt{a n:Nat}(h:(a,n)∈dK):(n/2<=1\/(a,n/2)∈dK)/\(n-n/2<=1\/(a+n/2,n-n/2)∈dK):=by
 have:∀q∈dK,(q.2/2<=1\/(q.1,q.2/2)∈dK)/\(q.2-q.2/2<=1\/(q.1+q.2/2,q.2-q.2/2)∈dK):=by decide
 exact this _ h
theorem ld{s:ry}(h:lR s){n:Nat}(a:n<=8){t:Int}(f:jA s.lo s.hi n t):0<=t/\t<=800:=by
 have b:=g6 a h.lo (by have:=h.le;have:=h.hi;omega);have m:=g6 a (by have:=h.le;have:=h.lo;omega:0<=s.hi) h.hi;have:=f.1;have:=f.2;omega
def vO:=@List.sum_append
theorem ed.app{lo i:Int}{a b:Nat}{x y:Int}{l m:List Int}(h:ed lo i a x l)(k:ed lo i b y m){n:Nat}{t:Int}(e:a+b=n)(d:x+y=t):ed lo i n t (l++m):=
 ⟨by rw[zI,h.len,k.len,e],by rw[vO,h.sum,k.sum,d],λz c=>by
  rcases zO.1 c with c|c
  .exact h.all z c
  .exact k.all z c⟩
theorem bn9{A B:Prop}(k:B)(h:ar B->A:=by intro q7;(first|refine bO ?_|refine aA ?_|(refine' ah ?hc ?_;(case hc=>first|exact HL|exact HP2)));exact q7.1):A:=h ⟨k⟩
theorem NG{A B:Prop}(k:B)(h:ar B->A:=by intro q7;(first|refine bO ?_|refine mN ?_|(refine' ah ?hc ?_;(case hc=>first|exact HL|exact HP2)));exact q7.1):A:=h ⟨k⟩
theorem AN{A B:Prop}(k:B)(h:ar B->A:=by intro q7;(first|refine bO ?_|refine gX ?_|(refine' ah ?hc ?_;(case hc=>first|exact HL|exact HP2)));exact q7.1):A:=h ⟨k⟩
theorem aL1(s:ry)(h:lR s)(r:oM s):∀(f a n:Nat)(t:Int),n<=f->n<=8->a<=100->(n<=1\/(a,n)∈dK)->jA s.lo s.hi n t->∃l,ed s.lo s.hi n t l/\az prog 237 [Nx s,iD a,iD n,iD t] [] (λd σ=>∃v,d= .v v/\Kw l v σ)
 |0,a,n,t,h1,h2,G,h3,b=>by
  obtain rfl:n=0:=by omega
  have:=b.1;have:=b.2;have ht:t=0:=by simp at *;omega
  subst ht;refine⟨[],⟨rfl,rfl,by simp⟩,?_⟩;refine cP func237 ntmps237 λP=>?_
  repeat refine bn9 ?_
  exact Rt.same ⟨_,rfl,ae.nil _ _⟩
 |f+1,a,n,t,h1,h2,G,h3,b=>by
  by_cases hn0:n=0
  .exact aL1 s h r f a n t (by omega) h2 G h3 b
  by_cases D:n=1
  .subst D;have F:=b.1;have E:=b.2;refine⟨[t],⟨rfl,by simp,λz M=>by rw[zN]at M;subst M;simp at F E;omega⟩,?_⟩;refine cP func237 ntmps237 λP=>?_
   repeat refine NG ?_
   refine Bx.l ?_
   repeat refine NG ?_
   refine Bx.r ?_;refine La ai rfl rfl rfl rfl rfl rfl rfl rfl rfl rfl (by decide) (λY=>?_)
   repeat refine NG ?_
   exact Rt.same ⟨_,rfl,Ql (xs:=[[iD t]]) Y (by simp) (by show 1<=maxLen;decide)⟩
  have i:(a,n)∈dK:=h3.resolve_left (by omega);obtain⟨x,HL,C,y⟩:=sv s h r a n i t b;obtain⟨O,U⟩:=sS C y;obtain⟨R,Q⟩:=nt i;have b0:=ld h (by omega) b;have b1:=ld h (by omega) O;obtain⟨w,L,k⟩:=aL1 s h r f a (n/2) x (by omega) (by omega) G R O;obtain⟨q,K,o⟩:=aL1 s h r f (a+n/2) (n-n/2) (t-x) (by omega) (by omega) (by have:=qo i;omega) Q U;have HP2:=nL o;have T:=L.len;have S:=K.len;refine⟨w++q,L.app K (by omega) (by omega),?_⟩;have I:(n:Int).tdiv 2=((n/2:Nat):Int):=R8 n;have X:(a:Int)+(n:Int).tdiv 2=((a+n/2:Nat):Int):=by rw[I];omega
  have V:(n:Int)-(n:Int).tdiv 2=((n-n/2:Nat):Int):=by rw[I];omega
  rw[←I]at k;rw[←X,←V]at HP2;refine cP func237 ntmps237 λP=>?_
  repeat refine AN ?_
  refine ja ?_;refine jt mixed ai rfl [0,1,2,3,4,6,7,8,9,10,11,12,13,14,15,16,17] 4 (i8 [5,19]) (.one 5 (.fst 18 (.one 19 (.fst 20 .done)))) (γ:=Value×af) (λg=>[(8,.v g.1)]) (λg=>g.2) (λg=>Kw (w++q) g.1 g.2) (by decide +kernel) ?_ ?_
  .repeat refine AN ?_
   refine bc k (bS _) (λu=>u) da ?_;rintro _ s1 ⟨Z,rfl,j⟩;obtain⟨a1,c1,rfl⟩:=ae.slice j
   repeat refine AN ?_
   refine Ap.go rfl rfl rfl rfl j (bS _) (FE q) (zs:=(w++q).map λn=>[iD n]) (by rw[yB]) (by simp;omega) (by simp;omega) (λu=>u) da (λa5 c5 J e=>?_)
   repeat refine AN ?_
   exact⟨(_,J),(aj aQ),Sc.refl _,e⟩
  .rintro⟨v,J⟩ e
   repeat refine AN ?_
   exact Rt.same ⟨_,rfl,e⟩
theorem bn8{A B:Prop}(k:B)(h:ar B->A:=by intro q7;(first|refine bO ?_|refine aA ?_|(refine' ah ?hc ?_;(case hc=>first|exact HL|exact HO)));exact q7.1):A:=h ⟨k⟩
theorem Eg{p:Prop}(h:p:=by
 refine ap func207 ntmps207 λBB=>?_
 repeat refine bn8 ?_
 exact Rt.pure rfl):p:=h
theorem pJ(s:ry)(h:lR s)(u:oM s)(k:Nat)(w:k<=1000):∀(f a n:Nat)(t:Int),n<=f->1<=n->n<=8->a<=100->(n<=1\/(a,n)∈dK)->jA s.lo s.hi n t->∃x y,(s.lo<=x/\x<=s.hi)/\(0<=y/\y<=800*(n:Int))/\APure prog 207 [Nx s,iD a,iD n,iD t,iD k] (.tup [iD x,iD y])
 |0,a,n,t,h1,h0,h2,z,h3,e=>by omega
 |f+1,a,n,t,h1,h0,h2,z,h3,e=>by
  by_cases l:n=1
  .subst l;have r:=e.1;have o:=e.2;refine⟨t,0,by simp at r o;omega,by omega,?_⟩;exact Eg
  have b:(a,n)∈dK:=h3.resolve_left (by omega);obtain⟨x,HL,i,g⟩:=sv s h u a n b t e;obtain⟨C,I⟩:=sS i g;obtain⟨E,D⟩:=nt b;have M:=ld h (by omega) e;have L:=ld h (by omega) C;have v:(n:Int).tdiv 2=((n/2:Nat):Int):=R8 n;have K:(a:Int)+(n:Int).tdiv 2=((a+n/2:Nat):Int):=by rw[v];omega
  have J:(n:Int)-(n:Int).tdiv 2=((n-n/2:Nat):Int):=by rw[v];omega
  have G:=qo b;by_cases hka:k<a+n/2
  .obtain⟨p,q,j,F,HO⟩:=pJ s h u k w f a (n/2) x (by omega) (by omega) (by omega) z E C;refine⟨p,q,j,by omega,?_⟩;rw[←v]at HO;exact Eg
  .obtain⟨p,q,j,F,HO⟩:=pJ s h u k w f (a+n/2) (n-n/2) (t-x) (by omega) (by omega) (by omega) (by omega) D I;refine⟨p,q+x,j,by omega,?_⟩;rw[←K,←J]at HO;exact Eg
theorem bn7{A B:Prop}(k:B)(h:ar B->A:=by intro q7;(first|refine bO ?_|refine aA ?_|(refine' ah ?hc ?_;(case hc=>first|exact HV|exact HP)));exact q7.1):A:=h ⟨k⟩
theorem BC(s:ry)(h:lR s)(g:oM s)(e:yi s=0):∃l,ed s.lo s.hi s.n s.total l/\APure prog 194 [Nx s] (.tup [bj l,iD 0]):=by
 have HV:=aX3 s h;rw[e]at HV;have f:jA s.lo s.hi s.n s.total:=by
  unfold yi at e;split at e
  .assumption
  .omega
 have a:=h.n;obtain⟨l,b,o⟩:=aL1 s h g s.n 0 s.n s.total (zT _) a (by omega) (by
  have:∀n,n<=8->(n<=1\/(0,n)∈dK):=by decide
  exact this _ a) f
 have HP:=nL o;refine⟨l,b,?_⟩;refine ap func194 ntmps194 λi=>?_
 repeat refine bn7 ?_
 exact Rt.pure rfl
theorem bn6{A B:Prop}(k:B)(h:ar B->A:=by intro q7;(first|refine bO ?_|refine aA ?_|(refine' ah ?hc ?_;(case hc=>first|exact HV|exact HO)));exact q7.1):A:=h ⟨k⟩
theorem tt{p:Prop}(h:p:=by
 refine ap func157 ntmps157 λBB=>?_
 repeat refine bn6 ?_
 exact Rt.pure rfl):p:=h
theorem Ho(s:ry)(h:lR s)(i:oM s)(k:Int)(l:-1000<=k/\k<=1000):∃v e,(0<=v/\v<=s.hi)/\(e=0\/e=5\/e=6)/\APure prog 157 [Nx s,iD k] (.tup [iD v,iD e]):=by
 have HV:=aX3 s h;have o:=h.lo;have f:=h.le;by_cases he:yi s=0
 .rw[he]at HV;have g:jA s.lo s.hi s.n s.total:=by
   unfold yi at he;split at he
   .assumption
   .omega
  have b:=h.n;by_cases hkn:0<=k/\k<s.n
  .obtain⟨j,rfl⟩:∃j:Nat,k=j:=⟨k.toNat,by omega⟩
   obtain⟨x,y,hx,hy,HO⟩:=pJ s h i j (by omega) s.n 0 s.n s.total (zT _) (by omega) b (by omega) (by
    have:∀n,n<=8->(n<=1\/(0,n)∈dK):=by decide
    exact this _ b) g
   refine⟨x,0,by omega,.inl rfl,?_⟩;exact tt
  .refine⟨0,6,by omega,.inr (.inr rfl),?_⟩;by_cases hk0:k<0
   .exact tt
   .have:(s.n:Int)<=k:=by omega
    exact tt
 .have a:yi s=5:=by unfold yi at *;split at he<;>simp_all
  rw[a]at HV;refine⟨0,5,by omega,.inr (.inl rfl),?_⟩;exact tt
end
section
open Go
structure tQ where
 seed:List Nat
 path:List Int
 from_:Nat
 to:Nat
 lo:Int
 hi:Int
abbrev rlC(r:tQ):List D:=[cX r.seed,bj r.path,iD r.from_,iD r.to,iD r.lo,iD r.hi]
abbrev QF(r:tQ):D:=.agg (rlC r)
def tQ.spt(r:tQ):ry:=⟨r.seed,r.path++[0],r.from_,r.to,r.lo,r.hi⟩
structure lS(r:tQ):Prop where
 sd:gb r.seed
 pl:r.path.length<=5
 pv:∀v∈r.path,cB v
 fr:r.from_<=8
 to:r.to<=8
 lo:0<=r.lo
 le:r.lo<=r.hi
 hi:r.hi<=100
theorem lS.spt{r:tQ}(h:lS r):lR r.spt:=
 ⟨h.sd,by have:=h.pl;simp[tQ.spt];omega,λv a=>by
  rcases zO.1 a with a|a
  .exact h.pv v a
  .rw[zN]at a;subst a;exact⟨by omega,by omega⟩,h.to,h.lo,h.le,h.hi,by have:=h.fr;simp[tQ.spt];omega⟩
theorem aO0(r:tQ)(h:lS r):APure prog 195 [QF r] (Nx r.spt):=by
 have h2:=h.pl;refine ap func195 ntmps195 λi=>?_
 repeat' first|refine aO ?_|intro b;conv=>whnf
 refine Ap.go rfl rfl rfl rfl (ae.nil _ _) (show List.Perm _ ([]++_) from zH _) (FE r.path) (zs:=r.path.map λn=>[iD n]) rfl (by simp;omega) (by simp;omega) (λs=>s++_) (λs=>zH _) (λg f e a=>?_)
 repeat' first|refine aO ?_|intro b;conv=>whnf
 refine Ap.frz rfl rfl rfl rfl a (zH _) rfl (zs:=(r.path++[0]).map λn=>[iD n]) (by rw[yB];rfl) (by simp;omega) (by simp;omega) ?_
 repeat' first|refine aO ?_|intro b;conv=>whnf
 exact Rt.pure rfl
theorem bn5{A B:Prop}(k:B)(h:ar B->A:=by intro q7;(first|refine bO ?_|refine aA ?_|(refine' ah ?hc ?_;(case hc=>first|exact HS|exact HV)));exact q7.1):A:=h ⟨k⟩
theorem be8(r:tQ)(h:lS r):APure prog 193 [QF r] (iD (yi r.spt)):=by
 have h2:=h.pl;have h3:=h.fr;have h4:=h.lo;have HS:=aO0 r h;have HV:=aX3 r.spt h.spt;refine ap func193 ntmps193 λa=>?_
 repeat refine bn5 ?_
 refine Rt.pure (zM iD ?_)
 rfl
theorem NF{A B:Prop}(k:B)(h:ar B->A:=by intro q7;(first|refine bO ?_|refine aA ?_|(refine' ah ?hc ?_;(case hc=>exact HP)));exact q7.1):A:=h ⟨k⟩
theorem BR(r:tQ)(h:lS r)(i:Nat)(hi:i<r.from_):∃v:Nat,v<r.from_/\APure prog 196 [QF r,iD i] (iD v):=by
 have h2:=h.pl;have h3:=h.fr;obtain⟨v,a,HP⟩:=mZ r.seed h.sd (r.path++[1]) ⟨by simp;omega,λv a=>by
  rcases zO.1 a with a|a
  .exact h.pv v a
  .rw[zN]at a;subst a;exact⟨by omega,by omega⟩⟩ r.from_ (by omega) i hi
 refine⟨v,a,?_⟩;refine ap func196 ntmps196 λj=>?_
 repeat refine NF ?_
 refine Ap.go rfl rfl rfl rfl (ae.nil _ _) (show List.Perm _ ([]++_) from zH _) (FE r.path) (zs:=r.path.map λn=>[iD n]) rfl (by simp;omega) (by simp;omega) (λs=>s++_) (λs=>zH _) (λg f e b=>?_)
 repeat refine NF ?_
 refine Ap.frz rfl rfl rfl rfl b (zH _) rfl (zs:=(r.path++[1]).map λn=>[iD n]) (by rw[yB];rfl) (by simp;omega) (by simp;omega) ?_
 repeat refine NF ?_
 refine Rt.pure (zM iD ?_)
 rfl
theorem Ax(s:ry):yi s=0\/yi s=5:=by unfold yi;split<;>simp
theorem vi{lo c:Int}{n:Nat}{t:Int}{l:List Int}(h:ed lo c n t l)(p:0<=lo)(j:c<=100)(k:n<=8)(i:Nat):0<=(l.take i).sum/\(l.take i).sum<=800:=by
 have:∀m:List Int,(∀z∈m,0<=z/\z<=100)->0<=m.sum/\m.sum<=100*(m.length:Int):=by
  intro m b
  induction m with
  |nil=>simp
  |cons a m d=>
   have j:=b a yN;have g:=d λw f=>b w (yQ _ f);rw[List.sum_cons,List.length_cons];omega
 have g:=this (l.take i) (λz e=>by have:=h.all z (xG e);omega);have o:(l.take i).length<=l.length:=by rw[zR];omega
 have:=h.len;omega
theorem AM{A B:Prop}(k:B)(h:ar B->A:=by intro q7;(first|refine bO ?_|refine aA ?_|(refine' ah ?hc ?_;(case hc=>first|exact HV|exact HS|exact HA|exact HU)));exact q7.1):A:=h ⟨k⟩
theorem aT1(r:tQ)(h:lS r)(F:oM r.spt)(ht:1<=r.to)(i:Nat)(hi:i<r.from_):∃(j:Nat)(u e:Int),j<r.to/\(0<=u/\u<=100)/\APure prog 149 [QF r,iD i] (.tup [iD j,iD u,iD e]):=by
 have h3:=h.fr;have K:=h.to;have HV:=be8 r h;rcases Ax r.spt with s|s
 .rw[s]at HV;have HS:=aO0 r h;obtain⟨l,b,HA⟩:=BC r.spt h.spt F s;obtain⟨v,I,HU⟩:=BR r h i hi;have hl:l.length=r.to:=b.len;have g:l.sum=(r.from_:Int):=b.sum;have a:=vi b h.lo h.hi h.to;obtain⟨j,E,(D:(v:Int)<(l.take (j+1)).sum),o⟩:=xq (p:=λk=>(v:Int)<(l.take (k+1)).sum) (k:=l.length-1) (by
   show(v:Int)<(l.take (l.length-1+1)).sum;rw[show l.length-1+1=l.length by omega,yM,g];omega)
  have w:(l.take j).sum<=v:=by
   cases j with
   |zero=>simp
   |succ j=>
    have:¬(v:Int)<(l.take (j+1)).sum:=o j (by omega);omega
  refine⟨j,v-(l.take j).sum,0,by omega,by have:=a j;omega,?_⟩;have e0:(l.take 0).sum=0:=rfl;refine ap func149 ntmps149 λG=>?_
  repeat refine AM ?_
  refine aR mixed ai (γ:=Nat) (λq=>[(10,iD ((v:Int)-(l.take q).sum)),(11,iD q)]) (λ_=>[]) (λq=>q<=j) (λq=>j-q) 0 (aj av) (Sc.refl _) (zW _) ?_;intro q J;obtain⟨y,f⟩:∃y,l[q]?=some y:=⟨_,zD (by omega)⟩
  have hy:l[((q:Nat):Int).toNat]?=some y:=f;have t:=aN1 f;have z:=a q;have x:=a (q+1);by_cases hqj:q<j
  .have C:¬(v:Int)<(l.take (q+1)).sum:=o q hqj
   repeat refine AM ?_
   exact⟨q+1,(aj av),Sc.refl _,by omega,by omega⟩
  .obtain rfl:q=j:=by omega
   repeat refine AM ?_
   exact Rt.pure rfl
 .rw[s]at HV;refine⟨0,0,5,by omega,by omega,?_⟩;refine ap func149 ntmps149 λG=>?_
  repeat refine AM ?_
  exact Rt.pure rfl
theorem Ef{p:Prop}(h:p:=by
 refine ap func155 ntmps155 λBB=>?_
 repeat refine AM ?_
 exact Rt.pure rfl):p:=h
theorem aT2(r:tQ)(h:lS r)(f:oM r.spt)(j:Nat)(hj:j<=1000):∃(d e:Int),(0<=d/\d<=r.hi)/\APure prog 155 [QF r,iD j] (.tup [iD d,iD e]):=by
 have HV:=be8 r h;have h4:=h.lo;have h5:=h.le;rcases Ax r.spt with b|b
 .rw[b]at HV;by_cases hjt:j<r.to
  .have HS:=aO0 r h;obtain⟨l,k,HA⟩:=BC r.spt h.spt f b;have hl:l.length=r.to:=k.len;obtain⟨y,a⟩:∃y,l[j]?=some y:=⟨_,zD (by omega)⟩
   have hy:l[((j:Nat):Int).toNat]?=some y:=a;have hb:r.lo<=y/\y<=r.hi:=k.all y (zG a);refine⟨y,0,by omega,?_⟩;exact Ef
  .refine⟨0,6,by omega,?_⟩;exact Ef
 .rw[b]at HV;refine⟨0,5,by omega,?_⟩;exact Ef
end
section
open Go
theorem XU{p:Prop}(h:p:=by
 repeat' first|refine ao ?_|(refine aV ?_;constructor<;>intro hc)
 all_goals(refine Rt.pure (zM bD ?_);first|(simp[cA, *];done)|(simp[cA];omega))):p:=h
theorem Q0(n a b:Int):APure prog 127 [iD n,iD a,iD b] (bD (cA n a b)):=by
 refine ap func127 ntmps127 λe=>?_;exact XU
theorem XV{p:Prop}(h:p:=by
 repeat' first|refine ao ?_|(refine aV ?_;constructor<;>intro hc)
 all_goals(refine Rt.pure (zM bD ?_);first|(simp[lG, *];done)|(simp[lG];omega))):p:=h
theorem az7(lo hi a b:Int):APure prog 173 [iD lo,iD hi,iD a,iD b] (bD (lG lo hi a b)):=by
 refine ap func173 ntmps173 λe=>?_;exact XV
theorem XW{p:Prop}(h:p:=by
 repeat' first|refine ao ?_|(refine aV ?_;constructor<;>intro hc)
 all_goals(refine Rt.pure (zM bD ?_);first|(simp[JF, *];done)|(simp[JF];omega))):p:=h
theorem aT4(c:UInt8):APure prog 226 [.v (.int .u8 c.toNat)] (bD (JF c)):=by
 refine ap func226 ntmps226 λa=>?_;exact XW
theorem XX{p:Prop}(h:p:=by
 repeat' first|refine ao ?_|(refine aV ?_;constructor<;>intro hc)
 all_goals(refine Rt.pure (zM bD ?_);first|(simp[n4, *];done)|(simp[n4];omega))):p:=h
theorem bf5(c:UInt8):APure prog 227 [.v (.int .u8 c.toNat)] (bD (n4 c)):=by
 refine ap func227 ntmps227 λa=>?_;exact XX
def vT:=@List.all_eq_false
theorem J'{α:Type}{p:α->Bool}{l:List α}{q:Nat}{y:α}(a:l[q]?=some y)(h:p y=false):l.all p=false:=by
 rw[vT];exact⟨y,zG a,by simp[h]⟩
theorem J7{α:Type}{p:α->Bool}{l:List α}(h:∀(m:Nat)y,m<l.length->l[m]?=some y->p y=true):l.all p=true:=by
 rw[yA];intro y b;obtain⟨m,a⟩:=yO b;exact h m y (zE.1 a).1 a
theorem JQ{α:Type}{p:α->Bool}{l:List α}{q:Nat}{y:α}(o:∀(m:Nat)y,m<q->l[m]?=some y->p y=true)(b:l[q]?=some y)(h:p y=true):∀(m:Nat)y,m<q+1->l[m]?=some y->p y=true:=by
 intro m z c a;by_cases e:m=q
 .subst e;rw[b]at a;cases a;exact h
 .exact o m z (by omega) a
theorem ZJ(s:ByteArray):(bytes s).length=s.size:=by unfold bytes;simp
theorem AL{A B:Prop}(k:B)(h:ar B->A:=by intro q7;(first|refine bC ?_|refine aA ?_|(refine' ah ?hc ?_;(case hc=>first|exact aT4 _|exact bf5 _|exact Q0 _ _ _|exact az7 _ _ _ _)));exact q7.1):A:=h ⟨k⟩
theorem XY{p:Prop}(h:p:=by
 unfold aZ;rw[hw];have hc1:(bytes s)[0]?=some c:=hc0
 cases hb:bytes s with
 |nil=>rw[hb]at h0;simp at h0
 |cons d r=>rw[hb]at hc1;simp at hc1;subst hc1;simp):p:=h
theorem an8(s:ByteArray):APure prog 172 [sD s] (bD (aZ s)):=by
 refine ap func172 ntmps172 λi=>?_;by_cases hs:1<=s.size/\s.size<=12
 .have hw:cA s.size 1 12=true:=by simp[cA];omega
  have h0:0<(bytes s).length:=by rw[ZJ];omega
  obtain⟨c,hc0⟩:∃c,(bytes s)[(0:Int).toNat]?=some c:=⟨_,zD h0⟩
  have b:aZ s=(JF c&&(bytes s).all eV):=XY
  cases t:JF c with
  |false=>
   repeat' first|refine AL ?_|(refine aV ?_;constructor<;>intro hc)
   all_goals(refine Rt.pure (zM bD ?_);rw[b,t];rfl)
  |true=>
   repeat' first|refine AL ?_|(refine aV ?_;constructor<;>intro hc)
   refine fZ mixed ai (γ:=Nat) (λg=>[(3,iD g)]) (λ_=>[]) (λq=>q<=s.size/\∀(m:Nat)y,m<q->(bytes s)[m]?=some y->eV y=true) (λq=>s.size-q) 0 rfl rfl ⟨by omega,λm y e=>by omega⟩ ?_;rintro q ⟨f,o⟩;by_cases hlt:q<s.size
   .obtain⟨y,hy⟩:∃y,(bytes s)[(q:Int).toNat]?=some y:=⟨_,zD (by rw[ZJ];simpa using hlt)⟩
    have a:(bytes s)[q]?=some y:=hy
    repeat' first|refine AL ?_|(refine aV ?_;constructor<;>intro hc)
    all_goals first
     |exact⟨q+1,rfl,rfl,⟨by omega,JQ o a (by simp[eV, *])⟩,by omega⟩
     |(refine Rt.pure (zM bD ?_);rw[b,J' a (by simp[eV, *]),wW])
   .repeat' first|refine AL ?_|(refine aV ?_;constructor<;>intro hc)
    refine Rt.pure (zM bD ?_);rw[b,t,J7 (λm y e hy=>o m y (by rw[ZJ]at e;omega) hy)];rfl
 .have b:aZ s=false:=by
   have hw:cA s.size 1 12=false:=by simp[cA];omega
   unfold aZ;rw[hw];simp
  repeat' first|refine AL ?_|(refine aV ?_;constructor<;>intro hc)
  all_goals first|(exfalso;omega)|(refine Rt.pure (zM bD ?_);exact b.symm)
theorem G1{A B:Prop}(k:B)(h:ar B->A:=by intro q7;(first|refine bC ?_|refine aA ?_|(refine' ah ?hc ?_;(case hc=>exact an8 _)));exact q7.1):A:=h ⟨k⟩
theorem aE0(l:List ByteArray)(hl:l.length<=1000000):APure prog 175 [gI l] (bD (l.all aZ)):=by
 refine ap func175 ntmps175 λe=>?_
 repeat' first|refine G1 ?_|refine ba.mk λy hy=>?_
 refine fZ mixed ai (γ:=Nat) (λg=>[(3,iD g)]) (λ_=>[]) (λq=>q<=l.length/\∀(m:Nat)y,m<q->l[m]?=some y->aZ y=true) (λq=>l.length-q) 0 rfl rfl ⟨by omega,λm y a=>by omega⟩ ?_;rintro q ⟨b,o⟩
 repeat' first|refine G1 ?_|refine ba.mk λy hy=>?_|(refine aV ?_;constructor<;>intro hc)
 .exact⟨q+1,rfl,rfl,⟨by omega,JQ o hy (by assumption)⟩,by omega⟩
 .refine Rt.pure (zM bD ?_);rw[J' hy (by assumption)]
 .refine Rt.pure (zM bD ?_);rw[J7 (λm y a hy=>o m y (by omega) hy)]
def zB(k:Int):D:=.tup [bD (im k),bD (io k),bD (iU k),bD (il k),bD (eu k)]
theorem lK(k:Int):APure prog 228 [iD k] (zB k):=by
 refine ap func228 ntmps228 λo=>?_;by_cases h:k=0\/k=1\/k=2\/k=3\/k=4\/k=5\/k=6\/k=7\/k=8
 .rcases h with h|h|h|h|h|h|h|h|h
  all_goals
   repeat refine G1 ?_
   refine Rt.pure ?_;subst h;rfl
 .have l:¬k=0:=by omega
  have j:¬k=1:=by omega
  have i:¬k=2:=by omega
  have g:¬k=3:=by omega
  have f:¬k=4:=by omega
  have e:¬k=5:=by omega
  have b:¬k=6:=by omega
  have a:¬k=7:=by omega
  have n:¬k=8:=by omega
  repeat refine G1 ?_
  refine Rt.pure ?_
  show D.tup [bD (decide (k=8)),bD (decide (k=8)),bD (decide (k=0)),bD (decide (k=7)),bD (decide (k=3))]=_;simp[zB,im,io,iU,il,eu,l,j,i,g,f,e,b,a,n]
theorem uE{A B:Prop}(k:B)(h:ar B->A:=by intro q7;(first|refine bC ?_|refine aA ?_|(refine' ah ?hc ?_;(case hc=>first|exact Q0 _ _ _|exact aE0 _ (by assumption))));exact q7.1):A:=h ⟨k⟩
theorem aT6(f:am)(w:f.words.length<=1000000)(t:f.wz.length<=1000000):APure prog 229 [bP f] (bD (oB f.words f.wz)):=by
 refine ap func229 ntmps229 λv=>?_
 repeat refine uE ?_
 refine fZ mixed ai (γ:=Nat×Int) (λg=>[(3,iD g.2),(4,iD g.1)]) (λ_=>[]) (λg=>g.1<=f.wz.length/\g.2=(f.wz.take g.1).sum/\(∀(m:Nat)y,m<g.1->f.wz[m]?=some y->cA y 0 1048576=true)/\0<=g.2/\g.2<=1048576*g.1) (λg=>f.wz.length-g.1) (0,0) rfl rfl ⟨by omega,by simp,λm y s=>by omega,by simp,by simp⟩ ?_;rintro⟨q,u⟩ ⟨k,i,o,b,a⟩;simp only at k i o b a⊢;by_cases hlt:q<f.wz.length
 .obtain⟨y,hy⟩:∃y,f.wz[q]?=some y:=⟨_,zD hlt⟩
  have j:(f.wz.take (q+1)).sum=(f.wz.take q).sum+y:=by
   rw[xC,hy];simp
  cases h1:cA y 0 1048576 with
  |true=>
   have r:0<=y/\y<=1048576:=by simpa [cA]using h1
   repeat' first|refine uE ?_|(refine aV ?_;constructor<;>intro hc)
   exact⟨(q+1,u+y),rfl,rfl,⟨by simp only;omega,by simp only;omega,JQ o hy h1,by simp only;omega,by simp only;omega⟩,by simp only;omega⟩
  |false=>
   repeat' first|refine uE ?_|(refine aV ?_;constructor<;>intro hc)
   all_goals(refine Rt.pure (zM bD ?_);simp only[oB,J' (p:=λn=>cA n 0 1048576) hy h1];simp)
 .obtain rfl:q=f.wz.length:=by omega
  have l:f.wz.all (λn=>cA n 0 1048576)=true:=J7 o;rw[yM]at i;have e:oB f.words f.wz=(cA f.words.length 1 12&&decide (f.words.length=f.wz.length)&&decide (0<f.wz.sum)&&f.words.all aZ):=by simp[oB,l]
  rw[←i]at e;clear i o b a l k hlt;by_cases e2:f.words.length=f.wz.length
  .by_cases e3:0<u
   .repeat' first|refine uE ?_|(refine aV ?_;constructor<;>intro hc)
    all_goals(refine Rt.pure (zM bD ?_);rw[e];simp_all)
   .rw[yE e3]at e
    repeat' first|refine uE ?_|(refine aV ?_;constructor<;>intro hc)
    all_goals(refine Rt.pure (zM bD ?_);rw[e];simp)
  .repeat' first|refine uE ?_|(refine aV ?_;constructor<;>intro hc)
   all_goals(refine Rt.pure (zM bD ?_);rw[e,yE e2];simp)
end
section
open Go
theorem Z0:Le (.agg [sD ⟨#[]⟩,sD ⟨#[]⟩,sD ⟨#[]⟩,iD 0,iD 0,iD 0,.v (.slice none 0 0),.v (.slice none 0 0)]) (bP x2):=
 qy (fT.cons (Le.refl _) (fT.cons (Le.refl _) (fT.cons (Le.refl _) (fT.cons (Le.refl _) (fT.cons (Le.refl _) (fT.cons (Le.refl _) (fT.cons (gw _) (fT.cons (gw _) fT.nil))))))))
theorem rJ{x:ak}{i j:Int}{f:am}(h:aI x i j<0):gU x i j f=none:=by simp[gU,h]
theorem rK{x:ak}{i j:Int}{f:am}{k:au}(h:¬aI x i j<0)(a:x.kz[(aI x i j).toNat]?=some k):gU x i j f=fieldAt x (aI x i j) (a7 k f.of):=by
 have:dw x (aI x i j)=some k:=by unfold dw;rw[if_pos (by omega)];exact a
 simp only[gU,this];rw[if_neg h]
theorem rI(x:ak)(i j:Int):aI x i j<x.kz.length:=by
 by_cases h:0<=aI x i j
 .obtain⟨o,k,b,a⟩:=kt x i j h;have:=(zE.1 a).1;omega
 .omega
theorem Si{A B:Prop}(k:B)(h:ar B->A:=by intro q7;(first|refine bC ?_|refine aA ?_|(refine' ah ?hc ?_;(case hc=>first|exact EX _ _ (by assumption)|exact xu _ _ (by assumption)|exact Qn _ _ _ (by assumption) (by assumption))));exact q7.1):A:=h ⟨k⟩
theorem bf3(x:ak)(i j:Int)(f:am)(hl:x.kz.length<=1000000)(r:∀k∈x.kz,k.fields.length<=1000000)(g:fieldAt x i j=some f):APure prog 179 [ax x,iD i,iD j] (.tup [iD (cq x i j f).1,bP (cq x i j f).2]):=by
 refine ap func179 ntmps179 λt=>?_;obtain⟨h0,h1,k,s,n⟩:=Fv g;have l:=rI x i j;by_cases hu:aI x i j<0
 .have ht:cq x i j f=(-1,x2):=by simp[cq,rJ hu]
  repeat' first|refine Si ?_|intro b;conv=>whnf|refine ba.mk λy hy=>?_|(refine aV ?_;constructor<;>intro hc)
  rw[ht];exact Rt.vs (Vs.tup (fc.cons (Vs.refl _ _) (fc.cons (Vs.le Z0) (fc.nil _))))
 .obtain⟨a,o⟩:∃a,x.kz[(aI x i j).toNat]?=some a:=⟨_,zD (by omega)⟩
  have q:=r a (zG o);have e:=rK (f:=f) hu o;have p:=ME a f.of
  repeat' first|refine Si ?_|intro b;conv=>whnf|refine ba.mk λy hy=>?_|(refine aV ?_;constructor<;>intro hc)
  .have ht:cq x i j f=(-1,x2):=by simp only[cq,e,al8 (x:=x) (i:=aI x i j) (j:=a7 a f.of) (by omega)]
   rw[ht];exact Rt.vs (Vs.tup (fc.cons (Vs.refl _ _) (fc.cons (Vs.le Z0) (fc.nil _))))
  .have ht:cq x i j f=(y.kind,y):=by simp only[cq,e,Ka (x:=x) (i:=aI x i j) (j:=a7 a f.of) (by omega) (by omega) o,hy]
   rw[ht];exact Rt.vs (Vs.refl _ _)
end
section
open Go
theorem bn4{A B:Prop}(k:B)(h:ar B->A:=by intro q7;(first|refine bC ?_|refine aA ?_|(refine' ah ?hc ?_;(case hc=>first|exact EX _ _ (by assumption)|exact bf3 _ _ _ _ (by assumption) (by assumption) (by assumption))));exact q7.1):A:=h ⟨k⟩
theorem bf2(x:ak)(i j up:Int)(f:am)(hl:x.kz.length<=1000000)(l:∀k∈x.kz,k.fields.length<=1000000)(a:fieldAt x i j=some f):APure prog 133 [ax x,iD i,iD j,iD up] (iD (FG x i j f up)):=by
 refine ap func133 ntmps133 λn=>?_;obtain⟨h0,h1,k,g,e⟩:=Fv a
 repeat' first|refine bn4 ?_|intro b;conv=>whnf|(refine aV ?_;constructor<;>intro hc)
 all_goals(refine Rt.pure (zM iD ?_);unfold FG;(repeat' split)<;>first|rfl|omega)
theorem oW(s:ByteArray):(s.toList==(⟨#[]⟩:ByteArray).toList)=dG s:=by
 unfold dG;have:(⟨#[]⟩:ByteArray).toList=[]:=by rw[ByteArray.toList_eq]
 rw[this]
 cases s.toList<;>rfl
theorem Sh{A B:Prop}(k:B)(h:ar B->A:=by intro q7;(first|refine bC ?_|refine aA ?_|(refine' ah ?hc ?_;(case hc=>first|exact xu _ _ (by assumption)|exact Qn _ _ _ (by assumption) (by assumption)|exact aX4 _ _ _ _ (by assumption) (by assumption) (by assumption)|exact bf2 _ _ _ _ _ (by assumption) (by assumption) (by assumption))));exact q7.1):A:=h ⟨k⟩
theorem X9{p:Prop}(h:p:=by
 exact⟨q+1,rfl,rfl,⟨by omega,λm z hm hz=>by
  by_cases e:m=q
  .subst e;rw[show((m:Int)).toNat=m from rfl,hz]at hy;cases hy;assumption
  .exact hno m z (by omega) hz⟩,by omega⟩):p:=h
theorem bf0(x:ak)(i j:Int)(f:am)(hl:x.kz.length<=1000000)(u:∀k∈x.kz,k.fields.length<=1000000)(o:x.lz.length<=1000000)(g:fieldAt x i j=some f):APure prog 86 [ax x,iD i,iD j] (iD (cM x i j f)):=by
 refine ap func86 ntmps86 λw=>?_;obtain⟨h0,h1,k,n,r⟩:=Fv g;have t:=u k (zG n);have a:dw x i=some k:=by simp[dw,h0,n]
 have s:=ME k f.of
 repeat' first|refine Sh ?_|intro b;conv=>whnf|refine ba.mk λy hy=>?_|(refine aV ?_;constructor<;>intro hc)
 all_goals try
  (refine Rt.pure (zM iD ?_);(try simp only[oW,zL,zR,zI,List.length_cons,List.length_nil,zY,Nat.reduceAdd]at *);unfold cM;(repeat' split)<;>first|rfl|omega|(unfold qI;rw[a];(repeat' split)<;>first|rfl|omega|(simp_all;done)|(simp_all;omega)))
 have U:cM x i j f=if x.lz.any (λl=>seq l.name f.of)then 0 else 12:=by
  unfold cM;rw[if_neg (by omega),if_neg (by omega),if_neg (by omega),if_neg (by omega),if_pos (by omega)]
 rw[U];refine fZ mixed ai (γ:=Nat) (λq=>[(10,iD q)]) (λ_=>[(b,.cells 81 (aH f))]) (λq=>q<=x.lz.length/\∀m y,m<q->x.lz[m]?=some y->seq y.name f.of=false) (λq=>x.lz.length-q) 0 rfl rfl ⟨by omega,by omega⟩ ?_;rintro q ⟨v,hno⟩
 repeat' first|refine Sh ?_|intro b;conv=>whnf|refine ba.mk λy hy=>?_|(refine aV ?_;constructor<;>intro hc)
 .refine Rt.pure (zM iD ?_);rw[if_pos (wC.2 ⟨y,zG hy,by assumption⟩)]
 .exact X9
 .refine Rt.pure (zM iD ?_);rw[if_neg];rw[wC];rintro⟨y,hy,hs⟩;obtain⟨m,hm⟩:=yO hy;have:=hno m y (by have:=(zE.1 hm).1;omega) hm;rw[this]at hs;cases hs
end
section
open Go
theorem neE(s:ByteArray):(!(s.toList==(⟨#[]⟩:ByteArray).toList))=!dG s:=by rw[oW]
theorem bC0(a:List ByteArray)(b:List Int):(a.isEmpty&&b.isEmpty)=decide (¬(0<(a.length:Int)+b.length)):=by
 cases a<;>cases b<;>simp<;>omega
theorem Sg{A B:Prop}(k:B)(h:ar B->A:=by intro q7;(first|refine bC ?_|refine aA ?_|(refine' ah ?hc ?_;(case hc=>first|exact HU|exact an8 _|exact Q0 _ _ _|exact az7 _ _ _ _|exact aT6 _ (by assumption) (by assumption))));exact q7.1):A:=h ⟨k⟩
theorem lq{p:Prop}(h:p:=by
 repeat' first|refine Sg ?_|(refine aV ?_;constructor<;>intro hc)
 all_goals(refine Rt.pure (zM bD ?_);(try simp only[neE,oW]at *);simp[dF,l5,fP,im,io,iU,il,eu,bC0, *])):p:=h
theorem aY4(f:am)(w:f.words.length<=1000000)(g:f.wz.length<=1000000)(k:f.kind=0):APure prog 174 [bP f] (bD (dF f)):=by
 refine ap func174 ntmps174 λa=>?_;have HU:APure prog 228 [iD f.kind] (.tup [bD false,bD false,bD true,bD false,bD false]):=by rw[k];exact lK 0
 exact lq
theorem aY3(f:am)(w:f.words.length<=1000000)(g:f.wz.length<=1000000)(k:f.kind=1):APure prog 174 [bP f] (bD (dF f)):=by
 refine ap func174 ntmps174 λa=>?_;have HU:APure prog 228 [iD f.kind] (.tup [bD true,bD false,bD true,bD true,bD false]):=by rw[k];exact lK 1
 exact lq
theorem aY2(f:am)(w:f.words.length<=1000000)(g:f.wz.length<=1000000)(k:f.kind=2):APure prog 174 [bP f] (bD (dF f)):=by
 refine ap func174 ntmps174 λa=>?_;have HU:APure prog 228 [iD f.kind] (.tup [bD false,bD false,bD true,bD true,bD false]):=by rw[k];exact lK 2
 exact lq
theorem aY1(f:am)(w:f.words.length<=1000000)(g:f.wz.length<=1000000)(k:f.kind=3):APure prog 174 [bP f] (bD (dF f)):=by
 refine ap func174 ntmps174 λa=>?_;have HU:APure prog 228 [iD f.kind] (.tup [bD false,bD false,bD false,bD false,bD true]):=by rw[k];exact lK 3
 exact lq
theorem aY0(f:am)(w:f.words.length<=1000000)(g:f.wz.length<=1000000)(k:f.kind=4):APure prog 174 [bP f] (bD (dF f)):=by
 refine ap func174 ntmps174 λa=>?_;have HU:APure prog 228 [iD f.kind] (.tup [bD true,bD false,bD true,bD true,bD false]):=by rw[k];exact lK 4
 exact lq
theorem aX9(f:am)(w:f.words.length<=1000000)(g:f.wz.length<=1000000)(k:f.kind=5):APure prog 174 [bP f] (bD (dF f)):=by
 refine ap func174 ntmps174 λa=>?_;have HU:APure prog 228 [iD f.kind] (.tup [bD true,bD false,bD true,bD true,bD false]):=by rw[k];exact lK 5
 exact lq
theorem aX8(f:am)(w:f.words.length<=1000000)(g:f.wz.length<=1000000)(k:f.kind=6):APure prog 174 [bP f] (bD (dF f)):=by
 refine ap func174 ntmps174 λa=>?_;have HU:APure prog 228 [iD f.kind] (.tup [bD true,bD false,bD false,bD false,bD false]):=by rw[k];exact lK 6
 exact lq
theorem aX7(f:am)(w:f.words.length<=1000000)(g:f.wz.length<=1000000)(k:f.kind=7):APure prog 174 [bP f] (bD (dF f)):=by
 refine ap func174 ntmps174 λa=>?_;have HU:APure prog 228 [iD f.kind] (.tup [bD true,bD true,bD true,bD true,bD false]):=by rw[k];exact lK 7
 exact lq
theorem aX6(f:am)(w:f.words.length<=1000000)(g:f.wz.length<=1000000)(k:f.kind=8):APure prog 174 [bP f] (bD (dF f)):=by
 refine ap func174 ntmps174 λa=>?_;have HU:APure prog 228 [iD f.kind] (.tup [bD true,bD true,bD false,bD false,bD false]):=by rw[k];exact lK 8
 exact lq
theorem aX5(f:am)(w:f.words.length<=1000000)(g:f.wz.length<=1000000)(k:f.kind<0\/8<f.kind):APure prog 174 [bP f] (bD (dF f)):=by
 refine ap func174 ntmps174 λa=>?_;have HU:=lK f.kind;unfold zB at HU;have:dF f=false:=by
  have:fP f=false:=by unfold fP;repeat(rw[if_neg (by omega)])
  simp[dF,this]
 rw[this]
 repeat' first|refine Sg ?_|(refine aV ?_;constructor<;>intro hc)
 all_goals(refine Rt.pure (zM bD ?_);rfl)
theorem aO3(f:am)(w:f.words.length<=1000000)(g:f.wz.length<=1000000):APure prog 174 [bP f] (bD (dF f)):=by
 by_cases hn:f.kind<0\/8<f.kind
 .exact aX5 f w g hn
 .have:f.kind=0\/f.kind=1\/f.kind=2\/f.kind=3\/f.kind=4\/f.kind=5\/f.kind=6\/f.kind=7\/f.kind=8:=by omega
  rcases this with h|h|h|h|h|h|h|h|h
  .exact aY4 f w g h
  .exact aY3 f w g h
  .exact aY2 f w g h
  .exact aY1 f w g h
  .exact aY0 f w g h
  .exact aX9 f w g h
  .exact aX8 f w g h
  .exact aX7 f w g h
  .exact aX6 f w g h
end
section
open Go
structure bC7(f:am):Prop where
 w:f.words.length<=1000000
 g:f.wz.length<=1000000
theorem uD{A B:Prop}(k:B)(h:ar B->A:=by intro q7;(first|refine bC ?_|refine aA ?_|(refine' ah ?hc ?_;(case hc=>first|exact an8 _|exact Q0 _ _ _|exact az7 _ _ _ _|exact aO3 _ (hs _ (zG hy)).w (hs _ (zG hy)).g)));exact q7.1):A:=h ⟨k⟩
theorem qc(k:au)(hs:∀f∈k.fields,bC7 f)(i:k.fields.length<=1000000):APure prog 128 [fF k] (bD (jv k)):=by
 refine ap func128 ntmps128 λj=>?_
 cases h1:aZ k.name
 .repeat' first|refine uD ?_|(refine aV ?_;constructor<;>intro hc)
  all_goals(refine Rt.pure (zM bD ?_);simp[jv,h1])
 cases h2:lG k.lo k.hi 0 65536
 .repeat' first|refine uD ?_|(refine aV ?_;constructor<;>intro hc)
  all_goals(refine Rt.pure (zM bD ?_);simp[jv,h2])
 by_cases h3:k.fields.length<=10
 .have a:jv k=k.fields.all dF:=by simp[jv,h1,h2,h3]
  repeat refine uD ?_
  refine fZ mixed ai (γ:=Nat) (λg=>[(3,iD g)]) (λ_=>[]) (λq=>q<=k.fields.length/\∀(m:Nat)y,m<q->k.fields[m]?=some y->dF y=true) (λq=>k.fields.length-q) 0 rfl rfl ⟨by omega,λm y b=>by omega⟩ ?_;rintro q ⟨e,o⟩;by_cases hlt:q<k.fields.length
  .obtain⟨y,hy⟩:∃y,k.fields[(q:Int).toNat]?=some y:=⟨_,zD hlt⟩
   repeat' first|refine uD ?_|(refine aV ?_;constructor<;>intro hc)
   .exact⟨q+1,rfl,rfl,⟨by omega,JQ o hy (by assumption)⟩,by omega⟩
   .refine Rt.pure (zM bD ?_);rw[a,J' hy (by assumption)]
  .repeat' first|refine uD ?_|(refine aV ?_;constructor<;>intro hc)
   refine Rt.pure (zM bD ?_);rw[a,J7 (λm y b hy=>o m y (by omega) hy)]
 .repeat' first|refine uD ?_|(refine aV ?_;constructor<;>intro hc)
  all_goals(refine Rt.pure (zM bD ?_);simp[jv,h3])
theorem mB{A B:Prop}(k:B)(h:ar B->A:=by intro q7;(first|refine bC ?_|refine aA ?_|(refine' ah ?hc ?_;(case hc=>first|exact an8 _|exact Q0 _ _ _|exact aE0 _ (by assumption))));exact q7.1):A:=h ⟨k⟩
theorem qb(x:bX)(hs:x.tz.length<=1000000)(a:x.mz.length<=1000000):APure prog 129 [dl x] (bD (j6 x)):=by
 refine ap func129 ntmps129 λf=>?_
 cases h1:aZ x.name
 .repeat' first|refine mB ?_|(refine aV ?_;constructor<;>intro hc)
  all_goals(refine Rt.pure (zM bD ?_);simp[j6,h1])
 cases h2:cA x.tz.length 1 12
 .repeat' first|refine mB ?_|(refine aV ?_;constructor<;>intro hc)
  all_goals(refine Rt.pure (zM bD ?_);simp[j6,h2])
 cases h4:x.tz.all aZ
 .repeat' first|refine mB ?_|(refine aV ?_;constructor<;>intro hc)
  all_goals(refine Rt.pure (zM bD ?_);simp only[j6,h4];simp)
 by_cases h3:x.mz.length<=32
 .have b:j6 x=x.mz.all (cb x.tz.length):=by simp only[j6,h1,h2,h4,h3];simp
  repeat refine mB ?_
  refine fZ mixed ai (γ:=Nat) (λg=>[(3,iD g)]) (λ_=>[]) (λq=>q<=x.mz.length/\∀(m:Nat)y,m<q->x.mz[m]?=some y->cb x.tz.length y=true) (λq=>x.mz.length-q) 0 rfl rfl ⟨by omega,λm y a=>by omega⟩ ?_;rintro q ⟨e,o⟩;by_cases hlt:q<x.mz.length
  .obtain⟨y,hy⟩:∃y,x.mz[(q:Int).toNat]?=some y:=⟨_,zD hlt⟩
   repeat' first|refine mB ?_|(refine aV ?_;constructor<;>intro hc)
   all_goals first
    |exact⟨q+1,rfl,rfl,⟨by omega,JQ o hy (by simp[cb, *])⟩,by omega⟩
    |(refine Rt.pure (zM bD ?_);rw[b,J' hy (by simp[cb, *])])
  .repeat' first|refine mB ?_|(refine aV ?_;constructor<;>intro hc)
   refine Rt.pure (zM bD ?_);rw[b,J7 (λm y a hy=>o m y (by omega) hy)]
 .repeat' first|refine mB ?_|(refine aV ?_;constructor<;>intro hc)
  all_goals(refine Rt.pure (zM bD ?_);simp[j6,h3])
theorem aT5(r:cI):APure prog 130 [eM r] (bD (xj r)):=by
 refine ap func130 ntmps130 λa=>?_
 repeat' first|refine mB ?_|(refine aV ?_;constructor<;>intro hc)
 all_goals(refine Rt.pure (zM bD ?_);(try simp only[neE,oW]at *);simp[xj, *])
end
end Go.Proofs.YtilnpcolgcmofaaGreatDoor
