/- A part of the proof. -/
import Derived.Test.YtilnpcolgcmofaaGreatDoorC18
set_option maxRecDepth 100000
set_option maxHeartbeats 20000000
set_option linter.all false
namespace Go.Proofs.YtilnpcolgcmofaaGreatDoor
open Tryz
section
open Go
def cW(n:Nat):Nat:=if n<=1 then 0 else if n<=4 then 1 else 2
def tn{n:Nat}(h:n<=16):n<=2 ^ cW n*2 ^ cW n:=by unfold cW;split;omega;split<;>simp<;>omega
def tp(n:Nat):cW n<=2:=by unfold cW;split;omega;split<;>omega
def wP:=@beq_self_eq_true
variable{A B:Prop}
def Ht(k:B)(h:ar B->A:=by intro q7;(first|((with_reducible refine W.mk ?_);(conv=>whnf))|(with_reducible refine pA4 ?_)|(with_reducible refine pA5 ?_)|(with_reducible refine Br.n ?_)|(with_reducible refine Uz trivial ?_)|(with_reducible refine Br.t (wP _) ?_)|((with_reducible refine' Br.eq ?h ?_);(case h=>(simp only[zL,zR,zI,List.length_cons,List.length_nil,zY,Nat.reduceAdd];exact rfl)))|((with_reducible refine Sd.go ?qs7 ?_);(case qs7=>first|trivial|(constructor<;>omega)|omega|assumption|(refine And.intro ?_ (cp.mk ?_ ?_)<;>omega)|((try simp only[zL,zR,zI,List.length_cons,List.length_nil,zY,Nat.reduceAdd]at *);first|(constructor<;>omega)|omega))));exact q7.1):A:=h ⟨k⟩
def bc(k:B)(h:ar B->A:=by intro q7;(first|refine Ht ?_|refine sN ?_|refine Gl ?_|refine AP ?_);exact q7.1):A:=h ⟨k⟩
def au(k:B)(h:ar B->A:=by intro q7;(first|refine bc ?_|refine aE ?_|(refine' aj ?hc ?_;(case hc=>fail)));exact q7.1):A:=h ⟨k⟩
def IM(n:Nat)(h:n<=16):APure prog 235 [iD n] (iD ((2 ^ cW n:Nat):Int)):=by
 refine ap func235 ntmps235 λi=>?_
 repeat refine au ?_
 refine aO mixed ai (γ:=Nat) (λj=>[(3,iD ((2 ^ j:Nat):Int))]) (λ_=>[]) (λj=>j<=cW n) (λj=>cW n-j) 0 (ah av) (Sc.refl _) (zW _) ?_;intro j hj;have g:=tp n;have S:cW n=if n<=1 then 0 else if n<=4 then 1 else 2:=rfl
 by_cases hjs:j<cW n
 .have a:j=0\/j=1:=by omega
  have f:2 ^ j*2 ^ j<n:=by
   rcases a with rfl|rfl
   .by_cases h1:n<=1
    .rw[if_pos h1]at S;omega
    .simp;omega
   .by_cases h1:n<=1
    .rw[if_pos h1]at S;omega
    .rw[if_neg h1]at S;by_cases h4:n<=4
     .rw[if_pos h4]at S;omega
     .simp;omega
  rcases a with rfl|rfl
  .simp only[Nat.pow_zero,Nat.mul_one]at f⊢
   repeat refine au ?_
   exact⟨1,(ah av),Sc.refl _,by omega,by omega⟩
  .simp only[Nat.pow_one,Nat.reduceMul]at f⊢
   repeat refine au ?_
   exact⟨2,(ah av),Sc.refl _,by omega,by omega⟩
 .obtain rfl:j=cW n:=by omega
  have k:=tn h;have b:cW n=0\/cW n=1\/cW n=2:=by omega
  rcases b with e|e|e
  all_goals
   rw[e]at k⊢;simp only[Nat.pow_zero,Nat.pow_one,Nat.reducePow,Nat.reduceMul,Nat.mul_one]at k⊢
   repeat refine au ?_
   refine Rt.pure (zM iD ?_)
   rfl
def tm2(a:Nat):((a:Nat):Int).tmod 2=((a%2:Nat):Int):=by rw[Int.tmod_eq_emod_of_nonneg (by omega)];omega
def S2(a:Nat):((a:Nat):Int).tdiv 2=((a/2:Nat):Int):=by rw[Int.tdiv_eq_ediv_of_nonneg (by omega)];omega
def Y'{p:Prop}(h:p:=by
 by_cases hq:A%2=B%2
 .rw[if_pos hq]at hxb
  repeat refine au ?_
  exact⟨i+1,(ah av),Sc.refl _,by omega,by omega⟩
 .rw[if_neg hq]at hxb
  repeat refine au ?_
  exact⟨i+1,(ah av),Sc.refl _,by omega,by omega⟩):p:=h
def O8(a b:Nat)(j:a<65536)(hb:b<65536):APure prog 262 [iD a,iD b] (iD ((a ^^^ b:Nat):Int)):=by
 refine ap func262 ntmps262 λs=>?_
 repeat refine au ?_
 refine aO mixed ai (γ:=Nat) (λi=>[(0,iD ((a/2 ^ i:Nat):Int)),(1,iD ((b/2 ^ i:Nat):Int)),(5,iD (((a ^^^ b)%2 ^ i:Nat):Int)),(6,iD ((2 ^ i:Nat):Int))]) (λ_=>[]) (λi=>i<=16) (λi=>16-i) 0 (by simp only[Nat.pow_zero,Nat.div_one,Nat.mod_one];exact(ah av)) (Sc.refl _) (zW _) ?_;intro i hi;have o:2 ^ i<=65536:=Nat.pow_le_pow_right (n:=2) (by decide) hi;have g:a/2 ^ i<=a:=Nat.div_le_self _ _;have f:b/2 ^ i<=b:=Nat.div_le_self _ _;have hx:=vM (a ^^^ b) (show 0<2 ^ i from Nat.pow_pos (by decide));have t1:=tm2 (a/2 ^ i);have t2:=tm2 (b/2 ^ i);have t3:=S2 (a/2 ^ i);have t4:=S2 (b/2 ^ i);by_cases he:a/2 ^ i=0/\b/2 ^ i=0
 .have:=G8 he.1 he.2;obtain⟨l,k⟩:=he
  repeat refine au ?_
  refine Rt.pure (zM iD ?_);rw[this]
 .have e:i<16:=by
   refine Classical.byContradiction λh=>he ?_;obtain rfl:i=16:=by omega
   exact⟨Nat.div_eq_of_lt j,Nat.div_eq_of_lt hb⟩
  have hxb:=G9 a b i;have l:a/2 ^ (i+1)=a/2 ^ i/2:=by rw[Nat.pow_succ,Nat.div_div_eq_div_mul]
  have k:b/2 ^ (i+1)=b/2 ^ i/2:=by rw[Nat.pow_succ,Nat.div_div_eq_div_mul]
  have r:2 ^ (i+1)=2*2 ^ i:=by rw[Nat.pow_succ,Nat.mul_comm]
  generalize a/2 ^ i=A at *;generalize b/2 ^ i=B at *;by_cases hA:0<A
  .exact Y'
  .have q:0<B:=by omega
   exact Y'
def BT(sd:List Nat)(p:List Int)(b:Nat)(k r:Nat):Nat:=ze sd p (65536*(k:Int)+(r:Int))%b
def tC(sd:List Nat)(p:List Int)(j:Nat)(k r:Nat):BT sd p (2 ^ j) k r<2 ^ j:=vM _ (Nat.pow_pos (by decide))
def tmN(a b:Nat):((a:Nat):Int).tmod ((b:Nat):Int)=((a%b:Nat):Int):=by rw[Int.tmod_eq_emod_of_nonneg (by omega)];omega
def tdN(a b:Nat):((a:Nat):Int).tdiv ((b:Nat):Int)=((a/b:Nat):Int):=by rw[Int.tdiv_eq_ediv_of_nonneg (by omega)];simp
def OQ(k:B)(h:ar B->A:=by intro q7;(first|refine bc ?_|refine aE ?_|(refine' aj ?hc ?_;(case hc=>first|exact HW|exact HX)));exact q7.1):A:=h ⟨k⟩
def O9(sd:List Nat)(hs:gF sd)(p:List Int)(z:zn p)(j:Nat)(hj:j<=8)(x:Nat)(hx:x<2 ^ j*2 ^ j):APure prog 236 [dr sd,bv p,iD ((2 ^ j:Nat):Int),iD x] (iD ((oD (BT sd p (2 ^ j)) (2 ^ j) x:Nat):Int)):=by
 have hb:2 ^ j<=256:=Nat.pow_le_pow_right (n:=2) (by decide) hj;have a:0<2 ^ j:=Nat.pow_pos (by decide);have o:=tC sd p j;have g:x/2 ^ j<2 ^ j:=Nat.div_lt_of_lt_mul hx;have f:x%2 ^ j<2 ^ j:=vM _ a;have y:=λk=>aE5 o k (p:=(x/2 ^ j,x%2 ^ j)) g f;have v:=tdN x (2 ^ j);have u:=tmN x (2 ^ j);have t:x<65536:=yI hx (by have:=Nat.mul_le_mul hb hb;omega);unfold oD;have e:∀k r,BT sd p (2 ^ j) k r=ze sd p (65536*(k:Int)+(r:Int))%2 ^ j:=λ_ _=>rfl;generalize BT sd p (2 ^ j)=F at *;generalize 2 ^ j=B at *;have s:x/B<=x:=Nat.div_le_self _ _;have J:(iO F 0 (x/B,x%B)).1=x/B:=rfl;have I:(iO F 0 (x/B,x%B)).2=x%B:=rfl;refine ap func236 ntmps236 λM=>?_
 repeat refine OQ ?_
 refine aO mixed ai (γ:=Nat) (λk=>[(9,iD (((iO F k (x/B,x%B)).1:Nat):Int)),(10,iD (((iO F k (x/B,x%B)).2:Nat):Int)),(11,iD k)]) (λ_=>[]) (λk=>k<=4) (λk=>4-k) 0 (ah av) (Sc.refl _) (zW _) ?_;intro k L;obtain⟨h1,h2⟩:=y k;have G:(iO F (k+1) (x/B,x%B)).1=(iO F k (x/B,x%B)).2:=rfl;have E:(iO F (k+1) (x/B,x%B)).2=(iO F k (x/B,x%B)).1 ^^^ F k (iO F k (x/B,x%B)).2:=rfl;by_cases hk4:k<4
 .generalize K:iO F k (x/B,x%B)=q at *;obtain⟨l,r⟩:=q;simp only at G E h1 h2⊢;have HW:=tF sd hs p z (65536*(k:Int)+(r:Int)) ⟨by omega,by omega⟩;have b:=e k r;have w:=tmN (ze sd p (65536*(k:Int)+(r:Int))) B;rw[←b]at w;have i:=lx sd p (65536*(k:Int)+(r:Int));have D:=o k r;have HX:=O8 l (F k r) (by omega) (by omega);rw[←w]at HX
  repeat refine OQ ?_
  exact⟨k+1,(ah av),Sc.refl _,by omega,by omega⟩
 .obtain rfl:k=4:=by omega
  generalize iO F 4 (x/B,x%B)=q at *;obtain⟨l,r⟩:=q;simp only at h1 h2⊢;have C:l*B<65536:=by have:=Nat.mul_lt_mul_of_lt_of_le h1 hb (by omega);omega
  have hc:((l*B:Nat):Int)=(l:Int)*(B:Int):=Int.natCast_mul l B
  repeat refine OQ ?_
  refine Rt.pure (zM iD ?_);omega
def In(k:B)(h:ar B->A:=by intro q7;(first|refine bc ?_|refine aE ?_|(refine' aj ?hc ?_;(case hc=>first|exact HS|exact HM)));exact q7.1):A:=h ⟨k⟩
def B6(sd:List Nat)(hs:gF sd)(p:List Int)(a:p.length<=8)(n:Int)(b:n<=65536):APure prog 191 [dr sd,bv p,iD n] (iD 0):=by
 have z:=lq sd;have h1:=hs.n;refine ap func191 ntmps191 λe=>?_
 repeat refine In ?_
 refine Rt.pure (zM iD ?_)
 rfl
def n9(sd:List Nat)(hs:gF sd)(p:List Int)(z:zn p)(n:Nat)(s:n<=16)(i:Nat)(hi:i<n):∃v:Nat,v<n/\APure prog 192 [dr sd,bv p,iD n,iD i] (iD v):=by
 have HS:=IM n s;have C:=tn s;have hj:=tp n;have F:=tC sd p (cW n);have M:=λx hx=>O9 sd hs p z (cW n) (by omega) x hx;have t:=λx(hx:x<2 ^ cW n*2 ^ cW n)=>JA F hx;have j:=λx y(hx:x<2 ^ cW n*2 ^ cW n)(hy:y<2 ^ cW n*2 ^ cW n)h=>DG F hx hy h;generalize oD (BT sd p (2 ^ cW n)) (2 ^ cW n)=f at *;generalize 2 ^ cW n=b at *;generalize G:b*b=N at *;obtain⟨u,r,_,l⟩:=rP t j (x:=i) (by omega);obtain⟨k,_,⟨D,g⟩,a⟩:=sn (p:=λk=>0<k/\sy f k i<n) (k:=u) ⟨r,by rw[l];exact hi⟩;refine⟨sy f k i,g,?_⟩;have hit:=λq=>Sr t (x:=i) (by omega) q;have HM:=M i (by omega);refine ap func192 ntmps192 λI=>?_
 repeat refine In ?_
 refine aO mixed ai (γ:=Nat) (λq=>[(10,iD ((sy f q i:Nat):Int))]) (λ_=>[]) (λq=>1<=q/\q<=k) (λq=>k-q) 1 (ah aJ) (Sc.refl _) ⟨zT _,D⟩ ?_;rintro q ⟨e,w⟩;clear HM;by_cases hqk:q<k
 .have o:¬(0<q/\sy f q i<n):=a q hqk;have E:n<=sy f q i:=by
   refine Nat.le_of_not_lt λh=>o ⟨e,h⟩
  have HM:=M _ (hit q)
  repeat refine In ?_
  exact⟨q+1,(ah aJ),Sc.refl _,⟨by omega,by omega⟩,by omega⟩
 .obtain rfl:q=k:=by omega
  repeat refine In ?_
  refine Rt.pure (zM iD ?_)
  rfl
def bp7(k:B)(h:ar B->A:=by intro q7;(first|refine bc ?_|refine aE ?_|(refine' aj ?hc ?_;(case hc=>first|exact HG|exact HP)));exact q7.1):A:=h ⟨k⟩
def Mn(sd:List Nat)(hs:gF sd)(p:List Int)(e:p.length<=8)(a:∀v∈p,cp v)(n:Nat)(f:n<=16)(i:Nat)(hi:i<n):∃v:Nat,v<n/\APure prog 148 [dr sd,bv p,iD n,iD i] (.tup [iD v,iD 0]):=by
 obtain⟨v,b,HP⟩:=n9 sd hs p ⟨by omega,a⟩ n f i hi;have HG:=B6 sd hs p e n (by omega);refine⟨v,b,?_⟩;refine ap func148 ntmps148 λg=>?_
 repeat refine bp7 ?_
 exact Rt.pure rfl
end
section
def zc(lo h:Int)(n:Nat)(t:Int):Int:=max ((n/2:Nat)*lo) (t-(n-n/2:Nat)*h)
def At(lo h:Int)(n:Nat)(t:Int):Int:=min ((n/2:Nat)*h) (t-(n-n/2:Nat)*lo)
def kg(lo h:Int)(n:Nat)(t:Int):Prop:=(n:Int)*lo<=t/\t<=(n:Int)*h
variable{t:Int}
def PL{lo i:Int}{n:Nat}(h:kg lo i n t)(l:lo<=i):zc lo i n t<=At lo i n t:=by
 obtain⟨b,a⟩:=h;have e:(n:Int)=(n/2:Nat)+(n-n/2:Nat):=by omega
 have c:((n/2:Nat):Int)*lo<=((n/2:Nat):Int)*i:=Int.mul_le_mul_of_nonneg_left l (by omega);have m:((n-n/2:Nat):Int)*lo<=((n-n/2:Nat):Int)*i:=Int.mul_le_mul_of_nonneg_left l (by omega);rw[e,Int.add_mul]at b a;unfold zc At;omega
def tY{lo h:Int}{n:Nat}{x:Int}(b:zc lo h n t<=x)(a:x<=At lo h n t):kg lo h (n/2) x/\kg lo h (n-n/2) (t-x):=by
 unfold zc at b;unfold At at a;unfold kg;omega
structure eG(lo hi:Int)(n:Nat)(t:Int)(l:List Int):Prop where
 len:l.length=n
 sum:l.sum=t
 all:∀x∈l,lo<=x/\x<=hi
end
section
open Go
def eg:List (Nat×Nat):=[(0,8),(0,7),(0,6),(0,5),(0,4),(0,3),(0,2),(4,4),(2,2),(4,2),(6,2),(3,4),(1,2),(3,2),(5,2),(3,3),(2,3)]
def RP(k f n:Nat):List (Nat×Nat):=(List.range n).map λj=>(k,f+j)
def B1(u:Nat)(l:List (Nat×Nat)):List (List Nat):=l.flatMap λp=>(List.range 8).map λi=>[u,p.1,p.2,i]
def FI:List (Nat×Nat):=RP 0 1 5++RP 1 2 7++RP 2 2 8
def bt1:List (List Nat):=[(1,1),(2,1),(2,2),(2,3),(2,4)].flatMap λp=>eg.map λq=>[2,p.1,p.2,0,q.1,q.2]
def br0:List (List Nat):=[(1,2),(1,3),(2,2),(2,3)].flatMap λp=>(List.range 8).flatMap λj=>eg.map λq=>[8,p.1,p.2,j,q.1,q.2]
def iF:List (List Nat):=B1 4 FI++B1 6 FI++B1 3 FI++B1 7 (RP 0 1 6++RP 1 2 8)++bt1++br0
def ao(q:Nat):List (List Nat):=(iF.drop (4*q)).take 4
end
section
open Go
def zo(sd:List Nat)(p:List Int):Prop:=ze sd p 0<281474976645120
def zo.drw{sd:List Nat}{p:List Int}(h:zo sd p){n:Int}(b:n≠0)(c:-65536<=n/\n<=65536):pQ sd p n:=by
 refine⟨⟨b,by omega,by omega⟩,?_⟩;unfold zo at h;unfold JK;have a:(281474976710656:Int).tmod n<65536:=by
  by_cases a:0<n
  .have:=Int.tmod_lt_of_pos 281474976710656 a;omega
  .have d:(281474976710656:Int).tmod n=(281474976710656:Int).tmod (-n):=by rw[Int.tmod_neg]
   have:=Int.tmod_lt_of_pos 281474976710656 (show 0 < -n by omega);omega
 omega
structure sA where
 seed:List Nat
 path:List Int
 total:Int
 n:Nat
 lo:Int
 hi:Int
abbrev spC(s:sA):List D:=[dr s.seed,bv s.path,iD s.total,iD s.n,iD s.lo,iD s.hi]
abbrev OJ(s:sA):D:=.agg (spC s)
structure mP(s:sA):Prop where
 sd:gF s.seed
 pl:s.path.length<=6
 pv:∀v∈s.path,cp v
 n:s.n<=8
 lo:0<=s.lo
 le:s.lo<=s.hi
 hi:s.hi<=100
 t:-1000000<=s.total/\s.total<=1000000
def pM(s:sA):Prop:=∀a n,(a,n)∈eg->zo s.seed (s.path++[(a:Int),(n:Int)])
def iu{n:Nat}(h:n<=8){z:Int}(b:0<=z)(a:z<=100):0<=(n:Int)*z/\(n:Int)*z<=800:=by
 have:n=0\/n=1\/n=2\/n=3\/n=4\/n=5\/n=6\/n=7\/n=8:=by omega
 rcases this with rfl|rfl|rfl|rfl|rfl|rfl|rfl|rfl|rfl<;>omega
def zu(s:sA):Int:=if(s.n:Int)*s.lo<=s.total/\s.total<=(s.n:Int)*s.hi then 0 else 5
def E8{p:Prop}(h:p:=by
 refine ap func206 ntmps206 λBB=>?_
 repeat refine au ?_
 refine Rt.pure (zM iD ?_)
 rfl):p:=h
def aZ7(s:sA)(h:mP s):APure prog 206 [OJ s] (iD (zu s)):=by
 have h1:=h.sd.n;have z:=lq s.seed;have h2:=h.pl;have h3:=h.n;have h4:=h.lo;have h5:=h.le;have a:=h.hi;have e:=iu h3 h4 (by omega);have b:=iu h3 (by omega:0<=s.hi) a;unfold zu;by_cases hf:(s.n:Int)*s.lo<=s.total/\s.total<=(s.n:Int)*s.hi
 .rw[if_pos hf];obtain⟨f1,f2⟩:=hf;exact E8
 .rw[if_neg hf];by_cases f1:s.total<(s.n:Int)*s.lo
  .exact E8
  .have f2:(s.n:Int)*s.hi<s.total:=by omega
   exact E8
def D9(a b:Int):(if a<b then b else a)=max a b:=by split<;>omega
def ug(a b:Int):(if b<a then b else a)=min a b:=by split<;>omega
variable{s:sA}{a:Nat}
def bt3(h:mP s){n:Nat}(d:a<=100)(c:n<=100):∀v∈s.path++[(a:Int),(n:Int)],cp v:=λv b=>by
 rcases zO.1 b with b|b
 .exact h.pv v b
 .simp only[zU,yF,xE]at b;rcases b with rfl|rfl<;>(constructor<;>omega)
def rr{n:Nat}(h:(a,n)∈eg):a<=6/\2<=n/\n<=8:=by
 have:∀q∈eg,q.1<=6/\2<=q.2/\q.2<=8:=by decide
 exact this _ h
variable{A B:Prop}
def OP(k:B)(h:ar B->A:=by intro q7;(first|refine bc ?_|refine aE ?_|(refine' aj ?hc ?_;(case hc=>exact HB)));exact q7.1):A:=h ⟨k⟩
def tE(s:sA)(h:mP s)(y:pM s)(a n:Nat)(k:(a,n)∈eg)(t:Int)(g:kg s.lo s.hi n t):∃x,APure prog 245 [OJ s,iD a,iD n,iD t] (iD x)/\zc s.lo s.hi n t<=x/\x<=At s.lo s.hi n t:=by
 obtain⟨F,E,j⟩:=rr k;have h2:=h.pl;have h4:=h.lo;have h5:=h.le;have i:=h.hi;have u:=iu (n:=n/2) (by omega) h4 (by omega);have r:=iu (n:=n/2) (by omega) (by omega:0<=s.hi) i;have q:=iu (n:=n-n/2) (by omega) h4 (by omega);have o:=iu (n:=n-n/2) (by omega) (by omega:0<=s.hi) i;have I:=iu j h4 (by omega);have G:=iu j (by omega:0<=s.hi) i;have hl:=PL g h5;have w:=g.1;have v:=g.2;have C:zc s.lo s.hi n t=if((n/2:Nat):Int)*s.lo<t-((n-n/2:Nat):Int)*s.hi then t-((n-n/2:Nat):Int)*s.hi else((n/2:Nat):Int)*s.lo:=(D9 _ _).symm
 have z:At s.lo s.hi n t=if t-((n-n/2:Nat):Int)*s.lo<((n/2:Nat):Int)*s.hi then t-((n-n/2:Nat):Int)*s.lo else((n/2:Nat):Int)*s.hi:=(ug _ _).symm
 have c1:((n-n/2:Nat):Int)=(n:Int)-((n/2:Nat):Int):=by omega
 have e:(n:Int).tdiv 2=((n/2:Nat):Int):=S2 n;have K:0<=zc s.lo s.hi n t:=by unfold zc;omega
 have b2:At s.lo s.hi n t<=800:=by unfold At;omega
 have HB:=aI2 s.seed h.sd (s.path++[(a:Int),(n:Int)]) (by simp;omega) (bt3 h (by omega) (by omega)) _ _ (show Od (zc s.lo s.hi n t) (At s.lo s.hi n t) from⟨by omega,by omega,hl,by omega⟩) ((y a n k).drw (by omega) (by omega));have hx:=Gz (sd:=s.seed) (p:=s.path++[(a:Int),(n:Int)]) (n:=At s.lo s.hi n t-zc s.lo s.hi n t+1) (by omega);refine⟨_,?_,show zc s.lo s.hi n t<=gA s.seed (s.path++[(a:Int),(n:Int)]) (zc s.lo s.hi n t) (At s.lo s.hi n t) by unfold gA;omega,by unfold gA;omega⟩;generalize gA s.seed (s.path++[(a:Int),(n:Int)]) (zc s.lo s.hi n t) (At s.lo s.hi n t)=x at *;rw[C,z,c1,←e]at HB;rw[c1,←e]at q o;rw[←e]at u r;have d1:1<=(n:Int).tdiv 2/\(n:Int).tdiv 2<=4:=by rw[e];omega
 refine ap func245 ntmps245 λM=>?_
 repeat' first|refine OP ?_|intro b;conv=>whnf
 refine Ap.go rfl rfl rfl rfl (ab.e0 _ _ (some ⟨b,0,none⟩)) (bR _) (FY s.path) (zs:=s.path.map λn=>[iD n]) rfl (by simp;omega) (by simp;omega) (λl=>l) dF (λL J D f=>?_)
 repeat' first|refine OP ?_|intro b;conv=>whnf
 refine Ap.frz rfl rfl rfl rfl f (bR _) rfl (zs:=(s.path++[(a:Int),(n:Int)]).map λn=>[iD n]) (by rw[yB];rfl) (by simp;omega) (by simp;omega) ?_
 repeat' first|refine OP ?_|intro b;conv=>whnf
 exact Rt.pure rfl
abbrev N':dZ (List Int):=λl v s=>ab 3 1 (l.map λn=>[iD n]) v s
variable{l:List Int}
def oN{P:Program}{f:FuncId}{args:List D}(h:az P f args [] (λd s=>∃v,d= .v v/\N' l v s)):APure P f args (bv l):=
 APure.of_call (az.vs (az.imp h λd s⟨v,a,r⟩=>by rw[a];exact Rt.vs (Vs.row (τ:=[]) r (by simp))))
def oA{n:Nat}(h:(a,n)∈eg):(n/2<=1\/(a,n/2)∈eg)/\(n-n/2<=1\/(a+n/2,n-n/2)∈eg):=by
 have:∀q∈eg,(q.2/2<=1\/(q.1,q.2/2)∈eg)/\(q.2-q.2/2<=1\/(q.1+q.2/2,q.2-q.2/2)∈eg):=by decide
 exact this _ h
variable{t:Int}
def ma(h:mP s){n:Nat}(a:n<=8)(f:kg s.lo s.hi n t):0<=t/\t<=800:=by
 have b:=iu a h.lo (by have:=h.le;have:=h.hi;omega);have m:=iu a (by have:=h.le;have:=h.lo;omega:0<=s.hi) h.hi;have:=f.1;have:=f.2;omega
def eG.app{lo i:Int}{b:Nat}{x y:Int}{m:List Int}(h:eG lo i a x l)(k:eG lo i b y m){n:Nat}(e:a+b=n)(d:x+y=t):eG lo i n t (l++m):=
 ⟨by rw[zI,h.len,k.len,e],by rw[vO,h.sum,k.sum,d],λz c=>by
  rcases zO.1 c with c|c
  .exact h.all z c
  .exact k.all z c⟩
def bp6(k:B)(h:ar B->A:=by intro q7;(first|refine bc ?_|refine aE ?_|(refine' aj ?hc ?_;(case hc=>first|exact HL|exact HP2)));exact q7.1):A:=h ⟨k⟩
def OO(k:B)(h:ar B->A:=by intro q7;(first|refine bc ?_|refine jh ?_|(refine' aj ?hc ?_;(case hc=>first|exact HL|exact HP2)));exact q7.1):A:=h ⟨k⟩
def Bm(k:B)(h:ar B->A:=by intro q7;(first|refine bc ?_|refine zw ?_|(refine' aj ?hc ?_;(case hc=>first|exact HL|exact HP2)));exact q7.1):A:=h ⟨k⟩
def aM9(s:sA)(h:mP s)(r:pM s):∀(f a n:Nat)(t:Int),n<=f->n<=8->a<=100->(n<=1\/(a,n)∈eg)->kg s.lo s.hi n t->∃l,eG s.lo s.hi n t l/\az prog 237 [OJ s,iD a,iD n,iD t] [] (λd σ=>∃v,d= .v v/\N' l v σ)
 |0,a,n,t,h1,h2,G,h3,b=>by
  obtain rfl:n=0:=by omega
  have:=b.1;have:=b.2;have ht:t=0:=by simp at *;omega
  subst ht;refine⟨[],⟨rfl,rfl,by simp⟩,?_⟩;refine dB func237 ntmps237 λP=>?_
  repeat refine bp6 ?_
  exact Rt.same ⟨_,rfl,ab.nil _ _⟩
 |f+1,a,n,t,h1,h2,G,h3,b=>by
  by_cases hn0:n=0
  .exact aM9 s h r f a n t (by omega) h2 G h3 b
  by_cases D:n=1
  .subst D;have F:=b.1;have E:=b.2;refine⟨[t],⟨rfl,by simp,λz M=>by rw[zN]at M;subst M;simp at F E;omega⟩,?_⟩;refine dB func237 ntmps237 λP=>?_
   repeat refine OO ?_
   refine Bx.l ?_
   repeat refine OO ?_
   refine Bx.r ?_;refine Uy ai rfl rfl rfl rfl rfl rfl rfl rfl rfl rfl (by decide) (λY=>?_)
   repeat refine OO ?_
   exact Rt.same ⟨_,rfl,Rm (xs:=[[iD t]]) Y (by simp) (by show 1<=maxLen;decide)⟩
  have i:(a,n)∈eg:=h3.resolve_left (by omega);obtain⟨x,HL,C,y⟩:=tE s h r a n i t b;obtain⟨O,U⟩:=tY C y;obtain⟨R,Q⟩:=oA i;have b0:=ma h (by omega) b;have b1:=ma h (by omega) O;obtain⟨w,L,k⟩:=aM9 s h r f a (n/2) x (by omega) (by omega) G R O;obtain⟨q,K,o⟩:=aM9 s h r f (a+n/2) (n-n/2) (t-x) (by omega) (by omega) (by have:=rr i;omega) Q U;have HP2:=oN o;have T:=L.len;have S:=K.len;refine⟨w++q,L.app K (by omega) (by omega),?_⟩;have I:(n:Int).tdiv 2=((n/2:Nat):Int):=S2 n;have X:(a:Int)+(n:Int).tdiv 2=((a+n/2:Nat):Int):=by rw[I];omega
  have V:(n:Int)-(n:Int).tdiv 2=((n-n/2:Nat):Int):=by rw[I];omega
  rw[←I]at k;rw[←X,←V]at HP2;refine dB func237 ntmps237 λP=>?_
  repeat refine Bm ?_
  refine gS ?_;refine iG mixed ai rfl [0,1,2,3,4,6,7,8,9,10,11,12,13,14,15,16,17] 4 (hQ [5,19]) (.one 5 (.fst 18 (.one 19 (.fst 20 .done)))) (γ:=Value×ae) (λg=>[(8,.v g.1)]) (λg=>g.2) (λg=>N' (w++q) g.1 g.2) (by decide +kernel) ?_ ?_
  .repeat refine Bm ?_
   refine bu k (bR _) (λu=>u) dF ?_;rintro _ s1 ⟨Z,rfl,j⟩;obtain⟨a1,c1,rfl⟩:=ab.slice j
   repeat refine Bm ?_
   refine Ap.go rfl rfl rfl rfl j (bR _) (FY q) (zs:=(w++q).map λn=>[iD n]) (by rw[yB]) (by simp;omega) (by simp;omega) (λu=>u) dF (λa5 c5 J e=>?_)
   repeat refine Bm ?_
   exact⟨(_,J),(ah aJ),Sc.refl _,e⟩
  .rintro⟨v,J⟩ e
   repeat refine Bm ?_
   exact Rt.same ⟨_,rfl,e⟩
def bp5(k:B)(h:ar B->A:=by intro q7;(first|refine bc ?_|refine aE ?_|(refine' aj ?hc ?_;(case hc=>first|exact HL|exact HO)));exact q7.1):A:=h ⟨k⟩
def E3{p:Prop}(h:p:=by
 refine ap func207 ntmps207 λBB=>?_
 repeat refine bp5 ?_
 exact Rt.pure rfl):p:=h
def qy(s:sA)(h:mP s)(u:pM s)(k:Nat)(w:k<=1000):∀(f a n:Nat)(t:Int),n<=f->1<=n->n<=8->a<=100->(n<=1\/(a,n)∈eg)->kg s.lo s.hi n t->∃x y,(s.lo<=x/\x<=s.hi)/\(0<=y/\y<=800*(n:Int))/\APure prog 207 [OJ s,iD a,iD n,iD t,iD k] (.tup [iD x,iD y])
 |0,a,n,t,h1,h0,h2,z,h3,e=>by omega
 |f+1,a,n,t,h1,h0,h2,z,h3,e=>by
  by_cases l:n=1
  .subst l;have r:=e.1;have o:=e.2;refine⟨t,0,by simp at r o;omega,by omega,?_⟩;exact E3
  have b:(a,n)∈eg:=h3.resolve_left (by omega);obtain⟨x,HL,i,g⟩:=tE s h u a n b t e;obtain⟨C,I⟩:=tY i g;obtain⟨E,D⟩:=oA b;have M:=ma h (by omega) e;have L:=ma h (by omega) C;have v:(n:Int).tdiv 2=((n/2:Nat):Int):=S2 n;have K:(a:Int)+(n:Int).tdiv 2=((a+n/2:Nat):Int):=by rw[v];omega
  have J:(n:Int)-(n:Int).tdiv 2=((n-n/2:Nat):Int):=by rw[v];omega
  have G:=rr b;by_cases hka:k<a+n/2
  .obtain⟨p,q,j,F,HO⟩:=qy s h u k w f a (n/2) x (by omega) (by omega) (by omega) z E C;refine⟨p,q,j,by omega,?_⟩;rw[←v]at HO;exact E3
  .obtain⟨p,q,j,F,HO⟩:=qy s h u k w f (a+n/2) (n-n/2) (t-x) (by omega) (by omega) (by omega) (by omega) D I;refine⟨p,q+x,j,by omega,?_⟩;rw[←K,←J]at HO;exact E3
def bp4(k:B)(h:ar B->A:=by intro q7;(first|refine bc ?_|refine aE ?_|(refine' aj ?hc ?_;(case hc=>first|exact HV|exact HP)));exact q7.1):A:=h ⟨k⟩
def B5(s:sA)(h:mP s)(g:pM s)(e:zu s=0):∃l,eG s.lo s.hi s.n s.total l/\APure prog 194 [OJ s] (.tup [bv l,iD 0]):=by
 have HV:=aZ7 s h;rw[e]at HV;have f:kg s.lo s.hi s.n s.total:=by
  unfold zu at e;split at e
  .assumption
  .omega
 have a:=h.n;obtain⟨l,b,o⟩:=aM9 s h g s.n 0 s.n s.total (zT _) a (by omega) (by
  have:∀n,n<=8->(n<=1\/(0,n)∈eg):=by decide
  exact this _ a) f
 have HP:=oN o;refine⟨l,b,?_⟩;refine ap func194 ntmps194 λi=>?_
 repeat refine bp4 ?_
 exact Rt.pure rfl
def bp3(k:B)(h:ar B->A:=by intro q7;(first|refine bc ?_|refine aE ?_|(refine' aj ?hc ?_;(case hc=>first|exact HV|exact HO)));exact q7.1):A:=h ⟨k⟩
def uB{p:Prop}(h:p:=by
 refine ap func157 ntmps157 λBB=>?_
 repeat refine bp3 ?_
 exact Rt.pure rfl):p:=h
def IL(s:sA)(h:mP s)(i:pM s)(k:Int)(l:-1000<=k/\k<=1000):∃v e,(0<=v/\v<=s.hi)/\(e=0\/e=5\/e=6)/\APure prog 157 [OJ s,iD k] (.tup [iD v,iD e]):=by
 have HV:=aZ7 s h;have o:=h.lo;have f:=h.le;by_cases he:zu s=0
 .rw[he]at HV;have g:kg s.lo s.hi s.n s.total:=by
   unfold zu at he;split at he
   .assumption
   .omega
  have b:=h.n;by_cases hkn:0<=k/\k<s.n
  .obtain⟨j,rfl⟩:∃j:Nat,k=j:=⟨k.toNat,by omega⟩
   obtain⟨x,y,hx,hy,HO⟩:=qy s h i j (by omega) s.n 0 s.n s.total (zT _) (by omega) b (by omega) (by
    have:∀n,n<=8->(n<=1\/(0,n)∈eg):=by decide
    exact this _ b) g
   refine⟨x,0,by omega,.inl rfl,?_⟩;exact uB
  .refine⟨0,6,by omega,.inr (.inr rfl),?_⟩;by_cases hk0:k<0
   .exact uB
   .have:(s.n:Int)<=k:=by omega
    exact uB
 .have a:zu s=5:=by unfold zu at *;split at he<;>simp_all
  rw[a]at HV;refine⟨0,5,by omega,.inr (.inl rfl),?_⟩;exact uB
end
section
open Go
structure uW where
 seed:List Nat
 path:List Int
 from_:Nat
 to:Nat
 lo:Int
 hi:Int
abbrev rlC(r:uW):List D:=[dr r.seed,bv r.path,iD r.from_,iD r.to,iD r.lo,iD r.hi]
abbrev RJ(r:uW):D:=.agg (rlC r)
def uW.spt(r:uW):sA:=⟨r.seed,r.path++[0],r.from_,r.to,r.lo,r.hi⟩
structure mQ(r:uW):Prop where
 sd:gF r.seed
 pl:r.path.length<=5
 pv:∀v∈r.path,cp v
 fr:r.from_<=8
 to:r.to<=8
 lo:0<=r.lo
 le:r.lo<=r.hi
 hi:r.hi<=100
def mQ.spt{r:uW}(h:mQ r):mP r.spt:=
 ⟨h.sd,by have:=h.pl;simp[uW.spt];omega,λv a=>by
  rcases zO.1 a with a|a
  .exact h.pv v a
  .rw[zN]at a;subst a;exact⟨by omega,by omega⟩,h.to,h.lo,h.le,h.hi,by have:=h.fr;simp[uW.spt];omega⟩
def aQ3(r:uW)(h:mQ r):APure prog 195 [RJ r] (OJ r.spt):=by
 have h2:=h.pl;refine ap func195 ntmps195 λi=>?_
 repeat' first|refine au ?_|intro b;conv=>whnf
 refine Ap.go rfl rfl rfl rfl (ab.nil _ _) (show List.Perm _ ([]++_) from zH _) (FY r.path) (zs:=r.path.map λn=>[iD n]) rfl (by simp;omega) (by simp;omega) (λs=>s++_) (λs=>zH _) (λg f e a=>?_)
 repeat' first|refine au ?_|intro b;conv=>whnf
 refine Ap.frz rfl rfl rfl rfl a (zH _) rfl (zs:=(r.path++[0]).map λn=>[iD n]) (by rw[yB];rfl) (by simp;omega) (by simp;omega) ?_
 repeat' first|refine au ?_|intro b;conv=>whnf
 exact Rt.pure rfl
variable{A B:Prop}
def bp2(k:B)(h:ar B->A:=by intro q7;(first|refine bc ?_|refine aE ?_|(refine' aj ?hc ?_;(case hc=>first|exact HS|exact HV)));exact q7.1):A:=h ⟨k⟩
def bg7(r:uW)(h:mQ r):APure prog 193 [RJ r] (iD (zu r.spt)):=by
 have h2:=h.pl;have h3:=h.fr;have h4:=h.lo;have HS:=aQ3 r h;have HV:=aZ7 r.spt h.spt;refine ap func193 ntmps193 λa=>?_
 repeat refine bp2 ?_
 refine Rt.pure (zM iD ?_)
 rfl
def ON(k:B)(h:ar B->A:=by intro q7;(first|refine bc ?_|refine aE ?_|(refine' aj ?hc ?_;(case hc=>exact HP)));exact q7.1):A:=h ⟨k⟩
def Cu(r:uW)(h:mQ r)(i:Nat)(hi:i<r.from_):∃v:Nat,v<r.from_/\APure prog 196 [RJ r,iD i] (iD v):=by
 have h2:=h.pl;have h3:=h.fr;obtain⟨v,a,HP⟩:=n9 r.seed h.sd (r.path++[1]) ⟨by simp;omega,λv a=>by
  rcases zO.1 a with a|a
  .exact h.pv v a
  .rw[zN]at a;subst a;exact⟨by omega,by omega⟩⟩ r.from_ (by omega) i hi
 refine⟨v,a,?_⟩;refine ap func196 ntmps196 λj=>?_
 repeat refine ON ?_
 refine Ap.go rfl rfl rfl rfl (ab.nil _ _) (show List.Perm _ ([]++_) from zH _) (FY r.path) (zs:=r.path.map λn=>[iD n]) rfl (by simp;omega) (by simp;omega) (λs=>s++_) (λs=>zH _) (λg f e b=>?_)
 repeat refine ON ?_
 refine Ap.frz rfl rfl rfl rfl b (zH _) rfl (zs:=(r.path++[1]).map λn=>[iD n]) (by rw[yB];rfl) (by simp;omega) (by simp;omega) ?_
 repeat refine ON ?_
 refine Rt.pure (zM iD ?_)
 rfl
def A9(s:sA):zu s=0\/zu s=5:=by unfold zu;split<;>simp
def xe{lo c:Int}{n:Nat}{t:Int}{l:List Int}(h:eG lo c n t l)(p:0<=lo)(j:c<=100)(k:n<=8)(i:Nat):0<=(l.take i).sum/\(l.take i).sum<=800:=by
 have:∀m:List Int,(∀z∈m,0<=z/\z<=100)->0<=m.sum/\m.sum<=100*(m.length:Int):=by
  intro m b
  induction m with
  |nil=>simp
  |cons a m d=>
   have j:=b a yN;have g:=d λw f=>b w (yQ _ f);rw[List.sum_cons,List.length_cons];omega
 have g:=this (l.take i) (λz e=>by have:=h.all z (xG e);omega);have o:(l.take i).length<=l.length:=by rw[zR];omega
 have:=h.len;omega
def Bk(k:B)(h:ar B->A:=by intro q7;(first|refine bc ?_|refine aE ?_|(refine' aj ?hc ?_;(case hc=>first|exact HV|exact HS|exact HA|exact HU)));exact q7.1):A:=h ⟨k⟩
def aV1(r:uW)(h:mQ r)(F:pM r.spt)(ht:1<=r.to)(i:Nat)(hi:i<r.from_):∃(j:Nat)(u e:Int),j<r.to/\(0<=u/\u<=100)/\APure prog 149 [RJ r,iD i] (.tup [iD j,iD u,iD e]):=by
 have h3:=h.fr;have K:=h.to;have HV:=bg7 r h;rcases A9 r.spt with s|s
 .rw[s]at HV;have HS:=aQ3 r h;obtain⟨l,b,HA⟩:=B5 r.spt h.spt F s;obtain⟨v,I,HU⟩:=Cu r h i hi;have hl:l.length=r.to:=b.len;have g:l.sum=(r.from_:Int):=b.sum;have a:=xe b h.lo h.hi h.to;obtain⟨j,E,(D:(v:Int)<(l.take (j+1)).sum),o⟩:=sn (p:=λk=>(v:Int)<(l.take (k+1)).sum) (k:=l.length-1) (by
   show(v:Int)<(l.take (l.length-1+1)).sum;rw[show l.length-1+1=l.length by omega,yM,g];omega)
  have w:(l.take j).sum<=v:=by
   cases j with
   |zero=>simp
   |succ j=>
    have:¬(v:Int)<(l.take (j+1)).sum:=o j (by omega);omega
  refine⟨j,v-(l.take j).sum,0,by omega,by have:=a j;omega,?_⟩;have e0:(l.take 0).sum=0:=rfl;refine ap func149 ntmps149 λG=>?_
  repeat refine Bk ?_
  refine aO mixed ai (γ:=Nat) (λq=>[(10,iD ((v:Int)-(l.take q).sum)),(11,iD q)]) (λ_=>[]) (λq=>q<=j) (λq=>j-q) 0 (ah av) (Sc.refl _) (zW _) ?_;intro q J;obtain⟨y,f⟩:∃y,l[q]?=some y:=⟨_,zD (by omega)⟩
  have hy:l[((q:Nat):Int).toNat]?=some y:=f;have t:=aO9 f;have z:=a q;have x:=a (q+1);by_cases hqj:q<j
  .have C:¬(v:Int)<(l.take (q+1)).sum:=o q hqj
   repeat refine Bk ?_
   exact⟨q+1,(ah av),Sc.refl _,by omega,by omega⟩
  .obtain rfl:q=j:=by omega
   repeat refine Bk ?_
   exact Rt.pure rfl
 .rw[s]at HV;refine⟨0,0,5,by omega,by omega,?_⟩;refine ap func149 ntmps149 λG=>?_
  repeat refine Bk ?_
  exact Rt.pure rfl
def E2{p:Prop}(h:p:=by
 refine ap func155 ntmps155 λBB=>?_
 repeat refine Bk ?_
 exact Rt.pure rfl):p:=h
def aV2(r:uW)(h:mQ r)(f:pM r.spt)(j:Nat)(hj:j<=1000):∃(d e:Int),(0<=d/\d<=r.hi)/\APure prog 155 [RJ r,iD j] (.tup [iD d,iD e]):=by
 have HV:=bg7 r h;have h4:=h.lo;have h5:=h.le;rcases A9 r.spt with b|b
 .rw[b]at HV;by_cases hjt:j<r.to
  .have HS:=aQ3 r h;obtain⟨l,k,HA⟩:=B5 r.spt h.spt f b;have hl:l.length=r.to:=k.len;obtain⟨y,a⟩:∃y,l[j]?=some y:=⟨_,zD (by omega)⟩
   have hy:l[((j:Nat):Int).toNat]?=some y:=a;have hb:r.lo<=y/\y<=r.hi:=k.all y (zG a);refine⟨y,0,by omega,?_⟩;exact E2
  .refine⟨0,6,by omega,?_⟩;exact E2
 .rw[b]at HV;refine⟨0,5,by omega,?_⟩;exact E2
end
section
open Go
structure mS(l:bG):Prop where
 n:1<=l.tz.length/\l.tz.length<=12
 m:l.mz.length<=32
 q:∀q∈l.mz,(0<=q.1/\q.1<(l.tz.length:Int))/\(0<=q.2/\q.2<(l.tz.length:Int))
def bg8(l:bG)(h:mS l):APure prog 180 [cZ l] (iD 0):=by
 have h1:=h.n;have h2:=h.m;refine ap func180 ntmps180 λf=>?_
 repeat' first|refine au ?_|intro b;conv=>whnf
 refine aO mixed ai (γ:=Nat) (λi=>[(4,iD i)]) (λ_=>[]) (λi=>i<=l.mz.length) (λi=>l.mz.length-i) 0 (ah av) (Sc.refl _) (zW _) ?_;intro i hi;by_cases hil:i<l.mz.length
 .obtain⟨y,a⟩:∃y,l.mz[i]?=some y:=⟨_,zD hil⟩
  have hy:l.mz[((i:Nat):Int).toNat]?=some y:=a;have e:=h.q y (zG a)
  repeat' first|refine au ?_|intro b;conv=>whnf|((with_reducible refine' Ot.yd ?hyd ?_);(case hyd=>first|exact iE ai (m:=0) (q:=0) rfl rfl rfl rfl rfl rfl (by decide) rfl|exact iE ai (m:=1) (q:=1) rfl rfl rfl rfl rfl rfl (by decide) rfl))
  exact⟨i+1,(ah av),(Sc.sl (yG _ _)),by omega,by omega⟩
 .obtain rfl:i=l.mz.length:=by omega
  repeat' first|refine au ?_|intro b;conv=>whnf
  refine Rt.pure (zM iD ?_)
  rfl
def ci(mv:List (Int×Int))(s:Int):List Int:=(mv.filter λp=>decide (p.1=s)).map Prod.snd
def xh{mv:List (Int×Int)}{i:Nat}{y:Int×Int}(h:mv[i]?=some y)(s:Int):ci (mv.take (i+1)) s=ci (mv.take i) s++(if y.1=s then[y.2]else[]):=by
 unfold ci;rw[xC,h,vZ,yB]
 congr 1
 by_cases e:y.1=s<;>simp[e]
def DA(mv:List (Int×Int))(s:Int):(ci mv s).length<=mv.length:=by
 unfold ci;rw[zL];exact List.length_filter_le _ _
def bg9(l:bG)(h:mS l)(s:Int):APure prog 181 [cZ l,iD s] (bv (ci l.mz s)):=by
 have h2:=h.m;refine ap func181 ntmps181 λo=>?_
 repeat refine au ?_
 refine aO mixed ai (γ:=Nat×Value×ae) (λg=>[(6,iD g.1),(5,.v g.2.1)]) (λg=>g.2.2) (λg=>g.1<=l.mz.length/\N' (ci (l.mz.take g.1) s) g.2.1 g.2.2) (λg=>l.mz.length-g.1) (0,.slice none 0 0,[]) (ah av) (Sc.refl _) ⟨zW _,ab.nil _ _⟩ ?_;rintro⟨i,v,r⟩ ⟨hi,w⟩;simp only at hi w⊢;by_cases hil:i<l.mz.length
 .obtain⟨y,e⟩:∃y,l.mz[i]?=some y:=⟨_,zD hil⟩
  have hy:l.mz[((i:Nat):Int).toNat]?=some y:=e;have a:=xh e s;have f:=DA (l.mz.take (i+1)) s;rw[zR]at f;by_cases hys:y.1=s
  .rw[if_pos hys]at a;have b:ab 3 1 ((ci (l.mz.take i) s).map λn=>[iD n]) v r:=w
   repeat refine au ?_
   refine Ap.go rfl rfl rfl rfl b (bR _) rfl (zs:=(ci (l.mz.take (i+1)) s).map λn=>[iD n]) (by rw[a,yB];rfl) (by simp;omega) (by simp;omega) (λs'=>s') dF (λk j s' hr=>?_)
   repeat refine au ?_
   exact uz
  .rw[if_neg hys,zZ]at a;rw[←a]at w
   repeat refine au ?_
   exact⟨(i+1,v,r),(ah av),Sc.refl _,⟨by simp only;omega,w⟩,by simp only;omega⟩
 .obtain rfl:i=l.mz.length:=by omega
  rw[yM]at w
  repeat refine au ?_
  exact Rt.vs (Vs.row w (bR _))
def EP(sd:List Nat)(p:List Int){n:Int}(h:n=1\/n=2\/n=1099511627776):pQ sd p n:=by
 have:=lx sd p 0;rcases h with rfl|rfl|rfl<;>(refine⟨by decide,?_⟩;unfold JK;simp;omega)
def gg(l:List Int):Int:=l.getD (l.length-1) 0
def Ji(mv:List (Int×Int))(sd:List Nat)(p:List Int)(i:Nat)(c:Int):Int:=(ci mv c).getD (ej sd (p++[(i:Int)]) (ci mv c).length).toNat 0
def eW(mv:List (Int×Int))(sd:List Nat)(p:List Int):Nat->List Int
 |0=>[0]
 |i+1=>if ci mv (gg (eW mv sd p i))=[]then eW mv sd p i else eW mv sd p i++[Ji mv sd p i (gg (eW mv sd p i))]
section
variable {mv:List (Int×Int)} {sd:List Nat} {p:List Int}
def aN3:∀i,1<=(eW mv sd p i).length/\(eW mv sd p i).length<=i+1
 |0=>by simp[eW]
 |i+1=>by
  have:=aN3 i;rw[eW];split
  .omega
  .rw[zI,List.length_singleton];omega
def JP{l:List Int}(h:1<=l.length):l[l.length-1]?=some (gg l):=by
 unfold gg;rw[List.getD_eq_getElem?_getD,zD (by omega)];rfl
def tQ{i:Nat}{c:Int}(h:ci mv c≠[]):0<=ej sd (p++[(i:Int)]) (ci mv c).length/\ej sd (p++[(i:Int)]) (ci mv c).length<(ci mv c).length/\(ci mv c)[(ej sd (p++[(i:Int)]) (ci mv c).length).toNat]?=some (Ji mv sd p i c):=by
 have l:0<(ci mv c).length:=xS.2 h;have b:=Gz (sd:=sd) (p:=p++[(i:Int)]) (n:=(ci mv c).length) (by omega);refine⟨b.1,b.2,?_⟩;unfold Ji;rw[List.getD_eq_getElem?_getD,zD (by omega)];rfl
def lS{n:Int}(d:0<n)(c:∀q∈mv,0<=q.2/\q.2<n):∀i,∀z∈eW mv sd p i,0<=z/\z<n
 |0,z,h=>by simp[eW]at h;omega
 |i+1,z,h=>by
  rw[eW]at h;split at h
  .exact lS d c i z h
  .rename_i e;rcases zO.1 h with h|h
   .exact lS d c i z h
   .rw[zN]at h;subst h;obtain⟨_,_,g⟩:=tQ (sd:=sd) (p:=p) (i:=i) e;have f:=zG g;unfold ci at f;obtain⟨q,b,a⟩:=xM.1 f;rw[←a];exact c q ((vP.1 b).1)
def aW1{i:Nat}(h:ci mv (gg (eW mv sd p i))=[]):∀d,eW mv sd p (i+d)=eW mv sd p i
 |0=>rfl
 |d+1=>by
  have a:=aW1 h d;rw[←vQ,eW,a,if_pos h]
end
def S7{A B:Prop}(k:B)(h:ar B->A:=by intro q7;(first|refine bc ?_|refine jh ?_|(refine' aj ?hc ?_;(case hc=>first|exact HV|exact HM|exact HB)));exact q7.1):A:=h ⟨k⟩
def qn{A B:Prop}(k:B)(h:ar B->A:=by intro q7;(first|refine bc ?_|refine aE ?_|(refine' aj ?hc ?_;(case hc=>first|exact HV|exact HM|exact HB)));exact q7.1):A:=h ⟨k⟩
def Cz(l:bG)(h:mS l)(Q:∀s,(ci l.mz s).length<=2)(sd:List Nat)(hs:gF sd)(p:List Int)(U:p.length<=7)(z:∀v∈p,cp v)(k:Nat)(V:k<=100):APure prog 204 [cZ l,dr sd,bv p,iD k] (.tup [bv (eW l.mz sd p k),iD 0]):=by
 have T:=lq sd;have L:=hs.n;have HV:=bg8 l h;refine ap func204 ntmps204 λBB=>?_
 repeat' first|refine S7 ?_|intro b;conv=>whnf
 refine Bx.l ?_
 repeat' first|refine S7 ?_|intro b;conv=>whnf
 refine Bx.r ?_;refine Uy ai rfl rfl rfl rfl rfl rfl rfl rfl rfl rfl (by decide) (λE=>?_)
 repeat' first|refine qn ?_|intro b;conv=>whnf
 refine aO mixed ai (γ:=Nat×Value×ae) (λg=>[(12,iD g.1),(11,.v g.2.1)]) (λg=>g.2.2) (λg=>g.1<=k/\N' (eW l.mz sd p g.1) g.2.1 g.2.2) (λg=>k-g.1) (0,.slice (some ⟨E,0,none⟩) 1 1,[(E,.cells 3 [iD 0])]) (ah av) (Sc.refl _) ⟨zW _,Rm (xs:=[[iD 0]]) E (by simp) (by decide)⟩ ?_;rintro⟨i,v,r⟩ ⟨hi,w⟩;simp only at hi w⊢;by_cases hik:i<k
 .have M:=aN3 (mv:=l.mz) (sd:=sd) (p:=p) i;have C:=JP (l:=eW l.mz sd p i) (by omega);have a:ab 3 1 ((eW l.mz sd p i).map λn=>[iD n]) v r:=w;obtain⟨Z,G,u,R,D,o⟩:=ab.get a (show((eW l.mz sd p i).map λn=>[iD n])[(eW l.mz sd p i).length-1]?=some [iD (gg (eW l.mz sd p i))] by rw[qA,C];rfl);have e:=o 0 (by decide);rw[Nat.mul_one,Nat.add_zero]at e;have HM:=bg9 l h (gg (eW l.mz sd p i));have j:eW l.mz sd p (i+1)=if ci l.mz (gg (eW l.mz sd p i))=[]then eW l.mz sd p i else eW l.mz sd p i++[Ji l.mz sd p i (gg (eW l.mz sd p i))]:=rfl
  have P:=Q (gg (eW l.mz sd p i));have F:=aN3 (mv:=l.mz) (sd:=sd) (p:=p) (i+1);subst R D;have q:0+((((eW l.mz sd p i).map λn=>[iD n]).length:Int)-1).toNat*1=(eW l.mz sd p i).length-1:=by rw[zL];omega
  by_cases hmo:ci l.mz (gg (eW l.mz sd p i))=[]
  .have t:=aW1 hmo (k-i);rw[show i+(k-i)=k by omega]at t;rw[hmo]at HM
   repeat' first|refine qn ?_|intro b;conv=>whnf|(refine Ld.cellm (tb:=3) (cs:=u) (List.Mem.head _) (by rw[q];exact e) ?_)
   rw[t];exact Rt.vs (Vs.tup (.cons (Vs.row a (bR _)) (.cons (Vs.refl _ _) (.nil _))))
  .obtain⟨K,J,I⟩:=tQ (sd:=sd) (p:=p) (i:=i) hmo;rw[if_neg hmo]at j;have O:0<(ci l.mz (gg (eW l.mz sd p i))).length:=xS.2 hmo;have HB:=Ss sd hs (p++[(i:Int)]) ⟨by simp;omega,λv f=>by
    rcases zO.1 f with f|f
    .exact z v f
    .rw[zN]at f;subst f;exact⟨by omega,by omega⟩⟩ ((ci l.mz (gg (eW l.mz sd p i))).length:Int) (EP sd _ (by omega))
   rw[show((ci l.mz (gg (eW l.mz sd p i))).length:Int)=(((ci l.mz (gg (eW l.mz sd p i))).map λx=>[iD x]).length:Int) by rw[zL]]at HB K J I
   repeat' first|refine qn ?_|intro b;conv=>whnf|(refine Ld.cellm (tb:=3) (cs:=u) (List.Mem.head _) (by rw[q];exact e) ?_)
   refine Ap.go rfl rfl rfl rfl (ab.e0 _ _ (some ⟨b,0,none⟩)) (show List.Perm _ ([]++_) from zH _) (FY p) (zs:=p.map λn=>[iD n]) rfl (by simp;omega) (by simp;omega) (λs'=>s'++_) (λs'=>zH _) (λa5 X S y=>?_)
   repeat' first|refine qn ?_|intro b;conv=>whnf
   refine Ap.frz rfl rfl rfl rfl y (zH _) rfl (zs:=(p++[(i:Int)]).map λn=>[iD n]) (by rw[yB];rfl) (by simp;omega) (by simp;omega) ?_
   repeat' first|refine qn ?_|intro b;conv=>whnf
   refine Ap.go rfl rfl rfl rfl a (bR _) rfl (zs:=(eW l.mz sd p (i+1)).map λn=>[iD n]) (by rw[j,yB];rfl) (by rw[zL];omega) (by rw[zL];omega) (λs'=>s') dF (λa' Y s' hr=>?_)
   repeat' first|refine qn ?_|intro b;conv=>whnf
   exact uz
 .obtain rfl:i=k:=by omega
  repeat' first|refine qn ?_|intro b;conv=>whnf
  exact Rt.vs (Vs.tup (.cons (Vs.row w (bR _)) (.cons (Vs.refl _ _) (.nil _))))
end
section
open Go
structure ij where
 a:Int
 b:Int
 mul:Int
 least:Bool
abbrev PI(l:ij):List D:=[iD l.a,iD l.b,iD l.mul,bD l.least]
abbrev lmD(l:ij):D:=.agg (PI l)
abbrev Bi(ls:List ij):D:=.sl 4 (ls.map PI)
def Yw(l:ij)(n:Nat):Bool:=decide (0<=l.a)&&(decide (l.a<n)&&(decide (-1<=l.b)&&(decide (l.b<n)&&(decide (0<=l.mul)&&decide (l.mul<=65536)))))
def lT(cs:List Int):Bool:=cs.all λc=>decide (0<=c)&&decide (c<=65536)
def eF(l:ij)(cs:List Int):Int:=if 0<=l.b then l.mul*cs.getD l.b.toNat 0 else l.mul
def jU(l:ij)(cs:List Int):Bool:=Yw l cs.length&&lT cs&&(if l.least then decide (eF l cs<=cs.getD l.a.toNat 0)else decide (cs.getD l.a.toNat 0<=eF l cs))
def w7(l:ij)(n:Nat):APure prog 189 [lmD l,iD n] (bD (Yw l n)):=by
 refine ap func189 ntmps189 λa=>?_
 repeat' first|refine au ?_|(refine aZ ?_;constructor<;>intro hc)
 all_goals(refine Rt.pure (zM bD ?_);unfold Yw;first|(simp[*];done)|(simp_all;done)|(simp[*];omega)|(simp_all;omega))
def aD1(cs:List Int)(hl:cs.length<=1000):APure prog 98 [bv cs] (bD (lT cs)):=by
 unfold lT;refine ap func98 ntmps98 λg=>?_
 repeat refine au ?_
 refine aO mixed ai (γ:=Nat) (λi=>[(3,iD i)]) (λ_=>[]) (λi=>i<=cs.length/\(cs.take i).all (λc=>decide (0<=c)&&decide (c<=65536))=true) (λi=>cs.length-i) 0 (ah av) (Sc.refl _) ⟨zW _,rfl⟩ ?_;rintro i ⟨hi,b⟩;by_cases hil:i<cs.length
 .obtain⟨y,a⟩:∃y,cs[i]?=some y:=⟨_,zD hil⟩
  have hy:cs[((i:Nat):Int).toNat]?=some y:=a;by_cases hq:0<=y/\y<=65536
  .obtain⟨q,e⟩:=hq
   repeat refine au ?_
   refine⟨i+1,(ah av),Sc.refl _,⟨by omega,?_⟩,by omega⟩;rw[xC,a,List.all_append,b];simp;omega
  .have f:cs.all (λc=>decide (0<=c)&&decide (c<=65536))=false:=by
    rw[vT];exact⟨y,zG a,by simp;omega⟩
   rw[f];by_cases q:y<0
   .repeat refine au ?_
    refine Rt.pure (zM bD ?_);rfl
   .repeat refine au ?_
    refine Rt.pure (zM bD ?_);rfl
 .obtain rfl:i=cs.length:=by omega
  rw[yM]at b
  repeat refine au ?_
  refine Rt.pure (zM bD ?_);rw[b]
variable{A B:Prop}
def bp1(k:B)(h:ar B->A:=by intro q7;(first|refine bc ?_|refine aE ?_|(refine' aj ?hc ?_;(case hc=>first|exact HV|exact HN)));exact q7.1):A:=h ⟨k⟩
def br5(k:B)(h:ar B->A:=by intro q7;(first|refine Ht ?_|((with_reducible refine Ck.go ?qs7 ?_);(case qs7=>kernel_rfl))|((with_reducible refine' pA7 ?hy ?h0 ?_);(case hy=>exact hya);(case h0=>omega))|((with_reducible refine' pA7 ?hy ?h0 ?_);(case hy=>exact hyb);(case h0=>omega))|refine Gl ?_|refine AP ?_);exact q7.1):A:=h ⟨k⟩
def S6(k:B)(h:ar B->A:=by intro q7;(first|refine br5 ?_|refine aE ?_|(refine' aj ?hc ?_;(case hc=>first|exact HV|exact HN)));exact q7.1):A:=h ⟨k⟩
def Zr{p:Prop}(h:p:=by
 rw[hbd]
 cases hle:l.least with
 |true=>
  refine ap func145 ntmps145 λBB=>?_
  repeat refine S6 ?_
  refine Rt.pure (zM bD ?_);rfl
 |false=>
  refine ap func145 ntmps145 λBB=>?_
  repeat refine S6 ?_
  refine Rt.pure (zM bD ?_);rfl):p:=h
def M8{p:Prop}(h:p:=by
 refine ap func145 ntmps145 λBB=>?_
 repeat refine bp1 ?_
 refine Rt.pure (zM bD ?_);rfl):p:=h
def w9(l:ij)(cs:List Int)(hl:cs.length<=1000):APure prog 145 [lmD l,bv cs] (bD (jU l cs)):=by
 have HV:=w7 l cs.length;rw[show((cs.length:Nat):Int)=((cs.map λn=>[iD n]).length:Int) by rw[zL]]at HV;have HN:=aD1 cs hl;unfold jU
 cases v:Yw l cs.length with
 |false=>
  rw[v]at HV;exact M8
 |true=>
  rw[v]at HV
  cases e:lT cs with
  |false=>
   rw[e]at HN;exact M8
  |true=>
   rw[e]at HN;simp only[Yw,zJ,zQ]at v;obtain⟨r,q,o,k,j,i⟩:=v;obtain⟨g,hya⟩:∃y,cs[l.a.toNat]?=some y:=⟨_,zD (by omega)⟩
   have f:cs.getD l.a.toNat 0=g:=by rw[List.getD_eq_getElem?_getD,hya];rfl
   rw[f];have t:l.mul=((l.mul.toNat:Nat):Int):=by omega
   by_cases hb:0<=l.b
   .obtain⟨b,hyb⟩:∃y,cs[l.b.toNat]?=some y:=⟨_,zD (by omega)⟩
    have hbd:eF l cs=l.mul*b:=by unfold eF;rw[if_pos hb,List.getD_eq_getElem?_getD,hyb];rfl
    have a:0<=b/\b<=65536:=by
     unfold lT at e;have:=yA.1 e b (zG hyb);simp at this;omega
    have s:0<=l.mul*b/\l.mul*b<=4294967296:=⟨Int.mul_nonneg j a.1,Int.mul_le_mul (c:=65536) (d:=65536) i a.2 a.1 (by decide)⟩
    exact Zr
   .have hbd:eF l cs=l.mul:=by unfold eF;rw[if_neg hb]
    exact Zr
end
end Go.Proofs.YtilnpcolgcmofaaGreatDoor
