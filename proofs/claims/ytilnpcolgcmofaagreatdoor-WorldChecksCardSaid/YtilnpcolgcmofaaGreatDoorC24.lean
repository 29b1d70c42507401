/- A part of the proof. -/
import Derived.Test.YtilnpcolgcmofaaGreatDoorC23
set_option maxRecDepth 100000
set_option maxHeartbeats 20000000
set_option linter.all false
namespace Go.Proofs.YtilnpcolgcmofaaGreatDoor
open Tryz
section
open Go
def DO(f:an):Int:=if f.kind=2\/f.kind=4 then f.lo else 0
def Eg(f:an):Int:=if f.kind=2\/f.kind=4 then f.hi else 0
def mX(k:aq)(f:an):Int:=if f.kind=4/\dz f.of=false then bb k f.of else -1
def MR(k:aq)(i:Nat)(f:an):List jH:=[⟨mX k f,i,-(DO f)⟩,⟨i,mX k f,Eg f⟩]
def mY(k:aq):Nat->List jH
 |0=>[]
 |i+1=>mY k i++(match k.fields[i]? with|some f=>MR k i f|none=>[])
def uu(x:ak)(j:Nat)(k:aq):Nat->List jH
 |0=>[]
 |i+1=>uu x j k i++(match x.rules[i]? with|some r=>(if bi x r.kind=j then[⟨bb k r.a,bb k r.b,r.n⟩]else[])|none=>[])
def cv(x:ak)(j:Nat)(k:aq):List jH:=mY k k.fields.length++uu x j k x.rules.length
def bd5(k:aq):∀q,(mY k q).length<=2*q
 |0=>by simp[mY]
 |q+1=>by
  have:=bd5 k q;rw[mY,zI];split
  .simp only[MR,List.length_cons,List.length_nil];omega
  .simp only[List.length_nil];omega
def mh(x:ak)(j:Nat)(k:aq):∀q,(uu x j k q).length<=q
 |0=>by simp[uu]
 |q+1=>by
  have:=mh x j k q;rw[uu,zI];split
  .split
   .simp only[List.length_cons,List.length_nil];omega
   .simp only[List.length_nil];omega
  .simp only[List.length_nil];omega
variable{p:Prop}
def M2(h:p:=by
 rw[show(⟨#[]⟩:ByteArray).toList=[] by rw[ByteArray.toList_eq]];unfold dz
 cases s.toList<;>rfl):p:=h
def bi6(s:ByteArray):(s.toList==(⟨#[]⟩:ByteArray).toList)=dz s:=M2
def fX{A B:Prop}(k:B)(h:ar B->A:=by intro q7;(first|refine bc ?_|refine aE ?_|(refine' aj ?hc ?_;(case hc=>first|exact HF|exact HK|exact HA|exact HB)));exact q7.1):A:=h ⟨k⟩
def bj8(h:p:=by rw[hdn,yB];unfold MR;first|(rw[el,eh,eo];done)|(rw[el,eh,eo];rfl)):p:=h
def ZD(h:p:=by
 have eo:mX kd f= -1:=by unfold mX;rw[if_neg (λe=>by omega)]
 repeat' first|refine fX ?_|intro b;conv=>whnf
 refine Ap.go rfl rfl rfl rfl hr (tJ _ _ _) rfl (zs:=(mY kd (i+1)).map RR) bj8 (by rw[zL];omega) (by rw[zL];omega) (λs'=>_::_::s') (bi1 _ _) (λa' c' s' hr=>?_)
 repeat' first|refine fX ?_|intro b;conv=>whnf
 exact⟨(i+1,_,s'),(ah av),(Sc.sl (yG _ _)),⟨by simp only;omega,hr⟩,by simp only;omega⟩):p:=h
def ZB(h:p:=by
 repeat' first|refine fX ?_|intro b;conv=>whnf
 refine Ap.go rfl rfl rfl rfl hr (tJ _ _ _) rfl (zs:=(mY kd (i+1)).map RR) bj8 (by rw[zL];omega) (by rw[zL];omega) (λs'=>_::_::s') (bi1 _ _) (λa' c' s' hr=>?_)
 repeat' first|refine fX ?_|intro b;conv=>whnf
 exact⟨(i+1,_,s'),(ah av),(Sc.sl (yG _ _)),⟨by simp only;omega,hr⟩,by simp only;omega⟩):p:=h
def aQ0(x:ak)(h:p9 x)(j:Nat)(kd:aq)(l:x.kz[j]?=some kd)(o:∀f∈kd.fields,-2097152<=f.lo/\f.lo<=2097152):APure prog 106 [aw x,iD j] (nL (cv x j kd)):=by
 have C:=h.nk;have z:=h.nr;have G:=(zE.1 l).1;have I:x.kz[((j:Nat):Int).toNat]?=some kd:=l;have D:=h.nf kd (zG l);refine ap func106 ntmps106 λK=>?_
 repeat' first|refine fX ?_|intro b;conv=>whnf
 obtain⟨t,rfl⟩:∃c,c=b:=⟨_,rfl⟩
 refine aO mixed ai (γ:=Nat×Value×ae) (λg=>[(7,iD g.1),(5,.v g.2.1)]) (λg=>(t,.cells 78 (aD kd))::g.2.2) (λg=>g.1<=kd.fields.length/\ab 255 3 ((mY kd g.1).map RR) g.2.1 g.2.2) (λg=>kd.fields.length-g.1) (0,.slice none 0 0,[]) (ah av) (Sc.refl _) ⟨zW _,ab.nil _ _⟩ ?_;rintro⟨i,v,s⟩ ⟨hi,hr⟩;simp only at hi hr⊢;by_cases hil:i<kd.fields.length
 .obtain⟨f,a⟩:∃y,kd.fields[i]?=some y:=⟨_,zD hil⟩
  have J:kd.fields[((i:Nat):Int).toNat]?=some f:=a;have F:=o f (zG a);have hdn:mY kd (i+1)=mY kd i++MR kd i f:=by rw[mY,a]
  have q:=bd5 kd (i+1);have HF:=nd kd f.of (by omega);by_cases h2:f.kind=2
  .have el:DO f=f.lo:=by unfold DO;rw[if_pos (.inl h2)]
   have eh:Eg f=f.hi:=by unfold Eg;rw[if_pos (.inl h2)]
   exact ZD
  .by_cases h4:f.kind=4
   .have el:DO f=f.lo:=by unfold DO;rw[if_pos (.inr h4)]
    have eh:Eg f=f.hi:=by unfold Eg;rw[if_pos (.inr h4)]
    have E:=bi6 f.of;by_cases ho:dz f.of=true
    .have eo:mX kd f= -1:=by unfold mX;rw[if_neg (λe=>by rw[ho]at e;cases e.2)]
     rw[ho]at E;exact ZB
    .rw[Bool.not_eq_true]at ho;rw[ho]at E;have eo:mX kd f=bb kd f.of:=by unfold mX;rw[if_pos ⟨h4,ho⟩]
     exact ZB
   .have el:DO f=0:=by unfold DO;rw[if_neg (by omega)]
    have eh:Eg f=0:=by unfold Eg;rw[if_neg (by omega)]
    exact ZD
 .obtain rfl:i=kd.fields.length:=by omega
  have w:=bd5 kd kd.fields.length
  repeat' first|refine fX ?_|intro b;conv=>whnf
  refine aO mixed ai (γ:=Nat×Value×ae) (λg=>[(12,iD g.1),(5,.v g.2.1)]) (λg=>(t,.cells 78 (aD kd))::g.2.2) (λg=>g.1<=x.rules.length/\ab 255 3 ((mY kd kd.fields.length++uu x j kd g.1).map RR) g.2.1 g.2.2) (λg=>x.rules.length-g.1) (0,v,s) (ah av) (Sc.refl _) ⟨zW _,by rw[uu,zZ];exact hr⟩ ?_;rintro⟨i,v,s⟩ ⟨hi,hr⟩;simp only at hi hr⊢;by_cases hil:i<x.rules.length
  .obtain⟨r,k⟩:∃y,x.rules[i]?=some y:=⟨_,zD hil⟩
   have u:x.rules[((i:Nat):Int).toNat]?=some r:=k;have hdn:uu x j kd (i+1)=uu x j kd i++(if bi x r.kind=j then[⟨bb kd r.a,bb kd r.b,r.n⟩]else[]):=by rw[uu,k]
   have q:=mh x j kd (i+1);have HK:=An x r.kind (by omega);have HA:=nd kd r.a (by omega);have HB:=nd kd r.b (by omega);by_cases hkj:bi x r.kind=j
   .rw[if_pos hkj]at hdn
    repeat' first|refine fX ?_|intro b;conv=>whnf
    refine Ap.go rfl rfl rfl rfl hr (tJ _ _ _) rfl (zs:=(mY kd kd.fields.length++uu x j kd (i+1)).map RR) (by rw[hdn,←zV];simp only[yB];rfl) (by rw[zL,zI];omega) (by rw[zL,zI];omega) (λs'=>_::_::s') (bi1 _ _) (λa' c' s' hr=>?_)
    repeat' first|refine fX ?_|intro b;conv=>whnf
    exact⟨(i+1,_,s'),(ah av),(Sc.sl (yG _ _)),⟨by simp only;omega,hr⟩,by simp only;omega⟩
   .rw[if_neg hkj,zZ]at hdn
    repeat' first|refine fX ?_|intro b;conv=>whnf
    exact⟨(i+1,v,s),(ah av),(Sc.sl (yG _ _)),⟨by simp only;omega,by rw[hdn];exact hr⟩,by simp only;omega⟩
  .obtain rfl:i=x.rules.length:=by omega
   repeat' first|refine fX ?_|intro b;conv=>whnf
   exact Rt.vs (Vs.row hr (GN _ _))
end
section
open Go
def D8:dz nE=true:=ur
def uv{k:aq}{d:jH}:∀{q:Nat},d∈mY k q->∃(i:Nat)(f:an),k.fields[i]?=some f/\d∈MR k i f
 |0,h=>by simp[mY]at h
 |q+1,h=>by
  rw[mY]at h;rcases zO.1 h with h|h
  .exact uv h
  .split at h
   .rename_i f a;exact⟨q,f,a,h⟩
   .cases h
def EQ{k:aq}{i:Nat}{f:an}(a:k.fields[i]?=some f){d:jH}(b:d∈MR k i f):∀{q:Nat},i<q->d∈mY k q
 |q+1,h=>by
  rw[mY];by_cases e:i=q
  .subst e;rw[a];exact yW _ b
  .exact xK _ (EQ a b (by omega))
def ut{x:ak}{j:Nat}{k:aq}{d:jH}:∀{q:Nat},d∈uu x j k q->∃r∈x.rules,bi x r.kind=j/\d=⟨bb k r.a,bb k r.b,r.n⟩
 |0,h=>by simp[uu]at h
 |q+1,h=>by
  rw[uu]at h;rcases zO.1 h with h|h
  .exact ut h
  .split at h
   .rename_i r a;split at h
    .rename_i e;rw[zN]at h;exact⟨r,zG a,e,h⟩
    .cases h
   .cases h
variable{x:ak}{j:Nat}{k:aq}{f:an}
def DN(h:cg x){i:Nat}(a:x.kz[i]?=some k)(b:k.fields[j]?=some f):(-300<=DO f/\DO f<=300)/\(-300<=Eg f/\Eg f<=300):=by
 have:=h.fb a b;unfold DO Eg;split<;>omega
def C3(h:cg x){i:Nat}(b:x.kz[i]?=some k)(c:k.fields[j]?=some f):mX k f= -1\/∃(n:Nat)(g:an),n<j/\mX k f=n/\k.fields[n]?=some g/\mX k g= -1:=by
 unfold mX;split
 .rename_i e
  cases h.gf b c with
  |day a q o=>
   rcases o with o|⟨n,g,p,m,l,r,d⟩
   .exfalso;rw[o,D8]at e;cases e.2
   .refine .inr ⟨n,g,p,m,l,?_⟩;rw[if_neg (λe=>by rw[d,D8]at e;cases e.2)]
  |above a=>omega
  |_ a=>omega
 .exact .inl rfl
variable{r:cH}
def cB.sides(h:cg x){t:Nat}(s:x.kz[t]?=some k)(R:cB k r):bb k r.a≠bb k r.b/\(-1000<=r.n/\r.n<=1000):=by
 have H:=h.hx;have F:=H.form t k s;have N:=F.nodup;have low:=F.low;have m:bb k nE= -1:=by
  unfold bb idx
  cases A:List.findIdx? (λf:an=>seq f.name nE) k.fields with
  |none=>rfl
  |some o=>
   exfalso;obtain⟨D,C,_⟩:=wB.1 A;have:=F.nms _ (wE D);rw[(FD _ _).1 C]at this;revert this;decide +kernel
 have c:∀{f:an},f∈k.fields->∃j:Nat,bb k f.name=j/\k.fields[j]?=some f:=λ{f}d=>by
  obtain⟨j,z⟩:=yO d;exact⟨j,z7 N z,z⟩
 cases R with
 |low w n y=>
  obtain⟨f,d,e⟩:=Sa n;obtain⟨E,g,B,v,G⟩:=(low f d).1 e;obtain⟨a,q,l⟩:=c d;obtain⟨b,u,p⟩:=c B;refine⟨?_,by simp only;omega,by simp only;omega⟩
  show bb k gP≠bb k fo;rw[←e,←v,q,u];intro I;obtain rfl:a=b:=by omega
  rw[l]at p;cases p
  rw[e]at v;revert v;decide +kernel
 |most f2 w n i y=>
  obtain⟨f,d,e⟩:=Sa n;obtain⟨a,q,l⟩:=c d;have u:=h.fb s i;refine⟨?_,by simp only;omega,by simp only;omega⟩
  show bb k bw≠bb k nE;rw[←e,q,m];omega
 |least f2 w n i y=>
  obtain⟨f,d,e⟩:=Sa n;obtain⟨a,q,l⟩:=c d;have u:=h.fb s i;refine⟨?_,by simp only;omega,by simp only;omega⟩
  show bb k nE≠bb k bw;rw[←e,q,m];omega
def cg.rul(h:cg x)(d:r∈x.rules)(g:bi x r.kind=j)(f:x.kz[j]?=some k):cB k r:=by
 have H:=h.hx;obtain⟨i,_,l⟩:=h.rs;have N:∀(t:Nat)y,x.kz[t]?=some y->y.name=bA t:=λt y c=>(H.form t y c).name;obtain⟨_,m⟩:=l.facts N H.nk;obtain⟨t,b,_,a,R⟩:=m r d;have e:r.kind=b.name:=by cases R<;>rfl
 rw[e,N t b a,H.kix a]at g;obtain rfl:t=j:=by omega
 rw[f]at a;cases a
 exact R
def YO{p:Prop}(h:p:=by
 refine⟨⟨by simp only;omega,by simp only;omega⟩,⟨by simp only;omega,by simp only;omega⟩,by simp only;omega,by simp only;omega,by simp only;omega⟩):p:=h
def J9(h:cg x)(b:x.kz[j]?=some k):sG k.fields.length (cv x j k) where
 n:=h.sm.nf k (zG b)
 l:=by
  have w:=bd5 k k.fields.length;have C:=mh x j k x.rules.length;have B:=h.sm.nf k (zG b);have A:=h.nr;unfold cv;rw[zI];omega
 v:=λd a=>by
  unfold cv at a;rcases zO.1 a with a|a
  .obtain⟨i,f,c,a⟩:=uv a;have t:=(zE.1 c).1;have z:=DN h b c;have q:=C3 h b c;have o:-1<=mX k f/\mX k f<k.fields.length/\mX k f≠i:=by
    rcases q with e|⟨n,g,w,e,_⟩
    .omega
    .omega
   unfold MR at a;simp only[zU,yF,xE]at a;rcases a with rfl|rfl
   .exact YO
   .exact YO
  .obtain⟨r,m,u,rfl⟩:=ut a;obtain⟨s,y⟩:=(h.rul m u b).sides h b;exact⟨⟨aX2 _ _,KW _ _⟩,⟨aX2 _ _,KW _ _⟩,s,by simp only;omega,by simp only;omega⟩
def A4{n:Nat}{s:List jH}{d:jH}{q:Nat}(b:s[q]?=some d):∀i,q<i->cC n s i (cx n d.a) (cx n d.b)<=d.n
 |i+1,h=>by
  rw[cC];by_cases e:q=i
  .subst e;rw[b];simp only[lG,and_self,if_true];split<;>omega
  .have a:=A4 (n:=n) b i (by omega)
   cases f:s[i]? with
   |none=>exact a
   |some g=>
    simp only[lG];split
    .rename_i c;rw[c.1,c.2]at a;split<;>omega
    .exact a
def Ff{n:Nat}{s:List jH}{d:jH}(a:d∈s):cO n s (cx n d.a) (cx n d.b)<=d.n:=by
 obtain⟨q,h⟩:=yO a;exact Int.le_trans (mG (n+1) (cC n s s.length) _ _ (zW (n+1))) (A4 h _ (zE.1 h).1)
def Mr{n:Nat}(h:n<=10):(2:Int) ^ (n+1)<=2048:=by
 have:n=0\/n=1\/n=2\/n=3\/n=4\/n=5\/n=6\/n=7\/n=8\/n=9\/n=10:=by omega
 rcases this with rfl|rfl|rfl|rfl|rfl|rfl|rfl|rfl|rfl|rfl|rfl<;>decide
def Uu{n:Nat}:(0:Int)<=2 ^ n:=Int.le_of_lt (Int.pow_pos (by decide))
def sU{n:Nat}{s:List jH}(h:sG n s):∀i a b,cC n s i a b<dI->cC n s i a b<=2097152
 |0,a,b=>by rw[cC];unfold lD;split<;>omega
 |i+1,a,b=>by
  have c:=sU h i;rw[cC]
  cases e:s[i]? with
  |none=>exact c a b
  |some d=>
   have v:=(h.v d (zG e)).2.2.2;simp only;unfold lG;split
   .split
    .omega
    .exact c _ _
   .exact c a b
def n5(n i:Nat):cx n (i:Int)=i:=by unfold cx;rw[if_neg (by omega),Int.toNat_natCast]
def tA(n:Nat):cx n (-1)=n:=by unfold cx;rw[if_pos (by omega)]
def Kf(h:cg x)(t:x.kz[j]?=some k)(N:fm (k.fields.length+1) (cO k.fields.length (cv x j k))=false):sC k.fields.length (2 ^ (k.fields.length+1)*2097152) (cO k.fields.length (cv x j k)):=by
 have D:=J9 h t;have z:=D.n;have E:dI=1099511627776:=rfl;have H:=Mr z;have y:=Uu (n:=k.fields.length+1);have p:∀q,q<k.fields.length+1->0<=cO k.fields.length (cv x j k) q q:=λq s=>by
  unfold fm at N;rw[List.any_eq_false]at N;have:=N q (xT.2 s)
  simpa using this
 have u:2 ^ (k.fields.length+1)*2097152<dI:=by omega
 have C:Oc (k.fields.length+1) (k.fields.length+1) (2 ^ (k.fields.length+1)*2097152) (cO k.fields.length (cv x j k)):=
  pC (m:=k.fields.length+1) (B:=2097152) (by decide) u ⟨λa b q _ _ s=>by omega,λa b _ _ c=>by
   have:=sV D (cv x j k).length a b;have:=sU D (cv x j k).length a b c;omega,λa b _ _=>by
   have:=sV D (cv x j k).length a b;omega⟩ p _ (zT _)
 have o:∀{i:Nat}{f:an}{d:jH},k.fields[i]?=some f->d∈MR k i f->d∈cv x j k:=λ{i f d}c p=>xK _ (EQ c p (zE.1 c).1);have l:∀(i:Nat)(f:an),k.fields[i]?=some f->∀(r:Nat),cx k.fields.length (mX k f)=r->cO k.fields.length (cv x j k) r i<=300/\cO k.fields.length (cv x j k) i r<=300:=λi f c r w=>by
  have I:=DN h t c;have c1:=Ff (n:=k.fields.length) (o (d:=⟨mX k f,i,-(DO f)⟩) c yN);have G:=Ff (n:=k.fields.length) (o (d:=⟨i,mX k f,Eg f⟩) c (yQ _ (zN.2 rfl)));simp only[n5,w]at c1 G;omega
 refine⟨C,p,λi A=>?_,by omega⟩;obtain⟨f,c⟩:∃f,k.fields[i]?=some f:=⟨_,zD A⟩
 rcases C3 h t c with e|⟨q,g,J,e,v,F⟩
 .have:=l i f c k.fields.length (by rw[e,tA]);omega
 .have L:=l i f c q (by rw[e,n5]);have K:=l q g v k.fields.length (by rw[F,tA]);have s:=(zE.1 v).1;have t1:=C.tri i k.fields.length q (by omega) (by omega) (by omega) (by omega) (by omega);have t2:=C.tri k.fields.length i q (by omega) (by omega) (by omega) (by omega) (by omega);omega
end
section
open Go
def FN:iF.length=1221:=by decide +kernel
set_option maxRecDepth 100000
def ln0:af (ao 0)=true:=by decide +kernel
def ln1:af (ao 1)=true:=by decide +kernel
def ln2:af (ao 2)=true:=by decide +kernel
def ln3:af (ao 3)=true:=by decide +kernel
def ln4:af (ao 4)=true:=by decide +kernel
def ln5:af (ao 5)=true:=by decide +kernel
def ln6:af (ao 6)=true:=by decide +kernel
def ln7:af (ao 7)=true:=by decide +kernel
def ln8:af (ao 8)=true:=by decide +kernel
def ln9:af (ao 9)=true:=by decide +kernel
def bC9:af (ao 10)=true:=by decide +kernel
def bC8:af (ao 11)=true:=by decide +kernel
def bC7:af (ao 12)=true:=by decide +kernel
def bC6:af (ao 13)=true:=by decide +kernel
def bC5:af (ao 14)=true:=by decide +kernel
def bC4:af (ao 15)=true:=by decide +kernel
def bC3:af (ao 16)=true:=by decide +kernel
def bC2:af (ao 17)=true:=by decide +kernel
def bC1:af (ao 18)=true:=by decide +kernel
def bC0:af (ao 19)=true:=by decide +kernel
def bB9:af (ao 20)=true:=by decide +kernel
def bB8:af (ao 21)=true:=by decide +kernel
def bB7:af (ao 22)=true:=by decide +kernel
def bB6:af (ao 23)=true:=by decide +kernel
def bB5:af (ao 24)=true:=by decide +kernel
def bB4:af (ao 25)=true:=by decide +kernel
def bB3:af (ao 26)=true:=by decide +kernel
def bB2:af (ao 27)=true:=by decide +kernel
def bB1:af (ao 28)=true:=by decide +kernel
def bB0:af (ao 29)=true:=by decide +kernel
def bA9:af (ao 30)=true:=by decide +kernel
def bA8:af (ao 31)=true:=by decide +kernel
def bA7:af (ao 32)=true:=by decide +kernel
def bA6:af (ao 33)=true:=by decide +kernel
def bA5:af (ao 34)=true:=by decide +kernel
def bA4:af (ao 35)=true:=by decide +kernel
def bA3:af (ao 36)=true:=by decide +kernel
def bA2:af (ao 37)=true:=by decide +kernel
def bA1:af (ao 38)=true:=by decide +kernel
def bA0:af (ao 39)=true:=by decide +kernel
def bz9:af (ao 40)=true:=by decide +kernel
def bz8:af (ao 41)=true:=by decide +kernel
def bz7:af (ao 42)=true:=by decide +kernel
def bz6:af (ao 43)=true:=by decide +kernel
def bz5:af (ao 44)=true:=by decide +kernel
def bz4:af (ao 45)=true:=by decide +kernel
def bz3:af (ao 46)=true:=by decide +kernel
def bz2:af (ao 47)=true:=by decide +kernel
def bz1:af (ao 48)=true:=by decide +kernel
def bz0:af (ao 49)=true:=by decide +kernel
def by9:af (ao 50)=true:=by decide +kernel
def by8:af (ao 51)=true:=by decide +kernel
def by7:af (ao 52)=true:=by decide +kernel
def by6:af (ao 53)=true:=by decide +kernel
def by5:af (ao 54)=true:=by decide +kernel
def by4:af (ao 55)=true:=by decide +kernel
def by3:af (ao 56)=true:=by decide +kernel
def by2:af (ao 57)=true:=by decide +kernel
def by1:af (ao 58)=true:=by decide +kernel
def by0:af (ao 59)=true:=by decide +kernel
def bx9:af (ao 60)=true:=by decide +kernel
def bx8:af (ao 61)=true:=by decide +kernel
def bx7:af (ao 62)=true:=by decide +kernel
def bx6:af (ao 63)=true:=by decide +kernel
def bx5:af (ao 64)=true:=by decide +kernel
def bx4:af (ao 65)=true:=by decide +kernel
def bx3:af (ao 66)=true:=by decide +kernel
def bx2:af (ao 67)=true:=by decide +kernel
def bx1:af (ao 68)=true:=by decide +kernel
def bx0:af (ao 69)=true:=by decide +kernel
def bw9:af (ao 70)=true:=by decide +kernel
def bw8:af (ao 71)=true:=by decide +kernel
def bw7:af (ao 72)=true:=by decide +kernel
def bw6:af (ao 73)=true:=by decide +kernel
def bw5:af (ao 74)=true:=by decide +kernel
def bw4:af (ao 75)=true:=by decide +kernel
def bw3:af (ao 76)=true:=by decide +kernel
def bw2:af (ao 77)=true:=by decide +kernel
def bw1:af (ao 78)=true:=by decide +kernel
def bw0:af (ao 79)=true:=by decide +kernel
def bv9:af (ao 80)=true:=by decide +kernel
def bv8:af (ao 81)=true:=by decide +kernel
def bv7:af (ao 82)=true:=by decide +kernel
def bv6:af (ao 83)=true:=by decide +kernel
def bv5:af (ao 84)=true:=by decide +kernel
def bv4:af (ao 85)=true:=by decide +kernel
def bv3:af (ao 86)=true:=by decide +kernel
def bv2:af (ao 87)=true:=by decide +kernel
def bv1:af (ao 88)=true:=by decide +kernel
def bv0:af (ao 89)=true:=by decide +kernel
def bu9:af (ao 90)=true:=by decide +kernel
def bu8:af (ao 91)=true:=by decide +kernel
def bu7:af (ao 92)=true:=by decide +kernel
def bu6:af (ao 93)=true:=by decide +kernel
def bu5:af (ao 94)=true:=by decide +kernel
def bu4:af (ao 95)=true:=by decide +kernel
def bu3:af (ao 96)=true:=by decide +kernel
def bu2:af (ao 97)=true:=by decide +kernel
def bu1:af (ao 98)=true:=by decide +kernel
def bu0:af (ao 99)=true:=by decide +kernel
def Yv:af (ao 100)=true:=by decide +kernel
def Yu:af (ao 101)=true:=by decide +kernel
def Yt:af (ao 102)=true:=by decide +kernel
def Yr:af (ao 103)=true:=by decide +kernel
def Yq:af (ao 104)=true:=by decide +kernel
def Yp:af (ao 105)=true:=by decide +kernel
def Yo:af (ao 106)=true:=by decide +kernel
def Yn:af (ao 107)=true:=by decide +kernel
def X9:af (ao 108)=true:=by decide +kernel
def X8:af (ao 109)=true:=by decide +kernel
def X7:af (ao 110)=true:=by decide +kernel
def X6:af (ao 111)=true:=by decide +kernel
def X5:af (ao 112)=true:=by decide +kernel
def X4:af (ao 113)=true:=by decide +kernel
def X3:af (ao 114)=true:=by decide +kernel
def X2:af (ao 115)=true:=by decide +kernel
def X1:af (ao 116)=true:=by decide +kernel
def X0:af (ao 117)=true:=by decide +kernel
def XZ:af (ao 118)=true:=by decide +kernel
def XY:af (ao 119)=true:=by decide +kernel
def XX:af (ao 120)=true:=by decide +kernel
def XW:af (ao 121)=true:=by decide +kernel
def XV:af (ao 122)=true:=by decide +kernel
def XU:af (ao 123)=true:=by decide +kernel
def XT:af (ao 124)=true:=by decide +kernel
def XS:af (ao 125)=true:=by decide +kernel
def XR:af (ao 126)=true:=by decide +kernel
def XQ:af (ao 127)=true:=by decide +kernel
def XP:af (ao 128)=true:=by decide +kernel
def XO:af (ao 129)=true:=by decide +kernel
def XN:af (ao 130)=true:=by decide +kernel
def XM:af (ao 131)=true:=by decide +kernel
def XL:af (ao 132)=true:=by decide +kernel
def XK:af (ao 133)=true:=by decide +kernel
def XJ:af (ao 134)=true:=by decide +kernel
def XI:af (ao 135)=true:=by decide +kernel
def XH:af (ao 136)=true:=by decide +kernel
def XG:af (ao 137)=true:=by decide +kernel
def XF:af (ao 138)=true:=by decide +kernel
def XE:af (ao 139)=true:=by decide +kernel
def XD:af (ao 140)=true:=by decide +kernel
def XC:af (ao 141)=true:=by decide +kernel
def XB:af (ao 142)=true:=by decide +kernel
def XA:af (ao 143)=true:=by decide +kernel
def Xz:af (ao 144)=true:=by decide +kernel
def Xy:af (ao 145)=true:=by decide +kernel
def Xx:af (ao 146)=true:=by decide +kernel
def Xw:af (ao 147)=true:=by decide +kernel
def Xv:af (ao 148)=true:=by decide +kernel
def Xu:af (ao 149)=true:=by decide +kernel
def Xt:af (ao 150)=true:=by decide +kernel
def Xs:af (ao 151)=true:=by decide +kernel
def Xr:af (ao 152)=true:=by decide +kernel
def Xq:af (ao 153)=true:=by decide +kernel
def Xp:af (ao 154)=true:=by decide +kernel
def Xo:af (ao 155)=true:=by decide +kernel
def Xn:af (ao 156)=true:=by decide +kernel
def Xm:af (ao 157)=true:=by decide +kernel
def Xl:af (ao 158)=true:=by decide +kernel
def Xk:af (ao 159)=true:=by decide +kernel
def Xj:af (ao 160)=true:=by decide +kernel
def W9:af (ao 161)=true:=by decide +kernel
def W8:af (ao 162)=true:=by decide +kernel
def W7:af (ao 163)=true:=by decide +kernel
def W6:af (ao 164)=true:=by decide +kernel
def W5:af (ao 165)=true:=by decide +kernel
def W4:af (ao 166)=true:=by decide +kernel
def W0:af (ao 167)=true:=by decide +kernel
def WZ:af (ao 168)=true:=by decide +kernel
def WY:af (ao 169)=true:=by decide +kernel
def WX:af (ao 170)=true:=by decide +kernel
def WW:af (ao 171)=true:=by decide +kernel
def WV:af (ao 172)=true:=by decide +kernel
def WU:af (ao 173)=true:=by decide +kernel
def WT:af (ao 174)=true:=by decide +kernel
def WS:af (ao 175)=true:=by decide +kernel
def WR:af (ao 176)=true:=by decide +kernel
def WQ:af (ao 177)=true:=by decide +kernel
def WP:af (ao 178)=true:=by decide +kernel
def WO:af (ao 179)=true:=by decide +kernel
def WN:af (ao 180)=true:=by decide +kernel
def WM:af (ao 181)=true:=by decide +kernel
def WL:af (ao 182)=true:=by decide +kernel
def WK:af (ao 183)=true:=by decide +kernel
def WJ:af (ao 184)=true:=by decide +kernel
def WI:af (ao 185)=true:=by decide +kernel
def WH:af (ao 186)=true:=by decide +kernel
def WG:af (ao 187)=true:=by decide +kernel
def WF:af (ao 188)=true:=by decide +kernel
def WE:af (ao 189)=true:=by decide +kernel
def WD:af (ao 190)=true:=by decide +kernel
def WC:af (ao 191)=true:=by decide +kernel
def WB:af (ao 192)=true:=by decide +kernel
def WA:af (ao 193)=true:=by decide +kernel
def Wz:af (ao 194)=true:=by decide +kernel
def Wy:af (ao 195)=true:=by decide +kernel
def Wx:af (ao 196)=true:=by decide +kernel
def Ww:af (ao 197)=true:=by decide +kernel
def Wv:af (ao 198)=true:=by decide +kernel
def Wu:af (ao 199)=true:=by decide +kernel
def Wt:af (ao 200)=true:=by decide +kernel
def Wr:af (ao 201)=true:=by decide +kernel
def Wq:af (ao 202)=true:=by decide +kernel
def Wp:af (ao 203)=true:=by decide +kernel
def Wo:af (ao 204)=true:=by decide +kernel
def Wn:af (ao 205)=true:=by decide +kernel
def Wm:af (ao 206)=true:=by decide +kernel
def Wl:af (ao 207)=true:=by decide +kernel
def Wj:af (ao 208)=true:=by decide +kernel
def Wi:af (ao 209)=true:=by decide +kernel
def Wh:af (ao 210)=true:=by decide +kernel
def Wg:af (ao 211)=true:=by decide +kernel
def Wf:af (ao 212)=true:=by decide +kernel
def We:af (ao 213)=true:=by decide +kernel
def Wc:af (ao 214)=true:=by decide +kernel
def Wb:af (ao 215)=true:=by decide +kernel
def Wa:af (ao 216)=true:=by decide +kernel
def V':af (ao 217)=true:=by decide +kernel
def V9:af (ao 218)=true:=by decide +kernel
def V8:af (ao 219)=true:=by decide +kernel
def V7:af (ao 220)=true:=by decide +kernel
def V6:af (ao 221)=true:=by decide +kernel
def V5:af (ao 222)=true:=by decide +kernel
def V4:af (ao 223)=true:=by decide +kernel
def V3:af (ao 224)=true:=by decide +kernel
def V2:af (ao 225)=true:=by decide +kernel
def V1:af (ao 226)=true:=by decide +kernel
def V0:af (ao 227)=true:=by decide +kernel
def VZ:af (ao 228)=true:=by decide +kernel
def VY:af (ao 229)=true:=by decide +kernel
def VX:af (ao 230)=true:=by decide +kernel
def VW:af (ao 231)=true:=by decide +kernel
def VV:af (ao 232)=true:=by decide +kernel
def VU:af (ao 233)=true:=by decide +kernel
def VT:af (ao 234)=true:=by decide +kernel
def VS:af (ao 235)=true:=by decide +kernel
def VR:af (ao 236)=true:=by decide +kernel
def VQ:af (ao 237)=true:=by decide +kernel
def VP:af (ao 238)=true:=by decide +kernel
def VO:af (ao 239)=true:=by decide +kernel
def VN:af (ao 240)=true:=by decide +kernel
def VM:af (ao 241)=true:=by decide +kernel
def VL:af (ao 242)=true:=by decide +kernel
def VK:af (ao 243)=true:=by decide +kernel
def VJ:af (ao 244)=true:=by decide +kernel
def VI:af (ao 245)=true:=by decide +kernel
def VH:af (ao 246)=true:=by decide +kernel
def VG:af (ao 247)=true:=by decide +kernel
def VF:af (ao 248)=true:=by decide +kernel
def VE:af (ao 249)=true:=by decide +kernel
def VD:af (ao 250)=true:=by decide +kernel
def VC:af (ao 251)=true:=by decide +kernel
def VB:af (ao 252)=true:=by decide +kernel
def VA:af (ao 253)=true:=by decide +kernel
def Vz:af (ao 254)=true:=by decide +kernel
def Vy:af (ao 255)=true:=by decide +kernel
def Vx:af (ao 256)=true:=by decide +kernel
def Vw:af (ao 257)=true:=by decide +kernel
def Vv:af (ao 258)=true:=by decide +kernel
def Vu:af (ao 259)=true:=by decide +kernel
def Vt:af (ao 260)=true:=by decide +kernel
def Vr:af (ao 261)=true:=by decide +kernel
def Vq:af (ao 262)=true:=by decide +kernel
def Vp:af (ao 263)=true:=by decide +kernel
def Vo:af (ao 264)=true:=by decide +kernel
def Vn:af (ao 265)=true:=by decide +kernel
def Vm:af (ao 266)=true:=by decide +kernel
def Vl:af (ao 267)=true:=by decide +kernel
def Vk:af (ao 268)=true:=by decide +kernel
def Vj:af (ao 269)=true:=by decide +kernel
def Vi:af (ao 270)=true:=by decide +kernel
def Vh:af (ao 271)=true:=by decide +kernel
def Vg:af (ao 272)=true:=by decide +kernel
def Vf:af (ao 273)=true:=by decide +kernel
def Ve:af (ao 274)=true:=by decide +kernel
def Vc:af (ao 275)=true:=by decide +kernel
def Vb:af (ao 276)=true:=by decide +kernel
def Va:af (ao 277)=true:=by decide +kernel
def U':af (ao 278)=true:=by decide +kernel
def U9:af (ao 279)=true:=by decide +kernel
def U8:af (ao 280)=true:=by decide +kernel
def U7:af (ao 281)=true:=by decide +kernel
def U6:af (ao 282)=true:=by decide +kernel
def U5:af (ao 283)=true:=by decide +kernel
def U4:af (ao 284)=true:=by decide +kernel
def U3:af (ao 285)=true:=by decide +kernel
def U2:af (ao 286)=true:=by decide +kernel
def U1:af (ao 287)=true:=by decide +kernel
def U0:af (ao 288)=true:=by decide +kernel
def UZ:af (ao 289)=true:=by decide +kernel
def UY:af (ao 290)=true:=by decide +kernel
def UX:af (ao 291)=true:=by decide +kernel
def UW:af (ao 292)=true:=by decide +kernel
def UV:af (ao 293)=true:=by decide +kernel
def UU:af (ao 294)=true:=by decide +kernel
def UT:af (ao 295)=true:=by decide +kernel
def US:af (ao 296)=true:=by decide +kernel
def UR:af (ao 297)=true:=by decide +kernel
def UQ:af (ao 298)=true:=by decide +kernel
def UP:af (ao 299)=true:=by decide +kernel
def UO:af (ao 300)=true:=by decide +kernel
def UN:af (ao 301)=true:=by decide +kernel
def UM:af (ao 302)=true:=by decide +kernel
def UL:af (ao 303)=true:=by decide +kernel
def UK:af (ao 304)=true:=by decide +kernel
def UJ:af (ao 305)=true:=by decide +kernel
def UI:∀q,q<306->af (ao q)=true:=by
 intro q a
 match q,a with
 |0,_=>exact ln0
 |1,_=>exact ln1
 |2,_=>exact ln2
 |3,_=>exact ln3
 |4,_=>exact ln4
 |5,_=>exact ln5
 |6,_=>exact ln6
 |7,_=>exact ln7
 |8,_=>exact ln8
 |9,_=>exact ln9
 |10,_=>exact bC9
 |11,_=>exact bC8
 |12,_=>exact bC7
 |13,_=>exact bC6
 |14,_=>exact bC5
 |15,_=>exact bC4
 |16,_=>exact bC3
 |17,_=>exact bC2
 |18,_=>exact bC1
 |19,_=>exact bC0
 |20,_=>exact bB9
 |21,_=>exact bB8
 |22,_=>exact bB7
 |23,_=>exact bB6
 |24,_=>exact bB5
 |25,_=>exact bB4
 |26,_=>exact bB3
 |27,_=>exact bB2
 |28,_=>exact bB1
 |29,_=>exact bB0
 |30,_=>exact bA9
 |31,_=>exact bA8
 |32,_=>exact bA7
 |33,_=>exact bA6
 |34,_=>exact bA5
 |35,_=>exact bA4
 |36,_=>exact bA3
 |37,_=>exact bA2
 |38,_=>exact bA1
 |39,_=>exact bA0
 |40,_=>exact bz9
 |41,_=>exact bz8
 |42,_=>exact bz7
 |43,_=>exact bz6
 |44,_=>exact bz5
 |45,_=>exact bz4
 |46,_=>exact bz3
 |47,_=>exact bz2
 |48,_=>exact bz1
 |49,_=>exact bz0
 |50,_=>exact by9
 |51,_=>exact by8
 |52,_=>exact by7
 |53,_=>exact by6
 |54,_=>exact by5
 |55,_=>exact by4
 |56,_=>exact by3
 |57,_=>exact by2
 |58,_=>exact by1
 |59,_=>exact by0
 |60,_=>exact bx9
 |61,_=>exact bx8
 |62,_=>exact bx7
 |63,_=>exact bx6
 |64,_=>exact bx5
 |65,_=>exact bx4
 |66,_=>exact bx3
 |67,_=>exact bx2
 |68,_=>exact bx1
 |69,_=>exact bx0
 |70,_=>exact bw9
 |71,_=>exact bw8
 |72,_=>exact bw7
 |73,_=>exact bw6
 |74,_=>exact bw5
 |75,_=>exact bw4
 |76,_=>exact bw3
 |77,_=>exact bw2
 |78,_=>exact bw1
 |79,_=>exact bw0
 |80,_=>exact bv9
 |81,_=>exact bv8
 |82,_=>exact bv7
 |83,_=>exact bv6
 |84,_=>exact bv5
 |85,_=>exact bv4
 |86,_=>exact bv3
 |87,_=>exact bv2
 |88,_=>exact bv1
 |89,_=>exact bv0
 |90,_=>exact bu9
 |91,_=>exact bu8
 |92,_=>exact bu7
 |93,_=>exact bu6
 |94,_=>exact bu5
 |95,_=>exact bu4
 |96,_=>exact bu3
 |97,_=>exact bu2
 |98,_=>exact bu1
 |99,_=>exact bu0
 |100,_=>exact Yv
 |101,_=>exact Yu
 |102,_=>exact Yt
 |103,_=>exact Yr
 |104,_=>exact Yq
 |105,_=>exact Yp
 |106,_=>exact Yo
 |107,_=>exact Yn
 |108,_=>exact X9
 |109,_=>exact X8
 |110,_=>exact X7
 |111,_=>exact X6
 |112,_=>exact X5
 |113,_=>exact X4
 |114,_=>exact X3
 |115,_=>exact X2
 |116,_=>exact X1
 |117,_=>exact X0
 |118,_=>exact XZ
 |119,_=>exact XY
 |120,_=>exact XX
 |121,_=>exact XW
 |122,_=>exact XV
 |123,_=>exact XU
 |124,_=>exact XT
 |125,_=>exact XS
 |126,_=>exact XR
 |127,_=>exact XQ
 |128,_=>exact XP
 |129,_=>exact XO
 |130,_=>exact XN
 |131,_=>exact XM
 |132,_=>exact XL
 |133,_=>exact XK
 |134,_=>exact XJ
 |135,_=>exact XI
 |136,_=>exact XH
 |137,_=>exact XG
 |138,_=>exact XF
 |139,_=>exact XE
 |140,_=>exact XD
 |141,_=>exact XC
 |142,_=>exact XB
 |143,_=>exact XA
 |144,_=>exact Xz
 |145,_=>exact Xy
 |146,_=>exact Xx
 |147,_=>exact Xw
 |148,_=>exact Xv
 |149,_=>exact Xu
 |150,_=>exact Xt
 |151,_=>exact Xs
 |152,_=>exact Xr
 |153,_=>exact Xq
 |154,_=>exact Xp
 |155,_=>exact Xo
 |156,_=>exact Xn
 |157,_=>exact Xm
 |158,_=>exact Xl
 |159,_=>exact Xk
 |160,_=>exact Xj
 |161,_=>exact W9
 |162,_=>exact W8
 |163,_=>exact W7
 |164,_=>exact W6
 |165,_=>exact W5
 |166,_=>exact W4
 |167,_=>exact W0
 |168,_=>exact WZ
 |169,_=>exact WY
 |170,_=>exact WX
 |171,_=>exact WW
 |172,_=>exact WV
 |173,_=>exact WU
 |174,_=>exact WT
 |175,_=>exact WS
 |176,_=>exact WR
 |177,_=>exact WQ
 |178,_=>exact WP
 |179,_=>exact WO
 |180,_=>exact WN
 |181,_=>exact WM
 |182,_=>exact WL
 |183,_=>exact WK
 |184,_=>exact WJ
 |185,_=>exact WI
 |186,_=>exact WH
 |187,_=>exact WG
 |188,_=>exact WF
 |189,_=>exact WE
 |190,_=>exact WD
 |191,_=>exact WC
 |192,_=>exact WB
 |193,_=>exact WA
 |194,_=>exact Wz
 |195,_=>exact Wy
 |196,_=>exact Wx
 |197,_=>exact Ww
 |198,_=>exact Wv
 |199,_=>exact Wu
 |200,_=>exact Wt
 |201,_=>exact Wr
 |202,_=>exact Wq
 |203,_=>exact Wp
 |204,_=>exact Wo
 |205,_=>exact Wn
 |206,_=>exact Wm
 |207,_=>exact Wl
 |208,_=>exact Wj
 |209,_=>exact Wi
 |210,_=>exact Wh
 |211,_=>exact Wg
 |212,_=>exact Wf
 |213,_=>exact We
 |214,_=>exact Wc
 |215,_=>exact Wb
 |216,_=>exact Wa
 |217,_=>exact V'
 |218,_=>exact V9
 |219,_=>exact V8
 |220,_=>exact V7
 |221,_=>exact V6
 |222,_=>exact V5
 |223,_=>exact V4
 |224,_=>exact V3
 |225,_=>exact V2
 |226,_=>exact V1
 |227,_=>exact V0
 |228,_=>exact VZ
 |229,_=>exact VY
 |230,_=>exact VX
 |231,_=>exact VW
 |232,_=>exact VV
 |233,_=>exact VU
 |234,_=>exact VT
 |235,_=>exact VS
 |236,_=>exact VR
 |237,_=>exact VQ
 |238,_=>exact VP
 |239,_=>exact VO
 |240,_=>exact VN
 |241,_=>exact VM
 |242,_=>exact VL
 |243,_=>exact VK
 |244,_=>exact VJ
 |245,_=>exact VI
 |246,_=>exact VH
 |247,_=>exact VG
 |248,_=>exact VF
 |249,_=>exact VE
 |250,_=>exact VD
 |251,_=>exact VC
 |252,_=>exact VB
 |253,_=>exact VA
 |254,_=>exact Vz
 |255,_=>exact Vy
 |256,_=>exact Vx
 |257,_=>exact Vw
 |258,_=>exact Vv
 |259,_=>exact Vu
 |260,_=>exact Vt
 |261,_=>exact Vr
 |262,_=>exact Vq
 |263,_=>exact Vp
 |264,_=>exact Vo
 |265,_=>exact Vn
 |266,_=>exact Vm
 |267,_=>exact Vl
 |268,_=>exact Vk
 |269,_=>exact Vj
 |270,_=>exact Vi
 |271,_=>exact Vh
 |272,_=>exact Vg
 |273,_=>exact Vf
 |274,_=>exact Ve
 |275,_=>exact Vc
 |276,_=>exact Vb
 |277,_=>exact Va
 |278,_=>exact U'
 |279,_=>exact U9
 |280,_=>exact U8
 |281,_=>exact U7
 |282,_=>exact U6
 |283,_=>exact U5
 |284,_=>exact U4
 |285,_=>exact U3
 |286,_=>exact U2
 |287,_=>exact U1
 |288,_=>exact U0
 |289,_=>exact UZ
 |290,_=>exact UY
 |291,_=>exact UX
 |292,_=>exact UW
 |293,_=>exact UV
 |294,_=>exact UU
 |295,_=>exact UT
 |296,_=>exact US
 |297,_=>exact UR
 |298,_=>exact UQ
 |299,_=>exact UP
 |300,_=>exact UO
 |301,_=>exact UN
 |302,_=>exact UM
 |303,_=>exact UL
 |304,_=>exact UK
 |305,_=>exact UJ
 |q+306,h=>omega
def KY{l:List Nat}(h:l∈iF)(p:Gf l)(i:Nat)(c:i<6656):ze [jJ i,ip i] (l.map Int.ofNat) 0<281474976645120:=by
 obtain⟨j,a⟩:=yO h;have b:=(zE.1 a).1;rw[FN]at b;refine Hf (UI (j/4) (by omega)) (l:=l) ?_ p i c;refine zG (i:=j%4) ?_;unfold ao;rw[List.getElem?_take_of_lt (by omega),xR,show 4*(j/4)+j%4=j by omega];exact a
def FM:∀l∈iF,Gf l:=by
 have h:(iF.all λl=>l.all (λn=>Nat.blt n 256)&&Nat.ble (fS l).length 50)=true:=by decide +kernel
 intro l b;have:=yA.1 h l b;rw[zJ,yA]at this;exact⟨λn a=>by have:=this.1 n a;simpa using this,by have:=this.2;simpa using this⟩
end
section
open Go
def pN(sd:List Nat):Prop:=∃i,i<6656/\sd=[jJ i,ip i]
def pN.s{sd:List Nat}(h:pN sd):gF sd:=by
 obtain⟨i,_,rfl⟩:=h;refine⟨by simp,λd a=>?_⟩;simp only[zU,yF,xE]at a;rcases a with rfl|rfl
 .unfold jJ;omega
 .unfold ip;omega
def R6{sd:List Nat}(h:pN sd){l:List Nat}(a:l∈iF):zo sd (l.map Int.ofNat):=by
 obtain⟨i,b,rfl⟩:=h;exact KY a (FM l a) i b
variable{k f:Nat}
def js{n g:Nat}(h:f<=g/\g<f+n):(k,g)∈RP k f n:=xM.2 ⟨g-f,xT.2 (by omega),by rw[show f+(g-f)=g by omega]⟩
variable{i:Nat}
def aZ5{u:Nat}{l:List (Nat×Nat)}(h:(k,f)∈l)(a:i<8):[u,k,f,i]∈B1 u l:=List.mem_flatMap.2 ⟨(k,f),h,xM.2 ⟨i,xT.2 a,rfl⟩⟩
def gI(k f:Nat):Prop:=(k=0/\1<=f/\f<=5)\/(k=1/\2<=f/\f<=8)\/(k=2/\2<=f/\f<=9)
def gI.mem(h:gI k f):(k,f)∈FI:=by
 unfold FI;rcases h with⟨rfl,h⟩|⟨rfl,h⟩|⟨rfl,h⟩
 .exact xK _ (xK _ (js (by omega)))
 .exact xK _ (yW _ (js (by omega)))
 .exact yW _ (js (by omega))
variable {sd:List Nat} (h:pN sd)
include h
def C1(b:gI k f)(a:i<8):zo sd [4,(k:Int),(f:Int),(i:Int)]:=
 R6 h (l:=[4,k,f,i]) (by unfold iF;simp only[zO];exact .inl (.inl (.inl (.inl (.inl (aZ5 b.mem a))))))
def C0(b:gI k f)(a:i<8):zo sd [6,(k:Int),(f:Int),(i:Int)]:=
 R6 h (l:=[6,k,f,i]) (by unfold iF;simp only[zO];exact .inl (.inl (.inl (.inl (.inr (aZ5 b.mem a))))))
def I'(b:gI k f)(a:i<8):zo sd [3,(k:Int),(f:Int),(i:Int)]:=
 R6 h (l:=[3,k,f,i]) (by unfold iF;simp only[zO];exact .inl (.inl (.inl (.inr (aZ5 b.mem a)))))
def I7(a:gI k f)(c:k<=1)(b:i<8):zo sd [7,(k:Int),(f:Int),(i:Int)]:=
 R6 h (l:=[7,k,f,i]) (by
  unfold iF;simp only[zO];refine .inl (.inl (.inr (aZ5 (zO.2 ?_) b)));rcases a with⟨rfl,a⟩|⟨rfl,a⟩|⟨rfl,a⟩
  .exact .inl (js (by omega))
  .exact .inr (js (by omega))
  .omega)
def I9{a n:Nat}(c:(k=1/\f=1)\/(k=2/\1<=f/\f<=4))(b:(a,n)∈eg):zo sd [2,(k:Int),(f:Int),0,(a:Int),(n:Int)]:=
 R6 h (l:=[2,k,f,0,a,n]) (by
  unfold iF;simp only[zO];refine .inl (.inr (List.mem_flatMap.2 ⟨(k,f),?_,xM.2 ⟨(a,n),b,rfl⟩⟩));have:(k=1/\f=1)\/(k=2/\f=1)\/(k=2/\f=2)\/(k=2/\f=3)\/(k=2/\f=4):=by omega
  rcases this with⟨rfl,rfl⟩|⟨rfl,rfl⟩|⟨rfl,rfl⟩|⟨rfl,rfl⟩|⟨rfl,rfl⟩<;>simp)
def I8{j a n:Nat}(c:k=1\/k=2)(e:f=2\/f=3)(d:j<8)(b:(a,n)∈eg):zo sd [8,(k:Int),(f:Int),(j:Int),(a:Int),(n:Int)]:=
 R6 h (l:=[8,k,f,j,a,n]) (by
  unfold iF;simp only[zO];refine .inr (List.mem_flatMap.2 ⟨(k,f),?_,List.mem_flatMap.2 ⟨j,xT.2 d,xM.2 ⟨(a,n),b,rfl⟩⟩⟩);rcases c with rfl|rfl<;>rcases e with rfl|rfl<;>simp)
end
end Go.Proofs.YtilnpcolgcmofaaGreatDoor
