/- A part of the proof: Dy Jc Lp Ja. -/
import Derived.Test.YtilnpcolgcmofaaGreatDoorA29
set_option maxRecDepth 100000
set_option maxHeartbeats 20000000
set_option linter.all false
namespace Go.Proofs.YtilnpcolgcmofaaGreatDoor
open Tryz
section
open Go
def CQ(f:am):Int:=if f.kind=2\/f.kind=4 then f.lo else 0
def DE(f:am):Int:=if f.kind=2\/f.kind=4 then f.hi else 0
def lW(k:au)(f:am):Int:=if f.kind=4/\dG f.of=false then a7 k f.of else -1
def LB(k:au)(i:Nat)(f:am):List i6:=[⟨lW k f,i,-(CQ f)⟩,⟨i,lW k f,DE f⟩]
def lX(k:au):Nat->List i6
 |0=>[]
 |i+1=>lX k i++(match k.fields[i]? with|some f=>LB k i f|none=>[])
def tl(x:ak)(j:Nat)(k:au):Nat->List i6
 |0=>[]
 |i+1=>tl x j k i++(match x.rules[i]? with|some r=>(if bf x r.kind=j then[⟨a7 k r.a,a7 k r.b,r.n⟩]else[])|none=>[])
def ci(x:ak)(j:Nat)(k:au):List i6:=lX k k.fields.length++tl x j k x.rules.length
theorem bb8(k:au):∀q,(lX k q).length<=2*q
 |0=>by simp[lX]
 |q+1=>by
  have:=bb8 k q;rw[lX,zI];split
  .simp only[LB,List.length_cons,List.length_nil];omega
  .simp only[List.length_nil];omega
theorem ln(x:ak)(j:Nat)(k:au):∀q,(tl x j k q).length<=q
 |0=>by simp[tl]
 |q+1=>by
  have:=ln x j k q;rw[tl,zI];split
  .split
   .simp only[List.length_cons,List.length_nil];omega
   .simp only[List.length_nil];omega
  .simp only[List.length_nil];omega
theorem Zx(s:ByteArray):(s.toList==(⟨#[]⟩:ByteArray).toList)=dG s:=by
 rw[show(⟨#[]⟩:ByteArray).toList=[] by rw[ByteArray.toList_eq]];unfold dG
 cases s.toList<;>rfl
theorem ft{A B:Prop}(k:B)(h:ar B->A:=by intro q7;(first|refine bO ?_|refine aA ?_|(refine' ah ?hc ?_;(case hc=>first|exact HF|exact HK|exact HA|exact HB)));exact q7.1):A:=h ⟨k⟩
theorem Y6{p:Prop}(h:p:=by rw[hdn,yB];unfold LB;first|(rw[el,eh,eo];done)|(rw[el,eh,eo];rfl)):p:=h
theorem YI{p:Prop}(h:p:=by
 have eo:lW kd f= -1:=by unfold lW;rw[if_neg (λe=>by omega)]
 repeat' first|refine ft ?_|intro b;conv=>whnf
 refine Ap.go rfl rfl rfl rfl hr (sC _ _ _) rfl (zs:=(lX kd (i+1)).map QP) Y6 (by rw[zL];omega) (by rw[zL];omega) (λs'=>_::_::s') (bf8 _ _) (λa' c' s' hr=>?_)
 repeat' first|refine ft ?_|intro b;conv=>whnf
 exact⟨(i+1,_,s'),(aj av),(Sc.sl (yG _ _)),⟨by simp only;omega,hr⟩,by simp only;omega⟩):p:=h
theorem YG{p:Prop}(h:p:=by
 repeat' first|refine ft ?_|intro b;conv=>whnf
 refine Ap.go rfl rfl rfl rfl hr (sC _ _ _) rfl (zs:=(lX kd (i+1)).map QP) Y6 (by rw[zL];omega) (by rw[zL];omega) (λs'=>_::_::s') (bf8 _ _) (λa' c' s' hr=>?_)
 repeat' first|refine ft ?_|intro b;conv=>whnf
 exact⟨(i+1,_,s'),(aj av),(Sc.sl (yG _ _)),⟨by simp only;omega,hr⟩,by simp only;omega⟩):p:=h
theorem aN7(x:ak)(h:o5 x)(j:Nat)(kd:au)(l:x.kz[j]?=some kd)(o:∀f∈kd.fields,-2097152<=f.lo/\f.lo<=2097152):APure prog 106 [ax x,iD j] (mA (ci x j kd)):=by
 have C:=h.nk;have z:=h.nr;have G:=(zE.1 l).1;have I:x.kz[((j:Nat):Int).toNat]?=some kd:=l;have D:=h.nf kd (zG l);refine ap func106 ntmps106 λK=>?_
 repeat' first|refine ft ?_|intro b;conv=>whnf
 obtain⟨t,rfl⟩:∃c,c=b:=⟨_,rfl⟩
 refine aR mixed ai (γ:=Nat×Value×af) (λg=>[(7,iD g.1),(5,.v g.2.1)]) (λg=>(t,.cells 78 (bA kd))::g.2.2) (λg=>g.1<=kd.fields.length/\ae 255 3 ((lX kd g.1).map QP) g.2.1 g.2.2) (λg=>kd.fields.length-g.1) (0,.slice none 0 0,[]) (aj av) (Sc.refl _) ⟨zW _,ae.nil _ _⟩ ?_;rintro⟨i,v,s⟩ ⟨hi,hr⟩;simp only at hi hr⊢;by_cases hil:i<kd.fields.length
 .obtain⟨f,a⟩:∃y,kd.fields[i]?=some y:=⟨_,zD hil⟩
  have J:kd.fields[((i:Nat):Int).toNat]?=some f:=a;have F:=o f (zG a);have hdn:lX kd (i+1)=lX kd i++LB kd i f:=by rw[lX,a]
  have q:=bb8 kd (i+1);have HF:=xu kd f.of (by omega);by_cases h2:f.kind=2
  .have el:CQ f=f.lo:=by unfold CQ;rw[if_pos (.inl h2)]
   have eh:DE f=f.hi:=by unfold DE;rw[if_pos (.inl h2)]
   exact YI
  .by_cases h4:f.kind=4
   .have el:CQ f=f.lo:=by unfold CQ;rw[if_pos (.inr h4)]
    have eh:DE f=f.hi:=by unfold DE;rw[if_pos (.inr h4)]
    have E:=Zx f.of;by_cases ho:dG f.of=true
    .have eo:lW kd f= -1:=by unfold lW;rw[if_neg (λe=>by rw[ho]at e;cases e.2)]
     rw[ho]at E;exact YG
    .rw[Bool.not_eq_true]at ho;rw[ho]at E;have eo:lW kd f=a7 kd f.of:=by unfold lW;rw[if_pos ⟨h4,ho⟩]
     exact YG
   .have el:CQ f=0:=by unfold CQ;rw[if_neg (by omega)]
    have eh:DE f=0:=by unfold DE;rw[if_neg (by omega)]
    exact YI
 .obtain rfl:i=kd.fields.length:=by omega
  have w:=bb8 kd kd.fields.length
  repeat' first|refine ft ?_|intro b;conv=>whnf
  refine aR mixed ai (γ:=Nat×Value×af) (λg=>[(12,iD g.1),(5,.v g.2.1)]) (λg=>(t,.cells 78 (bA kd))::g.2.2) (λg=>g.1<=x.rules.length/\ae 255 3 ((lX kd kd.fields.length++tl x j kd g.1).map QP) g.2.1 g.2.2) (λg=>x.rules.length-g.1) (0,v,s) (aj av) (Sc.refl _) ⟨zW _,by rw[tl,zZ];exact hr⟩ ?_;rintro⟨i,v,s⟩ ⟨hi,hr⟩;simp only at hi hr⊢;by_cases hil:i<x.rules.length
  .obtain⟨r,k⟩:∃y,x.rules[i]?=some y:=⟨_,zD hil⟩
   have u:x.rules[((i:Nat):Int).toNat]?=some r:=k;have hdn:tl x j kd (i+1)=tl x j kd i++(if bf x r.kind=j then[⟨a7 kd r.a,a7 kd r.b,r.n⟩]else[]):=by rw[tl,k]
   have q:=ln x j kd (i+1);have HK:=EX x r.kind (by omega);have HA:=xu kd r.a (by omega);have HB:=xu kd r.b (by omega);by_cases hkj:bf x r.kind=j
   .rw[if_pos hkj]at hdn
    repeat' first|refine ft ?_|intro b;conv=>whnf
    refine Ap.go rfl rfl rfl rfl hr (sC _ _ _) rfl (zs:=(lX kd kd.fields.length++tl x j kd (i+1)).map QP) (by rw[hdn,←zV];simp only[yB];rfl) (by rw[zL,zI];omega) (by rw[zL,zI];omega) (λs'=>_::_::s') (bf8 _ _) (λa' c' s' hr=>?_)
    repeat' first|refine ft ?_|intro b;conv=>whnf
    exact⟨(i+1,_,s'),(aj av),(Sc.sl (yG _ _)),⟨by simp only;omega,hr⟩,by simp only;omega⟩
   .rw[if_neg hkj,zZ]at hdn
    repeat' first|refine ft ?_|intro b;conv=>whnf
    exact⟨(i+1,v,s),(aj av),(Sc.sl (yG _ _)),⟨by simp only;omega,by rw[hdn];exact hr⟩,by simp only;omega⟩
  .obtain rfl:i=x.rules.length:=by omega
   repeat' first|refine ft ?_|intro b;conv=>whnf
   exact Rt.vs (Vs.row hr (Kf _ _))
end
section
open Go
theorem C9:dG nE=true:=tj
theorem tm{k:au}{d:i6}:∀{q:Nat},d∈lX k q->∃(i:Nat)(f:am),k.fields[i]?=some f/\d∈LB k i f
 |0,h=>by simp[lX]at h
 |q+1,h=>by
  rw[lX]at h;rcases zO.1 h with h|h
  .exact tm h
  .split at h
   .rename_i f a;exact⟨q,f,a,h⟩
   .cases h
theorem D5{k:au}{i:Nat}{f:am}(a:k.fields[i]?=some f){d:i6}(b:d∈LB k i f):∀{q:Nat},i<q->d∈lX k q
 |q+1,h=>by
  rw[lX];by_cases e:i=q
  .subst e;rw[a];exact yW _ b
  .exact xK _ (D5 a b (by omega))
theorem tk{x:ak}{j:Nat}{k:au}{d:i6}:∀{q:Nat},d∈tl x j k q->∃r∈x.rules,bf x r.kind=j/\d=⟨a7 k r.a,a7 k r.b,r.n⟩
 |0,h=>by simp[tl]at h
 |q+1,h=>by
  rw[tl]at h;rcases zO.1 h with h|h
  .exact tk h
  .split at h
   .rename_i r a;split at h
    .rename_i e;rw[zN]at h;exact⟨r,zG a,e,h⟩
    .cases h
   .cases h
theorem CP{x:ak}(h:bL x){i j:Nat}{k:au}{f:am}(a:x.kz[i]?=some k)(b:k.fields[j]?=some f):(-300<=CQ f/\CQ f<=300)/\(-300<=DE f/\DE f<=300):=by
 have:=h.fb a b;unfold CQ DE;split<;>omega
theorem Co{x:ak}(h:bL x){i j:Nat}{k:au}{f:am}(b:x.kz[i]?=some k)(c:k.fields[j]?=some f):lW k f= -1\/∃(n:Nat)(g:am),n<j/\lW k f=n/\k.fields[n]?=some g/\lW k g= -1:=by
 unfold lW;split
 .rename_i e
  cases h.gf b c with
  |day a q o=>
   rcases o with o|⟨n,g,p,m,l,r,d⟩
   .exfalso;rw[o,C9]at e;cases e.2
   .refine .inr ⟨n,g,p,m,l,?_⟩;rw[if_neg (λe=>by rw[d,C9]at e;cases e.2)]
  |above a=>omega
  |_ a=>omega
 .exact .inl rfl
theorem cv.sides{x:ak}(h:bL x){t:Nat}{k:au}(s:x.kz[t]?=some k){r:cI}(R:cv k r):a7 k r.a≠a7 k r.b/\(-1000<=r.n/\r.n<=1000):=by
 have H:=h.hx;have F:=H.form t k s;have N:=F.nodup;have low:=F.low;have m:a7 k nE= -1:=by
  unfold a7 idx
  cases A:List.findIdx? (λf:am=>seq f.name nE) k.fields with
  |none=>rfl
  |some o=>
   exfalso;obtain⟨D,C,_⟩:=wB.1 A;have:=F.nms _ (wE D);rw[(EM _ _).1 C]at this;revert this;decide +kernel
 have c:∀{f:am},f∈k.fields->∃j:Nat,a7 k f.name=j/\k.fields[j]?=some f:=λ{f}d=>by
  obtain⟨j,z⟩:=yO d;exact⟨j,yp N z,z⟩
 cases R with
 |low w n y=>
  obtain⟨f,d,e⟩:=Rh n;obtain⟨E,g,B,v,G⟩:=(low f d).1 e;obtain⟨a,q,l⟩:=c d;obtain⟨b,u,p⟩:=c B;refine⟨?_,by simp only;omega,by simp only;omega⟩
  show a7 k gp≠a7 k eR;rw[←e,←v,q,u];intro I;obtain rfl:a=b:=by omega
  rw[l]at p;cases p
  rw[e]at v;revert v;decide +kernel
 |most f2 w n i y=>
  obtain⟨f,d,e⟩:=Rh n;obtain⟨a,q,l⟩:=c d;have u:=h.fb s i;refine⟨?_,by simp only;omega,by simp only;omega⟩
  show a7 k bp≠a7 k nE;rw[←e,q,m];omega
 |least f2 w n i y=>
  obtain⟨f,d,e⟩:=Rh n;obtain⟨a,q,l⟩:=c d;have u:=h.fb s i;refine⟨?_,by simp only;omega,by simp only;omega⟩
  show a7 k nE≠a7 k bp;rw[←e,q,m];omega
theorem bL.rul{x:ak}(h:bL x){r:cI}(d:r∈x.rules){j:Nat}(g:bf x r.kind=j){k:au}(f:x.kz[j]?=some k):cv k r:=by
 have H:=h.hx;obtain⟨i,_,l⟩:=h.rs;have N:∀(t:Nat)y,x.kz[t]?=some y->y.name=bu t:=λt y c=>(H.form t y c).name;obtain⟨_,m⟩:=l.facts N H.nk;obtain⟨t,b,_,a,R⟩:=m r d;have e:r.kind=b.name:=by cases R<;>rfl
 rw[e,N t b a,H.kix a]at g;obtain rfl:t=j:=by omega
 rw[f]at a;cases a
 exact R
theorem XT{p:Prop}(h:p:=by
 refine⟨⟨by simp only;omega,by simp only;omega⟩,⟨by simp only;omega,by simp only;omega⟩,by simp only;omega,by simp only;omega,by simp only;omega⟩):p:=h
theorem IY{x:ak}(h:bL x){j:Nat}{k:au}(b:x.kz[j]?=some k):rC k.fields.length (ci x j k) where
 n:=h.sm.nf k (zG b)
 l:=by
  have w:=bb8 k k.fields.length;have C:=ln x j k x.rules.length;have B:=h.sm.nf k (zG b);have A:=h.nr;unfold ci;rw[zI];omega
 v:=λd a=>by
  unfold ci at a;rcases zO.1 a with a|a
  .obtain⟨i,f,c,a⟩:=tm a;have t:=(zE.1 c).1;have z:=CP h b c;have q:=Co h b c;have o:-1<=lW k f/\lW k f<k.fields.length/\lW k f≠i:=by
    rcases q with e|⟨n,g,w,e,_⟩
    .omega
    .omega
   unfold LB at a;simp only[zU,yF,xE]at a;rcases a with rfl|rfl
   .exact XT
   .exact XT
  .obtain⟨r,m,u,rfl⟩:=tk a;obtain⟨s,y⟩:=(h.rul m u b).sides h b;exact⟨⟨aV0 _ _,ME _ _⟩,⟨aV0 _ _,ME _ _⟩,s,by simp only;omega,by simp only;omega⟩
theorem Ao{n:Nat}{s:List i6}{d:i6}{q:Nat}(b:s[q]?=some d):∀i,q<i->cw n s i (cn n d.a) (cn n d.b)<=d.n
 |i+1,h=>by
  rw[cw];by_cases e:q=i
  .subst e;rw[b];simp only[kE,and_self,if_true];split<;>omega
  .have a:=Ao (n:=n) b i (by omega)
   cases f:s[i]? with
   |none=>exact a
   |some g=>
    simp only[kE];split
    .rename_i c;rw[c.1,c.2]at a;split<;>omega
    .exact a
theorem Eo{n:Nat}{s:List i6}{d:i6}(a:d∈s):cH n s (cn n d.a) (cn n d.b)<=d.n:=by
 obtain⟨q,h⟩:=yO a;exact Int.le_trans (lI (n+1) (cw n s s.length) _ _ (zW (n+1))) (Ao h _ (zE.1 h).1)
theorem K6{n:Nat}(h:n<=10):(2:Int) ^ (n+1)<=2048:=by
 have:n=0\/n=1\/n=2\/n=3\/n=4\/n=5\/n=6\/n=7\/n=8\/n=9\/n=10:=by omega
 rcases this with rfl|rfl|rfl|rfl|rfl|rfl|rfl|rfl|rfl|rfl|rfl<;>decide
theorem Tz{n:Nat}:(0:Int)<=2 ^ n:=Int.le_of_lt (Int.pow_pos (by decide))
theorem rP{n:Nat}{s:List i6}(h:rC n s):∀i a b,cw n s i a b<dr->cw n s i a b<=2097152
 |0,a,b=>by rw[cw];unfold kx;split<;>omega
 |i+1,a,b=>by
  have c:=rP h i;rw[cw]
  cases e:s[i]? with
  |none=>exact c a b
  |some d=>
   have v:=(h.v d (zG e)).2.2.2;simp only;unfold kE;split
   .split
    .omega
    .exact c _ _
   .exact c a b
theorem mT(n i:Nat):cn n (i:Int)=i:=by unfold cn;rw[if_neg (by omega),Int.toNat_natCast]
theorem sj(n:Nat):cn n (-1)=n:=by unfold cn;rw[if_pos (by omega)]
theorem I7{x:ak}(h:bL x){j:Nat}{k:au}(t:x.kz[j]?=some k)(N:eQ (k.fields.length+1) (cH k.fields.length (ci x j k))=false):rz k.fields.length (2 ^ (k.fields.length+1)*2097152) (cH k.fields.length (ci x j k)):=by
 have D:=IY h t;have z:=D.n;have E:dr=1099511627776:=rfl;have H:=K6 z;have y:=Tz (n:=k.fields.length+1);have p:∀q,q<k.fields.length+1->0<=cH k.fields.length (ci x j k) q q:=λq s=>by
  unfold eQ at N;rw[List.any_eq_false]at N;have:=N q (xT.2 s)
  simpa using this
 have u:2 ^ (k.fields.length+1)*2097152<dr:=by omega
 have C:MX (k.fields.length+1) (k.fields.length+1) (2 ^ (k.fields.length+1)*2097152) (cH k.fields.length (ci x j k)):=
  oA (m:=k.fields.length+1) (B:=2097152) (by decide) u ⟨λa b q _ _ s=>by omega,λa b _ _ c=>by
   have:=rQ D (ci x j k).length a b;have:=rP D (ci x j k).length a b c;omega,λa b _ _=>by
   have:=rQ D (ci x j k).length a b;omega⟩ p _ (zT _)
 have o:∀{i:Nat}{f:am}{d:i6},k.fields[i]?=some f->d∈LB k i f->d∈ci x j k:=λ{i f d}c p=>xK _ (D5 c p (zE.1 c).1);have l:∀(i:Nat)(f:am),k.fields[i]?=some f->∀(r:Nat),cn k.fields.length (lW k f)=r->cH k.fields.length (ci x j k) r i<=300/\cH k.fields.length (ci x j k) i r<=300:=λi f c r w=>by
  have I:=CP h t c;have c1:=Eo (n:=k.fields.length) (o (d:=⟨lW k f,i,-(CQ f)⟩) c yN);have G:=Eo (n:=k.fields.length) (o (d:=⟨i,lW k f,DE f⟩) c (yQ _ (zN.2 rfl)));simp only[mT,w]at c1 G;omega
 refine⟨C,p,λi A=>?_,by omega⟩;obtain⟨f,c⟩:∃f,k.fields[i]?=some f:=⟨_,zD A⟩
 rcases Co h t c with e|⟨q,g,J,e,v,F⟩
 .have:=l i f c k.fields.length (by rw[e,sj]);omega
 .have L:=l i f c q (by rw[e,mT]);have K:=l q g v k.fields.length (by rw[F,sj]);have s:=(zE.1 v).1;have t1:=C.tri i k.fields.length q (by omega) (by omega) (by omega) (by omega) (by omega);have t2:=C.tri k.fields.length i q (by omega) (by omega) (by omega) (by omega) (by omega);omega
end
section
open Go
theorem ET:hQ.length=1221:=by decide +kernel
set_option maxRecDepth 100000
theorem ln0:ab (an 0)=true:=by decide +kernel
theorem ln1:ab (an 1)=true:=by decide +kernel
theorem ln2:ab (an 2)=true:=by decide +kernel
theorem ln3:ab (an 3)=true:=by decide +kernel
theorem ln4:ab (an 4)=true:=by decide +kernel
theorem ln5:ab (an 5)=true:=by decide +kernel
theorem ln6:ab (an 6)=true:=by decide +kernel
theorem ln7:ab (an 7)=true:=by decide +kernel
theorem ln8:ab (an 8)=true:=by decide +kernel
theorem ln9:ab (an 9)=true:=by decide +kernel
theorem bB8:ab (an 10)=true:=by decide +kernel
theorem bB7:ab (an 11)=true:=by decide +kernel
theorem bB6:ab (an 12)=true:=by decide +kernel
theorem bB5:ab (an 13)=true:=by decide +kernel
theorem bB4:ab (an 14)=true:=by decide +kernel
theorem bB3:ab (an 15)=true:=by decide +kernel
theorem bB2:ab (an 16)=true:=by decide +kernel
theorem bB1:ab (an 17)=true:=by decide +kernel
theorem bB0:ab (an 18)=true:=by decide +kernel
theorem bA9:ab (an 19)=true:=by decide +kernel
theorem bA8:ab (an 20)=true:=by decide +kernel
theorem bA7:ab (an 21)=true:=by decide +kernel
theorem bA6:ab (an 22)=true:=by decide +kernel
theorem bA5:ab (an 23)=true:=by decide +kernel
theorem bA4:ab (an 24)=true:=by decide +kernel
theorem bA3:ab (an 25)=true:=by decide +kernel
theorem bA2:ab (an 26)=true:=by decide +kernel
theorem bA1:ab (an 27)=true:=by decide +kernel
theorem bA0:ab (an 28)=true:=by decide +kernel
theorem bz9:ab (an 29)=true:=by decide +kernel
theorem bz8:ab (an 30)=true:=by decide +kernel
theorem bz7:ab (an 31)=true:=by decide +kernel
theorem bz6:ab (an 32)=true:=by decide +kernel
theorem bz5:ab (an 33)=true:=by decide +kernel
theorem bz4:ab (an 34)=true:=by decide +kernel
theorem bz3:ab (an 35)=true:=by decide +kernel
theorem bz2:ab (an 36)=true:=by decide +kernel
theorem bz1:ab (an 37)=true:=by decide +kernel
theorem bz0:ab (an 38)=true:=by decide +kernel
theorem by9:ab (an 39)=true:=by decide +kernel
theorem by8:ab (an 40)=true:=by decide +kernel
theorem by7:ab (an 41)=true:=by decide +kernel
theorem by6:ab (an 42)=true:=by decide +kernel
theorem by5:ab (an 43)=true:=by decide +kernel
theorem by4:ab (an 44)=true:=by decide +kernel
theorem by3:ab (an 45)=true:=by decide +kernel
theorem by2:ab (an 46)=true:=by decide +kernel
theorem by1:ab (an 47)=true:=by decide +kernel
theorem by0:ab (an 48)=true:=by decide +kernel
theorem bx9:ab (an 49)=true:=by decide +kernel
theorem bx8:ab (an 50)=true:=by decide +kernel
theorem bx7:ab (an 51)=true:=by decide +kernel
theorem bx6:ab (an 52)=true:=by decide +kernel
theorem bx5:ab (an 53)=true:=by decide +kernel
theorem bx4:ab (an 54)=true:=by decide +kernel
theorem bx3:ab (an 55)=true:=by decide +kernel
theorem bx2:ab (an 56)=true:=by decide +kernel
theorem bx1:ab (an 57)=true:=by decide +kernel
theorem bx0:ab (an 58)=true:=by decide +kernel
theorem bw9:ab (an 59)=true:=by decide +kernel
theorem bw8:ab (an 60)=true:=by decide +kernel
theorem bw7:ab (an 61)=true:=by decide +kernel
theorem bw6:ab (an 62)=true:=by decide +kernel
theorem bw5:ab (an 63)=true:=by decide +kernel
theorem bw4:ab (an 64)=true:=by decide +kernel
theorem bw3:ab (an 65)=true:=by decide +kernel
theorem bw2:ab (an 66)=true:=by decide +kernel
theorem bw1:ab (an 67)=true:=by decide +kernel
theorem bw0:ab (an 68)=true:=by decide +kernel
theorem bv9:ab (an 69)=true:=by decide +kernel
theorem bv8:ab (an 70)=true:=by decide +kernel
theorem bv7:ab (an 71)=true:=by decide +kernel
theorem bv6:ab (an 72)=true:=by decide +kernel
theorem bv5:ab (an 73)=true:=by decide +kernel
theorem bv4:ab (an 74)=true:=by decide +kernel
theorem bv3:ab (an 75)=true:=by decide +kernel
theorem bv2:ab (an 76)=true:=by decide +kernel
theorem bv1:ab (an 77)=true:=by decide +kernel
theorem bv0:ab (an 78)=true:=by decide +kernel
theorem bu9:ab (an 79)=true:=by decide +kernel
theorem bu8:ab (an 80)=true:=by decide +kernel
theorem bu7:ab (an 81)=true:=by decide +kernel
theorem bu6:ab (an 82)=true:=by decide +kernel
theorem bu5:ab (an 83)=true:=by decide +kernel
theorem bu4:ab (an 84)=true:=by decide +kernel
theorem bu3:ab (an 85)=true:=by decide +kernel
theorem bu2:ab (an 86)=true:=by decide +kernel
theorem bu1:ab (an 87)=true:=by decide +kernel
theorem bu0:ab (an 88)=true:=by decide +kernel
theorem bt9:ab (an 89)=true:=by decide +kernel
theorem bt8:ab (an 90)=true:=by decide +kernel
theorem bt7:ab (an 91)=true:=by decide +kernel
theorem bt6:ab (an 92)=true:=by decide +kernel
theorem bt5:ab (an 93)=true:=by decide +kernel
theorem bt4:ab (an 94)=true:=by decide +kernel
theorem bt3:ab (an 95)=true:=by decide +kernel
theorem bt2:ab (an 96)=true:=by decide +kernel
theorem bt1:ab (an 97)=true:=by decide +kernel
theorem bt0:ab (an 98)=true:=by decide +kernel
theorem bs9:ab (an 99)=true:=by decide +kernel
theorem Xz:ab (an 100)=true:=by decide +kernel
theorem Xy:ab (an 101)=true:=by decide +kernel
theorem Xx:ab (an 102)=true:=by decide +kernel
theorem Xw:ab (an 103)=true:=by decide +kernel
theorem Xv:ab (an 104)=true:=by decide +kernel
theorem Xu:ab (an 105)=true:=by decide +kernel
theorem Xt:ab (an 106)=true:=by decide +kernel
theorem Xs:ab (an 107)=true:=by decide +kernel
theorem Xr:ab (an 108)=true:=by decide +kernel
theorem Xq:ab (an 109)=true:=by decide +kernel
theorem Xp:ab (an 110)=true:=by decide +kernel
theorem Xo:ab (an 111)=true:=by decide +kernel
theorem Xn:ab (an 112)=true:=by decide +kernel
theorem Xm:ab (an 113)=true:=by decide +kernel
theorem Xl:ab (an 114)=true:=by decide +kernel
theorem Xk:ab (an 115)=true:=by decide +kernel
theorem Xj:ab (an 116)=true:=by decide +kernel
theorem W9:ab (an 117)=true:=by decide +kernel
theorem W8:ab (an 118)=true:=by decide +kernel
theorem W7:ab (an 119)=true:=by decide +kernel
theorem W6:ab (an 120)=true:=by decide +kernel
theorem W5:ab (an 121)=true:=by decide +kernel
theorem W4:ab (an 122)=true:=by decide +kernel
theorem W0:ab (an 123)=true:=by decide +kernel
theorem WZ:ab (an 124)=true:=by decide +kernel
theorem WY:ab (an 125)=true:=by decide +kernel
theorem WX:ab (an 126)=true:=by decide +kernel
theorem WW:ab (an 127)=true:=by decide +kernel
theorem WV:ab (an 128)=true:=by decide +kernel
theorem WU:ab (an 129)=true:=by decide +kernel
theorem WT:ab (an 130)=true:=by decide +kernel
theorem WS:ab (an 131)=true:=by decide +kernel
theorem WR:ab (an 132)=true:=by decide +kernel
theorem WQ:ab (an 133)=true:=by decide +kernel
theorem WP:ab (an 134)=true:=by decide +kernel
theorem WO:ab (an 135)=true:=by decide +kernel
theorem WN:ab (an 136)=true:=by decide +kernel
theorem WM:ab (an 137)=true:=by decide +kernel
theorem WL:ab (an 138)=true:=by decide +kernel
theorem WK:ab (an 139)=true:=by decide +kernel
theorem WJ:ab (an 140)=true:=by decide +kernel
theorem WI:ab (an 141)=true:=by decide +kernel
theorem WH:ab (an 142)=true:=by decide +kernel
theorem WG:ab (an 143)=true:=by decide +kernel
theorem WF:ab (an 144)=true:=by decide +kernel
theorem WE:ab (an 145)=true:=by decide +kernel
theorem WD:ab (an 146)=true:=by decide +kernel
theorem WC:ab (an 147)=true:=by decide +kernel
theorem WB:ab (an 148)=true:=by decide +kernel
theorem WA:ab (an 149)=true:=by decide +kernel
theorem Wz:ab (an 150)=true:=by decide +kernel
theorem Wy:ab (an 151)=true:=by decide +kernel
theorem Wx:ab (an 152)=true:=by decide +kernel
theorem Ww:ab (an 153)=true:=by decide +kernel
theorem Wv:ab (an 154)=true:=by decide +kernel
theorem Wu:ab (an 155)=true:=by decide +kernel
theorem Wt:ab (an 156)=true:=by decide +kernel
theorem Wr:ab (an 157)=true:=by decide +kernel
theorem Wq:ab (an 158)=true:=by decide +kernel
theorem Wp:ab (an 159)=true:=by decide +kernel
theorem Wo:ab (an 160)=true:=by decide +kernel
theorem Wn:ab (an 161)=true:=by decide +kernel
theorem Wm:ab (an 162)=true:=by decide +kernel
theorem Wl:ab (an 163)=true:=by decide +kernel
theorem Wj:ab (an 164)=true:=by decide +kernel
theorem Wi:ab (an 165)=true:=by decide +kernel
theorem Wh:ab (an 166)=true:=by decide +kernel
theorem Wg:ab (an 167)=true:=by decide +kernel
theorem Wf:ab (an 168)=true:=by decide +kernel
theorem We:ab (an 169)=true:=by decide +kernel
theorem Wb:ab (an 170)=true:=by decide +kernel
theorem Wa:ab (an 171)=true:=by decide +kernel
theorem V':ab (an 172)=true:=by decide +kernel
theorem V0:ab (an 173)=true:=by decide +kernel
theorem VZ:ab (an 174)=true:=by decide +kernel
theorem VY:ab (an 175)=true:=by decide +kernel
theorem VX:ab (an 176)=true:=by decide +kernel
theorem VW:ab (an 177)=true:=by decide +kernel
theorem VV:ab (an 178)=true:=by decide +kernel
theorem VU:ab (an 179)=true:=by decide +kernel
theorem VT:ab (an 180)=true:=by decide +kernel
theorem VR:ab (an 181)=true:=by decide +kernel
theorem VQ:ab (an 182)=true:=by decide +kernel
theorem VP:ab (an 183)=true:=by decide +kernel
theorem VO:ab (an 184)=true:=by decide +kernel
theorem VN:ab (an 185)=true:=by decide +kernel
theorem VM:ab (an 186)=true:=by decide +kernel
theorem VL:ab (an 187)=true:=by decide +kernel
theorem VK:ab (an 188)=true:=by decide +kernel
theorem VJ:ab (an 189)=true:=by decide +kernel
theorem VH:ab (an 190)=true:=by decide +kernel
theorem VG:ab (an 191)=true:=by decide +kernel
theorem VF:ab (an 192)=true:=by decide +kernel
theorem VE:ab (an 193)=true:=by decide +kernel
theorem VD:ab (an 194)=true:=by decide +kernel
theorem VC:ab (an 195)=true:=by decide +kernel
theorem VB:ab (an 196)=true:=by decide +kernel
theorem VA:ab (an 197)=true:=by decide +kernel
theorem Vz:ab (an 198)=true:=by decide +kernel
theorem Vy:ab (an 199)=true:=by decide +kernel
theorem Vx:ab (an 200)=true:=by decide +kernel
theorem Vw:ab (an 201)=true:=by decide +kernel
theorem Vv:ab (an 202)=true:=by decide +kernel
theorem Vu:ab (an 203)=true:=by decide +kernel
theorem Vt:ab (an 204)=true:=by decide +kernel
theorem Vr:ab (an 205)=true:=by decide +kernel
theorem Vq:ab (an 206)=true:=by decide +kernel
theorem Vp:ab (an 207)=true:=by decide +kernel
theorem Vo:ab (an 208)=true:=by decide +kernel
theorem Vn:ab (an 209)=true:=by decide +kernel
theorem Vm:ab (an 210)=true:=by decide +kernel
theorem Vl:ab (an 211)=true:=by decide +kernel
theorem Vk:ab (an 212)=true:=by decide +kernel
theorem Vj:ab (an 213)=true:=by decide +kernel
theorem Vi:ab (an 214)=true:=by decide +kernel
theorem Vh:ab (an 215)=true:=by decide +kernel
theorem Vg:ab (an 216)=true:=by decide +kernel
theorem Vf:ab (an 217)=true:=by decide +kernel
theorem Ve:ab (an 218)=true:=by decide +kernel
theorem U':ab (an 219)=true:=by decide +kernel
theorem U9:ab (an 220)=true:=by decide +kernel
theorem U8:ab (an 221)=true:=by decide +kernel
theorem U7:ab (an 222)=true:=by decide +kernel
theorem U6:ab (an 223)=true:=by decide +kernel
theorem U5:ab (an 224)=true:=by decide +kernel
theorem U4:ab (an 225)=true:=by decide +kernel
theorem U3:ab (an 226)=true:=by decide +kernel
theorem U2:ab (an 227)=true:=by decide +kernel
theorem U1:ab (an 228)=true:=by decide +kernel
theorem U0:ab (an 229)=true:=by decide +kernel
theorem UZ:ab (an 230)=true:=by decide +kernel
theorem UY:ab (an 231)=true:=by decide +kernel
theorem UX:ab (an 232)=true:=by decide +kernel
theorem UW:ab (an 233)=true:=by decide +kernel
theorem UV:ab (an 234)=true:=by decide +kernel
theorem UU:ab (an 235)=true:=by decide +kernel
theorem UT:ab (an 236)=true:=by decide +kernel
theorem US:ab (an 237)=true:=by decide +kernel
theorem UR:ab (an 238)=true:=by decide +kernel
theorem UQ:ab (an 239)=true:=by decide +kernel
theorem UP:ab (an 240)=true:=by decide +kernel
theorem UO:ab (an 241)=true:=by decide +kernel
theorem UN:ab (an 242)=true:=by decide +kernel
theorem UM:ab (an 243)=true:=by decide +kernel
theorem UL:ab (an 244)=true:=by decide +kernel
theorem UK:ab (an 245)=true:=by decide +kernel
theorem UJ:ab (an 246)=true:=by decide +kernel
theorem UI:ab (an 247)=true:=by decide +kernel
theorem UH:ab (an 248)=true:=by decide +kernel
theorem UG:ab (an 249)=true:=by decide +kernel
theorem UF:ab (an 250)=true:=by decide +kernel
theorem UE:ab (an 251)=true:=by decide +kernel
theorem UD:ab (an 252)=true:=by decide +kernel
theorem UC:ab (an 253)=true:=by decide +kernel
theorem UB:ab (an 254)=true:=by decide +kernel
theorem UA:ab (an 255)=true:=by decide +kernel
theorem Uz:ab (an 256)=true:=by decide +kernel
theorem Uy:ab (an 257)=true:=by decide +kernel
theorem Ux:ab (an 258)=true:=by decide +kernel
theorem Uw:ab (an 259)=true:=by decide +kernel
theorem Uv:ab (an 260)=true:=by decide +kernel
theorem Uu:ab (an 261)=true:=by decide +kernel
theorem Ut:ab (an 262)=true:=by decide +kernel
theorem Us:ab (an 263)=true:=by decide +kernel
theorem Ur:ab (an 264)=true:=by decide +kernel
theorem Uq:ab (an 265)=true:=by decide +kernel
theorem Up:ab (an 266)=true:=by decide +kernel
theorem Uo:ab (an 267)=true:=by decide +kernel
theorem Un:ab (an 268)=true:=by decide +kernel
theorem Um:ab (an 269)=true:=by decide +kernel
theorem Ul:ab (an 270)=true:=by decide +kernel
theorem Uk:ab (an 271)=true:=by decide +kernel
theorem Uj:ab (an 272)=true:=by decide +kernel
theorem Ui:ab (an 273)=true:=by decide +kernel
theorem Uh:ab (an 274)=true:=by decide +kernel
theorem Ug:ab (an 275)=true:=by decide +kernel
theorem Uf:ab (an 276)=true:=by decide +kernel
theorem Ue:ab (an 277)=true:=by decide +kernel
theorem Ud:ab (an 278)=true:=by decide +kernel
theorem Uc:ab (an 279)=true:=by decide +kernel
theorem Ub:ab (an 280)=true:=by decide +kernel
theorem Ua:ab (an 281)=true:=by decide +kernel
theorem T':ab (an 282)=true:=by decide +kernel
theorem T9:ab (an 283)=true:=by decide +kernel
theorem T8:ab (an 284)=true:=by decide +kernel
theorem T7:ab (an 285)=true:=by decide +kernel
theorem T6:ab (an 286)=true:=by decide +kernel
theorem T5:ab (an 287)=true:=by decide +kernel
theorem T4:ab (an 288)=true:=by decide +kernel
theorem T3:ab (an 289)=true:=by decide +kernel
theorem T2:ab (an 290)=true:=by decide +kernel
theorem T1:ab (an 291)=true:=by decide +kernel
theorem T0:ab (an 292)=true:=by decide +kernel
theorem TZ:ab (an 293)=true:=by decide +kernel
theorem TY:ab (an 294)=true:=by decide +kernel
theorem TX:ab (an 295)=true:=by decide +kernel
theorem TW:ab (an 296)=true:=by decide +kernel
theorem TV:ab (an 297)=true:=by decide +kernel
theorem TU:ab (an 298)=true:=by decide +kernel
theorem TT:ab (an 299)=true:=by decide +kernel
theorem TS:ab (an 300)=true:=by decide +kernel
theorem TR:ab (an 301)=true:=by decide +kernel
theorem TQ:ab (an 302)=true:=by decide +kernel
theorem TP:ab (an 303)=true:=by decide +kernel
theorem TN:ab (an 304)=true:=by decide +kernel
theorem TM:ab (an 305)=true:=by decide +kernel
theorem TL:∀q,q<306->ab (an q)=true:=by
 intro q a
 match q,a with
 |0,_=>exact ln0
 |1,_=>exact ln1
 |2,_=>exact ln2
 |3,_=>exact ln3
 |4,_=>exact ln4
 |5,_=>exact ln5
 |6,_=>exact ln6
 |7,_=>exact ln7
 |8,_=>exact ln8
 |9,_=>exact ln9
 |10,_=>exact bB8
 |11,_=>exact bB7
 |12,_=>exact bB6
 |13,_=>exact bB5
 |14,_=>exact bB4
 |15,_=>exact bB3
 |16,_=>exact bB2
 |17,_=>exact bB1
 |18,_=>exact bB0
 |19,_=>exact bA9
 |20,_=>exact bA8
 |21,_=>exact bA7
 |22,_=>exact bA6
 |23,_=>exact bA5
 |24,_=>exact bA4
 |25,_=>exact bA3
 |26,_=>exact bA2
 |27,_=>exact bA1
 |28,_=>exact bA0
 |29,_=>exact bz9
 |30,_=>exact bz8
 |31,_=>exact bz7
 |32,_=>exact bz6
 |33,_=>exact bz5
 |34,_=>exact bz4
 |35,_=>exact bz3
 |36,_=>exact bz2
 |37,_=>exact bz1
 |38,_=>exact bz0
 |39,_=>exact by9
 |40,_=>exact by8
 |41,_=>exact by7
 |42,_=>exact by6
 |43,_=>exact by5
 |44,_=>exact by4
 |45,_=>exact by3
 |46,_=>exact by2
 |47,_=>exact by1
 |48,_=>exact by0
 |49,_=>exact bx9
 |50,_=>exact bx8
 |51,_=>exact bx7
 |52,_=>exact bx6
 |53,_=>exact bx5
 |54,_=>exact bx4
 |55,_=>exact bx3
 |56,_=>exact bx2
 |57,_=>exact bx1
 |58,_=>exact bx0
 |59,_=>exact bw9
 |60,_=>exact bw8
 |61,_=>exact bw7
 |62,_=>exact bw6
 |63,_=>exact bw5
 |64,_=>exact bw4
 |65,_=>exact bw3
 |66,_=>exact bw2
 |67,_=>exact bw1
 |68,_=>exact bw0
 |69,_=>exact bv9
 |70,_=>exact bv8
 |71,_=>exact bv7
 |72,_=>exact bv6
 |73,_=>exact bv5
 |74,_=>exact bv4
 |75,_=>exact bv3
 |76,_=>exact bv2
 |77,_=>exact bv1
 |78,_=>exact bv0
 |79,_=>exact bu9
 |80,_=>exact bu8
 |81,_=>exact bu7
 |82,_=>exact bu6
 |83,_=>exact bu5
 |84,_=>exact bu4
 |85,_=>exact bu3
 |86,_=>exact bu2
 |87,_=>exact bu1
 |88,_=>exact bu0
 |89,_=>exact bt9
 |90,_=>exact bt8
 |91,_=>exact bt7
 |92,_=>exact bt6
 |93,_=>exact bt5
 |94,_=>exact bt4
 |95,_=>exact bt3
 |96,_=>exact bt2
 |97,_=>exact bt1
 |98,_=>exact bt0
 |99,_=>exact bs9
 |100,_=>exact Xz
 |101,_=>exact Xy
 |102,_=>exact Xx
 |103,_=>exact Xw
 |104,_=>exact Xv
 |105,_=>exact Xu
 |106,_=>exact Xt
 |107,_=>exact Xs
 |108,_=>exact Xr
 |109,_=>exact Xq
 |110,_=>exact Xp
 |111,_=>exact Xo
 |112,_=>exact Xn
 |113,_=>exact Xm
 |114,_=>exact Xl
 |115,_=>exact Xk
 |116,_=>exact Xj
 |117,_=>exact W9
 |118,_=>exact W8
 |119,_=>exact W7
 |120,_=>exact W6
 |121,_=>exact W5
 |122,_=>exact W4
 |123,_=>exact W0
 |124,_=>exact WZ
 |125,_=>exact WY
 |126,_=>exact WX
 |127,_=>exact WW
 |128,_=>exact WV
 |129,_=>exact WU
 |130,_=>exact WT
 |131,_=>exact WS
 |132,_=>exact WR
 |133,_=>exact WQ
 |134,_=>exact WP
 |135,_=>exact WO
 |136,_=>exact WN
 |137,_=>exact WM
 |138,_=>exact WL
 |139,_=>exact WK
 |140,_=>exact WJ
 |141,_=>exact WI
 |142,_=>exact WH
 |143,_=>exact WG
 |144,_=>exact WF
 |145,_=>exact WE
 |146,_=>exact WD
 |147,_=>exact WC
 |148,_=>exact WB
 |149,_=>exact WA
 |150,_=>exact Wz
 |151,_=>exact Wy
 |152,_=>exact Wx
 |153,_=>exact Ww
 |154,_=>exact Wv
 |155,_=>exact Wu
 |156,_=>exact Wt
 |157,_=>exact Wr
 |158,_=>exact Wq
 |159,_=>exact Wp
 |160,_=>exact Wo
 |161,_=>exact Wn
 |162,_=>exact Wm
 |163,_=>exact Wl
 |164,_=>exact Wj
 |165,_=>exact Wi
 |166,_=>exact Wh
 |167,_=>exact Wg
 |168,_=>exact Wf
 |169,_=>exact We
 |170,_=>exact Wb
 |171,_=>exact Wa
 |172,_=>exact V'
 |173,_=>exact V0
 |174,_=>exact VZ
 |175,_=>exact VY
 |176,_=>exact VX
 |177,_=>exact VW
 |178,_=>exact VV
 |179,_=>exact VU
 |180,_=>exact VT
 |181,_=>exact VR
 |182,_=>exact VQ
 |183,_=>exact VP
 |184,_=>exact VO
 |185,_=>exact VN
 |186,_=>exact VM
 |187,_=>exact VL
 |188,_=>exact VK
 |189,_=>exact VJ
 |190,_=>exact VH
 |191,_=>exact VG
 |192,_=>exact VF
 |193,_=>exact VE
 |194,_=>exact VD
 |195,_=>exact VC
 |196,_=>exact VB
 |197,_=>exact VA
 |198,_=>exact Vz
 |199,_=>exact Vy
 |200,_=>exact Vx
 |201,_=>exact Vw
 |202,_=>exact Vv
 |203,_=>exact Vu
 |204,_=>exact Vt
 |205,_=>exact Vr
 |206,_=>exact Vq
 |207,_=>exact Vp
 |208,_=>exact Vo
 |209,_=>exact Vn
 |210,_=>exact Vm
 |211,_=>exact Vl
 |212,_=>exact Vk
 |213,_=>exact Vj
 |214,_=>exact Vi
 |215,_=>exact Vh
 |216,_=>exact Vg
 |217,_=>exact Vf
 |218,_=>exact Ve
 |219,_=>exact U'
 |220,_=>exact U9
 |221,_=>exact U8
 |222,_=>exact U7
 |223,_=>exact U6
 |224,_=>exact U5
 |225,_=>exact U4
 |226,_=>exact U3
 |227,_=>exact U2
 |228,_=>exact U1
 |229,_=>exact U0
 |230,_=>exact UZ
 |231,_=>exact UY
 |232,_=>exact UX
 |233,_=>exact UW
 |234,_=>exact UV
 |235,_=>exact UU
 |236,_=>exact UT
 |237,_=>exact US
 |238,_=>exact UR
 |239,_=>exact UQ
 |240,_=>exact UP
 |241,_=>exact UO
 |242,_=>exact UN
 |243,_=>exact UM
 |244,_=>exact UL
 |245,_=>exact UK
 |246,_=>exact UJ
 |247,_=>exact UI
 |248,_=>exact UH
 |249,_=>exact UG
 |250,_=>exact UF
 |251,_=>exact UE
 |252,_=>exact UD
 |253,_=>exact UC
 |254,_=>exact UB
 |255,_=>exact UA
 |256,_=>exact Uz
 |257,_=>exact Uy
 |258,_=>exact Ux
 |259,_=>exact Uw
 |260,_=>exact Uv
 |261,_=>exact Uu
 |262,_=>exact Ut
 |263,_=>exact Us
 |264,_=>exact Ur
 |265,_=>exact Uq
 |266,_=>exact Up
 |267,_=>exact Uo
 |268,_=>exact Un
 |269,_=>exact Um
 |270,_=>exact Ul
 |271,_=>exact Uk
 |272,_=>exact Uj
 |273,_=>exact Ui
 |274,_=>exact Uh
 |275,_=>exact Ug
 |276,_=>exact Uf
 |277,_=>exact Ue
 |278,_=>exact Ud
 |279,_=>exact Uc
 |280,_=>exact Ub
 |281,_=>exact Ua
 |282,_=>exact T'
 |283,_=>exact T9
 |284,_=>exact T8
 |285,_=>exact T7
 |286,_=>exact T6
 |287,_=>exact T5
 |288,_=>exact T4
 |289,_=>exact T3
 |290,_=>exact T2
 |291,_=>exact T1
 |292,_=>exact T0
 |293,_=>exact TZ
 |294,_=>exact TY
 |295,_=>exact TX
 |296,_=>exact TW
 |297,_=>exact TV
 |298,_=>exact TU
 |299,_=>exact TT
 |300,_=>exact TS
 |301,_=>exact TR
 |302,_=>exact TQ
 |303,_=>exact TP
 |304,_=>exact TN
 |305,_=>exact TM
 |q+306,h=>omega
theorem J0{l:List Nat}(h:l∈hQ)(p:E' l)(i:Nat)(c:i<6656):x1 [i7 i,gW i] (l.map Int.ofNat) 0<281474976645120:=by
 obtain⟨j,a⟩:=yO h;have b:=(zE.1 a).1;rw[ET]at b;refine F7 (TL (j/4) (by omega)) (l:=l) ?_ p i c;refine zG (i:=j%4) ?_;unfold an;rw[List.getElem?_take_of_lt (by omega),xR,show 4*(j/4)+j%4=j by omega];exact a
theorem ES:∀l∈hQ,E' l:=by
 have h:(hQ.all λl=>l.all (λn=>Nat.blt n 256)&&Nat.ble (fm l).length 50)=true:=by decide +kernel
 intro l b;have:=yA.1 h l b;rw[zJ,yA]at this;exact⟨λn a=>by have:=this.1 n a;simpa using this,by have:=this.2;simpa using this⟩
end
section
open Go
def oN(sd:List Nat):Prop:=∃i,i<6656/\sd=[i7 i,gW i]
theorem oN.s{sd:List Nat}(h:oN sd):gb sd:=by
 obtain⟨i,_,rfl⟩:=h;refine⟨by simp,λd a=>?_⟩;simp only[zU,yF,xE]at a;rcases a with rfl|rfl
 .unfold i7;omega
 .unfold gW;omega
theorem Q4{sd:List Nat}(h:oN sd){l:List Nat}(a:l∈hQ):ya sd (l.map Int.ofNat):=by
 obtain⟨i,b,rfl⟩:=h;exact J0 a (ES l a) i b
theorem Zt{k f n g:Nat}(h:f<=g/\g<f+n):(k,g)∈QN k f n:=xM.2 ⟨g-f,xT.2 (by omega),by rw[show f+(g-f)=g by omega]⟩
theorem aX1{u k f i:Nat}{l:List (Nat×Nat)}(h:(k,f)∈l)(a:i<8):[u,k,f,i]∈Bv u l:=List.mem_flatMap.2 ⟨(k,f),h,xM.2 ⟨i,xT.2 a,rfl⟩⟩
def ge(k f:Nat):Prop:=(k=0/\1<=f/\f<=5)\/(k=1/\2<=f/\f<=8)\/(k=2/\2<=f/\f<=9)
theorem ge.mem{k f:Nat}(h:ge k f):(k,f)∈EQ:=by
 unfold EQ;rcases h with⟨rfl,h⟩|⟨rfl,h⟩|⟨rfl,h⟩
 .exact xK _ (xK _ (Zt (by omega)))
 .exact xK _ (yW _ (Zt (by omega)))
 .exact yW _ (Zt (by omega))
variable {sd:List Nat} (h:oN sd)
include h
theorem Cj{k f i:Nat}(b:ge k f)(a:i<8):ya sd [4,(k:Int),(f:Int),(i:Int)]:=
 Q4 h (l:=[4,k,f,i]) (by unfold hQ;simp only[zO];exact .inl (.inl (.inl (.inl (.inl (aX1 b.mem a))))))
theorem Ci{k f i:Nat}(b:ge k f)(a:i<8):ya sd [6,(k:Int),(f:Int),(i:Int)]:=
 Q4 h (l:=[6,k,f,i]) (by unfold hQ;simp only[zO];exact .inl (.inl (.inl (.inl (.inr (aX1 b.mem a))))))
theorem H9{k f i:Nat}(b:ge k f)(a:i<8):ya sd [3,(k:Int),(f:Int),(i:Int)]:=
 Q4 h (l:=[3,k,f,i]) (by unfold hQ;simp only[zO];exact .inl (.inl (.inl (.inr (aX1 b.mem a)))))
theorem H6{k f i:Nat}(a:ge k f)(c:k<=1)(b:i<8):ya sd [7,(k:Int),(f:Int),(i:Int)]:=
 Q4 h (l:=[7,k,f,i]) (by
  unfold hQ;simp only[zO];refine .inl (.inl (.inr (aX1 (zO.2 ?_) b)));rcases a with⟨rfl,a⟩|⟨rfl,a⟩|⟨rfl,a⟩
  .exact .inl (Zt (by omega))
  .exact .inr (Zt (by omega))
  .omega)
theorem H8{k f a n:Nat}(c:(k=1/\f=1)\/(k=2/\1<=f/\f<=4))(b:(a,n)∈dK):ya sd [2,(k:Int),(f:Int),0,(a:Int),(n:Int)]:=
 Q4 h (l:=[2,k,f,0,a,n]) (by
  unfold hQ;simp only[zO];refine .inl (.inr (List.mem_flatMap.2 ⟨(k,f),?_,xM.2 ⟨(a,n),b,rfl⟩⟩));have:(k=1/\f=1)\/(k=2/\f=1)\/(k=2/\f=2)\/(k=2/\f=3)\/(k=2/\f=4):=by omega
  rcases this with⟨rfl,rfl⟩|⟨rfl,rfl⟩|⟨rfl,rfl⟩|⟨rfl,rfl⟩|⟨rfl,rfl⟩<;>simp)
theorem H7{k f j a n:Nat}(c:k=1\/k=2)(e:f=2\/f=3)(d:j<8)(b:(a,n)∈dK):ya sd [8,(k:Int),(f:Int),(j:Int),(a:Int),(n:Int)]:=
 Q4 h (l:=[8,k,f,j,a,n]) (by
  unfold hQ;simp only[zO];refine .inr (List.mem_flatMap.2 ⟨(k,f),?_,List.mem_flatMap.2 ⟨j,xT.2 d,xM.2 ⟨(a,n),b,rfl⟩⟩⟩);rcases c with rfl|rfl<;>rcases e with rfl|rfl<;>simp)
end
end Go.Proofs.YtilnpcolgcmofaaGreatDoor
