/- A part of the proof: Dy Jc Lp Ja. -/
import Derived.Test.YtilnpcolgcmofaaGreatDoorS27
set_option maxRecDepth 100000
set_option maxHeartbeats 20000000
set_option linter.all false
namespace Go.Proofs.YtilnpcolgcmofaaGreatDoor
open Tryz
section
open Go
def Cj(f:am):Int:=if f.kind=2\/f.kind=4 then f.lo else 0
def CQ(f:am):Int:=if f.kind=2\/f.kind=4 then f.hi else 0
def lK(k:au)(f:am):Int:=if f.kind=4/\dF f.of=false then aZ k f.of else -1
def K0(k:au)(i:Nat)(f:am):List iP:=[⟨lK k f,i,-(Cj f)⟩,⟨i,lK k f,CQ f⟩]
def lL(k:au):Nat->List iP
 |0=>[]
 |i+1=>lL k i++(match k.fields[i]? with|some f=>K0 k i f|none=>[])
def sR(x:ak)(j:Nat)(k:au):Nat->List iP
 |0=>[]
 |i+1=>sR x j k i++(match x.rules[i]? with|some r=>(if bc x r.kind=j then[⟨aZ k r.a,aZ k r.b,r.n⟩]else[])|none=>[])
def cg(x:ak)(j:Nat)(k:au):List iP:=lL k k.fields.length++sR x j k x.rules.length
theorem ZZ(k:au):∀q,(lL k q).length<=2*q
 |0=>by simp[lL]
 |q+1=>by
  have:=ZZ k q;rw[lL,zI];split
  .simp only[K0,List.length_cons,List.length_nil];omega
  .simp only[List.length_nil];omega
theorem k6(x:ak)(j:Nat)(k:au):∀q,(sR x j k q).length<=q
 |0=>by simp[sR]
 |q+1=>by
  have:=k6 x j k q;rw[sR,zI];split
  .split
   .simp only[List.length_cons,List.length_nil];omega
   .simp only[List.length_nil];omega
  .simp only[List.length_nil];omega
theorem YR(s:ByteArray):(s.toList==(⟨#[]⟩:ByteArray).toList)=dF s:=by
 rw[show(⟨#[]⟩:ByteArray).toList=[] by rw[ByteArray.toList_eq]];unfold dF
 cases s.toList<;>rfl
theorem fo{A B:Prop}(k:B)(h:ar B->A:=by intro q7;(first|refine bQ ?_|refine aA ?_|(refine' ah ?hc ?_;(case hc=>first|exact HF|exact HK|exact HA|exact HB)));exact q7.1):A:=h ⟨k⟩
theorem YD{p:Prop}(h:p:=by rw[hdn,yB];unfold K0;first|(rw[el,eh,eo];done)|(rw[el,eh,eo];rfl)):p:=h
theorem X2{p:Prop}(h:p:=by
 have eo:lK kd f= -1:=by unfold lK;rw[if_neg (λe=>by omega)]
 repeat' first|refine fo ?_|intro b;conv=>whnf
 refine Ap.go rfl rfl rfl rfl hr (r8 _ _ _) rfl (zs:=(lL kd (i+1)).map Qr) YD (by rw[zL];omega) (by rw[zL];omega) (λs'=>_::_::s') (bf2 _ _) (λa' c' s' hr=>?_)
 repeat' first|refine fo ?_|intro b;conv=>whnf
 exact⟨(i+1,_,s'),(aj aw),(Sc.sl (yG _ _)),⟨by simp only;omega,hr⟩,by simp only;omega⟩):p:=h
theorem X0{p:Prop}(h:p:=by
 repeat' first|refine fo ?_|intro b;conv=>whnf
 refine Ap.go rfl rfl rfl rfl hr (r8 _ _ _) rfl (zs:=(lL kd (i+1)).map Qr) YD (by rw[zL];omega) (by rw[zL];omega) (λs'=>_::_::s') (bf2 _ _) (λa' c' s' hr=>?_)
 repeat' first|refine fo ?_|intro b;conv=>whnf
 exact⟨(i+1,_,s'),(aj aw),(Sc.sl (yG _ _)),⟨by simp only;omega,hr⟩,by simp only;omega⟩):p:=h
theorem aN4(x:ak)(h:oO x)(j:Nat)(kd:au)(l:x.kz[j]?=some kd)(o:∀f∈kd.fields,-2097152<=f.lo/\f.lo<=2097152):APure prog 106 [ax x,iD j] (me (cg x j kd)):=by
 have C:=h.nk;have z:=h.nr;have G:=(zE.1 l).1;have I:x.kz[((j:Nat):Int).toNat]?=some kd:=l;have D:=h.nf kd (zG l);refine ao func106 ntmps106 λK=>?_
 repeat' first|refine fo ?_|intro b;conv=>whnf
 obtain⟨t,rfl⟩:∃c,c=b:=⟨_,rfl⟩
 refine aV mixed ai (γ:=Nat×Value×af) (λg=>[(7,iD g.1),(5,.v g.2.1)]) (λg=>(t,.cells 78 (bv kd))::g.2.2) (λg=>g.1<=kd.fields.length/\ae 255 3 ((lL kd g.1).map Qr) g.2.1 g.2.2) (λg=>kd.fields.length-g.1) (0,.slice none 0 0,[]) (aj aw) (Sc.refl _) ⟨zW _,ae.nil _ _⟩ ?_;rintro⟨i,v,s⟩ ⟨hi,hr⟩;simp only at hi hr⊢;by_cases hil:i<kd.fields.length
 .obtain⟨f,a⟩:∃y,kd.fields[i]?=some y:=⟨_,zD hil⟩
  have J:kd.fields[((i:Nat):Int).toNat]?=some f:=a;have F:=o f (zG a);have hdn:lL kd (i+1)=lL kd i++K0 kd i f:=by rw[lL,a]
  have q:=ZZ kd (i+1);have HF:=wM kd f.of (by omega);by_cases h2:f.kind=2
  .have el:Cj f=f.lo:=by unfold Cj;rw[if_pos (.inl h2)]
   have eh:CQ f=f.hi:=by unfold CQ;rw[if_pos (.inl h2)]
   exact X2
  .by_cases h4:f.kind=4
   .have el:Cj f=f.lo:=by unfold Cj;rw[if_pos (.inr h4)]
    have eh:CQ f=f.hi:=by unfold CQ;rw[if_pos (.inr h4)]
    have E:=YR f.of;by_cases ho:dF f.of=true
    .have eo:lK kd f= -1:=by unfold lK;rw[if_neg (λe=>by rw[ho]at e;cases e.2)]
     rw[ho]at E;exact X0
    .rw[Bool.not_eq_true]at ho;rw[ho]at E;have eo:lK kd f=aZ kd f.of:=by unfold lK;rw[if_pos ⟨h4,ho⟩]
     exact X0
   .have el:Cj f=0:=by unfold Cj;rw[if_neg (by omega)]
    have eh:CQ f=0:=by unfold CQ;rw[if_neg (by omega)]
    exact X2
 .obtain rfl:i=kd.fields.length:=by omega
  have w:=ZZ kd kd.fields.length
  repeat' first|refine fo ?_|intro b;conv=>whnf
  refine aV mixed ai (γ:=Nat×Value×af) (λg=>[(12,iD g.1),(5,.v g.2.1)]) (λg=>(t,.cells 78 (bv kd))::g.2.2) (λg=>g.1<=x.rules.length/\ae 255 3 ((lL kd kd.fields.length++sR x j kd g.1).map Qr) g.2.1 g.2.2) (λg=>x.rules.length-g.1) (0,v,s) (aj aw) (Sc.refl _) ⟨zW _,by rw[sR,zZ];exact hr⟩ ?_;rintro⟨i,v,s⟩ ⟨hi,hr⟩;simp only at hi hr⊢;by_cases hil:i<x.rules.length
  .obtain⟨r,k⟩:∃y,x.rules[i]?=some y:=⟨_,zD hil⟩
   have u:x.rules[((i:Nat):Int).toNat]?=some r:=k;have hdn:sR x j kd (i+1)=sR x j kd i++(if bc x r.kind=j then[⟨aZ kd r.a,aZ kd r.b,r.n⟩]else[]):=by rw[sR,k]
   have q:=k6 x j kd (i+1);have HK:=EA x r.kind (by omega);have HA:=wM kd r.a (by omega);have HB:=wM kd r.b (by omega);by_cases hkj:bc x r.kind=j
   .rw[if_pos hkj]at hdn
    repeat' first|refine fo ?_|intro b;conv=>whnf
    refine Ap.go rfl rfl rfl rfl hr (r8 _ _ _) rfl (zs:=(lL kd kd.fields.length++sR x j kd (i+1)).map Qr) (by rw[hdn,←zV];simp only[yB];rfl) (by rw[zL,zI];omega) (by rw[zL,zI];omega) (λs'=>_::_::s') (bf2 _ _) (λa' c' s' hr=>?_)
    repeat' first|refine fo ?_|intro b;conv=>whnf
    exact⟨(i+1,_,s'),(aj aw),(Sc.sl (yG _ _)),⟨by simp only;omega,hr⟩,by simp only;omega⟩
   .rw[if_neg hkj,zZ]at hdn
    repeat' first|refine fo ?_|intro b;conv=>whnf
    exact⟨(i+1,v,s),(aj aw),(Sc.sl (yG _ _)),⟨by simp only;omega,by rw[hdn];exact hr⟩,by simp only;omega⟩
  .obtain rfl:i=x.rules.length:=by omega
   repeat' first|refine fo ?_|intro b;conv=>whnf
   exact Rt.vs (Vs.row hr (JU _ _))
end
section
open Go
theorem CI:dF nE=true:=sP
theorem sS{k:au}{d:iP}:∀{q:Nat},d∈lL k q->∃(i:Nat)(f:am),k.fields[i]?=some f/\d∈K0 k i f
 |0,h=>by simp[lL]at h
 |q+1,h=>by
  rw[lL]at h;rcases zO.1 h with h|h
  .exact sS h
  .split at h
   .rename_i f a;exact⟨q,f,a,h⟩
   .cases h
theorem DH{k:au}{i:Nat}{f:am}(a:k.fields[i]?=some f){d:iP}(b:d∈K0 k i f):∀{q:Nat},i<q->d∈lL k q
 |q+1,h=>by
  rw[lL];by_cases e:i=q
  .subst e;rw[a];exact yW _ b
  .exact xK _ (DH a b (by omega))
theorem sQ{x:ak}{j:Nat}{k:au}{d:iP}:∀{q:Nat},d∈sR x j k q->∃r∈x.rules,bc x r.kind=j/\d=⟨aZ k r.a,aZ k r.b,r.n⟩
 |0,h=>by simp[sR]at h
 |q+1,h=>by
  rw[sR]at h;rcases zO.1 h with h|h
  .exact sQ h
  .split at h
   .rename_i r a;split at h
    .rename_i e;rw[zN]at h;exact⟨r,zG a,e,h⟩
    .cases h
   .cases h
theorem Ci{x:ak}(h:bJ x){i j:Nat}{k:au}{f:am}(a:x.kz[i]?=some k)(b:k.fields[j]?=some f):(-300<=Cj f/\Cj f<=300)/\(-300<=CQ f/\CQ f<=300):=by
 have:=h.fb a b;unfold Cj CQ;split<;>omega
theorem BV{x:ak}(h:bJ x){i j:Nat}{k:au}{f:am}(b:x.kz[i]?=some k)(c:k.fields[j]?=some f):lK k f= -1\/∃(n:Nat)(g:am),n<j/\lK k f=n/\k.fields[n]?=some g/\lK k g= -1:=by
 unfold lK;split
 .rename_i e
  cases h.gf b c with
  |day a q o=>
   rcases o with o|⟨n,g,p,m,l,r,d⟩
   .exfalso;rw[o,CI]at e;cases e.2
   .refine .inr ⟨n,g,p,m,l,?_⟩;rw[if_neg (λe=>by rw[d,CI]at e;cases e.2)]
  |above a=>omega
  |_ a=>omega
 .exact .inl rfl
theorem cu.sides{x:ak}(h:bJ x){t:Nat}{k:au}(s:x.kz[t]?=some k){r:cF}(R:cu k r):aZ k r.a≠aZ k r.b/\(-1000<=r.n/\r.n<=1000):=by
 have H:=h.hx;have F:=H.form t k s;have N:=F.nodup;have low:=F.low;have m:aZ k nE= -1:=by
  unfold aZ idx
  cases A:List.findIdx? (λf:am=>seq f.name nE) k.fields with
  |none=>rfl
  |some o=>
   exfalso;obtain⟨D,C,_⟩:=wB.1 A;have:=F.nms _ (wE D);rw[(Ek _ _).1 C]at this;revert this;decide +kernel
 have c:∀{f:am},f∈k.fields->∃j:Nat,aZ k f.name=j/\k.fields[j]?=some f:=λ{f}d=>by
  obtain⟨j,z⟩:=yO d;exact⟨j,xt N z,z⟩
 cases R with
 |low w n y=>
  obtain⟨f,d,e⟩:=QK n;obtain⟨E,g,B,v,G⟩:=(low f d).1 e;obtain⟨a,q,l⟩:=c d;obtain⟨b,u,p⟩:=c B;refine⟨?_,by simp only;omega,by simp only;omega⟩
  show aZ k gh≠aZ k eL;rw[←e,←v,q,u];intro I;obtain rfl:a=b:=by omega
  rw[l]at p;cases p
  rw[e]at v;revert v;decide +kernel
 |most f2 w n i y=>
  obtain⟨f,d,e⟩:=QK n;obtain⟨a,q,l⟩:=c d;have u:=h.fb s i;refine⟨?_,by simp only;omega,by simp only;omega⟩
  show aZ k bj≠aZ k nE;rw[←e,q,m];omega
 |least f2 w n i y=>
  obtain⟨f,d,e⟩:=QK n;obtain⟨a,q,l⟩:=c d;have u:=h.fb s i;refine⟨?_,by simp only;omega,by simp only;omega⟩
  show aZ k nE≠aZ k bj;rw[←e,q,m];omega
theorem bJ.rul{x:ak}(h:bJ x){r:cF}(d:r∈x.rules){j:Nat}(g:bc x r.kind=j){k:au}(f:x.kz[j]?=some k):cu k r:=by
 have H:=h.hx;obtain⟨i,_,l⟩:=h.rs;have N:∀(t:Nat)y,x.kz[t]?=some y->y.name=br t:=λt y c=>(H.form t y c).name;obtain⟨_,m⟩:=l.facts N H.nk;obtain⟨t,b,_,a,R⟩:=m r d;have e:r.kind=b.name:=by cases R<;>rfl
 rw[e,N t b a,H.kix a]at g;obtain rfl:t=j:=by omega
 rw[f]at a;cases a
 exact R
theorem Xr{p:Prop}(h:p:=by
 refine⟨⟨by simp only;omega,by simp only;omega⟩,⟨by simp only;omega,by simp only;omega⟩,by simp only;omega,by simp only;omega,by simp only;omega⟩):p:=h
theorem Iz{x:ak}(h:bJ x){j:Nat}{k:au}(b:x.kz[j]?=some k):q8 k.fields.length (cg x j k) where
 n:=h.sm.nf k (zG b)
 l:=by
  have w:=ZZ k k.fields.length;have C:=k6 x j k x.rules.length;have B:=h.sm.nf k (zG b);have A:=h.nr;unfold cg;rw[zI];omega
 v:=λd a=>by
  unfold cg at a;rcases zO.1 a with a|a
  .obtain⟨i,f,c,a⟩:=sS a;have t:=(zE.1 c).1;have z:=Ci h b c;have q:=BV h b c;have o:-1<=lK k f/\lK k f<k.fields.length/\lK k f≠i:=by
    rcases q with e|⟨n,g,w,e,_⟩
    .omega
    .omega
   unfold K0 at a;simp only[zU,yF,xE]at a;rcases a with rfl|rfl
   .exact Xr
   .exact Xr
  .obtain⟨r,m,u,rfl⟩:=sQ a;obtain⟨s,y⟩:=(h.rul m u b).sides h b;exact⟨⟨aU6 _ _,L6 _ _⟩,⟨aU6 _ _,L6 _ _⟩,s,by simp only;omega,by simp only;omega⟩
theorem zu{n:Nat}{s:List iP}{d:iP}{q:Nat}(b:s[q]?=some d):∀i,q<i->cv n s i (cm n d.a) (cm n d.b)<=d.n
 |i+1,h=>by
  rw[cv];by_cases e:q=i
  .subst e;rw[b];simp only[kg,and_self,if_true];split<;>omega
  .have a:=zu (n:=n) b i (by omega)
   cases f:s[i]? with
   |none=>exact a
   |some g=>
    simp only[kg];split
    .rename_i c;rw[c.1,c.2]at a;split<;>omega
    .exact a
theorem DY{n:Nat}{s:List iP}{d:iP}(a:d∈s):cE n s (cm n d.a) (cm n d.b)<=d.n:=by
 obtain⟨q,h⟩:=yO a;exact Int.le_trans (lq (n+1) (cv n s s.length) _ _ (zW (n+1))) (zu h _ (zE.1 h).1)
theorem KG{n:Nat}(h:n<=10):(2:Int) ^ (n+1)<=2048:=by
 have:n=0\/n=1\/n=2\/n=3\/n=4\/n=5\/n=6\/n=7\/n=8\/n=9\/n=10:=by omega
 rcases this with rfl|rfl|rfl|rfl|rfl|rfl|rfl|rfl|rfl|rfl|rfl<;>decide
theorem SY{n:Nat}:(0:Int)<=2 ^ n:=Int.le_of_lt (Int.pow_pos (by decide))
theorem ry{n:Nat}{s:List iP}(h:q8 n s):∀i a b,cv n s i a b<dq->cv n s i a b<=2097152
 |0,a,b=>by rw[cv];unfold ka;split<;>omega
 |i+1,a,b=>by
  have c:=ry h i;rw[cv]
  cases e:s[i]? with
  |none=>exact c a b
  |some d=>
   have v:=(h.v d (zG e)).2.2.2;simp only;unfold kg;split
   .split
    .omega
    .exact c _ _
   .exact c a b
theorem mD(n i:Nat):cm n (i:Int)=i:=by unfold cm;rw[if_neg (by omega),Int.toNat_natCast]
theorem rU(n:Nat):cm n (-1)=n:=by unfold cm;rw[if_pos (by omega)]
theorem IK{x:ak}(h:bJ x){j:Nat}{k:au}(t:x.kz[j]?=some k)(N:eK (k.fields.length+1) (cE k.fields.length (cg x j k))=false):qW k.fields.length (2 ^ (k.fields.length+1)*2097152) (cE k.fields.length (cg x j k)):=by
 have D:=Iz h t;have z:=D.n;have E:dq=1099511627776:=rfl;have H:=KG z;have y:=SY (n:=k.fields.length+1);have p:∀q,q<k.fields.length+1->0<=cE k.fields.length (cg x j k) q q:=λq s=>by
  unfold eK at N;rw[List.any_eq_false]at N;have:=N q (xT.2 s)
  simpa using this
 have u:2 ^ (k.fields.length+1)*2097152<dq:=by omega
 have C:Mz (k.fields.length+1) (k.fields.length+1) (2 ^ (k.fields.length+1)*2097152) (cE k.fields.length (cg x j k)):=
  oa (m:=k.fields.length+1) (B:=2097152) (by decide) u ⟨λa b q _ _ s=>by omega,λa b _ _ c=>by
   have:=rz D (cg x j k).length a b;have:=ry D (cg x j k).length a b c;omega,λa b _ _=>by
   have:=rz D (cg x j k).length a b;omega⟩ p _ (zT _)
 have o:∀{i:Nat}{f:am}{d:iP},k.fields[i]?=some f->d∈K0 k i f->d∈cg x j k:=λ{i f d}c p=>xK _ (DH c p (zE.1 c).1);have l:∀(i:Nat)(f:am),k.fields[i]?=some f->∀(r:Nat),cm k.fields.length (lK k f)=r->cE k.fields.length (cg x j k) r i<=300/\cE k.fields.length (cg x j k) i r<=300:=λi f c r w=>by
  have I:=Ci h t c;have c1:=DY (n:=k.fields.length) (o (d:=⟨lK k f,i,-(Cj f)⟩) c yN);have G:=DY (n:=k.fields.length) (o (d:=⟨i,lK k f,CQ f⟩) c (yQ _ (zN.2 rfl)));simp only[mD,w]at c1 G;omega
 refine⟨C,p,λi A=>?_,by omega⟩;obtain⟨f,c⟩:∃f,k.fields[i]?=some f:=⟨_,zD A⟩
 rcases BV h t c with e|⟨q,g,J,e,v,F⟩
 .have:=l i f c k.fields.length (by rw[e,rU]);omega
 .have L:=l i f c q (by rw[e,mD]);have K:=l q g v k.fields.length (by rw[F,rU]);have s:=(zE.1 v).1;have t1:=C.tri i k.fields.length q (by omega) (by omega) (by omega) (by omega) (by omega);have t2:=C.tri k.fields.length i q (by omega) (by omega) (by omega) (by omega) (by omega);omega
end
section
open Go
theorem Es:g6.length=1221:=by decide +kernel
set_option maxRecDepth 100000
theorem ln0:ab (an 0)=true:=by decide +kernel
theorem ln1:ab (an 1)=true:=by decide +kernel
theorem ln2:ab (an 2)=true:=by decide +kernel
theorem ln3:ab (an 3)=true:=by decide +kernel
theorem ln4:ab (an 4)=true:=by decide +kernel
theorem ln5:ab (an 5)=true:=by decide +kernel
theorem ln6:ab (an 6)=true:=by decide +kernel
theorem ln7:ab (an 7)=true:=by decide +kernel
theorem ln8:ab (an 8)=true:=by decide +kernel
theorem ln9:ab (an 9)=true:=by decide +kernel
theorem bB3:ab (an 10)=true:=by decide +kernel
theorem bB2:ab (an 11)=true:=by decide +kernel
theorem bB1:ab (an 12)=true:=by decide +kernel
theorem bB0:ab (an 13)=true:=by decide +kernel
theorem bA9:ab (an 14)=true:=by decide +kernel
theorem bA8:ab (an 15)=true:=by decide +kernel
theorem bA7:ab (an 16)=true:=by decide +kernel
theorem bA6:ab (an 17)=true:=by decide +kernel
theorem bA5:ab (an 18)=true:=by decide +kernel
theorem bA4:ab (an 19)=true:=by decide +kernel
theorem bA3:ab (an 20)=true:=by decide +kernel
theorem bA2:ab (an 21)=true:=by decide +kernel
theorem bA1:ab (an 22)=true:=by decide +kernel
theorem bA0:ab (an 23)=true:=by decide +kernel
theorem bz9:ab (an 24)=true:=by decide +kernel
theorem bz8:ab (an 25)=true:=by decide +kernel
theorem bz7:ab (an 26)=true:=by decide +kernel
theorem bz6:ab (an 27)=true:=by decide +kernel
theorem bz5:ab (an 28)=true:=by decide +kernel
theorem bz4:ab (an 29)=true:=by decide +kernel
theorem bz3:ab (an 30)=true:=by decide +kernel
theorem bz2:ab (an 31)=true:=by decide +kernel
theorem bz1:ab (an 32)=true:=by decide +kernel
theorem bz0:ab (an 33)=true:=by decide +kernel
theorem by9:ab (an 34)=true:=by decide +kernel
theorem by8:ab (an 35)=true:=by decide +kernel
theorem by7:ab (an 36)=true:=by decide +kernel
theorem by6:ab (an 37)=true:=by decide +kernel
theorem by5:ab (an 38)=true:=by decide +kernel
theorem by4:ab (an 39)=true:=by decide +kernel
theorem by3:ab (an 40)=true:=by decide +kernel
theorem by2:ab (an 41)=true:=by decide +kernel
theorem by1:ab (an 42)=true:=by decide +kernel
theorem by0:ab (an 43)=true:=by decide +kernel
theorem bx9:ab (an 44)=true:=by decide +kernel
theorem bx8:ab (an 45)=true:=by decide +kernel
theorem bx7:ab (an 46)=true:=by decide +kernel
theorem bx6:ab (an 47)=true:=by decide +kernel
theorem bx5:ab (an 48)=true:=by decide +kernel
theorem bx4:ab (an 49)=true:=by decide +kernel
theorem bx3:ab (an 50)=true:=by decide +kernel
theorem bx2:ab (an 51)=true:=by decide +kernel
theorem bx1:ab (an 52)=true:=by decide +kernel
theorem bx0:ab (an 53)=true:=by decide +kernel
theorem bw9:ab (an 54)=true:=by decide +kernel
theorem bw8:ab (an 55)=true:=by decide +kernel
theorem bw7:ab (an 56)=true:=by decide +kernel
theorem bw6:ab (an 57)=true:=by decide +kernel
theorem bw5:ab (an 58)=true:=by decide +kernel
theorem bw4:ab (an 59)=true:=by decide +kernel
theorem bw3:ab (an 60)=true:=by decide +kernel
theorem bw2:ab (an 61)=true:=by decide +kernel
theorem bw1:ab (an 62)=true:=by decide +kernel
theorem bw0:ab (an 63)=true:=by decide +kernel
theorem bv9:ab (an 64)=true:=by decide +kernel
theorem bv8:ab (an 65)=true:=by decide +kernel
theorem bv7:ab (an 66)=true:=by decide +kernel
theorem bv6:ab (an 67)=true:=by decide +kernel
theorem bv5:ab (an 68)=true:=by decide +kernel
theorem bv4:ab (an 69)=true:=by decide +kernel
theorem bv3:ab (an 70)=true:=by decide +kernel
theorem bv2:ab (an 71)=true:=by decide +kernel
theorem bv1:ab (an 72)=true:=by decide +kernel
theorem bv0:ab (an 73)=true:=by decide +kernel
theorem bu9:ab (an 74)=true:=by decide +kernel
theorem bu8:ab (an 75)=true:=by decide +kernel
theorem bu7:ab (an 76)=true:=by decide +kernel
theorem bu6:ab (an 77)=true:=by decide +kernel
theorem bu5:ab (an 78)=true:=by decide +kernel
theorem bu4:ab (an 79)=true:=by decide +kernel
theorem bu3:ab (an 80)=true:=by decide +kernel
theorem bu2:ab (an 81)=true:=by decide +kernel
theorem bu1:ab (an 82)=true:=by decide +kernel
theorem bu0:ab (an 83)=true:=by decide +kernel
theorem bt9:ab (an 84)=true:=by decide +kernel
theorem bt8:ab (an 85)=true:=by decide +kernel
theorem bt7:ab (an 86)=true:=by decide +kernel
theorem bt6:ab (an 87)=true:=by decide +kernel
theorem bt5:ab (an 88)=true:=by decide +kernel
theorem bt4:ab (an 89)=true:=by decide +kernel
theorem bt3:ab (an 90)=true:=by decide +kernel
theorem bt2:ab (an 91)=true:=by decide +kernel
theorem bt1:ab (an 92)=true:=by decide +kernel
theorem bt0:ab (an 93)=true:=by decide +kernel
theorem bs9:ab (an 94)=true:=by decide +kernel
theorem bs8:ab (an 95)=true:=by decide +kernel
theorem bs7:ab (an 96)=true:=by decide +kernel
theorem bs6:ab (an 97)=true:=by decide +kernel
theorem bs5:ab (an 98)=true:=by decide +kernel
theorem bs4:ab (an 99)=true:=by decide +kernel
theorem WW:ab (an 100)=true:=by decide +kernel
theorem WV:ab (an 101)=true:=by decide +kernel
theorem WU:ab (an 102)=true:=by decide +kernel
theorem WT:ab (an 103)=true:=by decide +kernel
theorem WS:ab (an 104)=true:=by decide +kernel
theorem WR:ab (an 105)=true:=by decide +kernel
theorem WQ:ab (an 106)=true:=by decide +kernel
theorem WP:ab (an 107)=true:=by decide +kernel
theorem WO:ab (an 108)=true:=by decide +kernel
theorem WN:ab (an 109)=true:=by decide +kernel
theorem WM:ab (an 110)=true:=by decide +kernel
theorem WL:ab (an 111)=true:=by decide +kernel
theorem WK:ab (an 112)=true:=by decide +kernel
theorem WJ:ab (an 113)=true:=by decide +kernel
theorem WI:ab (an 114)=true:=by decide +kernel
theorem WH:ab (an 115)=true:=by decide +kernel
theorem WG:ab (an 116)=true:=by decide +kernel
theorem WF:ab (an 117)=true:=by decide +kernel
theorem WE:ab (an 118)=true:=by decide +kernel
theorem WD:ab (an 119)=true:=by decide +kernel
theorem WC:ab (an 120)=true:=by decide +kernel
theorem WB:ab (an 121)=true:=by decide +kernel
theorem WA:ab (an 122)=true:=by decide +kernel
theorem Wz:ab (an 123)=true:=by decide +kernel
theorem Wy:ab (an 124)=true:=by decide +kernel
theorem Wx:ab (an 125)=true:=by decide +kernel
theorem Ww:ab (an 126)=true:=by decide +kernel
theorem Wv:ab (an 127)=true:=by decide +kernel
theorem Wu:ab (an 128)=true:=by decide +kernel
theorem Wt:ab (an 129)=true:=by decide +kernel
theorem Wr:ab (an 130)=true:=by decide +kernel
theorem Wq:ab (an 131)=true:=by decide +kernel
theorem Wp:ab (an 132)=true:=by decide +kernel
theorem Wo:ab (an 133)=true:=by decide +kernel
theorem Wn:ab (an 134)=true:=by decide +kernel
theorem Wm:ab (an 135)=true:=by decide +kernel
theorem Wl:ab (an 136)=true:=by decide +kernel
theorem Wj:ab (an 137)=true:=by decide +kernel
theorem Wi:ab (an 138)=true:=by decide +kernel
theorem Wh:ab (an 139)=true:=by decide +kernel
theorem Wg:ab (an 140)=true:=by decide +kernel
theorem Wf:ab (an 141)=true:=by decide +kernel
theorem We:ab (an 142)=true:=by decide +kernel
theorem Wb:ab (an 143)=true:=by decide +kernel
theorem Wa:ab (an 144)=true:=by decide +kernel
theorem V':ab (an 145)=true:=by decide +kernel
theorem V0:ab (an 146)=true:=by decide +kernel
theorem VZ:ab (an 147)=true:=by decide +kernel
theorem VY:ab (an 148)=true:=by decide +kernel
theorem VX:ab (an 149)=true:=by decide +kernel
theorem VW:ab (an 150)=true:=by decide +kernel
theorem VV:ab (an 151)=true:=by decide +kernel
theorem VU:ab (an 152)=true:=by decide +kernel
theorem VT:ab (an 153)=true:=by decide +kernel
theorem VR:ab (an 154)=true:=by decide +kernel
theorem VQ:ab (an 155)=true:=by decide +kernel
theorem VP:ab (an 156)=true:=by decide +kernel
theorem VO:ab (an 157)=true:=by decide +kernel
theorem VN:ab (an 158)=true:=by decide +kernel
theorem VM:ab (an 159)=true:=by decide +kernel
theorem VL:ab (an 160)=true:=by decide +kernel
theorem VK:ab (an 161)=true:=by decide +kernel
theorem VJ:ab (an 162)=true:=by decide +kernel
theorem VH:ab (an 163)=true:=by decide +kernel
theorem VG:ab (an 164)=true:=by decide +kernel
theorem VF:ab (an 165)=true:=by decide +kernel
theorem VE:ab (an 166)=true:=by decide +kernel
theorem VD:ab (an 167)=true:=by decide +kernel
theorem VC:ab (an 168)=true:=by decide +kernel
theorem VB:ab (an 169)=true:=by decide +kernel
theorem VA:ab (an 170)=true:=by decide +kernel
theorem Vz:ab (an 171)=true:=by decide +kernel
theorem Vy:ab (an 172)=true:=by decide +kernel
theorem Vx:ab (an 173)=true:=by decide +kernel
theorem Vw:ab (an 174)=true:=by decide +kernel
theorem Vv:ab (an 175)=true:=by decide +kernel
theorem Vu:ab (an 176)=true:=by decide +kernel
theorem Vt:ab (an 177)=true:=by decide +kernel
theorem Vr:ab (an 178)=true:=by decide +kernel
theorem Vq:ab (an 179)=true:=by decide +kernel
theorem Vp:ab (an 180)=true:=by decide +kernel
theorem Vo:ab (an 181)=true:=by decide +kernel
theorem Vn:ab (an 182)=true:=by decide +kernel
theorem Vm:ab (an 183)=true:=by decide +kernel
theorem Vl:ab (an 184)=true:=by decide +kernel
theorem Vk:ab (an 185)=true:=by decide +kernel
theorem Vj:ab (an 186)=true:=by decide +kernel
theorem Vg:ab (an 187)=true:=by decide +kernel
theorem Vf:ab (an 188)=true:=by decide +kernel
theorem Ve:ab (an 189)=true:=by decide +kernel
theorem U':ab (an 190)=true:=by decide +kernel
theorem U9:ab (an 191)=true:=by decide +kernel
theorem U8:ab (an 192)=true:=by decide +kernel
theorem U7:ab (an 193)=true:=by decide +kernel
theorem U6:ab (an 194)=true:=by decide +kernel
theorem U5:ab (an 195)=true:=by decide +kernel
theorem U4:ab (an 196)=true:=by decide +kernel
theorem U3:ab (an 197)=true:=by decide +kernel
theorem U2:ab (an 198)=true:=by decide +kernel
theorem U1:ab (an 199)=true:=by decide +kernel
theorem U0:ab (an 200)=true:=by decide +kernel
theorem UZ:ab (an 201)=true:=by decide +kernel
theorem UY:ab (an 202)=true:=by decide +kernel
theorem UX:ab (an 203)=true:=by decide +kernel
theorem UW:ab (an 204)=true:=by decide +kernel
theorem UV:ab (an 205)=true:=by decide +kernel
theorem UU:ab (an 206)=true:=by decide +kernel
theorem UT:ab (an 207)=true:=by decide +kernel
theorem US:ab (an 208)=true:=by decide +kernel
theorem UR:ab (an 209)=true:=by decide +kernel
theorem UQ:ab (an 210)=true:=by decide +kernel
theorem UP:ab (an 211)=true:=by decide +kernel
theorem UO:ab (an 212)=true:=by decide +kernel
theorem UN:ab (an 213)=true:=by decide +kernel
theorem UM:ab (an 214)=true:=by decide +kernel
theorem UL:ab (an 215)=true:=by decide +kernel
theorem UK:ab (an 216)=true:=by decide +kernel
theorem UJ:ab (an 217)=true:=by decide +kernel
theorem UI:ab (an 218)=true:=by decide +kernel
theorem UH:ab (an 219)=true:=by decide +kernel
theorem UG:ab (an 220)=true:=by decide +kernel
theorem UF:ab (an 221)=true:=by decide +kernel
theorem UE:ab (an 222)=true:=by decide +kernel
theorem UD:ab (an 223)=true:=by decide +kernel
theorem UC:ab (an 224)=true:=by decide +kernel
theorem UB:ab (an 225)=true:=by decide +kernel
theorem UA:ab (an 226)=true:=by decide +kernel
theorem Uz:ab (an 227)=true:=by decide +kernel
theorem Uy:ab (an 228)=true:=by decide +kernel
theorem Ux:ab (an 229)=true:=by decide +kernel
theorem Uw:ab (an 230)=true:=by decide +kernel
theorem Uv:ab (an 231)=true:=by decide +kernel
theorem Uu:ab (an 232)=true:=by decide +kernel
theorem Ut:ab (an 233)=true:=by decide +kernel
theorem Us:ab (an 234)=true:=by decide +kernel
theorem Ur:ab (an 235)=true:=by decide +kernel
theorem Uq:ab (an 236)=true:=by decide +kernel
theorem Up:ab (an 237)=true:=by decide +kernel
theorem Uo:ab (an 238)=true:=by decide +kernel
theorem Un:ab (an 239)=true:=by decide +kernel
theorem Um:ab (an 240)=true:=by decide +kernel
theorem Ul:ab (an 241)=true:=by decide +kernel
theorem Uk:ab (an 242)=true:=by decide +kernel
theorem Uj:ab (an 243)=true:=by decide +kernel
theorem Ui:ab (an 244)=true:=by decide +kernel
theorem Uh:ab (an 245)=true:=by decide +kernel
theorem Ug:ab (an 246)=true:=by decide +kernel
theorem Uf:ab (an 247)=true:=by decide +kernel
theorem Ue:ab (an 248)=true:=by decide +kernel
theorem Ud:ab (an 249)=true:=by decide +kernel
theorem Uc:ab (an 250)=true:=by decide +kernel
theorem Ub:ab (an 251)=true:=by decide +kernel
theorem Ua:ab (an 252)=true:=by decide +kernel
theorem T':ab (an 253)=true:=by decide +kernel
theorem T9:ab (an 254)=true:=by decide +kernel
theorem T8:ab (an 255)=true:=by decide +kernel
theorem T7:ab (an 256)=true:=by decide +kernel
theorem T6:ab (an 257)=true:=by decide +kernel
theorem T5:ab (an 258)=true:=by decide +kernel
theorem T4:ab (an 259)=true:=by decide +kernel
theorem T3:ab (an 260)=true:=by decide +kernel
theorem T2:ab (an 261)=true:=by decide +kernel
theorem T1:ab (an 262)=true:=by decide +kernel
theorem T0:ab (an 263)=true:=by decide +kernel
theorem TZ:ab (an 264)=true:=by decide +kernel
theorem TY:ab (an 265)=true:=by decide +kernel
theorem TX:ab (an 266)=true:=by decide +kernel
theorem TW:ab (an 267)=true:=by decide +kernel
theorem TV:ab (an 268)=true:=by decide +kernel
theorem TU:ab (an 269)=true:=by decide +kernel
theorem TT:ab (an 270)=true:=by decide +kernel
theorem TS:ab (an 271)=true:=by decide +kernel
theorem TR:ab (an 272)=true:=by decide +kernel
theorem TQ:ab (an 273)=true:=by decide +kernel
theorem TP:ab (an 274)=true:=by decide +kernel
theorem TN:ab (an 275)=true:=by decide +kernel
theorem TM:ab (an 276)=true:=by decide +kernel
theorem TL:ab (an 277)=true:=by decide +kernel
theorem TK:ab (an 278)=true:=by decide +kernel
theorem TJ:ab (an 279)=true:=by decide +kernel
theorem TH:ab (an 280)=true:=by decide +kernel
theorem TG:ab (an 281)=true:=by decide +kernel
theorem TF:ab (an 282)=true:=by decide +kernel
theorem TE:ab (an 283)=true:=by decide +kernel
theorem TD:ab (an 284)=true:=by decide +kernel
theorem TC:ab (an 285)=true:=by decide +kernel
theorem TB:ab (an 286)=true:=by decide +kernel
theorem TA:ab (an 287)=true:=by decide +kernel
theorem Tz:ab (an 288)=true:=by decide +kernel
theorem Ty:ab (an 289)=true:=by decide +kernel
theorem Tx:ab (an 290)=true:=by decide +kernel
theorem Tw:ab (an 291)=true:=by decide +kernel
theorem Tv:ab (an 292)=true:=by decide +kernel
theorem Tu:ab (an 293)=true:=by decide +kernel
theorem Tt:ab (an 294)=true:=by decide +kernel
theorem Ts:ab (an 295)=true:=by decide +kernel
theorem Tr:ab (an 296)=true:=by decide +kernel
theorem Tq:ab (an 297)=true:=by decide +kernel
theorem Tp:ab (an 298)=true:=by decide +kernel
theorem To:ab (an 299)=true:=by decide +kernel
theorem Tm:ab (an 300)=true:=by decide +kernel
theorem Tl:ab (an 301)=true:=by decide +kernel
theorem Tk:ab (an 302)=true:=by decide +kernel
theorem Tj:ab (an 303)=true:=by decide +kernel
theorem Ti:ab (an 304)=true:=by decide +kernel
theorem Th:ab (an 305)=true:=by decide +kernel
theorem Tg:∀q,q<306->ab (an q)=true:=by
 intro q a
 match q,a with
 |0,_=>exact ln0
 |1,_=>exact ln1
 |2,_=>exact ln2
 |3,_=>exact ln3
 |4,_=>exact ln4
 |5,_=>exact ln5
 |6,_=>exact ln6
 |7,_=>exact ln7
 |8,_=>exact ln8
 |9,_=>exact ln9
 |10,_=>exact bB3
 |11,_=>exact bB2
 |12,_=>exact bB1
 |13,_=>exact bB0
 |14,_=>exact bA9
 |15,_=>exact bA8
 |16,_=>exact bA7
 |17,_=>exact bA6
 |18,_=>exact bA5
 |19,_=>exact bA4
 |20,_=>exact bA3
 |21,_=>exact bA2
 |22,_=>exact bA1
 |23,_=>exact bA0
 |24,_=>exact bz9
 |25,_=>exact bz8
 |26,_=>exact bz7
 |27,_=>exact bz6
 |28,_=>exact bz5
 |29,_=>exact bz4
 |30,_=>exact bz3
 |31,_=>exact bz2
 |32,_=>exact bz1
 |33,_=>exact bz0
 |34,_=>exact by9
 |35,_=>exact by8
 |36,_=>exact by7
 |37,_=>exact by6
 |38,_=>exact by5
 |39,_=>exact by4
 |40,_=>exact by3
 |41,_=>exact by2
 |42,_=>exact by1
 |43,_=>exact by0
 |44,_=>exact bx9
 |45,_=>exact bx8
 |46,_=>exact bx7
 |47,_=>exact bx6
 |48,_=>exact bx5
 |49,_=>exact bx4
 |50,_=>exact bx3
 |51,_=>exact bx2
 |52,_=>exact bx1
 |53,_=>exact bx0
 |54,_=>exact bw9
 |55,_=>exact bw8
 |56,_=>exact bw7
 |57,_=>exact bw6
 |58,_=>exact bw5
 |59,_=>exact bw4
 |60,_=>exact bw3
 |61,_=>exact bw2
 |62,_=>exact bw1
 |63,_=>exact bw0
 |64,_=>exact bv9
 |65,_=>exact bv8
 |66,_=>exact bv7
 |67,_=>exact bv6
 |68,_=>exact bv5
 |69,_=>exact bv4
 |70,_=>exact bv3
 |71,_=>exact bv2
 |72,_=>exact bv1
 |73,_=>exact bv0
 |74,_=>exact bu9
 |75,_=>exact bu8
 |76,_=>exact bu7
 |77,_=>exact bu6
 |78,_=>exact bu5
 |79,_=>exact bu4
 |80,_=>exact bu3
 |81,_=>exact bu2
 |82,_=>exact bu1
 |83,_=>exact bu0
 |84,_=>exact bt9
 |85,_=>exact bt8
 |86,_=>exact bt7
 |87,_=>exact bt6
 |88,_=>exact bt5
 |89,_=>exact bt4
 |90,_=>exact bt3
 |91,_=>exact bt2
 |92,_=>exact bt1
 |93,_=>exact bt0
 |94,_=>exact bs9
 |95,_=>exact bs8
 |96,_=>exact bs7
 |97,_=>exact bs6
 |98,_=>exact bs5
 |99,_=>exact bs4
 |100,_=>exact WW
 |101,_=>exact WV
 |102,_=>exact WU
 |103,_=>exact WT
 |104,_=>exact WS
 |105,_=>exact WR
 |106,_=>exact WQ
 |107,_=>exact WP
 |108,_=>exact WO
 |109,_=>exact WN
 |110,_=>exact WM
 |111,_=>exact WL
 |112,_=>exact WK
 |113,_=>exact WJ
 |114,_=>exact WI
 |115,_=>exact WH
 |116,_=>exact WG
 |117,_=>exact WF
 |118,_=>exact WE
 |119,_=>exact WD
 |120,_=>exact WC
 |121,_=>exact WB
 |122,_=>exact WA
 |123,_=>exact Wz
 |124,_=>exact Wy
 |125,_=>exact Wx
 |126,_=>exact Ww
 |127,_=>exact Wv
 |128,_=>exact Wu
 |129,_=>exact Wt
 |130,_=>exact Wr
 |131,_=>exact Wq
 |132,_=>exact Wp
 |133,_=>exact Wo
 |134,_=>exact Wn
 |135,_=>exact Wm
 |136,_=>exact Wl
 |137,_=>exact Wj
 |138,_=>exact Wi
 |139,_=>exact Wh
 |140,_=>exact Wg
 |141,_=>exact Wf
 |142,_=>exact We
 |143,_=>exact Wb
 |144,_=>exact Wa
 |145,_=>exact V'
 |146,_=>exact V0
 |147,_=>exact VZ
 |148,_=>exact VY
 |149,_=>exact VX
 |150,_=>exact VW
 |151,_=>exact VV
 |152,_=>exact VU
 |153,_=>exact VT
 |154,_=>exact VR
 |155,_=>exact VQ
 |156,_=>exact VP
 |157,_=>exact VO
 |158,_=>exact VN
 |159,_=>exact VM
 |160,_=>exact VL
 |161,_=>exact VK
 |162,_=>exact VJ
 |163,_=>exact VH
 |164,_=>exact VG
 |165,_=>exact VF
 |166,_=>exact VE
 |167,_=>exact VD
 |168,_=>exact VC
 |169,_=>exact VB
 |170,_=>exact VA
 |171,_=>exact Vz
 |172,_=>exact Vy
 |173,_=>exact Vx
 |174,_=>exact Vw
 |175,_=>exact Vv
 |176,_=>exact Vu
 |177,_=>exact Vt
 |178,_=>exact Vr
 |179,_=>exact Vq
 |180,_=>exact Vp
 |181,_=>exact Vo
 |182,_=>exact Vn
 |183,_=>exact Vm
 |184,_=>exact Vl
 |185,_=>exact Vk
 |186,_=>exact Vj
 |187,_=>exact Vg
 |188,_=>exact Vf
 |189,_=>exact Ve
 |190,_=>exact U'
 |191,_=>exact U9
 |192,_=>exact U8
 |193,_=>exact U7
 |194,_=>exact U6
 |195,_=>exact U5
 |196,_=>exact U4
 |197,_=>exact U3
 |198,_=>exact U2
 |199,_=>exact U1
 |200,_=>exact U0
 |201,_=>exact UZ
 |202,_=>exact UY
 |203,_=>exact UX
 |204,_=>exact UW
 |205,_=>exact UV
 |206,_=>exact UU
 |207,_=>exact UT
 |208,_=>exact US
 |209,_=>exact UR
 |210,_=>exact UQ
 |211,_=>exact UP
 |212,_=>exact UO
 |213,_=>exact UN
 |214,_=>exact UM
 |215,_=>exact UL
 |216,_=>exact UK
 |217,_=>exact UJ
 |218,_=>exact UI
 |219,_=>exact UH
 |220,_=>exact UG
 |221,_=>exact UF
 |222,_=>exact UE
 |223,_=>exact UD
 |224,_=>exact UC
 |225,_=>exact UB
 |226,_=>exact UA
 |227,_=>exact Uz
 |228,_=>exact Uy
 |229,_=>exact Ux
 |230,_=>exact Uw
 |231,_=>exact Uv
 |232,_=>exact Uu
 |233,_=>exact Ut
 |234,_=>exact Us
 |235,_=>exact Ur
 |236,_=>exact Uq
 |237,_=>exact Up
 |238,_=>exact Uo
 |239,_=>exact Un
 |240,_=>exact Um
 |241,_=>exact Ul
 |242,_=>exact Uk
 |243,_=>exact Uj
 |244,_=>exact Ui
 |245,_=>exact Uh
 |246,_=>exact Ug
 |247,_=>exact Uf
 |248,_=>exact Ue
 |249,_=>exact Ud
 |250,_=>exact Uc
 |251,_=>exact Ub
 |252,_=>exact Ua
 |253,_=>exact T'
 |254,_=>exact T9
 |255,_=>exact T8
 |256,_=>exact T7
 |257,_=>exact T6
 |258,_=>exact T5
 |259,_=>exact T4
 |260,_=>exact T3
 |261,_=>exact T2
 |262,_=>exact T1
 |263,_=>exact T0
 |264,_=>exact TZ
 |265,_=>exact TY
 |266,_=>exact TX
 |267,_=>exact TW
 |268,_=>exact TV
 |269,_=>exact TU
 |270,_=>exact TT
 |271,_=>exact TS
 |272,_=>exact TR
 |273,_=>exact TQ
 |274,_=>exact TP
 |275,_=>exact TN
 |276,_=>exact TM
 |277,_=>exact TL
 |278,_=>exact TK
 |279,_=>exact TJ
 |280,_=>exact TH
 |281,_=>exact TG
 |282,_=>exact TF
 |283,_=>exact TE
 |284,_=>exact TD
 |285,_=>exact TC
 |286,_=>exact TB
 |287,_=>exact TA
 |288,_=>exact Tz
 |289,_=>exact Ty
 |290,_=>exact Tx
 |291,_=>exact Tw
 |292,_=>exact Tv
 |293,_=>exact Tu
 |294,_=>exact Tt
 |295,_=>exact Ts
 |296,_=>exact Tr
 |297,_=>exact Tq
 |298,_=>exact Tp
 |299,_=>exact To
 |300,_=>exact Tm
 |301,_=>exact Tl
 |302,_=>exact Tk
 |303,_=>exact Tj
 |304,_=>exact Ti
 |305,_=>exact Th
 |q+306,h=>omega
theorem JD{l:List Nat}(h:l∈g6)(p:EN l)(i:Nat)(c:i<6656):w9 [iQ i,gN i] (l.map Int.ofNat) 0<281474976645120:=by
 obtain⟨j,a⟩:=yO h;have b:=(zE.1 a).1;rw[Es]at b;refine FD (Tg (j/4) (by omega)) (l:=l) ?_ p i c;refine zG (i:=j%4) ?_;unfold an;rw[List.getElem?_take_of_lt (by omega),xR,show 4*(j/4)+j%4=j by omega];exact a
theorem Er:∀l∈g6,EN l:=by
 have h:(g6.all λl=>l.all (λn=>Nat.blt n 256)&&Nat.ble (fh l).length 50)=true:=by decide +kernel
 intro l b;have:=yA.1 h l b;rw[zJ,yA]at this;exact⟨λn a=>by have:=this.1 n a;simpa using this,by have:=this.2;simpa using this⟩
end
section
open Go
def ow(sd:List Nat):Prop:=∃i,i<6656/\sd=[iQ i,gN i]
theorem ow.s{sd:List Nat}(h:ow sd):fX sd:=by
 obtain⟨i,_,rfl⟩:=h;refine⟨by simp,λd a=>?_⟩;simp only[zU,yF,xE]at a;rcases a with rfl|rfl
 .unfold iQ;omega
 .unfold gN;omega
theorem QG{sd:List Nat}(h:ow sd){l:List Nat}(a:l∈g6):xh sd (l.map Int.ofNat):=by
 obtain⟨i,b,rfl⟩:=h;exact JD a (Er l a) i b
theorem YN{k f n g:Nat}(h:f<=g/\g<f+n):(k,g)∈Qp k f n:=xM.2 ⟨g-f,xT.2 (by omega),by rw[show f+(g-f)=g by omega]⟩
theorem aW6{u k f i:Nat}{l:List (Nat×Nat)}(h:(k,f)∈l)(a:i<8):[u,k,f,i]∈A0 u l:=List.mem_flatMap.2 ⟨(k,f),h,xM.2 ⟨i,xT.2 a,rfl⟩⟩
def fZ(k f:Nat):Prop:=(k=0/\1<=f/\f<=5)\/(k=1/\2<=f/\f<=8)\/(k=2/\2<=f/\f<=9)
theorem fZ.mem{k f:Nat}(h:fZ k f):(k,f)∈Eo:=by
 unfold Eo;rcases h with⟨rfl,h⟩|⟨rfl,h⟩|⟨rfl,h⟩
 .exact xK _ (xK _ (YN (by omega)))
 .exact xK _ (yW _ (YN (by omega)))
 .exact yW _ (YN (by omega))
variable {sd:List Nat} (h:ow sd)
include h
theorem BS{k f i:Nat}(b:fZ k f)(a:i<8):xh sd [4,(k:Int),(f:Int),(i:Int)]:=
 QG h (l:=[4,k,f,i]) (by unfold g6;simp only[zO];exact .inl (.inl (.inl (.inl (.inl (aW6 b.mem a))))))
theorem BR{k f i:Nat}(b:fZ k f)(a:i<8):xh sd [6,(k:Int),(f:Int),(i:Int)]:=
 QG h (l:=[6,k,f,i]) (by unfold g6;simp only[zO];exact .inl (.inl (.inl (.inl (.inr (aW6 b.mem a))))))
theorem Hn{k f i:Nat}(b:fZ k f)(a:i<8):xh sd [3,(k:Int),(f:Int),(i:Int)]:=
 QG h (l:=[3,k,f,i]) (by unfold g6;simp only[zO];exact .inl (.inl (.inl (.inr (aW6 b.mem a)))))
theorem Hj{k f i:Nat}(a:fZ k f)(c:k<=1)(b:i<8):xh sd [7,(k:Int),(f:Int),(i:Int)]:=
 QG h (l:=[7,k,f,i]) (by
  unfold g6;simp only[zO];refine .inl (.inl (.inr (aW6 (zO.2 ?_) b)));rcases a with⟨rfl,a⟩|⟨rfl,a⟩|⟨rfl,a⟩
  .exact .inl (YN (by omega))
  .exact .inr (YN (by omega))
  .omega)
theorem Hm{k f a n:Nat}(c:(k=1/\f=1)\/(k=2/\1<=f/\f<=4))(b:(a,n)∈dI):xh sd [2,(k:Int),(f:Int),0,(a:Int),(n:Int)]:=
 QG h (l:=[2,k,f,0,a,n]) (by
  unfold g6;simp only[zO];refine .inl (.inr (List.mem_flatMap.2 ⟨(k,f),?_,xM.2 ⟨(a,n),b,rfl⟩⟩));have:(k=1/\f=1)\/(k=2/\f=1)\/(k=2/\f=2)\/(k=2/\f=3)\/(k=2/\f=4):=by omega
  rcases this with⟨rfl,rfl⟩|⟨rfl,rfl⟩|⟨rfl,rfl⟩|⟨rfl,rfl⟩|⟨rfl,rfl⟩<;>simp)
theorem Hl{k f j a n:Nat}(c:k=1\/k=2)(e:f=2\/f=3)(d:j<8)(b:(a,n)∈dI):xh sd [8,(k:Int),(f:Int),(j:Int),(a:Int),(n:Int)]:=
 QG h (l:=[8,k,f,j,a,n]) (by
  unfold g6;simp only[zO];refine .inr (List.mem_flatMap.2 ⟨(k,f),?_,List.mem_flatMap.2 ⟨j,xT.2 d,xM.2 ⟨(a,n),b,rfl⟩⟩⟩);rcases c with rfl|rfl<;>rcases e with rfl|rfl<;>simp)
end
end Go.Proofs.YtilnpcolgcmofaaGreatDoor
