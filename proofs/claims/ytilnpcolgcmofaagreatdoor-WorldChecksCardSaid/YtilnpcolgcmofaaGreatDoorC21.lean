/- A part of the proof. -/
import Derived.Test.YtilnpcolgcmofaaGreatDoorC20
set_option maxRecDepth 100000
set_option maxHeartbeats 20000000
set_option linter.all false
namespace Go.Proofs.YtilnpcolgcmofaaGreatDoor
open Tryz
section
open Go
def CE.gives{P:Program}{g:FuncId}{args b:List D}{e:D}{σ τ:ae}{K:D->ae->Prop}(v:fF σ args τ b)(h:APure P g b e)(k:W (K e τ)):CE P g args σ K:=
 ⟨σ,[],λa f=>a=e/\f=τ,by simp,⟨h.ent,λw X vs s l=>by
  obtain⟨j,m⟩:=v.run w X vs l s;exact(h.run w (ay τ X) _ m j.gok).mono λe n⟨u,d,c,i⟩=>⟨u,_,_,d,⟨rfl,rfl⟩,c,j.ex i,(kE i).wider v.sub⟩⟩,
  λa f⟨d,c⟩=>by subst d c;exact⟨_,by simp,k.h⟩⟩
def fj(x:ak)(lead:List Bool):Nat->Int
 |0=>1
 |i+1=>match x.kz[i]? with
  |some k=>if lead.getD i false=true/\fj x lead i<=131072 then fj x lead i*(k.hi-k.lo+1)else fj x lead i
  |none=>fj x lead i
def Ry(x:ak):Prop:=∀k∈x.kz,0<=k.lo/\k.lo<=k.hi/\k.hi<=65536
def q8{x:ak}(h:Ry x)(lead:List Bool):∀i,1<=fj x lead i/\fj x lead i<=8590065664
 |0=>by simp[fj]
 |i+1=>by
  have a:=q8 h lead i;rw[fj];split
  .rename_i k e;have b:=h k (zG e);split
   .rename_i f;have j:1<=k.hi-k.lo+1:=by omega
    have g:k.hi-k.lo+1<=65537:=by omega
    exact⟨by have:=Int.mul_le_mul a.1 j (by decide) (by omega);omega,Int.mul_le_mul (c:=131072) (d:=65537) f.2 g (by omega) (by decide)⟩
   .exact a
  .exact a
def qG(x:ak)(hx:Ry x)(hl:x.kz.length<=100)(lead:List Bool)(j:lead.length=x.kz.length):APure prog 143 [aw x,.sl 1 (lead.map λb=>[bD b])] (bD (decide (fj x lead x.kz.length<=131072))):=by
 refine ap func143 ntmps143 λt=>?_
 repeat refine au ?_
 refine aO mixed ai (γ:=Nat) (λi=>[(5,iD (fj x lead i)),(6,iD i)]) (λi=>[]) (λi=>i<=x.kz.length) (λi=>x.kz.length-i) 0 (ah av) (Sc.refl _) (zW _) ?_;intro i hi;by_cases hil:i<x.kz.length
 .obtain⟨kd,a⟩:∃k,x.kz[i]?=some k:=⟨_,zD hil⟩
  have o:x.kz[((i:Nat):Int).toNat]?=some kd:=a;have q:=hx kd (zG a);obtain⟨l,e⟩:∃y,lead[i]?=some y:=⟨_,zD (by omega)⟩
  have r:lead[((i:Nat):Int).toNat]?=some l:=e;have s:=q8 hx lead i;have g:=q8 hx lead (i+1);have f:fj x lead (i+1)=if l=true/\fj x lead i<=131072 then fj x lead i*(kd.hi-kd.lo+1)else fj x lead i:=by
   rw[fj,a,List.getD_eq_getElem?_getD,e];rfl
  cases l with
  |false=>
   rw[if_neg (λh=>by cases h.1)]at f
   repeat refine au ?_
   exact⟨i+1,(ah av),Sc.refl _,by omega,by omega⟩
  |true=>
   by_cases hc:fj x lead i<=131072
   .rw[if_pos ⟨rfl,hc⟩]at f;rw[f]at g;exact hZ
   .rw[if_neg (λh=>hc h.2)]at f;exact hZ
 .obtain rfl:i=x.kz.length:=by omega
  repeat refine au ?_
  refine Rt.pure (zM bD ?_)
  rfl
structure pO(x:ak):Prop where
 sm:p9 x
 ks:Ry x
 lm:LmS (fp x) x.kz.length
def Il{A B:Prop}(k:B)(h:ar B->A:=by intro q7;(first|refine bc ?_|refine aE ?_|(refine' aj ?hc ?_;(case hc=>first|exact HL|exact HN|exact HD|exact HW)));exact q7.1):A:=h ⟨k⟩
def Nh{p:Prop}(h:p:=by
 repeat refine Il ?_
 exact Rt.vs (Vs.tup (.cons (Vs.row (ab.nil 3 1) (bR _)) (.cons (Vs.refl _ _) (.nil _))))):p:=h
def Cy(x:ak)(h:pO x)(C:APure prog 44 [aw x] (.sl 4 []))(want:List Int)(w:cT want)(b:want.length=x.kz.length):∃s e,cT s/\APure prog 96 [aw x,bv want] (.tup [bv s,iD e]):=by
 have q:=h.sm.nk;have HL:=aV3 x h.sm C;have f:lT want=true:=by
  unfold lT;rw[yA];intro c hc;have:=w.v c hc;simp;omega
 have HN:=aD1 want (by omega);rw[f]at HN;have HD:=w8 (fp x) x.kz.length (by omega) h.lm;have j:=aF9 x.kz.length (fp x).reverse;generalize ft x.kz.length (fp x).reverse=a at *;have HW:=qG x h.ks (by omega) a j;rw[show((x.kz.length:Nat):Int)=((want.map λn=>[iD n]).length:Int) by rw[zL,b]]at HD;by_cases hp:fj x a x.kz.length<=131072
 .rw[yJ hp]at HW;have i:LmS (fp x) want.length:=by rw[b];exact h.lm
  have E:=aQ5 (fp x) a want i w (by omega) (by omega) want.length [] ⟨by simp,by simp⟩ (by simp);have g:=aN4 (ls:=fp x) (lead:=a) (want:=want) (λl hl=>(h.lm.v l hl).2.2) (by omega) want.length [] ⟨by simp,by simp⟩ (by simp);generalize uV (fp x) a want want.length []=o at *;by_cases ho:o.length=0
  .refine⟨[],14,⟨by simp,by simp⟩,?_⟩;refine ap func96 ntmps96 λk=>?_
   repeat refine Il ?_
   refine CE.pk (iK.le (.cons (Le.refl _) (.cons (Le.refl _) (.cons (Le.refl _) (.cons (gC _) .nil)))) E) ?_;exact Nh
  .refine⟨o,0,g.1,?_⟩;refine ap func96 ntmps96 λk=>?_
   repeat refine Il ?_
   refine CE.pk (iK.le (.cons (Le.refl _) (.cons (Le.refl _) (.cons (Le.refl _) (.cons (gC _) .nil)))) E) ?_
   repeat refine Il ?_
   exact Rt.pure rfl
 .rw[yE hp]at HW;refine⟨[],4,⟨by simp,by simp⟩,?_⟩;refine ap func96 ntmps96 λk=>?_;exact Nh
def Bj{A B:Prop}(k:B)(h:ar B->A:=by intro q7;(first|refine bc ?_|refine aE ?_|(refine' aj ?hc ?_;(case hc=>exact HA)));exact q7.1):A:=h ⟨k⟩
def qH(x:ak)(h:pO x)(C:APure prog 44 [aw x] (.sl 4 []))(l:List Int)(hl:eH l):∃b is,cT b/\APure prog 58 [aw x,bv l] (.tup [bv b,bD is]):=by
 have u:=h.sm.nk;have t:=λi=>ek l i 9;have a:((List.range x.kz.length).map λi=>aB l (i:Nat) 9).length=x.kz.length:=by simp
 obtain⟨b,e,k,P⟩:=Cy x h C ((List.range x.kz.length).map λi=>aB l (i:Nat) 9) ⟨by rw[a];omega,λc hc=>by
  obtain⟨i,_,rfl⟩:=xM.1 hc;have:=t i;omega⟩ a
 refine⟨b,decide (e=0),k,?_⟩;refine ap func58 ntmps58 λz=>?_
 repeat refine Bj ?_
 refine aO mixed ai (γ:=Nat×Value×ae) (λg=>[(7,iD g.1),(6,.v g.2.1)]) (λg=>g.2.2) (λg=>g.1<=x.kz.length/\N' ((List.range g.1).map λi=>aB l (i:Nat) 9) g.2.1 g.2.2) (λg=>x.kz.length-g.1) (0,.slice none 0 0,[]) (ah av) (Sc.refl _) ⟨zW _,ab.nil _ _⟩ ?_;rintro⟨i,v,s⟩ ⟨hi,r⟩;simp only at hi r⊢;by_cases hil:i<x.kz.length
 .have HA:=R8 l hl (i:Nat) 9;have j:ab 3 1 (((List.range i).map λi=>aB l (i:Nat) 9).map λn=>[iD n]) v s:=r
  repeat refine Bj ?_
  refine Ap.go rfl rfl rfl rfl j (bR _) rfl (zs:=((List.range (i+1)).map λi=>aB l (i:Nat) 9).map λn=>[iD n]) (by rw[List.range_succ,yB,yB];rfl) (by simp;omega) (by simp;omega) (λq=>q) dF (λy w o f=>?_)
  repeat refine Bj ?_
  exact⟨(i+1,_,o),(ah av),Sc.refl _,⟨by simp only;omega,f⟩,by simp only;omega⟩
 .obtain rfl:i=x.kz.length:=by omega
  repeat refine Bj ?_
  refine CE.gives (.cons (Vs.refl _ _) (.cons (Vs.row r (bR _)) (.nil _))) P ?_
  repeat refine Bj ?_
  exact Rt.pure rfl
end
section
open Go
inductive GF(x:ak)(i:Nat)(k:aq)(j:Nat)(f:an):Prop
 |key (h:f.kind=0) (hb:-3<=f.lo/\f.lo<=100/\f.hi=0)
 |ref (h:f.kind=1) (t:Nat) (ht:t<i) (hu:aG x i j=t) (b:0<=f.lo/\f.lo<=f.hi/\f.hi<=8)
 |num (h:f.kind=2) (hb:-300<=f.lo/\f.lo<=300 /\ -300<=f.hi/\f.hi<=300)
 |day (h:f.kind=4) (hb:-300<=f.lo/\f.lo<=300 /\ -300<=f.hi/\f.hi<=300) (ho:f.of=nE\/∃(n:Nat)(g:an),n<j/\bb k f.of=n/\k.fields[n]?=some g/\g.kind=4/\g.of=nE)
 |pick (h:f.kind=3) (hb:f.lo=0/\f.hi=0) (hw:F8 f.wz) (hs:f.wz.sum<=12)
 |step (h:f.kind=5) (hb:0<=f.lo/\f.lo<=f.hi/\f.hi<=6) (ho:f.of=bz)
 |sum (h:f.kind=6) (hb:f.lo=0/\f.hi=0) (jj n:Nat) (kj:aq) (s r:an) (hjj:x.kz[jj]?=some kj) (hs:kj.fields[n]?=some s) (hsh:j8 x i j=((jj:Int),(n:Int))) (hsb:0<=s.lo/\s.lo<=s.hi/\s.hi<=100) (hup:bb kj s.up=1) (hr:kj.fields[1]?=some r) (hr1:r.kind=1) (hu:aG x jj 1=i) (rb:0<=r.lo/\r.lo<=r.hi/\r.hi<=8)
 |above (h:f.kind=7\/f.kind=8) (t n:Nat) (y:aq) (g r:an) (ht:t<i) (hy:x.kz[t]?=some y) (hg:y.fields[n]?=some g) (hof:bb y f.of=n) (hup:bb k f.up=1) (hr:k.fields[1]?=some r) (hr1:r.kind=1) (hu:aG x i 1=t) (rb:0<=r.lo/\r.lo<=r.hi/\r.hi<=8) (sh:f.kind=7->g.kind=6) (fb:0<=f.lo/\f.lo<=f.hi/\f.hi<=100)
variable{l:List Int}
def sW(h:∀w∈l,0<=w/\w<=4):0<=l.sum/\l.sum<=4*(l.length:Int):=Qh
def A5(h:∀w∈l,0<=w/\w<=4)(d:∃w∈l,1<=w):0<l.sum:=by
 induction l with
 |nil=>obtain⟨w,b,_⟩:=d;cases b
 |cons a l i=>
  have e:=h a yN;have f:=sW λw b=>h w (yQ a b);rw[List.sum_cons];obtain⟨w,b,c⟩:=d;rcases zU.1 b with rfl|b
  .omega
  .have:=i (λw b=>h w (yQ _ b)) ⟨w,b,c⟩;omega
variable {x:ak} (H:HX x)
include H
variable{i j:Nat}{k:aq}{f:an}
def HX.gplain{A p B:List an}(q:x.kz[i]?=some k)(o:aM p)(F:k.fields=A++(p++B))(r:k.fields[j]?=some f)(h:f∈p):GF x i k j f:=by
 have N:=(H.form i k q).nodup
 cases o with
 |none=>cases h
 |size a b g e=>rw[zN]at h;subst h;exact .num rfl ⟨by simp only;omega,by simp only;omega,by simp only;omega,by simp only;omega⟩
 |tag n ws y m l u=>
  rw[zN]at h;subst h;have:=sW l;exact .pick rfl ⟨rfl,rfl⟩ ⟨by simp only;omega,λw m=>by have:=l w m;omega,A5 l u⟩ (by simp only;omega)
 |low a b c d g e t s=>
  simp only[zU,yF,xE]at h;rcases h with rfl|rfl<;>exact .num rfl ⟨by simp only;omega,by simp only;omega,by simp only;omega,by simp only;omega⟩
 |state a b g e=>
  rw[zN]at h;subst h;exact .step rfl ⟨by simp only;omega,by simp only;omega,by simp only;omega⟩ rfl
 |born a b c d g e t s=>
  simp only[zU,yF,xE]at h;have e:k.fields[A.length]?=some ⟨pY,nE,nE,4,a,a+b,[],[]⟩:=by rw[F,yK (zT _),wH];rfl
  have v:bb k pY=A.length:=z7 N e;rcases h with rfl|rfl
  .exact .day rfl ⟨by simp only;omega,by simp only;omega,by simp only;omega,by simp only;omega⟩ (.inl rfl)
  .obtain⟨rfl,_⟩:=mD N (A:=A++[⟨pY,nE,nE,4,a,a+b,[],[]⟩]) (B:=B) (c:=⟨tT,pY,nE,4,c,3+d,[],[]⟩) (by rw[F];simp) r rfl;exact .day rfl ⟨by simp only;omega,by simp only;omega,by simp only;omega,by simp only;omega⟩ (.inr ⟨A.length,_,by simp,v,e,rfl,rfl⟩)
def HX.ofs{t:Nat}(h:t<i){lo d:Int}(a:x.kz[i]?=some k)(b:k.fields[1]?=some (it t lo d)):aG x i 1=t/\bb k zz=1:=by
 obtain⟨y,c⟩:=HX.below a h;exact⟨H.up1 a b c h rfl rfl,z7 (H.form i k a).nodup b⟩
def HX.gf0(u:x.kz[i]?=some k)(E:k.fields[j]?=some f)(L:f.kind≠6):GF x i k j f:=by
 have X:=(H.form i k u).nodup;have Y:=H.form i k u;have I:=zG E;obtain⟨lo,r,d,f1,f2,O,N,F,h1,h2,P,h4,h5,L,h7,Z,h9,M⟩:=Y;have K:k.fields=dm d::(f1++(f2++(O++(N++F)))):=by rw[h4]
 have s:=I;rw[K]at s;rcases zU.1 s with rfl|h
 .refine .key rfl ⟨?_,?_,rfl⟩
  .show -3<=d;simp at P;omega
  .show d<=100;simp at P;omega
 rcases zO.1 h with h|h
 .rcases h5 with rfl|⟨t,l,m,sm,pt,p,U,J,R,T,rfl⟩
  .cases h
  obtain⟨y,q⟩:=HX.below u p;have w:k.fields[1]?=some (it t l m):=by rw[K];rfl
  obtain⟨v,C⟩:=H.ofs p u w;have G:0<=(it t l m).lo/\(it t l m).lo<=(it t l m).hi/\(it t l m).hi<=8:=by
   simp only[it];simp at J;omega
  rcases zU.1 h with rfl|h
  .obtain⟨rfl,_⟩:=mD X (A:=[dm d]) (c:=it t l m) K E rfl;exact .ref rfl t p v G
  rcases zO.1 h with h|h
  .rcases R with rfl|⟨Q,n,g,o,D,S,rfl⟩
   .cases h
   rw[q]at o;cases o
   rw[zN]at h;subst h;have hx:bb y g.name=n:=z7 (H.form t y q).nodup D;exact .above (.inr rfl) t n y g _ p q D hx C w rfl v G (λe=>by cases e) ⟨by simp[iP],by simp[iP],by simp[iP]⟩
  .rcases T with rfl|⟨a,b,Q,n,ha,hb,o,D,rfl⟩
   .cases h
   rw[q]at o;cases o
   rw[zN]at h;subst h;have hx:bb y pX=n:=z7 (f:=br (bA i)) (H.form t y q).nodup D;exact .above (.inl rfl) t n y _ _ p q D hx C w rfl v G (λ_=>rfl) ⟨by simp only[fY];omega,by simp only[fY];omega,by simp only[fY];omega⟩
 rcases zO.1 h with h|h
 .rcases L with rfl|⟨z,rfl⟩
  .cases h
  rw[zN]at h;subst h;obtain⟨y,q⟩:=HX.below u z;exact .ref rfl 0 z (H.up1 u E q z rfl rfl) ⟨by simp[yi],by simp[yi],by simp[yi]⟩
 rcases zO.1 h with h|h
 .exact H.gplain u h7 (A:=dm d::(f1++f2)) (B:=N++F) (by rw[K];simp) E h
 rcases zO.1 h with h|h
 .exact H.gplain u Z (A:=dm d::(f1++(f2++O))) (B:=F) (by rw[K];simp) E h
 .rcases M with rfl|⟨j',kj,W,V,hP,rfl⟩
  .cases h
  rw[zN]at h;subst h;exact absurd rfl L
def HX.gf(hk:x.kz[i]?=some k)(D:k.fields[j]?=some f):GF x i k j f:=by
 by_cases h6:f.kind=6
 case neg=>exact H.gf0 hk D h6
 have Z:=H.form i k hk;have o:=zG D;obtain⟨lo,r,u,f1,f2,L,K,J,h1,h2,h3,h4,h5,G,h7,h8,h9,I⟩:=Z;have Y:k.fields=dm u::(f1++(f2++(L++(K++J)))):=by rw[h4]
 rw[Y]at o;rcases zU.1 o with rfl|m
 .exact absurd h6 (by simp[dm])
 rcases zO.1 m with m|m
 .exfalso;rcases h5 with rfl|⟨t,s,C,sm,pt,Q,W,X,S,U,rfl⟩
  .cases m
  rcases zU.1 m with rfl|m
  .cases h6
  rcases zO.1 m with m|m
  .rcases S with rfl|⟨_,_,_,_,_,_,rfl⟩
   .cases m
   .rw[zN]at m;subst m;cases h6
  .rcases U with rfl|⟨_,_,_,_,_,_,_,_,rfl⟩
   .cases m
   .rw[zN]at m;subst m;cases h6
 rcases zO.1 m with m|m
 .exfalso;rcases G with rfl|⟨_,rfl⟩
  .cases m
  .rw[zN]at m;subst m;cases h6
 rcases zO.1 m with m|m
 .have:=h7.kd f m;omega
 rcases zO.1 m with m|m
 .have:=h8.kd f m;omega
 rcases I with rfl|⟨c,M,hij,hkj,P,rfl⟩
 .cases m
 rw[zN]at m;subst m;have q:=H.shares hk hij hkj P;obtain⟨n,s,C,a,b,g1,g2,g3,g4⟩:=P;have e:bi x (br (bA c)).of=c:=H.kix hkj;have d:(n:Int)∈Ai x i (br (bA c)):=by
  rw[Ai,e,xv hkj];refine xM.2 ⟨n,vP.2 ⟨xT.2 (zE.1 g3).1,?_⟩,rfl⟩;rw[g3];exact Ni
 have A:Ai x i (br (bA c))=[(n:Int)]:=by
  match hl:Ai x i (br (bA c)),q with
  |[z],_=>rw[hl,zN]at d;rw[d]
 have B:KM x i (br (bA c))=false:=by
  rw[KM,e];simp[br];omega
 have l:j8 x i j=((c:Int),(n:Int)):=by
  rw[j8,MQ hk,D];simp only[gJ,B,wG,uC,A,e,ou]
 have F:=H.gf0 hkj g1 (by simp[it]);have E:=H.gf0 hkj g3 (by simp[fY]);obtain⟨w,v⟩:=H.ofs hij hkj g1;refine .sum rfl ⟨rfl,rfl⟩ c n M _ _ hkj g3 l ?_ v g1 rfl w ?_
 .cases E with
  |above h t n' y g r R hy hg V N hr T O rb sh fb=>exact fb
  |_ h=>simp[fY]at h
 .cases F with
  |ref h t R O b=>exact b
  |above h=>simp[it]at h
  |_ h=>simp[it]at h
end
section
open Go
def sE(i:Nat)(k:aq):Prop:=∃(l:Int)(f1 f2 p t:List an),k.fields=dm l::(f1++(f2++(p++t)))/\(i=0->f1=[])/\(0<i->∃o s,f1=o::s/\o.kind=1/\s.length<=2/\∀g∈s,g.kind=7\/g.kind=8) /\
 (f2=[]\/(1<i/\∃g,f2=[g]/\g.kind=1))/\p.length<=4/\(∀g∈p,2<=g.kind/\g.kind<=5)/\(t=[]\/∃nm,t=[br nm])
def aM.len{p:List an}(h:aM p):p.length<=2:=by cases h<;>simp
def MZ{p:Prop}(h:p:=by
 rcases hs with rfl|⟨g',_,_,rfl⟩
 .cases hg
 .rw[zN]at hg;subst hg;exact .inr rfl):p:=h
variable{k:aq}
def jG.pos{q f:List aq}(m:jG q k f):sE q.length k:=by
 obtain⟨l,r,i,f1,f2,v,u,_,_,_,rfl,R,n,e,d,_⟩:=m.ex;refine⟨i,f1,f2,v++u,[],by simp,?_,?_,?_,by rw[zI];have:=e.len;have:=d.len;omega,λg hg=>?_,.inl rfl⟩
 .intro o;have s:=wX.1 o;subst s
  cases R with
  |none h=>rfl
  |of t y l j sm c=>simp at c
  |part t y l j a b sm c=>simp at c
 .intro o
  cases R with
  |none h=>subst h;simp at o
  |of t y l j sm c w x hs=>
   refine⟨_,_,rfl,rfl,?_,λg hg=>?_⟩
   .rcases hs with rfl|⟨g,_,_,rfl⟩<;>simp
   .exact MZ
  |part t y l j a b sm c w x hs=>
   refine⟨_,_,rfl,rfl,?_,λg hg=>?_⟩
   .rcases hs with rfl|⟨g,_,_,rfl⟩<;>simp
   .rcases zO.1 hg with hg|hg
    .exact MZ
    .rw[zN]at hg;subst hg;exact .inl rfl
 .rcases n with rfl|⟨y,_,z,rfl⟩
  .exact .inl rfl
  .exact .inr ⟨z,_,rfl,rfl⟩
 .rcases zO.1 hg with hg|hg
  .have:=e.kd g hg;omega
  .have:=d.kd g hg;omega
def di.pos{s:List aq}(h:di s):∀(i:Nat)k,s[i]?=some k->sE i k:=by
 induction h with
 |nil=>intro i k h;simp at h
 | @step s d k h m l g=>
  have x:∀(i:Nat)z,d[i]?=some z->sE i z:=by
   obtain⟨o,r,f,f1,f2,H,G,_,_,_,_,R,_⟩:=m.ex
   cases R with
   |none h=>exact g
   |of t y o w sm j=>exact g
   |part t y o w a b sm j J K I v=>
    intro i z c;by_cases e:i=t
    .subst e;rw[xI (zE.1 j).1]at c
     cases c
     obtain⟨f,f1,f2,p,u,q,F,E,D,C,B,A⟩:=g i y j;have n:u=[]:=by
      rcases A with rfl|⟨nm,rfl⟩
      .rfl
      .exact absurd rfl (l5 v (br nm) (by rw[q];simp))
     subst n;exact⟨f,f1,f2,p,[br (bA s.length)],by simp[q],F,E,D,C,B,.inr ⟨_,rfl⟩⟩
    .rw[wN (Ne.symm e)]at c;exact g i z c
  intro i z c;by_cases e:i<d.length
  .rw[yP e]at c;exact x i z c
  .rw[yK (by omega)]at c;obtain rfl:i=d.length:=by
    have:=(zE.1 c).1;simp only[List.length_singleton]at this;omega
   simp at c;subst c;rw[l];exact m.pos
def sE.at{i j:Nat}{f:an}(h:sE i k)(K:i<=2)(c:k.fields[j]?=some f) :
  (f.kind=1->(i=1/\j=1)\/(i=2/\1<=j/\j<=4))/\(f.kind=7->(i=1\/i=2)/\(j=2\/j=3)) /\
  (2<=f.kind/\f.kind<=6->(i=0/\1<=j/\j<=5)\/(i=1/\2<=j/\j<=8)\/(i=2/\2<=j/\j<=9)):=by
 obtain⟨y,f1,f2,p,v,H,G,x,F,L,E,D⟩:=h;rw[H]at c;have t:v.length<=1/\∀g∈v,g.kind=6:=by
  rcases D with rfl|⟨nm,rfl⟩
  .simp
  .exact⟨by simp,λg d=>by rw[zN]at d;subst d;rfl⟩
 have n:f2.length<=1/\(∀g∈f2,g.kind=1)/\(f2≠[]->i=2):=by
  rcases F with rfl|⟨C,g,rfl,d⟩
  .simp
  .exact⟨by simp,λz w=>by rw[zN]at w;subst w;exact d,λ_=>by omega⟩
 have l:f1.length<=3/\(0<i->1<=f1.length)/\(i=0->f1.length=0):=by
  by_cases e:i=0
  .have:=G e;subst this;simp;omega
  .obtain⟨o,s,rfl,_,A,_⟩:=x (by omega);simp only[List.length_cons];omega
 have r:=(zE.1 c).1;simp only[List.length_cons,zI]at r
 cases j with
 |zero=>simp only[List.getElem?_cons_zero,xB]at c;subst c;simp[dm]
 |succ j=>
  rw[List.getElem?_cons_succ]at c;by_cases c1:j<f1.length
  .rw[yP c1]at c;have u:0<i:=by
    by_cases e:i=0
    .have:=l.2.2 e;omega
    .omega
   obtain⟨o,s,rfl,I,A,q⟩:=x u
   cases j with
   |zero=>simp only[List.getElem?_cons_zero,xB]at c;subst c;omega
   |succ j=>
    rw[List.getElem?_cons_succ]at c;have:=q f (zG c);have:=(zE.1 c).1;omega
  .rw[yK (by omega)]at c;by_cases c2:j-f1.length<f2.length
   .rw[yP c2]at c;have d:=n.2.1 f (zG c);have B:=n.2.2 (λe=>by subst e;simp at c2);omega
   .rw[yK (by omega)]at c;have J:2<=f.kind/\f.kind<=6:=by
     rcases zO.1 (zG c)with d|d
     .have:=E f d;omega
     .have:=t.2 f d;omega
    have m:i≠2->f2.length=0:=λe=>by
     cases f2 with
     |nil=>rfl
     |cons a b=>exact absurd (n.2.2 (by simp)) e
    refine⟨λe=>by omega,λe=>by omega,λ_=>?_⟩;by_cases e0:i=0
    .have:=l.2.2 e0;have:=m (by omega);omega
    .by_cases e1:i=1
     .have:=m (by omega);have:=l.2.1 (by omega);omega
     .have:=l.2.1 (by omega);omega
end
section
open Go
variable{i:Nat}{k:aq}
def sE.len(h:sE i k):k.fields.length<=10:=by
 obtain⟨l,f1,f2,p,t,n,m,j,f,u,r,d⟩:=h;have a:t.length<=1:=by rcases d with rfl|⟨nm,rfl⟩<;>simp
 have b:f2.length<=1:=by rcases f with rfl|⟨_,g,rfl,_⟩<;>simp
 have c:f1.length<=3:=by
  by_cases e:i=0
  .rw[m e];simp
  .obtain⟨o,s,rfl,_,q,_⟩:=j (by omega);simp only[List.length_cons];omega
 rw[n];simp only[List.length_cons,zI];omega
def cg.sm{x:ak}(h:cg x):p9 x where
 nk:=h.nk
 nf:=λk b=>by
  obtain⟨i,a⟩:=yO b;exact(h.ks.pos i k a).len
 nm:=λk b=>by
  obtain⟨i,a⟩:=yO b;have l:=(zE.1 a).1;have d:=h.hx.form i k a;refine⟨by rw[d.name];exact xH (GC (R4 (t:=i) (by have:=h.nk;omega))) (by decide),λf c=>xH (GC (d.nms f c)) (by decide)⟩
 nr:=by have:=h.nr;omega
def dG.lohi{s:List aq}(h:dG s i k):0<=k.lo/\k.lo<=k.hi/\k.hi<=8:=by
 obtain⟨o,r,l,f1,f2,c,p,t,b,e,d,a,_⟩:=h;rw[a];simp at b;simp only;omega
variable{f:an}
def cg.gf{x:ak}(h:cg x){j:Nat}(a:x.kz[i]?=some k)(b:k.fields[j]?=some f):GF x i k j f:=h.hx.gf a b
def cg.fb{x:ak}(h:cg x){j:Nat}(m:x.kz[i]?=some k)(o:k.fields[j]?=some f):(-300<=f.lo/\f.lo<=300)/\(-300<=f.hi/\f.hi<=300)/\(f.kind=1->0<=f.lo/\f.lo<=f.hi/\f.hi<=8):=by
 cases h.gf m o with
 |key e a=>omega
 |ref e t c u b=>omega
 |num e a=>omega
 |day e a=>omega
 |pick e a=>omega
 |step e a=>omega
 |sum e a=>omega
 |above e t n y g r c v z l p w d u q s fb=>omega
def JJ{x:ak}{l:ij}(h:l∈fp x):∃(i:Nat)(k:aq),x.kz[i]?=some k/\(l∈PJ i k\/∃f∈k.fields,l∈fq x i f):=by
 unfold fp at h;obtain⟨i,_,a⟩:=List.mem_flatMap.1 h
 cases b:x.kz[i]? with
 |none=>rw[b]at a;cases a
 |some k=>
  rw[b]at a;rcases zO.1 a with a|a
  .exact⟨i,k,b,.inl a⟩
  .obtain⟨f,c,a⟩:=List.mem_flatMap.1 a;exact⟨i,k,b,.inr ⟨f,c,a⟩⟩
def Y9{p:Prop}(h:p:=by
 simp only[zU,yF,xE]at hl;rcases hl with rfl|rfl<;>exact⟨⟨by simp only;omega,by simp only;omega⟩,⟨by simp only;omega,by simp only;omega⟩,by simp only;omega,by simp only;omega⟩):p:=h
def cg.lim{x:ak}(h:cg x):pO x where
 sm:=h.sm
 ks:=λk b=>by
  obtain⟨i,a⟩:=yO b;have:=(h.hx.form i k a).lohi;omega
 lm:=by
  refine⟨?_,λl hl=>?_⟩
  .have:=aR6 h.sm x.kz.length (zT _);have e:Au x x.kz.length=fp x:=rfl;rw[e]at this;have:=h.nk;omega
  .obtain⟨i,k,a,hl⟩:=JJ hl;have d:=(zE.1 a).1;have r:=(h.hx.form i k a).lohi;rcases hl with hl|⟨f,m,hl⟩
   .exact Y9
   .unfold fq at hl;split at hl
    .rename_i n;obtain⟨j,c⟩:=yO m;have g:=(h.fb a c).2.2 n;have q:=xr x f.of;have o:=az4 x f.of;exact Y9
    .cases hl
def cg.fbs{x:ak}(h:cg x):∀k∈x.kz,∀f∈k.fields,(-2097152<=f.lo/\f.lo<=2097152)/\(-2097152<=f.hi/\f.hi<=2097152):=λk a f d=>by
 obtain⟨i,c⟩:=yO a;obtain⟨j,b⟩:=yO d;have:=h.fb c b;omega
end
section
abbrev cm:=Nat->Nat->Int
def dI:Int:=1099511627776
def mU(j i k:Nat)(c:cm):cm:=λa b=>if a=i/\b=k/\c i j<dI/\c j k<dI then min (c i k) (c i j+c j k)else c a b
def bO(j i:Nat):Nat->cm->cm
 |0,c=>c
 |k+1,c=>mU j i k (bO j i k c)
def gO(m j:Nat):Nat->cm->cm
 |0,c=>c
 |i+1,c=>bO j i m (gO m j i c)
def fx(m:Nat):Nat->cm->cm
 |0,c=>c
 |j+1,c=>gO m j m (fx m j c)
def AN(j i k:Nat)(c:cm)(a b:Nat):mU j i k c a b<=c a b:=by
 unfold mU;split
 .rename_i h;obtain⟨rfl,rfl,_⟩:=h;omega
 .omega
def tw(j i:Nat)(c:cm)(a b:Nat):∀k,bO j i k c a b<=c a b
 |0=>Int.le_refl _
 |k+1=>Int.le_trans (AN j i k _ a b) (tw j i c a b k)
def rh(m j:Nat)(c:cm)(a b:Nat):∀i,gO m j i c a b<=c a b
 |0=>Int.le_refl _
 |i+1=>Int.le_trans (tw j i _ a b m) (rh m j c a b i)
def mG(m:Nat)(c:cm)(a b:Nat):∀{j k:Nat},j<=k->fx m k c a b<=fx m j c a b
 |j,0,h=>by
  obtain rfl:j=0:=by omega
  exact Int.le_refl _
 |j,k+1,h=>by
  by_cases e:j=k+1
  .subst e;exact Int.le_refl _
  .exact Int.le_trans (rh m k _ a b m) (mG m c a b (by omega:j<=k))
def gN(j:Nat)(c:cm):cm:=λa b=>if c a j<dI/\c j b<dI then min (c a b) (c a j+c j b)else c a b
variable{j:Nat}{c:cm}
def nU(h:0<=c j j)(a:Nat):gN j c a j=c a j:=by
 unfold gN;split<;>omega
def nT(h:0<=c j j)(b:Nat):gN j c j b=c j b:=by
 unfold gN;split<;>omega
def n4{m j:Nat}(q:j<m){c d:cm}(h:0<=c j j)(i:Nat)(r:∀a b,b<m->d a b=if a<i then gN j c a b else c a b):∀(k:Nat),k<=m->∀a b,b<m->bO j i k d a b=if a<i\/a=i/\b<k then gN j c a b else c a b
 |0,_,a,b,p=>by
  rw[bO,r a b p];by_cases h1:a<i
  .rw[if_pos h1,if_pos (.inl h1)]
  .rw[if_neg h1,if_neg (by omega)]
 |k+1,s,a,b,p=>by
  have l:=n4 q h i r k (by omega);have o:bO j i k d i j=c i j:=by
   rw[l _ _ q];split
   .exact nU h i
   .rfl
  have n:bO j i k d j k=c j k:=by
   rw[l _ _ (by omega)];split
   .exact nT h k
   .rfl
  have f:bO j i k d i k=c i k:=by rw[l _ _ (by omega),if_neg (by omega)]
  show(if a=i/\b=k/\bO j i k d i j<dI/\bO j i k d j k<dI then min (bO j i k d i k) (bO j i k d i j+bO j i k d j k)else bO j i k d a b)=_;rw[o,n,f];by_cases e:a=i/\b=k
  .obtain⟨rfl,rfl⟩:=e;rw[if_pos (show a<a\/a=a/\b<b+1 from .inr ⟨rfl,by omega⟩)];by_cases g:c a j<dI/\c j b<dI
   .rw[if_pos ⟨rfl,rfl,g⟩];unfold gN;rw[if_pos g]
   .rw[if_neg (λh=>g h.2.2)];unfold gN;rw[if_neg g,f]
  .rw[if_neg (λh=>e ⟨h.1,h.2.1⟩),l _ _ p];by_cases h1:a<i\/a=i/\b<k
   .rw[if_pos h1,if_pos (by omega)]
   .rw[if_neg h1,if_neg (by omega)]
def tI{m j:Nat}(e:j<m){c:cm}(h:0<=c j j):∀(i a b:Nat),b<m->gO m j i c a b=if a<i then gN j c a b else c a b
 |0,a,b,_=>by rw[gO,if_neg (by omega)]
 |i+1,a,b,d=>by
  rw[gO,n4 e h i (λa b d=>tI e h i a b d) m (zT _) a b d];by_cases h1:a<i+1
  .rw[if_pos h1,if_pos (by omega)]
  .rw[if_neg h1,if_neg (by omega)]
structure Oc(m j:Nat)(B:Int)(c:cm):Prop where
 tri:∀a b q,a<m->b<m->q<j->c a q<dI->c q b<dI->c a b<=c a q+c q b
 bd:∀a b,a<m->b<m->c a b<dI -> -B<=c a b/\c a b<=B
 top:∀a b,a<m->b<m->c a b<=dI
def Oc.step{m j:Nat}{B:Int}{c:cm}(i:j<m)(s:0<=c j j)(D:2*B<dI)(t:0<=B)(h:Oc m j B c):Oc m (j+1) (2*B) (gO m j m c):=by
 have e:∀a b,a<m->b<m->gO m j m c a b=gN j c a b:=λa b f d=>by rw[tI i s m a b d,if_pos f]
 have o:∀a,a<m->gO m j m c a j=c a j:=λa f=>by rw[e a j f i,nU s]
 have w:∀b,b<m->gO m j m c j b=c j b:=λb d=>by rw[e j b i d,nT s]
 refine⟨λa b q f d C n p=>?_,λa b f d n=>?_,λa b f d=>?_⟩
 .by_cases r:q=j
  .subst r;rw[o a f]at n⊢;rw[w b d]at p⊢;rw[e a b f d,gN,if_pos ⟨n,p⟩];omega
  .have l:q<j:=by omega
   have k:q<m:=by omega
   rw[e a q f k]at n⊢;rw[e q b k d]at p⊢;rw[e a b f d];unfold gN at *;have t1:=h.tri a b q f d l;have t2:=h.tri j b q i d l;have t3:=h.tri a j q f i l;have t4:=h.tri j j q i i l;have x:=h.bd a q f k;have b2:=h.bd q b k d;have v:=h.bd a j f i;have F:=h.bd j q i k;have E:=h.bd q j k i;have u:=h.bd j b i d;have A:=h.top a b f d;have z:=h.top a j f i;have y:=h.top j b i d;unfold dI at *;split at n<;>split at p<;>(try rw[if_pos (by assumption)])<;>(try rw[if_neg (by assumption)])<;>split<;>omega
 .rw[e a b f d]at n⊢;have x:=h.bd a b f d;have v:=h.bd a j f i;have u:=h.bd j b i d;unfold gN at *;split at n
  .rename_i g;rw[if_pos g];omega
  .rename_i g;rw[if_neg g];omega
 .exact Int.le_trans (rh m j c a b m) (h.top a b f d)
def pC{m:Nat}{B:Int}{c:cm}(h:0<=B)(g:2 ^ m*B<dI)(b:Oc m 0 B c)(d:∀x,x<m->0<=fx m m c x x):∀(j:Nat),j<=m->Oc m j (2 ^ j*B) (fx m j c)
 |0,_=>by rw[Int.pow_zero,Int.one_mul];exact b
 |j+1,f=>by
  have i:=pC h g b d j (by omega);have k:0<=fx m j c j j:=Int.le_trans (d j (by omega)) (mG m c j j (by omega));have p:(0:Int)<=2 ^ j*B:=Int.mul_nonneg (Int.le_of_lt (Int.pow_pos (by decide))) h;have a:(2:Int) ^ (j+1)*B<=2 ^ m*B:=Int.mul_le_mul_of_nonneg_right (by
   have:=Nat.pow_le_pow_right (n:=2) (by decide) f
   exact_mod_cast this) h
  have e:(2:Int) ^ (j+1)*B=2*(2 ^ j*B):=by rw[Int.pow_succ];rw[Int.mul_comm (2 ^ j) 2,Int.mul_assoc]
  rw[e]at a⊢;exact Oc.step (by omega) k (by omega) p i
end
section
def dj(n k j:Nat):Nat:=if j<k then j else n
def gq(v:List Int)(k j:Nat):Int:=if j<k then v.getD j 0 else 0
def et(c:cm)(n k:Nat)(v:List Int):Nat->Int×Bool
 |0=>(-dI,false)
 |j+1=>if c (dj n k j) k<dI then(if(et c n k v j).2=false\/(et c n k v j).1<gq v k j-c (dj n k j) k then gq v k j-c (dj n k j) k else(et c n k v j).1,true)else et c n k v j
def eM(c:cm)(n k:Nat)(v:List Int):Nat->Int×Bool
 |0=>(dI,false)
 |j+1=>if c k (dj n k j)<dI then(if(eM c n k v j).2=false\/gq v k j+c k (dj n k j)<(eM c n k v j).1 then gq v k j+c k (dj n k j)else(eM c n k v j).1,true)else eM c n k v j
variable{p:Prop}
def Y1(h:p:=by
 rw[if_neg hf];refine⟨λj hj hjf=>?_,λh=>?_⟩
 .by_cases e:j=q
  .subst e;exact absurd hjf hf
  .exact h1 j (by omega) hjf
 .obtain⟨j,a,b,d⟩:=h2 h;exact⟨j,by omega,b,d⟩):p:=h
def YZ(h:p:=by
 by_cases e:j=q
 .subst e;simp only;split<;>omega
 .obtain⟨g1,g2⟩:=h1 j (by omega) hjf;simp only;rw[g1];split
  .rename_i h;rcases h with h|h
   .cases h
   .omega
  .exact g2):p:=h
def aZ2(c:cm)(n k:Nat)(v:List Int):∀(q:Nat),(∀j,j<q->c (dj n k j) k<dI->(et c n k v q).2=true/\gq v k j-c (dj n k j) k<=(et c n k v q).1) /\
  ((et c n k v q).2=true->∃j,j<q/\c (dj n k j) k<dI/\(et c n k v q).1=gq v k j-c (dj n k j) k)
 |0=>⟨λj h=>by omega,λh=>by cases h⟩
 |q+1=>by
  obtain⟨h1,h2⟩:=aZ2 c n k v q;rw[et];by_cases hf:c (dj n k q) k<dI
  .rw[if_pos hf];refine⟨λj hj hjf=>⟨rfl,?_⟩,λ_=>?_⟩
   .exact YZ
   .by_cases g:(et c n k v q).2=false\/(et c n k v q).1<gq v k q-c (dj n k q) k
    .exact⟨q,by omega,hf,by simp only;rw[if_pos g]⟩
    .obtain⟨j,a,b,d⟩:=h2 (by
      cases f:(et c n k v q).2 with
      |true=>rfl
      |false=>exact absurd (.inl f) g)
     exact⟨j,by omega,b,by simp only;rw[if_neg g];exact d⟩
  .exact Y1
def aZ3(c:cm)(n k:Nat)(v:List Int):∀(q:Nat),(∀j,j<q->c k (dj n k j)<dI->(eM c n k v q).2=true/\(eM c n k v q).1<=gq v k j+c k (dj n k j)) /\
  ((eM c n k v q).2=true->∃j,j<q/\c k (dj n k j)<dI/\(eM c n k v q).1=gq v k j+c k (dj n k j))
 |0=>⟨λj h=>by omega,λh=>by cases h⟩
 |q+1=>by
  obtain⟨h1,h2⟩:=aZ3 c n k v q;rw[eM];by_cases hf:c k (dj n k q)<dI
  .rw[if_pos hf];refine⟨λj hj hjf=>⟨rfl,?_⟩,λ_=>?_⟩
   .exact YZ
   .by_cases g:(eM c n k v q).2=false\/gq v k q+c k (dj n k q)<(eM c n k v q).1
    .exact⟨q,by omega,hf,by simp only;rw[if_pos g]⟩
    .obtain⟨j,a,b,d⟩:=h2 (by
      cases f:(eM c n k v q).2 with
      |true=>rfl
      |false=>exact absurd (.inl f) g)
     exact⟨j,by omega,b,by simp only;rw[if_neg g];exact d⟩
  .exact Y1
def pP(c:cm)(n k:Nat)(v:List Int):Prop:=∀i j,i<=k->j<=k->c (dj n k i) (dj n k j)<dI->gq v k i-gq v k j<=c (dj n k i) (dj n k j)
structure sC(n:Nat)(B:Int)(c:cm):Prop where
 cls:Oc (n+1) (n+1) B c
 diag:∀x,x<n+1->0<=c x x
 fin:∀x,x<n->c x n<dI/\c n x<dI
 small:2*B<dI
variable{B:Int}{k:Nat}{c:cm}{v:List Int}
def lL{n:Nat}(h:sC n B c)(q:k<n)(p:pP c n k v) :
  (et c n k v (k+1)).2=true/\(eM c n k v (k+1)).2=true/\(et c n k v (k+1)).1<=(eM c n k v (k+1)).1 /\ -B<=(et c n k v (k+1)).1/\(eM c n k v (k+1)).1<=B:=by
 obtain⟨o,m⟩:=aZ2 c n k v (k+1);obtain⟨w,u⟩:=aZ3 c n k v (k+1);have e:dj n k k=n:=by unfold dj;rw[if_neg (by omega)]
 have x:gq v k k=0:=by unfold gq;rw[if_neg (by omega)]
 obtain⟨f1,f2⟩:=h.fin k q;obtain⟨l,y⟩:=o k (by omega) (by rw[e];exact f2);obtain⟨g,b2⟩:=w k (by omega) (by rw[e];exact f1);rw[e,x]at y b2;have s:=h.cls.bd n k (by omega) (by omega) f2;have r:=h.cls.bd k n (by omega) (by omega) f1;refine⟨l,g,?_,by omega,by omega⟩;obtain⟨i,D,f,C⟩:=m l;obtain⟨j,A,d,z⟩:=u g;have b:dj n k i<n+1:=by unfold dj;split<;>omega
 have a:dj n k j<n+1:=by unfold dj;split<;>omega
 have t:=h.cls.tri (dj n k i) (dj n k j) k b a (by omega) f d;have c1:=h.cls.bd _ k b (by omega) f;have F:=h.cls.bd k _ (by omega) a d;have E:=h.small;have:=p i j (by omega) (by omega) (by omega);omega
def xu{n:Nat}(h:sC n B c)(G:k<n)(E:v.length=k)(C:pP c n k v){x:Int}(A:(et c n k v (k+1)).1<=x)(z:x<=(eM c n k v (k+1)).1):pP c n (k+1) (v++[x]):=by
 obtain⟨y,_⟩:=aZ2 c n k v (k+1);obtain⟨F,_⟩:=aZ3 c n k v (k+1);have d:∀i,i<=k+1->i≠k->∃q,q<=k/\dj n (k+1) i=dj n k q/\gq (v++[x]) (k+1) i=gq v k q:=λi r D=>by
  by_cases h1:i<k
  .refine⟨i,by omega,by unfold dj;rw[if_pos (by omega),if_pos h1],?_⟩;unfold gq;rw[if_pos (by omega),if_pos h1,List.getD_eq_getElem?_getD,List.getD_eq_getElem?_getD,yP (by omega)]
  .exact⟨k,zT _,by unfold dj;rw[if_neg (by omega),if_neg (by omega)],by unfold gq;rw[if_neg (by omega),if_neg (by omega)]⟩
 have b:dj n (k+1) k=k:=by unfold dj;rw[if_pos (by omega)]
 have a:gq (v++[x]) (k+1) k=x:=by
  unfold gq;rw[if_pos (by omega),List.getD_eq_getElem?_getD,yK (by omega),E,wH];rfl
 intro i j r o f;by_cases s:i=k
 .subst s;rw[b]at f⊢;rw[a];by_cases e:j=i
  .subst e;rw[b,a];have:=h.diag j (by omega);omega
  .obtain⟨q,m,l,g⟩:=d j o e;rw[l]at f⊢;rw[g];have:=(F q (by omega) f).2;omega
 .obtain⟨p,w,u,t⟩:=d i r s;rw[u]at f⊢;rw[t];by_cases e:j=k
  .subst e;rw[b]at f⊢;rw[a];have:=(y p (by omega) f).2;omega
  .obtain⟨q,m,l,g⟩:=d j o e;rw[l]at f⊢;rw[g];exact C p q w m f
end
section
open Go
def ke(m:Nat)(c:cm)(i:Nat)(M:Int):Prop:=∀b,b<m -> -M<=c i b
def zt(m:Nat)(c:cm)(M:Int):Prop:=∀a,a<m->ke m c a M
def mO(c:cm):Prop:=∀a b,c a b<=dI
variable{c:cm}
def Hr{j i k:Nat}(h:mO c):mO (mU j i k c):=λa b=>Int.le_trans (AN j i k c a b) (h a b)
def aZ1{j i:Nat}{c:cm}(h:mO c):∀k,mO (bO j i k c)
 |0=>h
 |k+1=>Hr (aZ1 h k)
def lR{m j:Nat}{c:cm}(h:mO c):∀i,mO (gO m j i c)
 |0=>h
 |i+1=>aZ1 (lR h i) m
def pA{m:Nat}{c:cm}(h:mO c):∀j,mO (fx m j c)
 |0=>h
 |j+1=>lR (pA h j) m
def Su(j i:Nat)(c:cm):∀(k a b:Nat),a≠i->bO j i k c a b=c a b
 |0,_,_,_=>rfl
 |k+1,a,b,h=>by
  rw[bO];unfold mU;rw[if_neg (λd=>h d.1)];exact Su j i c k a b h
def lK(j i:Nat)(c:cm):∀(k b:Nat),k<=b->bO j i k c i b=c i b
 |0,_,_=>rfl
 |k+1,b,h=>by
  rw[bO];unfold mU;rw[if_neg (λa=>by omega)];exact lK j i c k b (by omega)
def BS{m j i:Nat}{c:cm}{f M:Int}(e:i≠j)(d:j<m)(g:ke m c i f)(l:ke m c j M)(q:0<=f)(p:0<=M):∀k,k<=m -> -(f+M)<=bO j i k c i j/\ke m (bO j i k c) i (f+2*M)
 |0,_=>⟨by have:=g j d;rw[bO];omega,λb n=>by have:=g b n;rw[bO];omega⟩
 |k+1,u=>by
  obtain⟨t,s⟩:=BS e d g l q p k (by omega);have r:bO j i k c j k=c j k:=Su j i c k j k (Ne.symm e);have o:bO j i k c i k=c i k:=lK j i c k k (zT _);have v:=l k (by omega);have b2:=g k (by omega);rw[bO];unfold mU;rw[r,o];refine⟨?_,λb n=>?_⟩
  .by_cases a:k=j
   .subst a;rw[o]at *;split
    .have:=l k (by omega);omega
    .omega
   .rw[if_neg (λh=>a h.2.1.symm)];exact t
  .have:=s b n
   show -(f+2*M)<=if i=i/\b=k/\bO j i k c i j<dI/\c j k<dI then min (c i k) (bO j i k c i j+c j k)else bO j i k c i b
   split
   .rename_i h;obtain⟨_,rfl,_⟩:=h;omega
   .exact this
def tv{m j:Nat}{c:cm}{M:Int}(d:j<m)(e:ke m c j M)(i:0<=M):∀k,k<=m -> -(2*M)<=bO j j k c j j/\ke m (bO j j k c) j (3*M)
 |0,_=>⟨by have:=e j d;rw[bO];omega,λb f=>by have:=e b f;rw[bO];omega⟩
 |k+1,o=>by
  obtain⟨n,l⟩:=tv d e i k (by omega);have g:bO j j k c j k=c j k:=lK j j c k k (zT _);have p:=e k (by omega);rw[bO];unfold mU;rw[g];refine⟨?_,λb f=>?_⟩
  .by_cases a:k=j
   .subst a;rw[g]at *;split<;>omega
   .rw[if_neg (λh=>a h.2.1.symm)];exact n
  .have:=l b f
   show -(3*M)<=if j=j/\b=k/\bO j j k c j j<dI/\c j k<dI then min (c j k) (bO j j k c j j+c j k)else bO j j k c j b
   split
   .rename_i h;obtain⟨_,rfl,_⟩:=h;omega
   .exact this
def Pi{m j:Nat}{c:cm}{M:Int}(e:j<m)(h:zt m c M)(o:0<=M):∀i,i<=m->(∀a,a<m->(i<=a->∀b,gO m j i c a b=c a b)/\ke m (gO m j i c) a (7*M))/\ke m (gO m j i c) j (3*M)
 |0,_=>⟨λa n=>⟨λ_ _=>rfl,λb d=>by have:=h a n b d;rw[gO];omega⟩,λb d=>by have:=h j e b d;rw[gO];omega⟩
 |i+1,t=>by
  obtain⟨q,r⟩:=Pi e h o i (by omega);have p:∀b,gO m j i c i b=c i b:=(q i (by omega)).1 (zT _);have f:ke m (gO m j i c) i M:=λb d=>by rw[p];exact h i (by omega) b d
  rw[gO];refine⟨λa n=>⟨λs b=>?_,λb d=>?_⟩,λb d=>?_⟩
  .rw[Su _ _ _ _ _ _ (by omega)];exact(q a n).1 (by omega) b
  .by_cases l:a=i
   .subst l;by_cases k:a=j
    .subst k;have:=(tv e f o m (zT _)).2 b d;omega
    .have:=(BS k e f r o (by omega) m (zT _)).2 b d;omega
   .rw[Su _ _ _ _ _ _ l];exact(q a n).2 b d
  .by_cases g:j=i
   .subst g;exact(tv e f o m (zT _)).2 b d
   .rw[Su _ _ _ _ _ _ g];exact r b d
def UD{m j i k:Nat}{M:Int}(d:j<m)(f:i<m)(e:k<=m)(h:zt m c M)(q:0<=M):zt m (bO j i k (gO m j i c)) (8*M):=by
 obtain⟨r,t⟩:=Pi d h q i (by omega);have p:∀b,gO m j i c i b=c i b:=(r i f).1 (zT _);have g:ke m (gO m j i c) i M:=λb l=>by rw[p];exact h i f b l
 intro a s b l;by_cases o:a=i
 .subst o;by_cases n:a=j
  .subst n;have:=(tv d g q k e).2 b l;omega
  .have:=(BS n d g t q (by omega) k e).2 b l;omega
 .rw[Su _ _ _ _ _ _ o];have:=(r a s).2 b l;omega
def NX{m:Nat}{c:cm}{M:Int}(h:zt m c M)(d:0<=M):∀j,j<=m->zt m (fx m j c) (8 ^ j*M)
 |0,_=>by rw[Int.pow_zero,Int.one_mul];exact h
 |j+1,k=>by
  have i:=NX h d j (by omega);have p:(0:Int)<=8 ^ j*M:=Int.mul_nonneg (Int.le_of_lt (Int.pow_pos (by decide))) d;obtain⟨g,_⟩:=Pi (by omega:j<m) i p m (zT _);intro a f b e;have:=(g a f).2 b e;rw[fx,Int.pow_succ,Int.mul_comm (8 ^ j) 8,Int.mul_assoc];omega
structure jH where
 a:Int
 b:Int
 n:Int
abbrev RR(d:jH):List D:=[iD d.a,iD d.b,iD d.n]
abbrev nL(d:List jH):D:=.sl 3 (d.map RR)
structure sG(m:Nat)(ds:List jH):Prop where
 n:m<=10
 l:ds.length<=64
 v:∀d∈ds,(-1<=d.a/\d.a<m)/\(-1<=d.b/\d.b<m)/\d.a≠d.b/\(-2097152<=d.n/\d.n<=2097152)
def wU(n:Nat)(s:List jH)(h:sG n s):APure prog 146 [iD n,nL s] (iD 0):=by
 have h1:=h.n;have h2:=h.l;refine ap func146 ntmps146 λj=>?_
 repeat' first|refine au ?_|intro b;conv=>whnf
 refine aO mixed ai (γ:=Nat) (λi=>[(5,iD i)]) (λi=>[]) (λi=>i<=s.length) (λi=>s.length-i) 0 (ah av) (Sc.refl _) (zW _) ?_;intro i hi;by_cases hil:i<s.length
 .obtain⟨y,a⟩:∃y,s[i]?=some y:=⟨_,zD hil⟩
  have hy:s[((i:Nat):Int).toNat]?=some y:=a;obtain⟨g,f,e,v⟩:=h.v y (zG a)
  repeat' first|refine au ?_|intro b;conv=>whnf
  exact⟨i+1,(ah av),(Sc.sl (yG _ _)),by omega,by omega⟩
 .obtain rfl:i=s.length:=by omega
  repeat' first|refine au ?_|intro b;conv=>whnf
  refine Rt.pure (zM iD ?_)
  rfl
def cx(n:Nat)(a:Int):Nat:=if a<0 then n else a.toNat
def tH(n:Nat)(a:Int):APure prog 190 [iD n,iD a] (iD (cx n a:Nat)):=by
 unfold cx;by_cases h:a<0
 .rw[if_pos h];refine ap func190 ntmps190 λb=>?_
  repeat refine au ?_
  refine Rt.pure (zM iD ?_)
  rfl
 .rw[if_neg h];refine ap func190 ntmps190 λb=>?_
  repeat refine au ?_
  refine Rt.pure (zM iD ?_);omega
def tB{n:Nat}{a:Int}(h:-1<=a/\a<n):cx n a<n+1:=by unfold cx;split<;>omega
end
end Go.Proofs.YtilnpcolgcmofaaGreatDoor
