/- A part of the proof: Dj Dk Dx Dz Jb. -/
import Derived.Test.YtilnpcolgcmofaaGreatDoorS19
set_option maxRecDepth 100000
set_option maxHeartbeats 20000000
set_option linter.all false
namespace Go.Proofs.YtilnpcolgcmofaaGreatDoor
open Tryz
section
open Go
def eN(x:ak)(i:Nat)(f:am):List gI:=if f.kind=1 then[⟨i,bc x f.of,f.lo,true⟩,⟨i,bc x f.of,f.hi,false⟩]else[]
abbrev Od(i:Nat)(k:au):List gI:=[⟨i,-1,k.lo,true⟩,⟨i,-1,k.hi,false⟩]
def Co(x:ak)(i:Nat)(k:au):List gI:=Od i k++k.fields.flatMap (eN x i)
def eM(x:ak):List gI:=(List.range x.kz.length).flatMap λi=>match x.kz[i]? with|some k=>Co x i k|none=>[]
def yf(x:ak)(q:Nat):List gI:=(List.range q).flatMap λi=>match x.kz[i]? with|some k=>Co x i k|none=>[]
theorem bf8{x:ak}{q:Nat}{k:au}(h:x.kz[q]?=some k):yf x (q+1)=yf x q++Co x q k:=by
 unfold yf;rw[List.range_succ,List.flatMap_append,List.flatMap_singleton,h]
theorem Cq(x:ak)(i:Nat)(f:am):(eN x i f).length<=2:=by unfold eN;split<;>simp
theorem m'{x:ak}{i:Nat}{k:au}(h:k.fields.length<=10)(q:Nat):(Od i k++(k.fields.take q).flatMap (eN x i)).length<=22:=by
 have a:=PR (f:=eN x i) (l:=k.fields.take q) (c:=2) (λf _=>Cq x i f);rw[zR]at a;rw[zI];simp only[List.length_cons,List.length_nil];omega
structure oO(x:ak):Prop where
 nk:1<=x.kz.length/\x.kz.length<=3
 nf:∀k∈x.kz,k.fields.length<=10
 nm:∀k∈x.kz,k.name.size<=1000/\∀f∈k.fields,f.name.size<=1000
 nr:x.rules.length<=16
theorem aP3{x:ak}(h:oO x):∀q,q<=x.kz.length->(yf x q).length<=22*q
 |0,_=>by simp[yf]
 |q+1,d=>by
  have c:=aP3 h q (by omega);obtain⟨k,a⟩:∃k,x.kz[q]?=some k:=⟨_,zD (by omega)⟩
  have b:=m' (x:=x) (i:=q) (h.nf k (zG a)) k.fields.length;rw[yM]at b;rw[bf8 a,zI];unfold Co;omega
abbrev RNs:fk (List ByteArray):=λl v s=>ae 9 1 (l.map λs=>[sD s]) v s
theorem bp9{A B:Prop}(k:B)(h:ar B->A:=by intro q7;(first|refine FV ?_|(with_reducible refine S2 trivial ?_)|(with_reducible refine Br.t (wP _) ?_)|refine FX ?_|((with_reducible refine Sd.go ?qs7 ?_);(case qs7=>first|trivial|(constructor<;>omega)|omega|assumption|((try simp only[yU]);omega)|((try simp only[zL,zR,zI,List.length_cons,List.length_nil,zY,Nat.reduceAdd]at *);first|(constructor<;>omega)|omega)))|refine u8x ?_);exact q7.1):A:=h ⟨k⟩
theorem iV{A B:Prop}(k:B)(h:ar B->A:=by intro q7;(first|refine bp9 ?_|refine aA ?_|(refine' ah ?hc ?_;(case hc=>first|exact HC|exact HK)));exact q7.1):A:=h ⟨k⟩
theorem aS9(x:ak)(h:oO x)(HC:APure prog 44 [ax x] (.sl 4 [])):APure prog 97 [ax x] (.tup [Ai (eM x),.any,iD 0]):=by
 have P:=h.nk;have c6:(⟨#[32,108,101,97,115,116]⟩:ByteArray).size=6:=rfl;have c5:(⟨#[32,109,111,115,116]⟩:ByteArray).size=5:=rfl;have c1:(⟨#[46]⟩:ByteArray).size=1:=rfl;refine ao func97 ntmps97 λBB=>?_
 repeat' first|refine iV ?_|intro b;conv=>whnf
 refine aV mixed ai (γ:=Nat×List ByteArray×Value×Value×af×af) (λg=>[(8,iD g.1),(6,.v g.2.2.1),(7,.v g.2.2.2.1)]) (λg=>g.2.2.2.2.1++g.2.2.2.2.2) (λg=>g.1<=x.kz.length/\g.2.1.length<=22*g.1/\ae 250 4 ((yf x g.1).map Oc) g.2.2.1 g.2.2.2.2.1/\RNs g.2.1 g.2.2.2.1 g.2.2.2.2.2) (λg=>x.kz.length-g.1) (0,[],.slice none 0 0,.slice none 0 0,[],[]) (aj aw) (Sc.refl _) ⟨zW _,zW _,ae.nil _ _,ae.nil _ _⟩ ?_;rintro⟨i,nm,I,J,w,l⟩ ⟨hi,D,e,f⟩;simp only at hi D e f⊢;by_cases hil:i<x.kz.length
 .obtain⟨kd,u⟩:∃k,x.kz[i]?=some k:=⟨_,zD hil⟩
  have S:x.kz[((i:Nat):Int).toNat]?=some kd:=u;have F:=zG u;have Q:=(h.nm kd F).1;have M:=h.nf kd F;have O:=aP3 h i hi;have L:(yf x i++Od i kd).length<=22*i+2:=by rw[zI];simp;omega
  repeat' first|refine iV ?_|intro b;conv=>whnf
  obtain⟨q,rfl⟩:∃c,c=b:=⟨_,rfl⟩
  refine Ap.go rfl rfl rfl rfl e (show List.Perm ((q,aE.cells 78 (bv kd))::(w++l)) (w++((q,aE.cells 78 (bv kd))::l)) by(refine iT λa=>?_;simp only[List.append_eq,List.nil_append,iS,jP,jh,Nz,Pj,iD,bD];omega)) rfl (zs:=(yf x i++Od i kd).map Oc) (by rw[yB];rfl) (by rw[zL];omega) (by rw[zL];omega) (λt=>(q,aE.cells 78 (bv kd))::(t++l)) (λt=>gY) (λY V t6 o=>?_)
  repeat' first|refine iV ?_|intro b;conv=>whnf
  refine Ap.go rfl rfl rfl rfl f (show List.Perm ((q,aE.cells 78 (bv kd))::(t6++l)) (l++((q,aE.cells 78 (bv kd))::t6)) by(refine iT λa=>?_;simp only[List.append_eq,List.nil_append,iS,jP,jh,Nz,Pj,iD,bD];omega)) rfl (zs:=(nm++[kd.name++⟨#[32,108,101,97,115,116]⟩,kd.name++⟨#[32,109,111,115,116]⟩]).map λs=>[sD s]) (by rw[yB];rfl) (by simp;omega) (by simp;omega) (λt=>(q,aE.cells 78 (bv kd))::(t6++t)) (λt=>gY) (λX U t7 y=>?_)
  repeat' first|refine iV ?_|intro b;conv=>whnf
  refine aV mixed ai (γ:=Nat×List ByteArray×Value×Value×af×af) (λg=>[(10,iD g.1),(6,.v g.2.2.1),(7,.v g.2.2.2.1)]) (λg=>(q,aE.cells 78 (bv kd))::(g.2.2.2.2.1++g.2.2.2.2.2)) (λg=>g.1<=kd.fields.length/\g.2.1.length<=22*i+2+2*g.1/\ae 250 4 ((yf x i++(Od i kd++(kd.fields.take g.1).flatMap (eN x i))).map Oc) g.2.2.1 g.2.2.2.2.1/\RNs g.2.1 g.2.2.2.1 g.2.2.2.2.2) (λg=>kd.fields.length-g.1) (0,_,_,_,t6,t7) (aj aw) (Sc.refl _) ⟨zW _,by simp;omega,by simpa using o,y⟩ ?_;clear o y e f L;rintro⟨j,nm,I,J,w,l⟩ ⟨hj,D,e,f⟩;simp only at hj D e f⊢;by_cases hjl:j<kd.fields.length
  .obtain⟨d,G⟩:∃k,kd.fields[j]?=some k:=⟨_,zD hjl⟩
   have Z:kd.fields[((j:Nat):Int).toNat]?=some d:=G;have T:=(h.nm kd F).2 d (zG G);have C:(kd.fields.take (j+1)).flatMap (eN x i)=(kd.fields.take j).flatMap (eN x i)++eN x i d:=aE8 G;have R:=m' (x:=x) (i:=i) M (j+1);by_cases hd1:d.kind=1
   .have HK:=EA x d.of (by omega);have E:eN x i d=[⟨i,bc x d.of,d.lo,true⟩,⟨i,bc x d.of,d.hi,false⟩]:=by unfold eN;rw[if_pos hd1]
    repeat' first|refine iV ?_|intro b;conv=>whnf
    obtain⟨r,rfl⟩:∃c,c=b:=⟨_,rfl⟩
    refine Ap.go rfl rfl rfl rfl e (show List.Perm ((r,aE.cells 81 (aH d))::(q,aE.cells 78 (bv kd))::(w++l)) (w++((r,aE.cells 81 (aH d))::(q,aE.cells 78 (bv kd))::l)) by(refine iT λa=>?_;simp only[List.append_eq,List.nil_append,iS,jP,jh,Nz,Pj,iD,bD];omega)) rfl (zs:=(yf x i++(Od i kd++(kd.fields.take (j+1)).flatMap (eN x i))).map Oc) (by rw[C,E];simp only[yB,zV];rfl) (by rw[zL,zI];omega) (by rw[zL,zI];omega) (λt=>(r,aE.cells 81 (aH d))::(q,aE.cells 78 (bv kd))::(t++l)) (λt=>gY) (λY V t6 o=>?_)
    repeat' first|refine iV ?_|intro b;conv=>whnf
    refine Ap.go rfl rfl rfl rfl f (show List.Perm ((r,aE.cells 81 (aH d))::(q,aE.cells 78 (bv kd))::(t6++l)) (l++((r,aE.cells 81 (aH d))::(q,aE.cells 78 (bv kd))::t6)) by(refine iT λa=>?_;simp only[List.append_eq,List.nil_append,iS,jP,jh,Nz,Pj,iD,bD];omega)) rfl (zs:=(nm++[kd.name++⟨#[46]⟩++d.name++⟨#[32,108,101,97,115,116]⟩,kd.name++⟨#[46]⟩++d.name++⟨#[32,109,111,115,116]⟩]).map λs=>[sD s]) (by rw[yB];rfl) (by simp;omega) (by simp;omega) (λt=>(r,aE.cells 81 (aH d))::(q,aE.cells 78 (bv kd))::(t6++t)) (λt=>gY) (λX U t7 y=>?_)
    repeat' first|refine iV ?_|intro b;conv=>whnf
    exact⟨(j+1,_,_,_,t6,t7),(aj aw),Sc.sl (yG _ _),⟨by simp only;omega,by simp;omega,o,y⟩,by simp only;omega⟩
   .have E:eN x i d=[]:=by unfold eN;rw[if_neg hd1]
    rw[E,zZ]at C;rw[←C]at e
    repeat' first|refine iV ?_|intro b;conv=>whnf
    exact⟨(j+1,nm,I,J,w,l),(aj aw),Sc.sl (yG _ _),⟨by simp only;omega,by simp only;omega,e,f⟩,by simp only;omega⟩
  .obtain rfl:j=kd.fields.length:=by omega
   have o:ae 250 4 ((yf x (i+1)).map Oc) I w:=by
    rw[yM]at e;rw[bf8 u];exact e
   repeat' first|refine iV ?_|intro b;conv=>whnf
   exact⟨(i+1,nm,I,J,w,l),(aj aw),Sc.sl (yG _ _),⟨by simp only;omega,by simp only;omega,o,f⟩,by simp only;omega⟩
 .obtain rfl:i=x.kz.length:=by omega
  repeat' first|refine iV ?_|intro b;conv=>whnf
  refine Rt.vs (Vs.vd (τ:=[]) ⟨w++l,by simp⟩ (Vd.tup (.cons (Vd.row (ρ:=l) e (zH _) (λz K=>by cases K)) (.cons (λ_ _ _ _ _=>.any _) (.cons (Vd.same (λz K=>by cases K) _) .nil)))))
end
section
open Go
theorem CE.gives{P:Program}{g:FuncId}{args b:List D}{e:D}{σ τ:af}{K:D->af->Prop}(v:eX σ args τ b)(h:APure P g b e)(k:W (K e τ)):CE P g args σ K:=
 ⟨σ,[],λa f=>a=e/\f=τ,by simp,⟨h.ent,λw X vs s l=>by
  obtain⟨j,m⟩:=v.run w X vs l s;exact(h.run w (ay τ X) _ m j.gok).mono λe n⟨u,d,c,i⟩=>⟨u,_,_,d,⟨rfl,rfl⟩,c,j.ex i,(jx i).wider v.sub⟩⟩,
  λa f⟨d,c⟩=>by subst d c;exact⟨_,by simp,k.h⟩⟩
def eI(x:ak)(lead:List Bool):Nat->Int
 |0=>1
 |i+1=>match x.kz[i]? with
  |some k=>if lead.getD i false=true/\eI x lead i<=131072 then eI x lead i*(k.hi-k.lo+1)else eI x lead i
  |none=>eI x lead i
def P5(x:ak):Prop:=∀k∈x.kz,0<=k.lo/\k.lo<=k.hi/\k.hi<=65536
theorem pR{x:ak}(h:P5 x)(lead:List Bool):∀i,1<=eI x lead i/\eI x lead i<=8590065664
 |0=>by simp[eI]
 |i+1=>by
  have a:=pR h lead i;rw[eI];split
  .rename_i k e;have b:=h k (zG e);split
   .rename_i f;have j:1<=k.hi-k.lo+1:=by omega
    have g:k.hi-k.lo+1<=65537:=by omega
    exact⟨by have:=Int.mul_le_mul a.1 j (by decide) (by omega);omega,Int.mul_le_mul (c:=131072) (d:=65537) f.2 g (by omega) (by decide)⟩
   .exact a
  .exact a
theorem pu(x:ak)(hx:P5 x)(hl:x.kz.length<=100)(lead:List Bool)(j:lead.length=x.kz.length):APure prog 143 [ax x,.sl 1 (lead.map λb=>[bD b])] (bD (decide (eI x lead x.kz.length<=131072))):=by
 refine ao func143 ntmps143 λt=>?_
 repeat refine aN ?_
 refine aV mixed ai (γ:=Nat) (λi=>[(5,iD (eI x lead i)),(6,iD i)]) (λi=>[]) (λi=>i<=x.kz.length) (λi=>x.kz.length-i) 0 (aj aw) (Sc.refl _) (zW _) ?_;intro i hi;by_cases hil:i<x.kz.length
 .obtain⟨kd,a⟩:∃k,x.kz[i]?=some k:=⟨_,zD hil⟩
  have o:x.kz[((i:Nat):Int).toNat]?=some kd:=a;have q:=hx kd (zG a);obtain⟨l,e⟩:∃y,lead[i]?=some y:=⟨_,zD (by omega)⟩
  have r:lead[((i:Nat):Int).toNat]?=some l:=e;have s:=pR hx lead i;have g:=pR hx lead (i+1);have f:eI x lead (i+1)=if l=true/\eI x lead i<=131072 then eI x lead i*(kd.hi-kd.lo+1)else eI x lead i:=by
   rw[eI,a,List.getD_eq_getElem?_getD,e];rfl
  cases l with
  |false=>
   rw[if_neg (λh=>by cases h.1)]at f
   repeat refine aN ?_
   exact⟨i+1,(aj aw),Sc.refl _,by omega,by omega⟩
  |true=>
   by_cases hc:eI x lead i<=131072
   .rw[if_pos ⟨rfl,hc⟩]at f;rw[f]at g;exact jK
   .rw[if_neg (λh=>hc h.2)]at f;exact jK
 .obtain rfl:i=x.kz.length:=by omega
  repeat refine aN ?_
  refine Rt.pure (zM bD ?_)
  rfl
structure ox(x:ak):Prop where
 sm:oO x
 ks:P5 x
 lm:ZI (eM x) x.kz.length
theorem GC{A B:Prop}(k:B)(h:ar B->A:=by intro q7;(first|refine bQ ?_|refine aA ?_|(refine' ah ?hc ?_;(case hc=>first|exact HL|exact HN|exact HD|exact HW)));exact q7.1):A:=h ⟨k⟩
theorem Lw{p:Prop}(h:p:=by
 repeat refine GC ?_
 exact Rt.vs (Vs.tup (.cons (Vs.row (ae.nil 3 1) (bR _)) (.cons (Vs.refl _ _) (.nil _))))):p:=h
theorem Bv(x:ak)(h:ox x)(C:APure prog 44 [ax x] (.sl 4 []))(want:List Int)(w:cL want)(b:want.length=x.kz.length):∃s e,cL s/\APure prog 96 [ax x,bi want] (.tup [bi s,iD e]):=by
 have q:=h.sm.nk;have HL:=aS9 x h.sm C;have f:kI want=true:=by
  unfold kI;rw[yA];intro c hc;have:=w.v c hc;simp;omega
 have HN:=aB8 want (by omega);rw[f]at HN;have HD:=uF (eM x) x.kz.length (by omega) h.lm;have j:=Zy x.kz.length (eM x).reverse;generalize eO x.kz.length (eM x).reverse=a at *;have HW:=pu x h.ks (by omega) a j;rw[show((x.kz.length:Nat):Int)=((want.map λn=>[iD n]).length:Int) by rw[zL,b]]at HD;by_cases hp:eI x a x.kz.length<=131072
 .rw[yJ hp]at HW;have i:ZI (eM x) want.length:=by rw[b];exact h.lm
  have E:=aN9 (eM x) a want i w (by omega) (by omega) want.length [] ⟨by simp,by simp⟩ (by simp);have g:=aL2 (ls:=eM x) (lead:=a) (want:=want) (λl hl=>(h.lm.v l hl).2.2) (by omega) want.length [] ⟨by simp,by simp⟩ (by simp);generalize tq (eM x) a want want.length []=o at *;by_cases ho:o.length=0
  .refine⟨[],14,⟨by simp,by simp⟩,?_⟩;refine ao func96 ntmps96 λk=>?_
   repeat refine GC ?_
   refine CE.pk (gK.le (.cons (Le.refl _) (.cons (Le.refl _) (.cons (Le.refl _) (.cons (gp _) .nil)))) E) ?_;exact Lw
  .refine⟨o,0,g.1,?_⟩;refine ao func96 ntmps96 λk=>?_
   repeat refine GC ?_
   refine CE.pk (gK.le (.cons (Le.refl _) (.cons (Le.refl _) (.cons (Le.refl _) (.cons (gp _) .nil)))) E) ?_
   repeat refine GC ?_
   exact Rt.pure rfl
 .rw[yE hp]at HW;refine⟨[],4,⟨by simp,by simp⟩,?_⟩;refine ao func96 ntmps96 λk=>?_;exact Lw
theorem px(x:ak)(h:ox x)(C:APure prog 44 [ax x] (.sl 4 []))(l:List Int)(hl:eB l):∃b is,cL b/\APure prog 58 [ax x,bi l] (.tup [bi b,bD is]):=by
 have u:=h.sm.nk;have t:=λi=>dl l i 9;have a:((List.range x.kz.length).map λi=>av l (i:Nat) 9).length=x.kz.length:=by simp
 obtain⟨b,e,k,P⟩:=Bv x h C ((List.range x.kz.length).map λi=>av l (i:Nat) 9) ⟨by rw[a];omega,λc hc=>by
  obtain⟨i,_,rfl⟩:=xM.1 hc;have:=t i;omega⟩ a
 refine⟨b,decide (e=0),k,?_⟩;refine ao func58 ntmps58 λz=>?_
 repeat refine uf ?_
 refine aV mixed ai (γ:=Nat×Value×af) (λg=>[(7,iD g.1),(6,.v g.2.1)]) (λg=>g.2.2) (λg=>g.1<=x.kz.length/\J' ((List.range g.1).map λi=>av l (i:Nat) 9) g.2.1 g.2.2) (λg=>x.kz.length-g.1) (0,.slice none 0 0,[]) (aj aw) (Sc.refl _) ⟨zW _,ae.nil _ _⟩ ?_;rintro⟨i,v,s⟩ ⟨hi,r⟩;simp only at hi r⊢;by_cases hil:i<x.kz.length
 .have HA:=YS l hl (i:Nat) 9;have j:ae 3 1 (((List.range i).map λi=>av l (i:Nat) 9).map λn=>[iD n]) v s:=r
  repeat refine uf ?_
  refine Ap.go rfl rfl rfl rfl j (bR _) rfl (zs:=((List.range (i+1)).map λi=>av l (i:Nat) 9).map λn=>[iD n]) (by rw[List.range_succ,yB,yB];rfl) (by simp;omega) (by simp;omega) (λq=>q) cZ (λy w o f=>?_)
  repeat refine uf ?_
  exact⟨(i+1,_,o),(aj aw),Sc.refl _,⟨by simp only;omega,f⟩,by simp only;omega⟩
 .obtain rfl:i=x.kz.length:=by omega
  repeat refine uf ?_
  refine CE.gives (.cons (Vs.refl _ _) (.cons (Vs.row r (bR _)) (.nil _))) P ?_
  repeat refine uf ?_
  exact Rt.pure rfl
end
section
open Go
inductive GF(x:ak)(i:Nat)(k:au)(j:Nat)(f:am):Prop
 |key (h:f.kind=0) (hb:-3<=f.lo/\f.lo<=100/\f.hi=0)
 |ref (h:f.kind=1) (t:Nat) (ht:t<i) (hu:aI x i j=t) (b:0<=f.lo/\f.lo<=f.hi/\f.hi<=8)
 |num (h:f.kind=2) (hb:-300<=f.lo/\f.lo<=300 /\ -300<=f.hi/\f.hi<=300)
 |day (h:f.kind=4) (hb:-300<=f.lo/\f.lo<=300 /\ -300<=f.hi/\f.hi<=300) (ho:f.of=nE\/∃(n:Nat)(g:am),n<j/\aZ k f.of=n/\k.fields[n]?=some g/\g.kind=4/\g.of=nE)
 |pick (h:f.kind=3) (hb:f.lo=0/\f.hi=0) (hw:EJ f.wz) (hs:f.wz.sum<=12)
 |step (h:f.kind=5) (hb:0<=f.lo/\f.lo<=f.hi/\f.hi<=6) (ho:f.of=bn)
 |sum (h:f.kind=6) (hb:f.lo=0/\f.hi=0) (jj n:Nat) (kj:au) (s r:am) (hjj:x.kz[jj]?=some kj) (hs:kj.fields[n]?=some s) (hsh:jk x i j=((jj:Int),(n:Int))) (hsb:0<=s.lo/\s.lo<=s.hi/\s.hi<=100) (hup:aZ kj s.up=1) (hr:kj.fields[1]?=some r) (hr1:r.kind=1) (hu:aI x jj 1=i) (rb:0<=r.lo/\r.lo<=r.hi/\r.hi<=8)
 |above (h:f.kind=7\/f.kind=8) (t n:Nat) (y:au) (g r:am) (ht:t<i) (hy:x.kz[t]?=some y) (hg:y.fields[n]?=some g) (hof:aZ y f.of=n) (hup:aZ k f.up=1) (hr:k.fields[1]?=some r) (hr1:r.kind=1) (hu:aI x i 1=t) (rb:0<=r.lo/\r.lo<=r.hi/\r.hi<=8) (sh:f.kind=7->g.kind=6) (fb:0<=f.lo/\f.lo<=f.hi/\f.hi<=100)
theorem rA{l:List Int}(h:∀w∈l,0<=w/\w<=4):0<=l.sum/\l.sum<=4*(l.length:Int):=OR
theorem zw{l:List Int}(h:∀w∈l,0<=w/\w<=4)(d:∃w∈l,1<=w):0<l.sum:=by
 induction l with
 |nil=>obtain⟨w,b,_⟩:=d;cases b
 |cons a l i=>
  have e:=h a yN;have f:=rA λw b=>h w (yQ a b);rw[List.sum_cons];obtain⟨w,b,c⟩:=d;rcases zU.1 b with rfl|b
  .omega
  .have:=i (λw b=>h w (yQ _ b)) ⟨w,b,c⟩;omega
variable {x:ak} (H:HX x)
include H
theorem HX.gplain{i j:Nat}{k:au}{A p B:List am}{f:am}(q:x.kz[i]?=some k)(o:aG p)(F:k.fields=A++(p++B))(r:k.fields[j]?=some f)(h:f∈p):GF x i k j f:=by
 have N:=(H.form i k q).nodup
 cases o with
 |none=>cases h
 |size a b g e=>rw[zN]at h;subst h;exact .num rfl ⟨by simp only;omega,by simp only;omega,by simp only;omega,by simp only;omega⟩
 |tag n ws y m l u=>
  rw[zN]at h;subst h;have:=rA l;exact .pick rfl ⟨rfl,rfl⟩ ⟨by simp only;omega,λw m=>by have:=l w m;omega,zw l u⟩ (by simp only;omega)
 |low a b c d g e t s=>
  simp only[zU,yF,xE]at h;rcases h with rfl|rfl<;>exact .num rfl ⟨by simp only;omega,by simp only;omega,by simp only;omega,by simp only;omega⟩
 |state a b g e=>
  rw[zN]at h;subst h;exact .step rfl ⟨by simp only;omega,by simp only;omega,by simp only;omega⟩ rfl
 |born a b c d g e t s=>
  simp only[zU,yF,xE]at h;have e:k.fields[A.length]?=some ⟨oN,nE,nE,4,a,a+b,[],[]⟩:=by rw[F,yK (zT _),wH];rfl
  have v:aZ k oN=A.length:=xt N e;rcases h with rfl|rfl
  .exact .day rfl ⟨by simp only;omega,by simp only;omega,by simp only;omega,by simp only;omega⟩ (.inl rfl)
  .obtain⟨rfl,_⟩:=li N (A:=A++[⟨oN,nE,nE,4,a,a+b,[],[]⟩]) (B:=B) (c:=⟨su,oN,nE,4,c,3+d,[],[]⟩) (by rw[F];simp) r rfl;exact .day rfl ⟨by simp only;omega,by simp only;omega,by simp only;omega,by simp only;omega⟩ (.inr ⟨A.length,_,by simp,v,e,rfl,rfl⟩)
theorem HX.ofs{t i:Nat}(h:t<i){k:au}{lo d:Int}(a:x.kz[i]?=some k)(b:k.fields[1]?=some (gR t lo d)):aI x i 1=t/\aZ k xp=1:=by
 obtain⟨y,c⟩:=HX.below a h;exact⟨H.up1 a b c h rfl rfl,xt (H.form i k a).nodup b⟩
theorem HX.gf0{i j:Nat}{k:au}{f:am}(u:x.kz[i]?=some k)(E:k.fields[j]?=some f)(L:f.kind≠6):GF x i k j f:=by
 have X:=(H.form i k u).nodup;have Y:=H.form i k u;have I:=zG E;obtain⟨lo,r,d,f1,f2,O,N,F,h1,h2,P,h4,h5,L,h7,Z,h9,M⟩:=Y;have K:k.fields=cT d::(f1++(f2++(O++(N++F)))):=by rw[h4]
 have s:=I;rw[K]at s;rcases zU.1 s with rfl|h
 .refine .key rfl ⟨?_,?_,rfl⟩
  .show -3<=d;simp at P;omega
  .show d<=100;simp at P;omega
 rcases zO.1 h with h|h
 .rcases h5 with rfl|⟨t,l,m,sm,pt,p,U,J,R,T,rfl⟩
  .cases h
  obtain⟨y,q⟩:=HX.below u p;have w:k.fields[1]?=some (gR t l m):=by rw[K];rfl
  obtain⟨v,C⟩:=H.ofs p u w;have G:0<=(gR t l m).lo/\(gR t l m).lo<=(gR t l m).hi/\(gR t l m).hi<=8:=by
   simp only[gR];simp at J;omega
  rcases zU.1 h with rfl|h
  .obtain⟨rfl,_⟩:=li X (A:=[cT d]) (c:=gR t l m) K E rfl;exact .ref rfl t p v G
  rcases zO.1 h with h|h
  .rcases R with rfl|⟨Q,n,g,o,D,S,rfl⟩
   .cases h
   rw[q]at o;cases o
   rw[zN]at h;subst h;have hx:aZ y g.name=n:=xt (H.form t y q).nodup D;exact .above (.inr rfl) t n y g _ p q D hx C w rfl v G (λe=>by cases e) ⟨by simp[hI],by simp[hI],by simp[hI]⟩
  .rcases T with rfl|⟨a,b,Q,n,ha,hb,o,D,rfl⟩
   .cases h
   rw[q]at o;cases o
   rw[zN]at h;subst h;have hx:aZ y oJ=n:=xt (f:=bf (br i)) (H.form t y q).nodup D;exact .above (.inl rfl) t n y _ _ p q D hx C w rfl v G (λ_=>rfl) ⟨by simp only[fp];omega,by simp only[fp];omega,by simp only[fp];omega⟩
 rcases zO.1 h with h|h
 .rcases L with rfl|⟨z,rfl⟩
  .cases h
  rw[zN]at h;subst h;obtain⟨y,q⟩:=HX.below u z;exact .ref rfl 0 z (H.up1 u E q z rfl rfl) ⟨by simp[v6],by simp[v6],by simp[v6]⟩
 rcases zO.1 h with h|h
 .exact H.gplain u h7 (A:=cT d::(f1++f2)) (B:=N++F) (by rw[K];simp) E h
 rcases zO.1 h with h|h
 .exact H.gplain u Z (A:=cT d::(f1++(f2++O))) (B:=F) (by rw[K];simp) E h
 .rcases M with rfl|⟨j',kj,W,V,hP,rfl⟩
  .cases h
  rw[zN]at h;subst h;exact absurd rfl L
theorem HX.gf{i j:Nat}{k:au}{f:am}(hk:x.kz[i]?=some k)(D:k.fields[j]?=some f):GF x i k j f:=by
 by_cases h6:f.kind=6
 case neg=>exact H.gf0 hk D h6
 have Z:=H.form i k hk;have o:=zG D;obtain⟨lo,r,u,f1,f2,L,K,J,h1,h2,h3,h4,h5,G,h7,h8,h9,I⟩:=Z;have Y:k.fields=cT u::(f1++(f2++(L++(K++J)))):=by rw[h4]
 rw[Y]at o;rcases zU.1 o with rfl|m
 .exact absurd h6 (by simp[cT])
 rcases zO.1 m with m|m
 .exfalso;rcases h5 with rfl|⟨t,s,C,sm,pt,Q,W,X,S,U,rfl⟩
  .cases m
  rcases zU.1 m with rfl|m
  .cases h6
  rcases zO.1 m with m|m
  .rcases S with rfl|⟨_,_,_,_,_,_,rfl⟩
   .cases m
   .rw[zN]at m;subst m;cases h6
  .rcases U with rfl|⟨_,_,_,_,_,_,_,_,rfl⟩
   .cases m
   .rw[zN]at m;subst m;cases h6
 rcases zO.1 m with m|m
 .exfalso;rcases G with rfl|⟨_,rfl⟩
  .cases m
  .rw[zN]at m;subst m;cases h6
 rcases zO.1 m with m|m
 .have:=h7.kd f m;omega
 rcases zO.1 m with m|m
 .have:=h8.kd f m;omega
 rcases I with rfl|⟨c,M,hij,hkj,P,rfl⟩
 .cases m
 rw[zN]at m;subst m;have q:=H.shares hk hij hkj P;obtain⟨n,s,C,a,b,g1,g2,g3,g4⟩:=P;have e:bc x (bf (br c)).of=c:=H.kix hkj;have d:(n:Int)∈x6 x i (bf (br c)):=by
  rw[x6,e,ve hkj];refine xM.2 ⟨n,vP.2 ⟨xT.2 (zE.1 g3).1,?_⟩,rfl⟩;rw[g3];exact Lx
 have A:x6 x i (bf (br c))=[(n:Int)]:=by
  match hl:x6 x i (bf (br c)),q with
  |[z],_=>rw[hl,zN]at d;rw[d]
 have B:I9 x i (bf (br c))=false:=by
  rw[I9,e];simp[bf];omega
 have l:jk x i j=((c:Int),(n:Int)):=by
  rw[jk,KZ hk,D];simp only[ga,B,wG,uC,A,e,mS]
 have F:=H.gf0 hkj g1 (by simp[gR]);have E:=H.gf0 hkj g3 (by simp[fp]);obtain⟨w,v⟩:=H.ofs hij hkj g1;refine .sum rfl ⟨rfl,rfl⟩ c n M _ _ hkj g3 l ?_ v g1 rfl w ?_
 .cases E with
  |above h t n' y g r R hy hg V N hr T O rb sh fb=>exact fb
  |_ h=>simp[fp]at h
 .cases F with
  |ref h t R O b=>exact b
  |above h=>simp[gR]at h
  |_ h=>simp[gR]at h
end
section
open Go
def qX(i:Nat)(k:au):Prop:=∃(l:Int)(f1 f2 p t:List am),k.fields=cT l::(f1++(f2++(p++t)))/\(i=0->f1=[])/\(0<i->∃o s,f1=o::s/\o.kind=1/\s.length<=2/\∀g∈s,g.kind=7\/g.kind=8) /\
 (f2=[]\/(1<i/\∃g,f2=[g]/\g.kind=1))/\p.length<=4/\(∀g∈p,2<=g.kind/\g.kind<=5)/\(t=[]\/∃nm,t=[bf nm])
theorem aG.len{p:List am}(h:aG p):p.length<=2:=by cases h<;>simp
theorem K9{p:Prop}(h:p:=by
 rcases hs with rfl|⟨g',_,_,rfl⟩
 .cases hg
 .rw[zN]at hg;subst hg;exact .inr rfl):p:=h
theorem iO.pos{q f:List au}{k:au}(m:iO q k f):qX q.length k:=by
 obtain⟨l,r,i,f1,f2,v,u,_,_,_,rfl,R,n,e,d,_⟩:=m.ex;refine⟨i,f1,f2,v++u,[],by simp,?_,?_,?_,by rw[zI];have:=e.len;have:=d.len;omega,λg hg=>?_,.inl rfl⟩
 .intro o;have s:=wX.1 o;subst s
  cases R with
  |none h=>rfl
  |of t y l j sm c=>simp at c
  |part t y l j a b sm c=>simp at c
 .intro o
  cases R with
  |none h=>subst h;simp at o
  |of t y l j sm c w x hs=>
   refine⟨_,_,rfl,rfl,?_,λg hg=>?_⟩
   .rcases hs with rfl|⟨g,_,_,rfl⟩<;>simp
   .exact K9
  |part t y l j a b sm c w x hs=>
   refine⟨_,_,rfl,rfl,?_,λg hg=>?_⟩
   .rcases hs with rfl|⟨g,_,_,rfl⟩<;>simp
   .rcases zO.1 hg with hg|hg
    .exact K9
    .rw[zN]at hg;subst hg;exact .inl rfl
 .rcases n with rfl|⟨y,_,z,rfl⟩
  .exact .inl rfl
  .exact .inr ⟨z,_,rfl,rfl⟩
 .rcases zO.1 hg with hg|hg
  .have:=e.kd g hg;omega
  .have:=d.kd g hg;omega
theorem cR.pos{s:List au}(h:cR s):∀(i:Nat)k,s[i]?=some k->qX i k:=by
 induction h with
 |nil=>intro i k h;simp at h
 | @step s d k h m l g=>
  have x:∀(i:Nat)z,d[i]?=some z->qX i z:=by
   obtain⟨o,r,f,f1,f2,H,G,_,_,_,_,R,_⟩:=m.ex
   cases R with
   |none h=>exact g
   |of t y o w sm j=>exact g
   |part t y o w a b sm j J K I v=>
    intro i z c;by_cases e:i=t
    .subst e;rw[xI (zE.1 j).1]at c
     cases c
     obtain⟨f,f1,f2,p,u,q,F,E,D,C,B,A⟩:=g i y j;have n:u=[]:=by
      rcases A with rfl|⟨nm,rfl⟩
      .rfl
      .exact absurd rfl (kR v (bf nm) (by rw[q];simp))
     subst n;exact⟨f,f1,f2,p,[bf (br s.length)],by simp[q],F,E,D,C,B,.inr ⟨_,rfl⟩⟩
    .rw[wN (Ne.symm e)]at c;exact g i z c
  intro i z c;by_cases e:i<d.length
  .rw[yP e]at c;exact x i z c
  .rw[yK (by omega)]at c;obtain rfl:i=d.length:=by
    have:=(zE.1 c).1;simp only[List.length_singleton]at this;omega
   simp at c;subst c;rw[l];exact m.pos
theorem qX.at{i j:Nat}{k:au}{f:am}(h:qX i k)(K:i<=2)(c:k.fields[j]?=some f) :
  (f.kind=1->(i=1/\j=1)\/(i=2/\1<=j/\j<=4))/\(f.kind=7->(i=1\/i=2)/\(j=2\/j=3)) /\
  (2<=f.kind/\f.kind<=6->(i=0/\1<=j/\j<=5)\/(i=1/\2<=j/\j<=8)\/(i=2/\2<=j/\j<=9)):=by
 obtain⟨y,f1,f2,p,v,H,G,x,F,L,E,D⟩:=h;rw[H]at c;have t:v.length<=1/\∀g∈v,g.kind=6:=by
  rcases D with rfl|⟨nm,rfl⟩
  .simp
  .exact⟨by simp,λg d=>by rw[zN]at d;subst d;rfl⟩
 have n:f2.length<=1/\(∀g∈f2,g.kind=1)/\(f2≠[]->i=2):=by
  rcases F with rfl|⟨C,g,rfl,d⟩
  .simp
  .exact⟨by simp,λz w=>by rw[zN]at w;subst w;exact d,λ_=>by omega⟩
 have l:f1.length<=3/\(0<i->1<=f1.length)/\(i=0->f1.length=0):=by
  by_cases e:i=0
  .have:=G e;subst this;simp;omega
  .obtain⟨o,s,rfl,_,A,_⟩:=x (by omega);simp only[List.length_cons];omega
 have r:=(zE.1 c).1;simp only[List.length_cons,zI]at r
 cases j with
 |zero=>simp only[List.getElem?_cons_zero,xB]at c;subst c;simp[cT]
 |succ j=>
  rw[List.getElem?_cons_succ]at c;by_cases c1:j<f1.length
  .rw[yP c1]at c;have u:0<i:=by
    by_cases e:i=0
    .have:=l.2.2 e;omega
    .omega
   obtain⟨o,s,rfl,I,A,q⟩:=x u
   cases j with
   |zero=>simp only[List.getElem?_cons_zero,xB]at c;subst c;omega
   |succ j=>
    rw[List.getElem?_cons_succ]at c;have:=q f (zG c);have:=(zE.1 c).1;omega
  .rw[yK (by omega)]at c;by_cases c2:j-f1.length<f2.length
   .rw[yP c2]at c;have d:=n.2.1 f (zG c);have B:=n.2.2 (λe=>by subst e;simp at c2);omega
   .rw[yK (by omega)]at c;have J:2<=f.kind/\f.kind<=6:=by
     rcases zO.1 (zG c)with d|d
     .have:=E f d;omega
     .have:=t.2 f d;omega
    have m:i≠2->f2.length=0:=λe=>by
     cases f2 with
     |nil=>rfl
     |cons a b=>exact absurd (n.2.2 (by simp)) e
    refine⟨λe=>by omega,λe=>by omega,λ_=>?_⟩;by_cases e0:i=0
    .have:=l.2.2 e0;have:=m (by omega);omega
    .by_cases e1:i=1
     .have:=m (by omega);have:=l.2.1 (by omega);omega
     .have:=l.2.1 (by omega);omega
end
section
open Go
theorem qX.len{i:Nat}{k:au}(h:qX i k):k.fields.length<=10:=by
 obtain⟨l,f1,f2,p,t,n,m,j,f,u,r,d⟩:=h;have a:t.length<=1:=by rcases d with rfl|⟨nm,rfl⟩<;>simp
 have b:f2.length<=1:=by rcases f with rfl|⟨_,g,rfl,_⟩<;>simp
 have c:f1.length<=3:=by
  by_cases e:i=0
  .rw[m e];simp
  .obtain⟨o,s,rfl,_,q,_⟩:=j (by omega);simp only[List.length_cons];omega
 rw[n];simp only[List.length_cons,zI];omega
theorem bJ.sm{x:ak}(h:bJ x):oO x where
 nk:=h.nk
 nf:=λk b=>by
  obtain⟨i,a⟩:=yO b;exact(h.ks.pos i k a).len
 nm:=λk b=>by
  obtain⟨i,a⟩:=yO b;have l:=(zE.1 a).1;have d:=h.hx.form i k a;refine⟨by rw[d.name];exact xH (E5 (QE (t:=i) (by have:=h.nk;omega))) (by decide),λf c=>xH (E5 (d.nms f c)) (by decide)⟩
 nr:=by have:=h.nr;omega
theorem dm.lohi{s:List au}{i:Nat}{k:au}(h:dm s i k):0<=k.lo/\k.lo<=k.hi/\k.hi<=8:=by
 obtain⟨o,r,l,f1,f2,c,p,t,b,e,d,a,_⟩:=h;rw[a];simp at b;simp only;omega
theorem bJ.gf{x:ak}(h:bJ x){i j:Nat}{k:au}{f:am}(a:x.kz[i]?=some k)(b:k.fields[j]?=some f):GF x i k j f:=h.hx.gf a b
theorem bJ.fb{x:ak}(h:bJ x){i j:Nat}{k:au}{f:am}(m:x.kz[i]?=some k)(o:k.fields[j]?=some f):(-300<=f.lo/\f.lo<=300)/\(-300<=f.hi/\f.hi<=300)/\(f.kind=1->0<=f.lo/\f.lo<=f.hi/\f.hi<=8):=by
 cases h.gf m o with
 |key e a=>omega
 |ref e t c u b=>omega
 |num e a=>omega
 |day e a=>omega
 |pick e a=>omega
 |step e a=>omega
 |sum e a=>omega
 |above e t n y g r c v z l p w d u q s fb=>omega
theorem H9{x:ak}{l:gI}(h:l∈eM x):∃(i:Nat)(k:au),x.kz[i]?=some k/\(l∈Od i k\/∃f∈k.fields,l∈eN x i f):=by
 unfold eM at h;obtain⟨i,_,a⟩:=List.mem_flatMap.1 h
 cases b:x.kz[i]? with
 |none=>rw[b]at a;cases a
 |some k=>
  rw[b]at a;rcases zO.1 a with a|a
  .exact⟨i,k,b,.inl a⟩
  .obtain⟨f,c,a⟩:=List.mem_flatMap.1 a;exact⟨i,k,b,.inr ⟨f,c,a⟩⟩
theorem XM{p:Prop}(h:p:=by
 simp only[zU,yF,xE]at hl;rcases hl with rfl|rfl<;>exact⟨⟨by simp only;omega,by simp only;omega⟩,⟨by simp only;omega,by simp only;omega⟩,by simp only;omega,by simp only;omega⟩):p:=h
theorem bJ.lim{x:ak}(h:bJ x):ox x where
 sm:=h.sm
 ks:=λk b=>by
  obtain⟨i,a⟩:=yO b;have:=(h.hx.form i k a).lohi;omega
 lm:=by
  refine⟨?_,λl hl=>?_⟩
  .have:=aP3 h.sm x.kz.length (zT _);have e:yf x x.kz.length=eM x:=rfl;rw[e]at this;have:=h.nk;omega
  .obtain⟨i,k,a,hl⟩:=H9 hl;have d:=(zE.1 a).1;have r:=(h.hx.form i k a).lohi;rcases hl with hl|⟨f,m,hl⟩
   .exact XM
   .unfold eN at hl;split at hl
    .rename_i n;obtain⟨j,c⟩:=yO m;have g:=(h.fb a c).2.2 n;have q:=u7 x f.of;have o:=Y1 x f.of;exact XM
    .cases hl
theorem bJ.fbs{x:ak}(h:bJ x):∀k∈x.kz,∀f∈k.fields,(-2097152<=f.lo/\f.lo<=2097152)/\(-2097152<=f.hi/\f.hi<=2097152):=λk a f d=>by
 obtain⟨i,c⟩:=yO a;obtain⟨j,b⟩:=yO d;have:=h.fb c b;omega
end
end Go.Proofs.YtilnpcolgcmofaaGreatDoor
