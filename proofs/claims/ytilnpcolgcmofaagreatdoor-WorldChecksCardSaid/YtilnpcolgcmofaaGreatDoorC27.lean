/- A part of the proof. -/
import Derived.Test.YtilnpcolgcmofaaGreatDoorC26
import Derived.OwnWalkIn
import Derived.LoopNIn
import Derived.LoopIn
set_option maxRecDepth 100000
set_option maxHeartbeats 20000000
set_option linter.all false
namespace Go.Proofs.YtilnpcolgcmofaaGreatDoor
open Tryz
section
open Go
def aY5(f:List (Bool×Int))(hl:f.length<=1000):APure prog 112 [.sl 2 (f.map λp=>[bD p.1,iD p.2])] (iD (j7 f)):=by
 refine ap func112 ntmps112 λj=>?_
 repeat' first|refine aV ?_|intro b;conv=>whnf|refine bg.mk λy hy=>?_
 refine jN mixed ai (γ:=Nat) (λq=>[(7,iD q)]) (λ_=>[]) (λq=>q<=f.length/\∀(m:Nat)y,m<q->f[m]?=some y->y.1=false) (λq=>f.length-q) 0 rfl bE ⟨by omega,λm y g=>by omega⟩ ?_;rintro q ⟨i,o⟩
 repeat' first|refine aV ?_|intro b;conv=>whnf|refine bg.mk λy hy=>?_|(refine aZ ?_;constructor<;>intro hc)
 .refine Rt.pure (zM iD ?_);exact(x2 o hy (by assumption)).symm
 .exact⟨q+1,rfl,bE,⟨by omega,λm z g a=>by
   by_cases e:m=q
   .subst e;rw[show((m:Int)).toNat=m from rfl,a]at hy;cases hy;assumption
   .exact o m z (by omega) a⟩,by omega⟩
 .refine Rt.pure (zM iD ?_);exact(oT (λm y hy=>o m y (by have:=(zE.1 hy).1;omega) hy)).symm
def GI(b:Bool)(c:Int):APure prog 112 [.sl 2 [[bD b,iD c]]] (iD (j7 [(b,c)])):=aY5 [(b,c)] (by simp)
def GJ(b:Bool)(c:Int)(a:Bool)(c':Int):APure prog 112 [.sl 2 [[bD b,iD c],[bD a,iD c']]] (iD (j7 [(b,c),(a,c')])):=aY5 [(b,c),(a,c')] (by simp)
def ar5(e b2 d b:Bool)(c1 c2 a c:Int):APure prog 112 [.sl 2 [[bD e,iD c1],[bD b2,iD c2],[bD d,iD a],[bD b,iD c]]] (iD (j7 [(e,c1),(b2,c2),(d,a),(b,c)])):=aY5 [(e,c1),(b2,c2),(d,a),(b,c)] (by simp)
def LY(x:ak)(i j:Int)(f:an):List D:=[iD x.vz,kq x.kz,iM x.lz,jI x.rules,iD i,iD j,sD f.name,sD f.of,sD f.up,iD f.kind,iD f.lo,iD f.hi,gr f.words,bv f.wz]
abbrev Lb(x:ak)(i j:Int)(f:an):D:=.agg (LY x i j f)
def T0{A B:Prop}(k:B)(h:ar B->A:=by intro q7;(first|refine bh ?_|refine aE ?_|(refine' aj ?hc ?_;(case hc=>exact R' x _ _ hl hf)));exact q7.1):A:=h ⟨k⟩
def aY4(x:ak)(i j:Int)(f:an)(hl:x.kz.length<=1000000)(hf:∀k∈x.kz,k.fields.length<=1000000):APure prog 307 [Lb x i j f] (bD (decide (aG x i j<0))):=by
 refine ap func307 ntmps307 λa=>?_
 repeat refine T0 ?_
 refine Rt.pure (zM bD ?_);rfl
def Mj{A B:Prop}(k:B)(h:ar B->A:=by intro q7;(first|refine bh ?_|refine aE ?_|(refine' aj ?hc ?_;(case hc=>first|exact R' x _ _ hl hf|exact HA|exact FP _ _ (by assumption))));exact q7.1):A:=h ⟨k⟩
def AQ(x:ak)(i j:Int)(f:an)(hl:x.kz.length<=1000000)(hf:∀k∈x.kz,k.fields.length<=1000000):APure prog 317 [Lb x i j f] (.tup [bT (fH x i j f).1,bD (fH x i j f).2]):=by
 have l:=sL x i j;refine ap func317 ntmps317 λn=>?_;by_cases hu:aG x i j<0
 .have ht:fH x i j f=(zf,false):=by unfold fH;rw[sO hu]
  repeat' first|refine Mj ?_|intro b;conv=>whnf|(refine aZ ?_;constructor<;>intro hc)
  rw[ht];exact Rt.vs (Vs.tup (fF.cons (Vs.le aG0) (fF.cons (Vs.refl _ _) (fF.nil _))))
 .obtain⟨o,a⟩:∃o,x.kz[(aG x i j).toNat]?=some o:=⟨_,zD (by omega)⟩
  have g:=hf o (zG a);have e:=sP (f:=f) hu a;have HA:=QF x (aG x i j) (bb o f.of);have ht:fH x i j f=iC x (aG x i j) (bb o f.of):=by unfold fH iC;rw[e]
  repeat' first|refine Mj ?_|intro b;conv=>whnf|(refine aZ ?_;constructor<;>intro hc)
  rw[ht];exact Rt.vs (Vs.refl _ _)
end
section
open Go
def QQ(b:Bool)(c:Int):j7 [(b,c)]=if b=true then c else 0:=by cases b<;>rfl
def au5(b a:Bool)(c c':Int):j7 [(b,c),(a,c')]=if b=true then c else if a=true then c' else 0:=by cases b<;>cases a<;>rfl
variable{x:ak}{i j:Int}{f:an}
def PS(k:f.kind=0):cP x i j f=if 0<j then 13 else 0:=by
 unfold cP;by_cases h:0<j<;>simp[k,h]
def PR(h:f.kind=1):cP x i j f=if aG x i j<0 then 12 else 0:=by simp[cP,h]
def PQ(h:f.kind=4):cP x i j f=rN x i j f:=by simp[cP,h]
def PP(h:f.kind=5):cP x i j f=if x.lz.any (λl=>seq l.name f.of)then 0 else 12:=by simp only[cP,h];simp
def PO(h:f.kind=6):cP x i j f=if(gJ x i f).1<0 then 12 else if(gJ x i f).2.length=1 then 0 else 11:=by simp[cP,h]
def PN(h:f.kind=7):cP x i j f=if aG x i j<0 then 12 else if(cz x i j f).1=6/\bi x (cz x i j f).2.of=i then 0 else 13:=by simp[cP,GQ,h]
def PM(h:f.kind=8):cP x i j f=if aG x i j<0 then 12 else if(cz x i j f).1<0\/(cz x i j f).1=0\/(cz x i j f).1=1\/(cz x i j f).1=6\/(cz x i j f).1=7 then 13 else 0:=by simp[cP,GQ,h]
variable{A B:Prop}
def TZ(k:B)(h:ar B->A:=by intro q7;(first|refine bh ?_|refine aE ?_|(refine' aj ?hc ?_;(case hc=>first|exact GI _ _|exact GJ _ _ _ _)));exact q7.1):A:=h ⟨k⟩
def vu(x:ak)(i j:Int)(f:an)(k:f.kind=0):APure prog 310 [Lb x i j f] (iD (cP x i j f)):=by
 refine ap func310 ntmps310 λa=>?_
 repeat refine TZ ?_
 refine Rt.pure (zM iD ?_);rw[QQ,PS k];simp
def TY(k:B)(h:ar B->A:=by intro q7;(first|refine bh ?_|refine aE ?_|(refine' aj ?hc ?_;(case hc=>first|exact GI _ _|exact GJ _ _ _ _|exact aY4 x i j f hl hf)));exact q7.1):A:=h ⟨k⟩
def vt(x:ak)(i j:Int)(f:an)(hl:x.kz.length<=1000000)(hf:∀k∈x.kz,k.fields.length<=1000000)(a:f.kind=1):APure prog 311 [Lb x i j f] (iD (cP x i j f)):=by
 refine ap func311 ntmps311 λb=>?_
 repeat refine TY ?_
 refine Rt.pure (zM iD ?_);rw[QQ,PR a];simp
def TX(k:B)(h:ar B->A:=by intro q7;(first|refine bh ?_|refine aE ?_|(refine' aj ?hc ?_;(case hc=>first|exact GI _ _|exact GJ _ _ _ _|exact HA|exact FP _ _ (by assumption))));exact q7.1):A:=h ⟨k⟩
variable{p:Prop}
def Zt(h:p:=by
 refine ap func312 ntmps312 λBB=>?_
 repeat' first|refine TX ?_|intro b;conv=>whnf|(refine aZ ?_;constructor<;>intro hc)
 all_goals(refine Rt.pure (zM iD ?_);rw[QQ,←pU];generalize(f.of.toList==({ data:=#[] }:ByteArray).toList)=e at *;simp[*])):p:=h
def vr(x:ak)(i j:Int)(f:an)(hl:x.kz.length<=1000000)(u:∀k∈x.kz,k.fields.length<=1000000)(n:fieldAt x i j=some f)(r:f.kind=4):APure prog 312 [Lb x i j f] (iD (cP x i j f)):=by
 obtain⟨h0,h1,k,a,q⟩:=GH n;have t:=u k (zG a);have l:dN x i=some k:=by simp[dN,h0,a]
 have s:=KW k f.of;rw[PQ r];simp only[rN,l];have HA:=QF x i (bb k f.of);by_cases hn:bb k f.of<0
 .rw[po hn]at HA;exact Zt
 .obtain⟨g,o⟩:∃g,k.fields[(bb k f.of).toNat]?=some g:=⟨_,zD (by omega)⟩
  rw[be1 h0 a (by omega) o]at HA;rw[o];exact Zt
def aU1(x:ak)(i j:Int)(f:an)(y:bG):APure prog 314 [cZ y,.ro (LY x i j f)] (bD (seq y.name f.of)):=by
 refine ap func314 ntmps314 λa=>?_
 repeat refine aV ?_
 refine Rt.pure (zM bD ?_);rfl
def TW(k:B)(h:ar B->A:=by intro q7;(first|refine bh ?_|refine aE ?_|(refine' aj ?hc ?_;(case hc=>first|exact GI _ _|exact GJ _ _ _ _|exact be2 x.lz (λy=>seq y.name f.of) hll (λy _=>aU1 x i j f y))));exact q7.1):A:=h ⟨k⟩
def vq(x:ak)(i j:Int)(f:an)(hll:x.lz.length<=1000000)(k:f.kind=5):APure prog 313 [Lb x i j f] (iD (cP x i j f)):=by
 refine ap func313 ntmps313 λa=>?_
 repeat refine TW ?_
 refine Rt.pure (zM iD ?_);rw[QQ,PP k]
 cases x.lz.any (λl=>seq l.name f.of)<;>rfl
def TV(k:B)(h:ar B->A:=by intro q7;(first|refine bh ?_|refine aE ?_|(refine' aj ?hc ?_;(case hc=>first|exact GI _ _|exact GJ _ _ _ _|exact aH7 x i f h0 hl hf)));exact q7.1):A:=h ⟨k⟩
def vp(x:ak)(i j:Int)(f:an)(h0:0<=i)(hl:x.kz.length<=1000000)(hf:∀k∈x.kz,k.fields.length<=1000000)(a:f.kind=6):APure prog 315 [Lb x i j f] (iD (cP x i j f)):=by
 refine ap func315 ntmps315 λb=>?_
 repeat refine TV ?_
 refine Rt.pure (zM iD ?_);rw[au5,PO a];simp only[zL];by_cases h1:(gJ x i f).1<0<;>by_cases h2:(gJ x i f).2.length=1<;>simp[h1,h2]<;>omega
def mM:(cz x i j f).1=(if(fH x i j f).2=true then(fH x i j f).1.kind else -1)/\(cz x i j f).2=(fH x i j f).1:=by
 unfold cz fH;cases im x i j f<;>simp
def Kd{k u:Int}(B:Bool)(p:Bool)(h:0<=k/\k<=8)(a:B=true↔(k=0\/k=1\/k=6\/k=7)){_hp:p=decide (u<0)} :
  (if p=true then(12:Int)else if B=true then 13 else 0)=if u<0 then 12 else if(if true=true then k else -1)<0\/(if true=true then k else -1)=0\/(if true=true then k else -1)=1\/(if true=true then k else -1)=6\/(if true=true then k else -1)=7 then 13 else 0:=by
 subst _hp;simp only[if_true,zQ];by_cases hu:u<0
 .rw[if_pos hu,if_pos hu]
 .rw[if_neg hu,if_neg hu];by_cases hb:B=true
  .rw[if_pos hb,if_pos (by have:=a.1 hb;omega)]
  .rw[if_neg hb,if_neg (by intro b;exact hb (a.2 (by omega)))]
def Mi(k:B)(h:ar B->A:=by intro q7;(first|refine bh ?_|refine aE ?_|(refine' aj ?hc ?_;(case hc=>first|exact GI _ _|exact GJ _ _ _ _|exact aY4 x i j f hl hf|exact HT|exact NV _ _ (by assumption))));exact q7.1):A:=h ⟨k⟩
def Fe(h:p:=by
 repeat' first|refine Mi ?_|intro b;conv=>whnf|(refine aZ ?_;constructor<;>intro hc)
 all_goals(refine Rt.pure (zM iD ?_);rw[au5];simp[*])):p:=h
def vo(x:ak)(i j:Int)(f:an)(hl:x.kz.length<=1000000)(hf:∀k∈x.kz,k.fields.length<=1000000)(a:f.kind=7):APure prog 316 [Lb x i j f] (iD (cP x i j f)):=by
 rw[PN a,mM.1,mM.2];have HT:=AQ x i j f hl hf;rcases ht:fH x i j f with⟨g,b⟩
 rw[ht]at HT;simp only at HT⊢;refine ap func316 ntmps316 λe=>?_
 cases b
 .exact Fe
 .exact Fe
def vm(x:ak)(i j:Int)(f:an)(hl:x.kz.length<=1000000)(hf:∀k∈x.kz,k.fields.length<=1000000)(q:∀k∈x.kz,∀g∈k.fields,0<=g.kind/\g.kind<=8)(o:f.kind=8):APure prog 318 [Lb x i j f] (iD (cP x i j f)):=by
 rw[PM o,mM.1];have HT:=AQ x i j f hl hf;have a:(fH x i j f).2=true->0<=(fH x i j f).1.kind/\(fH x i j f).1.kind<=8:=by
  unfold fH
  cases ht:im x i j f with
  |none=>intro h;cases h
  |some g=>
   intro _;unfold im at ht;split at ht
   .cases ht
   .split at ht
    .obtain⟨_,_,n,l,e⟩:=GH ht;exact q n (zG l) g (zG e)
    .cases ht
 rcases ht:fH x i j f with⟨g,b⟩
 rw[ht]at HT a;simp only at HT a⊢;refine ap func318 ntmps318 λr=>?_
 cases b
 .exact Fe
 .have a:=a rfl
  repeat' first|refine Mi ?_|intro b;conv=>whnf|(refine aZ ?_;constructor<;>intro hc)
  all_goals(clear HT;refine Rt.pure (zM iD ?_);rw[au5];refine Kd _ _ a ?_ (_hp:=rfl);first|(simp;omega)|(simp only[wG,false_iff];omega)|(simp only[true_iff];omega))
end
section
open Go
variable{A B:Prop}
def TU(k:B)(h:ar B->A:=by intro q7;(first|refine bh ?_|refine aE ?_|(refine' aj ?hc ?_;(case hc=>first|exact GI _ _|exact GJ _ _ _ _|exact ar5 _ _ _ _ _ _ _ _|exact NV _ _ (by assumption))));exact q7.1):A:=h ⟨k⟩
variable{p:Prop}
def YY(h:p:=by
 repeat' first|refine TU ?_|intro b;conv=>whnf|(refine aZ ?_;constructor<;>intro hc)
 all_goals(refine Rt.pure (zM iD ?_);rw[au5];unfold fz l3;rw[hfs];simp[*])):p:=h
def AT(x:ak)(i:Nat)(k:aq)(hl:x.kz.length<=1000000)(a:x.kz[i]?=some k):APure prog 113 [aw x,iD i] (iD (fz x i k)):=by
 have a:x.kz[((i:Nat):Int).toNat]?=some k:=a;have l:=(zE.1 a).1;refine ap func113 ntmps113 λf=>?_;rcases hfs:k.fields with _|⟨g,r⟩
 .have h0:k.fields.length=0:=by rw[hfs];rfl
  exact YY
 .have e:k.fields[(0:Int).toNat]?=some g:=by rw[hfs];rfl
  have h0:0<k.fields.length:=by rw[hfs];simp
  exact YY
def AS(y r:cH):APure prog 168 [eR y,.ro (cX r)] (bD (seq y.name r.name)):=by
 refine ap func168 ntmps168 λa=>?_
 repeat refine aV ?_
 refine Rt.pure (zM bD ?_);rfl
def ruI(x:ak)(k:aq)(o:Int)(r:cH)(g:Nat×Bool×Bool):Prop:=(g.1=0/\g.2.1=false/\g.2.2=false)\/(g.1=1/\g.2.1=fC x k o r.a/\g.2.2=gm x k o r.a)\/(g.1=2/\g.2.1=(fC x k o r.a||fC x k o r.b)/\g.2.2=(gm x k o r.a||gm x k o r.b))
def nQ(k:B)(h:ar B->A:=by intro q7;(first|refine bh ?_|refine aE ?_|(refine' aj ?hc ?_;(case hc=>first|exact GI _ _|exact GJ _ _ _ _|exact ar5 _ _ _ _ _ _ _ _|exact HR|exact HF|exact HAT|exact NV _ _ (by assumption))));exact q7.1):A:=h ⟨k⟩
def Nn(h:p:=by
 rw[←vR];exact uM (x.rules.take i) (λs=>seq s.name r.name) (by simp;omega) (λy _=>AS y r)):p:=h
def qg(x:ak)(i:Nat)(r:cH)(hl:x.kz.length<=1000000)(l:x.rules.length<=1000000)(a:x.rules[i]?=some r)(k:bi x r.kind<0):APure prog 114 [aw x,iD i] (iD (j5 x i r)):=by
 have a:x.rules[((i:Nat):Int).toNat]?=some r:=a;have e:=(zE.1 a).1;have HR:APure prog 167 [.sl 5 ((x.rules.map cX).take i),.clo 168 [.ro (cX r)]] (bD (pI x i r)):=Nn;have E:j5 x i r=j7 [(pI x i r,7),(true,12),(false,13),(seq r.a r.b,1)]:=by
  have:dN x (bi x r.kind)=none:=by unfold dN;rw[if_neg (by omega)]
  simp only[j5,this]
 refine ap func114 ntmps114 λf=>?_
 repeat' first|refine nQ ?_|intro b;conv=>whnf
 refine CE.pk (iK.peek (.cons (Pk.same _) (.cons (Pk.clo (.cons (Pk.ptr (j:=0) rfl (kf.refl _)) .nil)) .nil)) HR rfl) ?_
 repeat' first|refine nQ ?_|intro b;conv=>whnf
 refine jN mixed ai (γ:=Nat) (λj=>[(37,iD j),(8,bD (decide (bi x r.kind<0))),(9,bD false)]) (λ_=>[(b,.cells 96 (cX r))]) (λj=>j<=2) (λj=>2-j) 0 (ah aJ) bE (by omega) ?_;rintro j hj;obtain rfl|rfl|rfl:j=0\/j=1\/j=2:=by omega
 .repeat' first|refine nQ ?_|intro b;conv=>whnf|(refine aZ ?_;constructor<;>intro hc)
  all_goals exact⟨1,(ah aJ),bE,by omega,by omega⟩
 .repeat' first|refine nQ ?_|intro b;conv=>whnf|(refine aZ ?_;constructor<;>intro hc)
  all_goals exact⟨2,(ah aJ),bE,by omega,by omega⟩
 .repeat' first|refine nQ ?_|intro b;conv=>whnf|(refine aZ ?_;constructor<;>intro hc)
  refine Rt.pure (zM iD ?_);rw[E,yJ k];rfl
def nP(k:B)(h:ar B->A:=by intro q7;(first|refine bh ?_|refine aE ?_|(refine' aj ?hc ?_;(case hc=>first|exact GI _ _|exact GJ _ _ _ _|exact ar5 _ _ _ _ _ _ _ _|exact HR|exact QF _ _ _|exact NV _ _ (by assumption)|exact FP _ _ (by assumption))));exact q7.1):A:=h ⟨k⟩
def nq(x:ak)(i:Nat)(r:cH)(k:aq)(hl:x.kz.length<=1000000)(o:∀k∈x.kz,k.fields.length<=1000000)(l:x.rules.length<=1000000)(a:x.rules[i]?=some r)(h0:0<=bi x r.kind)(e:x.kz[(bi x r.kind).toNat]?=some k):APure prog 114 [aw x,iD i] (iD (j5 x i r)):=by
 have a:x.rules[((i:Nat):Int).toNat]?=some r:=a;have f:=(zE.1 a).1;have n:=o k (zG e);have HR:APure prog 167 [.sl 5 ((x.rules.map cX).take i),.clo 168 [.ro (cX r)]] (bD (pI x i r)):=Nn;have E:j5 x i r=j7 [(pI x i r,7),(fC x k (bi x r.kind) r.a||fC x k (bi x r.kind) r.b,12),(gm x k (bi x r.kind) r.a||gm x k (bi x r.kind) r.b,13),(seq r.a r.b,1)]:=by
  have:dN x (bi x r.kind)=some k:=by unfold dN;rw[if_pos h0];exact e
  simp only[j5,this]
 refine ap func114 ntmps114 λv=>?_
 repeat' first|refine nP ?_|intro b;conv=>whnf
 refine CE.pk (iK.peek (.cons (Pk.same _) (.cons (Pk.clo (.cons (Pk.ptr (j:=0) rfl (kf.refl _)) .nil)) .nil)) HR rfl) ?_;clear HR
 repeat' first|refine nP ?_|intro b;conv=>whnf
 refine jN mixed ai (γ:=Nat×Bool×Bool) (λg=>[(37,iD g.1),(8,bD g.2.1),(9,bD g.2.2)]) (λ_=>[(b,.cells 96 (cX r))]) (ruI x k (bi x r.kind) r) (λg=>2-g.1) (0,decide (bi x r.kind<0),false) (ah aJ) bE (.inl ⟨rfl,by simp;omega,rfl⟩) ?_;rintro⟨j,m,w⟩ (⟨rfl,rfl,rfl⟩|⟨rfl,rfl,rfl⟩|⟨rfl,rfl,rfl⟩)
 .repeat' first|refine nP ?_|intro b;conv=>whnf|(refine aZ ?_;constructor<;>intro hc)
  all_goals(refine⟨(1,fC x k (bi x r.kind) r.a,gm x k (bi x r.kind) r.a),ah (.cons rfl (.cons ?_ (.cons ?_ aJ))),bE,.inr (.inl ⟨rfl,rfl,rfl⟩),by simp only;omega⟩<;>(refine zM (λb=>some (bD b)) ?_;clear E;simp only[fC,gm,←pU];generalize(r.a.toList==({ data:=#[] }:ByteArray).toList)=u at *;generalize(iC x (bi x r.kind) (bb k r.a)).1.kind=K at *;first|(simp[*];done)|(by_cases h4:K=4<;>by_cases h2:K=2<;>simp_all)))
 .repeat' first|refine nP ?_|intro b;conv=>whnf|(refine aZ ?_;constructor<;>intro hc)
  all_goals(refine⟨(2,fC x k (bi x r.kind) r.a||fC x k (bi x r.kind) r.b,gm x k (bi x r.kind) r.a||gm x k (bi x r.kind) r.b),ah (.cons rfl (.cons ?_ (.cons ?_ aJ))),bE,.inr (.inr ⟨rfl,rfl,rfl⟩),by simp only;omega⟩<;>(refine zM (λb=>some (bD b)) ?_;clear E;generalize fC x k (bi x r.kind) r.a=q at *;generalize gm x k (bi x r.kind) r.a=nb at *;simp only[fC,gm,←pU];generalize(r.b.toList==({ data:=#[] }:ByteArray).toList)=t at *;generalize(iC x (bi x r.kind) (bb k r.b)).1.kind=K at *;first|(simp[*];done)|(by_cases h4:K=4<;>by_cases h2:K=2<;>simp_all)))
 .repeat' first|refine nP ?_|intro b;conv=>whnf|(refine aZ ?_;constructor<;>intro hc)
  refine Rt.pure (zM iD ?_);rw[E];rfl
def AR(x:ak)(i:Nat)(r:cH)(l:x.kz.length<=1000000)(f:∀k∈x.kz,k.fields.length<=1000000)(h:x.rules.length<=1000000)(a:x.rules[i]?=some r):APure prog 114 [aw x,iD i] (iD (j5 x i r)):=by
 by_cases h0:bi x r.kind<0
 .exact qg x i r l h a h0
 .have t:bi x r.kind<x.kz.length:=GU _ _;exact nq x i r _ l f h a (by omega) (zD (by omega))
end
section
open Go Go.Maps Go.MapKept
variable{ρ:Operand->D}{σ:ae}{o:Oper}
def La(c:o.op= .load 215 (.global 0))(a:ρ (.global 0)= .v (.pointer (some ⟨0,0,none⟩))) :
  Yd prog o ρ σ (.gl 0):=by
 intro w X η b h;obtain⟨dst,op,y,pos,t,g⟩:=o;simp only at c;subst c;have p:=(b (.global 0) (by simp[Op.operands])).val a;obtain⟨r,d,i,f⟩:=h.gok.checks;obtain⟨e,j⟩:=N6 (ai 215 _ rfl) w;refine ev (s:=Instr.loadAt 215 (η (.global 0))) (u:=.map (some r)) ?_ (Ex.refl w) (.gl _ _ (h.gok.no _ (by decide)) (yI (by decide) h.gok.sz) d);rw[p];exact R0 e d
def gU(n:Int):Bool:=(sv iB (.int .i64 n)).isSome
def Qz(n:Int):D:=.agg [.v (((iB (.int .i64 n))).getD .nilFunc)]
def G3{x i:Operand}{n:Int}(j:o.op= .lookup 215 x i true)(hx:ρ x= .gl 0)(b:ρ i= .v (.int .i64 n))(G:0<=n/\n<=8) :
  Yd prog o ρ σ (.tup [Qz n,.v (.bool (gU n))]):=by
 intro w X η h t;obtain⟨dst,op,E,pos,C,g⟩:=o;simp only at j;subst j;have c:=h x (by simp[Op.operands]);rw[hx]at c;have p:=(h i (by simp[Op.operands])).val b;obtain⟨r,B,H,A⟩:=t.gok.checks;have d:η x= .map (some r):=by
  generalize y:D.gl 0=q at c;generalize η x=u at c
  cases c<;>cases y
  rename_i F _ _ k;rw[B]at k;cases k;rfl
 have f:(Lit.int .i64 n).wf=true:=by
  have:n=0\/n=1\/n=2\/n=3\/n=4\/n=5\/n=6\/n=7\/n=8:=by omega
  rcases this with rfl|rfl|rfl|rfl|rfl|rfl|rfl|rfl|rfl<;>rfl
 have z:(zeroValue 213).run prog w= .ok (.agg #[.nilFunc]) w:=by
  have:(prog.info? 213).map (λi=>i.zero)=some (some (.agg #[.nilFunc])):=by kernel_rfl
  cases b:prog.info? 213 with
  |none=>rw[b]at this;cases this
  |some m=>
   rw[b]at this;simp only[Option.map_some,xB]at this;simp[zeroValue,typeInfo,program,Sem.run,b,this]
 have a:=A.look_ok (int_keyed underlying3) underlying215 z (keyOf_int_mk underlying3 f);refine ev (s:=Instr.lookup 215 (η x) (η i) true) (by rw[d,p];exact a) (Ex.refl w) ?_;have e:(sv iB (.int .i64 n)).getD (.agg #[.nilFunc])= .agg #[(iB (.int .i64 n)).getD .nilFunc]:=by
  unfold sv;cases iB (.int .i64 n)<;>rfl
 rw[e];have l:=bj.cons (w:=w) (O:=ay σ X) (Rd.agg [.v ((iB (.int .i64 n)).getD .nilFunc)] [(iB (.int .i64 n)).getD .nilFunc] rfl (My [(iB (.int .i64 n)).getD .nilFunc]).at_) (bj.cons (Rd.v (.bool (gU n))) bj.nil);exact Rd.tup [Qz n,.v (.bool (gU n))] _ l.len l.at_
end
section
open Go
def Ak(b:Nat)(l:List eZ)(v:Value)(s:ae)(k f r e:Int)(j:ab 156 4 (l.map aS) v s)(hl:l.length<=1000000) :
  az prog 109 [iD k,iD f,iD r,iD e,.v (.pointer (some ⟨b,0,none⟩))] ((b,.cells 154 [.v v])::s)
   (λd σ'=>∃n g,d= .v (.tuple #[])/\σ'=(b,.cells 154 [.v n])::g/\ab 156 4 ((l++one k f r e).map aS) n g):=by
 obtain⟨a,c,rfl⟩:=j.slice;refine dB func109 ntmps109 λq=>?_
 repeat' first|refine aV ?_|(refine aZ ?_;constructor<;>intro hc)
 .refine Rt.same ⟨_,s,rfl,rfl,?_⟩;unfold one;rw[if_pos (by omega)];simpa using j
 .refine Ap.go rfl rfl rfl rfl j (GN _ _) rfl (zs:=(l++one k f r e).map aS) (by unfold one;rw[if_neg (by omega)];simp[aS]) (by simp[one];split<;>simp<;>omega) (by simp[one];split<;>simp<;>omega) (λg=>_::g) (N5 _) (λp o g i=>?_)
  repeat refine aV ?_
  exact Rt.same ⟨_,g,rfl,rfl,i⟩
def qh(y l:bG):APure prog 111 [cZ y,.ro (bX l)] (bD (seq y.name l.name)):=by
 refine ap func111 ntmps111 λa=>?_
 repeat refine aV ?_
 refine Rt.pure (zM bD ?_);rfl
def K6{ρ:Operand->D}{σ:ae}{o:Oper}{x i:Operand}{m n:Int}(h:o.op= .lookup 215 x i true)(hx:ρ x= .gl 0)(c:ρ i= .v (.int .i64 m))(b:m=n)(a:0<=n/\n<=8) :
  Yd prog o ρ σ (.tup [Qz n,.v (.bool (gU n))]):=by subst b;exact G3 h hx c a
def MK{x:ak}(V:LC x){k:aq}{f:an}(c:k∈x.kz)(d:f∈k.fields):0<=f.kind/\f.kind<=8:=by
 have b:=V.kz k c;simp only[jK,zJ,yA]at b;have a:=b.2 f d;simp only[dV,zJ]at a;have h:=a.2;unfold fy at h
 repeat(split at h;omega)
 cases h
def aQ{A B:Prop}(k:B)(h:ar B->A:=by intro q7;(first|refine bh ?_|refine aE ?_|(refine' aj ?hc ?_;(case hc=>first|exact GI _ _|exact GJ _ _ _ _|exact ar5 _ _ _ _ _ _ _ _|exact HV|exact AT _ _ _ (by assumption) (by assumption)|exact FP _ _ (by assumption)|exact HC|exact AR _ _ _ (by assumption) (by assumption) (by assumption) (by assumption))));exact q7.1):A:=h ⟨k⟩
variable{p:Prop}
def Z1(h:p:=by
 have hcb:gU 3=false:=by rfl
 repeat' first|refine aQ ?_|intro b;conv=>whnf|refine bg.mk λy hy=>?_
 refine Ld.yd (La rfl rfl) ?_
 repeat' first|refine aQ ?_|intro b;conv=>whnf|refine bg.mk λy hy=>?_
 refine ce.yd rfl (K6 (n:=3) rfl rfl rfl hk9 (by omega)) ?_
 repeat' first|refine aQ ?_|intro b;conv=>whnf|refine bg.mk λy hy=>?_
 refine bu (Ak _ (L++am q (eu x)++one q (-1) (-1) (fz x q y)++am j (fU x q y)) _ _ _ _ _ _ (by assumption) (by(try simp only[zI]);omega)) (au8 _ _ _ _) (λs'=>_::_::_::s') (ao7 _ _ _) ?_;rintro _ _ ⟨v',s',rfl,rfl,hr'⟩
 repeat' first|refine aQ ?_|intro b;conv=>whnf|refine bg.mk λy hy=>?_
 exact⟨(j+1,v',s'),(ah aJ),bE,⟨by simp only;omega,by simp only;rw[hSF,←zV];first|exact hr'|(rw[he]at hr';exact hr')|(rw[hFL];exact hr')⟩,by simp only;omega⟩):p:=h
def Z0(h:p:=by
 have hcb:gU 2=false:=by rfl
 repeat' first|refine aQ ?_|intro b;conv=>whnf|refine bg.mk λy hy=>?_
 refine Ld.yd (La rfl rfl) ?_
 repeat' first|refine aQ ?_|intro b;conv=>whnf|refine bg.mk λy hy=>?_
 refine ce.yd rfl (K6 (n:=2) rfl rfl rfl hk9 (by omega)) ?_
 repeat' first|refine aQ ?_|intro b;conv=>whnf|refine bg.mk λy hy=>?_
 refine bu (Ak _ (L++am q (eu x)++one q (-1) (-1) (fz x q y)++am j (fU x q y)) _ _ _ _ _ _ (by assumption) (by(try simp only[zI]);omega)) (au8 _ _ _ _) (λs'=>_::_::_::s') (ao7 _ _ _) ?_;rintro _ _ ⟨v',s',rfl,rfl,hr'⟩
 repeat' first|refine aQ ?_|intro b;conv=>whnf|refine bg.mk λy hy=>?_
 exact⟨(j+1,v',s'),(ah aJ),bE,⟨by simp only;omega,by simp only;rw[hSF,←zV];first|exact hr'|(rw[he]at hr';exact hr')|(rw[hFL];exact hr')⟩,by simp only;omega⟩):p:=h
def ZZ(h:p:=by
 have hcb:gU 8=true:=by rfl
 repeat' first|refine aQ ?_|intro b;conv=>whnf|refine bg.mk λy hy=>?_
 refine Ld.yd (La rfl rfl) ?_
 repeat' first|refine aQ ?_|intro b;conv=>whnf|refine bg.mk λy hy=>?_
 refine ce.yd rfl (K6 (n:=8) rfl rfl rfl hk9 (by omega)) ?_
 repeat' first|refine aQ ?_|intro b;conv=>whnf|refine bg.mk λy hy=>?_
 refine bu (Ak _ (L++am q (eu x)++one q (-1) (-1) (fz x q y)++am j (fU x q y)) _ _ _ _ _ _ (by assumption) (by(try simp only[zI]);omega)) (au8 _ _ _ _) (λs'=>_::_::_::s') (ao7 _ _ _) ?_;rintro _ _ ⟨v',s',rfl,rfl,hr'⟩
 repeat' first|refine aQ ?_|intro b;conv=>whnf|refine bg.mk λy hy=>?_
 exact⟨(j+1,v',s'),(ah aJ),bE,⟨by simp only;omega,by simp only;rw[hSF,←zV];first|exact hr'|(rw[he]at hr';exact hr')|(rw[hFL];exact hr')⟩,by simp only;omega⟩):p:=h
def ZY(h:p:=by
 have hcb:gU 7=true:=by rfl
 repeat' first|refine aQ ?_|intro b;conv=>whnf|refine bg.mk λy hy=>?_
 refine Ld.yd (La rfl rfl) ?_
 repeat' first|refine aQ ?_|intro b;conv=>whnf|refine bg.mk λy hy=>?_
 refine ce.yd rfl (K6 (n:=7) rfl rfl rfl hk9 (by omega)) ?_
 repeat' first|refine aQ ?_|intro b;conv=>whnf|refine bg.mk λy hy=>?_
 refine bu (Ak _ (L++am q (eu x)++one q (-1) (-1) (fz x q y)++am j (fU x q y)) _ _ _ _ _ _ (by assumption) (by(try simp only[zI]);omega)) (au8 _ _ _ _) (λs'=>_::_::_::s') (ao7 _ _ _) ?_;rintro _ _ ⟨v',s',rfl,rfl,hr'⟩
 repeat' first|refine aQ ?_|intro b;conv=>whnf|refine bg.mk λy hy=>?_
 exact⟨(j+1,v',s'),(ah aJ),bE,⟨by simp only;omega,by simp only;rw[hSF,←zV];first|exact hr'|(rw[he]at hr';exact hr')|(rw[hFL];exact hr')⟩,by simp only;omega⟩):p:=h
def ZX(h:p:=by
 have hcb:gU 6=true:=by rfl
 repeat' first|refine aQ ?_|intro b;conv=>whnf|refine bg.mk λy hy=>?_
 refine Ld.yd (La rfl rfl) ?_
 repeat' first|refine aQ ?_|intro b;conv=>whnf|refine bg.mk λy hy=>?_
 refine ce.yd rfl (K6 (n:=6) rfl rfl rfl hk9 (by omega)) ?_
 repeat' first|refine aQ ?_|intro b;conv=>whnf|refine bg.mk λy hy=>?_
 refine bu (Ak _ (L++am q (eu x)++one q (-1) (-1) (fz x q y)++am j (fU x q y)) _ _ _ _ _ _ (by assumption) (by(try simp only[zI]);omega)) (au8 _ _ _ _) (λs'=>_::_::_::s') (ao7 _ _ _) ?_;rintro _ _ ⟨v',s',rfl,rfl,hr'⟩
 repeat' first|refine aQ ?_|intro b;conv=>whnf|refine bg.mk λy hy=>?_
 exact⟨(j+1,v',s'),(ah aJ),bE,⟨by simp only;omega,by simp only;rw[hSF,←zV];first|exact hr'|(rw[he]at hr';exact hr')|(rw[hFL];exact hr')⟩,by simp only;omega⟩):p:=h
def ZW(h:p:=by
 have hcb:gU 5=true:=by rfl
 repeat' first|refine aQ ?_|intro b;conv=>whnf|refine bg.mk λy hy=>?_
 refine Ld.yd (La rfl rfl) ?_
 repeat' first|refine aQ ?_|intro b;conv=>whnf|refine bg.mk λy hy=>?_
 refine ce.yd rfl (K6 (n:=5) rfl rfl rfl hk9 (by omega)) ?_
 repeat' first|refine aQ ?_|intro b;conv=>whnf|refine bg.mk λy hy=>?_
 refine bu (Ak _ (L++am q (eu x)++one q (-1) (-1) (fz x q y)++am j (fU x q y)) _ _ _ _ _ _ (by assumption) (by(try simp only[zI]);omega)) (au8 _ _ _ _) (λs'=>_::_::_::s') (ao7 _ _ _) ?_;rintro _ _ ⟨v',s',rfl,rfl,hr'⟩
 repeat' first|refine aQ ?_|intro b;conv=>whnf|refine bg.mk λy hy=>?_
 exact⟨(j+1,v',s'),(ah aJ),bE,⟨by simp only;omega,by simp only;rw[hSF,←zV];first|exact hr'|(rw[he]at hr';exact hr')|(rw[hFL];exact hr')⟩,by simp only;omega⟩):p:=h
def ZU(h:p:=by
 have hcb:gU 4=true:=by rfl
 repeat' first|refine aQ ?_|intro b;conv=>whnf|refine bg.mk λy hy=>?_
 refine Ld.yd (La rfl rfl) ?_
 repeat' first|refine aQ ?_|intro b;conv=>whnf|refine bg.mk λy hy=>?_
 refine ce.yd rfl (K6 (n:=4) rfl rfl rfl hk9 (by omega)) ?_
 repeat' first|refine aQ ?_|intro b;conv=>whnf|refine bg.mk λy hy=>?_
 refine bu (Ak _ (L++am q (eu x)++one q (-1) (-1) (fz x q y)++am j (fU x q y)) _ _ _ _ _ _ (by assumption) (by(try simp only[zI]);omega)) (au8 _ _ _ _) (λs'=>_::_::_::s') (ao7 _ _ _) ?_;rintro _ _ ⟨v',s',rfl,rfl,hr'⟩
 repeat' first|refine aQ ?_|intro b;conv=>whnf|refine bg.mk λy hy=>?_
 exact⟨(j+1,v',s'),(ah aJ),bE,⟨by simp only;omega,by simp only;rw[hSF,←zV];first|exact hr'|(rw[he]at hr';exact hr')|(rw[hFL];exact hr')⟩,by simp only;omega⟩):p:=h
def ZT(h:p:=by
 have hcb:gU 1=true:=by rfl
 repeat' first|refine aQ ?_|intro b;conv=>whnf|refine bg.mk λy hy=>?_
 refine Ld.yd (La rfl rfl) ?_
 repeat' first|refine aQ ?_|intro b;conv=>whnf|refine bg.mk λy hy=>?_
 refine ce.yd rfl (K6 (n:=1) rfl rfl rfl hk9 (by omega)) ?_
 repeat' first|refine aQ ?_|intro b;conv=>whnf|refine bg.mk λy hy=>?_
 refine bu (Ak _ (L++am q (eu x)++one q (-1) (-1) (fz x q y)++am j (fU x q y)) _ _ _ _ _ _ (by assumption) (by(try simp only[zI]);omega)) (au8 _ _ _ _) (λs'=>_::_::_::s') (ao7 _ _ _) ?_;rintro _ _ ⟨v',s',rfl,rfl,hr'⟩
 repeat' first|refine aQ ?_|intro b;conv=>whnf|refine bg.mk λy hy=>?_
 exact⟨(j+1,v',s'),(ah aJ),bE,⟨by simp only;omega,by simp only;rw[hSF,←zV];first|exact hr'|(rw[he]at hr';exact hr')|(rw[hFL];exact hr')⟩,by simp only;omega⟩):p:=h
def ZS(h:p:=by
 have hcb:gU 0=true:=by rfl
 repeat' first|refine aQ ?_|intro b;conv=>whnf|refine bg.mk λy hy=>?_
 refine Ld.yd (La rfl rfl) ?_
 repeat' first|refine aQ ?_|intro b;conv=>whnf|refine bg.mk λy hy=>?_
 refine ce.yd rfl (K6 (n:=0) rfl rfl rfl hk9 (by omega)) ?_
 repeat' first|refine aQ ?_|intro b;conv=>whnf|refine bg.mk λy hy=>?_
 refine bu (Ak _ (L++am q (eu x)++one q (-1) (-1) (fz x q y)++am j (fU x q y)) _ _ _ _ _ _ (by assumption) (by(try simp only[zI]);omega)) (au8 _ _ _ _) (λs'=>_::_::_::s') (ao7 _ _ _) ?_;rintro _ _ ⟨v',s',rfl,rfl,hr'⟩
 repeat' first|refine aQ ?_|intro b;conv=>whnf|refine bg.mk λy hy=>?_
 exact⟨(j+1,v',s'),(ah aJ),bE,⟨by simp only;omega,by simp only;rw[hSF,←zV];first|exact hr'|(rw[he]at hr';exact hr')|(rw[hFL];exact hr')⟩,by simp only;omega⟩):p:=h
def nt(x:ak)(HV:APure prog 108 [aw x] (iD (fD x))):APure prog 66 [aw x] (.sl 4 ((dJ x).map aS)):=by
 refine ap func66 ntmps66 λBB=>?_
 repeat' first|refine aQ ?_|intro b;conv=>whnf|refine bg.mk λy hy=>?_
 by_cases hv:fD x=0
 .have V:=lB hv;have hl:x.kz.length<=1000000:=by have:=V.nk;omega
  have u:∀k∈x.kz,k.fields.length<=1000000:=λk I=>by have:=V.nf k I;omega
  have E:x.lz.length<=1000000:=by have:=V.nl;omega
  have Z:x.rules.length<=1000000:=by have:=V.nr;omega
  have P:dJ x=am x.lz.length (my x)++am x.kz.length (eu x)++am x.rules.length (mZ x):=by unfold dJ;rw[if_pos hv]
  have hnk:=V.nk;have hnl:=V.nl;have hnr:=V.nr;have t:=V.nf;clear HV
  repeat' first|refine aQ ?_|intro b;conv=>whnf|refine bg.mk λy hy=>?_
  generalize b=C;refine jN mixed ai (γ:=Nat×Value×ae) (λg=>[(28,iD g.1)]) (λg=>(C,.cells 154 [.v g.2.1])::g.2.2) (λg=>g.1<=x.lz.length/\ab 156 4 ((am g.1 (my x)).map aS) g.2.1 g.2.2) (λg=>x.lz.length-g.1) (0,.slice none 0 0,[]) (ah aJ) bE ⟨zW _,ab.nil _ _⟩ ?_;rintro⟨q,v,s⟩ ⟨o,w⟩;simp only at o w⊢
  repeat' first|refine aQ ?_|intro b;conv=>whnf|refine bg.mk λy hy=>?_|(refine aZ ?_;constructor<;>intro hc)
  .have hy:x.lz[q]?=some y:=hy;have S:=gE q (my x);have T:=fa (aF5 x) q;rw[show my x q=one (-1) q (-1) (if KO x q y then 7 else 0) by simp only[my,hy]]at S;have U:APure prog 110 [.sl 3 ((x.lz.map bX).take q),.clo 111 [.ro (bX y)]] (bD (KO x q y)):=by
    rw[←vR];exact be2 (x.lz.take q) (λs=>seq s.name y.name) (by simp;omega) (λz _=>qh z y)
   refine CE.pk (iK.peek (.cons (Pk.same _) (.cons (Pk.clo (.cons (Pk.ptr (j:=0) rfl (kf.refl _)) .nil)) .nil)) U rfl) ?_;clear U
   repeat' first|refine aQ ?_|intro b;conv=>whnf|refine bg.mk λy hy=>?_
   refine bu (Ak _ (am q (my x)) _ _ _ _ _ _ (by assumption) (by(try simp only[zI]);omega)) (GN _ _) (λs'=>_::s') (N5 _) ?_;rintro _ _ ⟨v',s',rfl,rfl,hr'⟩;rw[QQ,←S]at hr'
   repeat' first|refine aQ ?_|intro b;conv=>whnf|refine bg.mk λy hy=>?_
   exact⟨(q+1,v',s'),(ah aJ),bE,⟨by simp only;omega,hr'⟩,by simp only;omega⟩
  .obtain rfl:q=x.lz.length:=by omega
   have G:=fa (aF5 x) x.lz.length;generalize hL:am x.lz.length (my x)=L at *;refine jN mixed ai (γ:=Nat×Value×ae) (λg=>[(50,iD g.1)]) (λg=>(C,.cells 154 [.v g.2.1])::g.2.2) (λg=>g.1<=x.kz.length/\ab 156 4 ((L++am g.1 (eu x)).map aS) g.2.1 g.2.2) (λg=>x.kz.length-g.1) (0,v,s) (ah aJ) bE ⟨zW _,by simpa [am]using w⟩ ?_;rintro⟨q,v,s⟩ ⟨o,w⟩;simp only at o w⊢;have F:=fa (λi=>kM x i t) q
   repeat' first|refine aQ ?_|intro b;conv=>whnf|refine bg.mk λy hy=>?_|(refine aZ ?_;constructor<;>intro hc)
   .have hy:x.kz[q]?=some y:=hy;have Y:=t y (zG hy);have X:y.fields.length<=1000000:=by omega
    have ho1:=Ad q (-1) (-1) (fz x q y);have K:=gE q (eu x);rw[show eu x q=one q (-1) (-1) (fz x q y)++am y.fields.length (fU x q y) by simp only[eu,hy]]at K;refine bu (Ak _ (L++am q (eu x)) _ _ _ _ _ _ (by assumption) (by(try simp only[zI]);omega)) (GN _ _) (λs'=>_::s') (N5 _) ?_;rintro _ _ ⟨v',s',rfl,rfl,hr'⟩
    repeat' first|refine aQ ?_|intro b;conv=>whnf|refine bg.mk λy hy=>?_
    refine jN mixed ai (γ:=Nat×Value×ae) (λg=>[(64,iD g.1)]) (λg=>(b,.cells 78 (aD y))::(C,.cells 154 [.v g.2.1])::g.2.2) (λg=>g.1<=y.fields.length/\ab 156 4 ((L++am q (eu x)++one q (-1) (-1) (fz x q y)++am g.1 (fU x q y)).map aS) g.2.1 g.2.2) (λg=>y.fields.length-g.1) (0,v',s') (ah aJ) bE ⟨zW _,by simpa [am]using hr'⟩ ?_;generalize b=b10;rintro⟨j,v,s⟩ ⟨hj,a⟩;simp only at hj a⊢;have l:=fa (ax0 x q y) j;have hSF:=gE j (fU x q y);by_cases hjl:j<y.fields.length
    .obtain⟨f,e⟩:∃f,y.fields[j]?=some f:=⟨_,zD hjl⟩
     have O:fieldAt x q j=some f:=by rw[K9 (by omega) (by omega) hy];exact e
     rw[show fU x q y j=one q j (-1) (m' x q y j f) by simp only[fU,e]]at hSF;have hk8:=MK V (zG hy) (zG e);have J:∀k∈x.kz,∀g∈k.fields,0<=g.kind/\g.kind<=8:=λk I g hg=>MK V I hg;have R:y.fields[((j:Nat):Int).toNat]?=some f:=e;have hk9:f.kind=0\/f.kind=1\/f.kind=2\/f.kind=3\/f.kind=4\/f.kind=5\/f.kind=6\/f.kind=7\/f.kind=8:=by omega
     by_cases hfx:bb y f.name<(j:Int)
     .have he:j7 [(decide (bb y f.name<(j:Int)),7)]=7:=by rw[QQ,if_pos (yJ hfx)]
      have Q:m' x q y j f=7:=by unfold m';rw[if_pos hfx]
      rw[Q]at hSF;rcases hk9 with hk9|hk9|hk9|hk9|hk9|hk9|hk9|hk9|hk9
      .exact ZS
      .exact ZT
      .exact Z0
      .exact Z1
      .exact ZU
      .exact ZW
      .exact ZX
      .exact ZY
      .exact ZZ
     .have he:j7 [(decide (bb y f.name<(j:Int)),7)]=0:=by rw[QQ,if_neg (by simp;omega)]
      have hFL:m' x q y j f=cP x q j f:=by unfold m';rw[if_neg hfx]
      rcases hk9 with hk9|hk9|hk9|hk9|hk9|hk9|hk9|hk9|hk9
      .have HC:=vu x q j f hk9;exact ZS
      .have HC:=vt x q j f hl u hk9;exact ZT
      .have HC:cP x q j f=0:=by unfold cP;simp[hk9]
       rw[hFL,HC]at hSF;clear hFL HC;exact Z0
      .have HC:cP x q j f=0:=by unfold cP;simp[hk9]
       rw[hFL,HC]at hSF;clear hFL HC;exact Z1
      .have HC:=vr x q j f hl u O hk9;exact ZU
      .have HC:=vq x q j f E hk9;exact ZW
      .have HC:=vp x q j f (by omega) hl u hk9;exact ZX
      .have HC:=vo x q j f hl u hk9;exact ZY
      .have HC:=vm x q j f hl u J hk9;exact ZZ
    .obtain rfl:j=y.fields.length:=by omega
     repeat' first|refine aQ ?_|intro b;conv=>whnf|refine bg.mk λy hy=>?_|(refine aZ ?_;constructor<;>intro hc)
     exact⟨(q+1,v,s),(ah aJ),bE,⟨by simp only;omega,by simp only;rw[K];simp only[zV]at a⊢;exact a⟩,by simp only;omega⟩
   .obtain rfl:q=x.kz.length:=by omega
    generalize hM:am x.kz.length (eu x)=M at *;refine jN mixed ai (γ:=Nat×Value×ae) (λg=>[(108,iD g.1)]) (λg=>(C,.cells 154 [.v g.2.1])::g.2.2) (λg=>g.1<=x.rules.length/\ab 156 4 ((L++M++am g.1 (mZ x)).map aS) g.2.1 g.2.2) (λg=>x.rules.length-g.1) (0,v,s) (ah aJ) bE ⟨zW _,by simpa [am]using w⟩ ?_;rintro⟨q,v,s⟩ ⟨o,a⟩;simp only at o a⊢;have l:=fa (bg0 x) q;have S:=gE q (mZ x);by_cases hql:q<x.rules.length
    .obtain⟨r,D⟩:∃r,x.rules[q]?=some r:=⟨_,zD hql⟩
     rw[show mZ x q=one (-1) (-1) q (j5 x q r) by simp only[mZ,D]]at S
     repeat' first|refine aQ ?_|intro b;conv=>whnf|refine bg.mk λy hy=>?_
     refine bu (Ak _ (L++M++am q (mZ x)) _ _ _ _ _ _ (by assumption) (by(try simp only[zI]);omega)) (bR _) (λs'=>s') dF ?_;rintro _ _ ⟨v',s',rfl,rfl,hr'⟩
     repeat' first|refine aQ ?_|intro b;conv=>whnf|refine bg.mk λy hy=>?_
     exact⟨(q+1,v',s'),(ah aJ),bE,⟨by simp only;omega,by simp only;rw[S,←zV];exact hr'⟩,by simp only;omega⟩
    .obtain rfl:q=x.rules.length:=by omega
     rw[P]
     repeat' first|refine aQ ?_|intro b;conv=>whnf|refine bg.mk λy hy=>?_|(refine aZ ?_;constructor<;>intro hc)
     exact Rt.by (Vs.trans (Vs.drop (yG _ _)) (Vs.row a (bR _))) rfl
 .have P:dJ x=[(-1,-1,-1,fD x)]:=by unfold dJ;rw[if_neg hv]
  rw[P]
  repeat' first|refine aQ ?_|intro b;conv=>whnf|refine bg.mk λy hy=>?_|(refine aZ ?_;constructor<;>intro hc)
  exact Rt.same rfl
end
section
open Go Go.Maps Go.MapKept
def GE(b:Bool)(e:Int):APure prog 40 [bD b,iD e] (iD (if b=true then e else 0)):=by
 refine ap func40 ntmps40 λa=>?_
 cases b
 .repeat refine aV ?_
  refine Rt.pure (zM iD ?_);rfl
 .repeat refine aV ?_
  refine Rt.pure (zM iD ?_);rfl
def gj(x:ak)(w:Wd)(L:List Rf)(r l:Nat)(v:Value):List D:=[iD x.vz,kq x.kz,iM x.lz,jI x.rules,fI w,gM L,.v (.map (some r)),.v (.map (some l)),.v v]
def Sl(x:ak)(w:Wd)(L:List Rf)(r n c:Nat)(l:List eZ)(v:Value)(s:ae)(k i f e:Int)(u:ab 108 4 (l.map aS) v s)(hl:l.length<=100000000) :
  az prog 39 [.v (.pointer (some ⟨c,0,none⟩)),iD k,iD i,iD f,.sl 1 [[iD e]]] ((c,.cells 122 (gj x w L r n v))::s)
   (λd σ'=>∃t j,d= .v (.tuple #[])/\σ'=(c,.cells 122 (gj x w L r n t))::j/\ab 108 4 ((l++one k i f e).map aS) t j):=by
 obtain⟨a,z,rfl⟩:=u.slice;refine dB func39 ntmps39 λE=>?_
 repeat refine aV ?_
 refine aO mixed ai (γ:=Nat×Value×ae) (λg=>[(14,iD g.1)]) (λg=>(c,.cells 122 (gj x w L r n g.2.1))::g.2.2) (λg=>g.1<=1/\ab 108 4 ((l++(if g.1=0 then[]else one k i f e)).map aS) g.2.1 g.2.2) (λg=>1-g.1) (0,.slice a (l.map aS).length z,s) (ah aJ) (Sc.refl _) ⟨by simp,by simpa using u⟩ ?_;rintro⟨q,v,s⟩ ⟨y,b⟩;simp only at y b⊢;by_cases h0:q=0
 .subst h0;simp only[if_true,zZ]at b
  repeat' first|refine aV ?_|(refine aZ ?_;constructor<;>intro hc)
  .exact⟨(1,v,s),(ah aJ),Sc.refl _,⟨by simp,by
    simp only[show(1:Nat)≠0 by decide,uC];unfold one;rw[if_pos (by omega)];simpa using b⟩,by simp only;omega⟩
  .refine Ap.go rfl rfl rfl rfl b (GN _ _) rfl (zs:=(l++one k i f e).map aS) (by unfold one;rw[if_neg (by omega)];simp[aS]) (by simp[one];split<;>simp<;>omega) (by simp[one];split<;>simp<;>omega) (λj=>_::j) (N5 _) (λD C j o=>?_)
   repeat refine aV ?_
   exact⟨(1,_,j),(ah aJ),Sc.refl _,⟨by simp,by simpa using o⟩,by simp only;omega⟩
 .obtain rfl:q=1:=by omega
  repeat refine aV ?_
  exact Rt.same ⟨v,s,rfl,rfl,by simpa using b⟩
noncomputable def KF (k:List Int):Value->Option Value
 |.int .i64 n=>if n∈k then some (.bool true)else none
 |_=>none
def Rz:KF []=λ_=>none:=by
 funext v
 unfold KF;split<;>simp
def LK(k:List Int)(n:Int):dC (KF k) (.int .i64 n) (.bool true)=KF (n::k):=by
 funext v
 unfold dC;split
 .rename_i h;subst h;simp[KF]
 .rename_i h;unfold KF;split
  .rename_i m;have:m≠n:=λe=>h (by rw[e]);simp[this]
  .rfl
def RA(k:List Int)(n:Int):((KF k) (.int .i64 n)).getD (.bool false)= .bool (decide (n∈k)):=by
 unfold KF;by_cases h:n∈k<;>simp[h]
def vb(w:World):(zeroValue 4).run prog w= .ok (.bool false) w:=by kernel_rfl
variable{A B:Prop}
def BA(k:B)(h:ar B->A:=by intro q7;(first|refine bh ?_|refine aE ?_|(refine' aj ?hc ?_;(case hc=>exact GE _ _)));exact q7.1):A:=h ⟨k⟩
def rS(n:Int)(d:an):APure prog 73 [iD n,.ro (aA d)] (iD (fM n d.lo d.hi)):=by
 refine ap func73 ntmps73 λa=>?_;unfold fM;by_cases h1:n<d.lo
 .rw[if_pos (.inl h1)]
  repeat refine BA ?_
  refine Rt.pure (zM iD ?_);rfl
 .by_cases h2:d.hi<n
  .rw[if_pos (.inr h2)]
   repeat refine BA ?_
   refine Rt.pure (zM iD ?_);simp[h2]
  .rw[if_neg (by omega)]
   repeat refine BA ?_
   refine Rt.pure (zM iD ?_);simp[h2]
def bq8(k:B)(h:ar B->A:=by intro q7;(first|refine bh ?_|refine zw ?_|(refine' aj ?hc ?_;(case hc=>first|exact GE _ _|exact HC)));exact q7.1):A:=h ⟨k⟩
def bq7(k:B)(h:ar B->A:=by intro q7;(first|refine bh ?_|refine aE ?_|(refine' aj ?hc ?_;(case hc=>first|exact GE _ _|exact HC)));exact q7.1):A:=h ⟨k⟩
end
section
open Go Go.Maps Go.MapKept
def PC(n:Int):APure prog 71 [iD n] (bD (!dE n)):=by
 refine ap func71 ntmps71 λa=>?_
 repeat' first|refine aV ?_|(refine aZ ?_;constructor<;>intro hc)
 .refine Rt.pure (zM bD ?_);unfold dE;simp;omega
 .refine Rt.pure (zM bD ?_);unfold dE;simp;omega
variable{f:FuncId}
def PZ(l:List Int)(p:Int->Bool)(hl:l.length<=1000000)(hp:∀y∈l,APure prog f [iD y] (bD (p y))):APure prog 117 [bv l,.v (.func (.func f) #[] #[])] (iD (idx p l)):=by
 refine ap func117 ntmps117 λa=>?_;exact rO
variable{A B:Prop}
def TT(k:B)(h:ar B->A:=by intro q7;(first|refine bh ?_|refine aE ?_|(refine' aj ?hc ?_;(case hc=>exact PZ l p hl hp)));exact q7.1):A:=h ⟨k⟩
def KT(l:List Int)(p:Int->Bool)(hl:l.length<=1000000)(hp:∀y∈l,APure prog f [iD y] (bD (p y))):APure prog 70 [bv l,.v (.func (.func f) #[] #[])] (bD (l.any p)):=by
 refine ap func70 ntmps70 λa=>?_
 repeat refine TT ?_
 refine Rt.pure (zM bD ?_);exact uK p l
def Mh(k:B)(h:ar B->A:=by intro q7;(first|refine bh ?_|refine aE ?_|(refine' aj ?hc ?_;(case hc=>exact KT _ _ (by assumption) (λy _=>PC y))));exact q7.1):A:=h ⟨k⟩
def vJ:=@List.all_eq_not_any_not
def PB(x:ak)(k:Nat)(kd:aq)(r:List Int)(a:x.kz[k]?=some kd)(h1:x.kz.length<=1000000)(h2:r.length<=1000000):APure prog 69 [bv r,.ro (du x),.ro [iD k]] (bD (!dT x k r)):=by
 have b:x.kz[((k:Nat):Int).toNat]?=some kd:=a;have q:=(zE.1 a).1;have E:(r.any λn=>!dE n)=!r.all dE:=by rw[vJ];simp
 have R:dT x k r=(decide (r.length=kd.fields.length)&&r.all dE):=by unfold dT tZ;rw[a]
 refine ap func69 ntmps69 λe=>?_;by_cases hl:r.length=kd.fields.length
 .repeat refine Mh ?_
  refine Rt.pure (zM bD ?_);rw[R,E];simp[hl]
 .repeat refine Mh ?_
  refine Rt.pure (zM bD ?_);rw[R];simp[hl]
def Yz{c1 c2:List D}(l:List (List Int))(p:List Int->Bool)(hl:l.length<=1000000)(hp:∀y∈l,APure prog f [bv y,.ro c1,.ro c2] (bD (p y))):APure prog 116 [gc l,.clo f [.ro c1,.ro c2]] (iD (idx p l)):=by
 refine ap func116 ntmps116 λa=>?_;exact rO
def TS(k:B)(h:ar B->A:=by intro q7;(first|refine bh ?_|refine aE ?_|(refine' aj ?hc ?_;(case hc=>exact Yz l p hl hp)));exact q7.1):A:=h ⟨k⟩
def QU{c1 c2:List D}(l:List (List Int))(p:List Int->Bool)(hl:l.length<=1000000)(hp:∀y∈l,APure prog f [bv y,.ro c1,.ro c2] (bD (p y))):APure prog 68 [gc l,.clo f [.ro c1,.ro c2]] (bD (l.any p)):=by
 refine ap func68 ntmps68 λa=>?_
 repeat refine TS ?_
 refine Rt.pure (zM bD ?_);exact uK p l
def Ju(l:List bG):APure prog 72 [iM l] (.clo 118 [.ro [iM l]]):=by
 refine ap func72 ntmps72 λa=>?_
 repeat refine aV ?_
 exact Rt.pure rfl
end
section
open Go Go.RowKit Go.Shelf
attribute [local go_sem] Oper.semAt_some
def uA:=@Nat.eq_zero_or_pos
theorem KA(n:Nat)(hn:n<=1000)(l:Nat)(O:Nat->Prop)(J Jx:Nat->World->Prop)(W:World)(b0 o0:Nat)(ad:Option Addr)(cap:Nat)(va:Nat->Nat->Value)
  (h0b:¬O b0/\b0<W.heap.size) (h0:W.cell? ⟨b0,o0,none⟩=some (.slice ad n cap))
  (h1:∀(k:Nat),k<n->∃b off,ad=some ⟨b,off,none⟩/\¬O b/\b<W.heap.size/\∀j,j<3->W.cell? ⟨b,off+k*3+j,none⟩=some (va k j))
  (hY:∀(k j:Nat)W1,k+j+1=n->J k W1->YieldAt Fence.wide 7 prog l #[.int .i64 (j:Nat),.agg #[va j 0,va j 1,va j 2]] W1 λe W'=>
    (e= .returned (.bool true)/\J (k+1) W'/\W1.heap.size<=W'.heap.size/\∀b,b<W.heap.size->¬O b->W'.heap[b]?=W1.heap[b]?)\/(e= .returned (.bool false)/\Jx (k+1) W'))
  (hJ:J 0 W):CallsIn Fence.wide 8 prog 118 #[.func (.yield l) #[] #[],.pointer (some ⟨b0,o0,none⟩)] W λe W'=>∃v,e= .returned v/\(J n W'\/∃k,Jx k W'):=by
 refine callsIn_of_wp func118 rfl trivial ?_ rfl;simp only[ntmps118,List.size_toArray,List.length_cons,List.length_nil,Nat.reduceAdd,Nat.reduceSub,Array.replicate_succ,Array.replicate_zero,List.push_toArray,List.append_toArray,List.nil_append,List.cons_append];have cellK:∀(wr:World),(∀b,b<W.heap.size->¬O b->wr.heap[b]?=W.heap[b]?)->∀(b o:Nat)(v:Value),b<W.heap.size->¬O b->W.cell? ⟨b,o,none⟩=some v->wr.cell? ⟨b,o,none⟩=some v:=
  λwr h b o v hb hn hc=>(World.cell?_of_block (w:=W) (a:=⟨b,o,none⟩) (h b hb hn)).trans hc
 gi_wp2
 gi_loopw [3] (λi wr=>∃k:Nat,((∃j:Nat,k+j+1=n/\i= .int .i64 j)\/(k=n/\i= .int .i64 (-1)))/\J k wr/\W.heap.size<=wr.heap.size/\∀b,b<W.heap.size->¬O b->wr.heap[b]?=W.heap[b]?) (λi _=>(intOf i+1).toNat)
 case atStart=>
  refine⟨0,?_,hJ,zT _,λ_ _ _=>rfl⟩;rcases uA n with e|e
  .exact .inr ⟨e.symm,by subst e;rfl⟩
  .exact .inl ⟨n-1,by omega,by congr 1;omega⟩
 case round=>
  obtain⟨k,hi,hJs,hzs,hks⟩:=hrel;rcases hi with⟨j,hj,rfl⟩|⟨rfl,rfl⟩
  .obtain⟨b,off,rfl,hb1,hb2,hb3⟩:=h1 j (by omega);have hs0:=cellK wr hks b0 o0 _ h0b.2 h0b.1 h0;have hc0:wr.cell? ⟨b,off+j*3,none⟩=some (va j 0):=cellK wr hks b (off+j*3+0) _ hb2 hb1 (hb3 0 (by omega));have hc1:=cellK wr hks b (off+j*3+1) _ hb2 hb1 (hb3 1 (by omega));have hc2:=cellK wr hks b (off+j*3+2) _ hb2 hb1 (hb3 2 (by omega));obtain⟨fn,tmps,assign,body,hy,hR⟩:=hY k j wr hj hJs
   gi_wp2
   refine hR.mono ?_;rintro e W3 (⟨rfl,hJ3,hz3,hk3⟩|⟨rfl,hJx3⟩)
   .gi_wp2
    go_roundw
    case rel=>
     refine⟨k+1,?_,hJ3,xH hzs hz3,λb hb hn=>(hk3 b hb hn).trans (hks b hb hn)⟩;rcases uA j with e|e
     .exact .inr ⟨by omega,by subst e;rfl⟩
     .exact .inl ⟨j-1,by omega,by congr 1;omega⟩
    case measure=>simp[intOf]
   .gi_wp2
    refine bodyPost_ret (results_none rfl _ _ _) rfl ?_;exact⟨_,rfl,.inr ⟨_,hJx3⟩⟩
  .gi_wp2
   go_end0
   exact⟨_,rfl,.inl hJs⟩
def NJ(l:List bG)(j:Nat):List D:=match l[j]? with
 |some x=>[iD j,cZ x]
 |none=>[]
def ic(l:List bG):List (List D):=((List.range l.length).reverse).map (NJ l)
def aT1(l:List bG):(ic l).length=l.length:=by simp[ic]
def aT2{l:List bG}{k:Nat}{x:List D}(h:(ic l)[k]?=some x):∃(j:Nat)(y:bG),k+j+1=l.length/\l[j]?=some y/\x=[iD j,cZ y]:=by
 have b:=(zE.1 h).1;rw[aT1]at b;unfold ic at h;rw[qA,vS (by simpa using b),vU,xV (by omega)]at h;simp only[Option.map_some,xB]at h;obtain⟨y,a⟩:∃y,l[l.length-1-k]?=some y:=⟨_,zD (by omega)⟩
 exact⟨l.length-1-k,y,by omega,a,by rw[←h];unfold NJ;rw[a]⟩
def yj(l:List bG)(G:l.length<=1000):Gk prog 118 [.ro [iM l]] (ic l):=by
 refine⟨enters_of func118 (by kernel_rfl) rfl,λO W r n=>?_⟩
 cases r with
 |nil=>have:=n.len;simp at this
 |cons u r=>
  have:r=[]:=by have:=n.len;simpa using this
  subst this;obtain⟨X,F,D,rfl,U,T,S,R⟩:=(n.at_ 0 _ u rfl rfl).ro_inv;obtain⟨Z,A,g,V,B,I,w,m⟩:=(R 0 _ rfl).sl_inv;have c:=S 0 (by simp);rw[V,zL]at c;refine⟨((List.range l.length).reverse).map λj=>[.int .i64 (j:Nat),.agg #[g j 0,g j 1,g j 2]],by simp[ic],λk x vs hx o=>?_,λq J Jx N C Y P=>?_⟩
  .obtain⟨j,y,h1,Q,rfl⟩:=aT2 hx;have t:k<l.length:=by omega
   rw[qA,vS (by simpa using t),vU,xV (by omega)]at o;simp only[Option.map_some,xB]at o;have L:l.length-1-k=j:=by omega
   rw[L]at o;subst o;have s:(l.map bX)[j]?=some (bX y):=by rw[qA,Q];rfl
   refine .cons (.v _) (.cons (Rd.agg (bX y) [g j 0,g j 1,g j 2] rfl λi d u f a=>?_) .nil)
   match i,f,a with
   |0,f,a=>cases a;exact m j _ s 0 d f
   |1,f,a=>cases a;exact m j _ s 1 d f
   |2,f,a=>cases a;exact m j _ s 2 d f
   |i+3,f,a=>simp at a
  .refine CallsIn.mono (KA l.length G q O J Jx W X F Z A g ⟨U,T⟩ (by simpa using c) (λk K=>?_) (λk j W1 H z=>Y k _ W1 ?_ z) P) (λe W' h=>by rw[aT1];simpa using h)
   .obtain⟨b,p,M,f,a,E⟩:=w k (bX l[k]) (by rw[qA,zD K];rfl);exact⟨b,p,M,f,a,E⟩
   .rw[qA,vS (by simp;omega),vU,xV (by omega)];simp only[Option.map_some,xB];rw[show l.length-1-k=j by omega]
end
end Go.Proofs.YtilnpcolgcmofaaGreatDoor
