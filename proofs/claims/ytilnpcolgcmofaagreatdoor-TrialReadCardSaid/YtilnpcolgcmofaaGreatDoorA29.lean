/- A part of the proof: Dq Dr Ds Dt Du Dv. -/
import Derived.Test.YtilnpcolgcmofaaGreatDoorA28
set_option maxRecDepth 100000
set_option maxHeartbeats 20000000
set_option linter.all false
namespace Go.Proofs.YtilnpcolgcmofaaGreatDoor
open Tryz
section
open Go
structure dz where
 kind:ByteArray
 field:ByteArray
 value:Int
 many:Int
 each:Int
abbrev yk(y:dz):List D:=[sD y.kind,sD y.field,iD y.value,iD y.many,iD y.each]
abbrev ptD(y:dz):D:=.agg (yk y)
abbrev NB(l:List dz):D:=.sl 5 (l.map yk)
structure eJ where
 seed:List Nat
 counts:List Int
 plants:List dz
abbrev tO(p:eJ):List D:=[cX p.seed,bj p.counts,NB p.plants]
abbrev eE(p:eJ):D:=.agg (tO p)
structure lT(y:dz):Prop where
 v:-4194304<=y.value/\y.value<=4194304
 m:1<=y.many/\y.many<=2
 e:1<=y.each/\y.each<=3
structure gd(p:eJ):Prop where
 sd:gb p.seed
 cs:cN p.counts
 n:p.plants.length<=2
 v:∀y∈p.plants,lT y
def cF(x:ak)(y:dz):Int×Int:=match dw x (bf x y.kind)with
 |some k=>if a7 k y.field<0 then(-1,-1)else(bf x y.kind,a7 k y.field)
 |none=>(-1,-1)
theorem C4{x:ak}{i:Nat}{k:au}(h:x.kz[i]?=some k):dw x (i:Int)=some k:=by simp[dw,h]
theorem Sz{A B:Prop}(k:B)(h:ar B->A:=by intro q7;(first|refine bO ?_|refine aA ?_|(refine' ah ?hc ?_;(case hc=>first|exact HK|exact HF)));exact q7.1):A:=h ⟨k⟩
theorem Ei{p:Prop}(h:p:=by
 refine ap func101 ntmps101 λBB=>?_
 repeat refine Sz ?_
 exact Rt.pure rfl):p:=h
theorem ZG(x:ak)(h:o5 x)(y:dz):APure prog 101 [ax x,ptD y] (.tup [iD (cF x y).1,iD (cF x y).2]):=by
 have b:=h.nk;have HK:=EX x y.kind (by omega);have l:=ZF x y.kind;unfold cF;by_cases hn:bf x y.kind<0
 .have e:dw x (bf x y.kind)=none:=by unfold dw;rw[if_neg (by omega)]
  rw[e];exact Ei
 .obtain⟨k,g⟩:∃k:Nat,bf x y.kind=k:=⟨(bf x y.kind).toNat,by omega⟩
  rw[g]at HK l⊢;obtain⟨kd,a⟩:∃kd,x.kz[k]?=some kd:=⟨_,zD (by omega)⟩
  have f:x.kz[((k:Nat):Int).toNat]?=some kd:=a;rw[C4 a];have HF:=xu kd y.field (by have:=h.nf kd (zG a);omega);by_cases hf:a7 kd y.field<0
  .simp only[if_pos hf];exact Ei
  .simp only[if_neg hf];exact Ei
theorem DN{x:ak}{y:dz}(h:0<=(cF x y).1):∃(k f:Nat)(kd:au)(d:am),cF x y=((k:Int),(f:Int))/\x.kz[k]?=some kd/\kd.fields[f]?=some d:=by
 unfold cF at *
 cases a:dw x (bf x y.kind)with
 |none=>rw[a]at h;simp at h
 |some kd=>
  rw[a]at h;simp only at h⊢;by_cases hf:a7 kd y.field<0
  .rw[if_pos hf]at h;simp at h
  .rw[if_neg hf]at h⊢;unfold dw at a;rw[if_pos h]at a;have b:a7 kd y.field<kd.fields.length:=FK _ _;exact⟨(bf x y.kind).toNat,(a7 kd y.field).toNat,kd,kd.fields[(a7 kd y.field).toNat]'(by omega),by simp;omega,a,zD _⟩
def dU(x:ak)(l:List dz)(k f:Int)(q:Nat):List Int:=((List.range q).filter λi=>match l[i]? with|some y=>decide ((cF x y).1=k)&&decide ((cF x y).2=f)|none=>false).map λ(i:Nat)=>(i:Int)
theorem Cn{x:ak}{l:List dz}{k f:Int}{q:Nat}{y:dz}(h:l[q]?=some y):dU x l k f (q+1)=dU x l k f q++(if(cF x y).1=k/\(cF x y).2=f then[(q:Int)]else[]):=by
 unfold dU;rw[List.range_succ,vZ,yB]
 congr 1
 by_cases e:(cF x y).1=k/\(cF x y).2=f
 .rw[if_pos e];simp[h,e.1,e.2]
 .rw[if_neg e];have:(decide ((cF x y).1=k)&&decide ((cF x y).2=f))=false:=by
   rw[Bool.and_eq_false_iff,xF,xF];omega
  simp[h,this]
theorem Q3{x:ak}{l:List dz}{k f:Int}{q:Nat}{n:Int}(h:n∈dU x l k f q):∃(i:Nat)(y:dz),n=i/\i<q/\l[i]?=some y/\(cF x y).1=k/\(cF x y).2=f:=by
 unfold dU at h;obtain⟨i,c,rfl⟩:=xM.1 h;obtain⟨d,a⟩:=vP.1 c
 cases b:l[i]? with
 |none=>rw[b]at a;simp at a
 |some y=>
  rw[b]at a;simp only[zJ,zQ]at a;exact⟨i,y,rfl,xT.1 d,b,a.1,a.2⟩
theorem JI(x:ak)(l:List dz)(k f:Int)(q:Nat):(dU x l k f q).length<=q:=by
 unfold dU;rw[zL];exact xH (List.length_filter_le _ _) (by simp)
theorem Sy{A B:Prop}(k:B)(h:ar B->A:=by intro q7;(first|refine bO ?_|refine gX ?_|(refine' ah ?hc ?_;(case hc=>exact HF)));exact q7.1):A:=h ⟨k⟩
theorem Mf{p:Prop}(h:p:=by
 rw[←hsn]at hr
 repeat refine rZ ?_
 exact⟨(i+1,v,s),(aj av),Sc.refl _,⟨by simp only;omega,hr⟩,by simp only;omega⟩):p:=h
theorem Qd(x:ak)(h:o5 x)(l:List dz)(hl:l.length<=100)(k f:Int):APure prog 104 [ax x,NB l,iD k,iD f] (bj (dU x l k f l.length)):=by
 refine ap func104 ntmps104 λq=>?_
 repeat refine Sy ?_
 refine aR mixed ai (γ:=Nat×Value×af) (λg=>[(10,iD g.1),(9,.v g.2.1)]) (λg=>g.2.2) (λg=>g.1<=l.length/\RI (dU x l k f g.1) g.2.1 g.2.2) (λg=>l.length-g.1) (0,.slice none 0 0,[]) (aj av) (Sc.refl _) ⟨zW _,ae.nil _ _⟩ ?_;rintro⟨i,v,s⟩ ⟨hi,hr⟩;simp only at hi hr⊢;by_cases hil:i<l.length
 .obtain⟨y,a⟩:∃y,l[i]?=some y:=⟨_,zD hil⟩
  have hy:l[((i:Nat):Int).toNat]?=some y:=a;have HF:=ZG x h y;have hsn:=Cn (x:=x) (k:=k) (f:=f) a;have b:=JI x l k f (i+1);by_cases e1:(cF x y).1=k
  .by_cases e2:(cF x y).2=f
   .rw[if_pos ⟨e1,e2⟩]at hsn
    repeat refine rZ ?_
    refine Ap.go rfl rfl rfl rfl hr (bS _) rfl (zs:=(dU x l k f (i+1)).map λn=>[iD n]) (by rw[hsn,yB];rfl) (by rw[zL];omega) (by rw[zL];omega) (λs'=>s') da (λo j s' hr=>?_)
    repeat refine rZ ?_
    exact tr
   .rw[if_neg (λe=>e2 e.2),zZ]at hsn;exact Mf
  .rw[if_neg (λe=>e1 e.1),zZ]at hsn;exact Mf
 .obtain rfl:i=l.length:=by omega
  repeat refine rZ ?_
  exact Rt.vs (Vs.row hr (bS _))
def mn(l:List dz)(n:Int):Int:=match l[n.toNat]? with|some y=>y.many*y.each|none=>0
def cg(l:List dz)(set:List Int):Int:=(set.map (mn l)).sum
theorem D7{p:Prop}(h:p:=by
 have:y.many=1\/y.many=2:=by omega
 rcases this with e|e<;>rw[e]<;>omega):p:=h
theorem rM{l:List dz}(h:∀y∈l,lT y)(n:Int):0<=mn l n/\mn l n<=6:=by
 unfold mn;split
 .rename_i y a;have:=h y (zG a);have m:=this.m;have b:=this.e;exact D7
 .omega
theorem FL{l:List dz}(h:∀y∈l,lT y):∀(set:List Int),0<=cg l set/\cg l set<=6*(set.length:Int)
 |[]=>by simp[cg]
 |n::set=>by
  have i:=FL h set;have a:=rM h n;unfold cg at *;rw[List.map_cons,List.sum_cons,List.length_cons];omega
theorem aD6(l:List dz)(h:∀y∈l,lT y)(set:List Int)(hs:∀n∈set,0<=n/\n<(l.length:Int))(g:set.length<=100):APure prog 103 [NB l,bj set] (iD (cg l set)):=by
 refine ap func103 ntmps103 λr=>?_
 repeat refine aO ?_
 refine aR mixed ai (γ:=Nat) (λi=>[(5,iD (cg l (set.take i))),(6,iD i)]) (λ_=>[]) (λi=>i<=set.length) (λi=>set.length-i) 0 (aj av) (Sc.refl _) (zW _) ?_;intro i hi;by_cases hil:i<set.length
 .obtain⟨n,a⟩:∃y,set[i]?=some y:=⟨_,zD hil⟩
  have o:set[((i:Nat):Int).toNat]?=some n:=a;have j:=hs n (zG a);obtain⟨y,hy⟩:∃y,l[n.toNat]?=some y:=⟨_,zD (by omega)⟩
  have f:cg l (set.take (i+1))=cg l (set.take i)+y.many*y.each:=by
   unfold cg;rw[xC,a,yB,vO];simp[mn,hy]
  have ht:=FL h (set.take i);have e:=FL h (set.take (i+1));have b:=rM h n;have q:mn l n=y.many*y.each:=by unfold mn;rw[hy]
  have k:(set.take i).length<=100:=by rw[zR];omega
  exact jU
 .obtain rfl:i=set.length:=by omega
  rw[yM]
  repeat refine aO ?_
  refine Rt.pure (zM iD ?_)
  rfl
def CA(l:List dz)(n:Int):Int:=match l[n.toNat]? with|some y=>y.many|none=>0
def iI(l:List dz)(set:List Int):Int:=(set.map (CA l)).sum
theorem kX{l:List dz}(h:∀y∈l,lT y):∀(set:List Int),0<=iI l set/\iI l set<=2*(set.length:Int)
 |[]=>by simp[iI]
 |n::set=>by
  have i:=kX h set;have b:0<=CA l n/\CA l n<=2:=by
   unfold CA;split
   .rename_i y a;have:=(h y (zG a)).m;omega
   .omega
  unfold iI at *;rw[List.map_cons,List.sum_cons,List.length_cons];omega
def fi(x:ak)(l:List dz)(d:am)(k f:Int):Int:=d.hi-d.lo+1-iI l (dU x l k f l.length)
theorem dA{A B:Prop}(k:B)(h:ar B->A:=by intro q7;(first|refine bO ?_|refine aA ?_|(refine' ah ?hc ?_;(case hc=>exact HO)));exact q7.1):A:=h ⟨k⟩
theorem Z2(x:ak)(h:o5 x)(p:eJ)(e:gd p)(k f:Nat)(kd:au)(d:am)(l:x.kz[k]?=some kd)(o:kd.fields[f]?=some d)(v:-2097152<=d.lo/\d.lo<=2097152)(D:-2097152<=d.hi/\d.hi<=2097152):APure prog 102 [ax x,eE p,iD k,iD f] (iD (fi x p.plants d k f)):=by
 have j:=e.n;have HO:=Qd x h p.plants (by omega) k f;have z:=(zE.1 l).1;have E:=(zE.1 o).1;have C:x.kz[((k:Nat):Int).toNat]?=some kd:=l;have F:kd.fields[((f:Nat):Int).toNat]?=some d:=o;have t:=JI x p.plants k f p.plants.length;have g:=λn(j:n∈dU x p.plants k f p.plants.length)=>Q3 j;unfold fi;generalize dU x p.plants k f p.plants.length=set at *;have e0:iI p.plants (set.take 0)=0:=rfl;refine ap func102 ntmps102 λJ=>?_
 repeat' first|refine dA ?_|intro b;conv=>whnf
 refine aR mixed ai (γ:=Nat) (λi=>[(10,iD (d.hi-d.lo+1-iI p.plants (set.take i))),(12,iD i)]) (λ_=>[(b,.cells 81 (aH d))]) (λi=>i<=set.length) (λi=>set.length-i) 0 (aj av) (Sc.refl _) (zW _) ?_;intro i hi;by_cases hil:i<set.length
 .obtain⟨n,a⟩:∃y,set[i]?=some y:=⟨_,zD hil⟩
  have u:set[((i:Nat):Int).toNat]?=some n:=a;obtain⟨q,y,rfl,G,hy,_,_⟩:=g n (zG a);have r:p.plants[((q:Nat):Int).toNat]?=some y:=hy;have s:iI p.plants (set.take (i+1))=iI p.plants (set.take i)+y.many:=by
   unfold iI;rw[xC,a,yB,vO];simp[CA,hy]
  have I:=(e.v y (zG hy)).m;have ht:=kX e.v (set.take i);have w:(set.take i).length<=100:=by rw[zR];omega
  repeat' first|refine dA ?_|intro b;conv=>whnf
  exact⟨i+1,(aj av),Sc.refl _,by omega,by omega⟩
 .obtain rfl:i=set.length:=by omega
  rw[yM]
  repeat' first|refine dA ?_|intro b;conv=>whnf
  refine Rt.pure (zM iD ?_)
  rfl
theorem BP(x:ak)(k f:Nat)(kd:au)(d:am)(a:x.kz[k]?=some kd)(g:kd.fields[f]?=some d):APure prog 239 [ax x,iD k,iD f] (bD true):=by
 have l:=(zE.1 a).1;have e:=(zE.1 g).1;have b:x.kz[((k:Nat):Int).toNat]?=some kd:=a;refine ap func239 ntmps239 λi=>?_
 repeat refine aO ?_
 refine Rt.pure (zM bD ?_);simp;omega
theorem BO(k f:Nat)(a:k<=100)(b:f<=100):APure prog 240 [iD k,iD f] (bj [9,(k:Int),(f:Int)]):=by
 refine ap func240 ntmps240 λe=>?_
 repeat refine aO ?_
 exact Rt.pure rfl
end
section
open Go
def lx(kd:au)(d:am)(r:cI):Bool:=(r.kind.toList==kd.name.toList)&&((r.a.toList==d.name.toList)||(r.b.toList==d.name.toList))
def fY(x:ak)(k:Nat)(d:am)(i j:Nat):Bool:=match x.kz[i]? with
 |some a=>match a.fields[j]? with
  |some c=>decide (c.kind=8)&&((c.of.toList==d.name.toList)&&decide (aI x i j=k))
  |none=>false
 |none=>false
theorem bb9{x:ak}{k:Nat}{d:am}{i j:Nat}{a:au}{c:am}(b:x.kz[i]?=some a)(h:a.fields[j]?=some c):fY x k d i j=(decide (c.kind=8)&&((c.of.toList==d.name.toList)&&decide (aI x i j=k))):=by unfold fY;rw[b];simp only;rw[h]
theorem JD{x:ak}{k:Nat}{d:am}{i j:Nat}(h:fY x k d i j=true):∃a c,x.kz[i]?=some a/\a.fields[j]?=some c:=by
 unfold fY at h
 cases e:x.kz[i]? with
 |none=>rw[e]at h;cases h
 |some a=>
  rw[e]at h;simp only at h
  cases b:a.fields[j]? with
  |none=>rw[b]at h;cases h
  |some c=>exact⟨a,c,rfl,b⟩
theorem Pi{p:Prop}(h:p:=by
 rw[bb9 hki0' hc0']at hno
 cases e1:decide (c.kind=8)with
 |false=>
  have e1':=of_decide_eq_false e1
  repeat' first|refine cu ?_|intro b;conv=>whnf
  exact⟨j+1,(aj av),(Sc.sl (yG _ _)),by omega,by omega⟩
 |true=>
  have e1':=wY e1;rw[e1,Bool.true_and]at hno
  cases e2:(c.of.toList==d.name.toList)with
  |false=>
   repeat' first|refine cu ?_|intro b;conv=>whnf
   exact⟨j+1,(aj av),(Sc.sl (yG _ _)),by omega,by omega⟩
  |true=>
   rw[e2,Bool.true_and,xF]at hno;have HU:=hup i j
   repeat' first|refine cu ?_|intro b;conv=>whnf
   exact⟨j+1,(aj av),(Sc.sl (yG _ _)),by omega,by omega⟩):p:=h
theorem YN{p:Prop}(h:p:=by
 obtain⟨r,hr0⟩:∃y,x.rules[q]?=some y:=⟨_,zD (by omega)⟩
 have hr:x.rules[((q:Nat):Int).toNat]?=some r:=hr0;have hno:=hnoR q r hr0;unfold lx at hno
 cases e1:(r.kind.toList==kd.name.toList)with
 |false=>
  repeat' first|refine cu ?_|intro b;conv=>whnf
  exact⟨q+1,(aj av),Sc.refl _,by omega,by omega⟩
 |true=>
  rw[e1,Bool.true_and,wA]at hno;obtain⟨e2,e3⟩:=hno
  repeat' first|refine cu ?_|intro b;conv=>whnf
  exact⟨q+1,(aj av),Sc.refl _,by omega,by omega⟩):p:=h
theorem XO{p:Prop}(h:p:=by
 obtain rfl:j=ki.fields.length:=by omega
 repeat' first|refine cu ?_|intro b;conv=>whnf
 exact⟨i+1,(aj av),Sc.refl _,by omega,by omega⟩):p:=h
theorem LN{p:Prop}(h:p:=by
 repeat' first|refine cu ?_|intro b;conv=>whnf
 exact⟨q+1,(aj av),Sc.refl _,by omega,by omega⟩):p:=h
theorem Ed{p:Prop}(h:p:=by
 repeat' first|refine cu ?_|intro b;conv=>whnf
 refine Rt.pure (zM bD ?_);rfl):p:=h
theorem aD7(x:ak)(h:o5 x)(k f:Nat)(kd:au)(d:am)(D:x.kz[k]?=some kd)(U:kd.fields[f]?=some d):∃V,(V=true->d.kind=2)/\APure prog 59 [ax x,iD k,iD f] (bD V):=by
 have Z:=h.nk;have Y:=h.nr;have hkl:=(zE.1 D).1;have hfl:=(zE.1 U).1;have hk':x.kz[((k:Nat):Int).toNat]?=some kd:=D;have hf':kd.fields[((f:Nat):Int).toNat]?=some d:=U;have hkf:=h.nf kd (zG D);have hup:=λi j=>Qn x i j (by omega) (λk D=>by have:=h.nf k D;omega);by_cases h2:d.kind=2
 case neg=>
  refine⟨false,(λe=>by cases e),?_⟩;refine ap func59 ntmps59 λQ=>?_
  repeat' first|refine cu ?_|intro b;conv=>whnf
  refine Rt.pure (zM bD ?_);rfl
 by_cases hR:∃q:Nat,∃r,x.rules[q]?=some r/\lx kd d r=true
 .obtain⟨q0,X,J,P⟩:=hR;obtain⟨E,_,⟨G,w,v⟩,g⟩:=xq (p:=λq:Nat=>∃r,x.rules[q]?=some r/\lx kd d r=true) ⟨X,J,P⟩;refine⟨false,(λe=>by cases e),?_⟩;have R:=(zE.1 w).1;refine ap func59 ntmps59 λQ=>?_
  repeat' first|refine cu ?_|intro b;conv=>whnf
  refine aR mixed ai (γ:=Nat) (λi=>[(8,iD i)]) (λ_=>[(b,aB.cells 81 (aH d))]) (λq=>q<=E) (λq=>E-q) 0 (aj av) (Sc.refl _) (zW _) ?_;intro q F;by_cases hql:q<E
  .obtain⟨r,hr0⟩:∃y,x.rules[q]?=some y:=⟨_,zD (by omega)⟩
   have hr:x.rules[((q:Nat):Int).toNat]?=some r:=hr0;have hno:lx kd d r=false:=by
    cases s:lx kd d r with
    |false=>rfl
    |true=>exact absurd ⟨r,hr0,s⟩ (g q hql)
   unfold lx at hno
   cases e1:(r.kind.toList==kd.name.toList)with
   |false=>exact LN
   |true=>
    rw[e1,Bool.true_and,wA]at hno;obtain⟨e2,e3⟩:=hno;exact LN
  .obtain rfl:q=E:=by omega
   have hr:x.rules[((q:Nat):Int).toNat]?=some G:=w;unfold lx at v;simp only[zJ,xO]at v;obtain⟨e1,e2⟩:=v
   cases e3:(G.a.toList==d.name.toList)with
   |true=>exact Ed
   |false=>
    have e4:(G.b.toList==d.name.toList)=true:=by rcases e2 with e|e;rw[e3]at e;cases e;exact e
    repeat' first|refine cu ?_|intro b;conv=>whnf
    refine Rt.pure (zM bD ?_);rfl
 have hnoR:∀(q:Nat)r,x.rules[q]?=some r->lx kd d r=false:=λq r F=>by
  cases s:lx kd d r with
  |false=>rfl
  |true=>exact absurd ⟨q,r,F,s⟩ hR
 have hC:(∃a o,fY x k d a o=true/\(∀i j,i<a->fY x k d i j=false)/\∀j,j<o->fY x k d a j=false)\/∀i j,fY x k d i j=false:=by
  by_cases hc:∃i,∃j,fY x k d i j=true
  .obtain⟨i,hi⟩:=hc;obtain⟨a,_,⟨j,hj⟩,g⟩:=xq (p:=λi=>∃j,fY x k d i j=true) hi;obtain⟨o,_,L,t⟩:=xq (p:=λj=>fY x k d a j=true) hj;refine .inl ⟨a,o,L,λi j hi=>?_,λj hj=>?_⟩
   .cases s:fY x k d i j with
    |false=>rfl
    |true=>exact absurd ⟨j,s⟩ (g i hi)
   .cases s:fY x k d a j with
    |false=>rfl
    |true=>exact absurd s (t j hj)
  .refine .inr λi j=>?_
   cases s:fY x k d i j with
   |false=>rfl
   |true=>exact absurd ⟨i,j,s⟩ hc
 rcases hC with⟨a,o,hb,O,M⟩|z
 .refine⟨false,(λe=>by cases e),?_⟩;obtain⟨I,c0,l,u⟩:=JD hb;have T:=(zE.1 l).1;have S:=(zE.1 u).1;rw[bb9 l u]at hb;simp only[zJ,zQ]at hb;obtain⟨b1,b2,b3⟩:=hb;refine ap func59 ntmps59 λQ=>?_
  repeat' first|refine cu ?_|intro b;conv=>whnf
  refine aR mixed ai (γ:=Nat) (λi=>[(8,iD i)]) (λ_=>[(b,aB.cells 81 (aH d))]) (λq=>q<=x.rules.length) (λq=>x.rules.length-q) 0 (aj av) (Sc.refl _) (zW _) ?_;intro q F;by_cases hql:q<x.rules.length
  .exact YN
  obtain rfl:q=x.rules.length:=by omega
  repeat' first|refine cu ?_|intro b;conv=>whnf
  refine aR mixed ai (γ:=Nat) (λi=>[(9,iD i)]) (λ_=>[(b,aB.cells 81 (aH d))]) (λq=>q<=a) (λq=>a-q) 0 (aj av) (Sc.refl _) (zW _) ?_;intro i hi;obtain⟨ki,hki0'⟩:∃y,x.kz[i]?=some y:=⟨_,zD (by omega)⟩
  have K:x.kz[((i:Nat):Int).toNat]?=some ki:=hki0';have C:=h.nf ki (zG hki0');by_cases hii:i<a
  .repeat' first|refine cu ?_|intro b;conv=>whnf
   refine aR mixed ai (γ:=Nat) (λi=>[(10,iD i)]) (λ_=>[(b,aB.cells 81 (aH d))]) (λq=>q<=ki.fields.length) (λq=>ki.fields.length-q) 0 (aj av) (Sc.refl _) (zW _) ?_;intro j hj;by_cases hjl:j<ki.fields.length
   .obtain⟨c,hc0'⟩:∃y,ki.fields[j]?=some y:=⟨_,zD (by omega)⟩
    have hc:ki.fields[((j:Nat):Int).toNat]?=some c:=hc0';have hno:=O i j hii;exact Pi
   .exact XO
  .obtain rfl:i=a:=by omega
   obtain rfl:ki=I:=by rw[l]at hki0';exact(wK hki0').symm
   repeat' first|refine cu ?_|intro b;conv=>whnf
   refine aR mixed ai (γ:=Nat) (λi=>[(10,iD i)]) (λ_=>[(b,aB.cells 81 (aH d))]) (λq=>q<=o) (λq=>o-q) 0 (aj av) (Sc.refl _) (zW _) ?_;intro j hj;by_cases hjl:j<o
   .obtain⟨c,hc0'⟩:∃y,ki.fields[j]?=some y:=⟨_,zD (by omega)⟩
    have hc:ki.fields[((j:Nat):Int).toNat]?=some c:=hc0';have hno:=M j hjl;exact Pi
   .obtain rfl:j=o:=by omega
    have hc:ki.fields[((j:Nat):Int).toNat]?=some c0:=u;have HU:=hup i j;exact Ed
 .refine⟨true,(λ_=>h2),?_⟩;refine ap func59 ntmps59 λQ=>?_
  repeat' first|refine cu ?_|intro b;conv=>whnf
  refine aR mixed ai (γ:=Nat) (λi=>[(8,iD i)]) (λ_=>[(b,aB.cells 81 (aH d))]) (λq=>q<=x.rules.length) (λq=>x.rules.length-q) 0 (aj av) (Sc.refl _) (zW _) ?_;intro q F;by_cases hql:q<x.rules.length
  .exact YN
  obtain rfl:q=x.rules.length:=by omega
  repeat' first|refine cu ?_|intro b;conv=>whnf
  refine aR mixed ai (γ:=Nat) (λi=>[(9,iD i)]) (λ_=>[(b,aB.cells 81 (aH d))]) (λq=>q<=x.kz.length) (λq=>x.kz.length-q) 0 (aj av) (Sc.refl _) (zW _) ?_;intro i hi;by_cases hii:i<x.kz.length
  .obtain⟨ki,hki0'⟩:∃y,x.kz[i]?=some y:=⟨_,zD (by omega)⟩
   have K:x.kz[((i:Nat):Int).toNat]?=some ki:=hki0';have C:=h.nf ki (zG hki0')
   repeat' first|refine cu ?_|intro b;conv=>whnf
   refine aR mixed ai (γ:=Nat) (λi=>[(10,iD i)]) (λ_=>[(b,aB.cells 81 (aH d))]) (λq=>q<=ki.fields.length) (λq=>ki.fields.length-q) 0 (aj av) (Sc.refl _) (zW _) ?_;intro j hj;by_cases hjl:j<ki.fields.length
   .obtain⟨c,hc0'⟩:∃y,ki.fields[j]?=some y:=⟨_,zD (by omega)⟩
    have hc:ki.fields[((j:Nat):Int).toNat]?=some c:=hc0';have hno:=z i j;exact Pi
   .exact XO
  .obtain rfl:i=x.kz.length:=by omega
   exact Ed
end
section
open Go
def Qw(x:ak):Prop:=∀k∈x.kz,∀f∈k.fields,(-2097152<=f.lo/\f.lo<=2097152)/\(-2097152<=f.hi/\f.hi<=2097152)
def kc(x:ak)(y:dz):Prop:=0<=(cF x y).1/\∀(k f:Nat)kd d,cF x y=((k:Int),(f:Int))->x.kz[k]?=some kd->kd.fields[f]?=some d->d.kind=2
def Oo(y z:dz):Bool:=decide (y.value<z.value+z.many)&&decide (z.value<y.value+y.many)
theorem iB{A B:Prop}(k:B)(h:ar B->A:=by intro q7;(first|refine bO ?_|refine aA ?_|(refine' ah ?hc ?_;(case hc=>first|exact HF|exact HP|exact HO|exact HT)));exact q7.1):A:=h ⟨k⟩
theorem cq6{p:Prop}(h:p:=by
 repeat' first|refine iB ?_|intro b;conv=>whnf
 obtain⟨b10,rfl⟩:∃c,c=b:=⟨_,rfl⟩
 obtain⟨b7,rfl⟩:∃c,c=b:=⟨_,rfl⟩
 refine aR mixed ai (γ:=Nat) (λq=>[(12,iD q)]) (λ_=>[(b10,.cells 81 (aH d)),(b7,.cells 150 (yk y))]) (λq=>q<=set.length) (λq=>set.length-q) 0 (aj av) (Sc.refl _) (zW _) ?_;intro q hq;by_cases hqq:q<set.length
 .obtain⟨n,hn0⟩:∃y,set[q]?=some y:=⟨_,zD (by omega)⟩
  obtain⟨a,z,rfl,hal,hz0⟩:=hat q n hn0;have hn1:set[((q:Nat):Int).toNat]?=some (a:Int):=hn0;have hz:p.plants[((a:Nat):Int).toNat]?=some z:=hz0;have hov:Oo y z=false:=by
   cases hh:Oo y z with
   |false=>rfl
   |true=>exact absurd ⟨q,a,z,hn0,hz0,hh⟩ hov
  have hzs:=hp.v z (zG hz0);have zv:=hzs.v;have zm:=hzs.m;have hov':Oo y z=false:=hov;unfold Oo at hov'
  cases c1:decide (y.value<z.value+z.many)with
  |false=>
   have c1':=of_decide_eq_false c1
   repeat' first|refine iB ?_|intro b;conv=>whnf
   exact⟨q+1,(aj av),(Sc.sl (yG _ _)),by omega,by omega⟩
  |true=>
   rw[c1,Bool.true_and]at hov';have c1':=wY c1;have c2':=of_decide_eq_false hov'
   repeat' first|refine iB ?_|intro b;conv=>whnf
   exact⟨q+1,(aj av),(Sc.sl (yG _ _)),by omega,by omega⟩
 .obtain rfl:q=set.length:=by omega
  repeat' first|refine iB ?_|intro b;conv=>whnf
  refine Rt.pure (zM iD ?_);rfl):p:=h
theorem Ee{p:Prop}(h:p:=by
 repeat' first|refine iB ?_|intro b;conv=>whnf
 refine Rt.pure (zM iD ?_);rfl):p:=h
theorem Ht(x:ak)(h:o5 x)(K:Qw x)(p:eJ)(hp:gd p)(hcl:p.counts.length=x.kz.length)(i:Nat)(y:dz)(hy:p.plants[i]?=some y):∃e,(e=0->kc x y)/\APure prog 100 [ax x,eE p,iD i] (iD e):=by
 have U:=h.nk;have E:=hp.n;have Z:=(zE.1 hy).1;have T:p.plants[((i:Nat):Int).toNat]?=some y:=hy;have HF:=ZG x h y;have s:=hp.v y (zG hy);have yv:=s.v;have ym:=s.m;have ye:=s.e;by_cases hneg:(cF x y).1<0
 .refine⟨12,(λe=>by cases e),?_⟩;refine ap func100 ntmps100 λC=>?_;exact Ee
 obtain⟨k,f,kd,d,g,o,r⟩:=DN (x:=x) (y:=y) (by omega);rw[g]at HF hneg;have X:=(zE.1 o).1;have hfl:=(zE.1 r).1;have Y:x.kz[((k:Nat):Int).toNat]?=some kd:=o;have hf':kd.fields[((f:Nat):Int).toNat]?=some d:=r;have hdb:=K kd (zG o) d (zG r);obtain⟨O,G,HP⟩:=aD7 x h k f kd d o r;have L:O=true->kc x y:=λe=>⟨by rw[g];simp,λk' f' S d' w F v=>by
  rw[g]at w;simp only[vY,Int.natCast_inj]at w;obtain⟨rfl,rfl⟩:=w;rw[o]at F;cases F
  rw[r]at v;cases v
  exact G e⟩
 cases O with
 |false=>
  refine⟨13,(λe=>by cases e),?_⟩;refine ap func100 ntmps100 λC=>?_;exact Ee
 |true=>
  by_cases hr:y.value<d.lo\/d.hi<y.value\/d.hi-y.value<y.many-1
  .refine⟨5,(λe=>by cases e),?_⟩;refine ap func100 ntmps100 λC=>?_
   repeat' first|refine iB ?_|intro b;conv=>whnf|(refine aV ?_;constructor<;>intro hc)
   all_goals first|(refine Rt.pure (zM iD ?_);rfl)|(exfalso;omega)
  have r1:d.lo<=y.value:=by omega
  have r2:y.value<=d.hi:=by omega
  have r3:y.many-1<=d.hi-y.value:=by omega
  clear hr;have HO:APure prog 104 [ax x,.sl 5 ((p.plants.map yk).take ((i:Nat):Int).toNat),iD k,iD f] (bj (dU x (p.plants.take i) k f (p.plants.take i).length)):=by
   rw[Int.toNat_natCast,←vR];exact Qd x h _ (by rw[zR];omega) k f
  have J:=λn(E:n∈dU x (p.plants.take i) k f (p.plants.take i).length)=>Q3 E;have I:=JI x (p.plants.take i) k f (p.plants.take i).length;generalize dU x (p.plants.take i) k f (p.plants.take i).length=set at *;rw[zR]at I;have hat:∀(q:Nat)n,set[q]?=some n->∃(a:Nat)(z:dz),n=(a:Int)/\a<p.plants.length/\p.plants[a]?=some z:=λq n hq=>by
   obtain⟨a,z,w,F,v,_,_⟩:=J n (zG hq);rw[zR]at F;rw[List.getElem?_take_of_lt (by omega)]at v;exact⟨a,z,w,by omega,v⟩
  by_cases hov:∃q:Nat,∃(a:Nat)(z:dz),set[q]?=some (a:Int)/\p.plants[a]?=some z/\Oo y z=true
  .obtain⟨q,hq⟩:=hov;obtain⟨D,_,⟨R,M,u,l,j⟩,Q⟩:=xq (p:=λq:Nat=>∃(a:Nat)(z:dz),set[q]?=some (a:Int)/\p.plants[a]?=some z/\Oo y z=true) hq;have P:=(zE.1 u).1;refine⟨7,(λe=>by cases e),?_⟩;refine ap func100 ntmps100 λC=>?_
   repeat' first|refine iB ?_|intro b;conv=>whnf
   obtain⟨b10,rfl⟩:∃c,c=b:=⟨_,rfl⟩
   obtain⟨b7,rfl⟩:∃c,c=b:=⟨_,rfl⟩
   refine aR mixed ai (γ:=Nat) (λq=>[(12,iD q)]) (λ_=>[(b10,.cells 81 (aH d)),(b7,.cells 150 (yk y))]) (λq=>q<=D) (λq=>D-q) 0 (aj av) (Sc.refl _) (zW _) ?_;intro q hq;by_cases hqq:q<D
   .exfalso;omega
   .obtain rfl:q=D:=by omega
    have hn1:set[((q:Nat):Int).toNat]?=some (R:Int):=u;have hz:p.plants[((R:Nat):Int).toNat]?=some M:=l;have hzs:=hp.v M (zG l);have zv:=hzs.v;have zm:=hzs.m;unfold Oo at j;simp only[zJ,zQ]at j;obtain⟨c1,c2⟩:=j;exact Ee
  .have HT:=aD6 p.plants hp.v set (λn E=>by
    obtain⟨q,hq⟩:=yO E;obtain⟨a,z,rfl,hal,_⟩:=hat q n hq;omega) (by omega)
   have ht:=FL hp.v set;have V:0<=y.many*y.each/\y.many*y.each<=6:=D7;obtain⟨ck,t⟩:∃y,p.counts[k]?=some y:=⟨_,zD (by omega)⟩
   have hck:p.counts[((k:Nat):Int).toNat]?=some ck:=t;by_cases hlim:ck<cg p.plants set+y.many*y.each
   .refine⟨4,(λe=>by cases e),?_⟩;refine ap func100 ntmps100 λC=>?_;exact cq6
   .refine⟨0,(λ_=>L rfl),?_⟩;refine ap func100 ntmps100 λC=>?_;exact cq6
end
section
open Go
theorem aV2{α:Type}{n:Nat}{q:Nat->α->Prop}[Inhabited α](h:∀i,i<n->∃a,q i a):∃g:Nat->α,∀i,i<n->q i (g i):=
 ⟨λi=>if b:i<n then Classical.choose (h i b)else default,λi b=>by simp only[dif_pos b];exact Classical.choose_spec (h i b)⟩
structure gD(x:ak)(p:eJ):Prop where
 pl:∀y∈p.plants,kc x y
 cl:p.counts.length=x.kz.length
 lim:(eS x).all (λl=>jk l p.counts)=true
 lef:∀y∈p.plants,∀(k f:Nat)kd d,cF x y=((k:Int),(f:Int))->x.kz[k]?=some kd->kd.fields[f]?=some d->fi x p.plants d k f=0->p.counts.getD k 0<=cg p.plants (dU x p.plants k f p.plants.length)
theorem Tm{A B:Prop}(k:B)(h:ar B->A:=by intro q7;(first|refine z7 ?_|((with_reducible refine Dr.l ?h ?_);(case h=>decide +kernel))|refine u9x ?_);exact q7.1):A:=h ⟨k⟩
theorem ei{A B:Prop}(k:B)(h:ar B->A:=by intro q7;(first|refine bO ?_|refine Tm ?_|(refine' ah ?hc ?_;(case hc=>first|exact HL|exact HN|exact HA|exact HO|exact HF|exact HE|exact HS|exact HT)));exact q7.1):A:=h ⟨k⟩
theorem L9{p:Prop}(h:p:=by
 have HO:=(hg i (by omega)).2;rw[hg0 i hii]at HO
 repeat refine ei ?_
 exact⟨i+1,(aj av),Sc.refl _,by omega,by omega⟩):p:=h
theorem oa{p:Prop}(h:p:=by
 repeat refine ei ?_
 exact⟨i+1,(aj av),Sc.refl _,by omega,by omega⟩):p:=h
theorem be7(x:ak)(h:oO x)(J:Qw x)(HC:APure prog 44 [ax x] (.sl 4 []))(p:eJ)(v:gd p):∃e,(e=0->gD x p)/\APure prog 60 [ax x,eE p] (iD e):=by
 have hnk:=h.sm.nk;have hpn:=v.n;have hcl:=v.cs.l;have hsd:=v.sd.n;have hz:=j8 p.seed;have P:kU p.counts=true:=by
  unfold kU;rw[yA];intro c hc;have:=v.cs.v c hc;simp;omega
 have HL:=aT3 x h.sm HC;have HN:=aC1 p.counts (by omega);rw[P]at HN;have HA:=Hu (eS x) p.counts (by omega) (by have:=h.lm.l;omega);by_cases hc:p.counts.length=x.kz.length
 case neg=>
  refine⟨1,(λe=>by cases e),?_⟩;refine ap func60 ntmps60 λU=>?_
  repeat refine ei ?_
  refine Rt.pure (zM iD ?_);rfl
 cases F:(eS x).all (λl=>jk l p.counts)with
 |false=>
  rw[F]at HA;refine⟨14,(λe=>by cases e),?_⟩;refine ap func60 ntmps60 λU=>?_
  repeat refine ei ?_
  refine Rt.pure (zM iD ?_);rfl
 |true=>
  rw[F]at HA;obtain⟨g,hg⟩:∃g:Nat->Int,∀i,i<p.plants.length->(∀y,p.plants[i]?=some y->g i=0->kc x y)/\APure prog 100 [ax x,eE p,iD i] (iD (g i)):=by
   refine aV2 (q:=λ(i:Nat)(z:Int)=>(∀y,p.plants[i]?=some y->z=0->kc x y)/\APure prog 100 [ax x,eE p,iD i] (iD z)) λi hi=>?_;obtain⟨y,b⟩:∃y,p.plants[i]?=some y:=⟨_,zD hi⟩
   obtain⟨e,he,H⟩:=Ht x h.sm J p v hc i y b;exact⟨e,λy' M hz=>by rw[b]at M;cases M;exact he hz,H⟩
  by_cases hbad:∃i:Nat,i<p.plants.length/\g i≠0
  .obtain⟨i0,L⟩:=hbad;obtain⟨I,_,⟨S,Z⟩,D⟩:=xq (p:=λi:Nat=>i<p.plants.length/\g i≠0) L;refine⟨g I,(λe=>absurd e Z),?_⟩;refine ap func60 ntmps60 λU=>?_
   repeat refine ei ?_
   refine aR mixed ai (γ:=Nat) (λq=>[(8,iD q)]) (λ_=>[]) (λq=>q<=I) (λq=>I-q) 0 (aj av) (Sc.refl _) (zW _) ?_;intro i hi;by_cases hii:i<I
   .have HO:=(hg i (by omega)).2;have Y:g i=0:=Classical.not_not.1 λu=>D i hii ⟨by omega,u⟩;rw[Y]at HO;exact oa
   .obtain rfl:i=I:=by omega
    have HO:=(hg i S).2
    repeat refine ei ?_
    refine Rt.pure (zM iD ?_);rfl
  have hg0:∀i,i<p.plants.length->g i=0:=λi hi=>Classical.not_not.1 λu=>hbad ⟨i,hi,u⟩;have K:∀(i:Nat)y,p.plants[i]?=some y->kc x y:=λi y hy=>(hg i (zE.1 hy).1).1 y hy (hg0 i (zE.1 hy).1)
  -- what the second loop looks at
  have s:∀i,i<p.plants.length->∃(k f:Nat)(kd:au)(d:am)(y:dz),p.plants[i]?=some y/\cF x y=((k:Int),(f:Int))/\x.kz[k]?=some kd/\kd.fields[f]?=some d:=λi hi=>by
   obtain⟨y,b⟩:∃y,p.plants[i]?=some y:=⟨_,zD hi⟩
   obtain⟨k,f,kd,d,h1,h2,h3⟩:=DN (K i y b).1;exact⟨k,f,kd,d,y,b,h1,h2,h3⟩
  by_cases hbd:∃i:Nat,∃(k f:Nat)(kd:au)(d:am)(y:dz),p.plants[i]?=some y/\cF x y=((k:Int),(f:Int))/\x.kz[k]?=some kd/\kd.fields[f]?=some d/\fi x p.plants d k f=0/\cg p.plants (dU x p.plants k f p.plants.length)<p.counts.getD k 0
  .obtain⟨i0,L⟩:=hbd;obtain⟨I,_,⟨k1,f1,V,d1,y1,b1,b2,b3,b4,b5,b6⟩,D⟩:=xq (p:=λi:Nat=>∃(k f:Nat)(kd:au)(d:am)(y:dz),p.plants[i]?=some y/\cF x y=((k:Int),(f:Int))/\x.kz[k]?=some kd/\kd.fields[f]?=some d/\fi x p.plants d k f=0/\cg p.plants (dU x p.plants k f p.plants.length)<p.counts.getD k 0) L;have S:=(zE.1 b1).1;refine⟨6,(λe=>by cases e),?_⟩;refine ap func60 ntmps60 λU=>?_
   repeat refine ei ?_
   refine aR mixed ai (γ:=Nat) (λq=>[(8,iD q)]) (λ_=>[]) (λq=>q<=p.plants.length) (λq=>p.plants.length-q) 0 (aj av) (Sc.refl _) (zW _) ?_;intro i hi;by_cases hii:i<p.plants.length
   .exact L9
   obtain rfl:i=p.plants.length:=by omega
   clear hii hi
   repeat refine ei ?_
   refine aR mixed ai (γ:=Nat) (λq=>[(10,iD q)]) (λ_=>[]) (λq=>q<=I) (λq=>I-q) 0 (aj av) (Sc.refl _) (zW _) ?_;intro i hi;by_cases hii:i<I
   .obtain⟨k,f,kd,d,y,b,o,t,E⟩:=s i (by omega);have hy:p.plants[((i:Nat):Int).toNat]?=some y:=b;have HF:=ZG x h.sm y;rw[o]at HF;have R:=(zE.1 t).1;have r:=J kd (zG t) d (zG E);have HE:=Z2 x h.sm p v k f kd d t E r.1 r.2;have HS:=Qd x h.sm p.plants (by omega) k f;have O:=JI x p.plants k f p.plants.length;have w:=λn(C:n∈dU x p.plants k f p.plants.length)=>Q3 C;have HT:=aD6 p.plants v.v (dU x p.plants k f p.plants.length) (λn C=>by
     obtain⟨a,z,e1,e2,_⟩:=w n C;omega) (by omega)
    obtain⟨ck,j⟩:∃y,p.counts[k]?=some y:=⟨_,zD (by omega)⟩
    have T:p.counts[((k:Nat):Int).toNat]?=some ck:=j;have G:p.counts.getD k 0=ck:=by rw[List.getD_eq_getElem?_getD,j];rfl
    have X:¬(fi x p.plants d k f=0/\cg p.plants (dU x p.plants k f p.plants.length)<ck):=λu=>D i hii ⟨k,f,kd,d,y,b,o,t,E,u.1,by rw[G];exact u.2⟩;by_cases hl0:fi x p.plants d k f=0
    .have Q:¬cg p.plants (dU x p.plants k f p.plants.length)<ck:=λu=>X ⟨hl0,u⟩;exact oa
    .exact oa
   .obtain rfl:i=I:=by omega
    obtain⟨k,f,kd,d,y,b,o,t,E⟩:=s i (by omega);have hy:p.plants[((i:Nat):Int).toNat]?=some y:=b;have HF:=ZG x h.sm y;rw[o]at HF;have R:=(zE.1 t).1;have r:=J kd (zG t) d (zG E);have HE:=Z2 x h.sm p v k f kd d t E r.1 r.2;have HS:=Qd x h.sm p.plants (by omega) k f;have O:=JI x p.plants k f p.plants.length;have w:=λn(C:n∈dU x p.plants k f p.plants.length)=>Q3 C;have HT:=aD6 p.plants v.v (dU x p.plants k f p.plants.length) (λn C=>by
     obtain⟨a,z,e1,e2,_⟩:=w n C;omega) (by omega)
    obtain⟨ck,j⟩:∃y,p.counts[k]?=some y:=⟨_,zD (by omega)⟩
    have T:p.counts[((k:Nat):Int).toNat]?=some ck:=j;have G:p.counts.getD k 0=ck:=by rw[List.getD_eq_getElem?_getD,j];rfl
    obtain rfl:y1=y:=by rw[b]at b1;exact(wK b1).symm
    rw[o]at b2;simp only[vY,Int.natCast_inj]at b2;obtain⟨rfl,rfl⟩:=b2;obtain rfl:V=kd:=by rw[t]at b3;exact(wK b3).symm
    obtain rfl:d1=d:=by rw[E]at b4;exact(wK b4).symm
    rw[G]at b6
    repeat refine ei ?_
    refine Rt.pure (zM iD ?_);rfl
  .refine⟨0,λ_=>⟨λy hy=>by obtain⟨i,hi⟩:=yO hy;exact K i y hi,hc,F,λy hy k f kd d h1 h2 h3 h4=>?_⟩,?_⟩
   .obtain⟨i,hi⟩:=yO hy;exact Int.not_lt.1 λu=>hbd ⟨i,k,f,kd,d,y,hi,h1,h2,h3,h4,u⟩
   .refine ap func60 ntmps60 λU=>?_
    repeat refine ei ?_
    refine aR mixed ai (γ:=Nat) (λq=>[(8,iD q)]) (λ_=>[]) (λq=>q<=p.plants.length) (λq=>p.plants.length-q) 0 (aj av) (Sc.refl _) (zW _) ?_;intro i hi;by_cases hii:i<p.plants.length
    .exact L9
    obtain rfl:i=p.plants.length:=by omega
    clear hii hi
    repeat refine ei ?_
    refine aR mixed ai (γ:=Nat) (λq=>[(10,iD q)]) (λ_=>[]) (λq=>q<=p.plants.length) (λq=>p.plants.length-q) 0 (aj av) (Sc.refl _) (zW _) ?_;intro i hi;by_cases hii:i<p.plants.length
    .obtain⟨k,f,kd,d,y,b,o,t,E⟩:=s i (by omega);have hy:p.plants[((i:Nat):Int).toNat]?=some y:=b;have HF:=ZG x h.sm y;rw[o]at HF;have R:=(zE.1 t).1;have r:=J kd (zG t) d (zG E);have HE:=Z2 x h.sm p v k f kd d t E r.1 r.2;have HS:=Qd x h.sm p.plants (by omega) k f;have O:=JI x p.plants k f p.plants.length;have w:=λn(C:n∈dU x p.plants k f p.plants.length)=>Q3 C;have HT:=aD6 p.plants v.v (dU x p.plants k f p.plants.length) (λn C=>by
      obtain⟨a,z,e1,e2,_⟩:=w n C;omega) (by omega)
     obtain⟨ck,j⟩:∃y,p.counts[k]?=some y:=⟨_,zD (by omega)⟩
     have T:p.counts[((k:Nat):Int).toNat]?=some ck:=j;have G:p.counts.getD k 0=ck:=by rw[List.getD_eq_getElem?_getD,j];rfl
     by_cases hl0:fi x p.plants d k f=0
     .have Q:¬cg p.plants (dU x p.plants k f p.plants.length)<ck:=λu=>hbd ⟨i,k,f,kd,d,y,b,o,t,E,hl0,by rw[G];exact u⟩;exact oa
     .exact oa
    .obtain rfl:i=p.plants.length:=by omega
     repeat refine ei ?_
     refine Rt.pure (zM iD ?_);rfl
end
section
open Go
theorem Sw{A B:Prop}(k:B)(h:ar B->A:=by intro q7;(first|refine bO ?_|refine aA ?_|(refine' ah ?hc ?_;(case hc=>first|exact HV|exact HI)));exact q7.1):A:=h ⟨k⟩
theorem aN9(x:ak)(p:eJ)(HV:APure prog 60 [ax x,eE p] (iD 0))(k f:Nat)(kd:au)(d:am)(a:x.kz[k]?=some kd)(b:kd.fields[f]?=some d)(h2:d.kind=2):APure prog 242 [ax x,eE p,iD k,iD f] (iD 0):=by
 have HI:=BP x k f kd d a b;have l:=(zE.1 a).1;have g:=(zE.1 b).1;have e:x.kz[((k:Nat):Int).toNat]?=some kd:=a;have i:kd.fields[((f:Nat):Int).toNat]?=some d:=b;refine ap func242 ntmps242 λj=>?_
 repeat refine Sw ?_
 refine Rt.pure (zM iD ?_);rfl
theorem Su{A B:Prop}(k:B)(h:ar B->A:=by intro q7;(first|refine bO ?_|refine aA ?_|(refine' ah ?hc ?_;(case hc=>first|exact HN|exact HL)));exact q7.1):A:=h ⟨k⟩
theorem BQ(x:ak)(h:o5 x)(p:eJ)(e:gd p)(V:APure prog 60 [ax x,eE p] (iD 0))(k f:Nat)(kd:au)(d:am)(a:x.kz[k]?=some kd)(b:kd.fields[f]?=some d)(h2:d.kind=2)(o:-2097152<=d.lo/\d.lo<=2097152)(i:-2097152<=d.hi/\d.hi<=2097152):APure prog 199 [ax x,eE p,iD k,iD f] (.tup [iD (fi x p.plants d k f),iD 0]):=by
 have HN:=aN9 x p V k f kd d a b h2;have HL:=Z2 x h p e k f kd d a b o i;refine ap func199 ntmps199 λg=>?_
 repeat refine Su ?_
 exact Rt.pure rfl
theorem jK{x:ak}{l:List dz}{k f:Int}{i:Nat}(h:i<(dU x l k f l.length).length):∃(q:Nat)(y:dz),(dU x l k f l.length)[i]?=some (q:Int)/\q<l.length/\l[q]?=some y:=by
 obtain⟨n,a⟩:∃y,(dU x l k f l.length)[i]?=some y:=⟨_,zD h⟩
 obtain⟨q,y,rfl,c,b,_,_⟩:=Q3 (zG a);exact⟨q,y,a,c,b⟩
theorem Z4{l:List dz}{set:List Int}{i q:Nat}{y:dz}(h:set[i]?=some (q:Int))(a:l[q]?=some y):cg l (set.take (i+1))=cg l (set.take i)+y.many*y.each:=by
 unfold cg;rw[xC,h,yB,vO];simp[mn,a]
theorem nz{y:dz}(h:lT y):1<=y.many*y.each/\y.many*y.each<=6:=by
 have m:=h.m;have a:=h.e;exact D7
theorem R7{a e:Int}(h:0<=a/\a<=100)(b:1<=e/\e<=3):0<=a.tdiv e/\a.tdiv e<=100:=by
 rw[Int.tdiv_eq_ediv_of_nonneg h.1];have:e=1\/e=2\/e=3:=by omega
 rcases this with rfl|rfl|rfl<;>omega
theorem L'{p:Prop}(h:p:=by
 repeat' first|refine dA ?_|intro b;conv=>whnf
 exact⟨i+1,(aj av),(Sc.sl (yG _ _)),by omega,by omega⟩):p:=h
theorem N7(x:ak)(h:o5 x)(p:eJ)(C:gd p)(k f:Nat)(pl:Int)(hpl:0<=pl/\pl<=100):∃v b,(-8388608<=v/\v<=8388608)/\(b=false->cg p.plants (dU x p.plants k f p.plants.length)<=pl)/\APure prog 241 [ax x,eE p,iD k,iD f,iD pl] (.tup [iD v,bD b]):=by
 have hn:=C.n;have HO:=Qd x h p.plants (by omega) k f;have o:=JI x p.plants k f p.plants.length;generalize t:dU x p.plants k f p.plants.length=set at *;have e0:cg p.plants (set.take 0)=0:=rfl;by_cases hb:∃i:Nat,i<set.length/\pl<cg p.plants (set.take (i+1))
 .obtain⟨i0,R⟩:=hb;obtain⟨r,_,⟨z,hb1⟩,E⟩:=xq (p:=λi:Nat=>i<set.length/\pl<cg p.plants (set.take (i+1))) R;obtain⟨Z,J,L,X,F⟩:=jK (x:=x) (l:=p.plants) (k:=k) (f:=f) (i:=r) (by rw[t];exact z);have hge:cg p.plants (set.take r)<=pl:=by
   by_cases P:r=0
   .subst P;rw[e0];omega
   .obtain⟨j,rfl⟩:∃j,r=j+1:=⟨r-1,by omega⟩
    exact Int.not_lt.1 λG=>E j (by omega) ⟨by omega,G⟩
  have D:=C.v J (zG F);have hd1:=R7 (a:=pl-cg p.plants (set.take r)) (e:=J.each) ⟨by omega,by have:=FL C.v (set.take r);omega⟩ D.e;have Y:=D.v;refine⟨J.value+(pl-cg p.plants (set.take r)).tdiv J.each,true,by omega,(λe=>by cases e),?_⟩;refine ap func241 ntmps241 λBB=>?_
  repeat' first|refine dA ?_|intro b;conv=>whnf
  refine aR mixed ai (γ:=Nat) (λi=>[(13,iD (cg p.plants (set.take i))),(14,iD i)]) (λ_=>[]) (λi=>i<=r) (λi=>r-i) 0 (aj av) (Sc.refl _) (zW _) ?_;intro i hi;by_cases hii:i<r
  .rw[←t]at z o;obtain⟨q,y,w,K,g⟩:=jK (x:=x) (l:=p.plants) (k:=k) (f:=f) (i:=i) (by omega);have I:set[((i:Nat):Int).toNat]?=some (q:Int):=by rw[←t];exact w
   have hy:p.plants[((q:Nat):Int).toNat]?=some y:=g;have s:=C.v y (zG g);have T:=s.v;have U:=s.m;have V:=s.e;have M:=nz s;have u:=Z4 (l:=p.plants) I hy;rw[Int.toNat_natCast]at u;have ht:=FL C.v (set.take i);have O:(set.take i).length<=100:=by rw[zR];omega
   have Q:¬pl<cg p.plants (set.take (i+1)):=λG=>E i hii ⟨by rw[←t];omega,G⟩;rw[t]at z o;exact L'
  .obtain rfl:i=r:=by omega
   rw[←t]at z o;obtain⟨q,y,w,K,g⟩:=jK (x:=x) (l:=p.plants) (k:=k) (f:=f) (i:=i) (by omega);have I:set[((i:Nat):Int).toNat]?=some (q:Int):=by rw[←t];exact w
   have hy:p.plants[((q:Nat):Int).toNat]?=some y:=g;have s:=C.v y (zG g);have T:=s.v;have U:=s.m;have V:=s.e;have M:=nz s;have u:=Z4 (l:=p.plants) I hy;rw[Int.toNat_natCast]at u;have ht:=FL C.v (set.take i);have O:(set.take i).length<=100:=by rw[zR];omega
   rw[t]at z o L;have S:Z=q:=by
    have:=I;rw[Int.toNat_natCast,L]at this;have:=wK this;omega
   subst S;obtain rfl:J=y:=by rw[g]at F;exact(wK F).symm
   repeat' first|refine dA ?_|intro b;conv=>whnf
   exact Rt.pure rfl
 .refine⟨0,false,by omega,λ_=>?_,?_⟩
  .by_cases P:set.length=0
   .obtain rfl:set=[]:=wX.1 P;rw[show cg p.plants []=0 from rfl];omega
   .obtain⟨j,hj⟩:∃j,set.length=j+1:=⟨set.length-1,by omega⟩
    have:=Int.not_lt.1 λG=>hb ⟨j,by omega,G⟩
    rwa [←hj,yM]at this
  .refine ap func241 ntmps241 λBB=>?_
   repeat' first|refine dA ?_|intro b;conv=>whnf
   refine aR mixed ai (γ:=Nat) (λi=>[(13,iD (cg p.plants (set.take i))),(14,iD i)]) (λ_=>[]) (λi=>i<=set.length) (λi=>set.length-i) 0 (aj av) (Sc.refl _) (zW _) ?_;intro i hi;by_cases hii:i<set.length
   .rw[←t]at hii o;obtain⟨q,y,w,K,g⟩:=jK (x:=x) (l:=p.plants) (k:=k) (f:=f) (i:=i) (by omega);have I:set[((i:Nat):Int).toNat]?=some (q:Int):=by rw[←t];exact w
    have hy:p.plants[((q:Nat):Int).toNat]?=some y:=g;have s:=C.v y (zG g);have T:=s.v;have U:=s.m;have V:=s.e;have M:=nz s;have u:=Z4 (l:=p.plants) I hy;rw[Int.toNat_natCast]at u;have ht:=FL C.v (set.take i);have O:(set.take i).length<=100:=by rw[zR];omega
    have Q:¬pl<cg p.plants (set.take (i+1)):=λG=>hb ⟨i,by rw[←t];omega,G⟩;rw[t]at hii o;exact L'
   .obtain rfl:i=set.length:=by omega
    repeat' first|refine dA ?_|intro b;conv=>whnf
    exact Rt.pure rfl
def B3(l:List dz)(v:Int)(n:Int):Bool:=match l[n.toNat]? with|some y=>decide (y.value<=v)&&decide (v<y.value+y.many)|none=>false
def m'(x:ak)(l:List dz)(k f v:Int):Bool:=(dU x l k f l.length).any (B3 l v)
theorem Hz{x:ak}{l:List dz}{k f v:Int}(h:∀y∈l,lT y)(p:m' x l k f v=true):v<=4194306:=by
 obtain⟨n,d,b⟩:=wC.1 p;unfold B3 at b;split at b
 .rename_i y c;simp only[zJ,zQ]at b;have a:=h y (zG c);have:=a.v;have:=a.m;omega
 .cases b
theorem YK{p:Prop}(h:p:=by
 unfold B3 at hno;rw[hy]at hno;simp only at hno
 cases c1:decide (y.value<=pl)with
 |false=>
  have c1':=of_decide_eq_false c1
  repeat' first|refine dA ?_|intro b;conv=>whnf
  exact⟨i+1,(aj av),(Sc.sl (yG _ _)),by omega,by omega⟩
 |true=>
  rw[c1,Bool.true_and]at hno;have c1':=wY c1;have c2':=of_decide_eq_false hno
  repeat' first|refine dA ?_|intro b;conv=>whnf
  exact⟨i+1,(aj av),(Sc.sl (yG _ _)),by omega,by omega⟩):p:=h
theorem m7(x:ak)(h:o5 x)(p:eJ)(u:gd p)(k f:Nat)(pl:Int)(Q:-16777216<=pl/\pl<=16777216):APure prog 243 [ax x,eE p,iD k,iD f,iD pl] (bD (m' x p.plants k f pl)):=by
 have L:=u.n;have HO:=Qd x h p.plants (by omega) k f;have j:=JI x p.plants k f p.plants.length;unfold m';generalize t:dU x p.plants k f p.plants.length=set at *;by_cases hb:∃i:Nat,∃n,set[i]?=some n/\B3 p.plants pl n=true
 .obtain⟨S,J⟩:=hb;obtain⟨D,_,⟨K,o,g⟩,v⟩:=xq (p:=λi:Nat=>∃n,set[i]?=some n/\B3 p.plants pl n=true) J;have w:=(zE.1 o).1;rw[wC.2 ⟨K,zG o,g⟩];refine ap func243 ntmps243 λR=>?_
  repeat' first|refine dA ?_|intro b;conv=>whnf
  refine aR mixed ai (γ:=Nat) (λi=>[(12,iD i)]) (λ_=>[]) (λi=>i<=D) (λi=>D-i) 0 (aj av) (Sc.refl _) (zW _) ?_;intro i hi;rw[←t]at w j;obtain⟨q,y,a,E,e⟩:=jK (x:=x) (l:=p.plants) (k:=k) (f:=f) (i:=i) (by omega);have F:set[((i:Nat):Int).toNat]?=some (q:Int):=by rw[←t];exact a
  have hy:p.plants[((q:Nat):Int).toNat]?=some y:=e;have s:=u.v y (zG e);have M:=s.v;have O:=s.m;have P:=s.e;have G:=nz s;have r:=Z4 (l:=p.plants) F hy;rw[Int.toNat_natCast]at r;have ht:=FL u.v (set.take i);have I:(set.take i).length<=100:=by rw[zR];omega
  rw[t]at w j a;by_cases hii:i<D
  .have hno:B3 p.plants pl q=false:=by
    cases z:B3 p.plants pl q with
    |false=>rfl
    |true=>exact absurd ⟨_,a,z⟩ (v i hii)
   exact YK
  .obtain rfl:i=D:=by omega
   obtain rfl:K=(q:Int):=by rw[a]at o;exact(wK o).symm
   unfold B3 at g;rw[hy]at g;simp only[zJ,zQ]at g;obtain⟨c1,T⟩:=g
   repeat' first|refine dA ?_|intro b;conv=>whnf
   refine Rt.pure (zM bD ?_);rfl
 .have C:set.any (B3 p.plants pl)=false:=by
   rw[List.any_eq_false];intro n L z;obtain⟨i,hi⟩:=yO L;exact hb ⟨i,n,hi,z⟩
  rw[C];refine ap func243 ntmps243 λR=>?_
  repeat' first|refine dA ?_|intro b;conv=>whnf
  refine aR mixed ai (γ:=Nat) (λi=>[(12,iD i)]) (λ_=>[]) (λi=>i<=set.length) (λi=>set.length-i) 0 (aj av) (Sc.refl _) (zW _) ?_;intro i hi;by_cases hii:i<set.length
  .rw[←t]at hii j;obtain⟨q,y,a,E,e⟩:=jK (x:=x) (l:=p.plants) (k:=k) (f:=f) (i:=i) (by omega);have F:set[((i:Nat):Int).toNat]?=some (q:Int):=by rw[←t];exact a
   have hy:p.plants[((q:Nat):Int).toNat]?=some y:=e;have s:=u.v y (zG e);have M:=s.v;have O:=s.m;have P:=s.e;have G:=nz s;have r:=Z4 (l:=p.plants) F hy;rw[Int.toNat_natCast]at r;have ht:=FL u.v (set.take i);have I:(set.take i).length<=100:=by rw[zR];omega
   rw[t]at hii j a;have hno:B3 p.plants pl q=false:=by
    cases z:B3 p.plants pl q with
    |false=>rfl
    |true=>exact absurd ⟨i,_,a,z⟩ hb
   exact YK
  .obtain rfl:i=set.length:=by omega
   repeat' first|refine dA ?_|intro b;conv=>whnf
   refine Rt.pure (zM bD ?_);rfl
end
section
open Go
theorem If{x:ak}{l:List dz}{k f:Int}(h:∀y∈l,lT y)(n:Int):∃j:Nat,m' x l k f (n+j)=false/\(∀i:Nat,i<j->m' x l k f (n+i)=true)/\(n+j<=n\/n+j<=4194307):=by
 have g:m' x l k f (n+((4194307-n).toNat:Nat))=false:=by
  cases b:m' x l k f (n+((4194307-n).toNat:Nat))with
  |false=>rfl
  |true=>have:=Hz h b;omega
 obtain⟨j,m,d,c⟩:=xq (p:=λj:Nat=>m' x l k f (n+j)=false) g;refine⟨j,d,λi a=>?_,?_⟩
 .have:=c i a
  rwa [Bool.not_eq_false]at this
 .by_cases e:n<=4194307
  .right;omega
  .left;omega
def oT(g:Int->Nat)(lo:Int):Nat->Int
 |0=>lo+g lo
 |i+1=>oT g lo i+1+g (oT g lo i+1)
theorem iA{A B:Prop}(k:B)(h:ar B->A:=by intro q7;(first|refine bO ?_|refine aA ?_|(refine' ah ?hc ?_;(case hc=>first|exact HN|exact HL|assumption)));exact q7.1):A:=h ⟨k⟩
theorem XP{p:Prop}(h:p:=by
 refine⟨0,5,by omega,?_⟩;refine ap func200 ntmps200 λBB=>?_
 repeat' first|refine iA ?_|intro b;conv=>whnf
 exact Rt.pure rfl):p:=h
theorem LO{p:Prop}(h:p:=by
 repeat' first|refine iA ?_|intro b;conv=>whnf
 exact⟨j+1,(aj av),Sc.refl _,by omega,by omega⟩):p:=h
theorem BM(x:ak)(h:o5 x)(p:eJ)(y:gd p)(V:APure prog 60 [ax x,eE p] (iD 0))(k f:Nat)(kd:au)(d:am)(z:x.kz[k]?=some kd)(C:kd.fields[f]?=some d)(h2:d.kind=2)(D:-2097152<=d.lo/\d.lo<=2097152)(E:-2097152<=d.hi/\d.hi<=2097152)(m:Int)(X:-8388608<=m/\m<=8388608):∃v e,(-33554432<=v/\v<=33554432)/\APure prog 200 [ax x,eE p,iD k,iD f,iD m] (.tup [iD v,iD e]):=by
 have HN:=aN9 x p V k f kd d z C h2;have HL:=Z2 x h p y k f kd d z C D E;have P:=λv J=>m7 x h p y k f v J;have Q:=(zE.1 z).1;have S:=(zE.1 C).1;have R:x.kz[((k:Nat):Int).toNat]?=some kd:=z;have T:kd.fields[((f:Nat):Int).toNat]?=some d:=C;by_cases c1:m<0
 .exact XP
 by_cases c2:fi x p.plants d k f<=m
 .exact XP
 obtain⟨g,u⟩:=Classical.axiomOfChoice (If (x:=x) (k:=k) (f:=f) y.v);have M:=kX y.v (dU x p.plants k f p.plants.length);have O:fi x p.plants d k f<=d.hi-d.lo+1:=by unfold fi;omega
 obtain⟨l,rfl⟩:∃a:Nat,m=a:=⟨m.toNat,by omega⟩
 have o:∀i:Nat,i<=l->d.lo<=oT g d.lo i/\oT g d.lo i<=4194308+i:=by
  intro i
  induction i with
  |zero=>intro _;have:=(u d.lo).2.2;show d.lo<=d.lo+(g d.lo:Int)/\d.lo+(g d.lo:Int)<=_;omega
  |succ i I=>intro hi;have:=I (by omega);have:=(u (oT g d.lo i+1)).2.2;show d.lo<=oT g d.lo i+1+(g (oT g d.lo i+1):Int)/\oT g d.lo i+1+(g (oT g d.lo i+1):Int)<=_;omega
 have G:=o l (zT _);refine⟨oT g d.lo l,0,by omega,?_⟩;refine ap func200 ntmps200 λBB=>?_
 repeat' first|refine iA ?_|intro b;conv=>whnf
 obtain⟨q,rfl⟩:∃c,c=b:=⟨_,rfl⟩
 refine aR mixed ai (γ:=Nat) (λj=>[(14,iD (d.lo+(j:Int)))]) (λ_=>[(q,.cells 81 (aH d))]) (λj=>j<=g d.lo) (λj=>g d.lo-j) 0 (aj av) (Sc.refl _) (zW _) ?_;intro j hj;have hb:=(u d.lo).2.2;by_cases hjl:j<g d.lo
 .have t:=P (d.lo+j) (by omega);rw[(u d.lo).2.1 j hjl]at t;exact LO
 obtain rfl:j=g d.lo:=by omega
 have t:=P (d.lo+(g d.lo:Int)) (by omega);rw[(u d.lo).1]at t
 repeat' first|refine iA ?_|intro b;conv=>whnf
 refine aR mixed ai (γ:=Nat) (λi=>[(14,iD (oT g d.lo i)),(15,iD i)]) (λ_=>[(q,.cells 81 (aH d))]) (λi=>i<=l) (λi=>l-i) 0 (aj av) (Sc.refl _) (zW _) ?_;intro i hi;have K:=o i hi;by_cases hil:i<l
 .have F:=o (i+1) hil;have U:oT g d.lo (i+1)=oT g d.lo i+1+(g (oT g d.lo i+1):Int):=rfl;have w:=u (oT g d.lo i+1);generalize L:oT g d.lo i=s at *
  repeat' first|refine iA ?_|intro b;conv=>whnf
  refine aR mixed ai (γ:=Nat) (λj=>[(14,iD (s+1+(j:Int)))]) (λ_=>[(q,.cells 81 (aH d))]) (λj=>j<=g (s+1)) (λj=>g (s+1)-j) 0 (aj av) (Sc.refl _) (zW _) ?_;intro j hj;by_cases hjl:j<g (s+1)
  .have r:=P (s+1+j) (by omega);rw[w.2.1 j hjl]at r;exact LO
  obtain rfl:j=g (s+1):=by omega
  have r:=P (s+1+(g (s+1):Int)) (by omega);rw[w.1]at r
  repeat' first|refine iA ?_|intro b;conv=>whnf
  exact⟨i+1,(aj av),Sc.refl _,by omega,by omega⟩
 obtain rfl:i=l:=by omega
 repeat' first|refine iA ?_|intro b;conv=>whnf
 exact Rt.pure rfl
abbrev apD(k i:Nat):D:=.agg [iD k,iD i]
theorem Ss{A B:Prop}(k:B)(h:ar B->A:=by intro q7;(first|refine bO ?_|refine aA ?_|(refine' ah ?hc ?_;(case hc=>first|exact HV|exact HI|exact HPT|exact HA|exact HT)));exact q7.1):A:=h ⟨k⟩
theorem uX(x:ak)(h:o5 x)(p:eJ)(n:gd p)(HV:APure prog 60 [ax x,eE p] (iD 0))(k f:Nat)(kd:au)(d:am)(l:x.kz[k]?=some kd)(o:kd.fields[f]?=some d)(c:Nat)(hc:p.counts[k]?=some (c:Int))(a:c<=16)(i:Nat)(hi:i<c):∃v b,(-8388608<=v/\v<=8388608)/\(b=false->cg p.plants (dU x p.plants k f p.plants.length)<(c:Int))/\APure prog 198 [ax x,eE p,apD k i,iD f] (.tup [iD v,bD b,iD 0]):=by
 have r:=h.nk;have t:=h.nf kd (zG l);have HI:=BP x k f kd d l o;have s:=(zE.1 l).1;have u:=(zE.1 o).1;have HPT:=BO k f (by omega) (by omega);have y:p.counts[((k:Nat):Int).toNat]?=some (c:Int):=hc;have w:=(zE.1 hc).1;have j:∀v∈[(9:Int),(k:Int),(f:Int)],cB v:=λv g=>by
  simp only[zU,yF,xE]at g;rcases g with rfl|rfl|rfl<;>(constructor<;>omega)
 obtain⟨pl,q,HA⟩:=K5 p.seed n.sd [9,(k:Int),(f:Int)] (by simp) j c a i hi;obtain⟨v,b,g,hb,HT⟩:=N7 x h p n k f pl (by omega);refine⟨v,b,g,λe=>by have:=hb e;omega,?_⟩;refine ap func198 ntmps198 λz=>?_
 repeat refine Ss ?_
 exact Rt.pure rfl
end
end Go.Proofs.YtilnpcolgcmofaaGreatDoor
