/- A part of the proof: Dq Dr Ds Dt Du Dv. -/
import Derived.Test.YtilnpcolgcmofaaGreatDoorS26
set_option maxRecDepth 100000
set_option maxHeartbeats 20000000
set_option linter.all false
namespace Go.Proofs.YtilnpcolgcmofaaGreatDoor
open Tryz
section
open Go
structure dw where
 kind:ByteArray
 field:ByteArray
 value:Int
 many:Int
 each:Int
abbrev xo(y:dw):List D:=[sD y.kind,sD y.field,iD y.value,iD y.many,iD y.each]
abbrev ptD(y:dw):D:=.agg (xo y)
abbrev Na(l:List dw):D:=.sl 5 (l.map xo)
structure eE where
 seed:List Nat
 counts:List Int
 plants:List dw
abbrev r6(p:eE):List D:=[cW p.seed,bi p.counts,Na p.plants]
abbrev ez(p:eE):D:=.agg (r6 p)
structure lG(y:dw):Prop where
 v:-4194304<=y.value/\y.value<=4194304
 m:1<=y.many/\y.many<=2
 e:1<=y.each/\y.each<=3
structure fY(p:eE):Prop where
 sd:fX p.seed
 cs:cL p.counts
 n:p.plants.length<=2
 v:∀y∈p.plants,lG y
def cC(x:ak)(y:dw):Int×Int:=match dv x (bc x y.kind)with
 |some k=>if aZ k y.field<0 then(-1,-1)else(bc x y.kind,aZ k y.field)
 |none=>(-1,-1)
theorem CB{x:ak}{i:Nat}{k:au}(h:x.kz[i]?=some k):dv x (i:Int)=some k:=by simp[dv,h]
theorem Sa{A B:Prop}(k:B)(h:ar B->A:=by intro q7;(first|refine bQ ?_|refine aA ?_|(refine' ah ?hc ?_;(case hc=>first|exact HK|exact HF)));exact q7.1):A:=h ⟨k⟩
theorem DS{p:Prop}(h:p:=by
 refine ao func101 ntmps101 λBB=>?_
 repeat refine Sa ?_
 exact Rt.pure rfl):p:=h
theorem Y2(x:ak)(h:oO x)(y:dw):APure prog 101 [ax x,ptD y] (.tup [iD (cC x y).1,iD (cC x y).2]):=by
 have b:=h.nk;have HK:=EA x y.kind (by omega);have l:=Y1 x y.kind;unfold cC;by_cases hn:bc x y.kind<0
 .have e:dv x (bc x y.kind)=none:=by unfold dv;rw[if_neg (by omega)]
  rw[e];exact DS
 .obtain⟨k,g⟩:∃k:Nat,bc x y.kind=k:=⟨(bc x y.kind).toNat,by omega⟩
  rw[g]at HK l⊢;obtain⟨kd,a⟩:∃kd,x.kz[k]?=some kd:=⟨_,zD (by omega)⟩
  have f:x.kz[((k:Nat):Int).toNat]?=some kd:=a;rw[CB a];have HF:=wM kd y.field (by have:=h.nf kd (zG a);omega);by_cases hf:aZ kd y.field<0
  .simp only[if_pos hf];exact DS
  .simp only[if_neg hf];exact DS
theorem CZ{x:ak}{y:dw}(h:0<=(cC x y).1):∃(k f:Nat)(kd:au)(d:am),cC x y=((k:Int),(f:Int))/\x.kz[k]?=some kd/\kd.fields[f]?=some d:=by
 unfold cC at *
 cases a:dv x (bc x y.kind)with
 |none=>rw[a]at h;simp at h
 |some kd=>
  rw[a]at h;simp only at h⊢;by_cases hf:aZ kd y.field<0
  .rw[if_pos hf]at h;simp at h
  .rw[if_neg hf]at h⊢;unfold dv at a;rw[if_pos h]at a;have b:aZ kd y.field<kd.fields.length:=Fk _ _;exact⟨(bc x y.kind).toNat,(aZ kd y.field).toNat,kd,kd.fields[(aZ kd y.field).toNat]'(by omega),by simp;omega,a,zD _⟩
def dS(x:ak)(l:List dw)(k f:Int)(q:Nat):List Int:=((List.range q).filter λi=>match l[i]? with|some y=>decide ((cC x y).1=k)&&decide ((cC x y).2=f)|none=>false).map λ(i:Nat)=>(i:Int)
theorem BU{x:ak}{l:List dw}{k f:Int}{q:Nat}{y:dw}(h:l[q]?=some y):dS x l k f (q+1)=dS x l k f q++(if(cC x y).1=k/\(cC x y).2=f then[(q:Int)]else[]):=by
 unfold dS;rw[List.range_succ,vZ,yB]
 congr 1
 by_cases e:(cC x y).1=k/\(cC x y).2=f
 .rw[if_pos e];simp[h,e.1,e.2]
 .rw[if_neg e];have:(decide ((cC x y).1=k)&&decide ((cC x y).2=f))=false:=by
   rw[Bool.and_eq_false_iff,xF,xF];omega
  simp[h,this]
theorem QF{x:ak}{l:List dw}{k f:Int}{q:Nat}{n:Int}(h:n∈dS x l k f q):∃(i:Nat)(y:dw),n=i/\i<q/\l[i]?=some y/\(cC x y).1=k/\(cC x y).2=f:=by
 unfold dS at h;obtain⟨i,c,rfl⟩:=xM.1 h;obtain⟨d,a⟩:=vP.1 c
 cases b:l[i]? with
 |none=>rw[b]at a;simp at a
 |some y=>
  rw[b]at a;simp only[zJ,zQ]at a;exact⟨i,y,rfl,xT.1 d,b,a.1,a.2⟩
theorem I5(x:ak)(l:List dw)(k f:Int)(q:Nat):(dS x l k f q).length<=q:=by
 unfold dS;rw[zL];exact xH (List.length_filter_le _ _) (by simp)
theorem R'{A B:Prop}(k:B)(h:ar B->A:=by intro q7;(first|refine bQ ?_|refine ir ?_|(refine' ah ?hc ?_;(case hc=>exact HF)));exact q7.1):A:=h ⟨k⟩
theorem LG{p:Prop}(h:p:=by
 rw[←hsn]at hr
 repeat refine rK ?_
 exact⟨(i+1,v,s),(aj aw),Sc.refl _,⟨by simp only;omega,hr⟩,by simp only;omega⟩):p:=h
theorem PO(x:ak)(h:oO x)(l:List dw)(hl:l.length<=100)(k f:Int):APure prog 104 [ax x,Na l,iD k,iD f] (bi (dS x l k f l.length)):=by
 refine ao func104 ntmps104 λq=>?_
 repeat refine R' ?_
 refine aV mixed ai (γ:=Nat×Value×af) (λg=>[(10,iD g.1),(9,.v g.2.1)]) (λg=>g.2.2) (λg=>g.1<=l.length/\RI (dS x l k f g.1) g.2.1 g.2.2) (λg=>l.length-g.1) (0,.slice none 0 0,[]) (aj aw) (Sc.refl _) ⟨zW _,ae.nil _ _⟩ ?_;rintro⟨i,v,s⟩ ⟨hi,hr⟩;simp only at hi hr⊢;by_cases hil:i<l.length
 .obtain⟨y,a⟩:∃y,l[i]?=some y:=⟨_,zD hil⟩
  have hy:l[((i:Nat):Int).toNat]?=some y:=a;have HF:=Y2 x h y;have hsn:=BU (x:=x) (k:=k) (f:=f) a;have b:=I5 x l k f (i+1);by_cases e1:(cC x y).1=k
  .by_cases e2:(cC x y).2=f
   .rw[if_pos ⟨e1,e2⟩]at hsn
    repeat refine rK ?_
    refine Ap.go rfl rfl rfl rfl hr (bR _) rfl (zs:=(dS x l k f (i+1)).map λn=>[iD n]) (by rw[hsn,yB];rfl) (by rw[zL];omega) (by rw[zL];omega) (λs'=>s') cZ (λo j s' hr=>?_)
    repeat refine rK ?_
    exact sW
   .rw[if_neg (λe=>e2 e.2),zZ]at hsn;exact LG
  .rw[if_neg (λe=>e1 e.1),zZ]at hsn;exact LG
 .obtain rfl:i=l.length:=by omega
  repeat refine rK ?_
  exact Rt.vs (Vs.row hr (bR _))
def l3(l:List dw)(n:Int):Int:=match l[n.toNat]? with|some y=>y.many*y.each|none=>0
def ce(l:List dw)(set:List Int):Int:=(set.map (l3 l)).sum
theorem DJ{p:Prop}(h:p:=by
 have:y.many=1\/y.many=2:=by omega
 rcases this with e|e<;>rw[e]<;>omega):p:=h
theorem rt{l:List dw}(h:∀y∈l,lG y)(n:Int):0<=l3 l n/\l3 l n<=6:=by
 unfold l3;split
 .rename_i y a;have:=h y (zG a);have m:=this.m;have b:=this.e;exact DJ
 .omega
theorem Fl{l:List dw}(h:∀y∈l,lG y):∀(set:List Int),0<=ce l set/\ce l set<=6*(set.length:Int)
 |[]=>by simp[ce]
 |n::set=>by
  have i:=Fl h set;have a:=rt h n;unfold ce at *;rw[List.map_cons,List.sum_cons,List.length_cons];omega
theorem aD3(l:List dw)(h:∀y∈l,lG y)(set:List Int)(hs:∀n∈set,0<=n/\n<(l.length:Int))(g:set.length<=100):APure prog 103 [Na l,bi set] (iD (ce l set)):=by
 refine ao func103 ntmps103 λr=>?_
 repeat refine aN ?_
 refine aV mixed ai (γ:=Nat) (λi=>[(5,iD (ce l (set.take i))),(6,iD i)]) (λ_=>[]) (λi=>i<=set.length) (λi=>set.length-i) 0 (aj aw) (Sc.refl _) (zW _) ?_;intro i hi;by_cases hil:i<set.length
 .obtain⟨n,a⟩:∃y,set[i]?=some y:=⟨_,zD hil⟩
  have o:set[((i:Nat):Int).toNat]?=some n:=a;have j:=hs n (zG a);obtain⟨y,hy⟩:∃y,l[n.toNat]?=some y:=⟨_,zD (by omega)⟩
  have f:ce l (set.take (i+1))=ce l (set.take i)+y.many*y.each:=by
   unfold ce;rw[xC,a,yB,vO];simp[l3,hy]
  have ht:=Fl h (set.take i);have e:=Fl h (set.take (i+1));have b:=rt h n;have q:l3 l n=y.many*y.each:=by unfold l3;rw[hy]
  have k:(set.take i).length<=100:=by rw[zR];omega
  exact jK
 .obtain rfl:i=set.length:=by omega
  rw[yM]
  repeat refine aN ?_
  refine Rt.pure (zM iD ?_)
  rfl
def B3(l:List dw)(n:Int):Int:=match l[n.toNat]? with|some y=>y.many|none=>0
def iy(l:List dw)(set:List Int):Int:=(set.map (B3 l)).sum
theorem kL{l:List dw}(h:∀y∈l,lG y):∀(set:List Int),0<=iy l set/\iy l set<=2*(set.length:Int)
 |[]=>by simp[iy]
 |n::set=>by
  have i:=kL h set;have b:0<=B3 l n/\B3 l n<=2:=by
   unfold B3;split
   .rename_i y a;have:=(h y (zG a)).m;omega
   .omega
  unfold iy at *;rw[List.map_cons,List.sum_cons,List.length_cons];omega
def fe(x:ak)(l:List dw)(d:am)(k f:Int):Int:=d.hi-d.lo+1-iy l (dS x l k f l.length)
theorem dz{A B:Prop}(k:B)(h:ar B->A:=by intro q7;(first|refine bQ ?_|refine aA ?_|(refine' ah ?hc ?_;(case hc=>exact HO)));exact q7.1):A:=h ⟨k⟩
theorem Zz(x:ak)(h:oO x)(p:eE)(e:fY p)(k f:Nat)(kd:au)(d:am)(l:x.kz[k]?=some kd)(o:kd.fields[f]?=some d)(v:-2097152<=d.lo/\d.lo<=2097152)(D:-2097152<=d.hi/\d.hi<=2097152):APure prog 102 [ax x,ez p,iD k,iD f] (iD (fe x p.plants d k f)):=by
 have j:=e.n;have HO:=PO x h p.plants (by omega) k f;have z:=(zE.1 l).1;have E:=(zE.1 o).1;have C:x.kz[((k:Nat):Int).toNat]?=some kd:=l;have F:kd.fields[((f:Nat):Int).toNat]?=some d:=o;have t:=I5 x p.plants k f p.plants.length;have g:=λn(j:n∈dS x p.plants k f p.plants.length)=>QF j;unfold fe;generalize dS x p.plants k f p.plants.length=set at *;have e0:iy p.plants (set.take 0)=0:=rfl;refine ao func102 ntmps102 λJ=>?_
 repeat' first|refine dz ?_|intro b;conv=>whnf
 refine aV mixed ai (γ:=Nat) (λi=>[(10,iD (d.hi-d.lo+1-iy p.plants (set.take i))),(12,iD i)]) (λ_=>[(b,.cells 81 (aH d))]) (λi=>i<=set.length) (λi=>set.length-i) 0 (aj aw) (Sc.refl _) (zW _) ?_;intro i hi;by_cases hil:i<set.length
 .obtain⟨n,a⟩:∃y,set[i]?=some y:=⟨_,zD hil⟩
  have u:set[((i:Nat):Int).toNat]?=some n:=a;obtain⟨q,y,rfl,G,hy,_,_⟩:=g n (zG a);have r:p.plants[((q:Nat):Int).toNat]?=some y:=hy;have s:iy p.plants (set.take (i+1))=iy p.plants (set.take i)+y.many:=by
   unfold iy;rw[xC,a,yB,vO];simp[B3,hy]
  have I:=(e.v y (zG hy)).m;have ht:=kL e.v (set.take i);have w:(set.take i).length<=100:=by rw[zR];omega
  repeat' first|refine dz ?_|intro b;conv=>whnf
  exact⟨i+1,(aj aw),Sc.refl _,by omega,by omega⟩
 .obtain rfl:i=set.length:=by omega
  rw[yM]
  repeat' first|refine dz ?_|intro b;conv=>whnf
  refine Rt.pure (zM iD ?_)
  rfl
theorem Bk(x:ak)(k f:Nat)(kd:au)(d:am)(a:x.kz[k]?=some kd)(g:kd.fields[f]?=some d):APure prog 239 [ax x,iD k,iD f] (bD true):=by
 have l:=(zE.1 a).1;have e:=(zE.1 g).1;have b:x.kz[((k:Nat):Int).toNat]?=some kd:=a;refine ao func239 ntmps239 λi=>?_
 repeat refine aN ?_
 refine Rt.pure (zM bD ?_);simp;omega
theorem Bj(k f:Nat)(a:k<=100)(b:f<=100):APure prog 240 [iD k,iD f] (bi [9,(k:Int),(f:Int)]):=by
 refine ao func240 ntmps240 λe=>?_
 repeat refine aN ?_
 exact Rt.pure rfl
end
section
open Go
def ld(kd:au)(d:am)(r:cF):Bool:=(r.kind.toList==kd.name.toList)&&((r.a.toList==d.name.toList)||(r.b.toList==d.name.toList))
def fV(x:ak)(k:Nat)(d:am)(i j:Nat):Bool:=match x.kz[i]? with
 |some a=>match a.fields[j]? with
  |some c=>decide (c.kind=8)&&((c.of.toList==d.name.toList)&&decide (aI x i j=k))
  |none=>false
 |none=>false
theorem bb2{x:ak}{k:Nat}{d:am}{i j:Nat}{a:au}{c:am}(b:x.kz[i]?=some a)(h:a.fields[j]?=some c):fV x k d i j=(decide (c.kind=8)&&((c.of.toList==d.name.toList)&&decide (aI x i j=k))):=by unfold fV;rw[b];simp only;rw[h]
theorem IZ{x:ak}{k:Nat}{d:am}{i j:Nat}(h:fV x k d i j=true):∃a c,x.kz[i]?=some a/\a.fields[j]?=some c:=by
 unfold fV at h
 cases e:x.kz[i]? with
 |none=>rw[e]at h;cases h
 |some a=>
  rw[e]at h;simp only at h
  cases b:a.fields[j]? with
  |none=>rw[b]at h;cases h
  |some c=>exact⟨a,c,rfl,b⟩
theorem OW{p:Prop}(h:p:=by
 rw[bb2 hki0' hc0']at hno
 cases e1:decide (c.kind=8)with
 |false=>
  have e1':=of_decide_eq_false e1
  repeat' first|refine cq ?_|intro b;conv=>whnf
  exact⟨j+1,(aj aw),(Sc.sl (yG _ _)),by omega,by omega⟩
 |true=>
  have e1':=wY e1;rw[e1,Bool.true_and]at hno
  cases e2:(c.of.toList==d.name.toList)with
  |false=>
   repeat' first|refine cq ?_|intro b;conv=>whnf
   exact⟨j+1,(aj aw),(Sc.sl (yG _ _)),by omega,by omega⟩
  |true=>
   rw[e2,Bool.true_and,xF]at hno;have HU:=hup i j
   repeat' first|refine cq ?_|intro b;conv=>whnf
   exact⟨j+1,(aj aw),(Sc.sl (yG _ _)),by omega,by omega⟩):p:=h
theorem X7{p:Prop}(h:p:=by
 obtain⟨r,hr0⟩:∃y,x.rules[q]?=some y:=⟨_,zD (by omega)⟩
 have hr:x.rules[((q:Nat):Int).toNat]?=some r:=hr0;have hno:=hnoR q r hr0;unfold ld at hno
 cases e1:(r.kind.toList==kd.name.toList)with
 |false=>
  repeat' first|refine cq ?_|intro b;conv=>whnf
  exact⟨q+1,(aj aw),Sc.refl _,by omega,by omega⟩
 |true=>
  rw[e1,Bool.true_and,wA]at hno;obtain⟨e2,e3⟩:=hno
  repeat' first|refine cq ?_|intro b;conv=>whnf
  exact⟨q+1,(aj aw),Sc.refl _,by omega,by omega⟩):p:=h
theorem Xm{p:Prop}(h:p:=by
 obtain rfl:j=ki.fields.length:=by omega
 repeat' first|refine cq ?_|intro b;conv=>whnf
 exact⟨i+1,(aj aw),Sc.refl _,by omega,by omega⟩):p:=h
theorem La{p:Prop}(h:p:=by
 repeat' first|refine cq ?_|intro b;conv=>whnf
 exact⟨q+1,(aj aw),Sc.refl _,by omega,by omega⟩):p:=h
theorem DN{p:Prop}(h:p:=by
 repeat' first|refine cq ?_|intro b;conv=>whnf
 refine Rt.pure (zM bD ?_);rfl):p:=h
theorem aD4(x:ak)(h:oO x)(k f:Nat)(kd:au)(d:am)(D:x.kz[k]?=some kd)(U:kd.fields[f]?=some d):∃V,(V=true->d.kind=2)/\APure prog 59 [ax x,iD k,iD f] (bD V):=by
 have Z:=h.nk;have Y:=h.nr;have hkl:=(zE.1 D).1;have hfl:=(zE.1 U).1;have hk':x.kz[((k:Nat):Int).toNat]?=some kd:=D;have hf':kd.fields[((f:Nat):Int).toNat]?=some d:=U;have hkf:=h.nf kd (zG D);have hup:=λi j=>PY x i j (by omega) (λk D=>by have:=h.nf k D;omega);by_cases h2:d.kind=2
 case neg=>
  refine⟨false,(λe=>by cases e),?_⟩;refine ao func59 ntmps59 λQ=>?_
  repeat' first|refine cq ?_|intro b;conv=>whnf
  refine Rt.pure (zM bD ?_);rfl
 by_cases hR:∃q:Nat,∃r,x.rules[q]?=some r/\ld kd d r=true
 .obtain⟨q0,X,J,P⟩:=hR;obtain⟨E,_,⟨G,w,v⟩,g⟩:=ww (p:=λq:Nat=>∃r,x.rules[q]?=some r/\ld kd d r=true) ⟨X,J,P⟩;refine⟨false,(λe=>by cases e),?_⟩;have R:=(zE.1 w).1;refine ao func59 ntmps59 λQ=>?_
  repeat' first|refine cq ?_|intro b;conv=>whnf
  refine aV mixed ai (γ:=Nat) (λi=>[(8,iD i)]) (λ_=>[(b,aE.cells 81 (aH d))]) (λq=>q<=E) (λq=>E-q) 0 (aj aw) (Sc.refl _) (zW _) ?_;intro q F;by_cases hql:q<E
  .obtain⟨r,hr0⟩:∃y,x.rules[q]?=some y:=⟨_,zD (by omega)⟩
   have hr:x.rules[((q:Nat):Int).toNat]?=some r:=hr0;have hno:ld kd d r=false:=by
    cases s:ld kd d r with
    |false=>rfl
    |true=>exact absurd ⟨r,hr0,s⟩ (g q hql)
   unfold ld at hno
   cases e1:(r.kind.toList==kd.name.toList)with
   |false=>exact La
   |true=>
    rw[e1,Bool.true_and,wA]at hno;obtain⟨e2,e3⟩:=hno;exact La
  .obtain rfl:q=E:=by omega
   have hr:x.rules[((q:Nat):Int).toNat]?=some G:=w;unfold ld at v;simp only[zJ,xO]at v;obtain⟨e1,e2⟩:=v
   cases e3:(G.a.toList==d.name.toList)with
   |true=>exact DN
   |false=>
    have e4:(G.b.toList==d.name.toList)=true:=by rcases e2 with e|e;rw[e3]at e;cases e;exact e
    repeat' first|refine cq ?_|intro b;conv=>whnf
    refine Rt.pure (zM bD ?_);rfl
 have hnoR:∀(q:Nat)r,x.rules[q]?=some r->ld kd d r=false:=λq r F=>by
  cases s:ld kd d r with
  |false=>rfl
  |true=>exact absurd ⟨q,r,F,s⟩ hR
 have hC:(∃a o,fV x k d a o=true/\(∀i j,i<a->fV x k d i j=false)/\∀j,j<o->fV x k d a j=false)\/∀i j,fV x k d i j=false:=by
  by_cases hc:∃i,∃j,fV x k d i j=true
  .obtain⟨i,hi⟩:=hc;obtain⟨a,_,⟨j,hj⟩,g⟩:=ww (p:=λi=>∃j,fV x k d i j=true) hi;obtain⟨o,_,L,t⟩:=ww (p:=λj=>fV x k d a j=true) hj;refine .inl ⟨a,o,L,λi j hi=>?_,λj hj=>?_⟩
   .cases s:fV x k d i j with
    |false=>rfl
    |true=>exact absurd ⟨j,s⟩ (g i hi)
   .cases s:fV x k d a j with
    |false=>rfl
    |true=>exact absurd s (t j hj)
  .refine .inr λi j=>?_
   cases s:fV x k d i j with
   |false=>rfl
   |true=>exact absurd ⟨i,j,s⟩ hc
 rcases hC with⟨a,o,hb,O,M⟩|z
 .refine⟨false,(λe=>by cases e),?_⟩;obtain⟨I,c0,l,u⟩:=IZ hb;have T:=(zE.1 l).1;have S:=(zE.1 u).1;rw[bb2 l u]at hb;simp only[zJ,zQ]at hb;obtain⟨b1,b2,b3⟩:=hb;refine ao func59 ntmps59 λQ=>?_
  repeat' first|refine cq ?_|intro b;conv=>whnf
  refine aV mixed ai (γ:=Nat) (λi=>[(8,iD i)]) (λ_=>[(b,aE.cells 81 (aH d))]) (λq=>q<=x.rules.length) (λq=>x.rules.length-q) 0 (aj aw) (Sc.refl _) (zW _) ?_;intro q F;by_cases hql:q<x.rules.length
  .exact X7
  obtain rfl:q=x.rules.length:=by omega
  repeat' first|refine cq ?_|intro b;conv=>whnf
  refine aV mixed ai (γ:=Nat) (λi=>[(9,iD i)]) (λ_=>[(b,aE.cells 81 (aH d))]) (λq=>q<=a) (λq=>a-q) 0 (aj aw) (Sc.refl _) (zW _) ?_;intro i hi;obtain⟨ki,hki0'⟩:∃y,x.kz[i]?=some y:=⟨_,zD (by omega)⟩
  have K:x.kz[((i:Nat):Int).toNat]?=some ki:=hki0';have C:=h.nf ki (zG hki0');by_cases hii:i<a
  .repeat' first|refine cq ?_|intro b;conv=>whnf
   refine aV mixed ai (γ:=Nat) (λi=>[(10,iD i)]) (λ_=>[(b,aE.cells 81 (aH d))]) (λq=>q<=ki.fields.length) (λq=>ki.fields.length-q) 0 (aj aw) (Sc.refl _) (zW _) ?_;intro j hj;by_cases hjl:j<ki.fields.length
   .obtain⟨c,hc0'⟩:∃y,ki.fields[j]?=some y:=⟨_,zD (by omega)⟩
    have hc:ki.fields[((j:Nat):Int).toNat]?=some c:=hc0';have hno:=O i j hii;exact OW
   .exact Xm
  .obtain rfl:i=a:=by omega
   obtain rfl:ki=I:=by rw[l]at hki0';exact(wK hki0').symm
   repeat' first|refine cq ?_|intro b;conv=>whnf
   refine aV mixed ai (γ:=Nat) (λi=>[(10,iD i)]) (λ_=>[(b,aE.cells 81 (aH d))]) (λq=>q<=o) (λq=>o-q) 0 (aj aw) (Sc.refl _) (zW _) ?_;intro j hj;by_cases hjl:j<o
   .obtain⟨c,hc0'⟩:∃y,ki.fields[j]?=some y:=⟨_,zD (by omega)⟩
    have hc:ki.fields[((j:Nat):Int).toNat]?=some c:=hc0';have hno:=M j hjl;exact OW
   .obtain rfl:j=o:=by omega
    have hc:ki.fields[((j:Nat):Int).toNat]?=some c0:=u;have HU:=hup i j;exact DN
 .refine⟨true,(λ_=>h2),?_⟩;refine ao func59 ntmps59 λQ=>?_
  repeat' first|refine cq ?_|intro b;conv=>whnf
  refine aV mixed ai (γ:=Nat) (λi=>[(8,iD i)]) (λ_=>[(b,aE.cells 81 (aH d))]) (λq=>q<=x.rules.length) (λq=>x.rules.length-q) 0 (aj aw) (Sc.refl _) (zW _) ?_;intro q F;by_cases hql:q<x.rules.length
  .exact X7
  obtain rfl:q=x.rules.length:=by omega
  repeat' first|refine cq ?_|intro b;conv=>whnf
  refine aV mixed ai (γ:=Nat) (λi=>[(9,iD i)]) (λ_=>[(b,aE.cells 81 (aH d))]) (λq=>q<=x.kz.length) (λq=>x.kz.length-q) 0 (aj aw) (Sc.refl _) (zW _) ?_;intro i hi;by_cases hii:i<x.kz.length
  .obtain⟨ki,hki0'⟩:∃y,x.kz[i]?=some y:=⟨_,zD (by omega)⟩
   have K:x.kz[((i:Nat):Int).toNat]?=some ki:=hki0';have C:=h.nf ki (zG hki0')
   repeat' first|refine cq ?_|intro b;conv=>whnf
   refine aV mixed ai (γ:=Nat) (λi=>[(10,iD i)]) (λ_=>[(b,aE.cells 81 (aH d))]) (λq=>q<=ki.fields.length) (λq=>ki.fields.length-q) 0 (aj aw) (Sc.refl _) (zW _) ?_;intro j hj;by_cases hjl:j<ki.fields.length
   .obtain⟨c,hc0'⟩:∃y,ki.fields[j]?=some y:=⟨_,zD (by omega)⟩
    have hc:ki.fields[((j:Nat):Int).toNat]?=some c:=hc0';have hno:=z i j;exact OW
   .exact Xm
  .obtain rfl:i=x.kz.length:=by omega
   exact DN
end
section
open Go
def P9(x:ak):Prop:=∀k∈x.kz,∀f∈k.fields,(-2097152<=f.lo/\f.lo<=2097152)/\(-2097152<=f.hi/\f.hi<=2097152)
def jX(x:ak)(y:dw):Prop:=0<=(cC x y).1/\∀(k f:Nat)kd d,cC x y=((k:Int),(f:Int))->x.kz[k]?=some kd->kd.fields[f]?=some d->d.kind=2
def N0(y z:dw):Bool:=decide (y.value<z.value+z.many)&&decide (z.value<y.value+y.many)
theorem ip{A B:Prop}(k:B)(h:ar B->A:=by intro q7;(first|refine bQ ?_|refine aA ?_|(refine' ah ?hc ?_;(case hc=>first|exact HF|exact HP|exact HO|exact HT)));exact q7.1):A:=h ⟨k⟩
theorem cq6{p:Prop}(h:p:=by
 repeat' first|refine ip ?_|intro b;conv=>whnf
 obtain⟨b10,rfl⟩:∃c,c=b:=⟨_,rfl⟩
 obtain⟨b7,rfl⟩:∃c,c=b:=⟨_,rfl⟩
 refine aV mixed ai (γ:=Nat) (λq=>[(12,iD q)]) (λ_=>[(b10,.cells 81 (aH d)),(b7,.cells 150 (xo y))]) (λq=>q<=set.length) (λq=>set.length-q) 0 (aj aw) (Sc.refl _) (zW _) ?_;intro q hq;by_cases hqq:q<set.length
 .obtain⟨n,hn0⟩:∃y,set[q]?=some y:=⟨_,zD (by omega)⟩
  obtain⟨a,z,rfl,hal,hz0⟩:=hat q n hn0;have hn1:set[((q:Nat):Int).toNat]?=some (a:Int):=hn0;have hz:p.plants[((a:Nat):Int).toNat]?=some z:=hz0;have hov:N0 y z=false:=by
   cases hh:N0 y z with
   |false=>rfl
   |true=>exact absurd ⟨q,a,z,hn0,hz0,hh⟩ hov
  have hzs:=hp.v z (zG hz0);have zv:=hzs.v;have zm:=hzs.m;have hov':N0 y z=false:=hov;unfold N0 at hov'
  cases c1:decide (y.value<z.value+z.many)with
  |false=>
   have c1':=of_decide_eq_false c1
   repeat' first|refine ip ?_|intro b;conv=>whnf
   exact⟨q+1,(aj aw),(Sc.sl (yG _ _)),by omega,by omega⟩
  |true=>
   rw[c1,Bool.true_and]at hov';have c1':=wY c1;have c2':=of_decide_eq_false hov'
   repeat' first|refine ip ?_|intro b;conv=>whnf
   exact⟨q+1,(aj aw),(Sc.sl (yG _ _)),by omega,by omega⟩
 .obtain rfl:q=set.length:=by omega
  repeat' first|refine ip ?_|intro b;conv=>whnf
  refine Rt.pure (zM iD ?_);rfl):p:=h
theorem DO{p:Prop}(h:p:=by
 repeat' first|refine ip ?_|intro b;conv=>whnf
 refine Rt.pure (zM iD ?_);rfl):p:=h
theorem G2(x:ak)(h:oO x)(K:P9 x)(p:eE)(hp:fY p)(hcl:p.counts.length=x.kz.length)(i:Nat)(y:dw)(hy:p.plants[i]?=some y):∃e,(e=0->jX x y)/\APure prog 100 [ax x,ez p,iD i] (iD e):=by
 have U:=h.nk;have E:=hp.n;have Z:=(zE.1 hy).1;have T:p.plants[((i:Nat):Int).toNat]?=some y:=hy;have HF:=Y2 x h y;have s:=hp.v y (zG hy);have yv:=s.v;have ym:=s.m;have ye:=s.e;by_cases hneg:(cC x y).1<0
 .refine⟨12,(λe=>by cases e),?_⟩;refine ao func100 ntmps100 λC=>?_;exact DO
 obtain⟨k,f,kd,d,g,o,r⟩:=CZ (x:=x) (y:=y) (by omega);rw[g]at HF hneg;have X:=(zE.1 o).1;have hfl:=(zE.1 r).1;have Y:x.kz[((k:Nat):Int).toNat]?=some kd:=o;have hf':kd.fields[((f:Nat):Int).toNat]?=some d:=r;have hdb:=K kd (zG o) d (zG r);obtain⟨O,G,HP⟩:=aD4 x h k f kd d o r;have L:O=true->jX x y:=λe=>⟨by rw[g];simp,λk' f' S d' w F v=>by
  rw[g]at w;simp only[vY,Int.natCast_inj]at w;obtain⟨rfl,rfl⟩:=w;rw[o]at F;cases F
  rw[r]at v;cases v
  exact G e⟩
 cases O with
 |false=>
  refine⟨13,(λe=>by cases e),?_⟩;refine ao func100 ntmps100 λC=>?_;exact DO
 |true=>
  by_cases hr:y.value<d.lo\/d.hi<y.value\/d.hi-y.value<y.many-1
  .refine⟨5,(λe=>by cases e),?_⟩;refine ao func100 ntmps100 λC=>?_
   repeat' first|refine ip ?_|intro b;conv=>whnf|(refine aT ?_;constructor<;>intro hc)
   all_goals first|(refine Rt.pure (zM iD ?_);rfl)|(exfalso;omega)
  have r1:d.lo<=y.value:=by omega
  have r2:y.value<=d.hi:=by omega
  have r3:y.many-1<=d.hi-y.value:=by omega
  clear hr;have HO:APure prog 104 [ax x,.sl 5 ((p.plants.map xo).take ((i:Nat):Int).toNat),iD k,iD f] (bi (dS x (p.plants.take i) k f (p.plants.take i).length)):=by
   rw[Int.toNat_natCast,←vR];exact PO x h _ (by rw[zR];omega) k f
  have J:=λn(E:n∈dS x (p.plants.take i) k f (p.plants.take i).length)=>QF E;have I:=I5 x (p.plants.take i) k f (p.plants.take i).length;generalize dS x (p.plants.take i) k f (p.plants.take i).length=set at *;rw[zR]at I;have hat:∀(q:Nat)n,set[q]?=some n->∃(a:Nat)(z:dw),n=(a:Int)/\a<p.plants.length/\p.plants[a]?=some z:=λq n hq=>by
   obtain⟨a,z,w,F,v,_,_⟩:=J n (zG hq);rw[zR]at F;rw[List.getElem?_take_of_lt (by omega)]at v;exact⟨a,z,w,by omega,v⟩
  by_cases hov:∃q:Nat,∃(a:Nat)(z:dw),set[q]?=some (a:Int)/\p.plants[a]?=some z/\N0 y z=true
  .obtain⟨q,hq⟩:=hov;obtain⟨D,_,⟨R,M,u,l,j⟩,Q⟩:=ww (p:=λq:Nat=>∃(a:Nat)(z:dw),set[q]?=some (a:Int)/\p.plants[a]?=some z/\N0 y z=true) hq;have P:=(zE.1 u).1;refine⟨7,(λe=>by cases e),?_⟩;refine ao func100 ntmps100 λC=>?_
   repeat' first|refine ip ?_|intro b;conv=>whnf
   obtain⟨b10,rfl⟩:∃c,c=b:=⟨_,rfl⟩
   obtain⟨b7,rfl⟩:∃c,c=b:=⟨_,rfl⟩
   refine aV mixed ai (γ:=Nat) (λq=>[(12,iD q)]) (λ_=>[(b10,.cells 81 (aH d)),(b7,.cells 150 (xo y))]) (λq=>q<=D) (λq=>D-q) 0 (aj aw) (Sc.refl _) (zW _) ?_;intro q hq;by_cases hqq:q<D
   .exfalso;omega
   .obtain rfl:q=D:=by omega
    have hn1:set[((q:Nat):Int).toNat]?=some (R:Int):=u;have hz:p.plants[((R:Nat):Int).toNat]?=some M:=l;have hzs:=hp.v M (zG l);have zv:=hzs.v;have zm:=hzs.m;unfold N0 at j;simp only[zJ,zQ]at j;obtain⟨c1,c2⟩:=j;exact DO
  .have HT:=aD3 p.plants hp.v set (λn E=>by
    obtain⟨q,hq⟩:=yO E;obtain⟨a,z,rfl,hal,_⟩:=hat q n hq;omega) (by omega)
   have ht:=Fl hp.v set;have V:0<=y.many*y.each/\y.many*y.each<=6:=DJ;obtain⟨ck,t⟩:∃y,p.counts[k]?=some y:=⟨_,zD (by omega)⟩
   have hck:p.counts[((k:Nat):Int).toNat]?=some ck:=t;by_cases hlim:ck<ce p.plants set+y.many*y.each
   .refine⟨4,(λe=>by cases e),?_⟩;refine ao func100 ntmps100 λC=>?_;exact cq6
   .refine⟨0,(λ_=>L rfl),?_⟩;refine ao func100 ntmps100 λC=>?_;exact cq6
end
section
open Go
theorem aU8{α:Type}{n:Nat}{q:Nat->α->Prop}[Inhabited α](h:∀i,i<n->∃a,q i a):∃g:Nat->α,∀i,i<n->q i (g i):=
 ⟨λi=>if b:i<n then Classical.choose (h i b)else default,λi b=>by simp only[dif_pos b];exact Classical.choose_spec (h i b)⟩
structure gu(x:ak)(p:eE):Prop where
 pl:∀y∈p.plants,jX x y
 cl:p.counts.length=x.kz.length
 lim:(eM x).all (λl=>i7 l p.counts)=true
 lef:∀y∈p.plants,∀(k f:Nat)kd d,cC x y=((k:Int),(f:Int))->x.kz[k]?=some kd->kd.fields[f]?=some d->fe x p.plants d k f=0->p.counts.getD k 0<=ce p.plants (dS x p.plants k f p.plants.length)
theorem SL{A B:Prop}(k:B)(h:ar B->A:=by intro q7;(first|refine zb ?_|((with_reducible refine Dr.l ?h ?_);(case h=>decide +kernel))|refine ZN ?_);exact q7.1):A:=h ⟨k⟩
theorem ec{A B:Prop}(k:B)(h:ar B->A:=by intro q7;(first|refine bQ ?_|refine SL ?_|(refine' ah ?hc ?_;(case hc=>first|exact HL|exact HN|exact HA|exact HO|exact HF|exact HE|exact HS|exact HT)));exact q7.1):A:=h ⟨k⟩
theorem LD{p:Prop}(h:p:=by
 have HO:=(hg i (by omega)).2;rw[hg0 i hii]at HO
 repeat refine ec ?_
 exact⟨i+1,(aj aw),Sc.refl _,by omega,by omega⟩):p:=h
theorem nQ{p:Prop}(h:p:=by
 repeat refine ec ?_
 exact⟨i+1,(aj aw),Sc.refl _,by omega,by omega⟩):p:=h
theorem be0(x:ak)(h:ox x)(J:P9 x)(HC:APure prog 44 [ax x] (.sl 4 []))(p:eE)(v:fY p):∃e,(e=0->gu x p)/\APure prog 60 [ax x,ez p] (iD e):=by
 have hnk:=h.sm.nk;have hpn:=v.n;have hcl:=v.cs.l;have hsd:=v.sd.n;have hz:=jT p.seed;have P:kI p.counts=true:=by
  unfold kI;rw[yA];intro c hc;have:=v.cs.v c hc;simp;omega
 have HL:=aS9 x h.sm HC;have HN:=aB8 p.counts (by omega);rw[P]at HN;have HA:=G3 (eM x) p.counts (by omega) (by have:=h.lm.l;omega);by_cases hc:p.counts.length=x.kz.length
 case neg=>
  refine⟨1,(λe=>by cases e),?_⟩;refine ao func60 ntmps60 λU=>?_
  repeat refine ec ?_
  refine Rt.pure (zM iD ?_);rfl
 cases F:(eM x).all (λl=>i7 l p.counts)with
 |false=>
  rw[F]at HA;refine⟨14,(λe=>by cases e),?_⟩;refine ao func60 ntmps60 λU=>?_
  repeat refine ec ?_
  refine Rt.pure (zM iD ?_);rfl
 |true=>
  rw[F]at HA;obtain⟨g,hg⟩:∃g:Nat->Int,∀i,i<p.plants.length->(∀y,p.plants[i]?=some y->g i=0->jX x y)/\APure prog 100 [ax x,ez p,iD i] (iD (g i)):=by
   refine aU8 (q:=λ(i:Nat)(z:Int)=>(∀y,p.plants[i]?=some y->z=0->jX x y)/\APure prog 100 [ax x,ez p,iD i] (iD z)) λi hi=>?_;obtain⟨y,b⟩:∃y,p.plants[i]?=some y:=⟨_,zD hi⟩
   obtain⟨e,he,H⟩:=G2 x h.sm J p v hc i y b;exact⟨e,λy' M hz=>by rw[b]at M;cases M;exact he hz,H⟩
  by_cases hbad:∃i:Nat,i<p.plants.length/\g i≠0
  .obtain⟨i0,L⟩:=hbad;obtain⟨I,_,⟨S,Z⟩,D⟩:=ww (p:=λi:Nat=>i<p.plants.length/\g i≠0) L;refine⟨g I,(λe=>absurd e Z),?_⟩;refine ao func60 ntmps60 λU=>?_
   repeat refine ec ?_
   refine aV mixed ai (γ:=Nat) (λq=>[(8,iD q)]) (λ_=>[]) (λq=>q<=I) (λq=>I-q) 0 (aj aw) (Sc.refl _) (zW _) ?_;intro i hi;by_cases hii:i<I
   .have HO:=(hg i (by omega)).2;have Y:g i=0:=Classical.not_not.1 λu=>D i hii ⟨by omega,u⟩;rw[Y]at HO;exact nQ
   .obtain rfl:i=I:=by omega
    have HO:=(hg i S).2
    repeat refine ec ?_
    refine Rt.pure (zM iD ?_);rfl
  have hg0:∀i,i<p.plants.length->g i=0:=λi hi=>Classical.not_not.1 λu=>hbad ⟨i,hi,u⟩;have K:∀(i:Nat)y,p.plants[i]?=some y->jX x y:=λi y hy=>(hg i (zE.1 hy).1).1 y hy (hg0 i (zE.1 hy).1)
  -- what the second loop looks at
  have s:∀i,i<p.plants.length->∃(k f:Nat)(kd:au)(d:am)(y:dw),p.plants[i]?=some y/\cC x y=((k:Int),(f:Int))/\x.kz[k]?=some kd/\kd.fields[f]?=some d:=λi hi=>by
   obtain⟨y,b⟩:∃y,p.plants[i]?=some y:=⟨_,zD hi⟩
   obtain⟨k,f,kd,d,h1,h2,h3⟩:=CZ (K i y b).1;exact⟨k,f,kd,d,y,b,h1,h2,h3⟩
  by_cases hbd:∃i:Nat,∃(k f:Nat)(kd:au)(d:am)(y:dw),p.plants[i]?=some y/\cC x y=((k:Int),(f:Int))/\x.kz[k]?=some kd/\kd.fields[f]?=some d/\fe x p.plants d k f=0/\ce p.plants (dS x p.plants k f p.plants.length)<p.counts.getD k 0
  .obtain⟨i0,L⟩:=hbd;obtain⟨I,_,⟨k1,f1,V,d1,y1,b1,b2,b3,b4,b5,b6⟩,D⟩:=ww (p:=λi:Nat=>∃(k f:Nat)(kd:au)(d:am)(y:dw),p.plants[i]?=some y/\cC x y=((k:Int),(f:Int))/\x.kz[k]?=some kd/\kd.fields[f]?=some d/\fe x p.plants d k f=0/\ce p.plants (dS x p.plants k f p.plants.length)<p.counts.getD k 0) L;have S:=(zE.1 b1).1;refine⟨6,(λe=>by cases e),?_⟩;refine ao func60 ntmps60 λU=>?_
   repeat refine ec ?_
   refine aV mixed ai (γ:=Nat) (λq=>[(8,iD q)]) (λ_=>[]) (λq=>q<=p.plants.length) (λq=>p.plants.length-q) 0 (aj aw) (Sc.refl _) (zW _) ?_;intro i hi;by_cases hii:i<p.plants.length
   .exact LD
   obtain rfl:i=p.plants.length:=by omega
   clear hii hi
   repeat refine ec ?_
   refine aV mixed ai (γ:=Nat) (λq=>[(10,iD q)]) (λ_=>[]) (λq=>q<=I) (λq=>I-q) 0 (aj aw) (Sc.refl _) (zW _) ?_;intro i hi;by_cases hii:i<I
   .obtain⟨k,f,kd,d,y,b,o,t,E⟩:=s i (by omega);have hy:p.plants[((i:Nat):Int).toNat]?=some y:=b;have HF:=Y2 x h.sm y;rw[o]at HF;have R:=(zE.1 t).1;have r:=J kd (zG t) d (zG E);have HE:=Zz x h.sm p v k f kd d t E r.1 r.2;have HS:=PO x h.sm p.plants (by omega) k f;have O:=I5 x p.plants k f p.plants.length;have w:=λn(C:n∈dS x p.plants k f p.plants.length)=>QF C;have HT:=aD3 p.plants v.v (dS x p.plants k f p.plants.length) (λn C=>by
     obtain⟨a,z,e1,e2,_⟩:=w n C;omega) (by omega)
    obtain⟨ck,j⟩:∃y,p.counts[k]?=some y:=⟨_,zD (by omega)⟩
    have T:p.counts[((k:Nat):Int).toNat]?=some ck:=j;have G:p.counts.getD k 0=ck:=by rw[List.getD_eq_getElem?_getD,j];rfl
    have X:¬(fe x p.plants d k f=0/\ce p.plants (dS x p.plants k f p.plants.length)<ck):=λu=>D i hii ⟨k,f,kd,d,y,b,o,t,E,u.1,by rw[G];exact u.2⟩;by_cases hl0:fe x p.plants d k f=0
    .have Q:¬ce p.plants (dS x p.plants k f p.plants.length)<ck:=λu=>X ⟨hl0,u⟩;exact nQ
    .exact nQ
   .obtain rfl:i=I:=by omega
    obtain⟨k,f,kd,d,y,b,o,t,E⟩:=s i (by omega);have hy:p.plants[((i:Nat):Int).toNat]?=some y:=b;have HF:=Y2 x h.sm y;rw[o]at HF;have R:=(zE.1 t).1;have r:=J kd (zG t) d (zG E);have HE:=Zz x h.sm p v k f kd d t E r.1 r.2;have HS:=PO x h.sm p.plants (by omega) k f;have O:=I5 x p.plants k f p.plants.length;have w:=λn(C:n∈dS x p.plants k f p.plants.length)=>QF C;have HT:=aD3 p.plants v.v (dS x p.plants k f p.plants.length) (λn C=>by
     obtain⟨a,z,e1,e2,_⟩:=w n C;omega) (by omega)
    obtain⟨ck,j⟩:∃y,p.counts[k]?=some y:=⟨_,zD (by omega)⟩
    have T:p.counts[((k:Nat):Int).toNat]?=some ck:=j;have G:p.counts.getD k 0=ck:=by rw[List.getD_eq_getElem?_getD,j];rfl
    obtain rfl:y1=y:=by rw[b]at b1;exact(wK b1).symm
    rw[o]at b2;simp only[vY,Int.natCast_inj]at b2;obtain⟨rfl,rfl⟩:=b2;obtain rfl:V=kd:=by rw[t]at b3;exact(wK b3).symm
    obtain rfl:d1=d:=by rw[E]at b4;exact(wK b4).symm
    rw[G]at b6
    repeat refine ec ?_
    refine Rt.pure (zM iD ?_);rfl
  .refine⟨0,λ_=>⟨λy hy=>by obtain⟨i,hi⟩:=yO hy;exact K i y hi,hc,F,λy hy k f kd d h1 h2 h3 h4=>?_⟩,?_⟩
   .obtain⟨i,hi⟩:=yO hy;exact Int.not_lt.1 λu=>hbd ⟨i,k,f,kd,d,y,hi,h1,h2,h3,h4,u⟩
   .refine ao func60 ntmps60 λU=>?_
    repeat refine ec ?_
    refine aV mixed ai (γ:=Nat) (λq=>[(8,iD q)]) (λ_=>[]) (λq=>q<=p.plants.length) (λq=>p.plants.length-q) 0 (aj aw) (Sc.refl _) (zW _) ?_;intro i hi;by_cases hii:i<p.plants.length
    .exact LD
    obtain rfl:i=p.plants.length:=by omega
    clear hii hi
    repeat refine ec ?_
    refine aV mixed ai (γ:=Nat) (λq=>[(10,iD q)]) (λ_=>[]) (λq=>q<=p.plants.length) (λq=>p.plants.length-q) 0 (aj aw) (Sc.refl _) (zW _) ?_;intro i hi;by_cases hii:i<p.plants.length
    .obtain⟨k,f,kd,d,y,b,o,t,E⟩:=s i (by omega);have hy:p.plants[((i:Nat):Int).toNat]?=some y:=b;have HF:=Y2 x h.sm y;rw[o]at HF;have R:=(zE.1 t).1;have r:=J kd (zG t) d (zG E);have HE:=Zz x h.sm p v k f kd d t E r.1 r.2;have HS:=PO x h.sm p.plants (by omega) k f;have O:=I5 x p.plants k f p.plants.length;have w:=λn(C:n∈dS x p.plants k f p.plants.length)=>QF C;have HT:=aD3 p.plants v.v (dS x p.plants k f p.plants.length) (λn C=>by
      obtain⟨a,z,e1,e2,_⟩:=w n C;omega) (by omega)
     obtain⟨ck,j⟩:∃y,p.counts[k]?=some y:=⟨_,zD (by omega)⟩
     have T:p.counts[((k:Nat):Int).toNat]?=some ck:=j;have G:p.counts.getD k 0=ck:=by rw[List.getD_eq_getElem?_getD,j];rfl
     by_cases hl0:fe x p.plants d k f=0
     .have Q:¬ce p.plants (dS x p.plants k f p.plants.length)<ck:=λu=>hbd ⟨i,k,f,kd,d,y,b,o,t,E,hl0,by rw[G];exact u⟩;exact nQ
     .exact nQ
    .obtain rfl:i=p.plants.length:=by omega
     repeat refine ec ?_
     refine Rt.pure (zM iD ?_);rfl
end
section
open Go
theorem R9{A B:Prop}(k:B)(h:ar B->A:=by intro q7;(first|refine bQ ?_|refine aA ?_|(refine' ah ?hc ?_;(case hc=>first|exact HV|exact HI)));exact q7.1):A:=h ⟨k⟩
theorem aN6(x:ak)(p:eE)(HV:APure prog 60 [ax x,ez p] (iD 0))(k f:Nat)(kd:au)(d:am)(a:x.kz[k]?=some kd)(b:kd.fields[f]?=some d)(h2:d.kind=2):APure prog 242 [ax x,ez p,iD k,iD f] (iD 0):=by
 have HI:=Bk x k f kd d a b;have l:=(zE.1 a).1;have g:=(zE.1 b).1;have e:x.kz[((k:Nat):Int).toNat]?=some kd:=a;have i:kd.fields[((f:Nat):Int).toNat]?=some d:=b;refine ao func242 ntmps242 λj=>?_
 repeat refine R9 ?_
 refine Rt.pure (zM iD ?_);rfl
theorem R8{A B:Prop}(k:B)(h:ar B->A:=by intro q7;(first|refine bQ ?_|refine aA ?_|(refine' ah ?hc ?_;(case hc=>first|exact HN|exact HL)));exact q7.1):A:=h ⟨k⟩
theorem Bm(x:ak)(h:oO x)(p:eE)(e:fY p)(V:APure prog 60 [ax x,ez p] (iD 0))(k f:Nat)(kd:au)(d:am)(a:x.kz[k]?=some kd)(b:kd.fields[f]?=some d)(h2:d.kind=2)(o:-2097152<=d.lo/\d.lo<=2097152)(i:-2097152<=d.hi/\d.hi<=2097152):APure prog 199 [ax x,ez p,iD k,iD f] (.tup [iD (fe x p.plants d k f),iD 0]):=by
 have HN:=aN6 x p V k f kd d a b h2;have HL:=Zz x h p e k f kd d a b o i;refine ao func199 ntmps199 λg=>?_
 repeat refine R8 ?_
 exact Rt.pure rfl
theorem jy{x:ak}{l:List dw}{k f:Int}{i:Nat}(h:i<(dS x l k f l.length).length):∃(q:Nat)(y:dw),(dS x l k f l.length)[i]?=some (q:Int)/\q<l.length/\l[q]?=some y:=by
 obtain⟨n,a⟩:∃y,(dS x l k f l.length)[i]?=some y:=⟨_,zD h⟩
 obtain⟨q,y,rfl,c,b,_,_⟩:=QF (zG a);exact⟨q,y,a,c,b⟩
theorem ZB{l:List dw}{set:List Int}{i q:Nat}{y:dw}(h:set[i]?=some (q:Int))(a:l[q]?=some y):ce l (set.take (i+1))=ce l (set.take i)+y.many*y.each:=by
 unfold ce;rw[xC,h,yB,vO];simp[l3,a]
theorem m6{y:dw}(h:lG y):1<=y.many*y.each/\y.many*y.each<=6:=by
 have m:=h.m;have a:=h.e;exact DJ
theorem RC{a e:Int}(h:0<=a/\a<=100)(b:1<=e/\e<=3):0<=a.tdiv e/\a.tdiv e<=100:=by
 rw[Int.tdiv_eq_ediv_of_nonneg h.1];have:e=1\/e=2\/e=3:=by omega
 rcases this with rfl|rfl|rfl<;>omega
theorem LF{p:Prop}(h:p:=by
 repeat' first|refine dz ?_|intro b;conv=>whnf
 exact⟨i+1,(aj aw),(Sc.sl (yG _ _)),by omega,by omega⟩):p:=h
theorem NJ(x:ak)(h:oO x)(p:eE)(C:fY p)(k f:Nat)(pl:Int)(hpl:0<=pl/\pl<=100):∃v b,(-8388608<=v/\v<=8388608)/\(b=false->ce p.plants (dS x p.plants k f p.plants.length)<=pl)/\APure prog 241 [ax x,ez p,iD k,iD f,iD pl] (.tup [iD v,bD b]):=by
 have hn:=C.n;have HO:=PO x h p.plants (by omega) k f;have o:=I5 x p.plants k f p.plants.length;generalize t:dS x p.plants k f p.plants.length=set at *;have e0:ce p.plants (set.take 0)=0:=rfl;by_cases hb:∃i:Nat,i<set.length/\pl<ce p.plants (set.take (i+1))
 .obtain⟨i0,R⟩:=hb;obtain⟨r,_,⟨z,hb1⟩,E⟩:=ww (p:=λi:Nat=>i<set.length/\pl<ce p.plants (set.take (i+1))) R;obtain⟨Z,J,L,X,F⟩:=jy (x:=x) (l:=p.plants) (k:=k) (f:=f) (i:=r) (by rw[t];exact z);have hge:ce p.plants (set.take r)<=pl:=by
   by_cases P:r=0
   .subst P;rw[e0];omega
   .obtain⟨j,rfl⟩:∃j,r=j+1:=⟨r-1,by omega⟩
    exact Int.not_lt.1 λG=>E j (by omega) ⟨by omega,G⟩
  have D:=C.v J (zG F);have hd1:=RC (a:=pl-ce p.plants (set.take r)) (e:=J.each) ⟨by omega,by have:=Fl C.v (set.take r);omega⟩ D.e;have Y:=D.v;refine⟨J.value+(pl-ce p.plants (set.take r)).tdiv J.each,true,by omega,(λe=>by cases e),?_⟩;refine ao func241 ntmps241 λBB=>?_
  repeat' first|refine dz ?_|intro b;conv=>whnf
  refine aV mixed ai (γ:=Nat) (λi=>[(13,iD (ce p.plants (set.take i))),(14,iD i)]) (λ_=>[]) (λi=>i<=r) (λi=>r-i) 0 (aj aw) (Sc.refl _) (zW _) ?_;intro i hi;by_cases hii:i<r
  .rw[←t]at z o;obtain⟨q,y,w,K,g⟩:=jy (x:=x) (l:=p.plants) (k:=k) (f:=f) (i:=i) (by omega);have I:set[((i:Nat):Int).toNat]?=some (q:Int):=by rw[←t];exact w
   have hy:p.plants[((q:Nat):Int).toNat]?=some y:=g;have s:=C.v y (zG g);have T:=s.v;have U:=s.m;have V:=s.e;have M:=m6 s;have u:=ZB (l:=p.plants) I hy;rw[Int.toNat_natCast]at u;have ht:=Fl C.v (set.take i);have O:(set.take i).length<=100:=by rw[zR];omega
   have Q:¬pl<ce p.plants (set.take (i+1)):=λG=>E i hii ⟨by rw[←t];omega,G⟩;rw[t]at z o;exact LF
  .obtain rfl:i=r:=by omega
   rw[←t]at z o;obtain⟨q,y,w,K,g⟩:=jy (x:=x) (l:=p.plants) (k:=k) (f:=f) (i:=i) (by omega);have I:set[((i:Nat):Int).toNat]?=some (q:Int):=by rw[←t];exact w
   have hy:p.plants[((q:Nat):Int).toNat]?=some y:=g;have s:=C.v y (zG g);have T:=s.v;have U:=s.m;have V:=s.e;have M:=m6 s;have u:=ZB (l:=p.plants) I hy;rw[Int.toNat_natCast]at u;have ht:=Fl C.v (set.take i);have O:(set.take i).length<=100:=by rw[zR];omega
   rw[t]at z o L;have S:Z=q:=by
    have:=I;rw[Int.toNat_natCast,L]at this;have:=wK this;omega
   subst S;obtain rfl:J=y:=by rw[g]at F;exact(wK F).symm
   repeat' first|refine dz ?_|intro b;conv=>whnf
   exact Rt.pure rfl
 .refine⟨0,false,by omega,λ_=>?_,?_⟩
  .by_cases P:set.length=0
   .obtain rfl:set=[]:=wX.1 P;rw[show ce p.plants []=0 from rfl];omega
   .obtain⟨j,hj⟩:∃j,set.length=j+1:=⟨set.length-1,by omega⟩
    have:=Int.not_lt.1 λG=>hb ⟨j,by omega,G⟩
    rwa [←hj,yM]at this
  .refine ao func241 ntmps241 λBB=>?_
   repeat' first|refine dz ?_|intro b;conv=>whnf
   refine aV mixed ai (γ:=Nat) (λi=>[(13,iD (ce p.plants (set.take i))),(14,iD i)]) (λ_=>[]) (λi=>i<=set.length) (λi=>set.length-i) 0 (aj aw) (Sc.refl _) (zW _) ?_;intro i hi;by_cases hii:i<set.length
   .rw[←t]at hii o;obtain⟨q,y,w,K,g⟩:=jy (x:=x) (l:=p.plants) (k:=k) (f:=f) (i:=i) (by omega);have I:set[((i:Nat):Int).toNat]?=some (q:Int):=by rw[←t];exact w
    have hy:p.plants[((q:Nat):Int).toNat]?=some y:=g;have s:=C.v y (zG g);have T:=s.v;have U:=s.m;have V:=s.e;have M:=m6 s;have u:=ZB (l:=p.plants) I hy;rw[Int.toNat_natCast]at u;have ht:=Fl C.v (set.take i);have O:(set.take i).length<=100:=by rw[zR];omega
    have Q:¬pl<ce p.plants (set.take (i+1)):=λG=>hb ⟨i,by rw[←t];omega,G⟩;rw[t]at hii o;exact LF
   .obtain rfl:i=set.length:=by omega
    repeat' first|refine dz ?_|intro b;conv=>whnf
    exact Rt.pure rfl
def BG(l:List dw)(v:Int)(n:Int):Bool:=match l[n.toNat]? with|some y=>decide (y.value<=v)&&decide (v<y.value+y.many)|none=>false
def mQ(x:ak)(l:List dw)(k f v:Int):Bool:=(dS x l k f l.length).any (BG l v)
theorem G8{x:ak}{l:List dw}{k f v:Int}(h:∀y∈l,lG y)(p:mQ x l k f v=true):v<=4194306:=by
 obtain⟨n,d,b⟩:=wC.1 p;unfold BG at b;split at b
 .rename_i y c;simp only[zJ,zQ]at b;have a:=h y (zG c);have:=a.v;have:=a.m;omega
 .cases b
theorem X4{p:Prop}(h:p:=by
 unfold BG at hno;rw[hy]at hno;simp only at hno
 cases c1:decide (y.value<=pl)with
 |false=>
  have c1':=of_decide_eq_false c1
  repeat' first|refine dz ?_|intro b;conv=>whnf
  exact⟨i+1,(aj aw),(Sc.sl (yG _ _)),by omega,by omega⟩
 |true=>
  rw[c1,Bool.true_and]at hno;have c1':=wY c1;have c2':=of_decide_eq_false hno
  repeat' first|refine dz ?_|intro b;conv=>whnf
  exact⟨i+1,(aj aw),(Sc.sl (yG _ _)),by omega,by omega⟩):p:=h
theorem mN(x:ak)(h:oO x)(p:eE)(u:fY p)(k f:Nat)(pl:Int)(Q:-16777216<=pl/\pl<=16777216):APure prog 243 [ax x,ez p,iD k,iD f,iD pl] (bD (mQ x p.plants k f pl)):=by
 have L:=u.n;have HO:=PO x h p.plants (by omega) k f;have j:=I5 x p.plants k f p.plants.length;unfold mQ;generalize t:dS x p.plants k f p.plants.length=set at *;by_cases hb:∃i:Nat,∃n,set[i]?=some n/\BG p.plants pl n=true
 .obtain⟨S,J⟩:=hb;obtain⟨D,_,⟨K,o,g⟩,v⟩:=ww (p:=λi:Nat=>∃n,set[i]?=some n/\BG p.plants pl n=true) J;have w:=(zE.1 o).1;rw[wC.2 ⟨K,zG o,g⟩];refine ao func243 ntmps243 λR=>?_
  repeat' first|refine dz ?_|intro b;conv=>whnf
  refine aV mixed ai (γ:=Nat) (λi=>[(12,iD i)]) (λ_=>[]) (λi=>i<=D) (λi=>D-i) 0 (aj aw) (Sc.refl _) (zW _) ?_;intro i hi;rw[←t]at w j;obtain⟨q,y,a,E,e⟩:=jy (x:=x) (l:=p.plants) (k:=k) (f:=f) (i:=i) (by omega);have F:set[((i:Nat):Int).toNat]?=some (q:Int):=by rw[←t];exact a
  have hy:p.plants[((q:Nat):Int).toNat]?=some y:=e;have s:=u.v y (zG e);have M:=s.v;have O:=s.m;have P:=s.e;have G:=m6 s;have r:=ZB (l:=p.plants) F hy;rw[Int.toNat_natCast]at r;have ht:=Fl u.v (set.take i);have I:(set.take i).length<=100:=by rw[zR];omega
  rw[t]at w j a;by_cases hii:i<D
  .have hno:BG p.plants pl q=false:=by
    cases z:BG p.plants pl q with
    |false=>rfl
    |true=>exact absurd ⟨_,a,z⟩ (v i hii)
   exact X4
  .obtain rfl:i=D:=by omega
   obtain rfl:K=(q:Int):=by rw[a]at o;exact(wK o).symm
   unfold BG at g;rw[hy]at g;simp only[zJ,zQ]at g;obtain⟨c1,T⟩:=g
   repeat' first|refine dz ?_|intro b;conv=>whnf
   refine Rt.pure (zM bD ?_);rfl
 .have C:set.any (BG p.plants pl)=false:=by
   rw[List.any_eq_false];intro n L z;obtain⟨i,hi⟩:=yO L;exact hb ⟨i,n,hi,z⟩
  rw[C];refine ao func243 ntmps243 λR=>?_
  repeat' first|refine dz ?_|intro b;conv=>whnf
  refine aV mixed ai (γ:=Nat) (λi=>[(12,iD i)]) (λ_=>[]) (λi=>i<=set.length) (λi=>set.length-i) 0 (aj aw) (Sc.refl _) (zW _) ?_;intro i hi;by_cases hii:i<set.length
  .rw[←t]at hii j;obtain⟨q,y,a,E,e⟩:=jy (x:=x) (l:=p.plants) (k:=k) (f:=f) (i:=i) (by omega);have F:set[((i:Nat):Int).toNat]?=some (q:Int):=by rw[←t];exact a
   have hy:p.plants[((q:Nat):Int).toNat]?=some y:=e;have s:=u.v y (zG e);have M:=s.v;have O:=s.m;have P:=s.e;have G:=m6 s;have r:=ZB (l:=p.plants) F hy;rw[Int.toNat_natCast]at r;have ht:=Fl u.v (set.take i);have I:(set.take i).length<=100:=by rw[zR];omega
   rw[t]at hii j a;have hno:BG p.plants pl q=false:=by
    cases z:BG p.plants pl q with
    |false=>rfl
    |true=>exact absurd ⟨i,_,a,z⟩ hb
   exact X4
  .obtain rfl:i=set.length:=by omega
   repeat' first|refine dz ?_|intro b;conv=>whnf
   refine Rt.pure (zM bD ?_);rfl
end
section
open Go
theorem Ht{x:ak}{l:List dw}{k f:Int}(h:∀y∈l,lG y)(n:Int):∃j:Nat,mQ x l k f (n+j)=false/\(∀i:Nat,i<j->mQ x l k f (n+i)=true)/\(n+j<=n\/n+j<=4194307):=by
 have g:mQ x l k f (n+((4194307-n).toNat:Nat))=false:=by
  cases b:mQ x l k f (n+((4194307-n).toNat:Nat))with
  |false=>rfl
  |true=>have:=G8 h b;omega
 obtain⟨j,m,d,c⟩:=ww (p:=λj:Nat=>mQ x l k f (n+j)=false) g;refine⟨j,d,λi a=>?_,?_⟩
 .have:=c i a
  rwa [Bool.not_eq_false]at this
 .by_cases e:n<=4194307
  .right;omega
  .left;omega
def oD(g:Int->Nat)(lo:Int):Nat->Int
 |0=>lo+g lo
 |i+1=>oD g lo i+1+g (oD g lo i+1)
theorem io{A B:Prop}(k:B)(h:ar B->A:=by intro q7;(first|refine bQ ?_|refine aA ?_|(refine' ah ?hc ?_;(case hc=>first|exact HN|exact HL|assumption)));exact q7.1):A:=h ⟨k⟩
theorem Xn{p:Prop}(h:p:=by
 refine⟨0,5,by omega,?_⟩;refine ao func200 ntmps200 λBB=>?_
 repeat' first|refine io ?_|intro b;conv=>whnf
 exact Rt.pure rfl):p:=h
theorem Lb{p:Prop}(h:p:=by
 repeat' first|refine io ?_|intro b;conv=>whnf
 exact⟨j+1,(aj aw),Sc.refl _,by omega,by omega⟩):p:=h
theorem Bh(x:ak)(h:oO x)(p:eE)(y:fY p)(V:APure prog 60 [ax x,ez p] (iD 0))(k f:Nat)(kd:au)(d:am)(z:x.kz[k]?=some kd)(C:kd.fields[f]?=some d)(h2:d.kind=2)(D:-2097152<=d.lo/\d.lo<=2097152)(E:-2097152<=d.hi/\d.hi<=2097152)(m:Int)(X:-8388608<=m/\m<=8388608):∃v e,(-33554432<=v/\v<=33554432)/\APure prog 200 [ax x,ez p,iD k,iD f,iD m] (.tup [iD v,iD e]):=by
 have HN:=aN6 x p V k f kd d z C h2;have HL:=Zz x h p y k f kd d z C D E;have P:=λv J=>mN x h p y k f v J;have Q:=(zE.1 z).1;have S:=(zE.1 C).1;have R:x.kz[((k:Nat):Int).toNat]?=some kd:=z;have T:kd.fields[((f:Nat):Int).toNat]?=some d:=C;by_cases c1:m<0
 .exact Xn
 by_cases c2:fe x p.plants d k f<=m
 .exact Xn
 obtain⟨g,u⟩:=Classical.axiomOfChoice (Ht (x:=x) (k:=k) (f:=f) y.v);have M:=kL y.v (dS x p.plants k f p.plants.length);have O:fe x p.plants d k f<=d.hi-d.lo+1:=by unfold fe;omega
 obtain⟨l,rfl⟩:∃a:Nat,m=a:=⟨m.toNat,by omega⟩
 have o:∀i:Nat,i<=l->d.lo<=oD g d.lo i/\oD g d.lo i<=4194308+i:=by
  intro i
  induction i with
  |zero=>intro _;have:=(u d.lo).2.2;show d.lo<=d.lo+(g d.lo:Int)/\d.lo+(g d.lo:Int)<=_;omega
  |succ i I=>intro hi;have:=I (by omega);have:=(u (oD g d.lo i+1)).2.2;show d.lo<=oD g d.lo i+1+(g (oD g d.lo i+1):Int)/\oD g d.lo i+1+(g (oD g d.lo i+1):Int)<=_;omega
 have G:=o l (zT _);refine⟨oD g d.lo l,0,by omega,?_⟩;refine ao func200 ntmps200 λBB=>?_
 repeat' first|refine io ?_|intro b;conv=>whnf
 obtain⟨q,rfl⟩:∃c,c=b:=⟨_,rfl⟩
 refine aV mixed ai (γ:=Nat) (λj=>[(14,iD (d.lo+(j:Int)))]) (λ_=>[(q,.cells 81 (aH d))]) (λj=>j<=g d.lo) (λj=>g d.lo-j) 0 (aj aw) (Sc.refl _) (zW _) ?_;intro j hj;have hb:=(u d.lo).2.2;by_cases hjl:j<g d.lo
 .have t:=P (d.lo+j) (by omega);rw[(u d.lo).2.1 j hjl]at t;exact Lb
 obtain rfl:j=g d.lo:=by omega
 have t:=P (d.lo+(g d.lo:Int)) (by omega);rw[(u d.lo).1]at t
 repeat' first|refine io ?_|intro b;conv=>whnf
 refine aV mixed ai (γ:=Nat) (λi=>[(14,iD (oD g d.lo i)),(15,iD i)]) (λ_=>[(q,.cells 81 (aH d))]) (λi=>i<=l) (λi=>l-i) 0 (aj aw) (Sc.refl _) (zW _) ?_;intro i hi;have K:=o i hi;by_cases hil:i<l
 .have F:=o (i+1) hil;have U:oD g d.lo (i+1)=oD g d.lo i+1+(g (oD g d.lo i+1):Int):=rfl;have w:=u (oD g d.lo i+1);generalize L:oD g d.lo i=s at *
  repeat' first|refine io ?_|intro b;conv=>whnf
  refine aV mixed ai (γ:=Nat) (λj=>[(14,iD (s+1+(j:Int)))]) (λ_=>[(q,.cells 81 (aH d))]) (λj=>j<=g (s+1)) (λj=>g (s+1)-j) 0 (aj aw) (Sc.refl _) (zW _) ?_;intro j hj;by_cases hjl:j<g (s+1)
  .have r:=P (s+1+j) (by omega);rw[w.2.1 j hjl]at r;exact Lb
  obtain rfl:j=g (s+1):=by omega
  have r:=P (s+1+(g (s+1):Int)) (by omega);rw[w.1]at r
  repeat' first|refine io ?_|intro b;conv=>whnf
  exact⟨i+1,(aj aw),Sc.refl _,by omega,by omega⟩
 obtain rfl:i=l:=by omega
 repeat' first|refine io ?_|intro b;conv=>whnf
 exact Rt.pure rfl
abbrev apD(k i:Nat):D:=.agg [iD k,iD i]
theorem R7{A B:Prop}(k:B)(h:ar B->A:=by intro q7;(first|refine bQ ?_|refine aA ?_|(refine' ah ?hc ?_;(case hc=>first|exact HV|exact HI|exact HPT|exact HA|exact HT)));exact q7.1):A:=h ⟨k⟩
theorem uy(x:ak)(h:oO x)(p:eE)(n:fY p)(HV:APure prog 60 [ax x,ez p] (iD 0))(k f:Nat)(kd:au)(d:am)(l:x.kz[k]?=some kd)(o:kd.fields[f]?=some d)(c:Nat)(hc:p.counts[k]?=some (c:Int))(a:c<=16)(i:Nat)(hi:i<c):∃v b,(-8388608<=v/\v<=8388608)/\(b=false->ce p.plants (dS x p.plants k f p.plants.length)<(c:Int))/\APure prog 198 [ax x,ez p,apD k i,iD f] (.tup [iD v,bD b,iD 0]):=by
 have r:=h.nk;have t:=h.nf kd (zG l);have HI:=Bk x k f kd d l o;have s:=(zE.1 l).1;have u:=(zE.1 o).1;have HPT:=Bj k f (by omega) (by omega);have y:p.counts[((k:Nat):Int).toNat]?=some (c:Int):=hc;have w:=(zE.1 hc).1;have j:∀v∈[(9:Int),(k:Int),(f:Int)],cA v:=λv g=>by
  simp only[zU,yF,xE]at g;rcases g with rfl|rfl|rfl<;>(constructor<;>omega)
 obtain⟨pl,q,HA⟩:=KE p.seed n.sd [9,(k:Int),(f:Int)] (by simp) j c a i hi;obtain⟨v,b,g,hb,HT⟩:=NJ x h p n k f pl (by omega);refine⟨v,b,g,λe=>by have:=hb e;omega,?_⟩;refine ao func198 ntmps198 λz=>?_
 repeat refine R7 ?_
 exact Rt.pure rfl
end
end Go.Proofs.YtilnpcolgcmofaaGreatDoor
