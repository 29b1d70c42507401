/- A part of the proof. -/
import Derived.Test.YtilnpcolgcmofaaGreatDoorC22
set_option maxRecDepth 100000
set_option maxHeartbeats 20000000
set_option linter.all false
namespace Go.Proofs.YtilnpcolgcmofaaGreatDoor
open Tryz
section
open Go
structure dO where
 kind:ByteArray
 field:ByteArray
 value:Int
 many:Int
 each:Int
abbrev zx(y:dO):List D:=[sD y.kind,sD y.field,iD y.value,iD y.many,iD y.each]
abbrev ptD(y:dO):D:=.agg (zx y)
abbrev OL(l:List dO):D:=.sl 5 (l.map zx)
structure fc where
 seed:List Nat
 counts:List Int
 plants:List dO
abbrev CJ(p:fc):List D:=[dr p.seed,bv p.counts,OL p.plants]
abbrev eX(p:fc):D:=.agg (CJ p)
structure mR(y:dO):Prop where
 v:-4194304<=y.value/\y.value<=4194304
 m:1<=y.many/\y.many<=2
 e:1<=y.each/\y.each<=3
structure gG(p:fc):Prop where
 sd:gF p.seed
 cs:cT p.counts
 n:p.plants.length<=2
 v:∀y∈p.plants,mR y
def cN(x:ak)(y:dO):Int×Int:=match dN x (bi x y.kind)with
 |some k=>if bb k y.field<0 then(-1,-1)else(bi x y.kind,bb k y.field)
 |none=>(-1,-1)
variable{x:ak}
def D3{i:Nat}{k:aq}(h:x.kz[i]?=some k):dN x (i:Int)=some k:=by simp[dN,h]
variable{A B:Prop}
def Uk(k:B)(h:ar B->A:=by intro q7;(first|refine bc ?_|refine aE ?_|(refine' aj ?hc ?_;(case hc=>first|exact HK|exact HF)));exact q7.1):A:=h ⟨k⟩
variable{p:Prop}
def E5(h:p:=by
 refine ap func101 ntmps101 λBB=>?_
 repeat refine Uk ?_
 exact Rt.pure rfl):p:=h
def az2(x:ak)(h:p9 x)(y:dO):APure prog 101 [aw x,ptD y] (.tup [iD (cN x y).1,iD (cN x y).2]):=by
 have b:=h.nk;have HK:=An x y.kind (by omega);have l:=az4 x y.kind;unfold cN;by_cases hn:bi x y.kind<0
 .have e:dN x (bi x y.kind)=none:=by unfold dN;rw[if_neg (by omega)]
  rw[e];exact E5
 .obtain⟨k,g⟩:∃k:Nat,bi x y.kind=k:=⟨(bi x y.kind).toNat,by omega⟩
  rw[g]at HK l⊢;obtain⟨kd,a⟩:∃kd,x.kz[k]?=some kd:=⟨_,zD (by omega)⟩
  have f:x.kz[((k:Nat):Int).toNat]?=some kd:=a;rw[D3 a];have HF:=nd kd y.field (by have:=h.nf kd (zG a);omega);by_cases hf:bb kd y.field<0
  .simp only[if_pos hf];exact E5
  .simp only[if_neg hf];exact E5
variable{y:dO}
def Es(h:0<=(cN x y).1):∃(k f:Nat)(kd:aq)(d:an),cN x y=((k:Int),(f:Int))/\x.kz[k]?=some kd/\kd.fields[f]?=some d:=by
 unfold cN at *
 cases a:dN x (bi x y.kind)with
 |none=>rw[a]at h;simp at h
 |some kd=>
  rw[a]at h;simp only at h⊢;by_cases hf:bb kd y.field<0
  .rw[if_pos hf]at h;simp at h
  .rw[if_neg hf]at h⊢;unfold dN at a;rw[if_pos h]at a;have b:bb kd y.field<kd.fields.length:=GU _ _;exact⟨(bi x y.kind).toNat,(bb kd y.field).toNat,kd,kd.fields[(bb kd y.field).toNat]'(by omega),by simp;omega,a,zD _⟩
def eA(x:ak)(l:List dO)(k f:Int)(q:Nat):List Int:=((List.range q).filter λi=>match l[i]? with|some y=>decide ((cN x y).1=k)&&decide ((cN x y).2=f)|none=>false).map λ(i:Nat)=>(i:Int)
variable{l:List dO}{q:Nat}
def C2{k f:Int}(h:l[q]?=some y):eA x l k f (q+1)=eA x l k f q++(if(cN x y).1=k/\(cN x y).2=f then[(q:Int)]else[]):=by
 unfold eA;rw[List.range_succ,vZ,yB]
 congr 1
 by_cases e:(cN x y).1=k/\(cN x y).2=f
 .rw[if_pos e];simp[h,e.1,e.2]
 .rw[if_neg e];have:(decide ((cN x y).1=k)&&decide ((cN x y).2=f))=false:=by
   rw[Bool.and_eq_false_iff,xF,xF];omega
  simp[h,this]
def R5{k f:Int}{n:Int}(h:n∈eA x l k f q):∃(i:Nat)(y:dO),n=i/\i<q/\l[i]?=some y/\(cN x y).1=k/\(cN x y).2=f:=by
 unfold eA at h;obtain⟨i,c,rfl⟩:=xM.1 h;obtain⟨d,a⟩:=vP.1 c
 cases b:l[i]? with
 |none=>rw[b]at a;simp at a
 |some y=>
  rw[b]at a;simp only[zJ,zQ]at a;exact⟨i,y,rfl,xT.1 d,b,a.1,a.2⟩
def KD(x:ak)(l:List dO)(k f:Int)(q:Nat):(eA x l k f q).length<=q:=by
 unfold eA;rw[zL];exact xH (List.length_filter_le _ _) (by simp)
def Uj(k:B)(h:ar B->A:=by intro q7;(first|refine bc ?_|refine zw ?_|(refine' aj ?hc ?_;(case hc=>exact HF)));exact q7.1):A:=h ⟨k⟩
def dS(k:B)(h:ar B->A:=by intro q7;(first|refine bc ?_|refine aE ?_|(refine' aj ?hc ?_;(case hc=>exact HF)));exact q7.1):A:=h ⟨k⟩
def Nv(h:p:=by
 rw[←hsn]at hr
 repeat refine dS ?_
 exact⟨(i+1,v,s),(ah av),Sc.refl _,⟨by simp only;omega,hr⟩,by simp only;omega⟩):p:=h
def Q7(x:ak)(h:p9 x)(l:List dO)(hl:l.length<=100)(k f:Int):APure prog 104 [aw x,OL l,iD k,iD f] (bv (eA x l k f l.length)):=by
 refine ap func104 ntmps104 λq=>?_
 repeat refine Uj ?_
 refine aO mixed ai (γ:=Nat×Value×ae) (λg=>[(10,iD g.1),(9,.v g.2.1)]) (λg=>g.2.2) (λg=>g.1<=l.length/\RI (eA x l k f g.1) g.2.1 g.2.2) (λg=>l.length-g.1) (0,.slice none 0 0,[]) (ah av) (Sc.refl _) ⟨zW _,ab.nil _ _⟩ ?_;rintro⟨i,v,s⟩ ⟨hi,hr⟩;simp only at hi hr⊢;by_cases hil:i<l.length
 .obtain⟨y,a⟩:∃y,l[i]?=some y:=⟨_,zD hil⟩
  have hy:l[((i:Nat):Int).toNat]?=some y:=a;have HF:=az2 x h y;have hsn:=C2 (x:=x) (k:=k) (f:=f) a;have b:=KD x l k f (i+1);by_cases e1:(cN x y).1=k
  .by_cases e2:(cN x y).2=f
   .rw[if_pos ⟨e1,e2⟩]at hsn
    repeat refine dS ?_
    refine Ap.go rfl rfl rfl rfl hr (bR _) rfl (zs:=(eA x l k f (i+1)).map λn=>[iD n]) (by rw[hsn,yB];rfl) (by rw[zL];omega) (by rw[zL];omega) (λs'=>s') dF (λo j s' hr=>?_)
    repeat refine dS ?_
    exact uz
   .rw[if_neg (λe=>e2 e.2),zZ]at hsn;exact Nv
  .rw[if_neg (λe=>e1 e.1),zZ]at hsn;exact Nv
 .obtain rfl:i=l.length:=by omega
  repeat refine dS ?_
  exact Rt.vs (Vs.row hr (bR _))
def nx(l:List dO)(n:Int):Int:=match l[n.toNat]? with|some y=>y.many*y.each|none=>0
def cu(l:List dO)(set:List Int):Int:=(set.map (nx l)).sum
def EV(h:p:=by
 have:y.many=1\/y.many=2:=by omega
 rcases this with e|e<;>rw[e]<;>omega):p:=h
def sR(h:∀y∈l,mR y)(n:Int):0<=nx l n/\nx l n<=6:=by
 unfold nx;split
 .rename_i y a;have:=h y (zG a);have m:=this.m;have b:=this.e;exact EV
 .omega
def GV{l:List dO}(h:∀y∈l,mR y):∀(set:List Int),0<=cu l set/\cu l set<=6*(set.length:Int)
 |[]=>by simp[cu]
 |n::set=>by
  have i:=GV h set;have a:=sR h n;unfold cu at *;rw[List.map_cons,List.sum_cons,List.length_cons];omega
def aE7(l:List dO)(h:∀y∈l,mR y)(set:List Int)(hs:∀n∈set,0<=n/\n<(l.length:Int))(g:set.length<=100):APure prog 103 [OL l,bv set] (iD (cu l set)):=by
 refine ap func103 ntmps103 λr=>?_
 repeat refine au ?_
 refine aO mixed ai (γ:=Nat) (λi=>[(5,iD (cu l (set.take i))),(6,iD i)]) (λ_=>[]) (λi=>i<=set.length) (λi=>set.length-i) 0 (ah av) (Sc.refl _) (zW _) ?_;intro i hi;by_cases hil:i<set.length
 .obtain⟨n,a⟩:∃y,set[i]?=some y:=⟨_,zD hil⟩
  have o:set[((i:Nat):Int).toNat]?=some n:=a;have j:=hs n (zG a);obtain⟨y,hy⟩:∃y,l[n.toNat]?=some y:=⟨_,zD (by omega)⟩
  have f:cu l (set.take (i+1))=cu l (set.take i)+y.many*y.each:=by
   unfold cu;rw[xC,a,yB,vO];simp[nx,hy]
  have ht:=GV h (set.take i);have e:=GV h (set.take (i+1));have b:=sR h n;have q:nx l n=y.many*y.each:=by unfold nx;rw[hy]
  have k:(set.take i).length<=100:=by rw[zR];omega
  exact hZ
 .obtain rfl:i=set.length:=by omega
  rw[yM]
  repeat refine au ?_
  refine Rt.pure (zM iD ?_)
  rfl
def DB(l:List dO)(n:Int):Int:=match l[n.toNat]? with|some y=>y.many|none=>0
def jo(l:List dO)(set:List Int):Int:=(set.map (DB l)).sum
def lW{l:List dO}(h:∀y∈l,mR y):∀(set:List Int),0<=jo l set/\jo l set<=2*(set.length:Int)
 |[]=>by simp[jo]
 |n::set=>by
  have i:=lW h set;have b:0<=DB l n/\DB l n<=2:=by
   unfold DB;split
   .rename_i y a;have:=(h y (zG a)).m;omega
   .omega
  unfold jo at *;rw[List.map_cons,List.sum_cons,List.length_cons];omega
def fO(x:ak)(l:List dO)(d:an)(k f:Int):Int:=d.hi-d.lo+1-jo l (eA x l k f l.length)
def dR(k:B)(h:ar B->A:=by intro q7;(first|refine bc ?_|refine aE ?_|(refine' aj ?hc ?_;(case hc=>exact HO)));exact q7.1):A:=h ⟨k⟩
def aE9(x:ak)(h:p9 x)(p:fc)(e:gG p)(k f:Nat)(kd:aq)(d:an)(l:x.kz[k]?=some kd)(o:kd.fields[f]?=some d)(v:-2097152<=d.lo/\d.lo<=2097152)(D:-2097152<=d.hi/\d.hi<=2097152):APure prog 102 [aw x,eX p,iD k,iD f] (iD (fO x p.plants d k f)):=by
 have j:=e.n;have HO:=Q7 x h p.plants (by omega) k f;have z:=(zE.1 l).1;have E:=(zE.1 o).1;have C:x.kz[((k:Nat):Int).toNat]?=some kd:=l;have F:kd.fields[((f:Nat):Int).toNat]?=some d:=o;have t:=KD x p.plants k f p.plants.length;have g:=λn(j:n∈eA x p.plants k f p.plants.length)=>R5 j;unfold fO;generalize eA x p.plants k f p.plants.length=set at *;have e0:jo p.plants (set.take 0)=0:=rfl;refine ap func102 ntmps102 λJ=>?_
 repeat' first|refine dR ?_|intro b;conv=>whnf
 refine aO mixed ai (γ:=Nat) (λi=>[(10,iD (d.hi-d.lo+1-jo p.plants (set.take i))),(12,iD i)]) (λ_=>[(b,.cells 81 (aA d))]) (λi=>i<=set.length) (λi=>set.length-i) 0 (ah av) (Sc.refl _) (zW _) ?_;intro i hi;by_cases hil:i<set.length
 .obtain⟨n,a⟩:∃y,set[i]?=some y:=⟨_,zD hil⟩
  have u:set[((i:Nat):Int).toNat]?=some n:=a;obtain⟨q,y,rfl,G,hy,_,_⟩:=g n (zG a);have r:p.plants[((q:Nat):Int).toNat]?=some y:=hy;have s:jo p.plants (set.take (i+1))=jo p.plants (set.take i)+y.many:=by
   unfold jo;rw[xC,a,yB,vO];simp[DB,hy]
  have I:=(e.v y (zG hy)).m;have ht:=lW e.v (set.take i);have w:(set.take i).length<=100:=by rw[zR];omega
  repeat' first|refine dR ?_|intro b;conv=>whnf
  exact⟨i+1,(ah av),Sc.refl _,by omega,by omega⟩
 .obtain rfl:i=set.length:=by omega
  rw[yM]
  repeat' first|refine dR ?_|intro b;conv=>whnf
  refine Rt.pure (zM iD ?_)
  rfl
def Cr(x:ak)(k f:Nat)(kd:aq)(d:an)(a:x.kz[k]?=some kd)(g:kd.fields[f]?=some d):APure prog 239 [aw x,iD k,iD f] (bD true):=by
 have l:=(zE.1 a).1;have e:=(zE.1 g).1;have b:x.kz[((k:Nat):Int).toNat]?=some kd:=a;refine ap func239 ntmps239 λi=>?_
 repeat refine au ?_
 refine Rt.pure (zM bD ?_);simp;omega
def Cq(k f:Nat)(a:k<=100)(b:f<=100):APure prog 240 [iD k,iD f] (bv [9,(k:Int),(f:Int)]):=by
 refine ap func240 ntmps240 λe=>?_
 repeat refine au ?_
 exact Rt.pure rfl
end
section
open Go
def mw(kd:aq)(d:an)(r:cH):Bool:=(r.kind.toList==kd.name.toList)&&((r.a.toList==d.name.toList)||(r.b.toList==d.name.toList))
def gB(x:ak)(k:Nat)(d:an)(i j:Nat):Bool:=match x.kz[i]? with
 |some a=>match a.fields[j]? with
  |some c=>decide (c.kind=8)&&((c.of.toList==d.name.toList)&&decide (aG x i j=k))
  |none=>false
 |none=>false
variable{x:ak}{k:Nat}{d:an}
def bd7{i j:Nat}{a:aq}{c:an}(b:x.kz[i]?=some a)(h:a.fields[j]?=some c):gB x k d i j=(decide (c.kind=8)&&((c.of.toList==d.name.toList)&&decide (aG x i j=k))):=by unfold gB;rw[b];simp only;rw[h]
def Kz{i j:Nat}(h:gB x k d i j=true):∃a c,x.kz[i]?=some a/\a.fields[j]?=some c:=by
 unfold gB at h
 cases e:x.kz[i]? with
 |none=>rw[e]at h;cases h
 |some a=>
  rw[e]at h;simp only at h
  cases b:a.fields[j]? with
  |none=>rw[b]at h;cases h
  |some c=>exact⟨a,c,rfl,b⟩
def bM{A B:Prop}(k:B)(h:ar B->A:=by intro q7;(first|refine bc ?_|refine aE ?_|(refine' aj ?hc ?_;(case hc=>exact HU)));exact q7.1):A:=h ⟨k⟩
variable{p:Prop}
def Qn(h:p:=by
 rw[bd7 hki0' hc0']at hno
 cases e1:decide (c.kind=8)with
 |false=>
  have e1':=of_decide_eq_false e1
  repeat' first|refine bM ?_|intro b;conv=>whnf
  exact⟨j+1,(ah av),(Sc.sl (yG _ _)),by omega,by omega⟩
 |true=>
  have e1':=wY e1;rw[e1,Bool.true_and]at hno
  cases e2:(c.of.toList==d.name.toList)with
  |false=>
   repeat' first|refine bM ?_|intro b;conv=>whnf
   exact⟨j+1,(ah av),(Sc.sl (yG _ _)),by omega,by omega⟩
  |true=>
   rw[e2,Bool.true_and,xF]at hno;have HU:=hup i j
   repeat' first|refine bM ?_|intro b;conv=>whnf
   exact⟨j+1,(ah av),(Sc.sl (yG _ _)),by omega,by omega⟩):p:=h
def wA:=@Bool.or_eq_false_iff
def ZK(h:p:=by
 obtain⟨r,hr0⟩:∃y,x.rules[q]?=some y:=⟨_,zD (by omega)⟩
 have hr:x.rules[((q:Nat):Int).toNat]?=some r:=hr0;have hno:=hnoR q r hr0;unfold mw at hno
 cases e1:(r.kind.toList==kd.name.toList)with
 |false=>
  repeat' first|refine bM ?_|intro b;conv=>whnf
  exact⟨q+1,(ah av),Sc.refl _,by omega,by omega⟩
 |true=>
  rw[e1,Bool.true_and,wA]at hno;obtain⟨e2,e3⟩:=hno
  repeat' first|refine bM ?_|intro b;conv=>whnf
  exact⟨q+1,(ah av),Sc.refl _,by omega,by omega⟩):p:=h
def Ny(h:p:=by
 obtain rfl:j=ki.fields.length:=by omega
 repeat' first|refine bM ?_|intro b;conv=>whnf
 exact⟨i+1,(ah av),Sc.refl _,by omega,by omega⟩):p:=h
def M3(h:p:=by
 repeat' first|refine bM ?_|intro b;conv=>whnf
 exact⟨q+1,(ah av),Sc.refl _,by omega,by omega⟩):p:=h
def EZ(h:p:=by
 repeat' first|refine bM ?_|intro b;conv=>whnf
 refine Rt.pure (zM bD ?_);rfl):p:=h
def aE8(x:ak)(h:p9 x)(k f:Nat)(kd:aq)(d:an)(D:x.kz[k]?=some kd)(U:kd.fields[f]?=some d):∃V,(V=true->d.kind=2)/\APure prog 59 [aw x,iD k,iD f] (bD V):=by
 have Z:=h.nk;have Y:=h.nr;have hkl:=(zE.1 D).1;have hfl:=(zE.1 U).1;have hk':x.kz[((k:Nat):Int).toNat]?=some kd:=D;have hf':kd.fields[((f:Nat):Int).toNat]?=some d:=U;have hkf:=h.nf kd (zG D);have hup:=λi j=>FA x i j (by omega) (λk D=>by have:=h.nf k D;omega);by_cases h2:d.kind=2
 case neg=>
  refine⟨false,(λe=>by cases e),?_⟩;refine ap func59 ntmps59 λQ=>?_
  repeat' first|refine bM ?_|intro b;conv=>whnf
  refine Rt.pure (zM bD ?_);rfl
 by_cases hR:∃q:Nat,∃r,x.rules[q]?=some r/\mw kd d r=true
 .obtain⟨q0,X,J,P⟩:=hR;obtain⟨E,_,⟨G,w,v⟩,g⟩:=sn (p:=λq:Nat=>∃r,x.rules[q]?=some r/\mw kd d r=true) ⟨X,J,P⟩;refine⟨false,(λe=>by cases e),?_⟩;have R:=(zE.1 w).1;refine ap func59 ntmps59 λQ=>?_
  repeat' first|refine bM ?_|intro b;conv=>whnf
  refine aO mixed ai (γ:=Nat) (λi=>[(8,iD i)]) (λ_=>[(b,ax.cells 81 (aA d))]) (λq=>q<=E) (λq=>E-q) 0 (ah av) (Sc.refl _) (zW _) ?_;intro q F;by_cases hql:q<E
  .obtain⟨r,hr0⟩:∃y,x.rules[q]?=some y:=⟨_,zD (by omega)⟩
   have hr:x.rules[((q:Nat):Int).toNat]?=some r:=hr0;have hno:mw kd d r=false:=by
    cases s:mw kd d r with
    |false=>rfl
    |true=>exact absurd ⟨r,hr0,s⟩ (g q hql)
   unfold mw at hno
   cases e1:(r.kind.toList==kd.name.toList)with
   |false=>exact M3
   |true=>
    rw[e1,Bool.true_and,wA]at hno;obtain⟨e2,e3⟩:=hno;exact M3
  .obtain rfl:q=E:=by omega
   have hr:x.rules[((q:Nat):Int).toNat]?=some G:=w;unfold mw at v;simp only[zJ,xO]at v;obtain⟨e1,e2⟩:=v
   cases e3:(G.a.toList==d.name.toList)with
   |true=>exact EZ
   |false=>
    have e4:(G.b.toList==d.name.toList)=true:=by rcases e2 with e|e;rw[e3]at e;cases e;exact e
    repeat' first|refine bM ?_|intro b;conv=>whnf
    refine Rt.pure (zM bD ?_);rfl
 have hnoR:∀(q:Nat)r,x.rules[q]?=some r->mw kd d r=false:=λq r F=>by
  cases s:mw kd d r with
  |false=>rfl
  |true=>exact absurd ⟨q,r,F,s⟩ hR
 have hC:(∃a o,gB x k d a o=true/\(∀i j,i<a->gB x k d i j=false)/\∀j,j<o->gB x k d a j=false)\/∀i j,gB x k d i j=false:=by
  by_cases hc:∃i,∃j,gB x k d i j=true
  .obtain⟨i,hi⟩:=hc;obtain⟨a,_,⟨j,hj⟩,g⟩:=sn (p:=λi=>∃j,gB x k d i j=true) hi;obtain⟨o,_,L,t⟩:=sn (p:=λj=>gB x k d a j=true) hj;refine .inl ⟨a,o,L,λi j hi=>?_,λj hj=>?_⟩
   .cases s:gB x k d i j with
    |false=>rfl
    |true=>exact absurd ⟨j,s⟩ (g i hi)
   .cases s:gB x k d a j with
    |false=>rfl
    |true=>exact absurd s (t j hj)
  .refine .inr λi j=>?_
   cases s:gB x k d i j with
   |false=>rfl
   |true=>exact absurd ⟨i,j,s⟩ hc
 rcases hC with⟨a,o,hb,O,M⟩|z
 .refine⟨false,(λe=>by cases e),?_⟩;obtain⟨I,c0,l,u⟩:=Kz hb;have T:=(zE.1 l).1;have S:=(zE.1 u).1;rw[bd7 l u]at hb;simp only[zJ,zQ]at hb;obtain⟨b1,b2,b3⟩:=hb;refine ap func59 ntmps59 λQ=>?_
  repeat' first|refine bM ?_|intro b;conv=>whnf
  refine aO mixed ai (γ:=Nat) (λi=>[(8,iD i)]) (λ_=>[(b,ax.cells 81 (aA d))]) (λq=>q<=x.rules.length) (λq=>x.rules.length-q) 0 (ah av) (Sc.refl _) (zW _) ?_;intro q F;by_cases hql:q<x.rules.length
  .exact ZK
  obtain rfl:q=x.rules.length:=by omega
  repeat' first|refine bM ?_|intro b;conv=>whnf
  refine aO mixed ai (γ:=Nat) (λi=>[(9,iD i)]) (λ_=>[(b,ax.cells 81 (aA d))]) (λq=>q<=a) (λq=>a-q) 0 (ah av) (Sc.refl _) (zW _) ?_;intro i hi;obtain⟨ki,hki0'⟩:∃y,x.kz[i]?=some y:=⟨_,zD (by omega)⟩
  have K:x.kz[((i:Nat):Int).toNat]?=some ki:=hki0';have C:=h.nf ki (zG hki0');by_cases hii:i<a
  .repeat' first|refine bM ?_|intro b;conv=>whnf
   refine aO mixed ai (γ:=Nat) (λi=>[(10,iD i)]) (λ_=>[(b,ax.cells 81 (aA d))]) (λq=>q<=ki.fields.length) (λq=>ki.fields.length-q) 0 (ah av) (Sc.refl _) (zW _) ?_;intro j hj;by_cases hjl:j<ki.fields.length
   .obtain⟨c,hc0'⟩:∃y,ki.fields[j]?=some y:=⟨_,zD (by omega)⟩
    have hc:ki.fields[((j:Nat):Int).toNat]?=some c:=hc0';have hno:=O i j hii;exact Qn
   .exact Ny
  .obtain rfl:i=a:=by omega
   obtain rfl:ki=I:=by rw[l]at hki0';exact(wK hki0').symm
   repeat' first|refine bM ?_|intro b;conv=>whnf
   refine aO mixed ai (γ:=Nat) (λi=>[(10,iD i)]) (λ_=>[(b,ax.cells 81 (aA d))]) (λq=>q<=o) (λq=>o-q) 0 (ah av) (Sc.refl _) (zW _) ?_;intro j hj;by_cases hjl:j<o
   .obtain⟨c,hc0'⟩:∃y,ki.fields[j]?=some y:=⟨_,zD (by omega)⟩
    have hc:ki.fields[((j:Nat):Int).toNat]?=some c:=hc0';have hno:=M j hjl;exact Qn
   .obtain rfl:j=o:=by omega
    have hc:ki.fields[((j:Nat):Int).toNat]?=some c0:=u;have HU:=hup i j;exact EZ
 .refine⟨true,(λ_=>h2),?_⟩;refine ap func59 ntmps59 λQ=>?_
  repeat' first|refine bM ?_|intro b;conv=>whnf
  refine aO mixed ai (γ:=Nat) (λi=>[(8,iD i)]) (λ_=>[(b,ax.cells 81 (aA d))]) (λq=>q<=x.rules.length) (λq=>x.rules.length-q) 0 (ah av) (Sc.refl _) (zW _) ?_;intro q F;by_cases hql:q<x.rules.length
  .exact ZK
  obtain rfl:q=x.rules.length:=by omega
  repeat' first|refine bM ?_|intro b;conv=>whnf
  refine aO mixed ai (γ:=Nat) (λi=>[(9,iD i)]) (λ_=>[(b,ax.cells 81 (aA d))]) (λq=>q<=x.kz.length) (λq=>x.kz.length-q) 0 (ah av) (Sc.refl _) (zW _) ?_;intro i hi;by_cases hii:i<x.kz.length
  .obtain⟨ki,hki0'⟩:∃y,x.kz[i]?=some y:=⟨_,zD (by omega)⟩
   have K:x.kz[((i:Nat):Int).toNat]?=some ki:=hki0';have C:=h.nf ki (zG hki0')
   repeat' first|refine bM ?_|intro b;conv=>whnf
   refine aO mixed ai (γ:=Nat) (λi=>[(10,iD i)]) (λ_=>[(b,ax.cells 81 (aA d))]) (λq=>q<=ki.fields.length) (λq=>ki.fields.length-q) 0 (ah av) (Sc.refl _) (zW _) ?_;intro j hj;by_cases hjl:j<ki.fields.length
   .obtain⟨c,hc0'⟩:∃y,ki.fields[j]?=some y:=⟨_,zD (by omega)⟩
    have hc:ki.fields[((j:Nat):Int).toNat]?=some c:=hc0';have hno:=z i j;exact Qn
   .exact Ny
  .obtain rfl:i=x.kz.length:=by omega
   exact EZ
end
section
open Go
def RB(x:ak):Prop:=∀k∈x.kz,∀f∈k.fields,(-2097152<=f.lo/\f.lo<=2097152)/\(-2097152<=f.hi/\f.hi<=2097152)
def lw(x:ak)(y:dO):Prop:=0<=(cN x y).1/\∀(k f:Nat)kd d,cN x y=((k:Int),(f:Int))->x.kz[k]?=some kd->kd.fields[f]?=some d->d.kind=2
def Pv(y z:dO):Bool:=decide (y.value<z.value+z.many)&&decide (z.value<y.value+y.many)
def jg{A B:Prop}(k:B)(h:ar B->A:=by intro q7;(first|refine bc ?_|refine aE ?_|(refine' aj ?hc ?_;(case hc=>first|exact HF|exact HP|exact HO|exact HT)));exact q7.1):A:=h ⟨k⟩
variable{p:Prop}
def Z6(h:p:=by
 repeat' first|refine jg ?_|intro b;conv=>whnf
 obtain⟨b10,rfl⟩:∃c,c=b:=⟨_,rfl⟩
 obtain⟨b7,rfl⟩:∃c,c=b:=⟨_,rfl⟩
 refine aO mixed ai (γ:=Nat) (λq=>[(12,iD q)]) (λ_=>[(b10,.cells 81 (aA d)),(b7,.cells 150 (zx y))]) (λq=>q<=set.length) (λq=>set.length-q) 0 (ah av) (Sc.refl _) (zW _) ?_;intro q hq;by_cases hqq:q<set.length
 .obtain⟨n,hn0⟩:∃y,set[q]?=some y:=⟨_,zD (by omega)⟩
  obtain⟨a,z,rfl,hal,hz0⟩:=hat q n hn0;have hn1:set[((q:Nat):Int).toNat]?=some (a:Int):=hn0;have hz:p.plants[((a:Nat):Int).toNat]?=some z:=hz0;have hov:Pv y z=false:=by
   cases hh:Pv y z with
   |false=>rfl
   |true=>exact absurd ⟨q,a,z,hn0,hz0,hh⟩ hov
  have hzs:=hp.v z (zG hz0);have zv:=hzs.v;have zm:=hzs.m;have hov':Pv y z=false:=hov;unfold Pv at hov'
  cases c1:decide (y.value<z.value+z.many)with
  |false=>
   have c1':=of_decide_eq_false c1
   repeat' first|refine jg ?_|intro b;conv=>whnf
   exact⟨q+1,(ah av),(Sc.sl (yG _ _)),by omega,by omega⟩
  |true=>
   rw[c1,Bool.true_and]at hov';have c1':=wY c1;have c2':=of_decide_eq_false hov'
   repeat' first|refine jg ?_|intro b;conv=>whnf
   exact⟨q+1,(ah av),(Sc.sl (yG _ _)),by omega,by omega⟩
 .obtain rfl:q=set.length:=by omega
  repeat' first|refine jg ?_|intro b;conv=>whnf
  refine Rt.pure (zM iD ?_);rfl):p:=h
def E0(h:p:=by
 repeat' first|refine jg ?_|intro b;conv=>whnf
 refine Rt.pure (zM iD ?_);rfl):p:=h
def IU(x:ak)(h:p9 x)(K:RB x)(p:fc)(hp:gG p)(hcl:p.counts.length=x.kz.length)(i:Nat)(y:dO)(hy:p.plants[i]?=some y):∃e,(e=0->lw x y)/\APure prog 100 [aw x,eX p,iD i] (iD e):=by
 have U:=h.nk;have E:=hp.n;have Z:=(zE.1 hy).1;have T:p.plants[((i:Nat):Int).toNat]?=some y:=hy;have HF:=az2 x h y;have s:=hp.v y (zG hy);have yv:=s.v;have ym:=s.m;have ye:=s.e;by_cases hneg:(cN x y).1<0
 .refine⟨12,(λe=>by cases e),?_⟩;refine ap func100 ntmps100 λC=>?_;exact E0
 obtain⟨k,f,kd,d,g,o,r⟩:=Es (x:=x) (y:=y) (by omega);rw[g]at HF hneg;have X:=(zE.1 o).1;have hfl:=(zE.1 r).1;have Y:x.kz[((k:Nat):Int).toNat]?=some kd:=o;have hf':kd.fields[((f:Nat):Int).toNat]?=some d:=r;have hdb:=K kd (zG o) d (zG r);obtain⟨O,G,HP⟩:=aE8 x h k f kd d o r;have L:O=true->lw x y:=λe=>⟨by rw[g];simp,λk' f' S d' w F v=>by
  rw[g]at w;simp only[vY,Int.natCast_inj]at w;obtain⟨rfl,rfl⟩:=w;rw[o]at F;cases F
  rw[r]at v;cases v
  exact G e⟩
 cases O with
 |false=>
  refine⟨13,(λe=>by cases e),?_⟩;refine ap func100 ntmps100 λC=>?_;exact E0
 |true=>
  by_cases hr:y.value<d.lo\/d.hi<y.value\/d.hi-y.value<y.many-1
  .refine⟨5,(λe=>by cases e),?_⟩;refine ap func100 ntmps100 λC=>?_
   repeat' first|refine jg ?_|intro b;conv=>whnf|(refine aZ ?_;constructor<;>intro hc)
   all_goals first|(refine Rt.pure (zM iD ?_);rfl)|(exfalso;omega)
  have r1:d.lo<=y.value:=by omega
  have r2:y.value<=d.hi:=by omega
  have r3:y.many-1<=d.hi-y.value:=by omega
  clear hr;have HO:APure prog 104 [aw x,.sl 5 ((p.plants.map zx).take ((i:Nat):Int).toNat),iD k,iD f] (bv (eA x (p.plants.take i) k f (p.plants.take i).length)):=by
   rw[Int.toNat_natCast,←vR];exact Q7 x h _ (by rw[zR];omega) k f
  have J:=λn(E:n∈eA x (p.plants.take i) k f (p.plants.take i).length)=>R5 E;have I:=KD x (p.plants.take i) k f (p.plants.take i).length;generalize eA x (p.plants.take i) k f (p.plants.take i).length=set at *;rw[zR]at I;have hat:∀(q:Nat)n,set[q]?=some n->∃(a:Nat)(z:dO),n=(a:Int)/\a<p.plants.length/\p.plants[a]?=some z:=λq n hq=>by
   obtain⟨a,z,w,F,v,_,_⟩:=J n (zG hq);rw[zR]at F;rw[List.getElem?_take_of_lt (by omega)]at v;exact⟨a,z,w,by omega,v⟩
  by_cases hov:∃q:Nat,∃(a:Nat)(z:dO),set[q]?=some (a:Int)/\p.plants[a]?=some z/\Pv y z=true
  .obtain⟨q,hq⟩:=hov;obtain⟨D,_,⟨R,M,u,l,j⟩,Q⟩:=sn (p:=λq:Nat=>∃(a:Nat)(z:dO),set[q]?=some (a:Int)/\p.plants[a]?=some z/\Pv y z=true) hq;have P:=(zE.1 u).1;refine⟨7,(λe=>by cases e),?_⟩;refine ap func100 ntmps100 λC=>?_
   repeat' first|refine jg ?_|intro b;conv=>whnf
   obtain⟨b10,rfl⟩:∃c,c=b:=⟨_,rfl⟩
   obtain⟨b7,rfl⟩:∃c,c=b:=⟨_,rfl⟩
   refine aO mixed ai (γ:=Nat) (λq=>[(12,iD q)]) (λ_=>[(b10,.cells 81 (aA d)),(b7,.cells 150 (zx y))]) (λq=>q<=D) (λq=>D-q) 0 (ah av) (Sc.refl _) (zW _) ?_;intro q hq;by_cases hqq:q<D
   .exfalso;omega
   .obtain rfl:q=D:=by omega
    have hn1:set[((q:Nat):Int).toNat]?=some (R:Int):=u;have hz:p.plants[((R:Nat):Int).toNat]?=some M:=l;have hzs:=hp.v M (zG l);have zv:=hzs.v;have zm:=hzs.m;unfold Pv at j;simp only[zJ,zQ]at j;obtain⟨c1,c2⟩:=j;exact E0
  .have HT:=aE7 p.plants hp.v set (λn E=>by
    obtain⟨q,hq⟩:=yO E;obtain⟨a,z,rfl,hal,_⟩:=hat q n hq;omega) (by omega)
   have ht:=GV hp.v set;have V:0<=y.many*y.each/\y.many*y.each<=6:=EV;obtain⟨ck,t⟩:∃y,p.counts[k]?=some y:=⟨_,zD (by omega)⟩
   have hck:p.counts[((k:Nat):Int).toNat]?=some ck:=t;by_cases hlim:ck<cu p.plants set+y.many*y.each
   .refine⟨4,(λe=>by cases e),?_⟩;refine ap func100 ntmps100 λC=>?_;exact Z6
   .refine⟨0,(λ_=>L rfl),?_⟩;refine ap func100 ntmps100 λC=>?_;exact Z6
end
section
open Go
def aX4{α:Type}{n:Nat}{q:Nat->α->Prop}[Inhabited α](h:∀i,i<n->∃a,q i a):∃g:Nat->α,∀i,i<n->q i (g i):=
 ⟨λi=>if b:i<n then Classical.choose (h i b)else default,λi b=>by simp only[dif_pos b];exact Classical.choose_spec (h i b)⟩
structure g0(x:ak)(p:fc):Prop where
 pl:∀y∈p.plants,lw x y
 cl:p.counts.length=x.kz.length
 lim:(fp x).all (λl=>jU l p.counts)=true
 lef:∀y∈p.plants,∀(k f:Nat)kd d,cN x y=((k:Int),(f:Int))->x.kz[k]?=some kd->kd.fields[f]?=some d->fO x p.plants d k f=0->p.counts.getD k 0<=cu p.plants (eA x p.plants k f p.plants.length)
def Uo{A B:Prop}(k:B)(h:ar B->A:=by intro q7;(first|refine vl ?_|((with_reducible refine Dr.l ?h ?_);(case h=>decide +kernel))|refine RF ?_);exact q7.1):A:=h ⟨k⟩
def eK{A B:Prop}(k:B)(h:ar B->A:=by intro q7;(first|refine bc ?_|refine Uo ?_|(refine' aj ?hc ?_;(case hc=>first|exact HL|exact HN|exact HA|exact HO|exact HF|exact HE|exact HS|exact HT)));exact q7.1):A:=h ⟨k⟩
variable{p:Prop}
def Nr(h:p:=by
 have HO:=(hg i (by omega)).2;rw[hg0 i hii]at HO
 repeat refine eK ?_
 exact⟨i+1,(ah av),Sc.refl _,by omega,by omega⟩):p:=h
def o9(h:p:=by
 repeat refine eK ?_
 exact⟨i+1,(ah av),Sc.refl _,by omega,by omega⟩):p:=h
def bg6(x:ak)(h:pO x)(J:RB x)(HC:APure prog 44 [aw x] (.sl 4 []))(p:fc)(v:gG p):∃e,(e=0->g0 x p)/\APure prog 60 [aw x,eX p] (iD e):=by
 have hnk:=h.sm.nk;have hpn:=v.n;have hcl:=v.cs.l;have hsd:=v.sd.n;have hz:=lq p.seed;have P:lT p.counts=true:=by
  unfold lT;rw[yA];intro c hc;have:=v.cs.v c hc;simp;omega
 have HL:=aV3 x h.sm HC;have HN:=aD1 p.counts (by omega);rw[P]at HN;have HA:=IV (fp x) p.counts (by omega) (by have:=h.lm.l;omega);by_cases hc:p.counts.length=x.kz.length
 case neg=>
  refine⟨1,(λe=>by cases e),?_⟩;refine ap func60 ntmps60 λU=>?_
  repeat refine eK ?_
  refine Rt.pure (zM iD ?_);rfl
 cases F:(fp x).all (λl=>jU l p.counts)with
 |false=>
  rw[F]at HA;refine⟨14,(λe=>by cases e),?_⟩;refine ap func60 ntmps60 λU=>?_
  repeat refine eK ?_
  refine Rt.pure (zM iD ?_);rfl
 |true=>
  rw[F]at HA;obtain⟨g,hg⟩:∃g:Nat->Int,∀i,i<p.plants.length->(∀y,p.plants[i]?=some y->g i=0->lw x y)/\APure prog 100 [aw x,eX p,iD i] (iD (g i)):=by
   refine aX4 (q:=λ(i:Nat)(z:Int)=>(∀y,p.plants[i]?=some y->z=0->lw x y)/\APure prog 100 [aw x,eX p,iD i] (iD z)) λi hi=>?_;obtain⟨y,b⟩:∃y,p.plants[i]?=some y:=⟨_,zD hi⟩
   obtain⟨e,he,H⟩:=IU x h.sm J p v hc i y b;exact⟨e,λy' M hz=>by rw[b]at M;cases M;exact he hz,H⟩
  by_cases hbad:∃i:Nat,i<p.plants.length/\g i≠0
  .obtain⟨i0,L⟩:=hbad;obtain⟨I,_,⟨S,Z⟩,D⟩:=sn (p:=λi:Nat=>i<p.plants.length/\g i≠0) L;refine⟨g I,(λe=>absurd e Z),?_⟩;refine ap func60 ntmps60 λU=>?_
   repeat refine eK ?_
   refine aO mixed ai (γ:=Nat) (λq=>[(8,iD q)]) (λ_=>[]) (λq=>q<=I) (λq=>I-q) 0 (ah av) (Sc.refl _) (zW _) ?_;intro i hi;by_cases hii:i<I
   .have HO:=(hg i (by omega)).2;have Y:g i=0:=Classical.not_not.1 λu=>D i hii ⟨by omega,u⟩;rw[Y]at HO;exact o9
   .obtain rfl:i=I:=by omega
    have HO:=(hg i S).2
    repeat refine eK ?_
    refine Rt.pure (zM iD ?_);rfl
  have hg0:∀i,i<p.plants.length->g i=0:=λi hi=>Classical.not_not.1 λu=>hbad ⟨i,hi,u⟩;have K:∀(i:Nat)y,p.plants[i]?=some y->lw x y:=λi y hy=>(hg i (zE.1 hy).1).1 y hy (hg0 i (zE.1 hy).1)
  -- what the second loop looks at
  have s:∀i,i<p.plants.length->∃(k f:Nat)(kd:aq)(d:an)(y:dO),p.plants[i]?=some y/\cN x y=((k:Int),(f:Int))/\x.kz[k]?=some kd/\kd.fields[f]?=some d:=λi hi=>by
   obtain⟨y,b⟩:∃y,p.plants[i]?=some y:=⟨_,zD hi⟩
   obtain⟨k,f,kd,d,h1,h2,h3⟩:=Es (K i y b).1;exact⟨k,f,kd,d,y,b,h1,h2,h3⟩
  by_cases hbd:∃i:Nat,∃(k f:Nat)(kd:aq)(d:an)(y:dO),p.plants[i]?=some y/\cN x y=((k:Int),(f:Int))/\x.kz[k]?=some kd/\kd.fields[f]?=some d/\fO x p.plants d k f=0/\cu p.plants (eA x p.plants k f p.plants.length)<p.counts.getD k 0
  .obtain⟨i0,L⟩:=hbd;obtain⟨I,_,⟨k1,f1,V,d1,y1,b1,b2,b3,b4,b5,b6⟩,D⟩:=sn (p:=λi:Nat=>∃(k f:Nat)(kd:aq)(d:an)(y:dO),p.plants[i]?=some y/\cN x y=((k:Int),(f:Int))/\x.kz[k]?=some kd/\kd.fields[f]?=some d/\fO x p.plants d k f=0/\cu p.plants (eA x p.plants k f p.plants.length)<p.counts.getD k 0) L;have S:=(zE.1 b1).1;refine⟨6,(λe=>by cases e),?_⟩;refine ap func60 ntmps60 λU=>?_
   repeat refine eK ?_
   refine aO mixed ai (γ:=Nat) (λq=>[(8,iD q)]) (λ_=>[]) (λq=>q<=p.plants.length) (λq=>p.plants.length-q) 0 (ah av) (Sc.refl _) (zW _) ?_;intro i hi;by_cases hii:i<p.plants.length
   .exact Nr
   obtain rfl:i=p.plants.length:=by omega
   clear hii hi
   repeat refine eK ?_
   refine aO mixed ai (γ:=Nat) (λq=>[(10,iD q)]) (λ_=>[]) (λq=>q<=I) (λq=>I-q) 0 (ah av) (Sc.refl _) (zW _) ?_;intro i hi;by_cases hii:i<I
   .obtain⟨k,f,kd,d,y,b,o,t,E⟩:=s i (by omega);have hy:p.plants[((i:Nat):Int).toNat]?=some y:=b;have HF:=az2 x h.sm y;rw[o]at HF;have R:=(zE.1 t).1;have r:=J kd (zG t) d (zG E);have HE:=aE9 x h.sm p v k f kd d t E r.1 r.2;have HS:=Q7 x h.sm p.plants (by omega) k f;have O:=KD x p.plants k f p.plants.length;have w:=λn(C:n∈eA x p.plants k f p.plants.length)=>R5 C;have HT:=aE7 p.plants v.v (eA x p.plants k f p.plants.length) (λn C=>by
     obtain⟨a,z,e1,e2,_⟩:=w n C;omega) (by omega)
    obtain⟨ck,j⟩:∃y,p.counts[k]?=some y:=⟨_,zD (by omega)⟩
    have T:p.counts[((k:Nat):Int).toNat]?=some ck:=j;have G:p.counts.getD k 0=ck:=by rw[List.getD_eq_getElem?_getD,j];rfl
    have X:¬(fO x p.plants d k f=0/\cu p.plants (eA x p.plants k f p.plants.length)<ck):=λu=>D i hii ⟨k,f,kd,d,y,b,o,t,E,u.1,by rw[G];exact u.2⟩;by_cases hl0:fO x p.plants d k f=0
    .have Q:¬cu p.plants (eA x p.plants k f p.plants.length)<ck:=λu=>X ⟨hl0,u⟩;exact o9
    .exact o9
   .obtain rfl:i=I:=by omega
    obtain⟨k,f,kd,d,y,b,o,t,E⟩:=s i (by omega);have hy:p.plants[((i:Nat):Int).toNat]?=some y:=b;have HF:=az2 x h.sm y;rw[o]at HF;have R:=(zE.1 t).1;have r:=J kd (zG t) d (zG E);have HE:=aE9 x h.sm p v k f kd d t E r.1 r.2;have HS:=Q7 x h.sm p.plants (by omega) k f;have O:=KD x p.plants k f p.plants.length;have w:=λn(C:n∈eA x p.plants k f p.plants.length)=>R5 C;have HT:=aE7 p.plants v.v (eA x p.plants k f p.plants.length) (λn C=>by
     obtain⟨a,z,e1,e2,_⟩:=w n C;omega) (by omega)
    obtain⟨ck,j⟩:∃y,p.counts[k]?=some y:=⟨_,zD (by omega)⟩
    have T:p.counts[((k:Nat):Int).toNat]?=some ck:=j;have G:p.counts.getD k 0=ck:=by rw[List.getD_eq_getElem?_getD,j];rfl
    obtain rfl:y1=y:=by rw[b]at b1;exact(wK b1).symm
    rw[o]at b2;simp only[vY,Int.natCast_inj]at b2;obtain⟨rfl,rfl⟩:=b2;obtain rfl:V=kd:=by rw[t]at b3;exact(wK b3).symm
    obtain rfl:d1=d:=by rw[E]at b4;exact(wK b4).symm
    rw[G]at b6
    repeat refine eK ?_
    refine Rt.pure (zM iD ?_);rfl
  .refine⟨0,λ_=>⟨λy hy=>by obtain⟨i,hi⟩:=yO hy;exact K i y hi,hc,F,λy hy k f kd d h1 h2 h3 h4=>?_⟩,?_⟩
   .obtain⟨i,hi⟩:=yO hy;exact Int.not_lt.1 λu=>hbd ⟨i,k,f,kd,d,y,hi,h1,h2,h3,h4,u⟩
   .refine ap func60 ntmps60 λU=>?_
    repeat refine eK ?_
    refine aO mixed ai (γ:=Nat) (λq=>[(8,iD q)]) (λ_=>[]) (λq=>q<=p.plants.length) (λq=>p.plants.length-q) 0 (ah av) (Sc.refl _) (zW _) ?_;intro i hi;by_cases hii:i<p.plants.length
    .exact Nr
    obtain rfl:i=p.plants.length:=by omega
    clear hii hi
    repeat refine eK ?_
    refine aO mixed ai (γ:=Nat) (λq=>[(10,iD q)]) (λ_=>[]) (λq=>q<=p.plants.length) (λq=>p.plants.length-q) 0 (ah av) (Sc.refl _) (zW _) ?_;intro i hi;by_cases hii:i<p.plants.length
    .obtain⟨k,f,kd,d,y,b,o,t,E⟩:=s i (by omega);have hy:p.plants[((i:Nat):Int).toNat]?=some y:=b;have HF:=az2 x h.sm y;rw[o]at HF;have R:=(zE.1 t).1;have r:=J kd (zG t) d (zG E);have HE:=aE9 x h.sm p v k f kd d t E r.1 r.2;have HS:=Q7 x h.sm p.plants (by omega) k f;have O:=KD x p.plants k f p.plants.length;have w:=λn(C:n∈eA x p.plants k f p.plants.length)=>R5 C;have HT:=aE7 p.plants v.v (eA x p.plants k f p.plants.length) (λn C=>by
      obtain⟨a,z,e1,e2,_⟩:=w n C;omega) (by omega)
     obtain⟨ck,j⟩:∃y,p.counts[k]?=some y:=⟨_,zD (by omega)⟩
     have T:p.counts[((k:Nat):Int).toNat]?=some ck:=j;have G:p.counts.getD k 0=ck:=by rw[List.getD_eq_getElem?_getD,j];rfl
     by_cases hl0:fO x p.plants d k f=0
     .have Q:¬cu p.plants (eA x p.plants k f p.plants.length)<ck:=λu=>hbd ⟨i,k,f,kd,d,y,b,o,t,E,hl0,by rw[G];exact u⟩;exact o9
     .exact o9
    .obtain rfl:i=p.plants.length:=by omega
     repeat refine eK ?_
     refine Rt.pure (zM iD ?_);rfl
end
section
open Go
def Ui{A B:Prop}(k:B)(h:ar B->A:=by intro q7;(first|refine bc ?_|refine aE ?_|(refine' aj ?hc ?_;(case hc=>first|exact HV|exact HI)));exact q7.1):A:=h ⟨k⟩
def aQ2(x:ak)(p:fc)(HV:APure prog 60 [aw x,eX p] (iD 0))(k f:Nat)(kd:aq)(d:an)(a:x.kz[k]?=some kd)(b:kd.fields[f]?=some d)(h2:d.kind=2):APure prog 242 [aw x,eX p,iD k,iD f] (iD 0):=by
 have HI:=Cr x k f kd d a b;have l:=(zE.1 a).1;have g:=(zE.1 b).1;have e:x.kz[((k:Nat):Int).toNat]?=some kd:=a;have i:kd.fields[((f:Nat):Int).toNat]?=some d:=b;refine ap func242 ntmps242 λj=>?_
 repeat refine Ui ?_
 refine Rt.pure (zM iD ?_);rfl
def Uh{A B:Prop}(k:B)(h:ar B->A:=by intro q7;(first|refine bc ?_|refine aE ?_|(refine' aj ?hc ?_;(case hc=>first|exact HN|exact HL)));exact q7.1):A:=h ⟨k⟩
def Ct(x:ak)(h:p9 x)(p:fc)(e:gG p)(V:APure prog 60 [aw x,eX p] (iD 0))(k f:Nat)(kd:aq)(d:an)(a:x.kz[k]?=some kd)(b:kd.fields[f]?=some d)(h2:d.kind=2)(o:-2097152<=d.lo/\d.lo<=2097152)(i:-2097152<=d.hi/\d.hi<=2097152):APure prog 199 [aw x,eX p,iD k,iD f] (.tup [iD (fO x p.plants d k f),iD 0]):=by
 have HN:=aQ2 x p V k f kd d a b h2;have HL:=aE9 x h p e k f kd d a b o i;refine ap func199 ntmps199 λg=>?_
 repeat refine Uh ?_
 exact Rt.pure rfl
variable{x:ak}{i:Nat}{l:List dO}
def kF{k f:Int}(h:i<(eA x l k f l.length).length):∃(q:Nat)(y:dO),(eA x l k f l.length)[i]?=some (q:Int)/\q<l.length/\l[q]?=some y:=by
 obtain⟨n,a⟩:∃y,(eA x l k f l.length)[i]?=some y:=⟨_,zD h⟩
 obtain⟨q,y,rfl,c,b,_,_⟩:=R5 (zG a);exact⟨q,y,a,c,b⟩
variable{y:dO}
def aE1{set:List Int}{q:Nat}(h:set[i]?=some (q:Int))(a:l[q]?=some y):cu l (set.take (i+1))=cu l (set.take i)+y.many*y.each:=by
 unfold cu;rw[xC,h,yB,vO];simp[nx,a]
def oE(h:mR y):1<=y.many*y.each/\y.many*y.each<=6:=by
 have m:=h.m;have a:=h.e;exact EV
def S1{a e:Int}(h:0<=a/\a<=100)(b:1<=e/\e<=3):0<=a.tdiv e/\a.tdiv e<=100:=by
 rw[Int.tdiv_eq_ediv_of_nonneg h.1];have:e=1\/e=2\/e=3:=by omega
 rcases this with rfl|rfl|rfl<;>omega
variable{p:Prop}
def Nu(h:p:=by
 repeat' first|refine dR ?_|intro b;conv=>whnf
 exact⟨i+1,(ah av),(Sc.sl (yG _ _)),by omega,by omega⟩):p:=h
def Pc(x:ak)(h:p9 x)(p:fc)(C:gG p)(k f:Nat)(pl:Int)(hpl:0<=pl/\pl<=100):∃v b,(-8388608<=v/\v<=8388608)/\(b=false->cu p.plants (eA x p.plants k f p.plants.length)<=pl)/\APure prog 241 [aw x,eX p,iD k,iD f,iD pl] (.tup [iD v,bD b]):=by
 have hn:=C.n;have HO:=Q7 x h p.plants (by omega) k f;have o:=KD x p.plants k f p.plants.length;generalize t:eA x p.plants k f p.plants.length=set at *;have e0:cu p.plants (set.take 0)=0:=rfl;by_cases hb:∃i:Nat,i<set.length/\pl<cu p.plants (set.take (i+1))
 .obtain⟨i0,R⟩:=hb;obtain⟨r,_,⟨z,hb1⟩,E⟩:=sn (p:=λi:Nat=>i<set.length/\pl<cu p.plants (set.take (i+1))) R;obtain⟨Z,J,L,X,F⟩:=kF (x:=x) (l:=p.plants) (k:=k) (f:=f) (i:=r) (by rw[t];exact z);have hge:cu p.plants (set.take r)<=pl:=by
   by_cases P:r=0
   .subst P;rw[e0];omega
   .obtain⟨j,rfl⟩:∃j,r=j+1:=⟨r-1,by omega⟩
    exact Int.not_lt.1 λG=>E j (by omega) ⟨by omega,G⟩
  have D:=C.v J (zG F);have hd1:=S1 (a:=pl-cu p.plants (set.take r)) (e:=J.each) ⟨by omega,by have:=GV C.v (set.take r);omega⟩ D.e;have Y:=D.v;refine⟨J.value+(pl-cu p.plants (set.take r)).tdiv J.each,true,by omega,(λe=>by cases e),?_⟩;refine ap func241 ntmps241 λBB=>?_
  repeat' first|refine dR ?_|intro b;conv=>whnf
  refine aO mixed ai (γ:=Nat) (λi=>[(13,iD (cu p.plants (set.take i))),(14,iD i)]) (λ_=>[]) (λi=>i<=r) (λi=>r-i) 0 (ah av) (Sc.refl _) (zW _) ?_;intro i hi;by_cases hii:i<r
  .rw[←t]at z o;obtain⟨q,y,w,K,g⟩:=kF (x:=x) (l:=p.plants) (k:=k) (f:=f) (i:=i) (by omega);have I:set[((i:Nat):Int).toNat]?=some (q:Int):=by rw[←t];exact w
   have hy:p.plants[((q:Nat):Int).toNat]?=some y:=g;have s:=C.v y (zG g);have T:=s.v;have U:=s.m;have V:=s.e;have M:=oE s;have u:=aE1 (l:=p.plants) I hy;rw[Int.toNat_natCast]at u;have ht:=GV C.v (set.take i);have O:(set.take i).length<=100:=by rw[zR];omega
   have Q:¬pl<cu p.plants (set.take (i+1)):=λG=>E i hii ⟨by rw[←t];omega,G⟩;rw[t]at z o;exact Nu
  .obtain rfl:i=r:=by omega
   rw[←t]at z o;obtain⟨q,y,w,K,g⟩:=kF (x:=x) (l:=p.plants) (k:=k) (f:=f) (i:=i) (by omega);have I:set[((i:Nat):Int).toNat]?=some (q:Int):=by rw[←t];exact w
   have hy:p.plants[((q:Nat):Int).toNat]?=some y:=g;have s:=C.v y (zG g);have T:=s.v;have U:=s.m;have V:=s.e;have M:=oE s;have u:=aE1 (l:=p.plants) I hy;rw[Int.toNat_natCast]at u;have ht:=GV C.v (set.take i);have O:(set.take i).length<=100:=by rw[zR];omega
   rw[t]at z o L;have S:Z=q:=by
    have:=I;rw[Int.toNat_natCast,L]at this;have:=wK this;omega
   subst S;obtain rfl:J=y:=by rw[g]at F;exact(wK F).symm
   repeat' first|refine dR ?_|intro b;conv=>whnf
   exact Rt.pure rfl
 .refine⟨0,false,by omega,λ_=>?_,?_⟩
  .by_cases P:set.length=0
   .obtain rfl:set=[]:=wX.1 P;rw[show cu p.plants []=0 from rfl];omega
   .obtain⟨j,hj⟩:∃j,set.length=j+1:=⟨set.length-1,by omega⟩
    have:=Int.not_lt.1 λG=>hb ⟨j,by omega,G⟩
    rwa [←hj,yM]at this
  .refine ap func241 ntmps241 λBB=>?_
   repeat' first|refine dR ?_|intro b;conv=>whnf
   refine aO mixed ai (γ:=Nat) (λi=>[(13,iD (cu p.plants (set.take i))),(14,iD i)]) (λ_=>[]) (λi=>i<=set.length) (λi=>set.length-i) 0 (ah av) (Sc.refl _) (zW _) ?_;intro i hi;by_cases hii:i<set.length
   .rw[←t]at hii o;obtain⟨q,y,w,K,g⟩:=kF (x:=x) (l:=p.plants) (k:=k) (f:=f) (i:=i) (by omega);have I:set[((i:Nat):Int).toNat]?=some (q:Int):=by rw[←t];exact w
    have hy:p.plants[((q:Nat):Int).toNat]?=some y:=g;have s:=C.v y (zG g);have T:=s.v;have U:=s.m;have V:=s.e;have M:=oE s;have u:=aE1 (l:=p.plants) I hy;rw[Int.toNat_natCast]at u;have ht:=GV C.v (set.take i);have O:(set.take i).length<=100:=by rw[zR];omega
    have Q:¬pl<cu p.plants (set.take (i+1)):=λG=>hb ⟨i,by rw[←t];omega,G⟩;rw[t]at hii o;exact Nu
   .obtain rfl:i=set.length:=by omega
    repeat' first|refine dR ?_|intro b;conv=>whnf
    exact Rt.pure rfl
def CM(l:List dO)(v:Int)(n:Int):Bool:=match l[n.toNat]? with|some y=>decide (y.value<=v)&&decide (v<y.value+y.many)|none=>false
def ol(x:ak)(l:List dO)(k f v:Int):Bool:=(eA x l k f l.length).any (CM l v)
def I1{k f v:Int}(h:∀y∈l,mR y)(p:ol x l k f v=true):v<=4194306:=by
 obtain⟨n,d,b⟩:=wC.1 p;unfold CM at b;split at b
 .rename_i y c;simp only[zJ,zQ]at b;have a:=h y (zG c);have:=a.v;have:=a.m;omega
 .cases b
def ZE(h:p:=by
 unfold CM at hno;rw[hy]at hno;simp only at hno
 cases c1:decide (y.value<=pl)with
 |false=>
  have c1':=of_decide_eq_false c1
  repeat' first|refine dR ?_|intro b;conv=>whnf
  exact⟨i+1,(ah av),(Sc.sl (yG _ _)),by omega,by omega⟩
 |true=>
  rw[c1,Bool.true_and]at hno;have c1':=wY c1;have c2':=of_decide_eq_false hno
  repeat' first|refine dR ?_|intro b;conv=>whnf
  exact⟨i+1,(ah av),(Sc.sl (yG _ _)),by omega,by omega⟩):p:=h
def og(x:ak)(h:p9 x)(p:fc)(u:gG p)(k f:Nat)(pl:Int)(Q:-16777216<=pl/\pl<=16777216):APure prog 243 [aw x,eX p,iD k,iD f,iD pl] (bD (ol x p.plants k f pl)):=by
 have L:=u.n;have HO:=Q7 x h p.plants (by omega) k f;have j:=KD x p.plants k f p.plants.length;unfold ol;generalize t:eA x p.plants k f p.plants.length=set at *;by_cases hb:∃i:Nat,∃n,set[i]?=some n/\CM p.plants pl n=true
 .obtain⟨S,J⟩:=hb;obtain⟨D,_,⟨K,o,g⟩,v⟩:=sn (p:=λi:Nat=>∃n,set[i]?=some n/\CM p.plants pl n=true) J;have w:=(zE.1 o).1;rw[wC.2 ⟨K,zG o,g⟩];refine ap func243 ntmps243 λR=>?_
  repeat' first|refine dR ?_|intro b;conv=>whnf
  refine aO mixed ai (γ:=Nat) (λi=>[(12,iD i)]) (λ_=>[]) (λi=>i<=D) (λi=>D-i) 0 (ah av) (Sc.refl _) (zW _) ?_;intro i hi;rw[←t]at w j;obtain⟨q,y,a,E,e⟩:=kF (x:=x) (l:=p.plants) (k:=k) (f:=f) (i:=i) (by omega);have F:set[((i:Nat):Int).toNat]?=some (q:Int):=by rw[←t];exact a
  have hy:p.plants[((q:Nat):Int).toNat]?=some y:=e;have s:=u.v y (zG e);have M:=s.v;have O:=s.m;have P:=s.e;have G:=oE s;have r:=aE1 (l:=p.plants) F hy;rw[Int.toNat_natCast]at r;have ht:=GV u.v (set.take i);have I:(set.take i).length<=100:=by rw[zR];omega
  rw[t]at w j a;by_cases hii:i<D
  .have hno:CM p.plants pl q=false:=by
    cases z:CM p.plants pl q with
    |false=>rfl
    |true=>exact absurd ⟨_,a,z⟩ (v i hii)
   exact ZE
  .obtain rfl:i=D:=by omega
   obtain rfl:K=(q:Int):=by rw[a]at o;exact(wK o).symm
   unfold CM at g;rw[hy]at g;simp only[zJ,zQ]at g;obtain⟨c1,T⟩:=g
   repeat' first|refine dR ?_|intro b;conv=>whnf
   refine Rt.pure (zM bD ?_);rfl
 .have C:set.any (CM p.plants pl)=false:=by
   rw[List.any_eq_false];intro n L z;obtain⟨i,hi⟩:=yO L;exact hb ⟨i,n,hi,z⟩
  rw[C];refine ap func243 ntmps243 λR=>?_
  repeat' first|refine dR ?_|intro b;conv=>whnf
  refine aO mixed ai (γ:=Nat) (λi=>[(12,iD i)]) (λ_=>[]) (λi=>i<=set.length) (λi=>set.length-i) 0 (ah av) (Sc.refl _) (zW _) ?_;intro i hi;by_cases hii:i<set.length
  .rw[←t]at hii j;obtain⟨q,y,a,E,e⟩:=kF (x:=x) (l:=p.plants) (k:=k) (f:=f) (i:=i) (by omega);have F:set[((i:Nat):Int).toNat]?=some (q:Int):=by rw[←t];exact a
   have hy:p.plants[((q:Nat):Int).toNat]?=some y:=e;have s:=u.v y (zG e);have M:=s.v;have O:=s.m;have P:=s.e;have G:=oE s;have r:=aE1 (l:=p.plants) F hy;rw[Int.toNat_natCast]at r;have ht:=GV u.v (set.take i);have I:(set.take i).length<=100:=by rw[zR];omega
   rw[t]at hii j a;have hno:CM p.plants pl q=false:=by
    cases z:CM p.plants pl q with
    |false=>rfl
    |true=>exact absurd ⟨i,_,a,z⟩ hb
   exact ZE
  .obtain rfl:i=set.length:=by omega
   repeat' first|refine dR ?_|intro b;conv=>whnf
   refine Rt.pure (zM bD ?_);rfl
end
section
open Go
def Jm{x:ak}{l:List dO}{k f:Int}(h:∀y∈l,mR y)(n:Int):∃j:Nat,ol x l k f (n+j)=false/\(∀i:Nat,i<j->ol x l k f (n+i)=true)/\(n+j<=n\/n+j<=4194307):=by
 have g:ol x l k f (n+((4194307-n).toNat:Nat))=false:=by
  cases b:ol x l k f (n+((4194307-n).toNat:Nat))with
  |false=>rfl
  |true=>have:=I1 h b;omega
 obtain⟨j,m,d,c⟩:=sn (p:=λj:Nat=>ol x l k f (n+j)=false) g;refine⟨j,d,λi a=>?_,?_⟩
 .have:=c i a
  rwa [Bool.not_eq_false]at this
 .by_cases e:n<=4194307
  .right;omega
  .left;omega
def pT(g:Int->Nat)(lo:Int):Nat->Int
 |0=>lo+g lo
 |i+1=>pT g lo i+1+g (pT g lo i+1)
def jf{A B:Prop}(k:B)(h:ar B->A:=by intro q7;(first|refine bc ?_|refine aE ?_|(refine' aj ?hc ?_;(case hc=>first|exact HN|exact HL|assumption)));exact q7.1):A:=h ⟨k⟩
variable{p:Prop}
def Nz(h:p:=by
 refine⟨0,5,by omega,?_⟩;refine ap func200 ntmps200 λBB=>?_
 repeat' first|refine jf ?_|intro b;conv=>whnf
 exact Rt.pure rfl):p:=h
def M4(h:p:=by
 repeat' first|refine jf ?_|intro b;conv=>whnf
 exact⟨j+1,(ah av),Sc.refl _,by omega,by omega⟩):p:=h
def Cn(x:ak)(h:p9 x)(p:fc)(y:gG p)(V:APure prog 60 [aw x,eX p] (iD 0))(k f:Nat)(kd:aq)(d:an)(z:x.kz[k]?=some kd)(C:kd.fields[f]?=some d)(h2:d.kind=2)(D:-2097152<=d.lo/\d.lo<=2097152)(E:-2097152<=d.hi/\d.hi<=2097152)(m:Int)(X:-8388608<=m/\m<=8388608):∃v e,(-33554432<=v/\v<=33554432)/\APure prog 200 [aw x,eX p,iD k,iD f,iD m] (.tup [iD v,iD e]):=by
 have HN:=aQ2 x p V k f kd d z C h2;have HL:=aE9 x h p y k f kd d z C D E;have P:=λv J=>og x h p y k f v J;have Q:=(zE.1 z).1;have S:=(zE.1 C).1;have R:x.kz[((k:Nat):Int).toNat]?=some kd:=z;have T:kd.fields[((f:Nat):Int).toNat]?=some d:=C;by_cases c1:m<0
 .exact Nz
 by_cases c2:fO x p.plants d k f<=m
 .exact Nz
 obtain⟨g,u⟩:=Classical.axiomOfChoice (Jm (x:=x) (k:=k) (f:=f) y.v);have M:=lW y.v (eA x p.plants k f p.plants.length);have O:fO x p.plants d k f<=d.hi-d.lo+1:=by unfold fO;omega
 obtain⟨l,rfl⟩:∃a:Nat,m=a:=⟨m.toNat,by omega⟩
 have o:∀i:Nat,i<=l->d.lo<=pT g d.lo i/\pT g d.lo i<=4194308+i:=by
  intro i
  induction i with
  |zero=>intro _;have:=(u d.lo).2.2;show d.lo<=d.lo+(g d.lo:Int)/\d.lo+(g d.lo:Int)<=_;omega
  |succ i I=>intro hi;have:=I (by omega);have:=(u (pT g d.lo i+1)).2.2;show d.lo<=pT g d.lo i+1+(g (pT g d.lo i+1):Int)/\pT g d.lo i+1+(g (pT g d.lo i+1):Int)<=_;omega
 have G:=o l (zT _);refine⟨pT g d.lo l,0,by omega,?_⟩;refine ap func200 ntmps200 λBB=>?_
 repeat' first|refine jf ?_|intro b;conv=>whnf
 obtain⟨q,rfl⟩:∃c,c=b:=⟨_,rfl⟩
 refine aO mixed ai (γ:=Nat) (λj=>[(14,iD (d.lo+(j:Int)))]) (λ_=>[(q,.cells 81 (aA d))]) (λj=>j<=g d.lo) (λj=>g d.lo-j) 0 (ah av) (Sc.refl _) (zW _) ?_;intro j hj;have hb:=(u d.lo).2.2;by_cases hjl:j<g d.lo
 .have t:=P (d.lo+j) (by omega);rw[(u d.lo).2.1 j hjl]at t;exact M4
 obtain rfl:j=g d.lo:=by omega
 have t:=P (d.lo+(g d.lo:Int)) (by omega);rw[(u d.lo).1]at t
 repeat' first|refine jf ?_|intro b;conv=>whnf
 refine aO mixed ai (γ:=Nat) (λi=>[(14,iD (pT g d.lo i)),(15,iD i)]) (λ_=>[(q,.cells 81 (aA d))]) (λi=>i<=l) (λi=>l-i) 0 (ah av) (Sc.refl _) (zW _) ?_;intro i hi;have K:=o i hi;by_cases hil:i<l
 .have F:=o (i+1) hil;have U:pT g d.lo (i+1)=pT g d.lo i+1+(g (pT g d.lo i+1):Int):=rfl;have w:=u (pT g d.lo i+1);generalize L:pT g d.lo i=s at *
  repeat' first|refine jf ?_|intro b;conv=>whnf
  refine aO mixed ai (γ:=Nat) (λj=>[(14,iD (s+1+(j:Int)))]) (λ_=>[(q,.cells 81 (aA d))]) (λj=>j<=g (s+1)) (λj=>g (s+1)-j) 0 (ah av) (Sc.refl _) (zW _) ?_;intro j hj;by_cases hjl:j<g (s+1)
  .have r:=P (s+1+j) (by omega);rw[w.2.1 j hjl]at r;exact M4
  obtain rfl:j=g (s+1):=by omega
  have r:=P (s+1+(g (s+1):Int)) (by omega);rw[w.1]at r
  repeat' first|refine jf ?_|intro b;conv=>whnf
  exact⟨i+1,(ah av),Sc.refl _,by omega,by omega⟩
 obtain rfl:i=l:=by omega
 repeat' first|refine jf ?_|intro b;conv=>whnf
 exact Rt.pure rfl
abbrev apD(k i:Nat):D:=.agg [iD k,iD i]
def Uf{A B:Prop}(k:B)(h:ar B->A:=by intro q7;(first|refine bc ?_|refine aE ?_|(refine' aj ?hc ?_;(case hc=>first|exact HV|exact HI|exact HPT|exact HA|exact HT)));exact q7.1):A:=h ⟨k⟩
def wQ(x:ak)(h:p9 x)(p:fc)(n:gG p)(HV:APure prog 60 [aw x,eX p] (iD 0))(k f:Nat)(kd:aq)(d:an)(l:x.kz[k]?=some kd)(o:kd.fields[f]?=some d)(c:Nat)(hc:p.counts[k]?=some (c:Int))(a:c<=16)(i:Nat)(hi:i<c):∃v b,(-8388608<=v/\v<=8388608)/\(b=false->cu p.plants (eA x p.plants k f p.plants.length)<(c:Int))/\APure prog 198 [aw x,eX p,apD k i,iD f] (.tup [iD v,bD b,iD 0]):=by
 have r:=h.nk;have t:=h.nf kd (zG l);have HI:=Cr x k f kd d l o;have s:=(zE.1 l).1;have u:=(zE.1 o).1;have HPT:=Cq k f (by omega) (by omega);have y:p.counts[((k:Nat):Int).toNat]?=some (c:Int):=hc;have w:=(zE.1 hc).1;have j:∀v∈[(9:Int),(k:Int),(f:Int)],cp v:=λv g=>by
  simp only[zU,yF,xE]at g;rcases g with rfl|rfl|rfl<;>(constructor<;>omega)
 obtain⟨pl,q,HA⟩:=Mn p.seed n.sd [9,(k:Int),(f:Int)] (by simp) j c a i hi;obtain⟨v,b,g,hb,HT⟩:=Pc x h p n k f pl (by omega);refine⟨v,b,g,λe=>by have:=hb e;omega,?_⟩;refine ap func198 ntmps198 λz=>?_
 repeat refine Uf ?_
 exact Rt.pure rfl
end
end Go.Proofs.YtilnpcolgcmofaaGreatDoor
