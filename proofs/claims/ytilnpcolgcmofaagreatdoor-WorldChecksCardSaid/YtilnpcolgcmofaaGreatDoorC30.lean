/- A part of the proof. -/
import Derived.Test.YtilnpcolgcmofaaGreatDoorC28
set_option maxRecDepth 100000
set_option maxHeartbeats 20000000
set_option linter.all false
namespace Go.Proofs.YtilnpcolgcmofaaGreatDoor
open Tryz
section
open Go
variable{p:Prop}
def Nd(h:p:=by
 refine ap func46 ntmps46 λBB=>?_
 repeat refine au ?_
 refine Rt.pure (zM bD ?_);simp[h1,h2]):p:=h
def aU7(n lo hi:Int):APure prog 46 [iD n,iD lo,iD hi] (bD (decide (lo<=n)&&decide (n<=hi))):=by
 by_cases h1:lo<=n
 .by_cases h2:n<=hi
  .exact Nd
  .exact Nd
 .refine ap func46 ntmps46 λBB=>?_
  repeat refine au ?_
  refine Rt.pure (zM bD ?_);simp[h1]
def mr(s:ByteArray):(s.toList==(⟨#[]⟩:ByteArray).toList)=dz s:=M2
def rat{kd:aq}{r:List Int}{n:ByteArray}(l:r.length=kd.fields.length)(h:0<=bb kd n):∃z,r[(bb kd n).toNat]?=some z/\r.getD (bb kd n).toNat 0=z:=by
 have:=KW kd n;obtain⟨z,a⟩:∃z,r[(bb kd n).toNat]?=some z:=⟨_,zD (by omega)⟩
 exact⟨z,a,cw a 0⟩
def Zz(h:p:=by
 rw[h2]at qb;obtain⟨zb,hzb,hgb⟩:=rat (r:=r) hrl (hb.resolve_left (by rw[h2];decide));have hvb:=hv zb (zG hzb);have eb:da kd r u.b=zb:=by unfold da il;rw[if_neg (by rw[h2];decide),hgb]
 have hb0:=hb.resolve_left (by rw[h2];decide);refine ap func90 ntmps90 λBB=>?_
 repeat refine nM ?_
 refine Rt.pure (zM bD ?_);unfold KB;rw[ea,eb]):p:=h
def Y6(h:p:=by
 rw[h2]at qb;have eb:da kd r u.b=0:=by unfold da;rw[if_pos h2]
 refine ap func90 ntmps90 λBB=>?_
 repeat refine nM ?_
 refine Rt.pure (zM bD ?_);unfold KB;rw[ea,eb]):p:=h
def Cc(kd:aq)(r:List Int)(u:cH)(hl:kd.fields.length<=1000000)(hrl:r.length=kd.fields.length)(f:dz u.a=true\/0<=bb kd u.a)(hb:dz u.b=true\/0<=bb kd u.b)(hv:∀z∈r,-1099511627776<=z/\z<=1099511627776)(n:-1048576<=u.n/\u.n<=1048576):APure prog 90 [fP kd,bv r,eR u] (bD (KB kd r u)):=by
 have HA:=nd kd u.a hl;have HB:=nd kd u.b hl;have q:=mr u.a;have qb:=mr u.b
 cases h1:dz u.a with
 |true=>
  rw[h1]at q;have ea:da kd r u.a=0:=by unfold da;rw[if_pos h1]
  cases h2:dz u.b with
  |true=>exact Y6
  |false=>exact Zz
 |false=>
  rw[h1]at q;obtain⟨e,a,b⟩:=rat (r:=r) hrl (f.resolve_left (by rw[h1];decide));have g:=hv e (zG a);have ea:da kd r u.a=e:=by unfold da il;rw[if_neg (by rw[h1];decide),b]
  have i:=f.resolve_left (by rw[h1];decide)
  cases h2:dz u.b with
  |true=>exact Y6
  |false=>exact Zz
def qC(w:Wd)(o:Ws w)(k f j:Nat)(l:List (List Int))(hl:w[k]?=some l)(s:∀y∈l,f<y.length):APure prog 91 [fI w,iD k,iD f,iD j] (iD ((l.countP λy=>decide (y.getD f 0=(j:Int)):Nat):Int)):=by
 have r:w[((k:Nat):Int).toNat]?=some l:=hl;have q:=o.nr l (zG hl);refine ap func91 ntmps91 λv=>?_
 repeat refine au ?_
 refine aO mixed ai (γ:=Nat) (λi=>[(9,iD (((l.take i).countP λy=>decide (y.getD f 0=(j:Int)):Nat):Int)),(10,iD i)]) (λ_=>[]) (λi=>i<=l.length) (λi=>l.length-i) 0 (ah av) (Sc.refl _) (zW _) ?_;intro i hi;by_cases hil:i<l.length
 .obtain⟨y,a⟩:∃y,l[i]?=some y:=⟨_,zD hil⟩
  have hy:l[((i:Nat):Int).toNat]?=some y:=a;obtain⟨z,b⟩:∃z,y[f]?=some z:=⟨_,zD (s y (zG a))⟩
  have u:y[((f:Nat):Int).toNat]?=some z:=b;have g:(l.take (i+1)).countP (λy=>decide (y.getD f 0=(j:Int)))=(l.take i).countP (λy=>decide (y.getD f 0=(j:Int)))+(if z=j then 1 else 0):=by
   rw[xC,a,List.countP_append];simp only[Option.toList_some,List.countP_cons,List.countP_nil,cw b];by_cases e:z=j<;>simp[e]
  have t:(l.take i).countP (λy=>decide (y.getD f 0=(j:Int)))<=1000:=xH List.countP_le_length (by rw[zR];omega);by_cases e:z=j
  .rw[if_pos e]at g;exact hZ
  .rw[if_neg e]at g;exact hZ
 .obtain rfl:i=l.length:=by omega
  rw[yM]
  repeat refine au ?_
  refine Rt.pure (zM iD ?_);rfl
def TD{A B:Prop}(k:B)(h:ar B->A:=by intro q7;(first|refine bc ?_|refine aE ?_|(refine' aj ?hc ?_;(case hc=>first|exact HF|exact HU)));exact q7.1):A:=h ⟨k⟩
def aU9(x:ak)(b:x.kz.length<=1000000)(a:∀k∈x.kz,k.fields.length<=1000000)(w:Wd)(k i f u:Nat)(kd:aq)(d:an)(e:x.kz[k]?=some kd)(n:kd.fields[f]?=some d)(q:bb kd d.up=u)(l:List (List Int))(r:List Int)(z:Int)(hl:w[k]?=some l)(j:l[i]?=some r)(g:r[u]?=some z):APure prog 137 [aw x,fI w,iD k,iD i,iD f] (.tup [iD (aG x k f),iD z]):=by
 have D:x.kz[((k:Nat):Int).toNat]?=some kd:=e;have F:kd.fields[((f:Nat):Int).toNat]?=some d:=n;have y:w[((k:Nat):Int).toNat]?=some l:=hl;have t:l[((i:Nat):Int).toNat]?=some r:=j;have p:r[((u:Nat):Int).toNat]?=some z:=g;have C:=(zE.1 e).1;have E:=(zE.1 n).1;have v:=(zE.1 hl).1;have s:=(zE.1 j).1;have o:=(zE.1 g).1;have HF:=nd kd d.up (a kd (zG e));rw[q]at HF;have HU:=FA x k f b a;refine ap func137 ntmps137 λG=>?_
 repeat refine TD ?_
 exact Rt.pure rfl
end
section
open Go
def aW6{x:ak}{n:ByteArray}(h:x.lz.any (λl=>seq l.name n)=true):∃(i:Nat)(l:bG),x.lz[i]?=some l/\seq l.name n=true/\R3 x n=l/\∀(j:Nat)(m:bG),j<i->x.lz[j]?=some m->seq m.name n=false:=by
 obtain⟨l,u,s⟩:=wC.1 h;obtain⟨y,f⟩:=yO u;obtain⟨i,_,⟨q,k,r⟩,b⟩:=sn (p:=λi:Nat=>∃l,x.lz[i]?=some l/\seq l.name n=true) ⟨l,f,s⟩;have o:∀(j:Nat)(m:bG),j<i->x.lz[j]?=some m->seq m.name n=false:=λj m c t=>by
  cases v:seq m.name n with
  |false=>rfl
  |true=>exact absurd ⟨m,t,v⟩ (b j c)
 have e:=(zE.1 k).1;refine⟨i,q,k,r,?_,o⟩;unfold R3;have g:x.lz.find? (λl=>seq l.name n)=some q:=by
  refine List.find?_eq_some_iff_append.2 ⟨r,x.lz.take i,x.lz.drop (i+1),?_,λa w=>?_⟩
  .rw[←(zE.1 k).2,←vG e,vF]
  .obtain⟨j,c⟩:=yO w;have d:=(zE.1 c).1;rw[zR]at d;rw[List.getElem?_take_of_lt (by omega)]at c;rw[o j a (by omega) c];rfl
 rw[g]
 rfl
def Ca(x:ak)(k:x.lz.length<=1000000)(d:an)(h:x.lz.any (λl=>seq l.name d.of)=true):APure prog 135 [aw x,bT d] (cZ (R3 x d.of)):=by
 obtain⟨e,f,h1,h2,h3,o⟩:=aW6 h;rw[h3];have g:=(zE.1 h1).1;refine ap func135 ntmps135 λr=>?_
 repeat' first|refine au ?_|intro b;conv=>whnf
 refine aO mixed ai (γ:=Nat) (λq=>[(5,iD q)]) (λ_=>[(b,.cells 93 [.v (zv ZV.str),.v (zv ZV.sl),.v (zv ZV.sl)])]) (λq=>q<=e) (λq=>e-q) 0 (ah av) (Sc.refl _) (zW _) ?_;intro i hi;obtain⟨l,a⟩:∃y,x.lz[i]?=some y:=⟨_,zD (by omega)⟩
 have hl:x.lz[((i:Nat):Int).toNat]?=some l:=a;by_cases hii:i<e
 .have j:(l.name.toList==d.of.toList)=false:=o i l hii a;exact M0
 .obtain rfl:i=e:=by omega
  obtain rfl:f=l:=by rw[a]at h1;exact(wK h1).symm
  have j:(f.name.toList==d.of.toList)=true:=h2
  repeat' first|refine au ?_|intro b;conv=>whnf
  exact Rt.pure rfl
def aP0(rows:List (List Int))(y:List Int)(u s i:Nat):r4 (rows++[y]) u s i=if y.getD u 0=(i:Int)then IntKind.i64.wrap (r4 rows u s i+y.getD s 0)else r4 rows u s i:=by
 unfold r4;rw[List.foldl_append]
 rfl
def aP1{rows:List (List Int)}{u s i:Nat}(h:∀y∈rows,-1099511627776<=y.getD s 0/\y.getD s 0<=1099511627776):∀q:Nat,q<=1000 -> -(1099511627776*(q:Int))<=r4 (rows.take q) u s i/\r4 (rows.take q) u s i<=1099511627776*(q:Int)
 |0,_=>by simp[r4]
 |q+1,c=>by
  have b:=aP1 h (u:=u) (i:=i) q (by omega);rw[xC]
  cases a:rows[q]? with
  |none=>simp only[Option.toList_none,zZ];omega
  |some y=>
   have d:=h y (zG a);rw[Option.toList_some,aP0];split
   .rw[IntKind.wrap_i64];omega
   .omega
def nB{rows:List (List Int)}{u s i q:Nat}{y:List Int}(h:∀y∈rows,-1099511627776<=y.getD s 0/\y.getD s 0<=1099511627776)(c:q<1000)(a:rows[q]?=some y):r4 (rows.take (q+1)) u s i=if y.getD u 0=(i:Int)then r4 (rows.take q) u s i+y.getD s 0 else r4 (rows.take q) u s i:=by
 have b:=aP1 h (u:=u) (i:=i) q (by omega);have d:=h y (zG a);rw[xC,a,Option.toList_some,aP0];split
 .rw[IntKind.wrap_i64];omega
 .rfl
def tj{A B:Prop}(k:B)(h:ar B->A:=by intro q7;(first|refine bc ?_|refine aE ?_|(refine' aj ?hc ?_;(case hc=>first|exact HS|exact HT)));exact q7.1):A:=h ⟨k⟩
def IP(x:ak)(Q:dJ x=[])(w:Wd)(hw:Ws w)(G:cL x w=true)(k i f:Nat)(hi:i<=1000)(kd:aq)(d:an)(O:x.kz[k]?=some kd)(hf:kd.fields[f]?=some d)(h6:d.kind=6):APure prog 136 [aw x,fI w,iD k,iD i,iD f] (iD (Lf x w k i f)):=by
 have V:=(Ft Q).vld;have hnk:=V.nk;have E:x.kz.length<=1000000:=by omega
 have r:∀k∈x.kz,k.fields.length<=1000000:=λk O=>by have:=V.nf k O;omega
 obtain⟨R,v,M⟩:=GB G;obtain⟨o,s,U,g,u,rf,T,K,P,S,e5,e6,e7⟩:=sY Q O hf h6;have HS:=aV4 x k f E r;rw[T]at HS;have hol:=(zE.1 K).1;obtain⟨l,hl⟩:∃l,w[o]?=some l:=⟨_,zD (by omega)⟩
 have hl':w[((o:Nat):Int).toNat]?=some l:=hl;obtain⟨hl5,D⟩:=uN (v _ _ hl);have Z:=(zE.1 P).1;have Y:=(zE.1 e5).1;have z:∀y∈l,∃a b,y[u]?=some a/\y[s]?=some b /\ -1099511627776<=b/\b<=1099511627776:=λy hy=>by
  have h1:=si K (D y hy);obtain⟨a,J⟩:∃a,y[u]?=some a:=⟨_,zD (by omega)⟩
  obtain⟨b,hb⟩:∃a,y[s]?=some a:=⟨_,zD (by omega)⟩
  exact⟨a,b,J,hb,h1.2 b (zG hb)⟩
 have F:∀y∈l,-1099511627776<=y.getD s 0/\y.getD s 0<=1099511627776:=λy hy=>by
  obtain⟨a,b,_,h2,h3⟩:=z y hy;rw[cw h2];exact h3
 have L:AO x o s=u:=by unfold AO;rw[K];simp only;rw[P];simp only;rw[S];simp
 have C:Lf x w k i f=r4 l u s i:=by
  unfold Lf;rw[T];simp only[Int.toNat_natCast];rw[L,cw hl]
 rw[C];refine ap func136 ntmps136 λBB=>?_
 repeat refine tj ?_
 refine aO mixed ai (γ:=Nat) (λj=>[(13,iD (r4 (l.take j) u s i)),(14,iD j)]) (λ_=>[]) (λj=>j<=l.length) (λj=>l.length-j) 0 (ah av) (Sc.refl _) (zW _) ?_;intro j hj;by_cases hjl:j<l.length
 .obtain⟨y,q⟩:∃y,l[j]?=some y:=⟨_,zD hjl⟩
  have X:l[((j:Nat):Int).toNat]?=some y:=q;obtain⟨a,b,J,I,hbb⟩:=z y (zG q);have hb:y[((s:Nat):Int).toNat]?=some b:=I;have HT:=aU9 x E r w o j s u U g K P S l y a hl q J;have t:=nB (u:=u) (i:=i) F (by omega) q;rw[cw J,cw I]at t;have hsi:=aP1 F (u:=u) (i:=i) j (by omega);by_cases e:a=i
  .rw[if_pos e]at t
   repeat refine tj ?_
   exact⟨j+1,(ah av),Sc.refl _,by omega,by omega⟩
  .rw[if_neg e]at t
   repeat refine tj ?_
   exact⟨j+1,(ah av),Sc.refl _,by omega,by omega⟩
 .obtain rfl:j=l.length:=by omega
  rw[yM]
  repeat refine tj ?_
  refine Rt.pure (zM iD ?_);rfl
end
section
open Go
abbrev fu(n:Nat)(g:Nat->Bool):List D:=(List.range n).map λt=>bD (g t)
variable{g:Nat->Bool}
def jz{n t:Nat}(h:t<n):(fu n g)[t]?=some (bD (g t)):=by
 unfold fu;rw[qA,xV h];rfl
def Sk(n:Nat)(g:Nat->Bool):(fu n g).length=n:=by simp[fu]
def mm{n s:Nat}{a:Nat->Bool}(h:∀t,t<n->a t=if t=s then true else g t):(fu n g).set s (bD true)=fu n a:=by
 refine xY λt=>?_;by_cases ht:t<n
 .rw[jz ht,xP,Sk,h t ht];by_cases e:s=t
  .subst e;simp[ht]
  .rw[if_neg e,jz ht,if_neg (λh=>e h.symm)]
 .rw[List.getElem?_eq_none (by rw[yR,Sk];omega),List.getElem?_eq_none (by rw[Sk];omega)]
def rW{n:Nat}{a:Nat->Bool}(h:∀t,t<n->a t=g t):fu n g=fu n a:=
 List.map_congr_left λt b=>by rw[h t (xT.1 b)]
def Fl(n:Nat):fu n (λ_=>false)=List.replicate n (bD false):=by
 refine xY λt=>?_;by_cases ht:t<n
 .rw[jz ht,wF,if_pos ht]
 .rw[List.getElem?_eq_none (by rw[Sk];omega),List.getElem?_eq_none (by rw[zY];omega)]
def eB(l:bG)(m t:Nat):Bool:=(pZ l m).getD t false
def bS(l:bG)(lo:Int)(m t:Nat):Bool:=(List.range m).any λq=>eB l q t&&(decide (lo<=(q:Int))||FU l t)
def xg(l:bG)(lo:Int)(m t:Nat):bS l lo (m+1) t=(bS l lo m t||(eB l m t&&(decide (lo<=(m:Int))||FU l t))):=by
 unfold bS;rw[List.range_succ,List.any_append];simp
def gL(l:bG)(now:List Bool)(i:Nat):List Bool:=(l.mz.take i).foldl (λn m=>if now.getD m.1.toNat false then n.set m.2.toNat true else n) (List.replicate 12 false)
variable{i:Nat}{l:bG}
def bf3{now:List Bool}{m:Int×Int}(h:l.mz[i]?=some m):gL l now (i+1)=if now.getD m.1.toNat false then(gL l now i).set m.2.toNat true else gL l now i:=by
 unfold gL;rw[xC,h,List.foldl_append];rfl
def nC(l:bG)(now:List Bool):∀i,(gL l now i).length=12
 |0=>rfl
 |i+1=>by
  have a:=nC l now i
  cases h:l.mz[i]? with
  |none=>unfold gL at *;rw[xC,h];simpa using a
  |some m=>rw[bf3 h];split<;>simp[a]
def vE(l:bG)(m t:Nat):(gL l (pZ l m) l.mz.length).getD t false=eB l (m+1) t:=by
 unfold gL eB;rw[yM];rfl
def UB(l:bG)(t:Nat):eB l 0 t=if t=0 then true else false:=by
 unfold eB pZ;by_cases e:t=0
 .subst e;rfl
 .rw[if_neg e,List.getD_eq_getElem?_getD,wN (Ne.symm e)];by_cases h:t<12
  .rw[wF,if_pos h];rfl
  .rw[List.getElem?_eq_none (by simp;omega)];rfl
def Jz(l:bG)(s:Nat):FU l s=decide ((ci l.mz (s:Int)).length=0):=by
 unfold FU ci;rw[zL]
 cases h:l.mz.any λm=>decide (m.1=(s:Int))with
 |false=>
  rw[List.any_eq_false]at h;have:(l.mz.filter λp=>decide (p.1=(s:Int)))=[]:=List.filter_eq_nil_iff.2 λa c=>h a c;rw[this];rfl
 |true=>
  obtain⟨m,b,q⟩:=wC.1 h;have:m∈l.mz.filter λp=>decide (p.1=(s:Int)):=vP.2 ⟨b,q⟩;have:=xS.2 (List.ne_nil_of_mem this);rw[yE (by omega)];rfl
def mS.ok(h:mS l):Rk l=true:=by
 unfold Rk;simp only[zJ,zQ,yA];refine⟨⟨⟨h.n.2,h.m⟩,by have:=h.n.1;omega⟩,λm a=>?_⟩;have:=h.q m a;unfold ch cF;simp only[zJ,zQ];omega
def bg4(h:mS l){lo:Int}(b:0<=lo)(a:lo<=(i:Int))(c:i<=1000):m7 l lo i=(List.range l.tz.length).map (bS l lo (i+1)):=by
 unfold m7;rw[h.ok,yJ b,yJ a,yJ (show(i:Int)<=1000 by omega)];simp only[Bool.and_self,if_true,Int.toNat_natCast]
 rfl
def MP{α:Type}(f:α->D):∀L:List α,(L.map λx=>[f x]).flatten=L.map f
 |[]=>rfl
 |a::L=>by rw[List.map_cons,List.flatten_cons,MP f L];rfl
def El(t:Nat):(List.replicate 12 false).getD t false=false:=by
 rw[List.getD_eq_getElem?_getD,wF];split<;>rfl
def Ek{L:List Bool}{b t:Nat}(h:b<L.length):(L.set b true).getD t false=if t=b then true else L.getD t false:=by
 rw[List.getD_eq_getElem?_getD,xP,List.getD_eq_getElem?_getD];by_cases e:b=t
 .subst e;simp[h]
 .rw[if_neg e,if_neg (λh=>e h.symm)]
variable{A B:Prop}
def kx(k:B)(h:ar B->A:=by intro q7;(first|refine bc ?_|refine aE ?_|(refine' aj ?hc ?_;(case hc=>first|exact HV|exact HM)));exact q7.1):A:=h ⟨k⟩
def Un(k:B)(h:ar B->A:=by intro q7;(first|refine Ht ?_|refine sN ?_|((with_reducible refine' Ld.cellm (tb:=4) (cs:=fu l.tz.length (eB l m)) ?h1 ?h2 ?_);(case h1=>exact List.Mem.head _);(case h2=>(rw[aR];exact hcur)))|refine AP ?_);exact q7.1):A:=h ⟨k⟩
def nO(k:B)(h:ar B->A:=by intro q7;(first|refine Un ?_|refine aE ?_|(refine' aj ?hc ?_;(case hc=>first|exact HV|exact HM)));exact q7.1):A:=h ⟨k⟩
def Um(k:B)(h:ar B->A:=by intro q7;(first|refine Ht ?_|refine sN ?_|((with_reducible refine' Ld.cellm (tb:=4) (cs:=fu l.tz.length (eB l m)) ?h1 ?h2 ?_);(case h1=>exact List.Mem.tail _ (List.Mem.head _));(case h2=>(rw[aR];exact hcur)))|refine AP ?_);exact q7.1):A:=h ⟨k⟩
def th(k:B)(h:ar B->A:=by intro q7;(first|refine Um ?_|refine aE ?_|(refine' aj ?hc ?_;(case hc=>first|exact HV|exact HM)));exact q7.1):A:=h ⟨k⟩
variable{p:Prop}
def ZG(h:p:=by
 repeat' first|refine nO ?_|intro b;conv=>whnf
 refine Sv.cellm (tb:=4) (cs:=fu l.tz.length (λt=>if t<s then bS l lo (m+1) t else bS l lo m t)) (cs':=fu l.tz.length (λt=>if t<s+1 then bS l lo (m+1) t else bS l lo m t)) (τ:=[(bn,.cells 4 (fu l.tz.length (eB l m)))]) (List.Perm.swap _ _ _) (by rw[Sk,aR];exact hsl) rfl (by rw[aR];exact hs2) ?_
 repeat' first|refine nO ?_|intro b;conv=>whnf
 exact⟨s+1,(ah av),Sc.perm (List.Perm.swap _ _ _),by omega,by omega⟩):p:=h
def Nj(h:p:=by
 repeat' first|refine nO ?_|intro b;conv=>whnf
 exact⟨s+1,(ah av),Sc.perm (by rw[hs2]),by omega,by omega⟩):p:=h
def xa(l:bG)(h:mS l)(lo:Int)(hi:Nat)(h0:0<=lo)(h1:lo<=(hi:Int))(h2:hi<=1000):APure prog 134 [cZ l,iD lo,iD hi] (slB (m7 l lo hi)):=by
 have HV:=bg8 l h;have V:=h.n;have X:=h.m;obtain⟨n,R⟩:∃n,l.tz.length=n:=⟨_,rfl⟩
 rw[bg4 h h0 h1 h2];refine ap func134 ntmps134 λY=>?_
 repeat' first|refine kx ?_|intro b;conv=>whnf
 refine Mk.go l.tz.length rfl rfl rfl rfl rfl (by simp) (by omega) (by omega) (λC=>?_)
 repeat' first|refine kx ?_|intro b;conv=>whnf
 refine Mk.go l.tz.length rfl rfl rfl rfl rfl (by simp) (by omega) (by omega) (λU=>?_)
 repeat' first|refine kx ?_|intro b;conv=>whnf
 refine Sv.cellm (tb:=4) (cs:=List.replicate l.tz.length (bD false)) (cs':=fu l.tz.length (eB l 0)) (τ:=[(C,.cells 4 (List.replicate l.tz.length (bD false)))]) (zH _) (by rw[zY];show 0<_;omega) rfl (by rw[←Fl];exact mm (s:=0) (λt _=>UB l t)) ?_
 repeat' first|refine kx ?_|intro b;conv=>whnf
 refine aO mixed ai (γ:=Nat×Nat) (λg=>[(9,iD g.1),(8,.v (.slice (some ⟨g.2,0,none⟩) l.tz.length l.tz.length))]) (λg=>[(g.2,.cells 4 (fu l.tz.length (eB l g.1))),(C,.cells 4 (fu l.tz.length (bS l lo g.1)))]) (λg=>g.1<=hi+1) (λg=>hi+1-g.1) (0,U) (ah av) (Sc.perm (by rw[show bS l lo 0=λ_=>false from funext λt=>rfl,Fl])) (zW _) ?_;rintro⟨m,bn⟩ L;simp only at L⊢;by_cases hml:m<hi+1
 case neg=>
  obtain rfl:m=hi+1:=by omega
  repeat' first|refine kx ?_|intro b;conv=>whnf
  have D:ab 4 1 (((List.range l.tz.length).map (bS l lo (hi+1))).map λb=>[bD b]) (.slice (some ⟨C,0,none⟩) l.tz.length l.tz.length) [(C,.cells 4 (fu l.tz.length (bS l lo (hi+1))))]:=by
   have:=Rm (e:=4) (k:=1) (xs:=((List.range l.tz.length).map (bS l lo (hi+1))).map λb=>[bD b]) C (by simp) (by simp;unfold maxLen;omega);rw[MP (λb=>bD b),zL,zL,vU]at this;rw[show fu l.tz.length (bS l lo (hi+1))=((List.range l.tz.length).map (bS l lo (hi+1))).map λb=>bD b by unfold fu;rw[vA];rfl];exact this
  exact Rt.vs (Vs.row D (yT (l₁:=[_]) (l₂:=[_])))
 repeat' first|refine kx ?_|intro b;conv=>whnf
 refine aO mixed ai (γ:=Nat) (λs=>[(10,iD s)]) (λs=>[(bn,.cells 4 (fu l.tz.length (eB l m))),(C,.cells 4 (fu l.tz.length λt=>if t<s then bS l lo (m+1) t else bS l lo m t))]) (λs=>s<=l.tz.length) (λs=>l.tz.length-s) 0 (ah av) (Sc.perm (by rw[show(λt=>if t<0 then bS l lo (m+1) t else bS l lo m t)=bS l lo m from funext λt=>if_neg (by omega)])) (zW _) ?_;intro s hs;by_cases hsl:s<l.tz.length
 .have HM:=bg9 l h (s:Int);have o:=Jz l s;have r:=xg l lo m s;have F:∀t,t<l.tz.length->(if t<s+1 then bS l lo (m+1) t else bS l lo m t)=if t=s then bS l lo (m+1) s else(if t<s then bS l lo (m+1) t else bS l lo m t):=λt _=>by
   by_cases e:t=s
   .subst e;rw[if_pos (by omega),if_pos rfl]
   .rw[if_neg e];by_cases I:t<s
    .rw[if_pos (by omega),if_pos I]
    .rw[if_neg (by omega),if_neg I]
  have hcur:=jz (g:=eB l m) hsl;have u:bS l lo (m+1) s=bS l lo m s->fu l.tz.length (λt=>if t<s then bS l lo (m+1) t else bS l lo m t)=fu l.tz.length (λt=>if t<s+1 then bS l lo (m+1) t else bS l lo m t):=λe=>rW λt ht=>by
   rw[F t ht];by_cases I:t=s
   .subst I;rw[if_pos rfl,if_neg (by omega),e]
   .rw[if_neg I]
  have z:bS l lo (m+1) s=true->(fu l.tz.length (λt=>if t<s then bS l lo (m+1) t else bS l lo m t)).set s (bD true)=fu l.tz.length (λt=>if t<s+1 then bS l lo (m+1) t else bS l lo m t):=λe=>mm λt ht=>by
   rw[F t ht,e]
  cases f:eB l m s with
  |false=>
   rw[f]at hcur r;have hs2:=u (by rw[r];simp);exact Nj
  |true=>
   rw[f]at hcur r;by_cases hlm:lo<=(m:Int)
   .have hs2:=z (by rw[r];simp[hlm]);exact ZG
   .cases x:FU l s with
    |true=>
     have hs2:=z (by rw[r,x];simp);have Q:(ci l.mz (s:Int)).length=0:=by rw[x]at o;exact wY o.symm
     exact ZG
    |false=>
     have hs2:=u (by rw[r,x];simp[hlm]);have Q:¬(ci l.mz (s:Int)).length=0:=by rw[x]at o;exact of_decide_eq_false o.symm
     exact Nj
 obtain rfl:s=l.tz.length:=by omega
 have G:fu l.tz.length (λt=>if t<l.tz.length then bS l lo (m+1) t else bS l lo m t)=fu l.tz.length (bS l lo (m+1)):=rW λt ht=>by rw[if_pos ht]
 rw[G]
 repeat' first|refine nO ?_|intro b;conv=>whnf
 refine Mk.go l.tz.length rfl rfl rfl rfl rfl (by simp) (by omega) (by omega) (λP=>?_)
 repeat' first|refine nO ?_|intro b;conv=>whnf
 refine aO mixed ai (γ:=Nat) (λi=>[(12,iD i)]) (λi=>[(P,.cells 4 (fu l.tz.length λt=>(gL l (pZ l m) i).getD t false)),(bn,.cells 4 (fu l.tz.length (eB l m))),(C,.cells 4 (fu l.tz.length (bS l lo (m+1))))]) (λi=>i<=l.mz.length) (λi=>l.mz.length-i) 0 (ah av) (Sc.perm (by rw[show(λt=>(gL l (pZ l m) 0).getD t false)=λ_=>false from funext λt=>El t,Fl];exact zH _)) (zW _) ?_;intro i hi;by_cases hil:i<l.mz.length
 .obtain⟨⟨O,M⟩,w⟩:∃y,l.mz[i]?=some y:=⟨_,zD hil⟩
  have J:=h.q _ (zG w);obtain⟨a,rfl⟩:∃a:Nat,O=a:=⟨O.toNat,by simp only at J;omega⟩
  obtain⟨c,rfl⟩:∃a:Nat,M=a:=⟨M.toNat,by simp only at J;omega⟩
  simp only at J;have S:l.mz[((i:Nat):Int).toNat]?=some ((a:Int),(c:Int)):=w;have j:=bf3 (now:=pZ l m) w;have T:=nC l (pZ l m) i;simp only[Int.toNat_natCast]at j;have K:(pZ l m).getD a false=eB l m a:=rfl;rw[K]at j;have hcur:=jz (n:=l.tz.length) (t:=a) (g:=eB l m) (by omega)
  cases f:eB l m a with
  |false=>
   rw[f]at hcur j;rw[if_neg (by decide)]at j
   repeat' first|refine th ?_|intro b;conv=>whnf|((with_reducible refine' Ot.yd ?hyd ?_);(case hyd=>first|exact iE ai (m:=0) (q:=0) rfl rfl rfl rfl rfl rfl (by decide) rfl|exact iE ai (m:=1) (q:=1) rfl rfl rfl rfl rfl rfl (by decide) rfl))
   exact⟨i+1,(ah av),Sc.perm (by rw[j]),by omega,by omega⟩
  |true=>
   rw[f]at hcur j;rw[if_pos rfl]at j
   repeat' first|refine th ?_|intro b;conv=>whnf|((with_reducible refine' Ot.yd ?hyd ?_);(case hyd=>first|exact iE ai (m:=0) (q:=0) rfl rfl rfl rfl rfl rfl (by decide) rfl|exact iE ai (m:=1) (q:=1) rfl rfl rfl rfl rfl rfl (by decide) rfl))
   refine Sv.cellm (tb:=4) (cs:=fu l.tz.length (λt=>(gL l (pZ l m) i).getD t false)) (cs':=fu l.tz.length (λt=>(gL l (pZ l m) (i+1)).getD t false)) (zH _) (by rw[Sk,aR];omega) rfl (by rw[aR];exact mm λt ht=>by rw[j];exact Ek (by omega)) ?_
   repeat' first|refine th ?_|intro b;conv=>whnf
   exact⟨i+1,(ah av),Sc.refl _,by omega,by omega⟩
 obtain rfl:i=l.mz.length:=by omega
 have E:fu l.tz.length (λt=>(gL l (pZ l m) l.mz.length).getD t false)=fu l.tz.length (eB l (m+1)):=rW λt ht=>(vE l m t).symm;rw[E]
 repeat' first|refine th ?_|intro b;conv=>whnf
 exact⟨(m+1,P),(ah av),Sc.sl (List.Sublist.cons_cons _ (List.Sublist.cons _ (xQ _))),by simp only;omega,by simp only;omega⟩
end
section
open Go
variable{kd:aq}{x:ak}{f:Nat}
def aM6{q:Nat}{g:an}(h:x.kz[q]?=some kd)(a:kd.fields[f]?=some g)(b:g.kind=1):(⟨q,f,aG x q f,g.lo⟩:Rf)∈bJ x:=by
 unfold bJ;refine QJ.2 ⟨q,(zE.1 h).1,?_⟩;unfold fL;rw[h];simp only;refine QJ.2 ⟨f,(zE.1 a).1,?_⟩;unfold dL;rw[a];simp[b]
variable{d:an}
def D2(h:dJ x=[]){k:Nat}(b:x.kz[k]?=some kd)(c:kd.fields[f]?=some d)(e:d.kind=0):f=0:=by
 have a:=(RX h b c).2;unfold cP at a;split at a<;>omega
def ud{x:ak}(h:dJ x=[]){k:Nat}{kd:aq}{d0:an}(b:x.kz[k]?=some kd)(c:kd.fields[0]?=some d0)(a:d0.kind=0)(r s:List Int):∀f,jZ kd r s (f+1)=if r.getD 0 0<d0.lo then s else r.getD 0 0::s
 |0=>by
  show(match kd.fields[0]? with|some d=>jT r 0 d s|none=>s)=_;rw[c];simp only;unfold jT;by_cases h1:r.getD 0 0<d0.lo
  .rw[if_neg (λh=>h.2 h1),if_pos h1]
  .rw[if_pos ⟨a,h1⟩,if_neg h1]
 |f+1=>by
  show(match kd.fields[f+1]? with|some d=>jT r (f+1) d (jZ kd r s (f+1))|none=>jZ kd r s (f+1))=_;rw[ud h b c a r s f]
  cases e:kd.fields[f+1]? with
  |none=>rfl
  |some d=>
   simp only;unfold jT;rw[if_neg (λg=>by have:=D2 h b e g.1;omega)]
def kN{x:ak}(h:dJ x=[]){k:Nat}{kd:aq}{d0:an}(r:x.kz[k]?=some kd)(p:kd.fields[0]?=some d0)(d:d0.kind=0){l:List (List Int)}(q:∀y∈l,y.length=kd.fields.length)(n:Int):∀i,n∈j6 kd l i↔∃(j:Nat)(y:List Int),j<i/\l[j]?=some y/\y.getD 0 0=n/\¬n<d0.lo
 |0=>by simp[j6]
 |i+1=>by
  have o:=kN h r p d q n i;have t:=(zE.1 p).1;rw[j6]
  cases c:l[i]? with
  |none=>
   simp only;rw[o];constructor
   .rintro⟨j,y,f,a⟩;exact⟨j,y,by omega,a⟩
   .rintro⟨j,y,f,a,b⟩;have:=(zE.1 a).1;have:=yY.1 c;exact⟨j,y,by omega,a,b⟩
  |some y=>
   simp only;obtain⟨m,s⟩:∃m,y.length=m+1:=⟨y.length-1,by have:=q y (zG c);omega⟩
   rw[s,ud h r p d];by_cases hlt:y.getD 0 0<d0.lo
   .rw[if_pos hlt,o];constructor
    .rintro⟨j,z,f,a⟩;exact⟨j,z,by omega,a⟩
    .rintro⟨j,z,f,a,b,g⟩;by_cases e:j=i
     .subst e;rw[c]at a;cases a;rw[b]at hlt;exact absurd hlt g
     .exact⟨j,z,by omega,a,b,g⟩
   .rw[if_neg hlt,zU,o];constructor
    .rintro(rfl|⟨j,z,f,a⟩)
     .exact⟨i,y,by omega,c,rfl,hlt⟩
     .exact⟨j,z,by omega,a⟩
    .rintro⟨j,z,f,a,b,g⟩;by_cases e:j=i
     .subst e;rw[c]at a;cases a;exact .inl b.symm
     .exact .inr ⟨j,z,by omega,a,b,g⟩
def JL{l:bG}(h:jL l=true):mS l:=by
 unfold jL at h;simp only[zJ,zQ,yA]at h;obtain⟨⟨⟨⟨_,a⟩,_⟩,d⟩,c⟩:=h;unfold cF at a;simp only[zJ,zQ]at a;refine⟨by omega,d,λq b=>?_⟩;have:=c q b;unfold ch cF at this;simp only[zJ,zQ]at this;omega
def YG(V:LC x){k:Nat}(b:x.kz[k]?=some kd)(c:kd.fields[f]?=some d):fy d=true:=by
 have a:=V.kz kd (zG b);unfold jK at a;simp only[zJ,yA]at a;have h:=a.2 d (zG c);unfold dV at h;simp only[zJ]at h;exact h.2
def Eu(h:fy d=true)(a:d.kind=3):d.words.length=d.wz.length/\d.words.length<=12:=by
 unfold fy at h;rw[if_neg (by omega),if_neg (by omega),if_neg (by omega),if_pos a]at h;unfold na cF at h;simp only[zJ,zQ]at h;omega
def Et(h:fy d=true)(a:d.kind=5):0<=d.lo/\d.lo<=d.hi/\d.hi<=32:=by
 unfold fy at h;rw[if_neg (by omega),if_neg (by omega),if_neg (by omega),if_neg (by omega),if_neg (by omega),if_pos a]at h;unfold lg at h;simp only[zJ,zQ]at h;exact⟨h.2.1,h.2.2.1,h.2.2.2⟩
def aU6{n lo h:Int}(b:lo<=n)(a:n<=h):APure prog 46 [iD n,iD lo,iD h] (bD true):=by
 have:=aU7 n lo h
 rwa [yJ b,yJ a]at this
def aU8{n lo i:Int}(h:n<lo\/i<n):APure prog 46 [iD n,iD lo,iD i] (bD false):=by
 have:=aU7 n lo i;rcases h with h|h
 .rwa [yE (show ¬lo<=n by omega),Bool.false_and]at this
 .rwa [yE (show ¬n<=i by omega),wW]at this
def eJ{A B:Prop}(k:B)(h:ar B->A:=by intro q7;(first|refine bc ?_|refine aE ?_|(refine' aj ?hc ?_;(case hc=>first|exact aU6 (by first|omega|(simp only[zL];omega)) (by first|omega|(simp only[zL];omega))|exact aU8 (by first|omega|(simp only[zL];omega))|exact HF|exact HL|exact HRE|exact HS|exact HT|exact HO)));exact q7.1):A:=h ⟨k⟩
variable{p:Prop}
def ZI(h:p:=by
 rw[ho]at qe;rw[show da kd r d.of=0 by unfold da;rw[if_pos ho],Int.sub_zero];by_cases hb:n<d.lo\/d.hi<n
 .rw[show fM n d.lo d.hi=5 by unfold fM;rw[if_pos hb]];refine ap func89 ntmps89 λBB=>?_
  ((repeat'(first|refine eJ ?_|intro b;conv=>whnf));(refine Rt.pure (zM iD ?_);rfl))
 .rw[show fM n d.lo d.hi=0 by unfold fM;rw[if_neg hb]];refine ap func89 ntmps89 λBB=>?_
  ((repeat'(first|refine eJ ?_|intro b;conv=>whnf));(refine Rt.pure (zM iD ?_);rfl))):p:=h
def Zv(h:p:=by
 rcases k2 with k2|k2
 .refine ap func89 ntmps89 λBB=>?_
  ((repeat'(first|refine eJ ?_|intro b;conv=>whnf));(refine Rt.pure (zM iD ?_);rfl))
 .refine ap func89 ntmps89 λBB=>?_
  ((repeat'(first|refine eJ ?_|intro b;conv=>whnf));(refine Rt.pure (zM iD ?_);rfl))):p:=h
def YS(h:p:=by
 rw[if_pos (by omega)];refine ap func89 ntmps89 λBB=>?_
 ((repeat'(first|refine eJ ?_|intro b;conv=>whnf));(refine Rt.pure (zM iD ?_);rfl))):p:=h
def YK(h:p:=by
 rw[if_pos e];refine ap func89 ntmps89 λBB=>?_
 ((repeat'(first|refine eJ ?_|intro b;conv=>whnf));(refine Rt.pure (zM iD ?_);rfl))):p:=h
def NE(h:p:=by
 rw[if_neg e];refine ap func89 ntmps89 λBB=>?_
 ((repeat'(first|refine eJ ?_|intro b;conv=>whnf));(refine Rt.pure (zM iD ?_);rfl))):p:=h
def jw(h:p:=by
 refine ap func89 ntmps89 λBB=>?_
 ((repeat'(first|refine eJ ?_|intro b;conv=>whnf));(refine Rt.pure (zM iD ?_);rfl))):p:=h
def M6(h:p:=by
 repeat' first|refine eJ ?_|intro b;conv=>whnf
 exact⟨j+1,(ah av),Sc.refl _,by omega,by omega⟩):p:=h
def E1(h:p:=by
 repeat' first|refine eJ ?_|intro b;conv=>whnf
 refine Rt.pure (zM iD ?_);rfl):p:=h
def wv(x:ak)(L:dJ x=[])(w:Wd)(hw:Ws w)(M:cL x w=true)(k i f:Nat)(kd:aq)(d:an)(C:x.kz[k]?=some kd)(E:kd.fields[f]?=some d)(l:List (List Int))(r:List Int)(n:Int)(hl:w[k]?=some l)(hr:l[i]?=some r)(hn:r[f]?=some n):APure prog 89 [aw x,fI w,iD k,iD i,iD f] (iD (ib x w k kd r i f d (jZ kd r (j6 kd l i) f))):=by
 have hV:=(Ft L).vld;have hnk:=hV.nk;have hnl:x.kz.length<=1000000:=by omega
 have I:∀k∈x.kz,k.fields.length<=1000000:=λk C=>by have:=hV.nf k C;omega
 obtain⟨hlen,F,P⟩:=GB M;obtain⟨hl5,G⟩:=uN (F _ _ hl);have hr5:=si C (G r (zG hr));have hnb:=hr5.2 n (zG hn);have hkB:=YG hV C E;have hkl:=(zE.1 C).1;have hfl:=(zE.1 E).1;have hll:=(zE.1 hl).1;have hrl:=(zE.1 hr).1;have hnl2:=(zE.1 hn).1;have hk':x.kz[((k:Nat):Int).toNat]?=some kd:=C;have hf':kd.fields[((f:Nat):Int).toNat]?=some d:=E;have hl':w[((k:Nat):Int).toNat]?=some l:=hl;have hr':l[((i:Nat):Int).toNat]?=some r:=hr;have hn':r[((f:Nat):Int).toNat]?=some n:=hn;have hrn:r.getD f 0=n:=cw hn 0;unfold ib;rw[hrn];by_cases k0:d.kind=0
 .rw[if_pos k0];by_cases K:n<d.lo
  .rw[if_pos K];refine ap func89 ntmps89 λBB=>?_;exact E1
  rw[if_neg K];obtain rfl:f=0:=D2 L C E k0;have hks:=kN L C E k0 (l:=l) (λy hy=>(si C (G y hy)).1) n i;rw[show jZ kd r (j6 kd l i) 0=j6 kd l i from rfl];have Y:∀(j:Nat)y,l[j]?=some y->∃z,y[0]?=some z/\y.getD 0 0=z:=λj y hy=>by
   have:=(si C (G y (zG hy))).1;obtain⟨z,V⟩:∃z,y[0]?=some z:=⟨_,zD (by omega)⟩
   exact⟨z,V,cw V 0⟩
  by_cases hm:∃j:Nat,j<i/\∃y,l[j]?=some y/\y.getD 0 0=n
  .rw[if_pos (hks.2 (by obtain⟨j,h1,y,h2,h3⟩:=hm;exact⟨j,y,h1,h2,h3,K⟩))];obtain⟨j0,hj0⟩:=hm;obtain⟨j1,_,⟨hj1,y1,X,hz1⟩,hmin⟩:=sn (p:=λj:Nat=>j<i/\∃y,l[j]?=some y/\y.getD 0 0=n) hj0;refine ap func89 ntmps89 λBB=>?_
   repeat' first|refine eJ ?_|intro b;conv=>whnf
   refine aO mixed ai (γ:=Nat) (λj=>[(13,iD j)]) (λ_=>[(b,.cells 81 (aA d))]) (λj=>j<=j1) (λj=>j1-j) 0 (ah av) (Sc.refl _) (zW _) ?_;intro j hj;obtain⟨y,s⟩:∃y,l[j]?=some y:=⟨_,zD (by omega)⟩
   have hyj:l[((j:Nat):Int).toNat]?=some y:=s;obtain⟨z,t,J⟩:=Y j y s;have V:y[((0:Nat):Int).toNat]?=some z:=t;by_cases hjj:j<j1
   .have hne:z≠n:=λe=>hmin j hjj ⟨by omega,y,s,by rw[J,e]⟩;exact M6
   .obtain rfl:j=j1:=by omega
    obtain rfl:y1=y:=by rw[s]at X;exact(wK X).symm
    have he:z=n:=by rw[←J,hz1]
    exact E1
  .rw[if_neg (λh=>hm (by obtain⟨j,y,h1,h2,h3,_⟩:=hks.1 h;exact⟨j,h1,y,h2,h3⟩))];refine ap func89 ntmps89 λBB=>?_
   repeat' first|refine eJ ?_|intro b;conv=>whnf
   refine aO mixed ai (γ:=Nat) (λj=>[(13,iD j)]) (λ_=>[(b,.cells 81 (aA d))]) (λj=>j<=i) (λj=>i-j) 0 (ah av) (Sc.refl _) (zW _) ?_;intro j hj;by_cases hji:j<i
   .obtain⟨y,s⟩:∃y,l[j]?=some y:=⟨_,zD (by omega)⟩
    have hyj:l[((j:Nat):Int).toNat]?=some y:=s;obtain⟨z,t,J⟩:=Y j y s;have V:y[((0:Nat):Int).toNat]?=some z:=t;have hne:z≠n:=λe=>hm ⟨j,hji,y,s,by rw[J,e]⟩;exact M6
   .obtain rfl:j=i:=by omega
    exact E1
 rw[if_neg k0];by_cases k2:d.kind=2\/d.kind=7
 .rw[if_pos k2];by_cases hb:n<d.lo\/d.hi<n
  .rw[show fM n d.lo d.hi=5 by unfold fM;rw[if_pos hb]];exact Zv
  .rw[show fM n d.lo d.hi=0 by unfold fM;rw[if_neg hb]];exact Zv
 rw[if_neg k2];by_cases k3:d.kind=3
 .rw[if_pos k3];obtain⟨p1,p2⟩:=Eu hkB k3;by_cases hb:n<0\/(d.words.length:Int)<=n
  .exact YS
  .obtain⟨g,T⟩:∃g,d.wz[n.toNat]?=some g:=⟨_,zD (by omega)⟩
   rw[cw T];by_cases hg:g=0
   .exact YS
   .rw[if_neg (by omega)];exact jw
 rw[if_neg k3];by_cases k4:d.kind=4
 .rw[if_pos k4];have qe:=mr d.of;have HF:=nd kd d.of (I kd (zG C));rcases sZ L C E k4 with ho|⟨q,hq,hqf⟩
  .exact ZI
  .rw[hq]at HF;obtain⟨z,t⟩:∃z,r[q]?=some z:=⟨_,zD (by omega)⟩
   have V:r[((q:Nat):Int).toNat]?=some z:=t;have hzb:=hr5.2 z (zG t)
   cases ho:dz d.of with
   |true=>exact ZI
   |false=>
    rw[ho]at qe;rw[show da kd r d.of=z by unfold da il;rw[if_neg (by rw[ho];decide),hq,Int.toNat_natCast,cw t]];by_cases hb:n-z<d.lo\/d.hi<n-z
    .rw[show fM (n-z) d.lo d.hi=5 by unfold fM;rw[if_pos hb]];exact jw
    .rw[show fM (n-z) d.lo d.hi=0 by unfold fM;rw[if_neg hb]];exact jw
 rw[if_neg k4];by_cases k5:d.kind=5
 .rw[if_pos k5];obtain⟨s1,s2,s3⟩:=Et hkB k5;have O:=nF L C E k5;obtain⟨i1,U,q1,_,q3,_⟩:=aW6 O;have HL:=Ca x (by have:=hV.nl;omega) d O;have S:=JL (hV.lz U (zG q1));rw[q3]at HL⊢;obtain⟨hh,hhe⟩:∃a:Nat,d.hi=a:=⟨d.hi.toNat,by omega⟩
  have HRE:=xa U S d.lo hh s1 (by omega) (by omega);have hRl:(m7 U d.lo (hh:Int)).length=U.tz.length:=by rw[bg4 S s1 (by omega) (by omega)];simp
  rw[←hhe]at HRE hRl;have hsn:=S.n;generalize m7 U d.lo d.hi=R at *;by_cases hb:n<0\/(R.length:Int)<=n
  .rw[if_neg (by
    intro h;simp only[zJ,zQ]at h;rcases hb with hb|hb
    .omega
    .rw[List.getD_eq_getElem?_getD,List.getElem?_eq_none (by omega)]at h;cases h.1)]
   exact jw
  .obtain⟨g,T⟩:∃g,R[n.toNat]?=some g:=⟨_,zD (by omega)⟩
   rw[cw T,yJ (show 0<=n by omega),Bool.and_true]
   cases g with
   |true=>
    rw[if_pos rfl];exact jw
   |false=>
    rw[if_neg (by decide)];exact jw
 rw[if_neg k5];by_cases k6:d.kind=6
 .rw[if_pos k6];have HS:=IP x L w hw M k i f (by omega) kd d C E k6;by_cases e:n=Lf x w k i f
  .exact YK
  .exact NE
 rw[if_neg k6];by_cases k8:d.kind=8
 .rw[if_pos k8];obtain⟨u,g,o,ko,q,c1,c2,c3,c4,c5,c6,c7,c8⟩:=nH L C E k8;obtain⟨a1,_⟩:=s4 L C E (.inr k8);obtain⟨u',g',b1,_,_,_,b5⟩:=qm C E (.inr k8) a1;obtain rfl:u'=u:=by omega
  rw[c5]at b5;have hul:=(zE.1 c3).1;obtain⟨z,t⟩:∃z,r[u']?=some z:=⟨_,zD (by omega)⟩
  have hol:=(zE.1 c6).1;obtain⟨lo,D⟩:∃y,w[o]?=some y:=⟨_,zD (by omega)⟩
  have hok:=P _ (aM6 C c3 c4) l hl r (zG hr);unfold p8 at hok;simp only[c5,Int.toNat_natCast,cw D,cw t,xJ,wA,xF]at hok;have K:w[((o:Nat):Int).toNat]?=some lo:=D;obtain⟨y,hy⟩:∃y,lo[z.toNat]?=some y:=⟨_,zD (by omega)⟩
  obtain⟨_,Q⟩:=uN (F _ _ D);have hy5:=si c6 (Q y (zG hy));obtain⟨v,Z⟩:∃v,y[q]?=some v:=⟨_,zD (by omega)⟩
  have hv:y[((q:Nat):Int).toNat]?=some v:=Z;have hko:x.kz[((o:Nat):Int).toNat]?=some ko:=c6;have HT:=aU9 x hnl I w k i f u' kd d C E c1 l r z hl hr t;rw[←b5]at HT;have HO:=nd ko d.of (I ko (zG c6));rw[c7]at HO;have hca:jx x w k kd d r=v:=by
   unfold jx il;rw[c1,c5,FX c6];simp only[Int.toNat_natCast,c7];rw[cw D,cw t,cw hy,cw Z]
  rw[hca];by_cases e:n=v
  .exact YK
  .exact NE
 rw[if_neg k8];have k27:d.kind≠2/\d.kind≠7:=by omega
 exact jw
end
end Go.Proofs.YtilnpcolgcmofaaGreatDoor
