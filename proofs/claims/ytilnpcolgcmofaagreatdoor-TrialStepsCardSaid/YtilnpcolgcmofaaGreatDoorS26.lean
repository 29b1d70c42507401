/- A part of the proof: Dm Dn Do Dp. -/
import Derived.Test.YtilnpcolgcmofaaGreatDoorS25
set_option maxRecDepth 100000
set_option maxHeartbeats 20000000
set_option linter.all false
namespace Go.Proofs.YtilnpcolgcmofaaGreatDoor
open Tryz
section
open Go
def eG(m:Nat)(f:Nat->Int):List D:=(List.range m).map λk=>iD (f k)
abbrev LI(m:Nat)(B:Nat->Nat)(c:bY)(i:Nat):Nat×aE:=(B i,.cells 3 (eG m (c i)))
def iC(m n:Nat)(B:Nat->Nat)(c:bY):af:=(List.range n).map (LI m B c)
def nB(m n:Nat)(B:Nat->Nat)(c:bY)(i:Nat):af:=((List.range n).filter λq=>!(q==i)).map (LI m B c)
abbrev it(b m:Nat):Value:=.slice (some ⟨b,0,none⟩) m m
def iZ(m n:Nat)(B:Nat->Nat):List D:=(List.range m).map λi=>if i<n then .v (it (B i) m)else .v (.slice none 0 0)
abbrev mU(b m n:Nat)(B:Nat->Nat):Nat×aE:=(b,.cells 22 (iZ m n B))
theorem QP(m:Nat)(f:Nat->Int):(eG m f).length=m:=by simp[eG]
theorem aY5(m n:Nat)(B:Nat->Nat):(iZ m n B).length=m:=by simp[iZ]
theorem PP{m k:Nat}(f:Nat->Int)(h:k<m):(eG m f)[k]?=some (iD (f k)):=by unfold eG;rw[qA,xV h];rfl
theorem QH{m n i:Nat}(B:Nat->Nat)(h:i<n)(a:n<=m):(iZ m n B)[i]?=some (.v (it (B i) m)):=by unfold iZ;rw[qA,xV (by omega)];simp[h]
theorem kn{m k:Nat}{f g:Nat->Int}{v:Int}(h:k<m)(a:g k=v)(o:∀q,q≠k->g q=f q):(eG m f).set k (iD v)=eG m g:=by
 refine xY λq=>?_;rw[xP];by_cases hq:q<m
 .rw[PP g hq,QP];by_cases e:k=q
  .subst e;rw[if_pos rfl,if_pos h,a]
  .rw[if_neg e,PP f hq,o q (Ne.symm e)]
 .rw[yY.2 (by rw[QP];omega),if_neg (by omega),yY.2 (by rw[QP];omega)]
theorem Hh{m n b:Nat}{B:Nat->Nat}(h:n<m):(iZ m n B).set n (.v (it b m))=iZ m (n+1) (λq=>if q=n then b else B q):=by
 refine xY λq=>?_;rw[xP];by_cases hq:q<m
 .have a:∀(n:Nat)(B:Nat->Nat),(iZ m n B)[q]?=some (if q<n then .v (it (B q) m)else .v (.slice none 0 0)):=λn B=>by unfold iZ;rw[qA,xV hq];rfl
  rw[a,a,aY5];by_cases e:n=q
  .subst e;rw[if_pos rfl,if_pos h,if_pos (by omega),if_pos rfl]
  .rw[if_neg e];by_cases h2:q<n
   .rw[if_pos h2,if_pos (by omega),if_neg (Ne.symm e)]
   .rw[if_neg h2,if_neg (by omega)]
 .rw[yY.2 (by rw[aY5];omega),if_neg (by omega),yY.2 (by rw[aY5];omega)]
theorem aS2:∀{n i:Nat},i<n->(List.range n).Perm (i::(List.range n).filter λq=>!(q==i))
 |0,_,h=>by omega
 |n+1,i,h=>by
  rw[List.range_succ,vZ];by_cases e:i=n
  .subst e;have c:((List.range i).filter λq=>!(q==i))=List.range i:=List.filter_eq_self.2 λq b=>by
    have:=xT.1 b;simp;omega
   have a:(([i]:List Nat).filter λq=>!(q==i))=[]:=by simp
   rw[c,a,zZ];exact yT
  .have a:(([n]:List Nat).filter λq=>!(q==i))=[n]:=by simp;omega
   rw[a];exact(aS2 (by omega)).append_right [n]
theorem nA{m n i:Nat}(B:Nat->Nat)(c:bY)(h:i<n):(iC m n B c).Perm (LI m B c i::nB m n B c i):=(aS2 h).map _
theorem qo{m n i:Nat}{B B':Nat->Nat}{c c':bY}(f:∀q,q<n->q≠i->B q=B' q)(e:∀q,q<n->q≠i->c q=c' q):nB m n B c i=nB m n B' c' i:=by
 unfold nB;refine List.map_congr_left λq d=>?_;have b:=vP.1 d;have a:=xT.1 b.1;have h:q≠i:=by simpa using b.2
 show(B q,aE.cells 3 (eG m (c q)))=_;rw[f q a h,e q a h]
theorem Z0{m n i:Nat}(B:Nat->Nat)(c:bY)(h:i<n):LI m B c i∈iC m n B c:=vX (xT.2 h)
theorem vk{m n:Nat}{B B':Nat->Nat}{c c':bY}(d:∀q,q<n->B q=B' q)(b:∀q,q<n->c q=c' q):iC m n B c=iC m n B' c':=by
 unfold iC;refine List.map_congr_left λq a=>?_;have h:=xT.1 a
 show(B q,aE.cells 3 (eG m (c q)))=_;rw[d q h,b q h]
theorem C'(m n:Nat)(B:Nat->Nat)(c:bY):iC m (n+1) B c=iC m n B c++[LI m B c n]:=by
 unfold iC;rw[List.range_succ,yB];rfl
def rx(m:Nat)(c:bY):List (List Int):=(List.range m).map λa=>(List.range m).map λb=>c a b
theorem MY{m:Nat}(v:m<=100)(d:Nat)(B:Nat->Nat)(c:bY):P2 (rx m c) (it d m) (mU d m m B::iC m m B c):=by
 have s:ae 22 1 (((List.range m).map λi=>it (B i) m).map λu=>[D.v u]) (it d m) [mU d m m B]:=by
  have h:=PW (e:=22) (k:=1) (xs:=((List.range m).map λi=>it (B i) m).map λu=>[D.v u]) d (λy j=>by obtain⟨_,_,rfl⟩:=xM.1 j;rfl) (by simp;unfold maxLen;omega);have o:(((List.range m).map λi=>it (B i) m).map λu=>[D.v u]).flatten=iZ m m B:=by
   rw[qm (f:=λu=>D.v u),vA];unfold iZ;refine List.map_congr_left λq p=>?_;rw[if_pos (xT.1 p)];rfl
  rw[o,zL,zL,vU]at h;exact h
 have r:∀l:List Nat,da RI (l.map λa=>(List.range m).map λb=>c a b) (l.map λi=>it (B i) m) (l.map λi=>[LI m B c i]):=by
  intro l
  induction l with
  |nil=>exact .nil
  |cons a l g=>
   refine .cons ?_ g;have h:=PW (e:=3) (k:=1) (xs:=((List.range m).map λb=>c a b).map λn=>[iD n]) (B a) (λy j=>by obtain⟨_,_,rfl⟩:=xM.1 j;rfl) (by simp;unfold maxLen;omega);have o:(((List.range m).map λb=>c a b).map λn=>[iD n]).flatten=eG m (c a):=by
    rw[qm (f:=λn=>iD n),vA];rfl
   rw[o,zL,zL,vU]at h;exact h
 refine⟨_,_,_,s,r _,?_⟩;have t:((List.range m).map λi=>[LI m B c i]).flatten=iC m m B c:=by
  unfold iC
  induction(List.range m)with
  |nil=>rfl
  |cons a l g=>rw[List.map_cons,List.map_cons,List.flatten_cons,g];rfl
 rw[t];exact zH _
def ka:bY:=λa b=>if a=b then 0 else dq
def kg(c:bY)(a b:Nat)(v:Int):bY:=λx y=>if x=a/\y=b then v else c x y
def cv(n:Nat)(s:List iP):Nat->bY
 |0=>ka
 |i+1=>match s[i]? with
  |some d=>kg (cv n s i) (cm n d.a) (cm n d.b) (if d.n<cv n s i (cm n d.a) (cm n d.b)then d.n else cv n s i (cm n d.a) (cm n d.b))
  |none=>cv n s i
theorem bs1(m:Nat)(B:Nat->Nat):iZ m 0 B=List.replicate m (.v (.slice none 0 0)):=by
 unfold iZ;refine List.eq_replicate_iff.2 ⟨by simp,λb h=>?_⟩;obtain⟨q,_,rfl⟩:=xM.1 h;rw[if_neg (by omega)]
theorem br1(m:Nat):eG m (λ_=>0)=List.replicate m (iD 0):=by
 unfold eG;exact List.eq_replicate_iff.2 ⟨by simp,λb h=>by obtain⟨q,_,rfl⟩:=xM.1 h;rfl⟩
theorem bd4{m:Nat}{f g:Nat->Int}(h:∀q,q<m->f q=g q):eG m f=eG m g:=by
 unfold eG;exact List.map_congr_left λq a=>by rw[h q (xT.1 a)]
theorem sK{m n i:Nat}{b k:Nat}{B:Nat->Nat}{c c':bY}(h:i<n)(d:∀q,q≠i->c' q=c q):((B i,aE.cells 3 (eG m (c' i)))::mU b m k B::nB m n B c i).Perm (mU b m k B::iC m n B c'):=by
 refine(List.Perm.swap _ _ _).trans (List.Perm.cons _ ?_);rw[qo (B':=B) (c':=c') (λ_ _ _=>rfl) (λq _ a=>(d q a).symm)];exact(nA B c' h).symm
theorem sL{m n i:Nat}{b k:Nat}{B:Nat->Nat}{c:bY}(h:i<n):(mU b m k B::iC m n B c).Perm ((B i,aE.cells 3 (eG m (c i)))::mU b m k B::nB m n B c i):=
 ((nA B c h).cons _).trans (List.Perm.swap _ _ _)
theorem SQ{A B:Prop}(k:B)(h:ar B->A:=by intro q7;(first|refine FU ?_|((with_reducible refine' Ld.cellm (tb:=22) (cs:=iZ m (i+1) B') ?h1 ?h2 ?_);(case h1=>exact List.Mem.head _);(case h2=>(rw[eP];exact hOi)))|refine Q6 ?_);exact q7.1):A:=h ⟨k⟩
theorem rJ{A B:Prop}(k:B)(h:ar B->A:=by intro q7;(first|refine SQ ?_|refine aA ?_|(refine' ah ?hc ?_;(case hc=>first|exact HA|exact HB)));exact q7.1):A:=h ⟨k⟩
theorem SP{A B:Prop}(k:B)(h:ar B->A:=by intro q7;(first|refine FU ?_|((with_reducible refine' Ld.cellm (tb:=22) (cs:=iZ i i B) ?h1 ?h2 ?_);(case h1=>exact List.Mem.head _);(case h2=>(rw[eP];exact hOa)))|((with_reducible refine' Ld.cellm (tb:=3) (cs:=eG i (cv n ds q a)) ?h1 ?h2 ?_);(case h1=>exact List.Mem.tail _ hMa);(case h2=>(rw[eP];exact hR)))|refine Q6 ?_);exact q7.1):A:=h ⟨k⟩
theorem Av{A B:Prop}(k:B)(h:ar B->A:=by intro q7;(first|refine SP ?_|refine aA ?_|(refine' ah ?hc ?_;(case hc=>first|exact HA|exact HB)));exact q7.1):A:=h ⟨k⟩
theorem uB(n:Nat)(ds:List iP)(h:q8 n ds):az prog 147 [iD n,me ds] [] (λd σ=>∃F B,d= .v (it F (n+1))/\σ=mU F (n+1) (n+1) B::iC (n+1) (n+1) B (cv n ds ds.length)):=by
 have P:=h.n;have J:=h.l;obtain⟨m,r⟩:∃m,m=n+1:=⟨_,rfl⟩
 rw[←r];refine cU func147 ntmps147 λS=>?_
 repeat' first|refine jw ?_|intro b;conv=>whnf
 refine Mk.go m rfl rfl rfl rfl rfl (by rw[r]) (by omega) (by omega) (λo=>?_)
 repeat' first|refine jw ?_|intro b;conv=>whnf
 refine aV mixed ai (γ:=Nat×(Nat->Nat)) (λg=>[(6,iD g.1)]) (λg=>mU o m g.1 g.2::iC m g.1 g.2 ka) (λg=>g.1<=m) (λg=>m-g.1) (0,λ_=>0) (aj aw) (Sc.perm (by show List.Perm _ [(o,aE.cells 22 (iZ m 0 λ_=>0))];rw[bs1];exact zH _)) (zW _) ?_;rintro⟨i,B⟩ hi;simp only at hi⊢;by_cases him:i<m
 .have R:=QH (m:=m) (n:=i+1) (i:=i)
  repeat' first|refine jw ?_|intro b;conv=>whnf
  refine Mk.go m rfl rfl rfl rfl rfl (by rw[r]) (by omega) (by omega) (λj=>?_)
  repeat' first|refine jw ?_|intro b;conv=>whnf
  refine Sv.cellm (tb:=22) (cs:=iZ m i B) (cs':=iZ m (i+1) (λq=>if q=i then j else B q)) (τ:=(j,.cells 3 (eG m (λ_=>0)))::iC m i B ka) (by rw[br1];exact List.Perm.swap _ _ _) (by rw[aY5,eP];exact him) rfl (by rw[eP];exact Hh him) ?_
  repeat' first|refine jw ?_|intro b;conv=>whnf
  generalize E:(λq=>if q=i then j else B q)=B';have u:B' i=j:=by rw[←E];simp
  have D:∀q,q<i->B' q=B q:=λq l=>by rw[←E];simp;omega
  have hOi:=QH (m:=m) (n:=i+1) (i:=i) B' (by omega) (by omega);rw[u]at hOi;refine aV mixed ai (γ:=Nat) (λk=>[(7,iD k)]) (λk=>mU o m (i+1) B'::(j,.cells 3 (eG m (λq=>if q<k then ka i q else 0)))::iC m i B ka) (λk=>k<=m) (λk=>m-k) 0 (aj aw) (Sc.refl _) (zW _) ?_;intro k Q;by_cases hkm:k<m
  .by_cases s:i=k
   .subst s;have e:eG m (λq=>if q<i+1 then ka i q else 0)=eG m (λq=>if q<i then ka i q else 0):=bd4 λq l=>by
     by_cases L:q=i
     .subst L;simp[ka]
     .by_cases e2:q<i
      .rw[if_pos e2,if_pos (by omega)]
      .rw[if_neg e2,if_neg (by omega)]
    repeat' first|refine jw ?_|intro b;conv=>whnf
    exact⟨i+1,(aj aw),(by rw[e];exact Sc.refl _),by omega,by omega⟩
   .skip
    repeat' first|refine rJ ?_|intro b;conv=>whnf
    refine Sv.cellm (tb:=3) (cs:=eG m (λq=>if q<k then ka i q else 0)) (cs':=eG m (λq=>if q<k+1 then ka i q else 0)) (τ:=mU o m (i+1) B'::iC m i B ka) (List.Perm.swap _ _ _) (by rw[QP,eP];exact hkm) rfl (by
     rw[eP];refine kn hkm ?_ λq l=>?_
     .rw[if_pos (by omega)];unfold ka;rw[if_neg s];rfl
     .by_cases e2:q<k
      .rw[if_pos e2,if_pos (by omega)]
      .rw[if_neg e2,if_neg (by omega)]) ?_
    repeat' first|refine rJ ?_|intro b;conv=>whnf
    exact⟨k+1,(aj aw),Sc.perm (List.Perm.swap _ _ _),by omega,by omega⟩
  .obtain rfl:k=m:=by omega
   have e:eG k (λq=>if q<k then ka i q else 0)=eG k (ka i):=bd4 λq l=>by rw[if_pos l]
   repeat' first|refine rJ ?_|intro b;conv=>whnf
   refine⟨(i+1,B'),(aj aw),Sc.perm ?_,by simp only;omega,by simp only;omega⟩;rw[e,C',vk (B':=B) (c':=ka) D (λ_ _=>rfl)];refine List.Perm.cons _ ?_;have K:LI k B' ka i=(j,aE.cells 3 (eG k (ka i))):=by show(B' i,_)=_;rw[u]
   rw[K];exact(List.perm_append_singleton _ _).symm
 .obtain rfl:i=m:=by omega
  repeat' first|refine rJ ?_|intro b;conv=>whnf
  refine aV mixed ai (γ:=Nat) (λq=>[(8,iD q)]) (λq=>mU o i i B::iC i i B (cv n ds q)) (λq=>q<=ds.length) (λq=>ds.length-q) 0 (aj aw) (Sc.refl _) (zW _) ?_;intro q l;by_cases hql:q<ds.length
  .obtain⟨y,f⟩:∃y,ds[q]?=some y:=⟨_,zD hql⟩
   have hy:ds[((q:Nat):Int).toNat]?=some y:=f;obtain⟨I,G,O,M⟩:=h.v y (zG f);have HA:=r5 n y.a;have HB:=r5 n y.b;have x:cm n y.a<i:=by rw[r];exact rV I
   have hb:cm n y.b<i:=by rw[r];exact rV G
   have t:cv n ds (q+1)=kg (cv n ds q) (cm n y.a) (cm n y.b) (if y.n<cv n ds q (cm n y.a) (cm n y.b)then y.n else cv n ds q (cm n y.a) (cm n y.b)):=by rw[cv,f]
   generalize cm n y.a=a at *;generalize cm n y.b=b2 at *;have hOa:=QH (m:=i) (n:=i) (i:=a) B x (zT _);have hR:=PP (cv n ds q a) hb;have hMa:=Z0 (m:=i) B (cv n ds q) x
   repeat' first|refine Av ?_|intro b;conv=>whnf
   refine Sv.cellm (tb:=3) (cs:=eG i (cv n ds q a)) (cs':=eG i (cv n ds (q+1) a)) (τ:=mU o i i B::nB i i B (cv n ds q) a) (sL x) (by rw[QP,eP];exact hb) rfl (by
    rw[eP];refine kn hb ?_ λz C=>?_
    .rw[t];unfold kg;rw[if_pos ⟨rfl,rfl⟩]
    .rw[t];unfold kg;rw[if_neg (λe=>C e.2)]) ?_
   repeat' first|refine Av ?_|intro b;conv=>whnf
   refine⟨q+1,(aj aw),Sc.perm (sK x λz C=>?_),by omega,by omega⟩;rw[t];funext w;unfold kg;rw[if_neg (λe=>C e.1)]
  .obtain rfl:q=ds.length:=by omega
   repeat' first|refine Av ?_|intro b;conv=>whnf
   exact Rt.same ⟨_,_,rfl,rfl⟩
end
section
open Go
theorem rz{n:Nat}{s:List iP}(h:q8 n s):∀i,∀a b,-2097152<=cv n s i a b/\cv n s i a b<=1099511627776
 |0,a,b=>by rw[cv];unfold ka dq;split<;>omega
 |i+1,a,b=>by
  have c:=rz h i;rw[cv]
  cases e:s[i]? with
  |none=>exact c a b
  |some d=>
   have v:=(h.v d (zG e)).2.2.2;simp only;unfold kg;split
   .have:=c (cm n d.a) (cm n d.b);split<;>omega
   .exact c a b
def cE(n:Nat)(d:List iP):bY:=eR (n+1) (n+1) (cv n d d.length)
def eK(m:Nat)(c:bY):Bool:=(List.range m).any λq=>decide (c q q<0)
theorem FT{j i k:Nat}{c:bY}{z:Nat}(h:z≠i):lH j i k c z=c z:=by
 funext w;unfold lH;rw[if_neg (λe=>h e.1)]
theorem br8{j:Nat}(h:j<=10):8*((8:Int) ^ j*2097152)<=18014398509481984:=by
 have:j=0\/j=1\/j=2\/j=3\/j=4\/j=5\/j=6\/j=7\/j=8\/j=9\/j=10:=by omega
 rcases this with rfl|rfl|rfl|rfl|rfl|rfl|rfl|rfl|rfl|rfl|rfl<;>decide
theorem SO{A B:Prop}(k:B)(h:ar B->A:=by intro q7;(first|refine FU ?_|fail|refine FY ?_);exact q7.1):A:=h ⟨k⟩
theorem rI{A B:Prop}(k:B)(h:ar B->A:=by intro q7;(first|refine SO ?_|refine aA ?_|(refine' ah ?hc ?_;(case hc=>exact HV)));exact q7.1):A:=h ⟨k⟩
theorem SN{A B:Prop}(k:B)(h:ar B->A:=by intro q7;(first|refine FU ?_|((with_reducible refine' Ld.cellm (tb:=22) (cs:=iZ m m B) ?h1 ?h2 ?_);(case h1=>exact List.Mem.head _);(case h2=>(rw[eP];exact hOi)))|((with_reducible refine' Ld.cellm (tb:=22) (cs:=iZ m m B) ?h1 ?h2 ?_);(case h1=>exact List.Mem.head _);(case h2=>(rw[eP];exact hOj)))|((with_reducible refine' Ld.cellm (tb:=3) (cs:=eG m (c i)) ?h1 ?h2 ?_);(case h1=>exact List.Mem.tail _ hMi);(case h2=>(rw[eP];exact hRij)))|((with_reducible refine' Ld.cellm (tb:=3) (cs:=eG m (c j)) ?h1 ?h2 ?_);(case h1=>exact List.Mem.tail _ hMj);(case h2=>(rw[eP];exact hRjk)))|((with_reducible refine' Ld.cellm (tb:=3) (cs:=eG m (c i)) ?h1 ?h2 ?_);(case h1=>exact List.Mem.tail _ hMi);(case h2=>(rw[eP];exact hRik)))|refine Q6 ?_);exact q7.1):A:=h ⟨k⟩
theorem jv{A B:Prop}(k:B)(h:ar B->A:=by intro q7;(first|refine SN ?_|refine aA ?_|(refine' ah ?hc ?_;(case hc=>exact HV)));exact q7.1):A:=h ⟨k⟩
theorem SM{A B:Prop}(k:B)(h:ar B->A:=by intro q7;(first|refine FU ?_|((with_reducible refine' Ld.cellm (tb:=22) (cs:=iZ j j B) ?h1 ?h2 ?_);(case h1=>exact List.Mem.head _);(case h2=>(rw[eP];exact hOi)))|((with_reducible refine' Ld.cellm (tb:=3) (cs:=eG j (c i)) ?h1 ?h2 ?_);(case h1=>exact List.Mem.tail _ hMi);(case h2=>(rw[eP];exact hRii)))|refine Q6 ?_);exact q7.1):A:=h ⟨k⟩
theorem Au{A B:Prop}(k:B)(h:ar B->A:=by intro q7;(first|refine SM ?_|refine aA ?_|(refine' ah ?hc ?_;(case hc=>exact HV)));exact q7.1):A:=h ⟨k⟩
theorem K6{p:Prop}(h:p:=by
 repeat refine jv ?_
 exact⟨k+1,(aj aw),(by rw[hst,e];exact Sc.refl _),by omega,by omega⟩):p:=h
theorem aN8(n:Nat)(s:List iP)(h:q8 n s):APure prog 105 [iD n,me s] (if eK (n+1) (cE n s)then .tup [fP [],iD 14]else .tup [fP (rx (n+1) (cE n s)),iD 0]):=by
 have Y:=h.n;have HV:=uz n s h;have T:=uB n s h;have D:=rz h s.length;unfold cE;generalize cv n s s.length=g at *;obtain⟨m,Q⟩:∃m,m=n+1:=⟨_,rfl⟩
 rw[←Q]at T⊢;have r:dq=1099511627776:=rfl;have E:xl m g 2097152:=λa _ b _=>(D a b).1;have v:lD g:=λa b=>(D a b).2;refine APure.of_call ?_;refine cU func105 ntmps105 λZ=>?_
 repeat refine rI ?_
 refine ba T (bR _) (λM=>M) cZ ?_;rintro _ _ ⟨t,B,rfl,rfl⟩
 repeat refine rI ?_
 refine aV mixed ai (γ:=Nat) (λj=>[(8,iD j)]) (λj=>mU t m m B::iC m m B (eR m j g)) (λj=>j<=m) (λj=>m-j) 0 (aj aw) (Sc.refl _) (zW _) ?_;intro j hj;by_cases hjm:j<m
 .have K:=L' E (by decide) j hj;have J:(0:Int)<=8 ^ j*2097152:=Int.mul_nonneg (Int.le_of_lt (Int.pow_pos (by decide))) (by decide);have P:=br8 (j:=j) (by omega);have F:=n9 (m:=m) v j
  repeat refine rI ?_
  refine aV mixed ai (γ:=Nat) (λi=>[(9,iD i)]) (λi=>mU t m m B::iC m m B (gg m j i (eR m j g))) (λi=>i<=m) (λi=>m-i) 0 (aj aw) (Sc.refl _) (zW _) ?_;intro i hi;by_cases him:i<m
  .have G:=kG (m:=m) (j:=j) F i
   repeat refine rI ?_
   refine aV mixed ai (γ:=Nat) (λk=>[(10,iD k)]) (λk=>mU t m m B::iC m m B (bG j i k (gg m j i (eR m j g)))) (λk=>k<=m) (λk=>m-k) 0 (aj aw) (Sc.refl _) (zW _) ?_;intro k R;by_cases hkm:k<m
   .have f:=S7 (k:=k) hjm him R K J;have o:=aW3 (j:=j) (i:=i) G k;have hst:bG j i (k+1) (gg m j i (eR m j g))=lH j i k (bG j i k (gg m j i (eR m j g))):=rfl;generalize bG j i k (gg m j i (eR m j g))=c at *;have V:=f i him j hjm;have U:=f j hjm k hkm;have S:=f i him k hkm;have t1:=o i j;have t2:=o j k;have t3:=o i k;rw[r]at t1 t2 t3;have hOi:=QH (m:=m) (n:=m) (i:=i) B him (zT _);have hOj:=QH (m:=m) (n:=m) (i:=j) B hjm (zT _);have hMi:=Z0 (m:=m) B c him;have hMj:=Z0 (m:=m) B c hjm;have hRij:=PP (c i) hjm;have hRjk:=PP (c j) hkm;have hRik:=PP (c i) hkm;by_cases h1:c i j<1099511627776
    .by_cases h2:c j k<1099511627776
     .repeat refine jv ?_
      refine Sv.cellm (tb:=3) (cs:=eG m (c i)) (cs':=eG m (lH j i k c i)) (τ:=mU t m m B::nB m m B c i) (sL him) (by rw[QP,eP];exact hkm) rfl (by
       rw[eP];refine kn hkm ?_ λz l=>?_
       .unfold lH;rw[if_pos ⟨rfl,rfl,by rw[r];exact h1,by rw[r];exact h2⟩,sG]
       .unfold lH;rw[if_neg (λe=>l e.2.1)]) ?_
      repeat refine jv ?_
      exact⟨k+1,(aj aw),Sc.perm (by rw[hst];exact sK him λz l=>FT l),by omega,by omega⟩
     .have e:lH j i k c=c:=by
       funext x y;unfold lH;rw[if_neg (λe=>h2 (by rw[←r];exact e.2.2.2))]
      exact K6
    .have e:lH j i k c=c:=by
      funext x y;unfold lH;rw[if_neg (λe=>h1 (by rw[←r];exact e.2.2.1))]
     exact K6
   .obtain rfl:k=m:=by omega
    repeat refine jv ?_
    exact⟨i+1,(aj aw),Sc.refl _,by omega,by omega⟩
  .obtain rfl:i=m:=by omega
   repeat refine jv ?_
   exact⟨j+1,(aj aw),Sc.refl _,by omega,by omega⟩
 .obtain rfl:j=m:=by omega
  generalize eR j j g=c at *
  repeat refine jv ?_
  refine aV mixed ai (γ:=Nat) (λi=>[(11,iD i)]) (λi=>mU t j j B::iC j j B c) (λi=>i<=j/\∀q,q<i->0<=c q q) (λi=>j-i) 0 (aj aw) (Sc.refl _) ⟨zW _,λq I=>by omega⟩ ?_;rintro i ⟨hi,I⟩;by_cases hij:i<j
  .have hOi:=QH (m:=j) (n:=j) (i:=i) B hij (zT _);have hMi:=Z0 (m:=j) B c hij;have hRii:=PP (c i) hij;by_cases hneg:c i i<0
   .have L:eK j c=true:=by
     unfold eK;rw[wC];exact⟨i,xT.2 hij,yJ hneg⟩
    rw[L,if_pos rfl]
    repeat refine Au ?_
    exact Rt.vs (Vs.vd (τ:=[]) ⟨_,xA (zZ _).symm⟩ (Vd.tup (.cons (λw X u hs O=>gp _ w _ u (Vd.same (τ:=[]) (λz l=>by cases l) _ w X u hs O)) (.cons (Vd.same (λz l=>by cases l) _) .nil))))
   .repeat refine Au ?_
    refine⟨i+1,(aj aw),Sc.refl _,⟨by omega,λq C=>?_⟩,by omega⟩;by_cases e:q=i
    .subst e;omega
    .exact I q (by omega)
  .obtain rfl:i=j:=by omega
   have L:eK i c=false:=by
    unfold eK;rw[List.any_eq_false];intro q C;have:=I q (xT.1 C);simp;omega
   rw[L,if_neg (by decide)]
   repeat refine Au ?_
   exact Rt.vs (Vs.tup (.cons (Vs.frz OE (MY (by omega) t B c) (bR _)) (.cons (Vs.refl _ _) (.nil _))))
end
section
open Go
theorem MZ{m i:Nat}(c:bY)(h:i<m):(rx m c)[i]?=some ((List.range m).map λb=>c i b):=by unfold rx;rw[qA,xV h];rfl
theorem Zt{m k:Nat}(c:bY)(i:Nat)(h:k<m):((List.range m).map λb=>c i b)[k]?=some (c i k):=by rw[qA,xV h];rfl
structure bC4(N:Nat)(M:Int)(c:bY)(vs:List Int):Prop where
 n:N<=10
 room:qW N M c
 b:0<=M
 e:∀x y,x<N+1->y<N+1 -> -1099511627776<=c x y/\c x y<=1099511627776
 k:vs.length<N
 kp:oy c N vs.length vs
 v:∀x∈vs,-M<=x/\x<=M
theorem gX{p:Prop}(h:p:=by repeat(first|exact oQ.nil|refine oQ.cons rfl ?_|(refine oQ.cons (zM (λn=>some (iD n)) ?h) ?_;(case h=>(first|omega|((try simp only[zL,zR,zI,List.length_cons,List.length_nil,zY,Nat.reduceAdd]);omega))))|(refine oQ.cons (zM (λb=>some (bD b)) ?h) ?_;(case h=>(first|assumption|exact Eq.symm (by assumption)))))):p:=h
theorem cq9{p:Prop}(h:p:=by
 have p1:=zM Prod.fst ep;have p2:=zM Prod.snd ep;simp only at p1 p2;by_cases h2:c k j<1099511627776
 .rw[if_pos h2]at eq
  cases ot with
  |false=>
   rw[if_pos (.inl rfl)]at eq;have q1:=zM Prod.fst eq;have q2:=zM Prod.snd eq;simp only at q1 q2
   repeat refine aN ?_
   exact⟨j+1,(aj gX),Sc.refl _,by omega,by omega⟩
  |true=>
   by_cases h3:vv+c k j<hi
   .rw[if_pos (.inr h3)]at eq;have q1:=zM Prod.fst eq;have q2:=zM Prod.snd eq;simp only at q1 q2
    repeat refine aN ?_
    exact⟨j+1,(aj gX),Sc.refl _,by omega,by omega⟩
   .rw[if_neg (λe=>e.elim (λe=>by cases e) h3)]at eq;have q1:=zM Prod.fst eq;have q2:=zM Prod.snd eq;simp only at q1 q2
    repeat refine aN ?_
    exact⟨j+1,(aj gX),Sc.refl _,by omega,by omega⟩
 .rw[if_neg h2]at eq;have q1:=zM Prod.fst eq;have q2:=zM Prod.snd eq;simp only at q1 q2
  repeat refine aN ?_
  exact⟨j+1,(aj gX),Sc.refl _,by omega,by omega⟩):p:=h
theorem OY{p:Prop}(h:p:=by
 have p1:=zM Prod.fst ep;have p2:=zM Prod.snd ep;simp only at p1 p2;by_cases h2:c k n<1099511627776
 .rw[if_pos h2]at eq
  cases ot with
  |false=>
   rw[if_pos (.inl rfl)]at eq;have q1:=zM Prod.fst eq;have q2:=zM Prod.snd eq;simp only at q1 q2
   repeat refine aN ?_
   exact⟨k+1,(aj gX),Sc.refl _,by omega,by omega⟩
  |true=>
   by_cases h3:0+c k n<hi
   .rw[if_pos (.inr h3)]at eq;have q1:=zM Prod.fst eq;have q2:=zM Prod.snd eq;simp only at q1 q2
    repeat refine aN ?_
    exact⟨k+1,(aj gX),Sc.refl _,by omega,by omega⟩
   .rw[if_neg (λe=>e.elim (λe=>by cases e) h3)]at eq;have q1:=zM Prod.fst eq;have q2:=zM Prod.snd eq;simp only at q1 q2
    repeat refine aN ?_
    exact⟨k+1,(aj gX),Sc.refl _,by omega,by omega⟩
 .rw[if_neg h2]at eq;have q1:=zM Prod.fst eq;have q2:=zM Prod.snd eq;simp only at q1 q2
  repeat refine aN ?_
  exact⟨k+1,(aj gX),Sc.refl _,by omega,by omega⟩):p:=h
theorem OQ{p:Prop}(h:p:=by
 have q1:=zM Prod.fst eq;have q2:=zM Prod.snd eq;simp only at q1 q2
 repeat refine aN ?_
 exact⟨k+1,(aj gX),Sc.refl _,by omega,by omega⟩):p:=h
theorem OP{p:Prop}(h:p:=by
 have q1:=zM Prod.fst eq;have q2:=zM Prod.snd eq;simp only at q1 q2
 repeat refine aN ?_
 exact⟨j+1,(aj gX),Sc.refl _,by omega,by omega⟩):p:=h
theorem uD(n:Nat)(B:Int)(c:bY)(v:List Int)(h:bC4 n B c v):APure prog 263 [fP (rx (n+1) c),bi v] (.tup [iD (dN c n v.length v (v.length+1)).1,iD (eg c n v.length v (v.length+1)).1,iD 0]):=by
 have Z:=h.n;have I:=h.k;have S:=h.room.small;have R:=h.b;have s:dq=1099511627776:=rfl;rw[s]at S;obtain⟨m,K⟩:∃m,m=n+1:=⟨_,rfl⟩
 have f:=h.e;rw[←K]at f⊢;have w:=kx h.room I h.kp;have T:=λi(hi:i<m)=>MZ c hi;have z:(rx m c).length=m:=by simp[rx]
 have l:(((rx m c).map λr=>[bi r]).length:Int)-1=(n:Int):=by rw[zL,z];omega
 unfold fP;refine ao func263 ntmps263 λBB=>?_
 repeat refine aN ?_
 rw[l];refine aV mixed ai (γ:=Nat) (λi=>[(8,iD i)]) (λ_=>[]) (λi=>i<=m) (λi=>m-i) 0 (aj aw) (Sc.refl _) (zW _) ?_;intro i hi;by_cases him:i<m
 .have O:(rx m c)[((i:Nat):Int).toNat]?=some ((List.range m).map λb=>c i b):=T i him;have J:((List.range m).length:Int)=(n:Int)+1:=by simp;omega
  repeat refine aN ?_
  refine aV mixed ai (γ:=Nat) (λi=>[(9,iD i)]) (λ_=>[]) (λi=>i<=m) (λi=>m-i) 0 (aj aw) (Sc.refl _) (zW _) ?_;intro k I;by_cases hkm:k<m
  .have t:((List.range m).map λb=>c i b)[((k:Nat):Int).toNat]?=some (c i k):=Zt c i hkm;have L:=f i k him hkm
   repeat refine aN ?_
   exact⟨k+1,(aj aw),Sc.refl _,by omega,by omega⟩
  .obtain rfl:k=m:=by omega
   exact jK
 .obtain rfl:m=i:=by omega
  repeat refine aN ?_
  refine aV mixed ai (γ:=Nat) (λi=>[(10,iD i)]) (λ_=>[]) (λq=>q<=v.length) (λq=>v.length-q) 0 (aj aw) (Sc.refl _) (zW _) ?_;intro q Y;by_cases hqv:q<v.length
  .obtain⟨y,g⟩:∃y,v[q]?=some y:=⟨_,zD hqv⟩
   have hy:v[((q:Nat):Int).toNat]?=some y:=g;have u:=h.v y (zG g)
   repeat refine aN ?_
   exact⟨q+1,(aj aw),Sc.refl _,by omega,by omega⟩
  .obtain rfl:q=v.length:=by omega
   have o:((v.map λn=>[iD n]).length:Int)=(v.length:Int):=by rw[zL]
   obtain⟨k,x⟩:∃k,k=v.length:=⟨_,rfl⟩
   rw[←x]at o w⊢
   repeat refine aN ?_
   rw[o];refine aV mixed ai (γ:=Nat) (λj=>[(12,iD (dN c n k v j).1),(13,iD (eg c n k v j).1),(14,bD (dN c n k v j).2),(15,bD (eg c n k v j).2),(16,iD j)]) (λ_=>[]) (λj=>j<=k+1) (λj=>k+1-j) 0 (aj aw) (Sc.refl _) (zW _) ?_;intro j hj;by_cases hjk:j<=k
   .have ep:dN c n k v (j+1)=if c (cS n k j) k<dq then(if(dN c n k v j).2=false\/(dN c n k v j).1<fI v k j-c (cS n k j) k then fI v k j-c (cS n k j) k else(dN c n k v j).1,true)else dN c n k v j:=rfl
    have eq:eg c n k v (j+1)=if c k (cS n k j)<dq then(if(eg c n k v j).2=false\/fI v k j+c k (cS n k j)<(eg c n k v j).1 then fI v k j+c k (cS n k j)else(eg c n k v j).1,true)else eg c n k v j:=rfl
    rw[s]at ep eq;generalize dN c n k v j=P at *;generalize eg c n k v j=Q at *;obtain⟨G,sm⟩:=P;obtain⟨hi,ot⟩:=Q;simp only at ep eq⊢;have M:(rx m c)[((k:Nat):Int).toNat]?=some ((List.range m).map λb=>c k b):=T k (by omega);by_cases hjl:j<k
    .have F:cS n k j=j:=by unfold cS;rw[if_pos hjl]
     obtain⟨vv,a⟩:∃y,v[j]?=some y:=⟨_,zD (by omega)⟩
     have X:v[((j:Nat):Int).toNat]?=some vv:=a;have E:fI v k j=vv:=by unfold fI;rw[if_pos hjl,List.getD_eq_getElem?_getD,a];rfl
     rw[F,E]at ep eq;have u:=h.v vv (zG a);have C:(rx m c)[((j:Nat):Int).toNat]?=some ((List.range m).map λb=>c j b):=T j (by omega);have D:((List.range m).map λb=>c j b)[((k:Nat):Int).toNat]?=some (c j k):=Zt c j (by omega);have t:((List.range m).map λb=>c k b)[((j:Nat):Int).toNat]?=some (c k j):=Zt c k (by omega);have V:=f j k (by omega) (by omega);have U:=f k j (by omega) (by omega);by_cases h1:c j k<1099511627776
     .rw[if_pos h1]at ep
      cases sm with
      |false=>
       rw[if_pos (.inl rfl)]at ep;exact cq9
      |true=>
       by_cases h0:G<vv-c j k
       .rw[if_pos (.inr h0)]at ep;exact cq9
       .rw[if_neg (λe=>e.elim (λe=>by cases e) h0)]at ep;have p1:=zM Prod.fst ep;have p2:=zM Prod.snd ep;simp only at p1 p2;by_cases h2:c k j<1099511627776
        .rw[if_pos h2]at eq
         cases ot with
         |false=>
          rw[if_pos (.inl rfl)]at eq;exact OP
         |true=>
          by_cases h3:vv+c k j<hi
          .rw[if_pos (.inr h3)]at eq;exact OP
          .rw[if_neg (λe=>e.elim (λe=>by cases e) h3)]at eq;have q1:=zM Prod.fst eq;have q2:=zM Prod.snd eq;simp only at q1 q2
           repeat refine aN ?_
           exact⟨j+1,(aj gX),Sc.refl _,by omega,by omega⟩
        .rw[if_neg h2]at eq;exact OP
     .rw[if_neg h1]at ep;exact cq9
    .obtain rfl:k=j:=by omega
     have F:cS n k k=n:=by unfold cS;rw[if_neg (by omega)]
     have E:fI v k k=0:=by unfold fI;rw[if_neg (by omega)]
     rw[F,E]at ep eq;have C:(rx m c)[((n:Nat):Int).toNat]?=some ((List.range m).map λb=>c n b):=T n (by omega);have D:((List.range m).map λb=>c n b)[((k:Nat):Int).toNat]?=some (c n k):=Zt c n (by omega);have t:((List.range m).map λb=>c k b)[((n:Nat):Int).toNat]?=some (c k n):=Zt c k (by omega);have V:=f n k (by omega) (by omega);have U:=f k n (by omega) (by omega);by_cases h1:c n k<1099511627776
     .rw[if_pos h1]at ep
      cases sm with
      |false=>
       rw[if_pos (.inl rfl)]at ep;exact OY
      |true=>
       by_cases h0:G<0-c n k
       .rw[if_pos (.inr h0)]at ep;exact OY
       .rw[if_neg (λe=>e.elim (λe=>by cases e) h0)]at ep;have p1:=zM Prod.fst ep;have p2:=zM Prod.snd ep;simp only at p1 p2;by_cases h2:c k n<1099511627776
        .rw[if_pos h2]at eq
         cases ot with
         |false=>
          rw[if_pos (.inl rfl)]at eq;exact OQ
         |true=>
          by_cases h3:0+c k n<hi
          .rw[if_pos (.inr h3)]at eq;exact OQ
          .rw[if_neg (λe=>e.elim (λe=>by cases e) h3)]at eq;have q1:=zM Prod.fst eq;have q2:=zM Prod.snd eq;simp only at q1 q2
           repeat refine aN ?_
           exact⟨k+1,(aj gX),Sc.refl _,by omega,by omega⟩
        .rw[if_neg h2]at eq;exact OQ
     .rw[if_neg h1]at ep;exact OY
   .obtain rfl:j=k+1:=by omega
    repeat refine aN ?_
    exact Rt.pure rfl
end
section
open Go
def co(n:Nat)(c:bY)(p:List Int):Nat->List Int
 |0=>[]
 |k+1=>co n c p k++[(dN c n k (co n c p k) (k+1)).1+((p.getD k 0).tmod ((eg c n k (co n c p k) (k+1)).1-(dN c n k (co n c p k) (k+1)).1+1)+((eg c n k (co n c p k) (k+1)).1-(dN c n k (co n c p k) (k+1)).1+1)).tmod ((eg c n k (co n c p k) (k+1)).1-(dN c n k (co n c p k) (k+1)).1+1)]
theorem rr{a m:Int}(h:0<m):-m<a.tmod m/\a.tmod m<m:=by
 refine⟨?_,Int.tmod_lt_of_pos a h⟩;have:=Int.tmod_lt_of_pos (-a) h;rw[Int.neg_tmod]at this;omega
structure bD1(n:Nat)(B:Int)(c:bY)(k:Nat)(v:List Int):Prop where
 l:v.length=k
 kp:oy c n k v
 v:∀x∈v,-B<=x/\x<=B
theorem qn{n:Nat}{B:Int}{c:bY}(h:qW n B c)(p:List Int):∀k,k<=n->bD1 n B c k (co n c p k)
 |0,_=>⟨rfl,λi j u t w=>by
  have f:cS n 0 i=n:=by unfold cS;rw[if_neg (by omega)]
  have d:cS n 0 j=n:=by unfold cS;rw[if_neg (by omega)]
  have e:∀q,fI (co n c p 0) 0 q=0:=λq=>by unfold fI;rw[if_neg (by omega)]
  rw[f,d,e,e];have:=h.diag n (by omega);omega,λx hx=>by simp[co]at hx⟩
 |k+1,s=>by
  have b:=qn h p k (by omega);have o:=kx h (by omega:k<n) b.kp;rw[co];generalize co n c p k=v at *;obtain⟨_,_,r,l,g⟩:=o;have m:0<(eg c n k v (k+1)).1-(dN c n k v (k+1)).1+1:=by omega
  have t1:=rr (a:=p.getD k 0) m;have t2:=Int.tmod_lt_of_pos ((p.getD k 0).tmod ((eg c n k v (k+1)).1-(dN c n k v (k+1)).1+1)+((eg c n k v (k+1)).1-(dN c n k v (k+1)).1+1)) m;have t3:=Int.tmod_nonneg (a:=(p.getD k 0).tmod ((eg c n k v (k+1)).1-(dN c n k v (k+1)).1+1)+((eg c n k v (k+1)).1-(dN c n k v (k+1)).1+1)) ((eg c n k v (k+1)).1-(dN c n k v (k+1)).1+1) (by omega);refine⟨by rw[zI,b.l];rfl,vb h (by omega) b.l b.kp (by omega) (by omega),λx hx=>?_⟩;rcases zO.1 hx with hx|hx
  .exact b.v x hx
  .rw[zN]at hx;subst hx;omega
theorem Ny{n:Nat}{B:Int}{c:bY}(h:qW n B c)(f:0<=B):∀a b,a<n+1->b<n+1 -> -1099511627776<=c a b/\c a b<=1099511627776:=λa b e d=>by
 have i:=h.cls.top a b e d;have g:=h.small;have r:dq=1099511627776:=rfl;by_cases hc:c a b<dq
 .have:=h.cls.bd a b e d hc;omega
 .omega
theorem mh{A B:Prop}(k:B)(h:ar B->A:=by intro q7;(first|refine bQ ?_|refine aA ?_|(refine' ah ?hc ?_;(case hc=>first|exact HC|exact HR)));exact q7.1):A:=h ⟨k⟩
theorem Bq(n:Nat)(i:List iP)(h:q8 n i)(S:eK (n+1) (cE n i)=false)(B:Int)(J:0<=B)(R:qW n B (cE n i))(b:List Int)(K:b.length=n)(M:∀p∈b,0<=p/\p<=1099511627776):APure prog 238 [iD n,me i,bi b] (.tup [bi (co n (cE n i) b n),iD 0]):=by
 have P:=h.n;have HC:=aN8 n i h;rw[S,if_neg (by decide)]at HC;have l:=qn R b;have C:=Ny R J;have x:=R.small;have z:dq=1099511627776:=rfl;rw[z]at x;generalize cE n i=c at *;refine ao func238 ntmps238 λZ=>?_
 repeat refine mh ?_
 refine aV mixed ai (γ:=Nat×Value×af) (λg=>[(11,iD g.1),(10,.v g.2.1)]) (λg=>g.2.2) (λg=>g.1<=n/\RI (co n c b g.1) g.2.1 g.2.2) (λg=>n-g.1) (0,.slice none 0 0,[]) (aj aw) (Sc.refl _) ⟨zW _,ae.nil _ _⟩ ?_;rintro⟨k,v,s⟩ ⟨I,r⟩;simp only at I r⊢;by_cases hkn:k<n
 .have f:=l k I;have HR:=uD n B c (co n c b k) ⟨P,R,J,C,by rw[f.l];exact hkn,by rw[f.l];exact f.kp,f.v⟩;rw[f.l]at HR;have O:=kx R hkn f.kp;obtain⟨_,_,Y,X,V⟩:=O;obtain⟨pk,e⟩:∃y,b[k]?=some y:=⟨_,zD (by omega)⟩
  have L:b[((k:Nat):Int).toNat]?=some pk:=e;have F:=M pk (zG e);have u:=l (k+1) hkn;have q:co n c b (k+1)=co n c b k++[(dN c n k (co n c b k) (k+1)).1+(pk.tmod ((eg c n k (co n c b k) (k+1)).1-(dN c n k (co n c b k) (k+1)).1+1)+((eg c n k (co n c b k) (k+1)).1-(dN c n k (co n c b k) (k+1)).1+1)).tmod ((eg c n k (co n c b k) (k+1)).1-(dN c n k (co n c b k) (k+1)).1+1)]:=by
   rw[co,List.getD_eq_getElem?_getD,e];rfl
  have Q:=f.l;have t:=u.l;obtain⟨D,j⟩:∃v,v=co n c b (k+1):=⟨_,rfl⟩
  rw[←j]at q t;clear u;generalize co n c b k=E at *;generalize(dN c n k E (k+1)).1=o at *;generalize(eg c n k E (k+1)).1=hi at *;have G:0<hi-o+1:=by omega
  have t1:=rr (a:=pk) G;have t2:=Int.tmod_lt_of_pos (pk.tmod (hi-o+1)+(hi-o+1)) G;have t3:=Int.tmod_nonneg (a:=pk.tmod (hi-o+1)+(hi-o+1)) (hi-o+1) (by omega)
  repeat refine mh ?_
  refine CE.pk (gK.peek (.cons (Pk.same _) (.cons (Pk.rowLe r (dM.refl _) (show s.Perm (s++[]) by simp)) .nil)) HR rfl) ?_
  repeat refine mh ?_
  refine Ap.go rfl rfl rfl rfl r (bR _) rfl (zs:=D.map λn=>[iD n]) (by rw[q,yB];rfl) (by rw[zL];omega) (by rw[zL];omega) (λw=>w) cZ (λU T w r=>?_)
  repeat refine mh ?_
  exact⟨(k+1,.slice U (D.map λn=>[iD n]).length T,w),(aj aw),Sc.refl _,⟨by simp only;omega,(by show RI (co n c b (k+1)) _ _;rw[←j];exact r)⟩,by simp only;omega⟩
 .obtain rfl:k=n:=by omega
  repeat refine mh ?_
  exact Rt.vs (Vs.tup (.cons (Vs.row r (bR _)) (.cons (Vs.refl _ _) (.nil _))))
end
end Go.Proofs.YtilnpcolgcmofaaGreatDoor
