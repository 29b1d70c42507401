/- A part of the proof: Dm Dn Do Dp. -/
import Derived.Test.YtilnpcolgcmofaaGreatDoorA27
set_option maxRecDepth 100000
set_option maxHeartbeats 20000000
set_option linter.all false
namespace Go.Proofs.YtilnpcolgcmofaaGreatDoor
open Tryz
section
open Go
def eL(m:Nat)(f:Nat->Int):List D:=(List.range m).map λk=>iD (f k)
abbrev Mh(m:Nat)(B:Nat->Nat)(c:bZ)(i:Nat):Nat×aB:=(B i,.cells 3 (eL m (c i)))
def iN(m n:Nat)(B:Nat->Nat)(c:bZ):af:=(List.range n).map (Mh m B c)
def nS(m n:Nat)(B:Nat->Nat)(c:bZ)(i:Nat):af:=((List.range n).filter λq=>!(q==i)).map (Mh m B c)
abbrev iE(b m:Nat):Value:=.slice (some ⟨b,0,none⟩) m m
def jh(m n:Nat)(B:Nat->Nat):List D:=(List.range m).map λi=>if i<n then .v (iE (B i) m)else .v (.slice none 0 0)
abbrev ne(b m n:Nat)(B:Nat->Nat):Nat×aB:=(b,.cells 22 (jh m n B))
theorem Rm(m:Nat)(f:Nat->Int):(eL m f).length=m:=by simp[eL]
theorem aZ0(m n:Nat)(B:Nat->Nat):(jh m n B).length=m:=by simp[jh]
theorem Qe{m k:Nat}(f:Nat->Int)(h:k<m):(eL m f)[k]?=some (iD (f k)):=by unfold eL;rw[qA,xV h];rfl
theorem Q5{m n i:Nat}(B:Nat->Nat)(h:i<n)(a:n<=m):(jh m n B)[i]?=some (.v (iE (B i) m)):=by unfold jh;rw[qA,xV (by omega)];simp[h]
theorem kG{m k:Nat}{f g:Nat->Int}{v:Int}(h:k<m)(a:g k=v)(o:∀q,q≠k->g q=f q):(eL m f).set k (iD v)=eL m g:=by
 refine xY λq=>?_;rw[xP];by_cases hq:q<m
 .rw[Qe g hq,Rm];by_cases e:k=q
  .subst e;rw[if_pos rfl,if_pos h,a]
  .rw[if_neg e,Qe f hq,o q (Ne.symm e)]
 .rw[yY.2 (by rw[Rm];omega),if_neg (by omega),yY.2 (by rw[Rm];omega)]
theorem H4{m n b:Nat}{B:Nat->Nat}(h:n<m):(jh m n B).set n (.v (iE b m))=jh m (n+1) (λq=>if q=n then b else B q):=by
 refine xY λq=>?_;rw[xP];by_cases hq:q<m
 .have a:∀(n:Nat)(B:Nat->Nat),(jh m n B)[q]?=some (if q<n then .v (iE (B q) m)else .v (.slice none 0 0)):=λn B=>by unfold jh;rw[qA,xV hq];rfl
  rw[a,a,aZ0];by_cases e:n=q
  .subst e;rw[if_pos rfl,if_pos h,if_pos (by omega),if_pos rfl]
  .rw[if_neg e];by_cases h2:q<n
   .rw[if_pos h2,if_pos (by omega),if_neg (Ne.symm e)]
   .rw[if_neg h2,if_neg (by omega)]
 .rw[yY.2 (by rw[aZ0];omega),if_neg (by omega),yY.2 (by rw[aZ0];omega)]
theorem aS6:∀{n i:Nat},i<n->(List.range n).Perm (i::(List.range n).filter λq=>!(q==i))
 |0,_,h=>by omega
 |n+1,i,h=>by
  rw[List.range_succ,vZ];by_cases e:i=n
  .subst e;have c:((List.range i).filter λq=>!(q==i))=List.range i:=List.filter_eq_self.2 λq b=>by
    have:=xT.1 b;simp;omega
   have a:(([i]:List Nat).filter λq=>!(q==i))=[]:=by simp
   rw[c,a,zZ];exact yT
  .have a:(([n]:List Nat).filter λq=>!(q==i))=[n]:=by simp;omega
   rw[a];exact(aS6 (by omega)).append_right [n]
theorem nR{m n i:Nat}(B:Nat->Nat)(c:bZ)(h:i<n):(iN m n B c).Perm (Mh m B c i::nS m n B c i):=(aS6 h).map _
theorem qG{m n i:Nat}{B B':Nat->Nat}{c c':bZ}(f:∀q,q<n->q≠i->B q=B' q)(e:∀q,q<n->q≠i->c q=c' q):nS m n B c i=nS m n B' c' i:=by
 unfold nS;refine List.map_congr_left λq d=>?_;have b:=vP.1 d;have a:=xT.1 b.1;have h:q≠i:=by simpa using b.2
 show(B q,aB.cells 3 (eL m (c q)))=_;rw[f q a h,e q a h]
theorem bb5{m n i:Nat}(B:Nat->Nat)(c:bZ)(h:i<n):Mh m B c i∈iN m n B c:=vX (xT.2 h)
theorem wn{m n:Nat}{B B':Nat->Nat}{c c':bZ}(d:∀q,q<n->B q=B' q)(b:∀q,q<n->c q=c' q):iN m n B c=iN m n B' c':=by
 unfold iN;refine List.map_congr_left λq a=>?_;have h:=xT.1 a
 show(B q,aB.cells 3 (eL m (c q)))=_;rw[d q h,b q h]
theorem DX(m n:Nat)(B:Nat->Nat)(c:bZ):iN m (n+1) B c=iN m n B c++[Mh m B c n]:=by
 unfold iN;rw[List.range_succ,yB];rfl
def rO(m:Nat)(c:bZ):List (List Int):=(List.range m).map λa=>(List.range m).map λb=>c a b
theorem Nm{m:Nat}(v:m<=100)(d:Nat)(B:Nat->Nat)(c:bZ):Kt (rO m c) (iE d m) (ne d m m B::iN m m B c):=by
 have s:ae 22 1 (((List.range m).map λi=>iE (B i) m).map λu=>[D.v u]) (iE d m) [ne d m m B]:=by
  have h:=Ql (e:=22) (k:=1) (xs:=((List.range m).map λi=>iE (B i) m).map λu=>[D.v u]) d (λy j=>by obtain⟨_,_,rfl⟩:=xM.1 j;rfl) (by simp;unfold maxLen;omega);have o:(((List.range m).map λi=>iE (B i) m).map λu=>[D.v u]).flatten=jh m m B:=by
   rw[qE (f:=λu=>D.v u),vA];unfold jh;refine List.map_congr_left λq p=>?_;rw[if_pos (xT.1 p)];rfl
  rw[o,zL,zL,vU]at h;exact h
 have r:∀l:List Nat,cT RI (l.map λa=>(List.range m).map λb=>c a b) (l.map λi=>iE (B i) m) (l.map λi=>[Mh m B c i]):=by
  intro l
  induction l with
  |nil=>exact .nil
  |cons a l g=>
   refine .cons ?_ g;have h:=Ql (e:=3) (k:=1) (xs:=((List.range m).map λb=>c a b).map λn=>[iD n]) (B a) (λy j=>by obtain⟨_,_,rfl⟩:=xM.1 j;rfl) (by simp;unfold maxLen;omega);have o:(((List.range m).map λb=>c a b).map λn=>[iD n]).flatten=eL m (c a):=by
    rw[qE (f:=λn=>iD n),vA];rfl
   rw[o,zL,zL,vU]at h;exact h
 refine⟨_,_,_,s,r _,?_⟩;have t:((List.range m).map λi=>[Mh m B c i]).flatten=iN m m B c:=by
  unfold iN
  induction(List.range m)with
  |nil=>rfl
  |cons a l g=>rw[List.map_cons,List.map_cons,List.flatten_cons,g];rfl
 rw[t];exact zH _
def kx:bZ:=λa b=>if a=b then 0 else dr
def kE(c:bZ)(a b:Nat)(v:Int):bZ:=λx y=>if x=a/\y=b then v else c x y
def cw(n:Nat)(s:List i6):Nat->bZ
 |0=>kx
 |i+1=>match s[i]? with
  |some d=>kE (cw n s i) (cn n d.a) (cn n d.b) (if d.n<cw n s i (cn n d.a) (cn n d.b)then d.n else cw n s i (cn n d.a) (cn n d.b))
  |none=>cw n s i
theorem bs4(m:Nat)(B:Nat->Nat):jh m 0 B=List.replicate m (.v (.slice none 0 0)):=by
 unfold jh;refine List.eq_replicate_iff.2 ⟨by simp,λb h=>?_⟩;obtain⟨q,_,rfl⟩:=xM.1 h;rw[if_neg (by omega)]
theorem br5(m:Nat):eL m (λ_=>0)=List.replicate m (iD 0):=by
 unfold eL;exact List.eq_replicate_iff.2 ⟨by simp,λb h=>by obtain⟨q,_,rfl⟩:=xM.1 h;rfl⟩
theorem be1{m:Nat}{f g:Nat->Int}(h:∀q,q<m->f q=g q):eL m f=eL m g:=by
 unfold eL;exact List.map_congr_left λq a=>by rw[h q (xT.1 a)]
theorem td{m n i:Nat}{b k:Nat}{B:Nat->Nat}{c c':bZ}(h:i<n)(d:∀q,q≠i->c' q=c q):((B i,aB.cells 3 (eL m (c' i)))::ne b m k B::nS m n B c i).Perm (ne b m k B::iN m n B c'):=by
 refine(List.Perm.swap _ _ _).trans (List.Perm.cons _ ?_);rw[qG (B':=B) (c':=c') (λ_ _ _=>rfl) (λq _ a=>(d q a).symm)];exact(nR B c' h).symm
theorem te{m n i:Nat}{b k:Nat}{B:Nat->Nat}{c:bZ}(h:i<n):(ne b m k B::iN m n B c).Perm ((B i,aB.cells 3 (eL m (c i)))::ne b m k B::nS m n B c i):=
 ((nR B c h).cons _).trans (List.Perm.swap _ _ _)
theorem Ts{A B:Prop}(k:B)(h:ar B->A:=by intro q7;(first|refine KH ?_|((with_reducible refine' Ld.cellm (tb:=22) (cs:=jh m (i+1) B') ?h1 ?h2 ?_);(case h1=>exact List.Mem.head _);(case h2=>(rw[dW];exact hOi)))|refine RL ?_);exact q7.1):A:=h ⟨k⟩
theorem rX{A B:Prop}(k:B)(h:ar B->A:=by intro q7;(first|refine Ts ?_|refine aA ?_|(refine' ah ?hc ?_;(case hc=>first|exact HA|exact HB)));exact q7.1):A:=h ⟨k⟩
theorem Tr{A B:Prop}(k:B)(h:ar B->A:=by intro q7;(first|refine KH ?_|((with_reducible refine' Ld.cellm (tb:=22) (cs:=jh i i B) ?h1 ?h2 ?_);(case h1=>exact List.Mem.head _);(case h2=>(rw[dW];exact hOa)))|((with_reducible refine' Ld.cellm (tb:=3) (cs:=eL i (cw n ds q a)) ?h1 ?h2 ?_);(case h1=>exact List.Mem.tail _ hMa);(case h2=>(rw[dW];exact hR)))|refine RL ?_);exact q7.1):A:=h ⟨k⟩
theorem AT{A B:Prop}(k:B)(h:ar B->A:=by intro q7;(first|refine Tr ?_|refine aA ?_|(refine' ah ?hc ?_;(case hc=>first|exact HA|exact HB)));exact q7.1):A:=h ⟨k⟩
theorem uZ(n:Nat)(ds:List i6)(h:rC n ds):az prog 147 [iD n,mA ds] [] (λd σ=>∃F B,d= .v (iE F (n+1))/\σ=ne F (n+1) (n+1) B::iN (n+1) (n+1) B (cw n ds ds.length)):=by
 have P:=h.n;have J:=h.l;obtain⟨m,r⟩:∃m,m=n+1:=⟨_,rfl⟩
 rw[←r];refine cP func147 ntmps147 λS=>?_
 repeat' first|refine jI ?_|intro b;conv=>whnf
 refine Mk.go m rfl rfl rfl rfl rfl (by rw[r]) (by omega) (by omega) (λo=>?_)
 repeat' first|refine jI ?_|intro b;conv=>whnf
 refine aR mixed ai (γ:=Nat×(Nat->Nat)) (λg=>[(6,iD g.1)]) (λg=>ne o m g.1 g.2::iN m g.1 g.2 kx) (λg=>g.1<=m) (λg=>m-g.1) (0,λ_=>0) (aj av) (Sc.perm (by show List.Perm _ [(o,aB.cells 22 (jh m 0 λ_=>0))];rw[bs4];exact zH _)) (zW _) ?_;rintro⟨i,B⟩ hi;simp only at hi⊢;by_cases him:i<m
 .have R:=Q5 (m:=m) (n:=i+1) (i:=i)
  repeat' first|refine jI ?_|intro b;conv=>whnf
  refine Mk.go m rfl rfl rfl rfl rfl (by rw[r]) (by omega) (by omega) (λj=>?_)
  repeat' first|refine jI ?_|intro b;conv=>whnf
  refine Sv.cellm (tb:=22) (cs:=jh m i B) (cs':=jh m (i+1) (λq=>if q=i then j else B q)) (τ:=(j,.cells 3 (eL m (λ_=>0)))::iN m i B kx) (by rw[br5];exact List.Perm.swap _ _ _) (by rw[aZ0,dW];exact him) rfl (by rw[dW];exact H4 him) ?_
  repeat' first|refine jI ?_|intro b;conv=>whnf
  generalize E:(λq=>if q=i then j else B q)=B';have u:B' i=j:=by rw[←E];simp
  have D:∀q,q<i->B' q=B q:=λq l=>by rw[←E];simp;omega
  have hOi:=Q5 (m:=m) (n:=i+1) (i:=i) B' (by omega) (by omega);rw[u]at hOi;refine aR mixed ai (γ:=Nat) (λk=>[(7,iD k)]) (λk=>ne o m (i+1) B'::(j,.cells 3 (eL m (λq=>if q<k then kx i q else 0)))::iN m i B kx) (λk=>k<=m) (λk=>m-k) 0 (aj av) (Sc.refl _) (zW _) ?_;intro k Q;by_cases hkm:k<m
  .by_cases s:i=k
   .subst s;have e:eL m (λq=>if q<i+1 then kx i q else 0)=eL m (λq=>if q<i then kx i q else 0):=be1 λq l=>by
     by_cases L:q=i
     .subst L;simp[kx]
     .by_cases e2:q<i
      .rw[if_pos e2,if_pos (by omega)]
      .rw[if_neg e2,if_neg (by omega)]
    repeat' first|refine jI ?_|intro b;conv=>whnf
    exact⟨i+1,(aj av),(by rw[e];exact Sc.refl _),by omega,by omega⟩
   .skip
    repeat' first|refine rX ?_|intro b;conv=>whnf
    refine Sv.cellm (tb:=3) (cs:=eL m (λq=>if q<k then kx i q else 0)) (cs':=eL m (λq=>if q<k+1 then kx i q else 0)) (τ:=ne o m (i+1) B'::iN m i B kx) (List.Perm.swap _ _ _) (by rw[Rm,dW];exact hkm) rfl (by
     rw[dW];refine kG hkm ?_ λq l=>?_
     .rw[if_pos (by omega)];unfold kx;rw[if_neg s];rfl
     .by_cases e2:q<k
      .rw[if_pos e2,if_pos (by omega)]
      .rw[if_neg e2,if_neg (by omega)]) ?_
    repeat' first|refine rX ?_|intro b;conv=>whnf
    exact⟨k+1,(aj av),Sc.perm (List.Perm.swap _ _ _),by omega,by omega⟩
  .obtain rfl:k=m:=by omega
   have e:eL k (λq=>if q<k then kx i q else 0)=eL k (kx i):=be1 λq l=>by rw[if_pos l]
   repeat' first|refine rX ?_|intro b;conv=>whnf
   refine⟨(i+1,B'),(aj av),Sc.perm ?_,by simp only;omega,by simp only;omega⟩;rw[e,DX,wn (B':=B) (c':=kx) D (λ_ _=>rfl)];refine List.Perm.cons _ ?_;have K:Mh k B' kx i=(j,aB.cells 3 (eL k (kx i))):=by show(B' i,_)=_;rw[u]
   rw[K];exact(List.perm_append_singleton _ _).symm
 .obtain rfl:i=m:=by omega
  repeat' first|refine rX ?_|intro b;conv=>whnf
  refine aR mixed ai (γ:=Nat) (λq=>[(8,iD q)]) (λq=>ne o i i B::iN i i B (cw n ds q)) (λq=>q<=ds.length) (λq=>ds.length-q) 0 (aj av) (Sc.refl _) (zW _) ?_;intro q l;by_cases hql:q<ds.length
  .obtain⟨y,f⟩:∃y,ds[q]?=some y:=⟨_,zD hql⟩
   have hy:ds[((q:Nat):Int).toNat]?=some y:=f;obtain⟨I,G,O,M⟩:=h.v y (zG f);have HA:=sy n y.a;have HB:=sy n y.b;have x:cn n y.a<i:=by rw[r];exact sn I
   have hb:cn n y.b<i:=by rw[r];exact sn G
   have t:cw n ds (q+1)=kE (cw n ds q) (cn n y.a) (cn n y.b) (if y.n<cw n ds q (cn n y.a) (cn n y.b)then y.n else cw n ds q (cn n y.a) (cn n y.b)):=by rw[cw,f]
   generalize cn n y.a=a at *;generalize cn n y.b=b2 at *;have hOa:=Q5 (m:=i) (n:=i) (i:=a) B x (zT _);have hR:=Qe (cw n ds q a) hb;have hMa:=bb5 (m:=i) B (cw n ds q) x
   repeat' first|refine AT ?_|intro b;conv=>whnf
   refine Sv.cellm (tb:=3) (cs:=eL i (cw n ds q a)) (cs':=eL i (cw n ds (q+1) a)) (τ:=ne o i i B::nS i i B (cw n ds q) a) (te x) (by rw[Rm,dW];exact hb) rfl (by
    rw[dW];refine kG hb ?_ λz C=>?_
    .rw[t];unfold kE;rw[if_pos ⟨rfl,rfl⟩]
    .rw[t];unfold kE;rw[if_neg (λe=>C e.2)]) ?_
   repeat' first|refine AT ?_|intro b;conv=>whnf
   refine⟨q+1,(aj av),Sc.perm (td x λz C=>?_),by omega,by omega⟩;rw[t];funext w;unfold kE;rw[if_neg (λe=>C e.1)]
  .obtain rfl:q=ds.length:=by omega
   repeat' first|refine AT ?_|intro b;conv=>whnf
   exact Rt.same ⟨_,_,rfl,rfl⟩
end
section
open Go
theorem rQ{n:Nat}{s:List i6}(h:rC n s):∀i,∀a b,-2097152<=cw n s i a b/\cw n s i a b<=1099511627776
 |0,a,b=>by rw[cw];unfold kx dr;split<;>omega
 |i+1,a,b=>by
  have c:=rQ h i;rw[cw]
  cases e:s[i]? with
  |none=>exact c a b
  |some d=>
   have v:=(h.v d (zG e)).2.2.2;simp only;unfold kE;split
   .have:=c (cn n d.a) (cn n d.b);split<;>omega
   .exact c a b
def cH(n:Nat)(d:List i6):bZ:=eW (n+1) (n+1) (cw n d d.length)
def eQ(m:Nat)(c:bZ):Bool:=(List.range m).any λq=>decide (c q q<0)
theorem Gn{j i k:Nat}{c:bZ}{z:Nat}(h:z≠i):lU j i k c z=c z:=by
 funext w;unfold lU;rw[if_neg (λe=>h e.1)]
theorem bs2{j:Nat}(h:j<=10):8*((8:Int) ^ j*2097152)<=18014398509481984:=by
 have:j=0\/j=1\/j=2\/j=3\/j=4\/j=5\/j=6\/j=7\/j=8\/j=9\/j=10:=by omega
 rcases this with rfl|rfl|rfl|rfl|rfl|rfl|rfl|rfl|rfl|rfl|rfl<;>decide
theorem Tq{A B:Prop}(k:B)(h:ar B->A:=by intro q7;(first|refine KH ?_|fail|refine KL ?_);exact q7.1):A:=h ⟨k⟩
theorem rW{A B:Prop}(k:B)(h:ar B->A:=by intro q7;(first|refine Tq ?_|refine aA ?_|(refine' ah ?hc ?_;(case hc=>exact HV)));exact q7.1):A:=h ⟨k⟩
theorem Tp{A B:Prop}(k:B)(h:ar B->A:=by intro q7;(first|refine KH ?_|((with_reducible refine' Ld.cellm (tb:=22) (cs:=jh m m B) ?h1 ?h2 ?_);(case h1=>exact List.Mem.head _);(case h2=>(rw[dW];exact hOi)))|((with_reducible refine' Ld.cellm (tb:=22) (cs:=jh m m B) ?h1 ?h2 ?_);(case h1=>exact List.Mem.head _);(case h2=>(rw[dW];exact hOj)))|((with_reducible refine' Ld.cellm (tb:=3) (cs:=eL m (c i)) ?h1 ?h2 ?_);(case h1=>exact List.Mem.tail _ hMi);(case h2=>(rw[dW];exact hRij)))|((with_reducible refine' Ld.cellm (tb:=3) (cs:=eL m (c j)) ?h1 ?h2 ?_);(case h1=>exact List.Mem.tail _ hMj);(case h2=>(rw[dW];exact hRjk)))|((with_reducible refine' Ld.cellm (tb:=3) (cs:=eL m (c i)) ?h1 ?h2 ?_);(case h1=>exact List.Mem.tail _ hMi);(case h2=>(rw[dW];exact hRik)))|refine RL ?_);exact q7.1):A:=h ⟨k⟩
theorem jF{A B:Prop}(k:B)(h:ar B->A:=by intro q7;(first|refine Tp ?_|refine aA ?_|(refine' ah ?hc ?_;(case hc=>exact HV)));exact q7.1):A:=h ⟨k⟩
theorem To{A B:Prop}(k:B)(h:ar B->A:=by intro q7;(first|refine KH ?_|((with_reducible refine' Ld.cellm (tb:=22) (cs:=jh j j B) ?h1 ?h2 ?_);(case h1=>exact List.Mem.head _);(case h2=>(rw[dW];exact hOi)))|((with_reducible refine' Ld.cellm (tb:=3) (cs:=eL j (c i)) ?h1 ?h2 ?_);(case h1=>exact List.Mem.tail _ hMi);(case h2=>(rw[dW];exact hRii)))|refine RL ?_);exact q7.1):A:=h ⟨k⟩
theorem AS{A B:Prop}(k:B)(h:ar B->A:=by intro q7;(first|refine To ?_|refine aA ?_|(refine' ah ?hc ?_;(case hc=>exact HV)));exact q7.1):A:=h ⟨k⟩
theorem LJ{p:Prop}(h:p:=by
 repeat refine jF ?_
 exact⟨k+1,(aj av),(by rw[hst,e];exact Sc.refl _),by omega,by omega⟩):p:=h
theorem aO1(n:Nat)(s:List i6)(h:rC n s):APure prog 105 [iD n,mA s] (if eQ (n+1) (cH n s)then .tup [fV [],iD 14]else .tup [fV (rO (n+1) (cH n s)),iD 0]):=by
 have Y:=h.n;have HV:=uY n s h;have T:=uZ n s h;have D:=rQ h s.length;unfold cH;generalize cw n s s.length=g at *;obtain⟨m,Q⟩:∃m,m=n+1:=⟨_,rfl⟩
 rw[←Q]at T⊢;have r:dr=1099511627776:=rfl;have E:yh m g 2097152:=λa _ b _=>(D a b).1;have v:lQ g:=λa b=>(D a b).2;refine APure.of_call ?_;refine cP func105 ntmps105 λZ=>?_
 repeat refine rW ?_
 refine bc T (bS _) (λM=>M) da ?_;rintro _ _ ⟨t,B,rfl,rfl⟩
 repeat refine rW ?_
 refine aR mixed ai (γ:=Nat) (λj=>[(8,iD j)]) (λj=>ne t m m B::iN m m B (eW m j g)) (λj=>j<=m) (λj=>m-j) 0 (aj av) (Sc.refl _) (zW _) ?_;intro j hj;by_cases hjm:j<m
 .have K:=MI E (by decide) j hj;have J:(0:Int)<=8 ^ j*2097152:=Int.mul_nonneg (Int.le_of_lt (Int.pow_pos (by decide))) (by decide);have P:=bs2 (j:=j) (by omega);have F:=oz (m:=m) v j
  repeat refine rW ?_
  refine aR mixed ai (γ:=Nat) (λi=>[(9,iD i)]) (λi=>ne t m m B::iN m m B (gn m j i (eW m j g))) (λi=>i<=m) (λi=>m-i) 0 (aj av) (Sc.refl _) (zW _) ?_;intro i hi;by_cases him:i<m
  .have G:=kR (m:=m) (j:=j) F i
   repeat refine rW ?_
   refine aR mixed ai (γ:=Nat) (λk=>[(10,iD k)]) (λk=>ne t m m B::iN m m B (bI j i k (gn m j i (eW m j g)))) (λk=>k<=m) (λk=>m-k) 0 (aj av) (Sc.refl _) (zW _) ?_;intro k R;by_cases hkm:k<m
   .have f:=TH (k:=k) hjm him R K J;have o:=aW8 (j:=j) (i:=i) G k;have hst:bI j i (k+1) (gn m j i (eW m j g))=lU j i k (bI j i k (gn m j i (eW m j g))):=rfl;generalize bI j i k (gn m j i (eW m j g))=c at *;have V:=f i him j hjm;have U:=f j hjm k hkm;have S:=f i him k hkm;have t1:=o i j;have t2:=o j k;have t3:=o i k;rw[r]at t1 t2 t3;have hOi:=Q5 (m:=m) (n:=m) (i:=i) B him (zT _);have hOj:=Q5 (m:=m) (n:=m) (i:=j) B hjm (zT _);have hMi:=bb5 (m:=m) B c him;have hMj:=bb5 (m:=m) B c hjm;have hRij:=Qe (c i) hjm;have hRjk:=Qe (c j) hkm;have hRik:=Qe (c i) hkm;by_cases h1:c i j<1099511627776
    .by_cases h2:c j k<1099511627776
     .repeat refine jF ?_
      refine Sv.cellm (tb:=3) (cs:=eL m (c i)) (cs':=eL m (lU j i k c i)) (τ:=ne t m m B::nS m m B c i) (te him) (by rw[Rm,dW];exact hkm) rfl (by
       rw[dW];refine kG hkm ?_ λz l=>?_
       .unfold lU;rw[if_pos ⟨rfl,rfl,by rw[r];exact h1,by rw[r];exact h2⟩,sW]
       .unfold lU;rw[if_neg (λe=>l e.2.1)]) ?_
      repeat refine jF ?_
      exact⟨k+1,(aj av),Sc.perm (by rw[hst];exact td him λz l=>Gn l),by omega,by omega⟩
     .have e:lU j i k c=c:=by
       funext x y;unfold lU;rw[if_neg (λe=>h2 (by rw[←r];exact e.2.2.2))]
      exact LJ
    .have e:lU j i k c=c:=by
      funext x y;unfold lU;rw[if_neg (λe=>h1 (by rw[←r];exact e.2.2.1))]
     exact LJ
   .obtain rfl:k=m:=by omega
    repeat refine jF ?_
    exact⟨i+1,(aj av),Sc.refl _,by omega,by omega⟩
  .obtain rfl:i=m:=by omega
   repeat refine jF ?_
   exact⟨j+1,(aj av),Sc.refl _,by omega,by omega⟩
 .obtain rfl:j=m:=by omega
  generalize eW j j g=c at *
  repeat refine jF ?_
  refine aR mixed ai (γ:=Nat) (λi=>[(11,iD i)]) (λi=>ne t j j B::iN j j B c) (λi=>i<=j/\∀q,q<i->0<=c q q) (λi=>j-i) 0 (aj av) (Sc.refl _) ⟨zW _,λq I=>by omega⟩ ?_;rintro i ⟨hi,I⟩;by_cases hij:i<j
  .have hOi:=Q5 (m:=j) (n:=j) (i:=i) B hij (zT _);have hMi:=bb5 (m:=j) B c hij;have hRii:=Qe (c i) hij;by_cases hneg:c i i<0
   .have L:eQ j c=true:=by
     unfold eQ;rw[wC];exact⟨i,xT.2 hij,yJ hneg⟩
    rw[L,if_pos rfl]
    repeat refine AS ?_
    exact Rt.vs (Vs.vd (τ:=[]) ⟨_,xA (zZ _).symm⟩ (Vd.tup (.cons (λw X u hs O=>gw _ w _ u (Vd.same (τ:=[]) (λz l=>by cases l) _ w X u hs O)) (.cons (Vd.same (λz l=>by cases l) _) .nil))))
   .repeat refine AS ?_
    refine⟨i+1,(aj av),Sc.refl _,⟨by omega,λq C=>?_⟩,by omega⟩;by_cases e:q=i
    .subst e;omega
    .exact I q (by omega)
  .obtain rfl:i=j:=by omega
   have L:eQ i c=false:=by
    unfold eQ;rw[List.any_eq_false];intro q C;have:=I q (xT.1 C);simp;omega
   rw[L,if_neg (by decide)]
   repeat refine AS ?_
   exact Rt.vs (Vs.tup (.cons (Vs.frz DL (Nm (by omega) t B c) (bS _)) (.cons (Vs.refl _ _) (.nil _))))
end
section
open Go
theorem Nn{m i:Nat}(c:bZ)(h:i<m):(rO m c)[i]?=some ((List.range m).map λb=>c i b):=by unfold rO;rw[qA,xV h];rfl
theorem ZU{m k:Nat}(c:bZ)(i:Nat)(h:k<m):((List.range m).map λb=>c i b)[k]?=some (c i k):=by rw[qA,xV h];rfl
structure bC8(N:Nat)(M:Int)(c:bZ)(vs:List Int):Prop where
 n:N<=10
 room:rz N M c
 b:0<=M
 e:∀x y,x<N+1->y<N+1 -> -1099511627776<=c x y/\c x y<=1099511627776
 k:vs.length<N
 kp:oP c N vs.length vs
 v:∀x∈vs,-M<=x/\x<=M
theorem hH{p:Prop}(h:p:=by repeat(first|exact o7.nil|refine o7.cons rfl ?_|(refine o7.cons (zM (λn=>some (iD n)) ?h) ?_;(case h=>(first|omega|((try simp only[zL,zR,zI,List.length_cons,List.length_nil,zY,Nat.reduceAdd]);omega))))|(refine o7.cons (zM (λb=>some (bD b)) ?h) ?_;(case h=>(first|assumption|exact Eq.symm (by assumption)))))):p:=h
theorem cq9{p:Prop}(h:p:=by
 have p1:=zM Prod.fst ep;have p2:=zM Prod.snd ep;simp only at p1 p2;by_cases h2:c k j<1099511627776
 .rw[if_pos h2]at eq
  cases ot with
  |false=>
   rw[if_pos (.inl rfl)]at eq;have q1:=zM Prod.fst eq;have q2:=zM Prod.snd eq;simp only at q1 q2
   repeat refine aO ?_
   exact⟨j+1,(aj hH),Sc.refl _,by omega,by omega⟩
  |true=>
   by_cases h3:vv+c k j<hi
   .rw[if_pos (.inr h3)]at eq;have q1:=zM Prod.fst eq;have q2:=zM Prod.snd eq;simp only at q1 q2
    repeat refine aO ?_
    exact⟨j+1,(aj hH),Sc.refl _,by omega,by omega⟩
   .rw[if_neg (λe=>e.elim (λe=>by cases e) h3)]at eq;have q1:=zM Prod.fst eq;have q2:=zM Prod.snd eq;simp only at q1 q2
    repeat refine aO ?_
    exact⟨j+1,(aj hH),Sc.refl _,by omega,by omega⟩
 .rw[if_neg h2]at eq;have q1:=zM Prod.fst eq;have q2:=zM Prod.snd eq;simp only at q1 q2
  repeat refine aO ?_
  exact⟨j+1,(aj hH),Sc.refl _,by omega,by omega⟩):p:=h
theorem Pl{p:Prop}(h:p:=by
 have p1:=zM Prod.fst ep;have p2:=zM Prod.snd ep;simp only at p1 p2;by_cases h2:c k n<1099511627776
 .rw[if_pos h2]at eq
  cases ot with
  |false=>
   rw[if_pos (.inl rfl)]at eq;have q1:=zM Prod.fst eq;have q2:=zM Prod.snd eq;simp only at q1 q2
   repeat refine aO ?_
   exact⟨k+1,(aj hH),Sc.refl _,by omega,by omega⟩
  |true=>
   by_cases h3:0+c k n<hi
   .rw[if_pos (.inr h3)]at eq;have q1:=zM Prod.fst eq;have q2:=zM Prod.snd eq;simp only at q1 q2
    repeat refine aO ?_
    exact⟨k+1,(aj hH),Sc.refl _,by omega,by omega⟩
   .rw[if_neg (λe=>e.elim (λe=>by cases e) h3)]at eq;have q1:=zM Prod.fst eq;have q2:=zM Prod.snd eq;simp only at q1 q2
    repeat refine aO ?_
    exact⟨k+1,(aj hH),Sc.refl _,by omega,by omega⟩
 .rw[if_neg h2]at eq;have q1:=zM Prod.fst eq;have q2:=zM Prod.snd eq;simp only at q1 q2
  repeat refine aO ?_
  exact⟨k+1,(aj hH),Sc.refl _,by omega,by omega⟩):p:=h
theorem Pc{p:Prop}(h:p:=by
 have q1:=zM Prod.fst eq;have q2:=zM Prod.snd eq;simp only at q1 q2
 repeat refine aO ?_
 exact⟨k+1,(aj hH),Sc.refl _,by omega,by omega⟩):p:=h
theorem Pb{p:Prop}(h:p:=by
 have q1:=zM Prod.fst eq;have q2:=zM Prod.snd eq;simp only at q1 q2
 repeat refine aO ?_
 exact⟨j+1,(aj hH),Sc.refl _,by omega,by omega⟩):p:=h
theorem u4(n:Nat)(B:Int)(c:bZ)(v:List Int)(h:bC8 n B c v):APure prog 263 [fV (rO (n+1) c),bj v] (.tup [iD (dP c n v.length v (v.length+1)).1,iD (er c n v.length v (v.length+1)).1,iD 0]):=by
 have Z:=h.n;have I:=h.k;have S:=h.room.small;have R:=h.b;have s:dr=1099511627776:=rfl;rw[s]at S;obtain⟨m,K⟩:∃m,m=n+1:=⟨_,rfl⟩
 have f:=h.e;rw[←K]at f⊢;have w:=kK h.room I h.kp;have T:=λi(hi:i<m)=>Nn c hi;have z:(rO m c).length=m:=by simp[rO]
 have l:(((rO m c).map λr=>[bj r]).length:Int)-1=(n:Int):=by rw[zL,z];omega
 unfold fV;refine ap func263 ntmps263 λBB=>?_
 repeat refine aO ?_
 rw[l];refine aR mixed ai (γ:=Nat) (λi=>[(8,iD i)]) (λ_=>[]) (λi=>i<=m) (λi=>m-i) 0 (aj av) (Sc.refl _) (zW _) ?_;intro i hi;by_cases him:i<m
 .have O:(rO m c)[((i:Nat):Int).toNat]?=some ((List.range m).map λb=>c i b):=T i him;have J:((List.range m).length:Int)=(n:Int)+1:=by simp;omega
  repeat refine aO ?_
  refine aR mixed ai (γ:=Nat) (λi=>[(9,iD i)]) (λ_=>[]) (λi=>i<=m) (λi=>m-i) 0 (aj av) (Sc.refl _) (zW _) ?_;intro k I;by_cases hkm:k<m
  .have t:((List.range m).map λb=>c i b)[((k:Nat):Int).toNat]?=some (c i k):=ZU c i hkm;have L:=f i k him hkm
   repeat refine aO ?_
   exact⟨k+1,(aj av),Sc.refl _,by omega,by omega⟩
  .obtain rfl:k=m:=by omega
   exact jU
 .obtain rfl:m=i:=by omega
  repeat refine aO ?_
  refine aR mixed ai (γ:=Nat) (λi=>[(10,iD i)]) (λ_=>[]) (λq=>q<=v.length) (λq=>v.length-q) 0 (aj av) (Sc.refl _) (zW _) ?_;intro q Y;by_cases hqv:q<v.length
  .obtain⟨y,g⟩:∃y,v[q]?=some y:=⟨_,zD hqv⟩
   have hy:v[((q:Nat):Int).toNat]?=some y:=g;have u:=h.v y (zG g)
   repeat refine aO ?_
   exact⟨q+1,(aj av),Sc.refl _,by omega,by omega⟩
  .obtain rfl:q=v.length:=by omega
   have o:((v.map λn=>[iD n]).length:Int)=(v.length:Int):=by rw[zL]
   obtain⟨k,x⟩:∃k,k=v.length:=⟨_,rfl⟩
   rw[←x]at o w⊢
   repeat refine aO ?_
   rw[o];refine aR mixed ai (γ:=Nat) (λj=>[(12,iD (dP c n k v j).1),(13,iD (er c n k v j).1),(14,bD (dP c n k v j).2),(15,bD (er c n k v j).2),(16,iD j)]) (λ_=>[]) (λj=>j<=k+1) (λj=>k+1-j) 0 (aj av) (Sc.refl _) (zW _) ?_;intro j hj;by_cases hjk:j<=k
   .have ep:dP c n k v (j+1)=if c (cU n k j) k<dr then(if(dP c n k v j).2=false\/(dP c n k v j).1<fO v k j-c (cU n k j) k then fO v k j-c (cU n k j) k else(dP c n k v j).1,true)else dP c n k v j:=rfl
    have eq:er c n k v (j+1)=if c k (cU n k j)<dr then(if(er c n k v j).2=false\/fO v k j+c k (cU n k j)<(er c n k v j).1 then fO v k j+c k (cU n k j)else(er c n k v j).1,true)else er c n k v j:=rfl
    rw[s]at ep eq;generalize dP c n k v j=P at *;generalize er c n k v j=Q at *;obtain⟨G,sm⟩:=P;obtain⟨hi,ot⟩:=Q;simp only at ep eq⊢;have M:(rO m c)[((k:Nat):Int).toNat]?=some ((List.range m).map λb=>c k b):=T k (by omega);by_cases hjl:j<k
    .have F:cU n k j=j:=by unfold cU;rw[if_pos hjl]
     obtain⟨vv,a⟩:∃y,v[j]?=some y:=⟨_,zD (by omega)⟩
     have X:v[((j:Nat):Int).toNat]?=some vv:=a;have E:fO v k j=vv:=by unfold fO;rw[if_pos hjl,List.getD_eq_getElem?_getD,a];rfl
     rw[F,E]at ep eq;have u:=h.v vv (zG a);have C:(rO m c)[((j:Nat):Int).toNat]?=some ((List.range m).map λb=>c j b):=T j (by omega);have D:((List.range m).map λb=>c j b)[((k:Nat):Int).toNat]?=some (c j k):=ZU c j (by omega);have t:((List.range m).map λb=>c k b)[((j:Nat):Int).toNat]?=some (c k j):=ZU c k (by omega);have V:=f j k (by omega) (by omega);have U:=f k j (by omega) (by omega);by_cases h1:c j k<1099511627776
     .rw[if_pos h1]at ep
      cases sm with
      |false=>
       rw[if_pos (.inl rfl)]at ep;exact cq9
      |true=>
       by_cases h0:G<vv-c j k
       .rw[if_pos (.inr h0)]at ep;exact cq9
       .rw[if_neg (λe=>e.elim (λe=>by cases e) h0)]at ep;have p1:=zM Prod.fst ep;have p2:=zM Prod.snd ep;simp only at p1 p2;by_cases h2:c k j<1099511627776
        .rw[if_pos h2]at eq
         cases ot with
         |false=>
          rw[if_pos (.inl rfl)]at eq;exact Pb
         |true=>
          by_cases h3:vv+c k j<hi
          .rw[if_pos (.inr h3)]at eq;exact Pb
          .rw[if_neg (λe=>e.elim (λe=>by cases e) h3)]at eq;have q1:=zM Prod.fst eq;have q2:=zM Prod.snd eq;simp only at q1 q2
           repeat refine aO ?_
           exact⟨j+1,(aj hH),Sc.refl _,by omega,by omega⟩
        .rw[if_neg h2]at eq;exact Pb
     .rw[if_neg h1]at ep;exact cq9
    .obtain rfl:k=j:=by omega
     have F:cU n k k=n:=by unfold cU;rw[if_neg (by omega)]
     have E:fO v k k=0:=by unfold fO;rw[if_neg (by omega)]
     rw[F,E]at ep eq;have C:(rO m c)[((n:Nat):Int).toNat]?=some ((List.range m).map λb=>c n b):=T n (by omega);have D:((List.range m).map λb=>c n b)[((k:Nat):Int).toNat]?=some (c n k):=ZU c n (by omega);have t:((List.range m).map λb=>c k b)[((n:Nat):Int).toNat]?=some (c k n):=ZU c k (by omega);have V:=f n k (by omega) (by omega);have U:=f k n (by omega) (by omega);by_cases h1:c n k<1099511627776
     .rw[if_pos h1]at ep
      cases sm with
      |false=>
       rw[if_pos (.inl rfl)]at ep;exact Pl
      |true=>
       by_cases h0:G<0-c n k
       .rw[if_pos (.inr h0)]at ep;exact Pl
       .rw[if_neg (λe=>e.elim (λe=>by cases e) h0)]at ep;have p1:=zM Prod.fst ep;have p2:=zM Prod.snd ep;simp only at p1 p2;by_cases h2:c k n<1099511627776
        .rw[if_pos h2]at eq
         cases ot with
         |false=>
          rw[if_pos (.inl rfl)]at eq;exact Pc
         |true=>
          by_cases h3:0+c k n<hi
          .rw[if_pos (.inr h3)]at eq;exact Pc
          .rw[if_neg (λe=>e.elim (λe=>by cases e) h3)]at eq;have q1:=zM Prod.fst eq;have q2:=zM Prod.snd eq;simp only at q1 q2
           repeat refine aO ?_
           exact⟨k+1,(aj hH),Sc.refl _,by omega,by omega⟩
        .rw[if_neg h2]at eq;exact Pc
     .rw[if_neg h1]at ep;exact Pl
   .obtain rfl:j=k+1:=by omega
    repeat refine aO ?_
    exact Rt.pure rfl
end
section
open Go
def cp(n:Nat)(c:bZ)(p:List Int):Nat->List Int
 |0=>[]
 |k+1=>cp n c p k++[(dP c n k (cp n c p k) (k+1)).1+((p.getD k 0).tmod ((er c n k (cp n c p k) (k+1)).1-(dP c n k (cp n c p k) (k+1)).1+1)+((er c n k (cp n c p k) (k+1)).1-(dP c n k (cp n c p k) (k+1)).1+1)).tmod ((er c n k (cp n c p k) (k+1)).1-(dP c n k (cp n c p k) (k+1)).1+1)]
theorem rL{a m:Int}(h:0<m):-m<a.tmod m/\a.tmod m<m:=by
 refine⟨?_,Int.tmod_lt_of_pos a h⟩;have:=Int.tmod_lt_of_pos (-a) h;rw[Int.neg_tmod]at this;omega
structure bD5(n:Nat)(B:Int)(c:bZ)(k:Nat)(v:List Int):Prop where
 l:v.length=k
 kp:oP c n k v
 v:∀x∈v,-B<=x/\x<=B
theorem qF{n:Nat}{B:Int}{c:bZ}(h:rz n B c)(p:List Int):∀k,k<=n->bD5 n B c k (cp n c p k)
 |0,_=>⟨rfl,λi j u t w=>by
  have f:cU n 0 i=n:=by unfold cU;rw[if_neg (by omega)]
  have d:cU n 0 j=n:=by unfold cU;rw[if_neg (by omega)]
  have e:∀q,fO (cp n c p 0) 0 q=0:=λq=>by unfold fO;rw[if_neg (by omega)]
  rw[f,d,e,e];have:=h.diag n (by omega);omega,λx hx=>by simp[cp]at hx⟩
 |k+1,s=>by
  have b:=qF h p k (by omega);have o:=kK h (by omega:k<n) b.kp;rw[cp];generalize cp n c p k=v at *;obtain⟨_,_,r,l,g⟩:=o;have m:0<(er c n k v (k+1)).1-(dP c n k v (k+1)).1+1:=by omega
  have t1:=rL (a:=p.getD k 0) m;have t2:=Int.tmod_lt_of_pos ((p.getD k 0).tmod ((er c n k v (k+1)).1-(dP c n k v (k+1)).1+1)+((er c n k v (k+1)).1-(dP c n k v (k+1)).1+1)) m;have t3:=Int.tmod_nonneg (a:=(p.getD k 0).tmod ((er c n k v (k+1)).1-(dP c n k v (k+1)).1+1)+((er c n k v (k+1)).1-(dP c n k v (k+1)).1+1)) ((er c n k v (k+1)).1-(dP c n k v (k+1)).1+1) (by omega);refine⟨by rw[zI,b.l];rfl,wa h (by omega) b.l b.kp (by omega) (by omega),λx hx=>?_⟩;rcases zO.1 hx with hx|hx
  .exact b.v x hx
  .rw[zN]at hx;subst hx;omega
theorem NW{n:Nat}{B:Int}{c:bZ}(h:rz n B c)(f:0<=B):∀a b,a<n+1->b<n+1 -> -1099511627776<=c a b/\c a b<=1099511627776:=λa b e d=>by
 have i:=h.cls.top a b e d;have g:=h.small;have r:dr=1099511627776:=rfl;by_cases hc:c a b<dr
 .have:=h.cls.bd a b e d hc;omega
 .omega
theorem mE{A B:Prop}(k:B)(h:ar B->A:=by intro q7;(first|refine bO ?_|refine aA ?_|(refine' ah ?hc ?_;(case hc=>first|exact HC|exact HR)));exact q7.1):A:=h ⟨k⟩
theorem BS(n:Nat)(i:List i6)(h:rC n i)(S:eQ (n+1) (cH n i)=false)(B:Int)(J:0<=B)(R:rz n B (cH n i))(b:List Int)(K:b.length=n)(M:∀p∈b,0<=p/\p<=1099511627776):APure prog 238 [iD n,mA i,bj b] (.tup [bj (cp n (cH n i) b n),iD 0]):=by
 have P:=h.n;have HC:=aO1 n i h;rw[S,if_neg (by decide)]at HC;have l:=qF R b;have C:=NW R J;have x:=R.small;have z:dr=1099511627776:=rfl;rw[z]at x;generalize cH n i=c at *;refine ap func238 ntmps238 λZ=>?_
 repeat refine mE ?_
 refine aR mixed ai (γ:=Nat×Value×af) (λg=>[(11,iD g.1),(10,.v g.2.1)]) (λg=>g.2.2) (λg=>g.1<=n/\RI (cp n c b g.1) g.2.1 g.2.2) (λg=>n-g.1) (0,.slice none 0 0,[]) (aj av) (Sc.refl _) ⟨zW _,ae.nil _ _⟩ ?_;rintro⟨k,v,s⟩ ⟨I,r⟩;simp only at I r⊢;by_cases hkn:k<n
 .have f:=l k I;have HR:=u4 n B c (cp n c b k) ⟨P,R,J,C,by rw[f.l];exact hkn,by rw[f.l];exact f.kp,f.v⟩;rw[f.l]at HR;have O:=kK R hkn f.kp;obtain⟨_,_,Y,X,V⟩:=O;obtain⟨pk,e⟩:∃y,b[k]?=some y:=⟨_,zD (by omega)⟩
  have L:b[((k:Nat):Int).toNat]?=some pk:=e;have F:=M pk (zG e);have u:=l (k+1) hkn;have q:cp n c b (k+1)=cp n c b k++[(dP c n k (cp n c b k) (k+1)).1+(pk.tmod ((er c n k (cp n c b k) (k+1)).1-(dP c n k (cp n c b k) (k+1)).1+1)+((er c n k (cp n c b k) (k+1)).1-(dP c n k (cp n c b k) (k+1)).1+1)).tmod ((er c n k (cp n c b k) (k+1)).1-(dP c n k (cp n c b k) (k+1)).1+1)]:=by
   rw[cp,List.getD_eq_getElem?_getD,e];rfl
  have Q:=f.l;have t:=u.l;obtain⟨D,j⟩:∃v,v=cp n c b (k+1):=⟨_,rfl⟩
  rw[←j]at q t;clear u;generalize cp n c b k=E at *;generalize(dP c n k E (k+1)).1=o at *;generalize(er c n k E (k+1)).1=hi at *;have G:0<hi-o+1:=by omega
  have t1:=rL (a:=pk) G;have t2:=Int.tmod_lt_of_pos (pk.tmod (hi-o+1)+(hi-o+1)) G;have t3:=Int.tmod_nonneg (a:=pk.tmod (hi-o+1)+(hi-o+1)) (hi-o+1) (by omega)
  repeat refine mE ?_
  refine CE.pk (gT.peek (.cons (Pk.same _) (.cons (Pk.rowLe r (dO.refl _) (show s.Perm (s++[]) by simp)) .nil)) HR rfl) ?_
  repeat refine mE ?_
  refine Ap.go rfl rfl rfl rfl r (bS _) rfl (zs:=D.map λn=>[iD n]) (by rw[q,yB];rfl) (by rw[zL];omega) (by rw[zL];omega) (λw=>w) da (λU T w r=>?_)
  repeat refine mE ?_
  exact⟨(k+1,.slice U (D.map λn=>[iD n]).length T,w),(aj av),Sc.refl _,⟨by simp only;omega,(by show RI (cp n c b (k+1)) _ _;rw[←j];exact r)⟩,by simp only;omega⟩
 .obtain rfl:k=n:=by omega
  repeat refine mE ?_
  exact Rt.vs (Vs.tup (.cons (Vs.row r (bS _)) (.cons (Vs.refl _ _) (.nil _))))
end
end Go.Proofs.YtilnpcolgcmofaaGreatDoor
