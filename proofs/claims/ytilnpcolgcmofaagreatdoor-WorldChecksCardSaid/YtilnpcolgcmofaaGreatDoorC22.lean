/- A part of the proof. -/
import Derived.Test.YtilnpcolgcmofaaGreatDoorC21
set_option maxRecDepth 100000
set_option maxHeartbeats 20000000
set_option linter.all false
namespace Go.Proofs.YtilnpcolgcmofaaGreatDoor
open Tryz
section
open Go
def fh(m:Nat)(f:Nat->Int):List D:=(List.range m).map λk=>iD (f k)
abbrev NG(m:Nat)(B:Nat->Nat)(c:cm)(i:Nat):Nat×ax:=(B i,.cells 3 (fh m (c i)))
def jt(m n:Nat)(B:Nat->Nat)(c:cm):ae:=(List.range n).map (NG m B c)
def oV(m n:Nat)(B:Nat->Nat)(c:cm)(i:Nat):ae:=((List.range n).filter λq=>!(q==i)).map (NG m B c)
abbrev ji(b m:Nat):Value:=.slice (some ⟨b,0,none⟩) m m
def jR(m n:Nat)(B:Nat->Nat):List D:=(List.range m).map λi=>if i<n then .v (ji (B i) m)else .v (.slice none 0 0)
abbrev ov(b m n:Nat)(B:Nat->Nat):Nat×ax:=(b,.cells 22 (jR m n B))
def Sh(m:Nat)(f:Nat->Int):(fh m f).length=m:=by simp[fh]
def bb3(m n:Nat)(B:Nat->Nat):(jR m n B).length=m:=by simp[jR]
variable{m k:Nat}
def Q8(f:Nat->Int)(h:k<m):(fh m f)[k]?=some (iD (f k)):=by unfold fh;rw[qA,xV h];rfl
variable{i:Nat}
def R7{n:Nat}(B:Nat->Nat)(h:i<n)(a:n<=m):(jR m n B)[i]?=some (.v (ji (B i) m)):=by unfold jR;rw[qA,xV (by omega)];simp[h]
def lI{f g:Nat->Int}{v:Int}(h:k<m)(a:g k=v)(o:∀q,q≠k->g q=f q):(fh m f).set k (iD v)=fh m g:=by
 refine xY λq=>?_;rw[xP];by_cases hq:q<m
 .rw[Q8 g hq,Sh];by_cases e:k=q
  .subst e;rw[if_pos rfl,if_pos h,a]
  .rw[if_neg e,Q8 f hq,o q (Ne.symm e)]
 .rw[yY.2 (by rw[Sh];omega),if_neg (by omega),yY.2 (by rw[Sh];omega)]
variable{b:Nat}{B:Nat->Nat}
def I5{n:Nat}(h:n<m):(jR m n B).set n (.v (ji b m))=jR m (n+1) (λq=>if q=n then b else B q):=by
 refine xY λq=>?_;rw[xP];by_cases hq:q<m
 .have a:∀(n:Nat)(B:Nat->Nat),(jR m n B)[q]?=some (if q<n then .v (ji (B q) m)else .v (.slice none 0 0)):=λn B=>by unfold jR;rw[qA,xV hq];rfl
  rw[a,a,bb3];by_cases e:n=q
  .subst e;rw[if_pos rfl,if_pos h,if_pos (by omega),if_pos rfl]
  .rw[if_neg e];by_cases h2:q<n
   .rw[if_pos h2,if_pos (by omega),if_neg (Ne.symm e)]
   .rw[if_neg h2,if_neg (by omega)]
 .rw[yY.2 (by rw[bb3];omega),if_neg (by omega),yY.2 (by rw[bb3];omega)]
def aU5:∀{n i:Nat},i<n->(List.range n).Perm (i::(List.range n).filter λq=>!(q==i))
 |0,_,h=>by omega
 |n+1,i,h=>by
  rw[List.range_succ,vZ];by_cases e:i=n
  .subst e;have c:((List.range i).filter λq=>!(q==i))=List.range i:=List.filter_eq_self.2 λq b=>by
    have:=xT.1 b;simp;omega
   have a:(([i]:List Nat).filter λq=>!(q==i))=[]:=by simp
   rw[c,a,zZ];exact yT
  .have a:(([n]:List Nat).filter λq=>!(q==i))=[n]:=by simp;omega
   rw[a];exact(aU5 (by omega)).append_right [n]
def oU{n:Nat}(B:Nat->Nat)(c:cm)(h:i<n):(jt m n B c).Perm (NG m B c i::oV m n B c i):=(aU5 h).map _
variable{c c':cm}
def rL{n:Nat}{B':Nat->Nat}(f:∀q,q<n->q≠i->B q=B' q)(e:∀q,q<n->q≠i->c q=c' q):oV m n B c i=oV m n B' c' i:=by
 unfold oV;refine List.map_congr_left λq d=>?_;have b:=vP.1 d;have a:=xT.1 b.1;have h:q≠i:=by simpa using b.2
 show(B q,ax.cells 3 (fh m (c q)))=_;rw[f q a h,e q a h]
def bd2{n:Nat}(B:Nat->Nat)(c:cm)(h:i<n):NG m B c i∈jt m n B c:=vX (xT.2 h)
def x3{n:Nat}{B':Nat->Nat}(d:∀q,q<n->B q=B' q)(b:∀q,q<n->c q=c' q):jt m n B c=jt m n B' c':=by
 unfold jt;refine List.map_congr_left λq a=>?_;have h:=xT.1 a
 show(B q,ax.cells 3 (fh m (c q)))=_;rw[d q h,b q h]
def EI(m n:Nat)(B:Nat->Nat)(c:cm):jt m (n+1) B c=jt m n B c++[NG m B c n]:=by
 unfold jt;rw[List.range_succ,yB];rfl
def sT(m:Nat)(c:cm):List (List Int):=(List.range m).map λa=>(List.range m).map λb=>c a b
def OB(v:m<=100)(d:Nat)(B:Nat->Nat)(c:cm):uX (sT m c) (ji d m) (ov d m m B::jt m m B c):=by
 have s:ab 22 1 (((List.range m).map λi=>ji (B i) m).map λu=>[D.v u]) (ji d m) [ov d m m B]:=by
  have h:=Rm (e:=22) (k:=1) (xs:=((List.range m).map λi=>ji (B i) m).map λu=>[D.v u]) d (λy j=>by obtain⟨_,_,rfl⟩:=xM.1 j;rfl) (by simp;unfold maxLen;omega);have o:(((List.range m).map λi=>ji (B i) m).map λu=>[D.v u]).flatten=jR m m B:=by
   rw[rJ (f:=λu=>D.v u),vA];unfold jR;refine List.map_congr_left λq p=>?_;rw[if_pos (xT.1 p)];rfl
  rw[o,zL,zL,vU]at h;exact h
 have r:∀l:List Nat,cA RI (l.map λa=>(List.range m).map λb=>c a b) (l.map λi=>ji (B i) m) (l.map λi=>[NG m B c i]):=by
  intro l
  induction l with
  |nil=>exact .nil
  |cons a l g=>
   refine .cons ?_ g;have h:=Rm (e:=3) (k:=1) (xs:=((List.range m).map λb=>c a b).map λn=>[iD n]) (B a) (λy j=>by obtain⟨_,_,rfl⟩:=xM.1 j;rfl) (by simp;unfold maxLen;omega);have o:(((List.range m).map λb=>c a b).map λn=>[iD n]).flatten=fh m (c a):=by
    rw[rJ (f:=λn=>iD n),vA];rfl
   rw[o,zL,zL,vU]at h;exact h
 refine⟨_,_,_,s,r _,?_⟩;have t:((List.range m).map λi=>[NG m B c i]).flatten=jt m m B c:=by
  unfold jt
  induction(List.range m)with
  |nil=>rfl
  |cons a l g=>rw[List.map_cons,List.map_cons,List.flatten_cons,g];rfl
 rw[t];exact zH _
def lD:cm:=λa b=>if a=b then 0 else dI
def lG(c:cm)(a b:Nat)(v:Int):cm:=λx y=>if x=a/\y=b then v else c x y
def cC(n:Nat)(s:List jH):Nat->cm
 |0=>lD
 |i+1=>match s[i]? with
  |some d=>lG (cC n s i) (cx n d.a) (cx n d.b) (if d.n<cC n s i (cx n d.a) (cx n d.b)then d.n else cC n s i (cx n d.a) (cx n d.b))
  |none=>cC n s i
def bt6(m:Nat)(B:Nat->Nat):jR m 0 B=List.replicate m (.v (.slice none 0 0)):=by
 unfold jR;refine List.eq_replicate_iff.2 ⟨by simp,λb h=>?_⟩;obtain⟨q,_,rfl⟩:=xM.1 h;rw[if_neg (by omega)]
def bs9(m:Nat):fh m (λ_=>0)=List.replicate m (iD 0):=by
 unfold fh;exact List.eq_replicate_iff.2 ⟨by simp,λb h=>by obtain⟨q,_,rfl⟩:=xM.1 h;rfl⟩
def bf9{f g:Nat->Int}(h:∀q,q<m->f q=g q):fh m f=fh m g:=by
 unfold fh;exact List.map_congr_left λq a=>by rw[h q (xT.1 a)]
def ul{n:Nat}(h:i<n)(d:∀q,q≠i->c' q=c q):((B i,ax.cells 3 (fh m (c' i)))::ov b m k B::oV m n B c i).Perm (ov b m k B::jt m n B c'):=by
 refine(List.Perm.swap _ _ _).trans (List.Perm.cons _ ?_);rw[rL (B':=B) (c':=c') (λ_ _ _=>rfl) (λq _ a=>(d q a).symm)];exact(oU B c' h).symm
def um{n:Nat}(h:i<n):(ov b m k B::jt m n B c).Perm ((B i,ax.cells 3 (fh m (c i)))::ov b m k B::oV m n B c i):=
 ((oU B c h).cons _).trans (List.Perm.swap _ _ _)
variable{B A:Prop}
def nM(k:B)(h:ar B->A:=by intro q7;(first|refine bc ?_|refine aE ?_|(refine' aj ?hc ?_;(case hc=>first|exact HA|exact HB)));exact q7.1):A:=h ⟨k⟩
def br3(k:B)(h:ar B->A:=by intro q7;(first|refine Ht ?_|refine sN ?_|((with_reducible refine' Ld.cellm (tb:=22) (cs:=jR m (i+1) B') ?h1 ?h2 ?_);(case h1=>exact List.Mem.head _);(case h2=>(rw[aR];exact hOi)))|refine SG ?_);exact q7.1):A:=h ⟨k⟩
def Ik(k:B)(h:ar B->A:=by intro q7;(first|refine br3 ?_|refine aE ?_|(refine' aj ?hc ?_;(case hc=>first|exact HA|exact HB)));exact q7.1):A:=h ⟨k⟩
def br2(k:B)(h:ar B->A:=by intro q7;(first|refine Ht ?_|refine sN ?_|((with_reducible refine' Ld.cellm (tb:=22) (cs:=jR i i B) ?h1 ?h2 ?_);(case h1=>exact List.Mem.head _);(case h2=>(rw[aR];exact hOa)))|((with_reducible refine' Ld.cellm (tb:=3) (cs:=fh i (cC n ds q a)) ?h1 ?h2 ?_);(case h1=>exact List.Mem.tail _ hMa);(case h2=>(rw[aR];exact hR)))|refine SG ?_);exact q7.1):A:=h ⟨k⟩
def OM(k:B)(h:ar B->A:=by intro q7;(first|refine br2 ?_|refine aE ?_|(refine' aj ?hc ?_;(case hc=>first|exact HA|exact HB)));exact q7.1):A:=h ⟨k⟩
def w5(n:Nat)(ds:List jH)(h:sG n ds):az prog 147 [iD n,nL ds] [] (λd σ=>∃F B,d= .v (ji F (n+1))/\σ=ov F (n+1) (n+1) B::jt (n+1) (n+1) B (cC n ds ds.length)):=by
 have P:=h.n;have J:=h.l;obtain⟨m,r⟩:∃m,m=n+1:=⟨_,rfl⟩
 rw[←r];refine dB func147 ntmps147 λS=>?_
 repeat' first|refine nM ?_|intro b;conv=>whnf
 refine Mk.go m rfl rfl rfl rfl rfl (by rw[r]) (by omega) (by omega) (λo=>?_)
 repeat' first|refine nM ?_|intro b;conv=>whnf
 refine aO mixed ai (γ:=Nat×(Nat->Nat)) (λg=>[(6,iD g.1)]) (λg=>ov o m g.1 g.2::jt m g.1 g.2 lD) (λg=>g.1<=m) (λg=>m-g.1) (0,λ_=>0) (ah av) (Sc.perm (by show List.Perm _ [(o,ax.cells 22 (jR m 0 λ_=>0))];rw[bt6];exact zH _)) (zW _) ?_;rintro⟨i,B⟩ hi;simp only at hi⊢;by_cases him:i<m
 .have R:=R7 (m:=m) (n:=i+1) (i:=i)
  repeat' first|refine nM ?_|intro b;conv=>whnf
  refine Mk.go m rfl rfl rfl rfl rfl (by rw[r]) (by omega) (by omega) (λj=>?_)
  repeat' first|refine nM ?_|intro b;conv=>whnf
  refine Sv.cellm (tb:=22) (cs:=jR m i B) (cs':=jR m (i+1) (λq=>if q=i then j else B q)) (τ:=(j,.cells 3 (fh m (λ_=>0)))::jt m i B lD) (by rw[bs9];exact List.Perm.swap _ _ _) (by rw[bb3,aR];exact him) rfl (by rw[aR];exact I5 him) ?_
  repeat' first|refine nM ?_|intro b;conv=>whnf
  generalize E:(λq=>if q=i then j else B q)=B';have u:B' i=j:=by rw[←E];simp
  have D:∀q,q<i->B' q=B q:=λq l=>by rw[←E];simp;omega
  have hOi:=R7 (m:=m) (n:=i+1) (i:=i) B' (by omega) (by omega);rw[u]at hOi;refine aO mixed ai (γ:=Nat) (λk=>[(7,iD k)]) (λk=>ov o m (i+1) B'::(j,.cells 3 (fh m (λq=>if q<k then lD i q else 0)))::jt m i B lD) (λk=>k<=m) (λk=>m-k) 0 (ah av) (Sc.refl _) (zW _) ?_;intro k Q;by_cases hkm:k<m
  .by_cases s:i=k
   .subst s;have e:fh m (λq=>if q<i+1 then lD i q else 0)=fh m (λq=>if q<i then lD i q else 0):=bf9 λq l=>by
     by_cases L:q=i
     .subst L;simp[lD]
     .by_cases e2:q<i
      .rw[if_pos e2,if_pos (by omega)]
      .rw[if_neg e2,if_neg (by omega)]
    repeat' first|refine nM ?_|intro b;conv=>whnf
    exact⟨i+1,(ah av),(by rw[e];exact Sc.refl _),by omega,by omega⟩
   .skip
    repeat' first|refine Ik ?_|intro b;conv=>whnf
    refine Sv.cellm (tb:=3) (cs:=fh m (λq=>if q<k then lD i q else 0)) (cs':=fh m (λq=>if q<k+1 then lD i q else 0)) (τ:=ov o m (i+1) B'::jt m i B lD) (List.Perm.swap _ _ _) (by rw[Sh,aR];exact hkm) rfl (by
     rw[aR];refine lI hkm ?_ λq l=>?_
     .rw[if_pos (by omega)];unfold lD;rw[if_neg s];rfl
     .by_cases e2:q<k
      .rw[if_pos e2,if_pos (by omega)]
      .rw[if_neg e2,if_neg (by omega)]) ?_
    repeat' first|refine Ik ?_|intro b;conv=>whnf
    exact⟨k+1,(ah av),Sc.perm (List.Perm.swap _ _ _),by omega,by omega⟩
  .obtain rfl:k=m:=by omega
   have e:fh k (λq=>if q<k then lD i q else 0)=fh k (lD i):=bf9 λq l=>by rw[if_pos l]
   repeat' first|refine Ik ?_|intro b;conv=>whnf
   refine⟨(i+1,B'),(ah av),Sc.perm ?_,by simp only;omega,by simp only;omega⟩;rw[e,EI,x3 (B':=B) (c':=lD) D (λ_ _=>rfl)];refine List.Perm.cons _ ?_;have K:NG k B' lD i=(j,ax.cells 3 (fh k (lD i))):=by show(B' i,_)=_;rw[u]
   rw[K];exact(List.perm_append_singleton _ _).symm
 .obtain rfl:i=m:=by omega
  repeat' first|refine Ik ?_|intro b;conv=>whnf
  refine aO mixed ai (γ:=Nat) (λq=>[(8,iD q)]) (λq=>ov o i i B::jt i i B (cC n ds q)) (λq=>q<=ds.length) (λq=>ds.length-q) 0 (ah av) (Sc.refl _) (zW _) ?_;intro q l;by_cases hql:q<ds.length
  .obtain⟨y,f⟩:∃y,ds[q]?=some y:=⟨_,zD hql⟩
   have hy:ds[((q:Nat):Int).toNat]?=some y:=f;obtain⟨I,G,O,M⟩:=h.v y (zG f);have HA:=tH n y.a;have HB:=tH n y.b;have x:cx n y.a<i:=by rw[r];exact tB I
   have hb:cx n y.b<i:=by rw[r];exact tB G
   have t:cC n ds (q+1)=lG (cC n ds q) (cx n y.a) (cx n y.b) (if y.n<cC n ds q (cx n y.a) (cx n y.b)then y.n else cC n ds q (cx n y.a) (cx n y.b)):=by rw[cC,f]
   generalize cx n y.a=a at *;generalize cx n y.b=b2 at *;have hOa:=R7 (m:=i) (n:=i) (i:=a) B x (zT _);have hR:=Q8 (cC n ds q a) hb;have hMa:=bd2 (m:=i) B (cC n ds q) x
   repeat' first|refine OM ?_|intro b;conv=>whnf
   refine Sv.cellm (tb:=3) (cs:=fh i (cC n ds q a)) (cs':=fh i (cC n ds (q+1) a)) (τ:=ov o i i B::oV i i B (cC n ds q) a) (um x) (by rw[Sh,aR];exact hb) rfl (by
    rw[aR];refine lI hb ?_ λz C=>?_
    .rw[t];unfold lG;rw[if_pos ⟨rfl,rfl⟩]
    .rw[t];unfold lG;rw[if_neg (λe=>C e.2)]) ?_
   repeat' first|refine OM ?_|intro b;conv=>whnf
   refine⟨q+1,(ah av),Sc.perm (ul x λz C=>?_),by omega,by omega⟩;rw[t];funext w;unfold lG;rw[if_neg (λe=>C e.1)]
  .obtain rfl:q=ds.length:=by omega
   repeat' first|refine OM ?_|intro b;conv=>whnf
   exact Rt.same ⟨_,_,rfl,rfl⟩
end
section
open Go
def sV{n:Nat}{s:List jH}(h:sG n s):∀i,∀a b,-2097152<=cC n s i a b/\cC n s i a b<=1099511627776
 |0,a,b=>by rw[cC];unfold lD dI;split<;>omega
 |i+1,a,b=>by
  have c:=sV h i;rw[cC]
  cases e:s[i]? with
  |none=>exact c a b
  |some d=>
   have v:=(h.v d (zG e)).2.2.2;simp only;unfold lG;split
   .have:=c (cx n d.a) (cx n d.b);split<;>omega
   .exact c a b
def cO(n:Nat)(d:List jH):cm:=fx (n+1) (n+1) (cC n d d.length)
def fm(m:Nat)(c:cm):Bool:=(List.range m).any λq=>decide (c q q<0)
def Hs{j i k:Nat}{c:cm}{z:Nat}(h:z≠i):mU j i k c z=c z:=by
 funext w;unfold mU;rw[if_neg (λe=>h e.1)]
def bt4{j:Nat}(h:j<=10):8*((8:Int) ^ j*2097152)<=18014398509481984:=by
 have:j=0\/j=1\/j=2\/j=3\/j=4\/j=5\/j=6\/j=7\/j=8\/j=9\/j=10:=by omega
 rcases this with rfl|rfl|rfl|rfl|rfl|rfl|rfl|rfl|rfl|rfl|rfl<;>decide
variable{B A:Prop}
def br1(k:B)(h:ar B->A:=by intro q7;(first|refine Ht ?_|refine sN ?_|fail|refine AP ?_);exact q7.1):A:=h ⟨k⟩
def Ij(k:B)(h:ar B->A:=by intro q7;(first|refine br1 ?_|refine aE ?_|(refine' aj ?hc ?_;(case hc=>exact HV)));exact q7.1):A:=h ⟨k⟩
def Uq(k:B)(h:ar B->A:=by intro q7;(first|refine Ht ?_|refine sN ?_|((with_reducible refine' Ld.cellm (tb:=22) (cs:=jR m m B) ?h1 ?h2 ?_);(case h1=>exact List.Mem.head _);(case h2=>(rw[aR];exact hOi)))|((with_reducible refine' Ld.cellm (tb:=22) (cs:=jR m m B) ?h1 ?h2 ?_);(case h1=>exact List.Mem.head _);(case h2=>(rw[aR];exact hOj)))|((with_reducible refine' Ld.cellm (tb:=3) (cs:=fh m (c i)) ?h1 ?h2 ?_);(case h1=>exact List.Mem.tail _ hMi);(case h2=>(rw[aR];exact hRij)))|((with_reducible refine' Ld.cellm (tb:=3) (cs:=fh m (c j)) ?h1 ?h2 ?_);(case h1=>exact List.Mem.tail _ hMj);(case h2=>(rw[aR];exact hRjk)))|((with_reducible refine' Ld.cellm (tb:=3) (cs:=fh m (c i)) ?h1 ?h2 ?_);(case h1=>exact List.Mem.tail _ hMi);(case h2=>(rw[aR];exact hRik)))|refine SG ?_);exact q7.1):A:=h ⟨k⟩
def kA(k:B)(h:ar B->A:=by intro q7;(first|refine Uq ?_|refine aE ?_|(refine' aj ?hc ?_;(case hc=>exact HV)));exact q7.1):A:=h ⟨k⟩
def Up(k:B)(h:ar B->A:=by intro q7;(first|refine Ht ?_|refine sN ?_|((with_reducible refine' Ld.cellm (tb:=22) (cs:=jR j j B) ?h1 ?h2 ?_);(case h1=>exact List.Mem.head _);(case h2=>(rw[aR];exact hOi)))|((with_reducible refine' Ld.cellm (tb:=3) (cs:=fh j (c i)) ?h1 ?h2 ?_);(case h1=>exact List.Mem.tail _ hMi);(case h2=>(rw[aR];exact hRii)))|refine SG ?_);exact q7.1):A:=h ⟨k⟩
def BG(k:B)(h:ar B->A:=by intro q7;(first|refine Up ?_|refine aE ?_|(refine' aj ?hc ?_;(case hc=>exact HV)));exact q7.1):A:=h ⟨k⟩
def MX{p:Prop}(h:p:=by
 repeat refine kA ?_
 exact⟨k+1,(ah av),(by rw[hst,e];exact Sc.refl _),by omega,by omega⟩):p:=h
def aQ4(n:Nat)(s:List jH)(h:sG n s):APure prog 105 [iD n,nL s] (if fm (n+1) (cO n s)then .tup [gc [],iD 14]else .tup [gc (sT (n+1) (cO n s)),iD 0]):=by
 have Y:=h.n;have HV:=wU n s h;have T:=w5 n s h;have D:=sV h s.length;unfold cO;generalize cC n s s.length=g at *;obtain⟨m,Q⟩:∃m,m=n+1:=⟨_,rfl⟩
 rw[←Q]at T⊢;have r:dI=1099511627776:=rfl;have E:zt m g 2097152:=λa _ b _=>(D a b).1;have v:mO g:=λa b=>(D a b).2;refine APure.of_call ?_;refine dB func105 ntmps105 λZ=>?_
 repeat refine Ij ?_
 refine bu T (bR _) (λM=>M) dF ?_;rintro _ _ ⟨t,B,rfl,rfl⟩
 repeat refine Ij ?_
 refine aO mixed ai (γ:=Nat) (λj=>[(8,iD j)]) (λj=>ov t m m B::jt m m B (fx m j g)) (λj=>j<=m) (λj=>m-j) 0 (ah av) (Sc.refl _) (zW _) ?_;intro j hj;by_cases hjm:j<m
 .have K:=NX E (by decide) j hj;have J:(0:Int)<=8 ^ j*2097152:=Int.mul_nonneg (Int.le_of_lt (Int.pow_pos (by decide))) (by decide);have P:=bt4 (j:=j) (by omega);have F:=pA (m:=m) v j
  repeat refine Ij ?_
  refine aO mixed ai (γ:=Nat) (λi=>[(9,iD i)]) (λi=>ov t m m B::jt m m B (gO m j i (fx m j g))) (λi=>i<=m) (λi=>m-i) 0 (ah av) (Sc.refl _) (zW _) ?_;intro i hi;by_cases him:i<m
  .have G:=lR (m:=m) (j:=j) F i
   repeat refine Ij ?_
   refine aO mixed ai (γ:=Nat) (λk=>[(10,iD k)]) (λk=>ov t m m B::jt m m B (bO j i k (gO m j i (fx m j g)))) (λk=>k<=m) (λk=>m-k) 0 (ah av) (Sc.refl _) (zW _) ?_;intro k R;by_cases hkm:k<m
   .have f:=UD (k:=k) hjm him R K J;have o:=aZ1 (j:=j) (i:=i) G k;have hst:bO j i (k+1) (gO m j i (fx m j g))=mU j i k (bO j i k (gO m j i (fx m j g))):=rfl;generalize bO j i k (gO m j i (fx m j g))=c at *;have V:=f i him j hjm;have U:=f j hjm k hkm;have S:=f i him k hkm;have t1:=o i j;have t2:=o j k;have t3:=o i k;rw[r]at t1 t2 t3;have hOi:=R7 (m:=m) (n:=m) (i:=i) B him (zT _);have hOj:=R7 (m:=m) (n:=m) (i:=j) B hjm (zT _);have hMi:=bd2 (m:=m) B c him;have hMj:=bd2 (m:=m) B c hjm;have hRij:=Q8 (c i) hjm;have hRjk:=Q8 (c j) hkm;have hRik:=Q8 (c i) hkm;by_cases h1:c i j<1099511627776
    .by_cases h2:c j k<1099511627776
     .repeat refine kA ?_
      refine Sv.cellm (tb:=3) (cs:=fh m (c i)) (cs':=fh m (mU j i k c i)) (τ:=ov t m m B::oV m m B c i) (um him) (by rw[Sh,aR];exact hkm) rfl (by
       rw[aR];refine lI hkm ?_ λz l=>?_
       .unfold mU;rw[if_pos ⟨rfl,rfl,by rw[r];exact h1,by rw[r];exact h2⟩,ug]
       .unfold mU;rw[if_neg (λe=>l e.2.1)]) ?_
      repeat refine kA ?_
      exact⟨k+1,(ah av),Sc.perm (by rw[hst];exact ul him λz l=>Hs l),by omega,by omega⟩
     .have e:mU j i k c=c:=by
       funext x y;unfold mU;rw[if_neg (λe=>h2 (by rw[←r];exact e.2.2.2))]
      exact MX
    .have e:mU j i k c=c:=by
      funext x y;unfold mU;rw[if_neg (λe=>h1 (by rw[←r];exact e.2.2.1))]
     exact MX
   .obtain rfl:k=m:=by omega
    repeat refine kA ?_
    exact⟨i+1,(ah av),Sc.refl _,by omega,by omega⟩
  .obtain rfl:i=m:=by omega
   repeat refine kA ?_
   exact⟨j+1,(ah av),Sc.refl _,by omega,by omega⟩
 .obtain rfl:j=m:=by omega
  generalize fx j j g=c at *
  repeat refine kA ?_
  refine aO mixed ai (γ:=Nat) (λi=>[(11,iD i)]) (λi=>ov t j j B::jt j j B c) (λi=>i<=j/\∀q,q<i->0<=c q q) (λi=>j-i) 0 (ah av) (Sc.refl _) ⟨zW _,λq I=>by omega⟩ ?_;rintro i ⟨hi,I⟩;by_cases hij:i<j
  .have hOi:=R7 (m:=j) (n:=j) (i:=i) B hij (zT _);have hMi:=bd2 (m:=j) B c hij;have hRii:=Q8 (c i) hij;by_cases hneg:c i i<0
   .have L:fm j c=true:=by
     unfold fm;rw[wC];exact⟨i,xT.2 hij,yJ hneg⟩
    rw[L,if_pos rfl]
    repeat refine BG ?_
    exact Rt.vs (Vs.vd (τ:=[]) ⟨_,xA (zZ _).symm⟩ (Vd.tup (.cons (λw X u hs O=>gC _ w _ u (Vd.same (τ:=[]) (λz l=>by cases l) _ w X u hs O)) (.cons (Vd.same (λz l=>by cases l) _) .nil))))
   .repeat refine BG ?_
    refine⟨i+1,(ah av),Sc.refl _,⟨by omega,λq C=>?_⟩,by omega⟩;by_cases e:q=i
    .subst e;omega
    .exact I q (by omega)
  .obtain rfl:i=j:=by omega
   have L:fm i c=false:=by
    unfold fm;rw[List.any_eq_false];intro q C;have:=I q (xT.1 C);simp;omega
   rw[L,if_neg (by decide)]
   repeat refine BG ?_
   exact Rt.vs (Vs.tup (.cons (Vs.frz Ep (OB (by omega) t B c) (bR _)) (.cons (Vs.refl _ _) (.nil _))))
end
section
open Go
def OC{m i:Nat}(c:cm)(h:i<m):(sT m c)[i]?=some ((List.range m).map λb=>c i b):=by unfold sT;rw[qA,xV h];rfl
def aO7{m k:Nat}(c:cm)(i:Nat)(h:k<m):((List.range m).map λb=>c i b)[k]?=some (c i k):=by rw[qA,xV h];rfl
structure bE0(N:Nat)(M:Int)(c:cm)(vs:List Int):Prop where
 n:N<=10
 room:sC N M c
 b:0<=M
 e:∀x y,x<N+1->y<N+1 -> -1099511627776<=c x y/\c x y<=1099511627776
 k:vs.length<N
 kp:pP c N vs.length vs
 v:∀x∈vs,-M<=x/\x<=M
variable{p:Prop}
def iA(h:p:=by repeat(first|exact qa.nil|refine qa.cons rfl ?_|(refine qa.cons (zM (λn=>some (iD n)) ?h) ?_;(case h=>(first|omega|((try simp only[zL,zR,zI,List.length_cons,List.length_nil,zY,Nat.reduceAdd]);omega))))|(refine qa.cons (zM (λb=>some (bD b)) ?h) ?_;(case h=>(first|assumption|exact Eq.symm (by assumption)))))):p:=h
def Qq(h:p:=by
 have p1:=zM Prod.fst ep;have p2:=zM Prod.snd ep;simp only at p1 p2;by_cases h2:c k j<1099511627776
 .rw[if_pos h2]at eq
  cases ot with
  |false=>
   rw[if_pos (.inl rfl)]at eq;have q1:=zM Prod.fst eq;have q2:=zM Prod.snd eq;simp only at q1 q2
   repeat refine au ?_
   exact⟨j+1,(ah iA),Sc.refl _,by omega,by omega⟩
  |true=>
   by_cases h3:vv+c k j<hi
   .rw[if_pos (.inr h3)]at eq;have q1:=zM Prod.fst eq;have q2:=zM Prod.snd eq;simp only at q1 q2
    repeat refine au ?_
    exact⟨j+1,(ah iA),Sc.refl _,by omega,by omega⟩
   .rw[if_neg (λe=>e.elim (λe=>by cases e) h3)]at eq;have q1:=zM Prod.fst eq;have q2:=zM Prod.snd eq;simp only at q1 q2
    repeat refine au ?_
    exact⟨j+1,(ah iA),Sc.refl _,by omega,by omega⟩
 .rw[if_neg h2]at eq;have q1:=zM Prod.fst eq;have q2:=zM Prod.snd eq;simp only at q1 q2
  repeat refine au ?_
  exact⟨j+1,(ah iA),Sc.refl _,by omega,by omega⟩):p:=h
def Qp(h:p:=by
 have p1:=zM Prod.fst ep;have p2:=zM Prod.snd ep;simp only at p1 p2;by_cases h2:c k n<1099511627776
 .rw[if_pos h2]at eq
  cases ot with
  |false=>
   rw[if_pos (.inl rfl)]at eq;have q1:=zM Prod.fst eq;have q2:=zM Prod.snd eq;simp only at q1 q2
   repeat refine au ?_
   exact⟨k+1,(ah iA),Sc.refl _,by omega,by omega⟩
  |true=>
   by_cases h3:0+c k n<hi
   .rw[if_pos (.inr h3)]at eq;have q1:=zM Prod.fst eq;have q2:=zM Prod.snd eq;simp only at q1 q2
    repeat refine au ?_
    exact⟨k+1,(ah iA),Sc.refl _,by omega,by omega⟩
   .rw[if_neg (λe=>e.elim (λe=>by cases e) h3)]at eq;have q1:=zM Prod.fst eq;have q2:=zM Prod.snd eq;simp only at q1 q2
    repeat refine au ?_
    exact⟨k+1,(ah iA),Sc.refl _,by omega,by omega⟩
 .rw[if_neg h2]at eq;have q1:=zM Prod.fst eq;have q2:=zM Prod.snd eq;simp only at q1 q2
  repeat refine au ?_
  exact⟨k+1,(ah iA),Sc.refl _,by omega,by omega⟩):p:=h
def Qg(h:p:=by
 have q1:=zM Prod.fst eq;have q2:=zM Prod.snd eq;simp only at q1 q2
 repeat refine au ?_
 exact⟨k+1,(ah iA),Sc.refl _,by omega,by omega⟩):p:=h
def Qf(h:p:=by
 have q1:=zM Prod.fst eq;have q2:=zM Prod.snd eq;simp only at q1 q2
 repeat refine au ?_
 exact⟨j+1,(ah iA),Sc.refl _,by omega,by omega⟩):p:=h
def w6(n:Nat)(B:Int)(c:cm)(v:List Int)(h:bE0 n B c v):APure prog 263 [gc (sT (n+1) c),bv v] (.tup [iD (et c n v.length v (v.length+1)).1,iD (eM c n v.length v (v.length+1)).1,iD 0]):=by
 have Z:=h.n;have I:=h.k;have S:=h.room.small;have R:=h.b;have s:dI=1099511627776:=rfl;rw[s]at S;obtain⟨m,K⟩:∃m,m=n+1:=⟨_,rfl⟩
 have f:=h.e;rw[←K]at f⊢;have w:=lL h.room I h.kp;have T:=λi(hi:i<m)=>OC c hi;have z:(sT m c).length=m:=by simp[sT]
 have l:(((sT m c).map λr=>[bv r]).length:Int)-1=(n:Int):=by rw[zL,z];omega
 unfold gc;refine ap func263 ntmps263 λBB=>?_
 repeat refine au ?_
 rw[l];refine aO mixed ai (γ:=Nat) (λi=>[(8,iD i)]) (λ_=>[]) (λi=>i<=m) (λi=>m-i) 0 (ah av) (Sc.refl _) (zW _) ?_;intro i hi;by_cases him:i<m
 .have O:(sT m c)[((i:Nat):Int).toNat]?=some ((List.range m).map λb=>c i b):=T i him;have J:((List.range m).length:Int)=(n:Int)+1:=by simp;omega
  repeat refine au ?_
  refine aO mixed ai (γ:=Nat) (λi=>[(9,iD i)]) (λ_=>[]) (λi=>i<=m) (λi=>m-i) 0 (ah av) (Sc.refl _) (zW _) ?_;intro k I;by_cases hkm:k<m
  .have t:((List.range m).map λb=>c i b)[((k:Nat):Int).toNat]?=some (c i k):=aO7 c i hkm;have L:=f i k him hkm
   repeat refine au ?_
   exact⟨k+1,(ah av),Sc.refl _,by omega,by omega⟩
  .obtain rfl:k=m:=by omega
   exact hZ
 .obtain rfl:m=i:=by omega
  repeat refine au ?_
  refine aO mixed ai (γ:=Nat) (λi=>[(10,iD i)]) (λ_=>[]) (λq=>q<=v.length) (λq=>v.length-q) 0 (ah av) (Sc.refl _) (zW _) ?_;intro q Y;by_cases hqv:q<v.length
  .obtain⟨y,g⟩:∃y,v[q]?=some y:=⟨_,zD hqv⟩
   have hy:v[((q:Nat):Int).toNat]?=some y:=g;have u:=h.v y (zG g)
   repeat refine au ?_
   exact⟨q+1,(ah av),Sc.refl _,by omega,by omega⟩
  .obtain rfl:q=v.length:=by omega
   have o:((v.map λn=>[iD n]).length:Int)=(v.length:Int):=by rw[zL]
   obtain⟨k,x⟩:∃k,k=v.length:=⟨_,rfl⟩
   rw[←x]at o w⊢
   repeat refine au ?_
   rw[o];refine aO mixed ai (γ:=Nat) (λj=>[(12,iD (et c n k v j).1),(13,iD (eM c n k v j).1),(14,bD (et c n k v j).2),(15,bD (eM c n k v j).2),(16,iD j)]) (λ_=>[]) (λj=>j<=k+1) (λj=>k+1-j) 0 (ah av) (Sc.refl _) (zW _) ?_;intro j hj;by_cases hjk:j<=k
   .have ep:et c n k v (j+1)=if c (dj n k j) k<dI then(if(et c n k v j).2=false\/(et c n k v j).1<gq v k j-c (dj n k j) k then gq v k j-c (dj n k j) k else(et c n k v j).1,true)else et c n k v j:=rfl
    have eq:eM c n k v (j+1)=if c k (dj n k j)<dI then(if(eM c n k v j).2=false\/gq v k j+c k (dj n k j)<(eM c n k v j).1 then gq v k j+c k (dj n k j)else(eM c n k v j).1,true)else eM c n k v j:=rfl
    rw[s]at ep eq;generalize et c n k v j=P at *;generalize eM c n k v j=Q at *;obtain⟨G,sm⟩:=P;obtain⟨hi,ot⟩:=Q;simp only at ep eq⊢;have M:(sT m c)[((k:Nat):Int).toNat]?=some ((List.range m).map λb=>c k b):=T k (by omega);by_cases hjl:j<k
    .have F:dj n k j=j:=by unfold dj;rw[if_pos hjl]
     obtain⟨vv,a⟩:∃y,v[j]?=some y:=⟨_,zD (by omega)⟩
     have X:v[((j:Nat):Int).toNat]?=some vv:=a;have E:gq v k j=vv:=by unfold gq;rw[if_pos hjl,List.getD_eq_getElem?_getD,a];rfl
     rw[F,E]at ep eq;have u:=h.v vv (zG a);have C:(sT m c)[((j:Nat):Int).toNat]?=some ((List.range m).map λb=>c j b):=T j (by omega);have D:((List.range m).map λb=>c j b)[((k:Nat):Int).toNat]?=some (c j k):=aO7 c j (by omega);have t:((List.range m).map λb=>c k b)[((j:Nat):Int).toNat]?=some (c k j):=aO7 c k (by omega);have V:=f j k (by omega) (by omega);have U:=f k j (by omega) (by omega);by_cases h1:c j k<1099511627776
     .rw[if_pos h1]at ep
      cases sm with
      |false=>
       rw[if_pos (.inl rfl)]at ep;exact Qq
      |true=>
       by_cases h0:G<vv-c j k
       .rw[if_pos (.inr h0)]at ep;exact Qq
       .rw[if_neg (λe=>e.elim (λe=>by cases e) h0)]at ep;have p1:=zM Prod.fst ep;have p2:=zM Prod.snd ep;simp only at p1 p2;by_cases h2:c k j<1099511627776
        .rw[if_pos h2]at eq
         cases ot with
         |false=>
          rw[if_pos (.inl rfl)]at eq;exact Qf
         |true=>
          by_cases h3:vv+c k j<hi
          .rw[if_pos (.inr h3)]at eq;exact Qf
          .rw[if_neg (λe=>e.elim (λe=>by cases e) h3)]at eq;have q1:=zM Prod.fst eq;have q2:=zM Prod.snd eq;simp only at q1 q2
           repeat refine au ?_
           exact⟨j+1,(ah iA),Sc.refl _,by omega,by omega⟩
        .rw[if_neg h2]at eq;exact Qf
     .rw[if_neg h1]at ep;exact Qq
    .obtain rfl:k=j:=by omega
     have F:dj n k k=n:=by unfold dj;rw[if_neg (by omega)]
     have E:gq v k k=0:=by unfold gq;rw[if_neg (by omega)]
     rw[F,E]at ep eq;have C:(sT m c)[((n:Nat):Int).toNat]?=some ((List.range m).map λb=>c n b):=T n (by omega);have D:((List.range m).map λb=>c n b)[((k:Nat):Int).toNat]?=some (c n k):=aO7 c n (by omega);have t:((List.range m).map λb=>c k b)[((n:Nat):Int).toNat]?=some (c k n):=aO7 c k (by omega);have V:=f n k (by omega) (by omega);have U:=f k n (by omega) (by omega);by_cases h1:c n k<1099511627776
     .rw[if_pos h1]at ep
      cases sm with
      |false=>
       rw[if_pos (.inl rfl)]at ep;exact Qp
      |true=>
       by_cases h0:G<0-c n k
       .rw[if_pos (.inr h0)]at ep;exact Qp
       .rw[if_neg (λe=>e.elim (λe=>by cases e) h0)]at ep;have p1:=zM Prod.fst ep;have p2:=zM Prod.snd ep;simp only at p1 p2;by_cases h2:c k n<1099511627776
        .rw[if_pos h2]at eq
         cases ot with
         |false=>
          rw[if_pos (.inl rfl)]at eq;exact Qg
         |true=>
          by_cases h3:0+c k n<hi
          .rw[if_pos (.inr h3)]at eq;exact Qg
          .rw[if_neg (λe=>e.elim (λe=>by cases e) h3)]at eq;have q1:=zM Prod.fst eq;have q2:=zM Prod.snd eq;simp only at q1 q2
           repeat refine au ?_
           exact⟨k+1,(ah iA),Sc.refl _,by omega,by omega⟩
        .rw[if_neg h2]at eq;exact Qg
     .rw[if_neg h1]at ep;exact Qp
   .obtain rfl:j=k+1:=by omega
    repeat refine au ?_
    exact Rt.pure rfl
end
section
open Go
def cy(n:Nat)(c:cm)(p:List Int):Nat->List Int
 |0=>[]
 |k+1=>cy n c p k++[(et c n k (cy n c p k) (k+1)).1+((p.getD k 0).tmod ((eM c n k (cy n c p k) (k+1)).1-(et c n k (cy n c p k) (k+1)).1+1)+((eM c n k (cy n c p k) (k+1)).1-(et c n k (cy n c p k) (k+1)).1+1)).tmod ((eM c n k (cy n c p k) (k+1)).1-(et c n k (cy n c p k) (k+1)).1+1)]
def sQ{a m:Int}(h:0<m):-m<a.tmod m/\a.tmod m<m:=by
 refine⟨?_,Int.tmod_lt_of_pos a h⟩;have:=Int.tmod_lt_of_pos (-a) h;rw[Int.neg_tmod]at this;omega
structure bE7(n:Nat)(B:Int)(c:cm)(k:Nat)(v:List Int):Prop where
 l:v.length=k
 kp:pP c n k v
 v:∀x∈v,-B<=x/\x<=B
def rK{n:Nat}{B:Int}{c:cm}(h:sC n B c)(p:List Int):∀k,k<=n->bE7 n B c k (cy n c p k)
 |0,_=>⟨rfl,λi j u t w=>by
  have f:dj n 0 i=n:=by unfold dj;rw[if_neg (by omega)]
  have d:dj n 0 j=n:=by unfold dj;rw[if_neg (by omega)]
  have e:∀q,gq (cy n c p 0) 0 q=0:=λq=>by unfold gq;rw[if_neg (by omega)]
  rw[f,d,e,e];have:=h.diag n (by omega);omega,λx hx=>by simp[cy]at hx⟩
 |k+1,s=>by
  have b:=rK h p k (by omega);have o:=lL h (by omega:k<n) b.kp;rw[cy];generalize cy n c p k=v at *;obtain⟨_,_,r,l,g⟩:=o;have m:0<(eM c n k v (k+1)).1-(et c n k v (k+1)).1+1:=by omega
  have t1:=sQ (a:=p.getD k 0) m;have t2:=Int.tmod_lt_of_pos ((p.getD k 0).tmod ((eM c n k v (k+1)).1-(et c n k v (k+1)).1+1)+((eM c n k v (k+1)).1-(et c n k v (k+1)).1+1)) m;have t3:=Int.tmod_nonneg (a:=(p.getD k 0).tmod ((eM c n k v (k+1)).1-(et c n k v (k+1)).1+1)+((eM c n k v (k+1)).1-(et c n k v (k+1)).1+1)) ((eM c n k v (k+1)).1-(et c n k v (k+1)).1+1) (by omega);refine⟨by rw[zI,b.l];rfl,xu h (by omega) b.l b.kp (by omega) (by omega),λx hx=>?_⟩;rcases zO.1 hx with hx|hx
  .exact b.v x hx
  .rw[zN]at hx;subst hx;omega
def O3{n:Nat}{B:Int}{c:cm}(h:sC n B c)(f:0<=B):∀a b,a<n+1->b<n+1 -> -1099511627776<=c a b/\c a b<=1099511627776:=λa b e d=>by
 have i:=h.cls.top a b e d;have g:=h.small;have r:dI=1099511627776:=rfl;by_cases hc:c a b<dI
 .have:=h.cls.bd a b e d hc;omega
 .omega
def nS{A B:Prop}(k:B)(h:ar B->A:=by intro q7;(first|refine bc ?_|refine aE ?_|(refine' aj ?hc ?_;(case hc=>first|exact HC|exact HR)));exact q7.1):A:=h ⟨k⟩
def Cw(n:Nat)(i:List jH)(h:sG n i)(S:fm (n+1) (cO n i)=false)(B:Int)(J:0<=B)(R:sC n B (cO n i))(b:List Int)(K:b.length=n)(M:∀p∈b,0<=p/\p<=1099511627776):APure prog 238 [iD n,nL i,bv b] (.tup [bv (cy n (cO n i) b n),iD 0]):=by
 have P:=h.n;have HC:=aQ4 n i h;rw[S,if_neg (by decide)]at HC;have l:=rK R b;have C:=O3 R J;have x:=R.small;have z:dI=1099511627776:=rfl;rw[z]at x;generalize cO n i=c at *;refine ap func238 ntmps238 λZ=>?_
 repeat refine nS ?_
 refine aO mixed ai (γ:=Nat×Value×ae) (λg=>[(11,iD g.1),(10,.v g.2.1)]) (λg=>g.2.2) (λg=>g.1<=n/\RI (cy n c b g.1) g.2.1 g.2.2) (λg=>n-g.1) (0,.slice none 0 0,[]) (ah av) (Sc.refl _) ⟨zW _,ab.nil _ _⟩ ?_;rintro⟨k,v,s⟩ ⟨I,r⟩;simp only at I r⊢;by_cases hkn:k<n
 .have f:=l k I;have HR:=w6 n B c (cy n c b k) ⟨P,R,J,C,by rw[f.l];exact hkn,by rw[f.l];exact f.kp,f.v⟩;rw[f.l]at HR;have O:=lL R hkn f.kp;obtain⟨_,_,Y,X,V⟩:=O;obtain⟨pk,e⟩:∃y,b[k]?=some y:=⟨_,zD (by omega)⟩
  have L:b[((k:Nat):Int).toNat]?=some pk:=e;have F:=M pk (zG e);have u:=l (k+1) hkn;have q:cy n c b (k+1)=cy n c b k++[(et c n k (cy n c b k) (k+1)).1+(pk.tmod ((eM c n k (cy n c b k) (k+1)).1-(et c n k (cy n c b k) (k+1)).1+1)+((eM c n k (cy n c b k) (k+1)).1-(et c n k (cy n c b k) (k+1)).1+1)).tmod ((eM c n k (cy n c b k) (k+1)).1-(et c n k (cy n c b k) (k+1)).1+1)]:=by
   rw[cy,List.getD_eq_getElem?_getD,e];rfl
  have Q:=f.l;have t:=u.l;obtain⟨D,j⟩:∃v,v=cy n c b (k+1):=⟨_,rfl⟩
  rw[←j]at q t;clear u;generalize cy n c b k=E at *;generalize(et c n k E (k+1)).1=o at *;generalize(eM c n k E (k+1)).1=hi at *;have G:0<hi-o+1:=by omega
  have t1:=sQ (a:=pk) G;have t2:=Int.tmod_lt_of_pos (pk.tmod (hi-o+1)+(hi-o+1)) G;have t3:=Int.tmod_nonneg (a:=pk.tmod (hi-o+1)+(hi-o+1)) (hi-o+1) (by omega)
  repeat refine nS ?_
  refine CE.pk (iK.peek (.cons (Pk.same _) (.cons (Pk.rowLe r (ec.refl _) (show s.Perm (s++[]) by simp)) .nil)) HR rfl) ?_
  repeat refine nS ?_
  refine Ap.go rfl rfl rfl rfl r (bR _) rfl (zs:=D.map λn=>[iD n]) (by rw[q,yB];rfl) (by rw[zL];omega) (by rw[zL];omega) (λw=>w) dF (λU T w r=>?_)
  repeat refine nS ?_
  exact⟨(k+1,.slice U (D.map λn=>[iD n]).length T,w),(ah av),Sc.refl _,⟨by simp only;omega,(by show RI (cy n c b (k+1)) _ _;rw[←j];exact r)⟩,by simp only;omega⟩
 .obtain rfl:k=n:=by omega
  repeat refine nS ?_
  exact Rt.vs (Vs.tup (.cons (Vs.row r (bR _)) (.cons (Vs.refl _ _) (.nil _))))
end
end Go.Proofs.YtilnpcolgcmofaaGreatDoor
