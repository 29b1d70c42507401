/- A part of the proof: Jo Jr Js Af Ag Jt Va Vc Fw Fy Dl Yj Yk Yl Ym Gw. -/
import Derived.Test.YtilnpcolgcmofaaGreatDoorS24
set_option maxRecDepth 100000
set_option maxHeartbeats 20000000
set_option linter.all false
namespace Go.Proofs.YtilnpcolgcmofaaGreatDoor
open Tryz
section
open Go
abbrev bwD(n:Nat)(g:Nat->Bool):List D:=(List.range n).map λt=>bD (g t)
def S5(l:bW)(m t:Nat):Bool:=(jz l m).getD t false
theorem xj.ok{l:bW}(h:xj l):PT l=true:=by
 unfold PT;simp only[zJ,zQ,yA];refine⟨⟨⟨h.n.2,h.m⟩,by have:=h.n.1;omega⟩,λm a=>?_⟩;have:=h.q m a;unfold b8 cz;simp only[zJ,zQ];omega
theorem bp0{A B:Prop}(k:B)(h:ar B->A:=by intro q7;(first|refine bQ ?_|refine aA ?_|(refine' ah ?hc ?_;(case hc=>first|exact HV|exact HM)));exact q7.1):A:=h ⟨k⟩
theorem SS{A B:Prop}(k:B)(h:ar B->A:=by intro q7;(first|refine FU ?_|((with_reducible refine' Ld.cellm (tb:=4) (cs:=bwD l.tz.length (S5 l m)) ?h1 ?h2 ?_);(case h1=>exact List.Mem.head _);(case h2=>(rw[eP];exact hcur)))|refine FY ?_);exact q7.1):A:=h ⟨k⟩
theorem bo9{A B:Prop}(k:B)(h:ar B->A:=by intro q7;(first|refine SS ?_|refine aA ?_|(refine' ah ?hc ?_;(case hc=>first|exact HV|exact HM)));exact q7.1):A:=h ⟨k⟩
theorem SR{A B:Prop}(k:B)(h:ar B->A:=by intro q7;(first|refine FU ?_|((with_reducible refine' Ld.cellm (tb:=4) (cs:=bwD l.tz.length (S5 l m)) ?h1 ?h2 ?_);(case h1=>exact List.Mem.tail _ (List.Mem.head _));(case h2=>(rw[eP];exact hcur)))|refine FY ?_);exact q7.1):A:=h ⟨k⟩
theorem bo8{A B:Prop}(k:B)(h:ar B->A:=by intro q7;(first|refine SR ?_|refine aA ?_|(refine' ah ?hc ?_;(case hc=>first|exact HV|exact HM)));exact q7.1):A:=h ⟨k⟩
end
section
open Go
theorem aS3{n lo h:Int}(b:lo<=n)(a:n<=h):APure prog 46 [iD n,iD lo,iD h] (bD true):=by
 have:=aS4 n lo h
 rwa [yJ b,yJ a]at this
theorem aS5{n lo i:Int}(h:n<lo\/i<n):APure prog 46 [iD n,iD lo,iD i] (bD false):=by
 have:=aS4 n lo i;rcases h with h|h
 .rwa [yE (show ¬lo<=n by omega),Bool.false_and]at this
 .rwa [yE (show ¬n<=i by omega),wW]at this
theorem bo7{A B:Prop}(k:B)(h:ar B->A:=by intro q7;(first|refine bQ ?_|refine aA ?_|(refine' ah ?hc ?_;(case hc=>first|exact aS3 (by first|omega|(simp only[zL];omega)) (by first|omega|(simp only[zL];omega))|exact aS5 (by first|omega|(simp only[zL];omega))|exact HF|exact HL|exact HRE|exact HS|exact HT|exact HO)));exact q7.1):A:=h ⟨k⟩
end
section
open Go
theorem bo6{A B:Prop}(k:B)(h:ar B->A:=by intro q7;(first|refine bQ ?_|refine aA ?_|(refine' ah ?hc ?_;(case hc=>first|exact HR|exact HK|exact HP)));exact q7.1):A:=h ⟨k⟩
theorem bo5{A B:Prop}(k:B)(h:ar B->A:=by intro q7;(first|refine bQ ?_|refine aA ?_|(refine' ah ?hc ?_;(case hc=>first|exact aS3 (by first|omega|(simp only[zL];omega)) (by first|omega|(simp only[zL];omega))|exact aS5 (by first|omega|(simp only[zL];omega))|exact HU|exact HD)));exact q7.1):A:=h ⟨k⟩
end
section
open Go
theorem cq{A B:Prop}(k:B)(h:ar B->A:=by intro q7;(first|refine bQ ?_|refine aA ?_|(refine' ah ?hc ?_;(case hc=>exact HU)));exact q7.1):A:=h ⟨k⟩
end
section
open Go
theorem rK{A B:Prop}(k:B)(h:ar B->A:=by intro q7;(first|refine bQ ?_|refine aA ?_|(refine' ah ?hc ?_;(case hc=>exact HF)));exact q7.1):A:=h ⟨k⟩
end
section
open Go
def vy(x:ak)(w:Wd):List fj:=match ef x with
 |[]=>J3 x w
 |p::_=>[(-1,-1,-1,p.2.2.2)]
theorem bo4{A B:Prop}(k:B)(h:ar B->A:=by intro q7;(first|refine bQ ?_|refine aA ?_|(refine' ah ?hc ?_;(case hc=>first|exact aS3 (by first|omega|(simp only[zL];omega)) (by first|omega|(simp only[zL];omega))|exact aS5 (by first|omega|(simp only[zL];omega))|exact HC|exact HF|exact HO|exact HD)));exact q7.1):A:=h ⟨k⟩
theorem aY7{k f r e:Int}{p:fj}(h:p∈one k f r e):p.2.2.2≠0:=by
 unfold one at h;split at h
 .cases h
 .rw[zN]at h;subst h;assumption
theorem aK3{α:Type}{q:Nat}{g:Nat->List α}{a:α}(h:a∈ap q g):∃i,a∈g i:=by
 unfold ap at h;obtain⟨i,_,h⟩:=List.mem_flatMap.1 h;exact⟨i,h⟩
theorem uM{x:ak}{p:fj}(h:p∈ef x):p.2.2.2≠0:=by
 unfold ef at h;split at h
 .rcases zO.1 h with h|h
  .rcases zO.1 h with h|h
   .obtain⟨i,h⟩:=aK3 h;unfold lh at h;split at h
    .exact aY7 h
    .cases h
   .obtain⟨i,h⟩:=aK3 h;unfold dO at h;split at h
    .rcases zO.1 h with h|h
     .exact aY7 h
     .obtain⟨j,h⟩:=aK3 h;unfold fi at h;split at h
      .exact aY7 h
      .cases h
    .cases h
  .obtain⟨i,h⟩:=aK3 h;unfold lN at h;split at h
   .exact aY7 h
   .cases h
 .rw[zN]at h;subst h;assumption
theorem Sb{A B:Prop}(k:B)(h:ar B->A:=by intro q7;(first|refine bQ ?_|refine aA ?_|(refine' ah ?hc ?_;(case hc=>exact HN)));exact q7.1):A:=h ⟨k⟩
theorem D1(x:ak)(V:APure prog 108 [ax x] (iD (fC x)))(w:Wd)(e:Ws w):APure prog 14 [ax x,lI w] (.sl 4 ((vy x w).map bp)):=by
 unfold vy
 cases a:ef x with
 |nil=>exact vx x w e a V
 |cons p s=>
  have HN:=BY x w p s a V;have f:p.2.2.2≠0:=uM (x:=x) (by rw[a];exact yN);refine ao func14 ntmps14 λg=>?_
  repeat' first|refine Sb ?_|intro b;conv=>whnf
  exact Rt.pure rfl
end
section
open Go Go.RowKit
def qi(x:ak)(p:cK)(w:Wd)(m:Int):(Bool×Int×Int)×Int:=
 if(fR x p w m).2.2≠0 then((false,0,0),(fR x p w m).2.2)else((!decide ((fR x p w m).1=0),(fR x p w m).1,(fR x p w m).2.1),0)
def gO(x:ak)(p:cK)(w:Wd)(m:Int):(Bool×Int×Int)×Int:=
 match vy x w with
 |[]=>qi x p w m
 |b::_=>if b.1<0 then((false,0,0),b.2.2.2)else qi x p w m
def Q4(v:(Bool×Int×Int)×Int):D:=.tup [.agg [bD v.1.1,iD v.1.2.1,iD v.1.2.2],iD v.2]
abbrev RVm(p:cK)(v:Value)(s:af):Prop:=ae 136 4 (p.map bX) v s
theorem Ig(p:cK)(f:p.length<=1000):APure prog 21 [rC p] (rC p):=by
 refine ao func21 ntmps21 λl=>?_
 repeat refine aN ?_
 refine aV mixed ai (γ:=Nat×Value×af) (λg=>[(4,iD g.1),(3,.v g.2.1)]) (λg=>g.2.2) (λg=>g.1<=p.length/\RVm (p.take g.1) g.2.1 g.2.2) (λg=>p.length-g.1) (0,.slice none 0 0,[]) (aj aw) (Sc.refl _) ⟨zW _,ae.nil _ _⟩ ?_;rintro⟨i,v,r⟩ ⟨hi,w⟩;simp only at hi w⊢;by_cases hil:i<p.length
 .obtain⟨y,hy⟩:∃y,p[i]?=some y:=⟨_,zD hil⟩
  have e:p[((i:Nat):Int).toNat]?=some y:=hy;have k:p.take (i+1)=p.take i++[y]:=by rw[xC,hy];rfl
  repeat refine aN ?_
  refine Ap.go rfl rfl rfl rfl w (bR _) rfl (zs:=(p.take (i+1)).map bX) (by rw[k,yB];rfl) (by rw[zL,zR];omega) (by rw[zL,zR];omega) (λb=>b) cZ (λj c1 s a=>?_)
  repeat refine aN ?_
  exact⟨(i+1,_,s),(aj aw),Sc.refl _,⟨by omega,a⟩,by simp only;omega⟩
 .obtain rfl:i=p.length:=by omega
  rw[yM]at w
  repeat refine aN ?_
  exact Rt.vs (Vs.row w (bR _))
theorem Kw{A B:Prop}(k:B)(h:ar B->A:=by intro q7;(first|refine bQ ?_|refine aA ?_|(refine' ah ?hc ?_;(case hc=>exact HR)));exact q7.1):A:=h ⟨k⟩
theorem XP{p:Prop}(h:p:=by
 refine ao func52 ntmps52 λBB=>?_
 repeat' first|refine Kw ?_|intro b;conv=>whnf
 refine mT ai (m:=1) rfl rfl rfl rfl rfl rfl rfl ?_
 repeat' first|refine Kw ?_|intro b;conv=>whnf
 exact Rt.vs (Vs.drop (yV _))):p:=h
theorem zl(x:ak)(p:cK)(w:Wd)(t:Int)(HR:APure prog 93 [ax x,rC p,.ifc 68 (uR w),iD t] (MP (fR x p w t))):APure prog 52 [ax x,.ifc 68 (uR w),rC p,iD t] (Q4 (qi x p w t)):=by
 unfold qi;by_cases he:(fR x p w t).2.2≠0
 .rw[if_pos he];exact XP
 .rw[if_neg he];exact XP
theorem Aw{A B:Prop}(k:B)(h:ar B->A:=by intro q7;(first|refine bQ ?_|refine aA ?_|(refine' ah ?hc ?_;(case hc=>first|exact HC|exact HJ)));exact q7.1):A:=h ⟨k⟩
theorem XS{p:Prop}(h:p:=by
 refine ao func20 ntmps20 λBB=>?_
 repeat' first|refine Aw ?_|intro b;conv=>whnf
 (refine Ot.yd (ME rfl rfl underlying68 (λm h=>by cases h)) ?_)
 repeat' first|refine Aw ?_|intro b;conv=>whnf
 exact Rt.vs (Vs.drop (yV _))):p:=h
theorem zk(x:ak)(p:cK)(w:Wd)(t:Int)(HC:APure prog 14 [ax x,lI w] (.sl 4 ((vy x w).map bp)))(R:APure prog 93 [ax x,rC p,.ifc 68 (uR w),iD t] (MP (fR x p w t))):APure prog 20 [ax x,lI w,rC p,iD t] (Q4 (gO x p w t)):=by
 have HJ:=zl x p w t R;unfold gO
 cases hc:vy x w with
 |nil=>
  rw[hc]at HC;simp only;exact XS
 |cons b l=>
  rw[hc]at HC;simp only;by_cases hb:b.1<0
  .rw[if_pos hb];refine ao func20 ntmps20 λBB=>?_
   repeat' first|refine Aw ?_|intro b;conv=>whnf
   exact Rt.vs (Vs.refl _ _)
  .rw[if_neg hb];exact XS
end
section
open Go
def br4(x:ak)(k f:Nat):Bool:=match x.kz[k]? with
 |some kd=>(match kd.fields[f]? with|some d=>decide (d.kind=1)|none=>false)
 |none=>false
def bB5(p:cK)(k f:Nat):Bool:=p.any λi=>decide (i.op=5)&&decide (i.b=k)&&decide (i.c=f)
structure Kh(x:ak)(p:cK)(w u:Wd):Prop where
 k:u.length=w.length
 n:∀k,(u.getD k []).length=(w.getD k []).length
 f:∀k i,((u.getD k []).getD i []).length=((w.getD k []).getD i []).length
 v:∀k i f,(br4 x k f||bB5 p k f)=true->((u.getD k []).getD i []).getD f 0=((w.getD k []).getD i []).getD f 0
theorem Kh.refl(x:ak)(p:cK)(w:Wd):Kh x p w w:=⟨rfl,λ_=>rfl,λ_ _=>rfl,λ_ _ _ _=>rfl⟩
theorem Kh.symm{x:ak}{p:cK}{w u:Wd}(h:Kh x p w u):Kh x p u w:=⟨h.k.symm,λk=>(h.n k).symm,λk i=>(h.f k i).symm,λk i f e=>(h.v k i f e).symm⟩
theorem Kh.trans{x:ak}{p:cK}{w u z:Wd}(h:Kh x p w u)(g:Kh x p u z):Kh x p w z:=⟨g.k.trans h.k,λk=>(g.n k).trans (h.n k),λk i=>(g.f k i).trans (h.f k i),λk i f e=>(g.v k i f e).trans (h.v k i f e)⟩
theorem aY8{k f r e:Int}{b:fj}(h:b∈one k f r e):b.1=k:=by
 unfold one at h;split at h
 .cases h
 .rw[zN]at h;rw[h]
theorem vE{x:ak}{w:Wd}(a:cO x w=true){b:fj}(h:b∈J3 x w):0<=b.1:=by
 unfold J3 at h;rw[if_pos a]at h;rcases zO.1 h with h|h
 .rcases zO.1 h with h|h
  .obtain⟨k,_,h⟩:=x5.1 h;unfold kM at h;split at h
   .rw[aY8 h];omega
   .cases h
  .obtain⟨k,_,h⟩:=x5.1 h;unfold xq at h;split at h
   .obtain⟨i,_,h⟩:=x5.1 h;unfold iu at h;split at h
    .rcases zO.1 h with h|h
     .obtain⟨f,_,h⟩:=x5.1 h;unfold ja at h;split at h
      .rw[aY8 h];omega
      .cases h
     .obtain⟨f,_,h⟩:=x5.1 h;unfold iX at h;split at h
      .rw[aY8 h];omega
      .cases h
    .cases h
   .cases h
 .obtain⟨q,_,h⟩:=x5.1 h;unfold EC at h;split at h
  .obtain⟨j,_,h⟩:=x5.1 h;unfold iG at h;split at h
   .rw[aY8 h];omega
   .cases h
  .cases h
theorem my{x:ak}(a:ef x=[])(p:cK)(w:Wd)(m:Int):gO x p w m=if cO x w=true then qi x p w m else((false,0,0),2):=by
 unfold gO vy;rw[a];simp only;split
 .rename_i h;by_cases hf:cO x w=true
  .rw[if_pos hf]
  .unfold J3 at h;rw[if_neg hf]at h;cases h
 .rename_i b l h;by_cases hf:cO x w=true
  .rw[if_pos hf,if_neg];have:=vE hf (b:=b) (by rw[h];exact yN);omega
  .unfold J3 at h;rw[if_neg hf]at h
   cases h
   rw[if_neg hf,if_pos (by decide)]
end
section
abbrev bY:=Nat->Nat->Int
def dq:Int:=1099511627776
def lH(j i k:Nat)(c:bY):bY:=λa b=>if a=i/\b=k/\c i j<dq/\c j k<dq then min (c i k) (c i j+c j k)else c a b
def bG(j i:Nat):Nat->bY->bY
 |0,c=>c
 |k+1,c=>lH j i k (bG j i k c)
def gg(m j:Nat):Nat->bY->bY
 |0,c=>c
 |i+1,c=>bG j i m (gg m j i c)
def eR(m:Nat):Nat->bY->bY
 |0,c=>c
 |j+1,c=>gg m j m (eR m j c)
theorem y9(j i k:Nat)(c:bY)(a b:Nat):lH j i k c a b<=c a b:=by
 unfold lH;split
 .rename_i h;obtain⟨rfl,rfl,_⟩:=h;omega
 .omega
theorem rT(j i:Nat)(c:bY)(a b:Nat):∀k,bG j i k c a b<=c a b
 |0=>Int.le_refl _
 |k+1=>Int.le_trans (y9 j i k _ a b) (rT j i c a b k)
theorem pU(m j:Nat)(c:bY)(a b:Nat):∀i,gg m j i c a b<=c a b
 |0=>Int.le_refl _
 |i+1=>Int.le_trans (rT j i _ a b m) (pU m j c a b i)
theorem lq(m:Nat)(c:bY)(a b:Nat):∀{j k:Nat},j<=k->eR m k c a b<=eR m j c a b
 |j,0,h=>by
  obtain rfl:j=0:=by omega
  exact Int.le_refl _
 |j,k+1,h=>by
  by_cases e:j=k+1
  .subst e;exact Int.le_refl _
  .exact Int.le_trans (pU m k _ a b m) (lq m c a b (by omega:j<=k))
def ge(j:Nat)(c:bY):bY:=λa b=>if c a j<dq/\c j b<dq then min (c a b) (c a j+c j b)else c a b
theorem mn{j:Nat}{c:bY}(h:0<=c j j)(a:Nat):ge j c a j=c a j:=by
 unfold ge;split<;>omega
theorem mm{j:Nat}{c:bY}(h:0<=c j j)(b:Nat):ge j c j b=c j b:=by
 unfold ge;split<;>omega
theorem mC{m j:Nat}(q:j<m){c d:bY}(h:0<=c j j)(i:Nat)(r:∀a b,b<m->d a b=if a<i then ge j c a b else c a b):∀(k:Nat),k<=m->∀a b,b<m->bG j i k d a b=if a<i\/a=i/\b<k then ge j c a b else c a b
 |0,_,a,b,p=>by
  rw[bG,r a b p];by_cases h1:a<i
  .rw[if_pos h1,if_pos (.inl h1)]
  .rw[if_neg h1,if_neg (by omega)]
 |k+1,s,a,b,p=>by
  have l:=mC q h i r k (by omega);have o:bG j i k d i j=c i j:=by
   rw[l _ _ q];split
   .exact mn h i
   .rfl
  have n:bG j i k d j k=c j k:=by
   rw[l _ _ (by omega)];split
   .exact mm h k
   .rfl
  have f:bG j i k d i k=c i k:=by rw[l _ _ (by omega),if_neg (by omega)]
  show(if a=i/\b=k/\bG j i k d i j<dq/\bG j i k d j k<dq then min (bG j i k d i k) (bG j i k d i j+bG j i k d j k)else bG j i k d a b)=_;rw[o,n,f];by_cases e:a=i/\b=k
  .obtain⟨rfl,rfl⟩:=e;rw[if_pos (show a<a\/a=a/\b<b+1 from .inr ⟨rfl,by omega⟩)];by_cases g:c a j<dq/\c j b<dq
   .rw[if_pos ⟨rfl,rfl,g⟩];unfold ge;rw[if_pos g]
   .rw[if_neg (λh=>g h.2.2)];unfold ge;rw[if_neg g,f]
  .rw[if_neg (λh=>e ⟨h.1,h.2.1⟩),l _ _ p];by_cases h1:a<i\/a=i/\b<k
   .rw[if_pos h1,if_pos (by omega)]
   .rw[if_neg h1,if_neg (by omega)]
theorem r7{m j:Nat}(e:j<m){c:bY}(h:0<=c j j):∀(i a b:Nat),b<m->gg m j i c a b=if a<i then ge j c a b else c a b
 |0,a,b,_=>by rw[gg,if_neg (by omega)]
 |i+1,a,b,d=>by
  rw[gg,mC e h i (λa b d=>r7 e h i a b d) m (zT _) a b d];by_cases h1:a<i+1
  .rw[if_pos h1,if_pos (by omega)]
  .rw[if_neg h1,if_neg (by omega)]
structure Mz(m j:Nat)(B:Int)(c:bY):Prop where
 tri:∀a b q,a<m->b<m->q<j->c a q<dq->c q b<dq->c a b<=c a q+c q b
 bd:∀a b,a<m->b<m->c a b<dq -> -B<=c a b/\c a b<=B
 top:∀a b,a<m->b<m->c a b<=dq
theorem Mz.step{m j:Nat}{B:Int}{c:bY}(i:j<m)(s:0<=c j j)(D:2*B<dq)(t:0<=B)(h:Mz m j B c):Mz m (j+1) (2*B) (gg m j m c):=by
 have e:∀a b,a<m->b<m->gg m j m c a b=ge j c a b:=λa b f d=>by rw[r7 i s m a b d,if_pos f]
 have o:∀a,a<m->gg m j m c a j=c a j:=λa f=>by rw[e a j f i,mn s]
 have w:∀b,b<m->gg m j m c j b=c j b:=λb d=>by rw[e j b i d,mm s]
 refine⟨λa b q f d C n p=>?_,λa b f d n=>?_,λa b f d=>?_⟩
 .by_cases r:q=j
  .subst r;rw[o a f]at n⊢;rw[w b d]at p⊢;rw[e a b f d,ge,if_pos ⟨n,p⟩];omega
  .have l:q<j:=by omega
   have k:q<m:=by omega
   rw[e a q f k]at n⊢;rw[e q b k d]at p⊢;rw[e a b f d];unfold ge at *;have t1:=h.tri a b q f d l;have t2:=h.tri j b q i d l;have t3:=h.tri a j q f i l;have t4:=h.tri j j q i i l;have x:=h.bd a q f k;have b2:=h.bd q b k d;have v:=h.bd a j f i;have F:=h.bd j q i k;have E:=h.bd q j k i;have u:=h.bd j b i d;have A:=h.top a b f d;have z:=h.top a j f i;have y:=h.top j b i d;unfold dq at *;split at n<;>split at p<;>(try rw[if_pos (by assumption)])<;>(try rw[if_neg (by assumption)])<;>split<;>omega
 .rw[e a b f d]at n⊢;have x:=h.bd a b f d;have v:=h.bd a j f i;have u:=h.bd j b i d;unfold ge at *;split at n
  .rename_i g;rw[if_pos g];omega
  .rename_i g;rw[if_neg g];omega
 .exact Int.le_trans (pU m j c a b m) (h.top a b f d)
theorem oa{m:Nat}{B:Int}{c:bY}(h:0<=B)(g:2 ^ m*B<dq)(b:Mz m 0 B c)(d:∀x,x<m->0<=eR m m c x x):∀(j:Nat),j<=m->Mz m j (2 ^ j*B) (eR m j c)
 |0,_=>by rw[Int.pow_zero,Int.one_mul];exact b
 |j+1,f=>by
  have i:=oa h g b d j (by omega);have k:0<=eR m j c j j:=Int.le_trans (d j (by omega)) (lq m c j j (by omega));have p:(0:Int)<=2 ^ j*B:=Int.mul_nonneg (Int.le_of_lt (Int.pow_pos (by decide))) h;have a:(2:Int) ^ (j+1)*B<=2 ^ m*B:=Int.mul_le_mul_of_nonneg_right (by
   have:=Nat.pow_le_pow_right (n:=2) (by decide) f
   exact_mod_cast this) h
  have e:(2:Int) ^ (j+1)*B=2*(2 ^ j*B):=by rw[Int.pow_succ];rw[Int.mul_comm (2 ^ j) 2,Int.mul_assoc]
  rw[e]at a⊢;exact Mz.step (by omega) k (by omega) p i
end
section
def cS(n k j:Nat):Nat:=if j<k then j else n
def fI(v:List Int)(k j:Nat):Int:=if j<k then v.getD j 0 else 0
def dN(c:bY)(n k:Nat)(v:List Int):Nat->Int×Bool
 |0=>(-dq,false)
 |j+1=>if c (cS n k j) k<dq then(if(dN c n k v j).2=false\/(dN c n k v j).1<fI v k j-c (cS n k j) k then fI v k j-c (cS n k j) k else(dN c n k v j).1,true)else dN c n k v j
def eg(c:bY)(n k:Nat)(v:List Int):Nat->Int×Bool
 |0=>(dq,false)
 |j+1=>if c k (cS n k j)<dq then(if(eg c n k v j).2=false\/fI v k j+c k (cS n k j)<(eg c n k v j).1 then fI v k j+c k (cS n k j)else(eg c n k v j).1,true)else eg c n k v j
theorem XF{p:Prop}(h:p:=by
 rw[if_neg hf];refine⟨λj hj hjf=>?_,λh=>?_⟩
 .by_cases e:j=q
  .subst e;exact absurd hjf hf
  .exact h1 j (by omega) hjf
 .obtain⟨j,a,b,d⟩:=h2 h;exact⟨j,by omega,b,d⟩):p:=h
theorem XD{p:Prop}(h:p:=by
 by_cases e:j=q
 .subst e;simp only;split<;>omega
 .obtain⟨g1,g2⟩:=h1 j (by omega) hjf;simp only;rw[g1];split
  .rename_i h;rcases h with h|h
   .cases h
   .omega
  .exact g2):p:=h
theorem aW4(c:bY)(n k:Nat)(v:List Int):∀(q:Nat),(∀j,j<q->c (cS n k j) k<dq->(dN c n k v q).2=true/\fI v k j-c (cS n k j) k<=(dN c n k v q).1) /\
  ((dN c n k v q).2=true->∃j,j<q/\c (cS n k j) k<dq/\(dN c n k v q).1=fI v k j-c (cS n k j) k)
 |0=>⟨λj h=>by omega,λh=>by cases h⟩
 |q+1=>by
  obtain⟨h1,h2⟩:=aW4 c n k v q;rw[dN];by_cases hf:c (cS n k q) k<dq
  .rw[if_pos hf];refine⟨λj hj hjf=>⟨rfl,?_⟩,λ_=>?_⟩
   .exact XD
   .by_cases g:(dN c n k v q).2=false\/(dN c n k v q).1<fI v k q-c (cS n k q) k
    .exact⟨q,by omega,hf,by simp only;rw[if_pos g]⟩
    .obtain⟨j,a,b,d⟩:=h2 (by
      cases f:(dN c n k v q).2 with
      |true=>rfl
      |false=>exact absurd (.inl f) g)
     exact⟨j,by omega,b,by simp only;rw[if_neg g];exact d⟩
  .exact XF
theorem aW5(c:bY)(n k:Nat)(v:List Int):∀(q:Nat),(∀j,j<q->c k (cS n k j)<dq->(eg c n k v q).2=true/\(eg c n k v q).1<=fI v k j+c k (cS n k j)) /\
  ((eg c n k v q).2=true->∃j,j<q/\c k (cS n k j)<dq/\(eg c n k v q).1=fI v k j+c k (cS n k j))
 |0=>⟨λj h=>by omega,λh=>by cases h⟩
 |q+1=>by
  obtain⟨h1,h2⟩:=aW5 c n k v q;rw[eg];by_cases hf:c k (cS n k q)<dq
  .rw[if_pos hf];refine⟨λj hj hjf=>⟨rfl,?_⟩,λ_=>?_⟩
   .exact XD
   .by_cases g:(eg c n k v q).2=false\/fI v k q+c k (cS n k q)<(eg c n k v q).1
    .exact⟨q,by omega,hf,by simp only;rw[if_pos g]⟩
    .obtain⟨j,a,b,d⟩:=h2 (by
      cases f:(eg c n k v q).2 with
      |true=>rfl
      |false=>exact absurd (.inl f) g)
     exact⟨j,by omega,b,by simp only;rw[if_neg g];exact d⟩
  .exact XF
def oy(c:bY)(n k:Nat)(v:List Int):Prop:=∀i j,i<=k->j<=k->c (cS n k i) (cS n k j)<dq->fI v k i-fI v k j<=c (cS n k i) (cS n k j)
structure qW(n:Nat)(B:Int)(c:bY):Prop where
 cls:Mz (n+1) (n+1) B c
 diag:∀x,x<n+1->0<=c x x
 fin:∀x,x<n->c x n<dq/\c n x<dq
 small:2*B<dq
theorem kx{n:Nat}{B:Int}{c:bY}(h:qW n B c){k:Nat}(q:k<n){v:List Int}(p:oy c n k v) :
  (dN c n k v (k+1)).2=true/\(eg c n k v (k+1)).2=true/\(dN c n k v (k+1)).1<=(eg c n k v (k+1)).1 /\ -B<=(dN c n k v (k+1)).1/\(eg c n k v (k+1)).1<=B:=by
 obtain⟨o,m⟩:=aW4 c n k v (k+1);obtain⟨w,u⟩:=aW5 c n k v (k+1);have e:cS n k k=n:=by unfold cS;rw[if_neg (by omega)]
 have x:fI v k k=0:=by unfold fI;rw[if_neg (by omega)]
 obtain⟨f1,f2⟩:=h.fin k q;obtain⟨l,y⟩:=o k (by omega) (by rw[e];exact f2);obtain⟨g,b2⟩:=w k (by omega) (by rw[e];exact f1);rw[e,x]at y b2;have s:=h.cls.bd n k (by omega) (by omega) f2;have r:=h.cls.bd k n (by omega) (by omega) f1;refine⟨l,g,?_,by omega,by omega⟩;obtain⟨i,D,f,C⟩:=m l;obtain⟨j,A,d,z⟩:=u g;have b:cS n k i<n+1:=by unfold cS;split<;>omega
 have a:cS n k j<n+1:=by unfold cS;split<;>omega
 have t:=h.cls.tri (cS n k i) (cS n k j) k b a (by omega) f d;have c1:=h.cls.bd _ k b (by omega) f;have F:=h.cls.bd k _ (by omega) a d;have E:=h.small;have:=p i j (by omega) (by omega) (by omega);omega
theorem vb{n:Nat}{B:Int}{c:bY}(h:qW n B c){k:Nat}(G:k<n){v:List Int}(E:v.length=k)(C:oy c n k v){x:Int}(A:(dN c n k v (k+1)).1<=x)(z:x<=(eg c n k v (k+1)).1):oy c n (k+1) (v++[x]):=by
 obtain⟨y,_⟩:=aW4 c n k v (k+1);obtain⟨F,_⟩:=aW5 c n k v (k+1);have d:∀i,i<=k+1->i≠k->∃q,q<=k/\cS n (k+1) i=cS n k q/\fI (v++[x]) (k+1) i=fI v k q:=λi r D=>by
  by_cases h1:i<k
  .refine⟨i,by omega,by unfold cS;rw[if_pos (by omega),if_pos h1],?_⟩;unfold fI;rw[if_pos (by omega),if_pos h1,List.getD_eq_getElem?_getD,List.getD_eq_getElem?_getD,yP (by omega)]
  .exact⟨k,zT _,by unfold cS;rw[if_neg (by omega),if_neg (by omega)],by unfold fI;rw[if_neg (by omega),if_neg (by omega)]⟩
 have b:cS n (k+1) k=k:=by unfold cS;rw[if_pos (by omega)]
 have a:fI (v++[x]) (k+1) k=x:=by
  unfold fI;rw[if_pos (by omega),List.getD_eq_getElem?_getD,yK (by omega),E,wH];rfl
 intro i j r o f;by_cases s:i=k
 .subst s;rw[b]at f⊢;rw[a];by_cases e:j=i
  .subst e;rw[b,a];have:=h.diag j (by omega);omega
  .obtain⟨q,m,l,g⟩:=d j o e;rw[l]at f⊢;rw[g];have:=(F q (by omega) f).2;omega
 .obtain⟨p,w,u,t⟩:=d i r s;rw[u]at f⊢;rw[t];by_cases e:j=k
  .subst e;rw[b]at f⊢;rw[a];have:=(y p (by omega) f).2;omega
  .obtain⟨q,m,l,g⟩:=d j o e;rw[l]at f⊢;rw[g];exact C p q w m f
end
section
open Go
def jm(m:Nat)(c:bY)(i:Nat)(M:Int):Prop:=∀b,b<m -> -M<=c i b
def xl(m:Nat)(c:bY)(M:Int):Prop:=∀a,a<m->jm m c a M
def lD(c:bY):Prop:=∀a b,c a b<=dq
theorem FS{j i k:Nat}{c:bY}(h:lD c):lD (lH j i k c):=λa b=>Int.le_trans (y9 j i k c a b) (h a b)
theorem aW3{j i:Nat}{c:bY}(h:lD c):∀k,lD (bG j i k c)
 |0=>h
 |k+1=>FS (aW3 h k)
theorem kG{m j:Nat}{c:bY}(h:lD c):∀i,lD (gg m j i c)
 |0=>h
 |i+1=>aW3 (kG h i) m
theorem n9{m:Nat}{c:bY}(h:lD c):∀j,lD (eR m j c)
 |0=>h
 |j+1=>kG (n9 h j) m
theorem Qw(j i:Nat)(c:bY):∀(k a b:Nat),a≠i->bG j i k c a b=c a b
 |0,_,_,_=>rfl
 |k+1,a,b,h=>by
  rw[bG];unfold lH;rw[if_neg (λd=>h d.1)];exact Qw j i c k a b h
theorem kw(j i:Nat)(c:bY):∀(k b:Nat),k<=b->bG j i k c i b=c i b
 |0,_,_=>rfl
 |k+1,b,h=>by
  rw[bG];unfold lH;rw[if_neg (λa=>by omega)];exact kw j i c k b (by omega)
theorem AR{m j i:Nat}{c:bY}{f M:Int}(e:i≠j)(d:j<m)(g:jm m c i f)(l:jm m c j M)(q:0<=f)(p:0<=M):∀k,k<=m -> -(f+M)<=bG j i k c i j/\jm m (bG j i k c) i (f+2*M)
 |0,_=>⟨by have:=g j d;rw[bG];omega,λb n=>by have:=g b n;rw[bG];omega⟩
 |k+1,u=>by
  obtain⟨t,s⟩:=AR e d g l q p k (by omega);have r:bG j i k c j k=c j k:=Qw j i c k j k (Ne.symm e);have o:bG j i k c i k=c i k:=kw j i c k k (zT _);have v:=l k (by omega);have b2:=g k (by omega);rw[bG];unfold lH;rw[r,o];refine⟨?_,λb n=>?_⟩
  .by_cases a:k=j
   .subst a;rw[o]at *;split
    .have:=l k (by omega);omega
    .omega
   .rw[if_neg (λh=>a h.2.1.symm)];exact t
  .have:=s b n
   show -(f+2*M)<=if i=i/\b=k/\bG j i k c i j<dq/\c j k<dq then min (c i k) (bG j i k c i j+c j k)else bG j i k c i b
   split
   .rename_i h;obtain⟨_,rfl,_⟩:=h;omega
   .exact this
theorem rS{m j:Nat}{c:bY}{M:Int}(d:j<m)(e:jm m c j M)(i:0<=M):∀k,k<=m -> -(2*M)<=bG j j k c j j/\jm m (bG j j k c) j (3*M)
 |0,_=>⟨by have:=e j d;rw[bG];omega,λb f=>by have:=e b f;rw[bG];omega⟩
 |k+1,o=>by
  obtain⟨n,l⟩:=rS d e i k (by omega);have g:bG j j k c j k=c j k:=kw j j c k k (zT _);have p:=e k (by omega);rw[bG];unfold lH;rw[g];refine⟨?_,λb f=>?_⟩
  .by_cases a:k=j
   .subst a;rw[g]at *;split<;>omega
   .rw[if_neg (λh=>a h.2.1.symm)];exact n
  .have:=l b f
   show -(3*M)<=if j=j/\b=k/\bG j j k c j j<dq/\c j k<dq then min (c j k) (bG j j k c j j+c j k)else bG j j k c j b
   split
   .rename_i h;obtain⟨_,rfl,_⟩:=h;omega
   .exact this
theorem NR{m j:Nat}{c:bY}{M:Int}(e:j<m)(h:xl m c M)(o:0<=M):∀i,i<=m->(∀a,a<m->(i<=a->∀b,gg m j i c a b=c a b)/\jm m (gg m j i c) a (7*M))/\jm m (gg m j i c) j (3*M)
 |0,_=>⟨λa n=>⟨λ_ _=>rfl,λb d=>by have:=h a n b d;rw[gg];omega⟩,λb d=>by have:=h j e b d;rw[gg];omega⟩
 |i+1,t=>by
  obtain⟨q,r⟩:=NR e h o i (by omega);have p:∀b,gg m j i c i b=c i b:=(q i (by omega)).1 (zT _);have f:jm m (gg m j i c) i M:=λb d=>by rw[p];exact h i (by omega) b d
  rw[gg];refine⟨λa n=>⟨λs b=>?_,λb d=>?_⟩,λb d=>?_⟩
  .rw[Qw _ _ _ _ _ _ (by omega)];exact(q a n).1 (by omega) b
  .by_cases l:a=i
   .subst l;by_cases k:a=j
    .subst k;have:=(rS e f o m (zT _)).2 b d;omega
    .have:=(AR k e f r o (by omega) m (zT _)).2 b d;omega
   .rw[Qw _ _ _ _ _ _ l];exact(q a n).2 b d
  .by_cases g:j=i
   .subst g;exact(rS e f o m (zT _)).2 b d
   .rw[Qw _ _ _ _ _ _ g];exact r b d
theorem S7{m j i k:Nat}{c:bY}{M:Int}(d:j<m)(f:i<m)(e:k<=m)(h:xl m c M)(q:0<=M):xl m (bG j i k (gg m j i c)) (8*M):=by
 obtain⟨r,t⟩:=NR d h q i (by omega);have p:∀b,gg m j i c i b=c i b:=(r i f).1 (zT _);have g:jm m (gg m j i c) i M:=λb l=>by rw[p];exact h i f b l
 intro a s b l;by_cases o:a=i
 .subst o;by_cases n:a=j
  .subst n;have:=(rS d g q k e).2 b l;omega
  .have:=(AR n d g t q (by omega) k e).2 b l;omega
 .rw[Qw _ _ _ _ _ _ o];have:=(r a s).2 b l;omega
theorem L'{m:Nat}{c:bY}{M:Int}(h:xl m c M)(d:0<=M):∀j,j<=m->xl m (eR m j c) (8 ^ j*M)
 |0,_=>by rw[Int.pow_zero,Int.one_mul];exact h
 |j+1,k=>by
  have i:=L' h d j (by omega);have p:(0:Int)<=8 ^ j*M:=Int.mul_nonneg (Int.le_of_lt (Int.pow_pos (by decide))) d;obtain⟨g,_⟩:=NR (by omega:j<m) i p m (zT _);intro a f b e;have:=(g a f).2 b e;rw[eR,Int.pow_succ,Int.mul_comm (8 ^ j) 8,Int.mul_assoc];omega
structure iP where
 a:Int
 b:Int
 n:Int
abbrev Qr(d:iP):List D:=[iD d.a,iD d.b,iD d.n]
abbrev me(d:List iP):D:=.sl 3 (d.map Qr)
structure q8(m:Nat)(ds:List iP):Prop where
 n:m<=10
 l:ds.length<=64
 v:∀d∈ds,(-1<=d.a/\d.a<m)/\(-1<=d.b/\d.b<m)/\d.a≠d.b/\(-2097152<=d.n/\d.n<=2097152)
theorem uz(n:Nat)(s:List iP)(h:q8 n s):APure prog 146 [iD n,me s] (iD 0):=by
 have h1:=h.n;have h2:=h.l;refine ao func146 ntmps146 λj=>?_
 repeat' first|refine aN ?_|intro b;conv=>whnf
 refine aV mixed ai (γ:=Nat) (λi=>[(5,iD i)]) (λi=>[]) (λi=>i<=s.length) (λi=>s.length-i) 0 (aj aw) (Sc.refl _) (zW _) ?_;intro i hi;by_cases hil:i<s.length
 .obtain⟨y,a⟩:∃y,s[i]?=some y:=⟨_,zD hil⟩
  have hy:s[((i:Nat):Int).toNat]?=some y:=a;obtain⟨g,f,e,v⟩:=h.v y (zG a)
  repeat' first|refine aN ?_|intro b;conv=>whnf
  exact⟨i+1,(aj aw),(Sc.sl (yG _ _)),by omega,by omega⟩
 .obtain rfl:i=s.length:=by omega
  repeat' first|refine aN ?_|intro b;conv=>whnf
  refine Rt.pure (zM iD ?_)
  rfl
def cm(n:Nat)(a:Int):Nat:=if a<0 then n else a.toNat
theorem r5(n:Nat)(a:Int):APure prog 190 [iD n,iD a] (iD (cm n a:Nat)):=by
 unfold cm;by_cases h:a<0
 .rw[if_pos h];refine ao func190 ntmps190 λb=>?_
  repeat refine aN ?_
  refine Rt.pure (zM iD ?_)
  rfl
 .rw[if_neg h];refine ao func190 ntmps190 λb=>?_
  repeat refine aN ?_
  refine Rt.pure (zM iD ?_);omega
theorem rV{n:Nat}{a:Int}(h:-1<=a/\a<n):cm n a<n+1:=by unfold cm;split<;>omega
end
section
open Go
end
section
open Go
end
section
open Go
end
section
open Go
end
section
open Go
structure Tn(z:Int):Prop where
 lo:-68719476736<=z
 hi:z<=68719476736
structure gG(w:Wd):Prop where
 k:w.length<=10
 n:∀l∈w,l.length<=10
 f:∀l∈w,∀r∈l,r.length<=50
 v:∀l∈w,∀r∈l,∀v∈r,Tn v
theorem gG.sm{w:Wd}(h:gG w):EK w:=
 ⟨by have:=h.k;omega,λl a=>by have:=h.n l a;omega,λl a r b=>by have:=h.f l a r b;omega,λl a r b v c=>⟨by have:=(h.v l a r b v c).lo;omega,by have:=(h.v l a r b v c).hi;omega⟩⟩
theorem bo3{A B:Prop}(k:B)(h:ar B->A:=by intro q7;(first|refine bA ?_|refine aA ?_|(refine' ah ?hc ?_;(case hc=>first|exact HAt|exact HUp|exact HA _ _|exact HU _ _)));exact q7.1):A:=h ⟨k⟩
end
end Go.Proofs.YtilnpcolgcmofaaGreatDoor
