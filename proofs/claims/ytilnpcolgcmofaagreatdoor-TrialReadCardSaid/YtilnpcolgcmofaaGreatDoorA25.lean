/- A part of the proof: Jo Jr Js Af Ag Jt Va Vc Shelf Ba Ma Mb. -/
import Derived.Test.YtilnpcolgcmofaaGreatDoorA24
import Derived.Shelf.Strings.Builder1
import Derived.Shelf.Strconv.Itoa0
import Derived.Shelf.Strconv.Itoa1
import Derived.Shelf.LaysM
import Derived.Shelf.Strconv.Itoa2
import Derived.Shelf.Strconv.Itoa3
import Derived.Lib.Builder
import Derived.Laws.Externs
set_option maxRecDepth 100000
set_option maxHeartbeats 20000000
set_option linter.all false
namespace Go.Proofs.YtilnpcolgcmofaaGreatDoor
open Tryz
section
open Go
abbrev bwD(n:Nat)(g:Nat->Bool):List D:=(List.range n).map λt=>bD (g t)
def TF(l:bX)(m t:Nat):Bool:=(jL l m).getD t false
theorem yc.ok{l:bX}(h:yc l):Qh l=true:=by
 unfold Qh;simp only[zJ,zQ,yA];refine⟨⟨⟨h.n.2,h.m⟩,by have:=h.n.1;omega⟩,λm a=>?_⟩;have:=h.q m a;unfold cb cA;simp only[zJ,zQ];omega
theorem bp4{A B:Prop}(k:B)(h:ar B->A:=by intro q7;(first|refine bO ?_|refine aA ?_|(refine' ah ?hc ?_;(case hc=>first|exact HV|exact HM)));exact q7.1):A:=h ⟨k⟩
theorem Tu{A B:Prop}(k:B)(h:ar B->A:=by intro q7;(first|refine KH ?_|((with_reducible refine' Ld.cellm (tb:=4) (cs:=bwD l.tz.length (TF l m)) ?h1 ?h2 ?_);(case h1=>exact List.Mem.head _);(case h2=>(rw[dW];exact hcur)))|refine KL ?_);exact q7.1):A:=h ⟨k⟩
theorem bp3{A B:Prop}(k:B)(h:ar B->A:=by intro q7;(first|refine Tu ?_|refine aA ?_|(refine' ah ?hc ?_;(case hc=>first|exact HV|exact HM)));exact q7.1):A:=h ⟨k⟩
theorem Tt{A B:Prop}(k:B)(h:ar B->A:=by intro q7;(first|refine KH ?_|((with_reducible refine' Ld.cellm (tb:=4) (cs:=bwD l.tz.length (TF l m)) ?h1 ?h2 ?_);(case h1=>exact List.Mem.tail _ (List.Mem.head _));(case h2=>(rw[dW];exact hcur)))|refine KL ?_);exact q7.1):A:=h ⟨k⟩
theorem bp2{A B:Prop}(k:B)(h:ar B->A:=by intro q7;(first|refine Tt ?_|refine aA ?_|(refine' ah ?hc ?_;(case hc=>first|exact HV|exact HM)));exact q7.1):A:=h ⟨k⟩
end
section
open Go
theorem aS7{n lo h:Int}(b:lo<=n)(a:n<=h):APure prog 46 [iD n,iD lo,iD h] (bD true):=by
 have:=aS8 n lo h
 rwa [yJ b,yJ a]at this
theorem aS9{n lo i:Int}(h:n<lo\/i<n):APure prog 46 [iD n,iD lo,iD i] (bD false):=by
 have:=aS8 n lo i;rcases h with h|h
 .rwa [yE (show ¬lo<=n by omega),Bool.false_and]at this
 .rwa [yE (show ¬n<=i by omega),wW]at this
theorem bp1{A B:Prop}(k:B)(h:ar B->A:=by intro q7;(first|refine bO ?_|refine aA ?_|(refine' ah ?hc ?_;(case hc=>first|exact aS7 (by first|omega|(simp only[zL];omega)) (by first|omega|(simp only[zL];omega))|exact aS9 (by first|omega|(simp only[zL];omega))|exact HF|exact HL|exact HRE|exact HS|exact HT|exact HO)));exact q7.1):A:=h ⟨k⟩
end
section
open Go
theorem bp0{A B:Prop}(k:B)(h:ar B->A:=by intro q7;(first|refine bO ?_|refine aA ?_|(refine' ah ?hc ?_;(case hc=>first|exact HR|exact HK|exact HP)));exact q7.1):A:=h ⟨k⟩
theorem bo9{A B:Prop}(k:B)(h:ar B->A:=by intro q7;(first|refine bO ?_|refine aA ?_|(refine' ah ?hc ?_;(case hc=>first|exact aS7 (by first|omega|(simp only[zL];omega)) (by first|omega|(simp only[zL];omega))|exact aS9 (by first|omega|(simp only[zL];omega))|exact HU|exact HD)));exact q7.1):A:=h ⟨k⟩
end
section
open Go
theorem cu{A B:Prop}(k:B)(h:ar B->A:=by intro q7;(first|refine bO ?_|refine aA ?_|(refine' ah ?hc ?_;(case hc=>exact HU)));exact q7.1):A:=h ⟨k⟩
end
section
open Go
theorem rZ{A B:Prop}(k:B)(h:ar B->A:=by intro q7;(first|refine bO ?_|refine aA ?_|(refine' ah ?hc ?_;(case hc=>exact HF)));exact q7.1):A:=h ⟨k⟩
end
section
open Go
def wQ(x:ak)(w:Wd):List fp:=match eH x with
 |[]=>Ko x w
 |p::_=>[(-1,-1,-1,p.2.2.2)]
theorem bo8{A B:Prop}(k:B)(h:ar B->A:=by intro q7;(first|refine bO ?_|refine aA ?_|(refine' ah ?hc ?_;(case hc=>first|exact aS7 (by first|omega|(simp only[zL];omega)) (by first|omega|(simp only[zL];omega))|exact aS9 (by first|omega|(simp only[zL];omega))|exact HC|exact HF|exact HO|exact HD)));exact q7.1):A:=h ⟨k⟩
theorem aZ2{k f r e:Int}{p:fp}(h:p∈one k f r e):p.2.2.2≠0:=by
 unfold one at h;split at h
 .cases h
 .rw[zN]at h;subst h;assumption
theorem aK7{α:Type}{q:Nat}{g:Nat->List α}{a:α}(h:a∈aq q g):∃i,a∈g i:=by
 unfold aq at h;obtain⟨i,_,h⟩:=List.mem_flatMap.1 h;exact⟨i,h⟩
theorem vg{x:ak}{p:fp}(h:p∈eH x):p.2.2.2≠0:=by
 unfold eH at h;split at h
 .rcases zO.1 h with h|h
  .rcases zO.1 h with h|h
   .obtain⟨i,h⟩:=aK7 h;unfold lA at h;split at h
    .exact aZ2 h
    .cases h
   .obtain⟨i,h⟩:=aK7 h;unfold dQ at h;split at h
    .rcases zO.1 h with h|h
     .exact aZ2 h
     .obtain⟨j,h⟩:=aK7 h;unfold fo at h;split at h
      .exact aZ2 h
      .cases h
    .cases h
  .obtain⟨i,h⟩:=aK7 h;unfold lZ at h;split at h
   .exact aZ2 h
   .cases h
 .rw[zN]at h;subst h;assumption
theorem SL{A B:Prop}(k:B)(h:ar B->A:=by intro q7;(first|refine bO ?_|refine aA ?_|(refine' ah ?hc ?_;(case hc=>exact HN)));exact q7.1):A:=h ⟨k⟩
theorem qP(x:ak)(V:APure prog 108 [ax x] (iD (fI x)))(w:Wd)(e:Ws w):APure prog 14 [ax x,jD w] (.sl 4 ((wQ x w).map bt)):=by
 unfold wQ
 cases a:eH x with
 |nil=>exact wM x w e a V
 |cons p s=>
  have HN:=Cu x w p s a V;have f:p.2.2.2≠0:=vg (x:=x) (by rw[a];exact yN);refine ap func14 ntmps14 λg=>?_
  repeat' first|refine SL ?_|intro b;conv=>whnf
  exact Rt.pure rfl
end
section
open Go Go.RowKit
def we(x:ak)(p:cE)(w:Wd)(m:Int):(Bool×Int×Int)×Int:=
 if(gm x p w m).2.2≠0 then((false,0,0),(gm x p w m).2.2)else((!decide ((gm x p w m).1=0),(gm x p w m).1,(gm x p w m).2.1),0)
def mP(x:ak)(p:cE)(w:Wd)(m:Int):(Bool×Int×Int)×Int:=
 match wQ x w with
 |[]=>we x p w m
 |b::_=>if b.1<0 then((false,0,0),b.2.2.2)else we x p w m
def vdD(v:(Bool×Int×Int)×Int):D:=.tup [.agg [bD v.1.1,iD v.1.2.1,iD v.1.2.2],iD v.2]
abbrev RVm(p:cE)(v:Value)(s:af):Prop:=ae 136 4 (p.map bY) v s
theorem IE(p:cE)(f:p.length<=1000):APure prog 21 [uB p] (uB p):=by
 refine ap func21 ntmps21 λl=>?_
 repeat refine aO ?_
 refine aR mixed ai (γ:=Nat×Value×af) (λg=>[(4,iD g.1),(3,.v g.2.1)]) (λg=>g.2.2) (λg=>g.1<=p.length/\RVm (p.take g.1) g.2.1 g.2.2) (λg=>p.length-g.1) (0,.slice none 0 0,[]) (aj av) (Sc.refl _) ⟨zW _,ae.nil _ _⟩ ?_;rintro⟨i,v,r⟩ ⟨hi,w⟩;simp only at hi w⊢;by_cases hil:i<p.length
 .obtain⟨y,hy⟩:∃y,p[i]?=some y:=⟨_,zD hil⟩
  have e:p[((i:Nat):Int).toNat]?=some y:=hy;have k:p.take (i+1)=p.take i++[y]:=by rw[xC,hy];rfl
  repeat refine aO ?_
  refine Ap.go rfl rfl rfl rfl w (bS _) rfl (zs:=(p.take (i+1)).map bY) (by rw[k,yB];rfl) (by rw[zL,zR];omega) (by rw[zL,zR];omega) (λb=>b) da (λj c1 s a=>?_)
  repeat refine aO ?_
  exact⟨(i+1,_,s),(aj av),Sc.refl _,⟨by omega,a⟩,by simp only;omega⟩
 .obtain rfl:i=p.length:=by omega
  rw[yM]at w
  repeat refine aO ?_
  exact Rt.vs (Vs.row w (bS _))
theorem KX{A B:Prop}(k:B)(h:ar B->A:=by intro q7;(first|refine bO ?_|refine aA ?_|(refine' ah ?hc ?_;(case hc=>exact HR)));exact q7.1):A:=h ⟨k⟩
theorem Yv{p:Prop}(h:p:=by
 refine ap func52 ntmps52 λBB=>?_
 repeat' first|refine KX ?_|intro b;conv=>whnf
 refine nd ai (m:=1) rfl rfl rfl rfl rfl rfl rfl ?_
 repeat' first|refine KX ?_|intro b;conv=>whnf
 exact Rt.vs (Vs.drop (yV _))):p:=h
theorem Ah(x:ak)(p:cE)(w:Wd)(t:Int)(HR:APure prog 93 [ax x,uB p,.ifc 68 (vl w),iD t] (Nb (gm x p w t))):APure prog 52 [ax x,.ifc 68 (vl w),uB p,iD t] (vdD (we x p w t)):=by
 unfold we;by_cases he:(gm x p w t).2.2≠0
 .rw[if_pos he];exact Yv
 .rw[if_neg he];exact Yv
theorem AU{A B:Prop}(k:B)(h:ar B->A:=by intro q7;(first|refine bO ?_|refine aA ?_|(refine' ah ?hc ?_;(case hc=>first|exact HC|exact HJ)));exact q7.1):A:=h ⟨k⟩
theorem Yy{p:Prop}(h:p:=by
 refine ap func20 ntmps20 λBB=>?_
 repeat' first|refine AU ?_|intro b;conv=>whnf
 (refine Ot.yd (M2 rfl rfl underlying68 (λm h=>by cases h)) ?_)
 repeat' first|refine AU ?_|intro b;conv=>whnf
 exact Rt.vs (Vs.drop (yV _))):p:=h
theorem pj(x:ak)(p:cE)(w:Wd)(t:Int)(HC:APure prog 14 [ax x,jD w] (.sl 4 ((wQ x w).map bt)))(R:APure prog 93 [ax x,uB p,.ifc 68 (vl w),iD t] (Nb (gm x p w t))):APure prog 20 [ax x,jD w,uB p,iD t] (vdD (mP x p w t)):=by
 have HJ:=Ah x p w t R;unfold mP
 cases hc:wQ x w with
 |nil=>
  rw[hc]at HC;simp only;exact Yy
 |cons b l=>
  rw[hc]at HC;simp only;by_cases hb:b.1<0
  .rw[if_pos hb];refine ap func20 ntmps20 λBB=>?_
   repeat' first|refine AU ?_|intro b;conv=>whnf
   exact Rt.vs (Vs.refl _ _)
  .rw[if_neg hb];exact Yy
end
section
open Go
def pH(x:ak)(k f:Nat):Bool:=match x.kz[k]? with
 |some kd=>(match kd.fields[f]? with|some d=>decide (d.kind=1)|none=>false)
 |none=>false
def nK(p:cE)(k f:Nat):Bool:=p.any λi=>decide (i.op=5)&&decide (i.b=k)&&decide (i.c=f)
structure ke(x:ak)(p:cE)(w u:Wd):Prop where
 k:u.length=w.length
 n:∀k,(u.getD k []).length=(w.getD k []).length
 f:∀k i,((u.getD k []).getD i []).length=((w.getD k []).getD i []).length
 v:∀k i f,(pH x k f||nK p k f)=true->((u.getD k []).getD i []).getD f 0=((w.getD k []).getD i []).getD f 0
theorem ke.refl(x:ak)(p:cE)(w:Wd):ke x p w w:=⟨rfl,λ_=>rfl,λ_ _=>rfl,λ_ _ _ _=>rfl⟩
theorem ke.symm{x:ak}{p:cE}{w u:Wd}(h:ke x p w u):ke x p u w:=⟨h.k.symm,λk=>(h.n k).symm,λk i=>(h.f k i).symm,λk i f e=>(h.v k i f e).symm⟩
theorem ke.trans{x:ak}{p:cE}{w u z:Wd}(h:ke x p w u)(g:ke x p u z):ke x p w z:=⟨g.k.trans h.k,λk=>(g.n k).trans (h.n k),λk i=>(g.f k i).trans (h.f k i),λk i f e=>(g.v k i f e).trans (h.v k i f e)⟩
abbrev iY(w:Wd):Prop:=∀l∈w,∀r∈l,∀v∈r,en v=true
theorem Bu{x:ak}{r:Rf}(h:r∈bM x):pH x r.kind r.field=true:=by
 unfold bM at h;obtain⟨k,_,h⟩:=tE.1 h;unfold fB at h;split at h
 .rename_i kd a;obtain⟨i,_,h⟩:=tE.1 h;unfold eN at h;split at h
  .rename_i d b;split at h
   .rename_i c;rw[zN]at h;subst h;unfold pH;rw[a];simp only;rw[b];simp[c]
   .cases h
  .cases h
 .cases h
theorem aL7{α:Type}{l:List α}{r:α}{d:α}(h:r∈l):∃i,i<l.length/\l.getD i d=r:=by
 obtain⟨i,a⟩:=yO h;exact⟨i,(zE.1 a).1,by rw[List.getD_eq_getElem?_getD,a];rfl⟩
theorem Mz{α:Type}{l:List α}{i:Nat}{d:α}(h:i<l.length):l.getD i d∈l:=by
 rw[List.getD_eq_getElem?_getD,zD h];exact wE h
theorem s7{x:ak}{p:cE}{w u:Wd}(h:ke x p w u)(n:iY u)(f:cG x w=true):cG x u=true:=by
 unfold cG at f⊢;simp only[zJ,zQ,yA,xT]at f⊢;obtain⟨⟨s,q⟩,o⟩:=f;refine⟨⟨h.k.trans s,λk j=>?_⟩,λr g y b=>?_⟩
 .have c:=q k (h.k ▸ j);unfold qX at c⊢;simp only[zJ,zQ,yA]at c⊢;refine⟨by rw[h.n];exact c.1,λy b=>?_⟩;obtain⟨i,e,rfl⟩:=aL7 (d:=[]) b;have a:=c.2 _ (Mz (d:=[]) (h.n k ▸ e));unfold dB at a⊢;simp only[zJ,yA]at a⊢;refine⟨?_,λv m=>n _ (Mz (d:=[]) j) _ b v m⟩;have l:=a.1;unfold sT at l⊢;rw[h.f];exact l
 .obtain⟨i,e,rfl⟩:=aL7 (d:=[]) b;have a:=o r g _ (Mz (d:=[]) (h.n r.kind ▸ e));unfold tP at a⊢;rw[h.v _ _ _ (by rw[Bu g];rfl),h.n];exact a
theorem IR{x:ak}{p:cE}{w u:Wd}(h:ke x p w u)(a:iY w)(b:iY u):cG x u=cG x w:=by
 cases e:cG x w with
 |true=>exact s7 h b e
 |false=>cases c:cG x u with
  |false=>rfl
  |true=>rw[s7 h.symm a c]at e;cases e
theorem aZ3{k f r e:Int}{b:fp}(h:b∈one k f r e):b.1=k:=by
 unfold one at h;split at h
 .cases h
 .rw[zN]at h;rw[h]
theorem w3{x:ak}{w:Wd}(a:cG x w=true){b:fp}(h:b∈Ko x w):0<=b.1:=by
 unfold Ko at h;rw[if_pos a]at h;rcases zO.1 h with h|h
 .rcases zO.1 h with h|h
  .obtain⟨k,_,h⟩:=tE.1 h;unfold kY at h;split at h
   .rw[aZ3 h];omega
   .cases h
  .obtain⟨k,_,h⟩:=tE.1 h;unfold yn at h;split at h
   .obtain⟨i,_,h⟩:=tE.1 h;unfold iF at h;split at h
    .rcases zO.1 h with h|h
     .obtain⟨f,_,h⟩:=tE.1 h;unfold jm at h;split at h
      .rw[aZ3 h];omega
      .cases h
     .obtain⟨f,_,h⟩:=tE.1 h;unfold jf at h;split at h
      .rw[aZ3 h];omega
      .cases h
    .cases h
   .cases h
 .obtain⟨q,_,h⟩:=tE.1 h;unfold EZ at h;split at h
  .obtain⟨j,_,h⟩:=tE.1 h;unfold iQ at h;split at h
   .rw[aZ3 h];omega
   .cases h
  .cases h
theorem mO{x:ak}(a:eH x=[])(p:cE)(w:Wd)(m:Int):mP x p w m=if cG x w=true then we x p w m else((false,0,0),2):=by
 unfold mP wQ;rw[a];simp only;split
 .rename_i h;by_cases hf:cG x w=true
  .rw[if_pos hf]
  .unfold Ko at h;rw[if_neg hf]at h;cases h
 .rename_i b l h;by_cases hf:cG x w=true
  .rw[if_pos hf,if_neg];have:=w3 hf (b:=b) (by rw[h];exact yN);omega
  .unfold Ko at h;rw[if_neg hf]at h
   cases h
   rw[if_neg hf,if_pos (by decide)]
theorem As{x:ak}{p:cE}{w u:Wd}(h:ke x p w u){i:VI}(b:i∈p)(d:i.op=5->0<=i.b/\0<=i.c)(r:List Int)(a:Int):gi u r a i=gi w r a i:=by
 have c:∀k,iR u k=iR w k:=λk=>by unfold iR;rw[h.n]
 unfold gi;rw[c];by_cases h5:i.op=5
 .obtain⟨f,e⟩:=d h5;have v:ug u i.b (ek r i.a) i.c=ug w i.b (ek r i.a) i.c:=h.v _ _ _ (by
   have:nK p i.b.toNat i.c.toNat=true:=wC.2 ⟨i,b,by simp[h5];omega⟩;rw[this,Bool.or_true])
  rw[v]
 .simp[h5]
theorem se{x:ak}{p:cE}{w u:Wd}(h:ke x p w u)(b:∀i∈p,i.op=5->0<=i.b/\0<=i.c):∀(f:Nat)(n:Int)(r:List Int)(a:Int),ey u p f n r a=ey w p f n r a
 |0,n,r,a=>by unfold ey;rfl
 |f+1,n,r,a=>by
  unfold ey;split
  .rfl
  .rename_i i c;have m:=zG c;rw[As h m (b i m)];split
   .rfl
   .exact se h b f _ _ _
theorem Bd{x:ak}{p:cE}{w u:Wd}(a:eH x=[])(P:fx x p)(h:ke x p w u)(b:iY w)(c:iY u)(m:Int):mP x p u m=mP x p w m:=by
 have r:gm x p u m=gm x p w m:=by
  unfold gm;rw[se h λi d e=>by
   obtain⟨_,_,fb,f⟩:=P.ok i d;rw[e]at fb f;exact⟨(ZZ fb).1,(bb2 f).1⟩]
 rw[mO a,mO a,IR h b c];unfold we;rw[r]
theorem QV{α:Type}(l:List α)(i j:Nat)(y d:α):(l.set i y).getD j d=if i=j/\i<l.length then y else l.getD j d:=by
 rw[List.getD_eq_getElem?_getD,List.getD_eq_getElem?_getD,xP];by_cases e:i=j
 .subst e;by_cases h:i<l.length
  .simp[h]
  .simp[h]
 .simp[e]
theorem JY{x:ak}{p:cE}{u:Wd}{k i f:Nat}{l:List (List Int)}{r:List Int}(m:u[k]?=some l)(j:l[i]?=some r)(n:(pH x k f||nK p k f)=false)(v:Int):ke x p u (u.set k (l.set i (r.set f v))):=by
 have e:u.getD k []=l:=by rw[List.getD_eq_getElem?_getD,m];rfl
 have d:l.getD i []=r:=by rw[List.getD_eq_getElem?_getD,j];rfl
 refine⟨yR,λb=>?_,λb g=>?_,λb g q c=>?_⟩
 .rw[QV];split
  .rename_i h;rw[yR,←h.1,e]
  .rfl
 .rw[QV];split
  .rename_i h;rw[QV,←h.1,e];split
   .rename_i a;rw[yR,←a.1,d]
   .rfl
  .rfl
 .rw[QV];split
  .rename_i h;rw[QV,←h.1,e];split
   .rename_i a;rw[QV,←a.1,d];split
    .rename_i o;rw[←h.1,←o.1,n]at c;cases c
    .rfl
   .rfl
  .rfl
theorem Ib{u:Wd}{k i f:Nat}{l:List (List Int)}{r:List Int}(h:iY u)(o:u[k]?=some l)(n:l[i]?=some r){v:Int}(m:en v=true):iY (u.set k (l.set i (r.set f v))):=by
 have g:=h l (zG o);have p:=g r (zG n);intro j c e b d a;rcases yZ c with c|rfl
 .exact h j c e b d a
 rcases yZ b with b|rfl
 .exact g e b d a
 rcases yZ a with a|rfl
 .exact p d a
 .exact m
end
end Go.Proofs.YtilnpcolgcmofaaGreatDoor
namespace Go.Proofs
open Tryz YtilnpcolgcmofaaGreatDoor
open Go.Shelf
def IA:Go.Shelf.Ren:=⟨λ|246=>275|283=>278|284=>279|285=>280|286=>281|129=>286|317=>285|318=>287|319=>288|320=>289|337=>290|338=>291|n=>n,λ|2=>2|3=>3|9=>9|4=>4|171=>366|0=>0|53=>367|37=>147|5=>5|173=>370|212=>379|51=>372|20=>20|213=>380|46=>381|232=>363|233=>384|n=>n,λ|17=>3|18=>4|19=>5|n=>n⟩
def IB:Go.Shelf.Ren:=⟨λ|243=>271|246=>275|283=>278|284=>279|285=>280|286=>281|129=>286|317=>285|318=>287|319=>288|320=>289|337=>290|338=>291|n=>n,λ|3=>3|9=>9|2=>2|4=>4|171=>366|0=>0|53=>367|37=>147|5=>5|173=>370|212=>379|51=>372|20=>20|213=>380|46=>381|232=>363|233=>384|n=>n,λ|17=>3|18=>4|19=>5|n=>n⟩
def kZ:Go.Shelf.Ren:=⟨λ|171=>260|243=>271|246=>275|283=>278|284=>279|285=>280|286=>281|129=>286|317=>285|318=>287|319=>288|320=>289|337=>290|338=>291|n=>n,λ|3=>3|9=>9|2=>2|4=>4|171=>366|0=>0|53=>367|37=>147|5=>5|173=>370|212=>379|51=>372|20=>20|213=>380|46=>381|232=>363|233=>384|n=>n,λ|17=>3|18=>4|19=>5|n=>n⟩
theorem C0:Go.Proofs.LaysM.n171 prog kZ:={
 mixed:=by kernel_rfl
 f129:=func286.trans (zM some (by kernel_rfl))
 f171:=func260.trans (zM some (by kernel_rfl))
 f243:=func271.trans (zM some (by kernel_rfl))
 f246:=func275.trans (zM some (by kernel_rfl))
 f283:=func278.trans (zM some (by kernel_rfl))
 f284:=func279.trans (zM some (by kernel_rfl))
 f285:=func280.trans (zM some (by kernel_rfl))
 f286:=func281.trans (zM some (by kernel_rfl))
 f317:=func285.trans (zM some (by kernel_rfl))
 f318:=func287.trans (zM some (by kernel_rfl))
 f319:=func288.trans (zM some (by kernel_rfl))
 f320:=func289.trans (zM some (by kernel_rfl))
 f337:=func290.trans (zM some (by kernel_rfl))
 f338:=func291.trans (zM some (by kernel_rfl))
 t0:=underlying0
 a0:=isAgg0
 z0:=sizeOf0
 v0:=zeroValue0
 t2:=underlying2
 a2:=isAgg2
 z2:=sizeOf2
 v2:=zeroValue2
 t3:=underlying3
 a3:=isAgg3
 z3:=sizeOf3
 v3:=zeroValue3
 t4:=underlying4
 a4:=isAgg4
 z4:=sizeOf4
 v4:=zeroValue4
 t5:=underlying5
 a5:=isAgg5
 z5:=sizeOf5
 v5:=zeroValue5
 t9:=underlying9
 a9:=isAgg9
 z9:=sizeOf9
 v9:=zeroValue9
 t20:=underlying20
 a20:=isAgg20
 z20:=sizeOf20
 v20:=zeroValue20
 t37:=underlying147
 a37:=isAgg147
 z37:=sizeOf147
 v37:=zeroValue147
 t46:=underlying381
 a46:=isAgg381
 z46:=sizeOf381
 v46:=zeroValue381
 t51:=underlying372
 a51:=isAgg372
 z51:=sizeOf372
 v51:=zeroValue372
 t53:=underlying367
 a53:=isAgg367
 z53:=sizeOf367
 v53:=zeroValue367
 t171:=underlying366
 a171:=isAgg366
 z171:=sizeOf366
 v171:=zeroValue366
 t173:=underlying370
 a173:=isAgg370
 z173:=sizeOf370
 v173:=zeroValue370
 t212:=underlying379
 a212:=isAgg379
 z212:=sizeOf379
 v212:=zeroValue379
 t213:=underlying380
 a213:=isAgg380
 z213:=sizeOf380
 t232:=underlying363
 a232:=isAgg363
 z232:=sizeOf363
 v232:=zeroValue363
 t233:=underlying384
 a233:=isAgg384
 z233:=sizeOf384
 v233:=zeroValue384
 g17:=by kernel_rfl
 g18:=by kernel_rfl
 g19:=by kernel_rfl
 i0:=by kernel_rfl
 i2:=by kernel_rfl
 i3:=by kernel_rfl
 i4:=by kernel_rfl
 i5:=by kernel_rfl
 i9:=by kernel_rfl
 i20:=by kernel_rfl
 i37:=by kernel_rfl
 i46:=by kernel_rfl
 i51:=by kernel_rfl
 i53:=by kernel_rfl
 i171:=by kernel_rfl
 i173:=by kernel_rfl
 i212:=by kernel_rfl
 i232:=by kernel_rfl
 i233:=by kernel_rfl
 m17:=by kernel_rfl
 m18:=by kernel_rfl
 m19:=by kernel_rfl }
open Go.RowKit Go.Sort Go.Lib in
theorem strconv_Itoa(n:Int)(h0:-9223372036854775808<=n)(h1:n<=9223372036854775807)(w:World)(htab:Lib.TabIs prog w "internal/strconv.uint64pow10" .u64 Lib.pow10Tab) :
  Calls prog 260 #[.int .i64 n] w λe w'=>e= .returned (.string ⟨(Lib.itoa n).toArray⟩)/\∃k os,w'=grow (w.drewN k) os:=Any.strconv_Itoa C0 n h0 h1 w htab
end Go.Proofs
namespace Go.Proofs.YtilnpcolgcmofaaGreatDoor
open Tryz
section
open Go Go.RowKit Go.Shelf
theorem Qi{w:World}{O:Nat->Prop}{d:D}{b:List D}{s:List Value}(h:be w O (d::b) s):∃u a,s=u::a/\Rd w O d u/\be w O b a:=by
 cases s with
 |nil=>have:=h.len;simp at this
 |cons u a=>exact⟨u,a,rfl,h.at_ 0 _ _ rfl rfl,⟨by have:=h.len;simpa using this,λj d u e c=>h.at_ (j+1) d u (by simpa using e) (by simpa using c)⟩⟩
theorem ZT{w:World}{O:Nat->Prop}{u:List Value}(h:be w O [] u):u=[]:=by
 have:=h.len;exact List.eq_nil_of_length_eq_zero (by simpa using this)
theorem wi:(prog.info? 5).map (λi=>(i.zero,i.size,i.bytes))=some (some (.int .u8 0),1,1):=by kernel_rfl
theorem r4:(prog.info? 316).map (λi=>i.size)=some 2:=by kernel_rfl
theorem Jv(b:Nat)(w:World)(c:w.cell? ⟨b,0,none⟩=some (.pointer (some ⟨b,0,none⟩))) :
  Calls prog 258 #[.pointer (some ⟨b,0,none⟩)] w λe a=>e= .returned (.tuple #[])/\w=a:=by
 obtain⟨j,h,_⟩:=xN.1 r4
 go_enter func258,ntmps258
 go_wp2
 rw[Lib.run_neq_ptr_same w _ underlying314 h]
 go_wp2
 go_end0
 exact⟨rfl,rfl⟩
theorem Et(b:Nat)(w:World)(d:w.cell? ⟨b,0,none⟩=some (.pointer none))(h:w.shape? b=some (316,2))(z:w.frozen? ⟨b,0,none⟩=false) :
  Calls prog 258 #[.pointer (some ⟨b,0,none⟩)] w λe c=>e= .returned (.tuple #[])/\c=w.setCell ⟨b,0,none⟩ (.pointer (some ⟨b,0,none⟩)):=by
 obtain⟨j,a,s⟩:=xN.1 r4
 go_enter func258,ntmps258
 go_wp2
 rw[Lib.run_to_unsafe w ⟨b,0,none⟩ underlying314 underlying357 a (by rw[s];decide) h (Nat.zero_lt_succ 1)];simp only[Result.andThen];rw[Oper.upon_value]
 go_wp2
 rw[run_callFunc_extern func270 (by kernel_rfl) (by kernel_rfl) (by kernel_rfl) (e:=Extern.AbiNoEscape.same) (by kernel_rfl)];rw[Lib.run_noEscape];simp only[Result.andThen];rw[Oper.upon_value]
 go_wp2
 rw[Lib.run_from_unsafe w ⟨b,0,none⟩ underlying357 underlying314 a h (by kernel_rfl)];simp only[Result.andThen];rw[Oper.upon_value]
 go_wp2
 go_end0
 exact⟨rfl,rfl⟩
abbrev pB(b:Nat):Value:=.pointer (some ⟨b,0,none⟩)
abbrev kB(b:Nat)(p v:Value):Nat×aB:=(b,.cells 316 [.v p,.v v])
theorem oh(b:Nat)(p v:Value)(k:p= .pointer none\/p=pB b):az prog 258 [.v (pB b)] [kB b p v] (λd σ=>d= .any/\σ=[kB b (pB b) v]):=by
 refine⟨enters_of func258 (by kernel_rfl) rfl,λw X vs j s=>?_⟩;obtain⟨u,c,rfl,q,n⟩:=Qi j;rw[ZT n,q.val rfl];obtain⟨_,o,h,vs,rfl,a⟩:=s.at_ b _ yN;obtain⟨x,c,rfl,g,a⟩:=Qi a;obtain⟨y,c,rfl,r,a⟩:=Qi a;rw[ZT a,g.val rfl,r.val rfl]at h;rcases k with rfl|rfl
 .refine(Et b w (by simp[World.cell?,h]) (by simp[World.shape?,h]) (by simp[World.frozen?,h])).mono ?_;rintro e f ⟨rfl,rfl⟩;have l:aX (λx=>x=b) w (w.setCell ⟨b,0,none⟩ (pB b)):=(aX.refl (λx=>x=b) w).setCell (p:=⟨b,0,none⟩) (.inr rfl) _;have m:(w.setCell ⟨b,0,none⟩ (pB b)).heap[b]?=some (.cells [pB b,v].toArray 316 (0,0)):=by
   simp only[World.setCell,Array.getElem?_modify,if_true,h]
   rfl
  obtain⟨z,t,_⟩:=s.upd (i:=0) rfl (k':=.cells 316 [.v (pB b),.v v]) l m ⟨_,rfl,.cons (.v _) (.cons (.v _) .nil)⟩;exact⟨_,.any,_,rfl,⟨rfl,rfl⟩,.any _,z,t⟩
 .refine(Jv b w (by simp[World.cell?,h])).mono ?_;rintro e f ⟨rfl,rfl⟩;exact⟨_,.any,_,rfl,⟨rfl,rfl⟩,.any _,s,Mv.refl _ _⟩
def ib(l:List Nat)(v:Value)(s:af):Prop:=(∀d∈l,d<256)/\((l=[]/\v= .slice none 0 0/\s=[])\/(l≠[]/\ae 5 1 (l.map λ(d:Nat)=>[D.v (.int .u8 (d:Int))]) v s))
theorem ib.row{l:List Nat}{v:Value}{s:af}(h:ib l v s):ae 5 1 (l.map λ(d:Nat)=>[D.v (.int .u8 (d:Int))]) v s:=by
 rcases h.2 with⟨rfl,rfl,rfl⟩|⟨_,h⟩
 .exact ae.nil _ _
 .exact h
theorem ib.slice{l:List Nat}{v:Value}{s:af}(h:ib l v s):∃a n c,v= .slice a n c:=by
 obtain⟨a,c,e⟩:=h.row.slice;exact⟨a,_,c,e⟩
theorem ib.add{l t:List Nat}{v:Value}{s:af}(h:∀d∈l++t,d<256)(e:t≠[])(r:ae 5 1 ((l++t).map λ(d:Nat)=>[D.v (.int .u8 (d:Int))]) v s):ib (l++t) v s:=⟨h,.inr ⟨by simp[e],r⟩⟩
def me(b n:Nat)(σ:af):Prop:=∃p v s l,σ=kB b p v::s/\(p= .pointer none\/p=pB b)/\l.length=n/\ib l v s
theorem me.new(b:Nat):me b 0 [kB b (.pointer none) (.slice none 0 0)]:=⟨_,_,[],[],rfl,.inl rfl,rfl,(λd h=>by cases h),.inl ⟨rfl,rfl,rfl⟩⟩
section
variable {P:Program} {w:World} {X:Nat->Prop}
theorem ou{t E ty e:TypeId}{i:TypeInfo}{l:List Nat}(r:P.underlying t=some (.slice e))(q:P.underlying E=some .string)(Q:P.info? e=some i)(M:i.zero=some (.int .u8 0))(k:i.size=1)(z:i.bytes=1)
  (F:aW w X []) (V:∀d∈l,d<256) (I:l≠[]) (hm:l.length<=1000000000) :
  ∃C a G,(Builtin.append_ #[t,E] ty #[.slice none 0 0,.string (bB l)]).run P w= .ok C a/\ae e 1 (l.map λ(d:Nat)=>[D.v (.int .u8 (d:Int))]) C G/\aW a X G/\Mv w [] a G:=by
 have Z:0<l.length:=xS.2 I;obtain⟨C,a,n,f,K,_⟩:=Lib.run_append_own_string (P:=P) w 0 t E ty e i r q Q M k z (.slice none 0 0) 0 [] (World.ownsRow_nil _ _ _ _) (bB l) (by rw[j8];unfold maxLen;omega) (by rw[j8];omega) (zW _);have N:=run_append_nil_string (P:=P) w t E ty e i _ r q Q M (bB l) (by rw[j8];exact Z) (by rw[j8];omega) (by rw[z,j8];omega);rw[N]at n;have x:Ex w a:=by cases n;exact((Ex.refl w).drew).alloc
 have T:C.ownBlock=some w.heap.size:=by cases n;rfl
 have L:Lib.strCells (bB l)=l.map λ(d:Nat)=>Value.int .u8 (d:Int):=aS4 V;rw[j8,xD,List.nil_append]at f;rcases f.2 with⟨rfl,h⟩|⟨g,B,c,rfl,_,hg,u,m,v,H⟩
 .omega
 .obtain rfl:g=w.heap.size:=wK T;have J:∀y∈l.map (λ(d:Nat)=>[D.v (.int .u8 (d:Int))]),y.length=1:=λy S=>by
   obtain⟨d,_,rfl⟩:=xM.1 S
   rfl
  have s:be a (ay [(w.heap.size,aB.cells e ((l.map λ(d:Nat)=>[D.v (.int .u8 (d:Int))]).flatten++List.replicate (c.toList.drop (l.length*1)).length .any))] X) (l.map λ(d:Nat)=>[D.v (.int .u8 (d:Int))]).flatten (Lib.strCells (bB l)):=by
   rw[L,la l];have R:=Lb (w:=a) (O:=ay [(w.heap.size,aB.cells e (l.map (λ(d:Nat)=>D.v (.int .u8 (d:Int)))++List.replicate (c.toList.drop (l.length*1)).length .any))] X) (l.map λ(d:Nat)=>Value.int .u8 (d:Int));rw[vA]at R;exact R
  have Y:¬X w.heap.size:=λhx=>by have:=F.xlt _ hx;omega
  refine⟨_,a,[(w.heap.size,.cells e ((l.map λ(d:Nat)=>[D.v (.int .u8 (d:Int))]).flatten++List.replicate (c.toList.drop (l.length*1)).length .any))],N.trans n,⟨J,.inr ⟨_,B,_,by rw[zL],rfl,by rw[zL];exact u,m,?_,λd W=>(List.mem_replicate.1 W).2⟩⟩,⟨by simp[aS],?_,λb o=>yI (F.xlt b o) x.size,?_⟩,⟨x.keep,λb o=>?_⟩⟩
  .simp only[zL,zY,List.length_drop,Array.length_toList,v];omega
  .intro b kk A;simp only[zN,vY]at A;obtain⟨rfl,rfl⟩:=A;refine⟨Y,_,hg,c.toList,by simp,?_⟩;have j:=s.append (kN (w:=a) (c.toList.drop (l.length*1)));rw[←H,vF]at j;exact j
  .refine F.gok.keep x.size (λb o U ho=>?_) (λb o _=>x.block b o) (λb ho=>?_)
   .rcases ho with ho|ho
    .exact U (.inl ho)
    .simp only[aS,List.map_cons,List.map_nil,zN]at ho;omega
   .rcases ho with ho|ho
    .exact yI (F.xlt b ho) x.size
    .exact LZ
  .simp only[aS,List.map_cons,List.map_nil,zN]at o;subst o;exact .inr (zT _)
end
section
variable {P:Program} {r:Option Nat} {n:Nat} {df:Nat} {N:Nat} {σ:af} {f:aM} {L:List Oper}
theorem cm.apbuf{o:Oper}{p x:Operand}{t U:TypeId}{u:TypeInfo}{m l:List Nat}{v:Value}{s τ:af}{K:aM->af->Prop}
  (ho:o.op= .call { callee:=.builtin .append,args:=#[p,x],argTypes:=#[t,U] }) (hp:aK f p= .v v) (hx:aK f x=cX l) (D:P.underlying t=some (.slice 5)) (C:P.underlying U=some .string) (hi:P.info? 5=some u) (hz:u.zero=some (.int .u8 0)) (j:u.size=1) (O:u.bytes=1)
  (hr:ib m v s) (H:σ.Perm (s++τ)) (hl:∀d∈l,d<256) (hm:m.length+l.length<=1000000000)
  (fs:af->af) (hq:∀g,(g++τ).Perm (fs g))
  (kk:∀a n c g,ib (m++l) (.slice a n c) g->W (aT N o.dst (.v (.slice a n c)) f (λG=>K G (fs g)))):cm P r n df L N o f σ K:=by
 have E:∀d∈m++l,d<256:=λd T=>(zO.1 T).elim (hr.1 d) (hl d);rcases hr.2 with⟨rfl,rfl,rfl⟩|⟨J,h⟩
 .refine⟨λA Q a q V hk=>?_⟩;refine JO H ?_;refine o3 V (by rw[ho];rfl) λw X fr k=>?_;have hpv:=q.le p _ _ _ (k.fr.eval p);rw[hp]at hpv;have hpv:=hpv.val rfl;have hxv:=q.le x _ _ _ (k.fr.eval x);rw[hx]at hxv;have hxv:=hxv.val rfl;have M:=k.st.left;obtain⟨z,y,g,S,g1,g3,R⟩:∃z y g,ib ([]++l) z g/\(Builtin.append_ #[t,U] o.type #[.slice none 0 0,.string (bB l)]).run P w= .ok z y/\aW y (λb=>X b\/b∈aS τ) g/\Mv w [] y g:=by
   by_cases F:l=[]
   .subst F;have hf:=Lib.run_firstCells_string (P:=P) w 1 (bB []);refine⟨.slice none 0 0,w,[],⟨E,.inl ⟨rfl,rfl,rfl⟩⟩,?_,M,Mv.refl _ _⟩;have I:(bB []).size=0:=rfl;rw[I]at hf;simp[Builtin.append_,run_underlying D,run_underlying C,sizeOf,typeInfo,hi,j,Builtin.lenOf,I,hf]
   .obtain⟨z,y,g,g1,g2,g3,R⟩:=ou (ty:=o.type) D C hi hz j O M hl F (by simpa using hm);exact⟨z,y,g,⟨E,.inr ⟨by simpa using F,g2⟩⟩,g1,g3,R⟩
  have ee:(execOp fr.eval o).run P w= .ok (.value z) y:=XN;rw[ee];obtain⟨q1,q2,q3,q4⟩:=stays k.st g3 R;obtain⟨va,vn,vc,rfl⟩:=S.slice;obtain⟨G,Y,h4⟩:=fK (kk _ _ _ g S).h q;exact⟨_,_,q2,(⟨k.fr.keep R.keep.size q3 q4,q1,k.df.keep R.keep.size q3 q4⟩:St y X df a (g++τ) fr).put (.v _) o.dst,JO (hq g) (hk _ _ _ h4 Y)⟩
 .refine⟨λA Q a q V hk=>?_⟩;refine(cm.apstr (l:=l) (K:=λG σ'=>∃g,σ'=g++τ/\K G (fs g)) ho hp hx D C hi hz j O h (by simpa using J) H hl (by rw[zL];exact hm) (λz g Z=>?_)).run A Q a q V (λG σ' a'⟨g,e,h1⟩h2=>by subst e;exact JO (hq g) (hk G _ a' h1 h2));have S:ib (m++l) z g:=⟨E,.inr ⟨by simp[J],by rw[yB];exact Z⟩⟩
  obtain⟨va,vn,vc,rfl⟩:=S.slice;have B:=(kk _ _ _ g S).h;refine⟨?_⟩
  cases T:o.dst with
  |none=>rw[T]at B;exact⟨g,rfl,B⟩
  |some i=>
   rw[T]at B;simp only[aT]at B⊢
   cases hb:Nat.blt i N with
   |true=>rw[hb]at B;exact⟨g,rfl,B⟩
   |false=>rw[hb]at B;exact B
end
/- String,of bytes: they are frozen. -/
theorem PB(b g a:Nat)(p:Value)(c:Array Value)(l:List Nat)(r:∀d∈l,d<256)(w:World)(t:l≠[])(q:w.heap[b]?=some (.cells #[p,.slice (some ⟨g,0,none⟩) l.length a] 316 (0,0)))(n:w.heap[g]?=some (.cells c 5 (0,0)))
  (m:l.length<=a) (i:a<=maxLen) (s:c.size=a) (h:c.toList.take l.length=l.map λ(d:Nat)=>Value.int .u8 (d:Int)) :
  Calls prog 223 #[.pointer (some ⟨b,0,none⟩)] w λe v=>e= .returned (.string (bB l))/\v=w.drew.freeze ⟨g,0,none⟩ l.length:=by
 have y:0<l.length:=xS.2 t;have c1:w.drew.cell? ⟨b,1,none⟩=some (.slice (some ⟨g,0,none⟩) l.length a):=by
  have:w.drew.heap[b]?=_:=q;rw[Lib.cell_of_heap this];rfl
 have D:(Builtin.unsafeSliceData_ #[147] 348 #[.slice (some ⟨g,0,none⟩) l.length a]).run prog w.drew= .ok (.pointer (some ⟨g,0,none⟩)) w.drew:=
  Lib.run_unsafeSliceData_row _ _ _ _ _ _ (by omega)
 have f:(l.map UInt8.ofNat).length=l.length:=zL ..;have S:=Lib.run_unsafeString_row (P:=prog) w.drew 348 3 9 5 underlying348 (by kernel_rfl) g c.size (by have k:w.drew.heap[g]?=some (.cells c 5 (0,0)):=n;simp[World.shape?,k]) (l.map UInt8.ofNat) (by simpa using t) (by rw[f];omega) (by rw[f];unfold maxLen at i;omega) (λj x hx=>by
  rw[qA]at hx;obtain⟨d,o,rfl⟩:=xN.1 hx;have z:=(zE.1 o).1;have A:=r d (zG o);have E:c[j]?=some (.int .u8 (d:Int)):=by
   have u:(c.toList.take l.length)[j]?=some (.int .u8 (d:Int)):=by rw[h,qA,o];rfl
   rw[yX,if_pos z]at u
   simpa using u
  have k:w.drew.heap[g]?=some (.cells c 5 (0,0)):=n;have C:(UInt8.ofNat d).toNat=d:=by simp;omega
  rw[C,yS];simp[World.cell?,k,E])
 rw[f]at S;have B:(⟨(l.map UInt8.ofNat).toArray⟩:ByteArray)=bB l:=rfl;rw[B]at S;clear m i s h n f r
 go_enter func223,ntmps223
 go_wp2
 go_region
 all_goals(go_wp2;go_ret;exact⟨rfl,rfl⟩)
theorem PC(b:Nat)(p:Value)(w:World)(h:w.heap[b]?=some (.cells #[p,.slice none 0 0] 316 (0,0))) :
  Calls prog 223 #[.pointer (some ⟨b,0,none⟩)] w λe a=>e= .returned (.string ⟨#[]⟩)/\a=w.drew:=by
 have S:∀q W,(Builtin.unsafeString_ #[348,3] 9 #[.pointer q,.int .i64 0]).run prog W= .ok (.string .empty) W:=λq W=>Lib.run_unsafeString_none W _ _ _ q;have c1:w.drew.cell? ⟨b,1,none⟩=some (.slice none 0 0):=by
  have:w.drew.heap[b]?=_:=h;rw[Lib.cell_of_heap this];rfl
 have D:(Builtin.unsafeSliceData_ #[147] 348 #[.slice none 0 0]).run prog w.drew= .ok (.pointer none) w.drew:=rfl
 go_enter func223,ntmps223
 go_wp2
 go_region
 all_goals(go_wp2;go_ret;exact⟨rfl,rfl⟩)
theorem bi2(b n:Nat)(σ:af)(h:me b n σ):az prog 223 [.v (pB b)] σ (λd σ'=>∃s:ByteArray,d= .v (.string s)/\s.size=n/\σ'=[]):=by
 obtain⟨p,v,s,l,rfl,hp,rfl,f⟩:=h;refine⟨enters_of func223 (by kernel_rfl) rfl,λw X vs T A=>?_⟩;obtain⟨u,G,rfl,W,V⟩:=Qi T;rw[ZT V,W.val rfl];obtain⟨_,o,C,vs,rfl,t⟩:=A.at_ b _ yN;obtain⟨x,G,rfl,Q,t⟩:=Qi t;obtain⟨y,G,rfl,P,t⟩:=Qi t;rw[ZT t,Q.val rfl,P.val rfl]at C;rcases f.2 with⟨rfl,rfl,rfl⟩|⟨m,K⟩
 .refine(PC b p w C).mono ?_;rintro e O ⟨rfl,rfl⟩;have hx:Ex w w.drew:=(Ex.refl w).drew;exact⟨_,_,[],rfl,⟨_,rfl,rfl,rfl⟩,.v _,(A.ex hx).sub (yV _),(jJ hx).fewer (λb f=>by cases f)⟩
 .obtain⟨g,z,I,rfl,rfl,q,r,L,_⟩:=K.block (by simpa using m);obtain⟨_,o,N,vs,rfl,M⟩:=A.at_ g _ (yQ _ yN);have a:=Fr K.len;rw[zL]at q L a C;have D:vs.length=z:=by rw[M.len,zI,a];omega
  have J:=M.take l.length;rw[List.take_left' (by rw[a];omega),la]at J;have c:vs.take l.length=l.map λ(d:Nat)=>Value.int .u8 (d:Int):=by
   refine xY λj=>?_
   cases B:l[j]? with
   |none=>
    have L:l.length<=j:=by simpa using B
    rw[qA,B,yX,if_neg (by omega)];rfl
   |some d=>
    obtain⟨u,S,R⟩:=J.get (j:=j) (d:=.v (.int .u8 (d:Int))) (by rw[qA,B];rfl);rw[S,R.val rfl,qA,B];rfl
  refine(PB b g z p vs.toArray l f.1 w m C N q r (by simpa using D) c).mono ?_;rintro e O ⟨rfl,rfl⟩;have F:aX (λx=>x=g) w (w.drew.freeze ⟨g,0,none⟩ l.length):=by
   unfold World.freeze;split
   .exact⟨rfl,rfl,rfl,zT _,λ_ _ _=>rfl⟩
   .exact⟨rfl,rfl,rfl,by simp,λk F U=>by
     simp only[Array.getElem?_modify];rw[if_neg (λe=>U e.symm)];rfl⟩
  obtain⟨H,E⟩:∃H,(w.drew.freeze ⟨g,0,none⟩ l.length).heap[g]?=some H:=⟨_,Array.getElem?_eq_getElem (yI (zX.1 N).1 F.size)⟩
  obtain⟨Z,Y,_⟩:=A.upd (i:=1) rfl (k':=.obj λ_=>True) F E trivial;exact⟨_,_,[],rfl,⟨_,rfl,j8 l,rfl⟩,.v _,Z.sub (yV _),Y.fewer (λb f=>by cases f)⟩
theorem PG(b n:Nat)(σ:af)(h:me b n σ)(t:List Nat)(ht:∀d∈t,d<256)(q:n+t.length<=1000000000):az prog 219 [.v (pB b),cX t] σ (λd σ'=>d= .any/\me b (n+t.length) σ'):=by
 obtain⟨p,v,s,l,rfl,o,rfl,hb⟩:=h;obtain⟨k,hi,hj⟩:=xN.1 wi;simp only[vY]at hj;obtain⟨i,g,f⟩:=hj;refine cP func219 ntmps219 λr=>?_
 repeat refine ao ?_
 refine bc (oh b p v o) (by exact zH ([_]++s)) (λe=>e++s) (λe=>zH _) ?_;rintro _ _ ⟨rfl,rfl⟩
 repeat refine ao ?_
 refine cm.apbuf (m:=l) (l:=t) rfl rfl rfl underlying147 underlying9 hi i g f hb (τ:=[kB b (pB b) v]) (by exact yT (l₁:=[kB b (pB b) v])) ht q (λe=>kB b (pB b) v::e) (λe=>yT) (λa n c e j=>?_)
 repeat refine ao ?_
 exact Rt.by (Vs.le (λ_ _ v _=>.any v)) ⟨rfl,_,_,_,_,rfl,.inr rfl,zI,j⟩
theorem tB(b n:Nat)(σ:af)(h:me b n σ)(c:Nat)(hc:c<256)(i:n+1<=1000000000):az prog 259 [.v (pB b),.v (.int .u8 (c:Int))] σ (λd σ'=>d= .any/\me b (n+1) σ'):=by
 obtain⟨p,v,s,l,rfl,f,rfl,hb⟩:=h;refine cP func259 ntmps259 λk=>?_
 repeat refine ao ?_
 refine bc (oh b p v f) (by exact zH ([_]++s)) (λe=>e++s) (λe=>zH _) ?_;rintro _ _ ⟨rfl,rfl⟩
 repeat refine ao ?_
 refine Ap.go rfl rfl rfl rfl hb.row (τ:=[kB b (pB b) v]) (by exact yT (l₁:=[kB b (pB b) v])) rfl (zs:=(l++[c]).map λ(d:Nat)=>[D.v (.int .u8 (d:Int))]) (by rw[yB];rfl) (by simp;omega) (by simp;omega) (λe=>kB b (pB b) v::e) (λe=>yT) (λa j e r=>?_)
 repeat refine ao ?_
 exact Rt.by (Vs.le (λ_ _ v _=>.any v)) ⟨rfl,_,_,_,l++[c],rfl,.inr rfl,zI,ib.add (λd g=>(zO.1 g).elim (hb.1 d) (λh=>by rw[zN]at h;omega)) (by simp) r⟩
end
section
open Go
abbrev yo(f:FuncId):D:=.v (.func (.func f) #[] #[])
abbrev cD(c:UInt8):D:=.v (.int .u8 c.toNat)
theorem ML(n a b:Int):APure prog 158 [iD n,iD a,iD b] (bD (cA n a b)):=by
 refine ap func158 ntmps158 λe=>?_;exact XU
theorem aG9(lo hi a b:Int):APure prog 211 [iD lo,iD hi,iD a,iD b] (bD (lG lo hi a b)):=by
 refine ap func211 ntmps211 λe=>?_;exact XV
theorem aD2(c:UInt8):APure prog 246 [cD c] (bD (JF c)):=by
 refine ap func246 ntmps246 λa=>?_;exact XW
theorem A8(c:UInt8):APure prog 249 [cD c] (bD (n4 c)):=by
 refine ap func249 ntmps249 λa=>?_;exact XX
theorem SK{A B:Prop}(k:B)(h:ar B->A:=by intro q7;(first|refine bC ?_|refine aA ?_|(refine' ah ?hc ?_;(case hc=>first|exact aD2 _|exact A8 _)));exact q7.1):A:=h ⟨k⟩
theorem A6(c:UInt8):APure prog 248 [cD c] (bD (!eV c)):=by
 refine ap func248 ntmps248 λa=>?_
 repeat' first|refine SK ?_|(refine aV ?_;constructor<;>intro hc)
 all_goals(refine Rt.pure (zM bD ?_);simp[eV, *])
theorem OX{f:FuncId}(l:List UInt8)(p:UInt8->Bool)(hl:l.length<=1000000)(hp:∀y∈l,APure prog f [cD y] (bD (p y))):APure prog 266 [.sl 1 (l.map λc=>[cD c]),yo f] (iD (idx p l)):=by
 refine ap func266 ntmps266 λa=>?_;exact n9
theorem SJ{A B:Prop}(k:B)(h:ar B->A:=by intro q7;(first|refine bC ?_|refine aA ?_|(refine' ah ?hc ?_;(case hc=>exact OX l p hl hp)));exact q7.1):A:=h ⟨k⟩
theorem JX{f:FuncId}(l:List UInt8)(p:UInt8->Bool)(hl:l.length<=1000000)(hp:∀y∈l,APure prog f [cD y] (bD (p y))):APure prog 247 [.sl 1 (l.map λc=>[cD c]),yo f] (bD (l.any p)):=by
 refine ap func247 ntmps247 λa=>?_
 repeat refine SJ ?_
 refine Rt.pure (zM bD ?_);exact rh p l
end
section
open Go
theorem aS5(s:ByteArray):bB ((bytes s).map UInt8.toNat)=s:=by
 unfold bB bytes;rw[vA];have:(UInt8.ofNat ∘ UInt8.toNat)=id:=by funext c;simp
 rw[this,List.map_id]
theorem zi{P:Program}{σ:af}{ρ:Operand->D}{o:Oper}{s d e:TypeId}{x:Operand}{b:ByteArray}(a:o.op= .convert s d x)(hx:ρ x=sD b)(j:P.underlying s=some .string)(i:P.underlying d=some (.slice e))(g:P.underlying e=some (.int .u8)):Yd P o ρ σ (.sl 1 ((bytes b).map λc=>[cD c])):=by
 have h:=zh (P:=P) (ρ:=ρ) (σ:=σ) (l:=(bytes b).map UInt8.toNat) a (hx.trans (zM (λz=>D.v (.string z)) (aS5 b).symm)) (λc f=>by obtain⟨u,_,rfl⟩:=xM.1 f;exact u.toNat_lt) j i g;rw[vA]at h;exact h
theorem LC{p:Prop}(h:p:=by
 induction l with
 |nil=>rfl
 |cons a l ih=>rw[List.any_cons,List.all_cons,ih,Bool.not_and]):p:=h
theorem xn(l:List UInt8):(l.any λc=>!eV c)=!(l.all eV):=LC
theorem KW{A B:Prop}(k:B)(h:ar B->A:=by intro q7;(first|refine bC ?_|refine aA ?_|(refine' ah ?hc ?_;(case hc=>first|exact ML _ _ _|exact aD2 _|exact HA)));exact q7.1):A:=h ⟨k⟩
theorem P4(s:ByteArray):APure prog 210 [sD s] (bD (aZ s)):=by
 refine ap func210 ntmps210 λb=>?_;by_cases hs:1<=s.size/\s.size<=12
 .have hw:cA s.size 1 12=true:=by simp[cA];omega
  have h0:0<(bytes s).length:=by rw[ZJ];omega
  obtain⟨c,hc0⟩:∃c,(bytes s)[(0:Int).toNat]?=some c:=⟨_,zD h0⟩
  have a:aZ s=(JF c&&(bytes s).all eV):=XY;have HA:=JX (bytes s) (λc=>!eV c) (by rw[ZJ];omega) (λy _=>A6 y);rw[xn]at HA
  repeat' first|refine KW ?_|((with_reducible refine' Ot.yd ?hydn ?_);(case hydn=>exact zi rfl rfl underlying9 underlying147 underlying5))|with_reducible refine Br.b (λhc=>?_) (λhc=>?_)
  all_goals(refine Rt.pure (zM bD ?_);rw[a];simp[*])
 .have hw:cA s.size 1 12=false:=by simp[cA];omega
  have a:aZ s=false:=by unfold aZ;rw[hw];simp
  have HA:=True.intro
  repeat' first|refine KW ?_|((with_reducible refine' Ot.yd ?hydn ?_);(case hydn=>exact zi rfl rfl underlying9 underlying147 underlying5))|with_reducible refine Br.b (λhc=>?_) (λhc=>?_)
  all_goals first|(refine Rt.pure (zM bD ?_);exact a.symm)|(simp[hw]at *)
end
end Go.Proofs.YtilnpcolgcmofaaGreatDoor
