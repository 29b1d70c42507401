/- A part of the proof: Aa Ab Ac Ad Ae Ig Af Ag Za Ar Zb Zc Ra Rb Rc Re Sx Rf Rs Rt Ru. -/
import Derived.Test.YtlcfiilejnnlnaaGreatDoorK17
import Derived.Lib.BufferWrite
import Derived.Deep.AppendSrc
set_option maxRecDepth 100000
set_option maxHeartbeats 20000000
set_option linter.all false
namespace Go.Proofs.YtlcfiilejnnlnaaGreatDoor
open Tryz
section
open Go
theorem bb8 {α:Type} {p:α->Bool} {l:List α} {i:Nat} {y:α} (h:l[i]?=some y):(l.take (i+1)).all p=((l.take i).all p&&p y):=by
 rw [xC,h];simp
theorem bm2 {α:Type} {p:α->Bool} {l:List α} {i:Nat} {y:α} (h:l[i]?=some y) (hp:p y=false):l.all p=false:=by
 cases h2:l.all p with
 | false=>rfl
 | true=>rw [yA] at h2;rw [h2 y (zG h)] at hp;cases hp
theorem aA6 (l:List ByteArray) (hl:l.length<=1000000):APure prog 220 [slS l] (bD (am2 l)):=by
 refine eP7 func220 ntmps220 fun BB=>?_
 repeat' first|refine sk4 ?_|intro b;conv=>whnf
 refine ac6 mixed aa0 (γ:=Nat) (fun i=>[(3,iD i)]) (fun _=>[]) (fun i=>i<=l.length/\(l.take i).all isNm=true) (fun i=>l.length-i) 0 rfl rfl ⟨zW _,rfl⟩ ?_;rintro i ⟨hi,ha⟩;by_cases hil:i<l.length
 ·obtain⟨y,hy0⟩:∃ y,l[i]?=some y:=⟨_,zD hil⟩
  have hy:l[((i:Nat):Int).toNat]?=some y:=hy0
  cases hn:isNm y with
  | false=>
   repeat' first|refine sk4 ?_|intro b;conv=>whnf
   refine Rt.pure (zM bD ?_);unfold am2;rw [bm2 hy0 hn,wW]
  | true=>
   repeat' first|refine sk4 ?_|intro b;conv=>whnf
   exact⟨i+1,rfl,rfl,⟨by omega,by rw [bb8 hy0,ha,hn];rfl⟩,by omega⟩
 ·obtain rfl:i=l.length:=by omega
  rw [yM] at ha
  repeat' first|refine sk4 ?_|intro b;conv=>whnf|with_reducible refine Br.d (fun hc=>?_) (fun hc=>?_)|with_reducible refine Br.b (fun hc=>?_) (fun hc=>?_)
  all_goals (refine Rt.pure (zM bD ?_);unfold am2;rw [ha,Bool.and_true,Bool.eq_iff_iff];simp only [zL,zJ,zQ,wG,false_iff,iff_self];omega)
theorem aY2:∀ (m:Nat) (c:Cnd),c.size<=m->m<=1000000->APure prog 218 [cndD c] (iD c.size)
 | 0,c,h,_=>by rw [ai1] at h;omega
 | m+1,c,h,hm=>by
  have hk:=c.kids_len;have hs:=ai1 c;unfold cndD cndC;rw [am9 c];refine eP7 func218 ntmps218 fun BB=>?_
  repeat' first|refine sk26 ?_|intro b;conv=>whnf
  refine ac2 mixed aa0 (γ:=Nat) (fun i=>[(3,iD ((1+aH7 (c.kids.take i):Nat):Int)),(4,iD i)]) (fun _=>[]) (fun i=>i<=c.kids.length) (fun i=>c.kids.length-i) 0 (aa2 cl2) cl3 (zW _) ?_;intro i hi;by_cases hil:i<c.kids.length
  ·obtain⟨y,hy0⟩:∃ y,c.kids[i]?=some y:=⟨_,zD hil⟩
   have hy:c.kids[((i:Nat):Int).toNat]?=some y:=hy0;have hyl:=Cnd.kid_size (zG hy0);have HI:=aY2 m y (by omega) (by omega);have e1:=aU5 hy0;have hb2:=br3 c.kids i
   repeat' first|refine sk26 ?_|intro b;conv=>whnf
   exact⟨i+1,(aa2 cl4),cl3,by omega,by omega⟩
  ·obtain rfl:i=c.kids.length:=by omega
   rw [yM]
   repeat' first|refine sk26 ?_|intro b;conv=>whnf
   refine Rt.pure (zM iD ?_);rw [hs]
theorem aO2:∀ (m:Nat) (c:Cnd),c.size<=m->m<=1000000->APure prog 219 [cndD c] (iD c.deep)
 | 0,c,h,_=>by rw [ai1] at h;omega
 | m+1,c,h,hm=>by
  have hk:=c.kids_len;have hd:=bg1 c;have hdb:=aA4 (c:=c) (by omega);unfold cndD cndC;rw [am9 c];refine eP7 func219 ntmps219 fun BB=>?_
  repeat' first|refine sk26 ?_|intro b;conv=>whnf
  refine ac2 mixed aa0 (γ:=Nat) (fun i=>[(3,iD ((bk5 (c.kids.take i):Nat):Int)),(4,iD i)]) (fun _=>[]) (fun i=>i<=c.kids.length) (fun i=>c.kids.length-i) 0 (aa2 cl2) cl3 (zW _) ?_;intro i hi;by_cases hil:i<c.kids.length
  ·obtain⟨y,hy0⟩:∃ y,c.kids[i]?=some y:=⟨_,zD hil⟩
   have hy:c.kids[((i:Nat):Int).toNat]?=some y:=hy0;have hyl:=Cnd.kid_size (zG hy0);have HI:=aO2 m y (by omega) (by omega);have e2:=aU6 hy0;have hb:=aA4 (c:=y) (by omega)
   repeat' first|refine sk26 ?_|intro b;conv=>whnf
   exact⟨i+1,(aa2 cl4),cl3,by omega,by omega⟩
  ·obtain rfl:i=c.kids.length:=by omega
   rw [yM]
   repeat' first|refine sk26 ?_|intro b;conv=>whnf
   refine Rt.pure (zM iD ?_);rw [hd];rfl
theorem sk136 {A B:Prop} (k:B) (h:Hd7 B->A:=by intro q7;(first|refine sb0 ?_|refine sb1 ?_|(refine' cp7x ?hc ?_;(case hc=>first|exact aY2 c.size c (zT _) hs|exact aO2 c.size c (zT _) hs)));exact q7.1):A:=h ⟨k⟩
theorem bC9 (c:Cnd) (hs:c.size<=1000000):APure prog 180 [cndD c] (bD (av7 c)):=by
 have hd:=aA4 hs;by_cases h1:c.size<=64
 ·have hN:av7 c=decide ((c.deep:Int)<=8):=by unfold av7;rw [yJ h1,Bool.true_and];exact decide_eq_decide.2 (by omega)
  refine eP7 func180 ntmps180 fun BB=>?_
  repeat' first|refine sk136 ?_|intro b;conv=>whnf
  refine Rt.pure (zM bD ?_);rw [hN]
 ·have hN:av7 c=false:=by unfold av7;rw [yE h1];rfl
  refine eP7 func180 ntmps180 fun BB=>?_
  repeat' first|refine sk136 ?_|intro b;conv=>whnf
  refine Rt.pure (zM bD ?_);rw [hN]
theorem sk137 {A B:Prop} (k:B) (h:Hd7 B->A:=by intro q7;(first|refine sb0 ?_|refine sb1 ?_|(refine' cp7x ?hc ?_;(case hc=>first|exact HI|exact aE0 _|exact aA6 _ (by omega))));exact q7.1):A:=h ⟨k⟩
theorem aH3:∀ (m:Nat) (c:Cnd),c.size<=m->c.All CndS->APure prog 221 [cndD c] (bD (formedB c))
 | 0,c,h,_=>by rw [ai1] at h;omega
 | m+1,c,h,hA=>by
  have hk:=c.kids_len;have hF:=aw3 c;obtain⟨⟨ho1,ho2⟩,hp,hq⟩:=hA.one;unfold cndD cndC;rw [am9 c];by_cases hh:(0<=c.op/\c.op<=5)/\(c.kids.length:Int)=az5 c.op
  ·have hhd:aK5 c=true:=by unfold aK5 aa3;simp [hh.1.1,hh.1.2,hh.2]
   rw [hhd,Bool.true_and] at hF;obtain⟨⟨h0,h5⟩,hkn⟩:=hh;refine eP7 func221 ntmps221 fun BB=>?_
   repeat' first|refine sk137 ?_|intro b;conv=>whnf
   refine ac2 mixed aa0 (γ:=Nat) (fun i=>[(3,iD i)]) (fun _=>[]) (fun i=>i<=c.kids.length/\(c.kids.take i).all formedB=true) (fun i=>c.kids.length-i) 0 (aa2 cl2) cl3 ⟨zW _,rfl⟩ ?_;rintro i ⟨hi,ha⟩;by_cases hil:i<c.kids.length
   ·obtain⟨y,hy0⟩:∃ y,c.kids[i]?=some y:=⟨_,zD hil⟩
    have hy:c.kids[((i:Nat):Int).toNat]?=some y:=hy0;have hyl:=Cnd.kid_size (zG hy0);have HI:=aH3 m y (by omega) (hA.kid (zG hy0))
    cases hn:formedB y with
    | false=>
     rw [hn] at HI
     repeat' first|refine sk137 ?_|intro b;conv=>whnf
     refine Rt.pure (zM bD ?_);rw [hF,bm2 hy0 hn];rfl
    | true=>
     rw [hn] at HI
     repeat' first|refine sk137 ?_|intro b;conv=>whnf
     exact⟨i+1,(aa2 cl2),cl3,⟨by omega,by rw [bb8 hy0,ha,hn];rfl⟩,by omega⟩
   ·obtain rfl:i=c.kids.length:=by omega
    rw [yM] at ha;rw [ha,Bool.true_and] at hF
    repeat' first|refine sk137 ?_|intro b;conv=>whnf|with_reducible refine Br.d (fun hc=>?_) (fun hc=>?_)|with_reducible refine Br.b (fun hc=>?_) (fun hc=>?_)
    all_goals (refine Rt.pure (zM bD ?_);rw [hF];clear hF hA ha;simp only [aK6,bb1,aa3];first|(simp [*];done)|(simp_all;done)|(simp [*];omega)|(simp_all;omega))
  ·have hhd:aK5 c=false:=by
    unfold aK5 aa3;simp only [Bool.and_eq_false_iff,xF];omega
   rw [hhd,Bool.false_and,Bool.false_and] at hF;refine eP7 func221 ntmps221 fun BB=>?_
   repeat' first|refine sk137 ?_|intro b;conv=>whnf|with_reducible refine Br.d (fun hc=>?_) (fun hc=>?_)|with_reducible refine Br.b (fun hc=>?_) (fun hc=>?_)
   all_goals (refine Rt.pure (zM bD ?_);rw [hF])
theorem sk138 {A B:Prop} (k:B) (h:Hd7 B->A:=by intro q7;(first|refine sb0 ?_|refine sb1 ?_|(refine' cp7x ?hc ?_;(case hc=>first|exact ak7 _|exact aA6 _ (by assumption)|exact aH3 q.cond.size q.cond (zT _) hA)));exact q7.1):A:=h ⟨k⟩
theorem aS1 (q:Qry) (hl:q.path.length<=1000000) (hA:q.cond.All CndS):APure prog 181 [qryD q] (bD (as1 q)):=by
 unfold as1;refine eP7 func181 ntmps181 fun BB=>?_
 repeat' first|refine sk138 ?_|intro b;conv=>whnf|with_reducible refine Br.d (fun hc=>?_) (fun hc=>?_)|with_reducible refine Br.b (fun hc=>?_) (fun hc=>?_)
 all_goals (refine Rt.pure (zM bD ?_);simp only [bb1,aa3];clear hA;first|(simp [*];done)|(simp_all;done)|(simp [*];omega)|(simp_all;omega))
end
section
open Go
theorem sk139 {A B:Prop} (k:B) (h:Hd7 B->A:=by intro q7;(first|refine sb0 ?_|refine sb1 ?_|(refine' cp7x ?hc ?_;(case hc=>first|exact HF|exact HN|exact HI)));exact q7.1):A:=h ⟨k⟩
theorem aD9 (x:Sch) (hnk:x.kz.length<=1000000) (hnf:∀ k∈x.kz,k.fields.length<=1000000):∀ (l:List ByteArray) (k:Nat),k<x.kz.length->l.length<=1000000->APure prog 182 [schD x,iD k,slS l] (bD (af4 x k l))
 | [],k,hk,_=>by
  refine eP7 func182 ntmps182 fun BB=>?_
  repeat' first|refine sk139 ?_|intro b;conv=>whnf
  exact Rt.pure rfl
 | [s],k,hk,_=>by
  obtain⟨kd,hkd⟩:∃ kd,x.kz[k]?=some kd:=⟨_,zD hk⟩
  have hkd':x.kz[((k:Nat):Int).toNat]?=some kd:=hkd;have HF:=ag9 kd s (hnf kd (zG hkd));have HN:=True.intro;have HI:=True.intro;have e:=ax6 hkd;refine eP7 func182 ntmps182 fun BB=>?_
  repeat' first|refine sk139 ?_|intro b;conv=>whnf
  refine Rt.pure (zM bD ?_);rw [af4,e]
 | s::t::l,k,hk,hl=>by
  have HN:=aY3 x k s hk hnk hnf;have HF:=True.intro;have e:af4 x k (s::t::l)=(decide (0<=ak2 x k s)&&af4 x (ak2 x k s).toNat (t::l)):=rfl;have hll:(s::t::l).length=l.length+2:=rfl;have hlt:(t::l).length=l.length+1:=rfl;rw [e];by_cases h:ak2 x k s<0
  ·have HI:=True.intro;rw [yE (by omega)];refine eP7 func182 ntmps182 fun BB=>?_
   repeat' first|refine sk139 ?_|intro b;conv=>whnf
   refine Rt.pure (zM bD ?_)
   rfl
  ·have hlt2:=aL3 (Int.not_lt.1 h);obtain⟨n,hn⟩:∃ n:Nat,ak2 x k s=n:=⟨(ak2 x k s).toNat,by omega⟩
   rw [hn] at HN h hlt2 ⊢;have HI:=aD9 x hnk hnf (t::l) n (by omega) (by omega);rw [yJ (by omega),Bool.true_and,Int.toNat_natCast];refine eP7 func182 ntmps182 fun BB=>?_
   repeat' first|refine sk139 ?_|intro b;conv=>whnf
   (refine Ot.yd (by8 aa0 (l:=1) (h:=(s::t::l).length) (ys:=(t::l).map fun a=>[sD a]) rfl rfl rfl rfl rfl (.inr ⟨_,_,_,rfl,rfl,rfl⟩) (.inl ⟨rfl,by simp⟩) (by simp) (by simp) (by rw [yL (by simp)];rfl)) ?_)
   repeat' first|refine sk139 ?_|intro b;conv=>whnf
   refine Rt.pure (zM bD ?_)
   rfl
theorem sk140 {A B:Prop} (k:B) (h:Hd7 B->A:=by intro q7;(first|refine sb0 ?_|refine sb1 ?_|(refine' cp7x ?hc ?_;(case hc=>first|exact HP|exact HQ|exact HI)));exact q7.1):A:=h ⟨k⟩
theorem aO3 (x:Sch) (k:Nat) (hk:k<x.kz.length) (hnk:x.kz.length<=1000000) (hnf:∀ k∈x.kz,k.fields.length<=1000000):∀ (m:Nat) (c:Cnd),c.size<=m->c.All CndS->APure prog 183 [schD x,iD k,cndD c] (bD (leadsB x k c))
 | 0,c,h,_=>by rw [ai1] at h;omega
 | m+1,c,h,hA=>by
  have hkl:=c.kids_len;have hF:=aF0 x k c;obtain⟨⟨ho1,ho2⟩,hp,hq⟩:=hA.one;have HP:=aD9 x hnk hnf c.path k hk (by omega);have HQ:=aD9 x hnk hnf c.other k hk (by omega);unfold cndD cndC;rw [am9 c];refine eP7 func183 ntmps183 fun BB=>?_
  repeat' first|refine sk140 ?_|intro b;conv=>whnf
  refine ac2 mixed aa0 (γ:=Nat) (fun i=>[(7,iD i)]) (fun _=>[]) (fun i=>i<=c.kids.length/\(c.kids.take i).all (leadsB x k)=true) (fun i=>c.kids.length-i) 0 (aa2 cl2) cl3 ⟨zW _,rfl⟩ ?_;rintro i ⟨hi,ha⟩;by_cases hil:i<c.kids.length
  ·obtain⟨y,hy0⟩:∃ y,c.kids[i]?=some y:=⟨_,zD hil⟩
   have hy:c.kids[((i:Nat):Int).toNat]?=some y:=hy0;have hyl:=Cnd.kid_size (zG hy0);have HI:=aO3 x k hk hnk hnf m y (by omega) (hA.kid (zG hy0))
   cases hn:leadsB x k y with
   | false=>
    rw [hn] at HI
    repeat' first|refine sk140 ?_|intro b;conv=>whnf
    refine Rt.pure (zM bD ?_);rw [hF,bm2 hy0 hn];simp
   | true=>
    rw [hn] at HI
    repeat' first|refine sk140 ?_|intro b;conv=>whnf
    exact⟨i+1,(aa2 cl2),cl3,⟨by omega,by rw [bb8 hy0,ha,hn];rfl⟩,by omega⟩
  ·obtain rfl:i=c.kids.length:=by omega
   rw [yM] at ha;rw [ha,Bool.and_true] at hF;rw [hF];generalize af4 x k c.path=u1 at *;generalize af4 x k c.other=u2 at *;have HI:=True.intro
   cases u1<;>cases u2
   all_goals
    repeat' first|refine sk140 ?_|intro b;conv=>whnf
    refine Rt.pure (zM bD ?_)
    try rfl
theorem sk141 {A B:Prop} (k:B) (h:Hd7 B->A:=by intro q7;(first|refine sb0 ?_|refine sb1 ?_|(refine' cp7x ?hc ?_;(case hc=>first|exact HC|exact HS|exact HP|exact HL|exact HF|exact ai7 _ _ (by assumption))));exact q7.1):A:=h ⟨k⟩
theorem bC8 (x:Sch) (q:Qry) (hp:aj9 x=[]) (hnk:x.kz.length<=1000000) (hnf:∀ k∈x.kz,k.fields.length<=1000000) (hs:q.cond.size<=1000000) (hl:q.path.length<=1000000) (hA:q.cond.All CndS) (HV:APure prog 127 [schD x] (iD (ad4 x))) :
  APure prog 133 [schD x,qryD q] (iD (ap6 x q)):=by
 have HC:=aO4 x HV;rw [hp] at HC;have HS:=bC9 q.cond hs;have HF:=aS1 q hl hA;have hki:aa9 x q.kind<x.kz.length:=ay3 _ _;have hcd:cndC q.cond=[iD q.cond.op,.sl 5 (aD1 q.cond),slS q.cond.path,slS q.cond.other,iD q.cond.n]:=rfl;unfold ap6
 cases h1:av7 q.cond with
 | false=>
  rw [h1] at HS;refine eP7 func133 ntmps133 fun BB=>?_
  repeat' first|refine sk141 ?_|intro b;conv=>whnf
  exact Rt.pure rfl
 | true=>
  rw [h1] at HS;rw [if_neg (by decide)]
  cases h2:as1 q with
  | false=>
   rw [h2] at HF;refine eP7 func133 ntmps133 fun BB=>?_
   repeat' first|refine sk141 ?_|intro b;conv=>whnf
   exact Rt.pure rfl
  | true=>
   rw [h2] at HF;rw [if_neg (by decide)];by_cases h3:aa9 x q.kind<0
   ·rw [if_pos h3];refine eP7 func133 ntmps133 fun BB=>?_
    repeat' first|refine sk141 ?_|intro b;conv=>whnf
    exact Rt.pure rfl
   ·rw [if_neg h3];obtain⟨k,hk⟩:∃ k:Nat,aa9 x q.kind=k:=⟨_,(xX (by omega)).symm⟩
    have HK:=ai7 x q.kind hnk;rw [hk] at HK hki ⊢;rw [Int.toNat_natCast];have HP:=aD9 x hnk hnf q.path k (by omega) hl;have HL:=aO3 x k (by omega) hnk hnf q.cond.size q.cond (zT _) hA;generalize af4 x k q.path=u1 at *;generalize leadsB x k q.cond=u2 at *
    cases u1<;>cases u2
    all_goals
     refine eP7 func133 ntmps133 fun BB=>?_
     repeat' first|refine sk72 ?_|intro b;conv=>whnf
     exact Rt.pure rfl
end
section
open Go Go.Maps Go.MapKept
theorem aT7 (x:Sch) (w:Wd) (hw:Ws w) (hfit:fitW x w=true) (hnk:x.kz.length<=1000000) (hnf:∀ k∈x.kz,k.fields.length<=1000000):∀ (p:List ByteArray) (k:Nat),k<x.kz.length->af4 x k p=true->p≠[]->p.length<=1000000->∀ l,w[k]?=some l->∀ (i:Nat) r,l[i]?=some r->APure prog 135 [schD x,slW w,iD k,iD i,slS p] (.tup [iD (endV x w k r p),bD true])
 | [],k,hk,h,hne,_,l,hl,i,r,hr=>absurd rfl hne
 | [s],k,hk,h,_,_,l,hl,i,r,hr=>by
  obtain⟨hlen,hrows,hrefs⟩:=an0 hfit;obtain⟨q,f,nm,g,H⟩:=aM7 x w [s] k hk h 0 (by simp);have hv:=H.val r;have hq:q=k:=by have:=H.way;simp [wayE] at this;exact this.1.symm
  have hnm:s=nm:=by have:=H.name;simpa using this
  subst hq hnm;have h2:=av0 H.kind ((ao3 (hrows _ _ hl)).2 r (zG hr));have hf:=(zE.1 H.fld).1;simp only [List.drop_zero,wayE,List.getElem?_cons_succ,List.getElem?_nil] at hv;obtain⟨z,hz⟩:∃ z,r[f]?=some z:=⟨_,zD (by omega)⟩
  rw [aa8 hz] at hv;rw [hv];have HF:=ag9 (kdOf x q) s (hnf _ (zG H.kind));rw [H.ix] at HF;have HN:=True.intro;have HI:=True.intro;have hkd':x.kz[((q:Nat):Int).toNat]?=some (kdOf x q):=H.kind;have hl':w[((q:Nat):Int).toNat]?=some l:=hl;have hr':l[((i:Nat):Int).toNat]?=some r:=hr;have hz':r[((f:Nat):Int).toNat]?=some z:=hz;refine eP7 func135 ntmps135 fun BB=>?_
  repeat' first|refine sk139 ?_|intro b;conv=>whnf
  exact Rt.pure rfl
 | s::t::p,k,hk,h,_,hpl,l,hl,i,r,hr=>by
  obtain⟨hlen,hrows,hrefs⟩:=an0 hfit;obtain⟨q,f,nm,g,H⟩:=aM7 x w (s::t::p) k hk h 0 (by simp);have hv:=H.val r;have hq:q=k:=by have:=H.way;simp [wayE] at this;exact this.1.symm
  have hnm:s=nm:=by have:=H.name;simpa using this
  subst hq hnm;obtain⟨u,f',h1,h2,h3,h4⟩:=H.next (by simp)
  have h5:=av0 H.kind ((ao3 (hrows _ _ hl)).2 r (zG hr));have hf:=(zE.1 H.fld).1;obtain⟨z,hz⟩:∃ z,r[f]?=some z:=⟨_,zD (by omega)⟩
  obtain⟨lu,hlu⟩:∃ l,w[u]?=some l:=⟨_,zD (by omega)⟩
  have hok:=hrefs _ (aH2 H.kind H.fld h2) l hl r (zG hr);unfold refOk at hok;simp only [h3,Int.toNat_natCast] at hok;rw [aa8 hlu,aa8 hz] at hok;simp only [xJ,wA,xF] at hok;rw [h1,aa8 hz] at hv;simp only [List.drop_zero] at hv;obtain⟨r2,hr2⟩:∃ r2,lu[z.toNat]?=some r2:=⟨_,zD (by omega)⟩
  have hrec:aC8 w u z.toNat=r2:=by unfold aC8;rw [aa8 hlu,aa8 hr2]
  rw [hrec] at hv;rw [hv];simp only [af4,zJ,zQ] at h;have hn:ak2 x q s=u:=by rw [aw0 H.kind H.ix H.fld,if_pos h2,h3]
  rw [hn,Int.toNat_natCast] at h;have HI:=aT7 x w hw hfit hnk hnf (t::p) u h4 h.2 (by simp) (by simp only [List.length_cons] at hpl ⊢;omega) lu hlu z.toNat r2 hr2;rw [xX (by omega)] at HI;have HF:=ag9 (kdOf x q) s (hnf _ (zG H.kind));rw [H.ix] at HF;have HN:=aY3 x q s hk hnk hnf;rw [hn] at HN;have hkd':x.kz[((q:Nat):Int).toNat]?=some (kdOf x q):=H.kind;have hl':w[((q:Nat):Int).toNat]?=some l:=hl;have hr':l[((i:Nat):Int).toNat]?=some r:=hr;have hz':r[((f:Nat):Int).toNat]?=some z:=hz;have hlu':w[((u:Nat):Int).toNat]?=some lu:=hlu;have hul:lu.length<=1000:=hw.nr lu (zG hlu);refine eP7 func135 ntmps135 fun BB=>?_
  repeat' first|refine sk139 ?_|intro b;conv=>whnf
  (refine Ot.yd (by8 aa0 (l:=1) (h:=(s::t::p).length) (ys:=(t::p).map fun a=>[sD a]) rfl rfl rfl rfl rfl (.inr ⟨_,_,_,rfl,rfl,rfl⟩) (.inl ⟨rfl,by simp⟩) (by simp) (by simp) (by rw [yL (by simp)];rfl)) ?_)
  repeat' first|refine sk139 ?_|intro b;conv=>whnf
  exact Rt.pure rfl
end
section
open Go Go.Maps Go.MapKept
theorem sk142 {A B:Prop} (k:B) (h:Hd7 B->A:=by intro q7;(first|refine sb0 ?_|refine sb1 ?_|(refine' cp7x ?hc ?_;(case hc=>first|exact HP|exact HQ|exact HK1|exact HK2)));exact q7.1):A:=h ⟨k⟩
theorem bc8 (x:Sch) (w:Wd) (hw:Ws w) (hfit:fitW x w=true) (hnk:x.kz.length<=1000000) (hnf:∀ k∈x.kz,k.fields.length<=1000000) (k:Nat) (hk:k<x.kz.length) (l:List (List Int)) (hl:w[k]?=some l) (i:Nat) (r:List Int) (hr:l[i]?=some r):∀ (m:Nat) (c:Cnd),c.size<=m->formedB c=true->leadsB x k c=true->c.All CndS->APure prog 134 [schD x,slW w,iD k,iD i,cndD c] (.tup [bD (holdV x w k r c),bD true])
 | 0,c,h,_,_,_=>by rw [ai1] at h;omega
 | m+1,c,h,hfm,hld,hA=>by
  have hkl:=c.kids_len;rw [aw3] at hfm;rw [aF0] at hld;simp only [zJ,yA] at hfm hld;obtain⟨⟨hhead,hfk⟩,hform⟩:=hfm;obtain⟨⟨hl1,hl2⟩,hlk⟩:=hld;unfold aK5 aa3 at hhead;simp only [zJ,zQ] at hhead;obtain⟨⟨ho1,ho2⟩,hkn⟩:=hhead;unfold az5 at hkn;have HI:=fun (y:Cnd) (hy:y∈c.kids)=>bc8 x w hw hfit hnk hnf k hk l hl i r hr m y (by have:=Cnd.kid_size hy;omega) (hfk y hy) (hlk y hy) (hA.kid hy);unfold cndD cndC;rw [am9 c];have HK1:=True.intro;have HK2:=True.intro;by_cases hop:c.op=1
  ·have hop1:=hop;unfold aK6 at hform;rw [if_pos (.inl hop)] at hform;simp only [aa3,zJ,zQ] at hform;obtain⟨⟨hpb,hob⟩,hn1,hn2⟩:=hform;have hps:=aq1 hpb;have HP:=aT7 x w hw hfit hnk hnf c.path k hk hl1 hps.1 (by have:=hps.2.1;omega) l hl i r hr;have hb1:=az8 hfit c.path k hk hl1 l hl r (zG hr);by_cases he:c.other=[]
   ·have hol:c.other.length=0:=by rw [he];rfl
    have HQ:=True.intro;refine eP7 func134 ntmps134 fun BB=>?_
    repeat' first|refine sk142 ?_|intro b;conv=>whnf
    refine Rt.pure ?_;rw [bP8 hop,if_pos he]
   ·have hob2:am2 c.other=true:=by
     rw [xO] at hob;rcases hob with h|h
     ·exact absurd (vE.1 h) he
     ·exact h
    have hps2:=aq1 hob2;have hol:0<c.other.length:=xS.2 he;have HQ:=aT7 x w hw hfit hnk hnf c.other k hk hl2 hps2.1 (by have:=hps2.2.1;omega) l hl i r hr;have hb2:=az8 hfit c.other k hk hl2 l hl r (zG hr);refine eP7 func134 ntmps134 fun BB=>?_
    repeat' first|refine sk142 ?_|intro b;conv=>whnf
    refine Rt.pure ?_;rw [bP8 hop,if_neg he]
  by_cases hop2:c.op=2
  ·clear hop;have hop:=hop2;unfold aK6 at hform;rw [if_pos (.inr hop)] at hform;simp only [aa3,zJ,zQ] at hform;obtain⟨⟨hpb,hob⟩,hn1,hn2⟩:=hform;have hps:=aq1 hpb;have HP:=aT7 x w hw hfit hnk hnf c.path k hk hl1 hps.1 (by have:=hps.2.1;omega) l hl i r hr;have hb1:=az8 hfit c.path k hk hl1 l hl r (zG hr);by_cases he:c.other=[]
   ·have hol:c.other.length=0:=by rw [he];rfl
    have HQ:=True.intro;refine eP7 func134 ntmps134 fun BB=>?_
    repeat' first|refine sk142 ?_|intro b;conv=>whnf
    refine Rt.pure ?_;rw [aL6 hop,if_pos he]
   ·have hob2:am2 c.other=true:=by
     rw [xO] at hob;rcases hob with h|h
     ·exact absurd (vE.1 h) he
     ·exact h
    have hps2:=aq1 hob2;have hol:0<c.other.length:=xS.2 he;have HQ:=aT7 x w hw hfit hnk hnf c.other k hk hl2 hps2.1 (by have:=hps2.2.1;omega) l hl i r hr;have hb2:=az8 hfit c.other k hk hl2 l hl r (zG hr);refine eP7 func134 ntmps134 fun BB=>?_
    repeat' first|refine sk142 ?_|intro b;conv=>whnf
    refine Rt.pure ?_;rw [aL6 hop,if_neg he]
  clear hform;have HP:=True.intro;have HQ:=True.intro;by_cases hop3:c.op=3
  ·obtain⟨a,ha⟩:∃ a,c.kids=[a]:=by
    rw [hop3] at hkn;exact List.length_eq_one_iff.1 (by simp at hkn;omega)
   have HK1:=HI a (by rw [ha];simp);rw [ha];refine eP7 func134 ntmps134 fun BB=>?_
   repeat' first|refine sk142 ?_|intro b;conv=>whnf
   refine Rt.pure ?_;rw [bX6 hop3 ha]
  by_cases hop4:c.op=4
  ·obtain⟨a,b2,ha⟩:∃ a b,c.kids=[a,b]:=by
    rw [hop4] at hkn;exact ba5 (by simp at hkn;omega)
   have HK1:=HI a (by rw [ha];simp);have HK2:=HI b2 (by rw [ha];simp);rw [ha];rw [bX7 hop4 ha];generalize holdV x w k r a=u1 at *;generalize holdV x w k r b2=u2 at *
   cases u1<;>cases u2
   all_goals
    refine eP7 func134 ntmps134 fun BB=>?_
    repeat' first|refine sk142 ?_|intro b;conv=>whnf
    exact Rt.pure rfl
  by_cases hop5:c.op=5
  ·obtain⟨a,b2,ha⟩:∃ a b,c.kids=[a,b]:=by
    rw [hop5] at hkn;exact ba5 (by simp at hkn;omega)
   have HK1:=HI a (by rw [ha];simp);have HK2:=HI b2 (by rw [ha];simp);rw [ha];rw [cr7 hop5 ha];generalize holdV x w k r a=u1 at *;generalize holdV x w k r b2=u2 at *
   cases u1<;>cases u2
   all_goals
    refine eP7 func134 ntmps134 fun BB=>?_
    repeat' first|refine sk142 ?_|intro b;conv=>whnf
    exact Rt.pure rfl
  have hop0:c.op=0:=by omega
  refine eP7 func134 ntmps134 fun BB=>?_
  repeat' first|refine sk142 ?_|intro b;conv=>whnf
  refine Rt.pure ?_;rw [bX8 hop0]
end
section
open Go Go.Maps Go.MapKept
def aC2 (x:Sch) (w:Wd) (k:Nat) (q:Qry) (l:List (List Int)):List Int:=(l.filter fun r=>holdV x w k r q.cond).map fun r=>if q.op=0 then 0 else endV x w k r q.path
theorem bz5 (x:Sch) (w:Wd) (k:Nat) (q:Qry) (l:List (List Int)):(aC2 x w k q l).length<=l.length:=by
 unfold aC2;rw [zL];exact List.length_filter_le ..
theorem bt9 {x:Sch} {w:Wd} {k:Nat} {q:Qry} {l:List (List Int)} {i:Nat} {r:List Int} (h:l[i]?=some r):aC2 x w k q (l.take (i+1))=aC2 x w k q (l.take i)++(if holdV x w k r q.cond then [if q.op=0 then 0 else endV x w k r q.path] else []):=by
 unfold aC2;rw [af7 h,vZ,yB,List.filter_cons,List.filter_nil]
 cases holdV x w k r q.cond<;>rfl
theorem bZ4 {x:Sch} {w:Wd} {k:Nat} {q:Qry} {l:List (List Int)} (h:¬ q.op=0):aC2 x w k q l=ai0 x w k q l:=by
 unfold aC2 ai0;simp only [if_neg h]
theorem bz6 {x:Sch} {w:Wd} {k:Nat} {q:Qry} {l:List (List Int)} (h:q.op=0):(ai0 x w k q l).sum=((aC2 x w k q l).length:Int):=by
 unfold aC2 ai0;simp only [if_pos h,zL];generalize l.filter (fun r=>holdV x w k r q.cond)=m
 induction m with
 | nil=>rfl
 | cons a m ih=>simp only [List.map_cons,List.sum_cons,List.length_cons,ih];omega
def mmE (f:Int->Int->Int) (L:List Int) (j:Nat):Int:=if j=0 then 0 else (L.take j).foldl f (L.headD 0)
theorem bW5 {f:Int->Int->Int} {L:List Int} {a:Int} (h:L[0]?=some a) (hf:∀ a,f a a=a):mmE f L 1=a:=by
 cases L with
 | nil=>simp at h
 | cons b L=>
  simp at h;subst h;simp [mmE,hf]
theorem bE7 {f:Int->Int->Int} {L:List Int} {j:Nat} {y:Int} (h:L[j+1]?=some y):mmE f L (j+2)=f (mmE f L (j+1)) y:=by
 unfold mmE;rw [if_neg (by omega),if_neg (by omega)];exact aM9 h
theorem sb143 {A B:Prop} (k:B) (h:Hd7 B->A:=by intro q7;(first|refine u3x ?_|(with_reducible refine pA5 trivial ?_)|refine u1x ?_|refine u0x ?_);exact q7.1):A:=h ⟨k⟩
theorem sk144 {A B:Prop} (k:B) (h:Hd7 B->A:=by intro q7;(first|refine sb143 ?_|refine sb1 ?_|(refine' cp7x ?hc ?_;(case hc=>first|exact HVQ|exact HK|exact HH|exact HE)));exact q7.1):A:=h ⟨k⟩
theorem sk145 {A B:Prop} (k:B) (h:Hd7 B->A:=by intro q7;(first|refine sb143 ?_|refine sb123 ?_|(refine' cp7x ?hc ?_;(case hc=>first|exact HVQ|exact HK|exact HH|exact HE)));exact q7.1):A:=h ⟨k⟩
theorem bM3 (x:Sch) (w:Wd) (q:Qry) (hw:Ws w) (hp:aj9 x=[]) (hfit:fitW x w=true) (hnk:x.kz.length<=1000000) (hnf:∀ k∈x.kz,k.fields.length<=1000000) (hs:q.cond.size<=1000000) (hpl:q.path.length<=1000000) (hA:q.cond.All CndS) (HV:APure prog 127 [schD x] (iD (ad4 x))) :
  APure prog 72 [schD x,qryD q,slW w] (.tup [iD (af1 x w q).1,bD (af1 x w q).2.1,iD (af1 x w q).2.2]):=by
 have HVQ:=bC8 x q hp hnk hnf hs hpl hA HV;have hcd:cndC q.cond=[iD q.cond.op,.sl 5 (aD1 q.cond),slS q.cond.path,slS q.cond.other,iD q.cond.n]:=rfl;by_cases hq0:ap6 x q≠0
 ·have hE:af1 x w q=(0,false,ap6 x q):=by unfold af1;rw [if_neg (by rw [hfit];decide),if_pos hq0]
  rw [hE];have HK:=True.intro;have HH:=True.intro;have HE:=True.intro;refine eP7 func72 ntmps72 fun BB=>?_
  repeat' first|refine sk144 ?_|intro b;conv=>whnf
  exact Rt.pure rfl
 ·have hq:ap6 x q=0:=by omega
  rw [hq] at HVQ;have hq2:=hq;unfold ap6 at hq2;split at hq2
  ·omega
  split at hq2
  ·omega
  split at hq2
  ·omega
  split at hq2
  ·rename_i h1 h2 h3 h4;obtain⟨k,hk⟩:∃ k:Nat,aa9 x q.kind=k:=⟨_,(xX (by omega)).symm⟩
   have hkl:aa9 x q.kind<x.kz.length:=ay3 _ _;have HK:=ai7 x q.kind hnk;have hE:af1 x w q=((am6 q (ay7 x w k q)).1,(am6 q (ay7 x w k q)).2,0):=by unfold af1;rw [if_neg (by rw [hfit];decide),if_neg (by omega),hk,Int.toNat_natCast]
   rw [hE];rw [hk] at HK hkl h4;rw [Int.toNat_natCast,zJ] at h4;obtain⟨hl1,hl2⟩:=h4;obtain⟨hlen,hrows,hrefs⟩:=an0 hfit;obtain⟨l,hl⟩:∃ l,w[k]?=some l:=⟨_,zD (by omega)⟩
   have hl':w[((k:Nat):Int).toNat]?=some l:=hl;have hll:=hw.nr l (zG hl);have hV2:ay7 x w k q=ai0 x w k q l:=by unfold ay7 ai0;rw [aa8 hl]
   rw [hV2];rw [Bool.not_eq_false] at h1 h2;have hform:formedB q.cond=true:=by unfold as1 at h2;simp only [zJ] at h2;exact h2.2
   refine eP7 func72 ntmps72 fun BB=>?_
   repeat' first|refine sk144 ?_|intro b;conv=>whnf
   refine aa5 mixed aa0 (γ:=Nat × Value × aa1) (fun g=>[(12,iD g.1),(11,.v g.2.1)]) (fun g=>g.2.2) (fun g=>g.1<=l.length/\RowR 3 iD (aC2 x w k q (l.take g.1)) g.2.1 g.2.2) (fun g=>l.length-g.1) (0,.slice none 0 0,[]) (aa2 cl2) (Sc.refl _) ⟨zW _,RowIs.nil _ _⟩ ?_;rintro⟨i,v,s⟩ ⟨hi,hrow⟩;simp only at hi hrow ⊢;by_cases hil:i<l.length
   ·obtain⟨r,hr⟩:∃ r,l[i]?=some r:=⟨_,zD hil⟩
    have HH:=bc8 x w hw hfit hnk hnf k (by omega) l hl i r hr q.cond.size q.cond (zT _) hform hl2 hA;have hsn:=bt9 (x:=x) (w:=w) (k:=k) (q:=q) hr;have hvl:=bz5 x w k q (l.take i);rw [zR] at hvl
    cases hh:holdV x w k r q.cond with
    | false=>
     rw [hh] at HH hsn;have HE:=True.intro
     repeat' first|refine sk144 ?_|intro b;conv=>whnf
     exact⟨(i+1,v,s),(aa2 cl2),Sc.refl _,⟨by simp only;omega,by rw [hsn];simpa using hrow⟩,by simp only;omega⟩
    | true=>
     rw [hh] at HH hsn;by_cases hop:q.op=0
     ·rw [if_pos rfl,if_pos hop] at hsn;have HE:=True.intro
      repeat' first|refine sk144 ?_|intro b;conv=>whnf
      refine Ap.go rfl rfl rfl rfl hrow (by simp:s.Perm (s++[])) rfl (zs:=(aC2 x w k q (l.take (i+1))).map fun b=>[iD b]) (by rw [hsn];simp) (by rw [hsn];simp;omega) (by rw [hsn];simp;omega) (fun s'=>s') (fun s'=>by simp) (fun a3 c3 s3 h3=>?_)
      repeat' first|refine sk144 ?_|intro b;conv=>whnf
      exact⟨(i+1,_,s3),(aa2 cl2),Sc.refl _,⟨by simp only;omega,h3⟩,by simp only;omega⟩
     ·rw [if_pos rfl,if_neg hop] at hsn;have hpb:am2 q.path=true:=by
       unfold as1 at h2;simp only [zJ,xO,zQ] at h2;rcases h2.1.1 with ⟨_,h⟩|⟨h,_⟩
       ·exact h
       ·exact absurd h hop
      have hps:=aq1 hpb;have HE:=aT7 x w hw hfit hnk hnf q.path k (by omega) hl1 hps.1 (by omega) l hl i r hr
      repeat' first|refine sk144 ?_|intro b;conv=>whnf
      refine Ap.go rfl rfl rfl rfl hrow (by simp:s.Perm (s++[])) rfl (zs:=(aC2 x w k q (l.take (i+1))).map fun b=>[iD b]) (by rw [hsn];simp) (by rw [hsn];simp;omega) (by rw [hsn];simp;omega) (fun s'=>s') (fun s'=>by simp) (fun a3 c3 s3 h3=>?_)
      repeat' first|refine sk144 ?_|intro b;conv=>whnf
      exact⟨(i+1,_,s3),(aa2 cl2),Sc.refl _,⟨by simp only;omega,h3⟩,by simp only;omega⟩
   ·obtain rfl:i=l.length:=by omega
    rw [yM] at hrow;have HH:=True.intro;have HE:=True.intro;by_cases hop:q.op=0
    ·obtain⟨va,vc,hve⟩:=bC2 hrow;subst hve;have hA':am6 q (ai0 x w k q l)=(((aC2 x w k q l).length:Int),true):=by unfold am6;rw [if_pos (.inl hop),bz6 hop]
     rw [hA']
     repeat' first|refine sk144 ?_|intro b;conv=>whnf
     exact Rt.pure rfl
    ·have hin:=aW1 hfit (by omega) (q:=q) hl1 hl;have hln:=ay6 x w k q l;rw [bZ4 hop] at hrow;generalize ai0 x w k q l=L at *
     repeat' first|refine sk145 ?_|intro b;conv=>whnf
     refine Bc.j ?_;refine aj5 (i:=11) (d:=.v v) (d':=slI L) rfl (fun h=>by cases h) (Vs.row hrow (by simp:s.Perm (s++[]))) ?_;refine ar5 mixed aa0 ?_
     repeat' first|refine sk144 ?_|intro b;conv=>whnf
     have hb:∀ j,(L.take j).length<=1000/\(-1099511627776*((L.take j).length:Int)<=(L.take j).sum/\(L.take j).sum<=1099511627776*((L.take j).length:Int)):=fun j=>⟨by rw [zR];omega,bB2 fun z hz=>hin z (xG hz)⟩
     refine aa5 mixed aa0 (γ:=Nat) (fun j=>[(16,iD (L.take j).sum),(17,iD (mmE min L j)),(18,iD (mmE max L j)),(19,iD j)]) (fun _=>[]) (fun j=>j<=L.length) (fun j=>L.length-j) 0 (aa2 cl2) (Sc.refl _) (zW _) ?_;intro j hj;by_cases hjl:j<L.length
     ·obtain⟨y,hy⟩:∃ y,L[j]?=some y:=⟨_,zD hjl⟩
      have hy':L[((j:Nat):Int).toNat]?=some y:=hy;have e:=aX0 hy;have hy2:=hin y (zG hy);obtain⟨q1,q2,q3⟩:=hb j
      cases j with
      | zero=>
       have e1:=bW5 (f:=min) hy (fun a=>by simp);have e2:=bW5 (f:=max) hy (fun a=>by simp)
       repeat' first|refine sk144 ?_|intro b;conv=>whnf
       exact⟨1,by rw [e,e1,e2];exact (aa2 cl30),Sc.refl _,by omega,by omega⟩
      | succ j=>
       have e1:=bE7 (f:=min) hy;have e2:=bE7 (f:=max) hy
       repeat' first|refine sk144 ?_|intro b;conv=>whnf
       exact⟨j+2,by rw [e,e1,e2];exact (aa2 cl30),Sc.refl _,by omega,by omega⟩
     ·obtain rfl:j=L.length:=by omega
      rw [yM];have h123:q.op=1\/q.op=2\/q.op=3:=by
       unfold as1 aa3 at h2;simp only [zJ,xO,zQ] at h2;omega
      have h01:¬ (q.op=0\/q.op=1)\/q.op=1:=by omega
      rcases h123 with h0|h0
      ·have hA':am6 q L=(L.sum,true):=by unfold am6;rw [if_pos (.inr h0)]
       rw [hA']
       repeat' first|refine sk144 ?_|intro b;conv=>whnf
       exact Rt.pure rfl
      ·have h01:¬ (q.op=0\/q.op=1):=by omega
       by_cases hL:L=[]
       ·have hA':am6 q L=(0,false):=by unfold am6;rw [if_neg h01,if_pos hL]
        rw [hA'];subst hL;rcases h0 with h0|h0
        all_goals
         repeat' first|refine sk144 ?_|intro b;conv=>whnf
         exact Rt.pure rfl
       ·have hL1:0<L.length:=xS.2 hL;rcases h0 with h0|h0
        ·have hA':am6 q L=(mmE min L L.length,true):=by unfold am6 mmE;rw [if_neg h01,if_neg hL,if_pos h0,if_neg (by omega),yM]
         rw [hA']
         repeat' first|refine sk144 ?_|intro b;conv=>whnf
         exact Rt.pure (by rw [yJ (by rw [zL];omega)])
        ·have hA':am6 q L=(mmE max L L.length,true):=by unfold am6 mmE;rw [if_neg h01,if_neg hL,if_neg (by omega),if_neg (by omega),yM]
         rw [hA']
         repeat' first|refine sk144 ?_|intro b;conv=>whnf
         exact Rt.pure (by rw [yJ (by rw [zL];omega)])
  ·omega
end
section
open Go Go.Maps Go.MapKept
def outQ (q:Qry) (L:List Int):Int:=if q.op=1 then L.sum else if q.op=0 then 0 else if L=[] then 0 else if q.op=2 then L.foldl min (L.headD 0) else L.foldl max (L.headD 0)
theorem bq0 (q:Qry):outQ q []=0:=by unfold outQ;simp
theorem bN6 {q:Qry} (v:Int) (h1:¬ q.op=1) (h0:¬ q.op=0):outQ q [v]=v:=by
 unfold outQ;rw [if_neg h1,if_neg h0,if_neg (by simp)];simp
theorem bq1 {q:Qry} {L:List Int} (v:Int) (h:q.op=2) (hL:L≠[]):outQ q (L++[v])=min (outQ q L) v:=by
 unfold outQ;rw [if_neg (by omega),if_neg (by omega),if_neg (by simp),if_pos h,if_neg (by omega),if_neg (by omega),if_neg hL,if_pos h]
 cases L with
 | nil=>exact absurd rfl hL
 | cons a L=>simp
theorem bq2 {q:Qry} {L:List Int} (v:Int) (h:q.op=3) (hL:L≠[]):outQ q (L++[v])=max (outQ q L) v:=by
 unfold outQ;rw [if_neg (by omega),if_neg (by omega),if_neg (by simp),if_neg (by omega),if_neg (by omega),if_neg (by omega),if_neg hL,if_neg (by omega)]
 cases L with
 | nil=>exact absurd rfl hL
 | cons a L=>simp
theorem bN5 {q:Qry} {L:List Int} (v:Int) (h:q.op=1):outQ q (L++[v])=outQ q L+v:=by
 unfold outQ;rw [if_pos h,if_pos h];simp
theorem aP1 {q:Qry} (L:List Int) (h:q.op=0):outQ q L=0:=by
 unfold outQ;rw [if_neg (by omega),if_pos h]
theorem sk146 {A B:Prop} (k:B) (h:Hd7 B->A:=by intro q7;(first|refine sb143 ?_|refine sb1 ?_|(refine' cp7x ?hc ?_;(case hc=>first|exact HVQ|exact HK)));exact q7.1):A:=h ⟨k⟩
theorem sk147 {A B:Prop} (k:B) (h:Hd7 B->A:=by intro q7;(first|refine sb143 ?_|refine sb65 ?_|(refine' cp7x ?hc ?_;(case hc=>first|exact HVQ|exact HK)));exact q7.1):A:=h ⟨k⟩
def uB:=@Prod.mk.inj
theorem cm9 (x:Sch) (w:Wd) (q:Qry) (hw:Wv w) (hws:Ws w) (hp:aj9 x=[]) (hs:q.cond.size<=1000000) (hpl:q.path.length<=1000000) (hA:q.cond.All CndS) (HV:APure prog 143 [schD x] (iD (ad4 x))) :
  ASome prog 30 [schD x,qryD q,.ifc 76 (srcD w)] (fun d=>∃ a b e,d = .tup [iD a,bD b,iD e]/\(fitW x w=true->(a,b,e)=af1 x w q)):=by
 have hV:=(aN2 hp).vld;have hnk:x.kz.length<=1000000:=by have:=hV.nk;omega
 have hnf:∀ k∈x.kz,k.fields.length<=1000000:=fun k hk=>by have:=hV.nf k hk;omega
 have HVQ:=bD1 x q hp hnk hnf hs hpl hA HV;have hcd:cndC q.cond=[iD q.cond.op,.sl 5 (aD1 q.cond),slS q.cond.path,slS q.cond.other,iD q.cond.n]:=rfl;refine ASome.of_call ?_;by_cases hq0:ap6 x q≠0
 ·have HK:=True.intro;refine eC7 func30 ntmps30 fun BB=>?_
  repeat' first|refine sk146 ?_|intro b;conv=>whnf|((with_reducible refine' Ot.yd ?hydn ?_);(case hydn=>exact af2 rfl rfl ae6 (ae4 w _ hw.ct (fun l hl=>(hw.row l hl).1))))
  exact Rt.same ⟨0,false,ap6 x q,rfl,fun hfit=>by unfold af1;rw [if_neg (by rw [hfit];decide),if_pos hq0]⟩
 ·have hq:ap6 x q=0:=by omega
  rw [hq] at HVQ;have hq2:=hq;unfold ap6 at hq2;split at hq2
  ·omega
  split at hq2
  ·omega
  split at hq2
  ·omega
  split at hq2
  ·rename_i h1 h2 h3 h4;obtain⟨k,hk⟩:∃ k:Nat,aa9 x q.kind=k:=⟨_,(xX (by omega)).symm⟩
   have hkl:aa9 x q.kind<x.kz.length:=ay3 _ _;have HK:=aj7 x q.kind hnk;have hE:fitW x w=true->af1 x w q=((am6 q (ay7 x w k q)).1,(am6 q (ay7 x w k q)).2,0):=fun hfit=>by unfold af1;rw [if_neg (by rw [hfit];decide),if_neg (by omega),hk,Int.toNat_natCast]
   rw [hk] at HK hkl h4;rw [Int.toNat_natCast,zJ] at h4;obtain⟨hl1,hl2⟩:=h4;rw [Bool.not_eq_false] at h1 h2;have hform:formedB q.cond=true:=by unfold as1 at h2;simp only [zJ] at h2;exact h2.2
   refine eC7 func30 ntmps30 fun BB=>?_
   repeat' first|refine sk147 ?_|intro b;conv=>whnf|((with_reducible refine' Ot.yd ?hydn ?_);(case hydn=>exact af2 rfl rfl ae6 (ae4 w _ hw.ct (fun l hl=>(hw.row l hl).1))))
   refine Bx.l ?_
   repeat' first|refine sk147 ?_|intro b;conv=>whnf|((with_reducible refine' Ot.yd ?hydn ?_);(case hydn=>exact af2 rfl rfl ae6 (ae4 w _ hw.ct (fun l hl=>(hw.row l hl).1))))
   refine Bx.l ?_
   repeat' first|refine sk147 ?_|intro b;conv=>whnf|((with_reducible refine' Ot.yd ?hydn ?_);(case hydn=>exact af2 rfl rfl ae6 (ae4 w _ hw.ct (fun l hl=>(hw.row l hl).1))))
   refine Bx.r (OtE.box rfl rfl (fun ba=>?_));have hpo:am2 q.path=true\/q.op=0/\q.path=[]:=by
    unfold as1 at h2;simp only [zJ,xO,zQ,vE] at h2;rcases h2.1.1 with ⟨_,h⟩|h
    ·exact .inl h
    ·exact .inr h
   have hop:0<=q.op/\q.op<=3/\(q.op=0->q.path=[]):=by
    unfold as1 aa3 at h2;simp only [zJ,xO,zQ,vE] at h2;rcases h2.1.1 with ⟨h,_⟩|⟨h,h5⟩
    ·exact⟨by omega,by omega,fun h0=>by omega⟩
    ·exact⟨by omega,by omega,fun _=>h5⟩
   have hs0:∀ i:Int,q.op=0->ao2 x w k i q.path=(0,false):=fun i h=>by
    rw [hop.2.2 h];unfold ao2;simp [ar8,aC1]
   obtain⟨Lk,hLk⟩:∃ l,l=w.getD k []:=⟨_,rfl⟩
   have hci:cntI w (k:Int)=Lk.length:=by unfold cntI;rw [if_neg (by omega),Int.toNat_natCast,hLk]
   have hN:Lk.length<=1000:=by
    rw [hLk,List.getD_eq_getElem?_getD]
    cases h:w[k]? with
    | none=>simp
    | some l=>exact hws.nr l (zG h)
   have hvE:ay7 x w k q=ai0 x w k q Lk:=by unfold ay7 ai0;rw [hLk]
   repeat' first|refine sk146 ?_|intro b;conv=>whnf|((with_reducible refine' Ot.yd ?hydn ?_);(case hydn=>exact af2 rfl rfl ae6 (ae4 w _ hw.ct (fun l hl=>(hw.row l hl).1))))
   refine aa5 mixed aa0 (γ:=Nat × Int × Int) (fun g=>[(14,iD g.1),(12,iD g.2.1),(13,iD g.2.2)]) (fun _=>[askB ba x w false]) (fun g=>g.1<=Lk.length/\(0<=g.2.1/\g.2.1<=g.1)/\(-1099511627776*(g.1:Int)<=g.2.2/\g.2.2<=1099511627776*(g.1:Int))/\(fitW x w=true->g.2.1=(ai0 x w k q (Lk.take g.1)).length/\g.2.2=outQ q (ai0 x w k q (Lk.take g.1)))) (fun g=>Lk.length-g.1) (0,0,0) (aa2 cl2) (Sc.refl _) ⟨zW _,⟨by decide,by decide⟩,⟨by decide,by decide⟩,fun _=>⟨by simp [ai0],by simp [ai0,bq0]⟩⟩ ?_;rintro⟨i,n,out⟩ ⟨hi,hn,hob,hfw⟩;simp only at hi hn hob hfw ⊢;by_cases hil:i<Lk.length
   ·have hlw:w[k]?=some Lk:=by
     cases h:w[k]? with
     | none=>rw [hLk,List.getD_eq_getElem?_getD,h] at hil;simp at hil
     | some l=>rw [hLk,List.getD_eq_getElem?_getD,h];rfl
    obtain⟨r,hr⟩:∃ r,Lk[i]?=some r:=⟨_,zD hil⟩
    have HH:=bC6 x w hw hnk hnf ba k (by omega) i q.cond.size q.cond (zT _) hform hA false;have hff:fitW x w=true->holdQ x w k i q.cond=(holdV x w k r q.cond,false):=fun hfit=>aL7 hfit (by omega) hlw hr q.cond hform hl2;have hsf:fitW x w=true->¬ q.op=0->ao2 x w k i q.path=(endV x w k r q.path,false):=fun hfit h0=>aX4 hfit (by omega) hl1 (bj8 (hpo.resolve_right fun h=>h0 h.1)) hlw hr;have hsn:=aG8 (x:=x) (w:=w) (k:=k) (q:=q) hr
    repeat' first|refine sk146 ?_|intro b;conv=>whnf|((with_reducible refine' Ot.yd ?hydn ?_);(case hydn=>exact af2 rfl rfl ae6 (ae4 w _ hw.ct (fun l hl=>(hw.row l hl).1))))
    refine pA6 HH (zH ([askB ba x w _]++[])) (fun s'=>s'++[]) (fun s'=>zH _) ?_;rintro _ _ ⟨rfl,rfl⟩;rw [Bool.false_or];generalize holdQ x w k i q.cond=hq at *;obtain⟨u,bd⟩:=hq
    cases bd with
    | true=>
     cases u
     all_goals
      repeat' first|refine sk146 ?_|intro b;conv=>whnf|((with_reducible refine' Ot.yd ?hydn ?_);(case hydn=>exact af2 rfl rfl ae6 (ae4 w _ hw.ct (fun l hl=>(hw.row l hl).1))))
      exact Rt.by (Vs.drop (yV _)) ⟨0,false,5,rfl,fun hfit=>absurd (uB (hff hfit)).2 (by decide)⟩
    | false=>
     cases u with
     | false=>
      repeat' first|refine sk146 ?_|intro b;conv=>whnf|((with_reducible refine' Ot.yd ?hydn ?_);(case hydn=>exact af2 rfl rfl ae6 (ae4 w _ hw.ct (fun l hl=>(hw.row l hl).1))))
      exact⟨(i+1,n,out),(aa2 cl4),Sc.refl _,⟨by simp only;omega,⟨by simp only;omega,by simp only;omega⟩,⟨by simp only;omega,by simp only;omega⟩,fun hfit=>by
       have h5:=hff hfit;have h6:holdV x w k r q.cond=false:=(uB h5).1.symm;rw [h6] at hsn;simp only [wG,uC,zZ] at hsn;simp only [hsn];exact hfw hfit⟩,by simp only;omega⟩
     | true=>
      have HV2:=bj5 x w hw.ct hw.row hnk hnf ba k (by omega) i q.path hpl false;have hsi:=bj0 (x:=x) hw k i q.path
      repeat' first|refine sk146 ?_|intro b;conv=>whnf|((with_reducible refine' Ot.yd ?hydn ?_);(case hydn=>exact af2 rfl rfl ae6 (ae4 w _ hw.ct (fun l hl=>(hw.row l hl).1))))
      refine pA6 HV2 (zH ([askB ba x w _]++[])) (fun s'=>s'++[]) (fun s'=>zH _) ?_;rintro _ _ ⟨rfl,rfl⟩;rw [Bool.false_or];have hs1:=hs0 i;generalize ao2 x w k i q.path=sv at *;obtain⟨v,bv⟩:=sv;simp only at hsi
      cases bv with
      | true=>
       repeat' first|refine sk146 ?_|intro b;conv=>whnf|((with_reducible refine' Ot.yd ?hydn ?_);(case hydn=>exact af2 rfl rfl ae6 (ae4 w _ hw.ct (fun l hl=>(hw.row l hl).1))))
       exact Rt.by (Vs.drop (yV _)) ⟨0,false,5,rfl,fun hfit=>by
        by_cases h0:q.op=0
        ·exact absurd (uB (hs1 h0)).2 (by decide)
        ·exact absurd (uB (hsf hfit h0)).2 (by decide)⟩
      | false=>
       have hv0:q.op=0->v=0:=fun h0=>(uB (hs1 h0)).1;have hvf:fitW x w=true->¬ q.op=0->v=endV x w k r q.path:=fun hfit h0=>(uB (hsf hfit h0)).1;have hsN:fitW x w=true->ai0 x w k q (Lk.take (i+1))=ai0 x w k q (Lk.take i)++[if q.op=0 then 1 else v]:=fun hfit=>by
        have h6:holdV x w k r q.cond=true:=(uB (hff hfit)).1.symm;rw [hsn,h6,if_pos rfl];by_cases h0:q.op=0
        ·rw [if_pos h0,if_pos h0]
        ·rw [if_neg h0,if_neg h0,hvf hfit h0]
       have hnl:fitW x w=true->n+1=((ai0 x w k q (Lk.take (i+1))).length:Int):=fun hfit=>by
        rw [hsN hfit,zI,(hfw hfit).1];simp
       by_cases o1:q.op=1
       ·have HU:fitW x w=true->out+v=outQ q (ai0 x w k q (Lk.take (i+1))):=fun hfit=>by
         rw [hsN hfit,if_neg (by omega),bN5 v o1,(hfw hfit).2]
        repeat' first|refine sk146 ?_|intro b;conv=>whnf|((with_reducible refine' Ot.yd ?hydn ?_);(case hydn=>exact af2 rfl rfl ae6 (ae4 w _ hw.ct (fun l hl=>(hw.row l hl).1))))
        exact⟨(i+1,n+1,(out+v)),(aa2 cl4),Sc.refl _,⟨by simp only;omega,⟨by simp only;omega,by simp only;omega⟩,⟨by simp only;omega,by simp only;omega⟩,fun hfit=>⟨hnl hfit,HU hfit⟩⟩,by simp only;omega⟩
       by_cases n0:n=0
       ·have HU:fitW x w=true->v=outQ q (ai0 x w k q (Lk.take (i+1))):=fun hfit=>by
         have hnil:ai0 x w k q (Lk.take i)=[]:=wX.1 (by have:=(hfw hfit).1;omega);rw [hsN hfit,hnil,List.nil_append];by_cases h0:q.op=0
         ·rw [aP1 _ h0,hv0 h0]
         ·rw [if_neg h0,bN6 v o1 h0]
        repeat' first|refine sk146 ?_|intro b;conv=>whnf|((with_reducible refine' Ot.yd ?hydn ?_);(case hydn=>exact af2 rfl rfl ae6 (ae4 w _ hw.ct (fun l hl=>(hw.row l hl).1))))
        exact⟨(i+1,n+1,v),(aa2 cl4),Sc.refl _,⟨by simp only;omega,⟨by simp only;omega,by simp only;omega⟩,⟨by simp only;omega,by simp only;omega⟩,fun hfit=>⟨hnl hfit,HU hfit⟩⟩,by simp only;omega⟩
       have hLn:fitW x w=true->ai0 x w k q (Lk.take i)≠[]:=fun hfit h=>by
        have:=(hfw hfit).1;rw [h] at this;simp at this;omega
       by_cases o2:q.op=2
       ·by_cases hlt:v<out
        ·have HU:fitW x w=true->v=outQ q (ai0 x w k q (Lk.take (i+1))):=fun hfit=>by
          rw [hsN hfit,if_neg (by omega),bq1 v o2 (hLn hfit),← (hfw hfit).2];omega
         repeat' first|refine sk146 ?_|intro b;conv=>whnf|((with_reducible refine' Ot.yd ?hydn ?_);(case hydn=>exact af2 rfl rfl ae6 (ae4 w _ hw.ct (fun l hl=>(hw.row l hl).1))))
         exact⟨(i+1,n+1,v),(aa2 cl4),Sc.refl _,⟨by simp only;omega,⟨by simp only;omega,by simp only;omega⟩,⟨by simp only;omega,by simp only;omega⟩,fun hfit=>⟨hnl hfit,HU hfit⟩⟩,by simp only;omega⟩
        ·have HU:fitW x w=true->out=outQ q (ai0 x w k q (Lk.take (i+1))):=fun hfit=>by
          rw [hsN hfit,if_neg (by omega),bq1 v o2 (hLn hfit),← (hfw hfit).2];omega
         repeat' first|refine sk146 ?_|intro b;conv=>whnf|((with_reducible refine' Ot.yd ?hydn ?_);(case hydn=>exact af2 rfl rfl ae6 (ae4 w _ hw.ct (fun l hl=>(hw.row l hl).1))))
         exact⟨(i+1,n+1,out),(aa2 cl4),Sc.refl _,⟨by simp only;omega,⟨by simp only;omega,by simp only;omega⟩,⟨by simp only;omega,by simp only;omega⟩,fun hfit=>⟨hnl hfit,HU hfit⟩⟩,by simp only;omega⟩
       by_cases o3:q.op=3
       ·by_cases hlt:out<v
        ·have HU:fitW x w=true->v=outQ q (ai0 x w k q (Lk.take (i+1))):=fun hfit=>by
          rw [hsN hfit,if_neg (by omega),bq2 v o3 (hLn hfit),← (hfw hfit).2];omega
         repeat' first|refine sk146 ?_|intro b;conv=>whnf|((with_reducible refine' Ot.yd ?hydn ?_);(case hydn=>exact af2 rfl rfl ae6 (ae4 w _ hw.ct (fun l hl=>(hw.row l hl).1))))
         exact⟨(i+1,n+1,v),(aa2 cl4),Sc.refl _,⟨by simp only;omega,⟨by simp only;omega,by simp only;omega⟩,⟨by simp only;omega,by simp only;omega⟩,fun hfit=>⟨hnl hfit,HU hfit⟩⟩,by simp only;omega⟩
        ·have HU:fitW x w=true->out=outQ q (ai0 x w k q (Lk.take (i+1))):=fun hfit=>by
          rw [hsN hfit,if_neg (by omega),bq2 v o3 (hLn hfit),← (hfw hfit).2];omega
         repeat' first|refine sk146 ?_|intro b;conv=>whnf|((with_reducible refine' Ot.yd ?hydn ?_);(case hydn=>exact af2 rfl rfl ae6 (ae4 w _ hw.ct (fun l hl=>(hw.row l hl).1))))
         exact⟨(i+1,n+1,out),(aa2 cl4),Sc.refl _,⟨by simp only;omega,⟨by simp only;omega,by simp only;omega⟩,⟨by simp only;omega,by simp only;omega⟩,fun hfit=>⟨hnl hfit,HU hfit⟩⟩,by simp only;omega⟩
       have HU:fitW x w=true->out=outQ q (ai0 x w k q (Lk.take (i+1))):=fun hfit=>by
        rw [aP1 _ (by omega),(hfw hfit).2,aP1 _ (by omega)]
       repeat' first|refine sk146 ?_|intro b;conv=>whnf|((with_reducible refine' Ot.yd ?hydn ?_);(case hydn=>exact af2 rfl rfl ae6 (ae4 w _ hw.ct (fun l hl=>(hw.row l hl).1))))
       exact⟨(i+1,n+1,out),(aa2 cl4),Sc.refl _,⟨by simp only;omega,⟨by simp only;omega,by simp only;omega⟩,⟨by simp only;omega,by simp only;omega⟩,fun hfit=>⟨hnl hfit,HU hfit⟩⟩,by simp only;omega⟩
   ·obtain rfl:i=Lk.length:=by omega
    rw [yM] at hfw;rw [hvE] at hE;have hlz:(aC2 x w k q Lk).length=(ai0 x w k q Lk).length:=by simp [aC2,ai0]
    have hz0:=fun h=>bz6 (x:=x) (w:=w) (k:=k) (q:=q) (l:=Lk) h;rw [hlz] at hz0;generalize ai0 x w k q Lk=L at *;by_cases o0:q.op=0
    ·repeat' first|refine sk146 ?_|intro b;conv=>whnf|((with_reducible refine' Ot.yd ?hydn ?_);(case hydn=>exact af2 rfl rfl ae6 (ae4 w _ hw.ct (fun l hl=>(hw.row l hl).1))))
     exact Rt.by (Vs.drop (yV _)) ⟨n,true,0,rfl,fun hfit=>by
      have hA':am6 q L=(L.sum,true):=by unfold am6;rw [if_pos (.inl o0)]
      rw [hE hfit,hA',(hfw hfit).1,hz0 o0]⟩
    ·by_cases n0:0<n
     ·repeat' first|refine sk146 ?_|intro b;conv=>whnf|((with_reducible refine' Ot.yd ?hydn ?_);(case hydn=>exact af2 rfl rfl ae6 (ae4 w _ hw.ct (fun l hl=>(hw.row l hl).1))))
      exact Rt.by (Vs.drop (yV _)) ⟨out,true,0,rfl,fun hfit=>by
       rw [hE hfit,(hfw hfit).2];have hL:L≠[]:=fun h=>by
        have h8:=(hfw hfit).1;rw [h,List.length_nil] at h8;omega
       unfold am6 outQ;by_cases o1:q.op=1
       ·simp [o1]
       ·by_cases o2:q.op=2
        ·simp [o2,hL]
        ·simp [o0,o1,o2,hL]⟩
     ·by_cases o1:q.op=1
      ·repeat' first|refine sk146 ?_|intro b;conv=>whnf|((with_reducible refine' Ot.yd ?hydn ?_);(case hydn=>exact af2 rfl rfl ae6 (ae4 w _ hw.ct (fun l hl=>(hw.row l hl).1))))
       exact Rt.by (Vs.drop (yV _)) ⟨out,decide (q.op=1),0,rfl,fun hfit=>by
        rw [hE hfit,(hfw hfit).2,yJ o1];unfold am6 outQ;simp [o1]⟩
      ·repeat' first|refine sk146 ?_|intro b;conv=>whnf|((with_reducible refine' Ot.yd ?hydn ?_);(case hydn=>exact af2 rfl rfl ae6 (ae4 w _ hw.ct (fun l hl=>(hw.row l hl).1))))
       exact Rt.by (Vs.drop (yV _)) ⟨out,decide (q.op=1),0,rfl,fun hfit=>by
        rw [yE o1];have hL:L=[]:=wX.1 (by have:=(hfw hfit).1;omega);rw [hE hfit,(hfw hfit).2,hL,bq0];unfold am6;rw [if_neg (by omega),if_pos rfl]⟩
  ·omega
end
section
open Go Go.Maps Go.MapKept
def fitV (x:Sch) (w:Wd) (k:Nat) (r:List Int) (f:Nat):Bool:=
 numOk (r.getD f 0)&&match (kdOf x k).fields[f]? with
  | some g=>!(decide (g.kind=1))||(decide (0<=r.getD f 0)&&decide (r.getD f 0<(w.getD (upIx x k f).toNat []).length))
  | none=>true
def fitR (x:Sch) (w:Wd) (k:Nat) (r:List Int):Bool:=decide (r.length=(kdOf x k).fields.length)&&(List.range r.length).all (fitV x w k r)
theorem cf6 {x:Sch} {w:Wd} (hfit:fitW x w=true) {k:Nat} {l:List (List Int)} (hl:w[k]?=some l) {r:List Int} (hr:r∈l):fitR x w k r=true:=by
 obtain⟨hlen,hrows,hrefs⟩:=an0 hfit;have hk:k<x.kz.length:=by have:=(zE.1 hl).1;omega
 have h5:=av0 (ax5 hk) ((ao3 (hrows _ _ hl)).2 r hr);unfold fitR;rw [zJ,zQ,yA];refine⟨h5.1,fun f hf=>?_⟩;rw [xT] at hf;obtain⟨z,hz⟩:∃ z,r[f]?=some z:=⟨_,zD hf⟩
 have hn:=h5.2 z (zG hz);unfold fitV numOk;rw [aa8 hz,zJ];refine⟨by simp only [xJ,wA,xF];omega,?_⟩
 cases hg:(kdOf x k).fields[f]? with
 | none=>rfl
 | some g=>
  by_cases h1:g.kind=1
  ·have hok:=hrefs _ (aH2 (ax5 hk) hg h1) l hl r hr;unfold refOk at hok;simp only at hok;rw [aa8 hz] at hok;simp only [xJ,wA,xF] at hok;simp only [h1,decide_true,Bool.not_true,Bool.false_or,zJ,zQ];omega
  ·simp [h1]
theorem cf5 {x:Sch} {w:Wd} (hlen:w.length=x.kz.length) (h1:∀ (k:Nat) (l:List (List Int)),w[k]?=some l->l.length<=512) (h2:∀ (k:Nat) (l:List (List Int)),w[k]?=some l->∀ r∈l,fitR x w k r=true):fitW x w=true:=by
 unfold fitW;simp only [zJ,zQ,yA];refine⟨⟨hlen,fun k hk=>?_⟩,fun rf hrf r hr=>?_⟩
 ·rw [xT] at hk;obtain⟨l,hl⟩:∃ l,w[k]?=some l:=⟨_,zD hk⟩
  rw [aa8 hl];unfold ap5;rw [zJ,zQ,yA];refine⟨h1 k l hl,fun r hr=>?_⟩;have h3:=h2 k l hl r hr;unfold fitR at h3;rw [zJ,zQ,yA] at h3;unfold recOk bO6;rw [ax5 (by omega:k<x.kz.length),zJ,zQ,yA];refine⟨h3.1,fun z hz=>?_⟩;obtain⟨f,hf⟩:=yO hz;have h4:=h3.2 f (xT.2 (zE.1 hf).1);unfold fitV at h4;rw [aa8 hf,zJ] at h4;exact h4.1
 ·obtain⟨kd,g,e1,e2,e3,e4,_⟩:=aL4 hrf;have hk:=(zE.1 e1).1;obtain⟨l,hl⟩:∃ l,w[rf.kind]?=some l:=⟨_,zD (by omega)⟩
  rw [aa8 hl] at hr;have h3:=h2 _ l hl r hr;unfold fitR at h3;rw [zJ,zQ,yA,ax6 e1] at h3;have hf:rf.field<r.length:=by rw [h3.1];exact (zE.1 e2).1
  have h4:=h3.2 rf.field (xT.2 hf);unfold fitV at h4;rw [ax6 e1,e2,zJ] at h4;have h5:=h4.2;simp only [e3,decide_true,Bool.not_true,Bool.false_or,zJ,zQ] at h5;unfold refOk;rw [e4];simp only [xJ,wA,xF];omega
theorem sk148 {A B:Prop} (k:B) (h:Hd7 B->A:=by intro q7;(first|refine sb0 ?_|refine sb1 ?_|(refine' cp7x ?hc ?_;(case hc=>exact HU)));exact q7.1):A:=h ⟨k⟩
theorem cc2 (x:Sch) (w:Wd) (hw:Ws w) (hp:aj9 x=[]) (hlen:w.length=x.kz.length) (hnk:x.kz.length<=1000000) (hnf:∀ k∈x.kz,k.fields.length<=1000000) (k:Nat) (hk:k<x.kz.length) (r:List Int) (hrl:r.length<=1000):APure prog 132 [schD x,slW w,iD k,slI r] (bD (fitR x w k r)):=by
 have hkd':x.kz[((k:Nat):Int).toNat]?=some (kdOf x k):=ax5 hk;have hU:=(aN2 hp).up;unfold fitR;have HU:=True.intro;by_cases hl:r.length=(kdOf x k).fields.length
 ·rw [yJ hl,Bool.true_and];refine eP7 func132 ntmps132 fun BB=>?_
  repeat' first|refine sk148 ?_|intro b;conv=>whnf
  refine ac2 mixed aa0 (γ:=Nat) (fun f=>[(10,iD f)]) (fun _=>[]) (fun f=>f<=r.length/\∀ j,j<f->fitV x w k r j=true) (fun f=>r.length-f) 0 (aa2 cl2) cl3 ⟨zW _,fun j hj=>by omega⟩ ?_;rintro f ⟨hf,ha⟩;by_cases hfl:f<r.length
  ·obtain⟨z,hz⟩:∃ z,r[f]?=some z:=⟨_,zD hfl⟩
   have hz':r[((f:Nat):Int).toNat]?=some z:=hz;obtain⟨g,hg⟩:∃ g,(kdOf x k).fields[f]?=some g:=⟨_,zD (by omega)⟩
   have hg':(kdOf x k).fields[((f:Nat):Int).toNat]?=some g:=hg;have hv:fitV x w k r f=(numOk z&&(!(decide (g.kind=1))||(decide (0<=z)&&decide (z<(w.getD (upIx x k f).toNat []).length)))):=by
    unfold fitV;rw [aa8 hz,hg]
   have bad:fitV x w k r f=false->(List.range r.length).all (fitV x w k r)=false:=fun h=>by
    cases h2:(List.range r.length).all (fitV x w k r) with
    | false=>rfl
    | true=>rw [yA] at h2;rw [h2 f (xT.2 hfl)] at h;cases h
   have good:fitV x w k r f=true->∀ j,j<f+1->fitV x w k r j=true:=fun h j hj=>by
    by_cases e:j=f
    ·subst e;exact h
    ·exact ha j (by omega)
   by_cases hn:-1099511627776<=z/\z<=1099511627776
   ·have hnum:numOk z=true:=by unfold numOk;simp only [xJ,wA,xF];omega
    rw [hnum,Bool.true_and] at hv;by_cases h1:g.kind=1
    ·have HU:=aB6 x k f hnk hnf;obtain⟨u1,u2,_⟩:=hU _ (aH2 (ax5 hk) hg h1);simp only at u1 u2;obtain⟨u,hu⟩:∃ u:Nat,upIx x k f=u:=⟨_,(xX u1).symm⟩
     rw [hu] at HU hv u2;obtain⟨lu,hlu⟩:∃ l,w[u]?=some l:=⟨_,zD (by omega)⟩
     have hlu':w[((u:Nat):Int).toNat]?=some lu:=hlu;rw [Int.toNat_natCast,aa8 hlu] at hv;simp only [h1,decide_true,Bool.not_true,Bool.false_or] at hv;by_cases hz2:0<=z/\z<lu.length
     ·rw [yJ hz2.1,yJ hz2.2] at hv
      repeat' first|refine sk148 ?_|intro b;conv=>whnf
      exact⟨f+1,(aa2 cl2),cl3,⟨by omega,good hv⟩,by omega⟩
     ·have hv2:fitV x w k r f=false:=by
       rw [hv];simp only [Bool.and_eq_false_iff,xF];omega
      rw [bad hv2];by_cases hz3:z<0
      ·repeat' first|refine sk148 ?_|intro b;conv=>whnf
       exact Rt.pure rfl
      ·repeat' first|refine sk148 ?_|intro b;conv=>whnf
       exact Rt.pure rfl
    ·have hv2:fitV x w k r f=true:=by rw [hv];simp [h1]
     repeat' first|refine sk148 ?_|intro b;conv=>whnf
     exact⟨f+1,(aa2 cl2),cl3,⟨by omega,good hv2⟩,by omega⟩
   ·have hnum:numOk z=false:=by unfold numOk;simp only [Bool.not_eq_false',xO,zQ];omega
    rw [hnum,Bool.false_and] at hv;rw [bad hv];by_cases hz3:z < -1099511627776
    ·repeat' first|refine sk148 ?_|intro b;conv=>whnf
     exact Rt.pure rfl
    ·repeat' first|refine sk148 ?_|intro b;conv=>whnf
     exact Rt.pure rfl
  ·obtain rfl:f=r.length:=by omega
   have hall:(List.range r.length).all (fitV x w k r)=true:=by rw [yA];intro j hj;exact ha j (xT.1 hj)
   rw [hall]
   repeat' first|refine sk148 ?_|intro b;conv=>whnf
   exact Rt.pure rfl
 ·rw [yE hl,Bool.false_and];refine eP7 func132 ntmps132 fun BB=>?_
  repeat' first|refine sk148 ?_|intro b;conv=>whnf
  exact Rt.pure rfl
end
section
open Go Go.Maps Go.MapKept
theorem bY0 {x:Sch} {w:Wd} (h:fitW x w=true->False):fitW x w=false:=by
 cases h2:fitW x w with
 | false=>rfl
 | true=>exact absurd h2 h
theorem sk149 {A B:Prop} (k:B) (h:Hd7 B->A:=by intro q7;(first|refine sb0 ?_|refine sb1 ?_|(refine' cp7x ?hc ?_;(case hc=>exact HF)));exact q7.1):A:=h ⟨k⟩
theorem bM2 (x:Sch) (w:Wd) (hw:Ws w) (hp:aj9 x=[]) (hnk:x.kz.length<=1000000) (hnf:∀ k∈x.kz,k.fields.length<=1000000):APure prog 71 [schD x,slW w] (bD (fitW x w)):=by
 have hwl:=hw.nk;by_cases hlen:w.length=x.kz.length
 ·refine eP7 func71 ntmps71 fun BB=>?_
  repeat' first|refine sk149 ?_|intro b;conv=>whnf
  refine ac2 mixed aa0 (γ:=Nat) (fun k=>[(5,iD k)]) (fun _=>[]) (fun k=>k<=w.length/\∀ (j:Nat) l,j<k->w[j]?=some l->l.length<=512) (fun k=>w.length-k) 0 (aa2 cl2) cl3 ⟨zW _,fun j l hj=>by omega⟩ ?_;rintro k ⟨hk,ha⟩;by_cases hkl:k<w.length
  ·obtain⟨l,hl⟩:∃ l,w[k]?=some l:=⟨_,zD hkl⟩
   have hl':w[((k:Nat):Int).toNat]?=some l:=hl;have hll:=hw.nr l (zG hl);by_cases h5:l.length<=512
   ·repeat' first|refine sk149 ?_|intro b;conv=>whnf
    exact⟨k+1,(aa2 cl2),cl3,⟨by omega,fun j l2 hj h2=>by
     by_cases e:j=k
     ·subst e;rw [hl] at h2;cases h2;exact h5
     ·exact ha j l2 (by omega) h2⟩,by omega⟩
   ·rw [bY0 fun hfit=>h5 (ao3 ((an0 hfit).2.1 k l hl)).1]
    repeat' first|refine sk149 ?_|intro b;conv=>whnf
    exact Rt.pure rfl
  ·obtain rfl:k=w.length:=by omega
   repeat' first|refine sk149 ?_|intro b;conv=>whnf
   refine ac2 mixed aa0 (γ:=Nat) (fun k=>[(6,iD k)]) (fun _=>[]) (fun k=>k<=w.length/\∀ (j:Nat) l,j<k->w[j]?=some l->∀ r∈l,fitR x w j r=true) (fun k=>w.length-k) 0 (aa2 cl2) cl3 ⟨zW _,fun j l hj=>by omega⟩ ?_;rintro k ⟨hk2,hb⟩;by_cases hkl2:k<w.length
   ·obtain⟨l,hl⟩:∃ l,w[k]?=some l:=⟨_,zD hkl2⟩
    have hl':w[((k:Nat):Int).toNat]?=some l:=hl;have hll:=hw.nr l (zG hl)
    repeat' first|refine sk149 ?_|intro b;conv=>whnf
    refine ac2 mixed aa0 (γ:=Nat) (fun i=>[(7,iD i)]) (fun _=>[]) (fun i=>i<=l.length/\∀ (j:Nat) r,j<i->l[j]?=some r->fitR x w k r=true) (fun i=>l.length-i) 0 (aa2 cl2) cl3 ⟨zW _,fun j r hj=>by omega⟩ ?_;rintro i ⟨hi,hc⟩;by_cases hil:i<l.length
    ·obtain⟨r,hr⟩:∃ r,l[i]?=some r:=⟨_,zD hil⟩
     have hr':l[((i:Nat):Int).toNat]?=some r:=hr;have HF:=cc2 x w hw hp hlen hnk hnf k (by omega) r (hw.nf l (zG hl) r (zG hr))
     cases hf:fitR x w k r with
     | true=>
      rw [hf] at HF
      repeat' first|refine sk149 ?_|intro b;conv=>whnf
      exact⟨i+1,(aa2 cl2),cl3,⟨by omega,fun j r2 hj h2=>by
       by_cases e:j=i
       ·subst e;rw [hr] at h2;cases h2;exact hf
       ·exact hc j r2 (by omega) h2⟩,by omega⟩
     | false=>
      rw [hf] at HF;rw [bY0 fun hfit=>by rw [cf6 hfit hl (zG hr)] at hf;cases hf]
      repeat' first|refine sk149 ?_|intro b;conv=>whnf
      exact Rt.pure rfl
    ·obtain rfl:i=l.length:=by omega
     repeat' first|refine sk149 ?_|intro b;conv=>whnf
     exact⟨k+1,(aa2 cl2),cl3,⟨by omega,fun j l2 hj h2=>by
      by_cases e:j=k
      ·subst e;rw [hl] at h2;cases h2
       intro r hr;obtain⟨a,ha2⟩:=yO hr;exact hc a r (zE.1 ha2).1 ha2
      ·exact hb j l2 (by omega) h2⟩,by omega⟩
   ·obtain rfl:k=w.length:=by omega
    rw [cf5 hlen (fun j l h=>ha j l (zE.1 h).1 h) (fun j l h=>hb j l (zE.1 h).1 h)]
    repeat' first|refine sk149 ?_|intro b;conv=>whnf
    exact Rt.pure rfl
 ·rw [bs5 hlen];refine eP7 func71 ntmps71 fun BB=>?_
  repeat' first|refine sk149 ?_|intro b;conv=>whnf
  exact Rt.pure rfl
theorem sk150 {A B:Prop} (k:B) (h:Hd7 B->A:=by intro q7;(first|refine sb0 ?_|refine sb1 ?_|(refine' cp7x ?hc ?_;(case hc=>first|exact HC|exact HF|exact HE)));exact q7.1):A:=h ⟨k⟩
theorem bj6 (x:Sch) (w:Wd) (q:Qry) (p:Prb) (ps:List Prb) (hp:aj9 x=p::ps) (HV:APure prog 127 [schD x] (iD (ad4 x))):APure prog 29 [schD x,slW w,qryD q] (.tup [iD 0,bD false,iD p.2.2.2]):=by
 have HC:=aO4 x HV;rw [hp] at HC;have HF:=True.intro;have HE:=True.intro;refine eP7 func29 ntmps29 fun BB=>?_
 repeat' first|refine sk150 ?_|intro b;conv=>whnf
 exact Rt.pure rfl
theorem aT6 (x:Sch) (w:Wd) (q:Qry) (hw:Ws w) (hp:aj9 x=[]) (hs:q.cond.size<=1000000) (hpl:q.path.length<=1000000) (hA:q.cond.All CndS) (HV:APure prog 127 [schD x] (iD (ad4 x))) :
  APure prog 29 [schD x,slW w,qryD q] (.tup [iD (af1 x w q).1,bD (af1 x w q).2.1,iD (af1 x w q).2.2]):=by
 have HC:=aO4 x HV;rw [hp] at HC;have hV:=(aN2 hp).vld;have hnk:=hV.nk;have hnf:∀ k∈x.kz,k.fields.length<=1000000:=fun k hk=>by have:=hV.nf k hk;omega
 have HF:=bM2 x w hw hp (by omega) hnf;have hcd:cndC q.cond=[iD q.cond.op,.sl 5 (aD1 q.cond),slS q.cond.path,slS q.cond.other,iD q.cond.n]:=rfl;by_cases hfit:fitW x w=true
 ·have HE:=bM3 x w q hw hp hfit (by omega) hnf hs hpl hA HV;rw [hfit] at HF;generalize af1 x w q=an at *;refine eP7 func29 ntmps29 fun BB=>?_
  repeat' first|refine sk150 ?_|intro b;conv=>whnf
  exact Rt.pure rfl
 ·rw [Bool.not_eq_true] at hfit;have hE:af1 x w q=(0,false,2):=by unfold af1;rw [if_pos hfit]
  rw [hE];rw [hfit] at HF;have HE:=True.intro;refine eP7 func29 ntmps29 fun BB=>?_
  repeat' first|refine sk150 ?_|intro b;conv=>whnf
  exact Rt.pure rfl
end
section
open Go
def kLit:List Nat:=[
 0x428a2f98,0x71374491,0xb5c0fbcf,0xe9b5dba5,0x3956c25b,0x59f111f1,0x923f82a4,0xab1c5ed5,
 0xd807aa98,0x12835b01,0x243185be,0x550c7dc3,0x72be5d74,0x80deb1fe,0x9bdc06a7,0xc19bf174,
 0xe49b69c1,0xefbe4786,0x0fc19dc6,0x240ca1cc,0x2de92c6f,0x4a7484aa,0x5cb0a9dc,0x76f988da,
 0x983e5152,0xa831c66d,0xb00327c8,0xbf597fc7,0xc6e00bf3,0xd5a79147,0x06ca6351,0x14292967,
 0x27b70a85,0x2e1b2138,0x4d2c6dfc,0x53380d13,0x650a7354,0x766a0abb,0x81c2c92e,0x92722c85,
 0xa2bfe8a1,0xa81a664b,0xc24b8b70,0xc76c51a3,0xd192e819,0xd6990624,0xf40e3585,0x106aa070,
 0x19a4c116,0x1e376c08,0x2748774c,0x34b0bcb5,0x391c0cb3,0x4ed8aa4a,0x5b9cca4f,0x682e6ff3,
 0x748f82ee,0x78a5636f,0x84c87814,0x8cc70208,0x90befffa,0xa4506ceb,0xbef9a3f7,0xc67178f2]
def rotR (x:W32) (n:Nat):W32:=(x >>> n) ||| (x <<< (32-n))
def mixW (x:W32) (i j k:Nat):W32:=rotR x i ^^^ rotR x j ^^^ rotR x k
def accW (x:W32) (d:Nat):W32:=(x <<< 8) ||| BitVec.ofNat 32 d
def cv5 (a b c d:Nat):W32:=accW (accW (accW (accW 0 a) b) c) d
def sml0 (p:W32):W32:=rotR p 7 ^^^ rotR p 18 ^^^ (p >>> 3)
def sml1 (q:W32):W32:=rotR q 17 ^^^ rotR q 19 ^^^ (q >>> 10)
def schN (b:List Nat):Nat->List W32
 | 0=>[]
 | t+1=>schN b t++[if t<16 then cv5 (b.getD (4*t) 0) (b.getD (4*t+1) 0) (b.getD (4*t+2) 0) (b.getD (4*t+3) 0)
   else (schN b t).getD (t-16) 0+sml0 ((schN b t).getD (t-15) 0)+(schN b t).getD (t-7) 0+sml1 ((schN b t).getD (t-2) 0)]
structure S8 where
 a:W32
 b:W32
 c:W32
 d:W32
 e:W32
 f:W32
 g:W32
 h:W32
def chW (e f g:W32):W32:=(e &&& f) ^^^ (~~~e &&& g)
def majW (a b c:W32):W32:=(a &&& b) ^^^ (a &&& c) ^^^ (b &&& c)
def rnd (s:S8) (k w:W32):S8:=
 ⟨s.h+mixW s.e 6 11 25+chW s.e s.f s.g+k+w+(mixW s.a 2 13 22+majW s.a s.b s.c),s.a,s.b,s.c,s.d+(s.h+mixW s.e 6 11 25+chW s.e s.f s.g+k+w),s.e,s.f,s.g⟩
def kAt (t:Nat):W32:=BitVec.ofNat 32 (kLit.getD t 0)
def rnds (s:S8) (b:List Nat):Nat->S8
 | 0=>s
 | t+1=>rnd (rnds s b t) (kAt t) ((schN b 64).getD t 0)
def S8.add (s t:S8):S8:=⟨s.a+t.a,s.b+t.b,s.c+t.c,s.d+t.d,s.e+t.e,s.f+t.f,s.g+t.g,s.h+t.h⟩
def cx6 (s:S8) (b:List Nat):S8:=s.add (rnds s b 64)
def cw8:S8:=⟨0x6a09e667,0xbb67ae85,0x3c6ef372,0xa54ff53a,0x510e527f,0x9b05688c,0x1f83d9ab,0x5be0cd19⟩
def shaN (m:List Nat):Nat->S8
 | 0=>cw8
 | n+1=>cx6 (shaN m n) ((m.drop (64*n)).take 64)
theorem bo2 (m t:List Nat):∀ n,64*n<=m.length->shaN (m++t) n=shaN m n
 | 0,_=>rfl
 | n+1,h=>by
  rw [shaN,shaN,bo2 m t n (by omega),List.drop_append_of_le_length (by omega),vK (by rw [List.length_drop];omega)]
structure StrOK (m:List Nat) (s:S8) (b:List Nat):Prop where
 st:s=shaN m (m.length/64)
 len:b.length=64
 bl:b.take (m.length%64)=m.drop (64*(m.length/64))
def putB (b:List Nat) (at_:Nat) (t:List Nat):List Nat:=b.take at_++t++b.drop (at_+t.length)
theorem bM9 {b t:List Nat} {a:Nat} (h:a+t.length<=b.length):(putB b a t).length=b.length:=by
 unfold putB;simp only [zI,zR,List.length_drop];omega
theorem StrOK.more {m b t:List Nat} {s:S8} (h:StrOK m s b) (ht:m.length%64+t.length<64):StrOK (m++t) s (putB b (m.length%64) t):=by
 have hd:(m++t).length/64=m.length/64:=by rw [zI];omega
 have hm:(m++t).length%64=m.length%64+t.length:=by rw [zI];omega
 have hl:=h.len;refine⟨?_,by rw [bM9 (by omega)];exact hl,?_⟩
 ·rw [hd,bo2 m t _ (by omega)];exact h.st
 ·rw [hd,hm,List.drop_append_of_le_length (by omega),← h.bl];unfold putB;rw [vK (by simp only [zI,zR];omega),yL (by simp only [zI,zR];omega)]
end
section
open Go Go.RowKit Go.Shelf
section
variable {P:Program} {σ:aa1} {ρ:Operand->D} {T:TypeId->Option TI}
end
section
variable {P:Program} {σ:aa1} {ρ:Operand->D}
end
section
variable {P:Program} {w:World} {X:Nat->Prop}
end
section
variable {P:Program} {r:Option Nat} {n:Nat} {df:Nat} {N:Nat} {σ:aa1} {a:List D} {f:Frm} {T:TypeId->Option TI} {L:List Oper} {Q:Fst} {ρ:Operand->D}
end
end
section
open Go
section
variable {P:Program} {t:TypeId} {p q:Operand} {w:World}
theorem cy2 {n:Nat} (h0:0<n) (h:n<32):(do eqGuard .and t p q (.int .u64 ((18446744073709551616-n:Nat):Int)) (.int .u64 31);binOp .and t (.int .u64 ((18446744073709551616-n:Nat):Int)) (.int .u64 31)).run P w = .ok (.int .u64 ((32-n:Nat):Int)) w:=by
 have h1:=aX8 (P:=P) (t:=t) (p:=p) (q:=q) (w:=w) .u64 .and (fun x y=>x &&& y) (.inr (.inr ⟨rfl,rfl⟩)) rfl (18446744073709551616-n) 31 (by show _<18446744073709551616;omega) (by show 31<18446744073709551616;omega);have e:(18446744073709551616-n) &&& 31=32-n:=by
  rw [show 31=2 ^ 5-1 from rfl,Nat.and_two_pow_sub_one_eq_mod];omega
 simp only [e] at h1;exact h1
theorem cw0 {n:Nat} (h:n<=32):(do eqGuard .sub t p q (.int .u64 32) (.int .u64 (n:Int));binOp .sub t (.int .u64 32) (.int .u64 (n:Int))).run P w = .ok (.int .u64 ((32-n:Nat):Int)) w:=by
 show Result.ok (Value.int .u64 (IntKind.u64.wrap _)) w=_;have e:IntKind.u64.wrap (32-(n:Int))=((32-n:Nat):Int):=by rw [IntKind.wrap_u64];omega
 rw [e]
end
theorem au2 (x:W32) (n:Nat) (h0:0<n) (h:n<32):APure prog 222 [wD x,iD (-(n:Int))] (wD (rotR x n)):=by
 refine eP7 func222 ntmps222 fun BB=>?_
 repeat' first|refine sk2 ?_|intro b;conv=>whnf
 refine Ot.yd (aj6 (m:=((18446744073709551616-n:Nat):Int)) rfl rfl underlying3 underlying180 (by rw [IntKind.wrap_u64];omega)) ?_
 repeat' first|refine sk2 ?_|intro b;conv=>whnf
 refine Ot.yd (ai3 (r:=.int .u64 ((32-n:Nat):Int)) rfl rfl rfl (fun w=>cy2 h0 h)) ?_
 repeat' first|refine sk2 ?_|intro b;conv=>whnf
 refine Ot.yd (ai3 (r:=wV (x <<< (32-n))) rfl rfl rfl (fun w=>cm3 x .u64 (32-n) (by omega))) ?_
 repeat' first|refine sk2 ?_|intro b;conv=>whnf
 refine Ot.yd (ai3 (r:=.int .u64 ((32-(32-n):Nat):Int)) rfl rfl rfl (fun w=>cw0 (by omega))) ?_
 repeat' first|refine sk2 ?_|intro b;conv=>whnf
 refine Ot.yd (ai3 (r:=wV (x >>> (32-(32-n)))) rfl rfl rfl (fun w=>cm2 x .u64 (32-(32-n)) (by omega))) ?_
 repeat' first|refine sk2 ?_|intro b;conv=>whnf
 refine Ot.yd (ai3 (r:=wV (x <<< (32-n) ||| x >>> (32-(32-n)))) rfl rfl rfl (fun w=>cw1 _ _)) ?_
 repeat' first|refine sk2 ?_|intro b;conv=>whnf
 refine Rt.pure ?_;rw [show 32-(32-n)=n by omega,BitVec.or_comm]
 rfl
theorem sk151 {A B:Prop} (k:B) (h:Hd7 B->A:=by intro q7;(first|refine sb0 ?_|refine sb1 ?_|(refine' cp7x ?hc ?_;(case hc=>first|exact au2 _ _ h0 h1|exact au2 _ _ h2 h3|exact au2 _ _ h4 h5)));exact q7.1):A:=h ⟨k⟩
end
section
open Go
def wc (l:List W32):List D:=l.map wD++List.replicate (64-l.length) (wD 0)
theorem sb152 {A B:Prop} (k:B) (h:Hd7 B->A:=by intro q7;(first|refine u5x ?_|fail|fail|((with_reducible refine' Ot.yd ?hyd ?_);(case hyd=>first|(refine' aG5 aa0 rfl rfl rfl rfl rfl ?hc ?h0;(case hc=>assumption);(case h0=>omega))|(refine aG4 aa0 rfl rfl rfl rfl rfl ?_;first|omega|(simp only [zL,zR,zI,List.length_cons,List.length_nil,zY,Nat.reduceAdd];omega))|(refine aA2 aa0 rfl rfl rfl rfl rfl ?_;omega)|exact yd_bne rfl rfl rfl underlying4|exact aS7 rfl rfl rfl|exact aS8 rfl rfl rfl))|refine u2x ?_);exact q7.1):A:=h ⟨k⟩
theorem sk153 {A B:Prop} (k:B) (h:Hd7 B->A:=by intro q7;(first|refine sb152 ?_|refine sb1 ?_|(refine' cp7x ?hc ?_;(case hc=>first|exact au2 _ 7 (by decide) (by decide)|exact au2 _ 18 (by decide) (by decide)|exact au2 _ 17 (by decide) (by decide)|exact au2 _ 19 (by decide) (by decide))));exact q7.1):A:=h ⟨k⟩
end
section
open Go Go.Maps Go.MapKept
theorem bX0 {f:FuncId} {c1:List D} (l:List (Int × Int)) (p:Int × Int->Bool) (hl:l.length<=1000000) (hp:∀ y∈l,APure prog f [.agg (movC y),.ro c1] (bD (p y))):APure prog 241 [.sl 2 (l.map movC),.clo f [.ro c1]] (iD (idx p l)):=by
 refine eP7 func241 ntmps241 fun BB=>?_
 repeat' first|refine sk22 ?_|intro b;conv=>whnf
 refine ac6 mixed aa0 (γ:=Nat) (fun k=>[(8,iD k)]) (fun _=>[]) (fun k=>k<=l.length/\∀ i y,i<k->l[i]?=some y->p y=false) (fun k=>l.length-k) 0 rfl rfl ⟨by omega,by omega⟩ ?_;rintro k ⟨hk,hno⟩;by_cases hlt:k<l.length
 ·obtain⟨y,hy⟩:∃ y,l[(k:Int).toNat]?=some y:=⟨_,zD hlt⟩
  repeat' first|refine sk22 ?_|intro b;conv=>whnf|with_reducible refine Br.d (fun hc=>?_) (fun hc=>?_)|with_reducible refine Br.b (fun hc=>?_) (fun hc=>?_)
  ·refine Rt.pure (zM iD ?_);exact (ad3 hy ‹_› hno).symm
  ·exact⟨k+1,rfl,rfl,⟨by omega,fun i z hi hz=>by
    by_cases e:i=k
    ·subst e;rw [show ((i:Int)).toNat=i from rfl,hz] at hy;cases hy;assumption
    ·exact hno i z (by omega) hz⟩,by omega⟩
 ·repeat' first|refine sk22 ?_|intro b;conv=>whnf
  refine Rt.pure (zM iD ?_);exact (ai8 fun i y hy=>hno i y (by have:=(zE.1 hy).1;omega) hy).symm
theorem sk154 {A B:Prop} (k:B) (h:Hd7 B->A:=by intro q7;(first|refine sb0 ?_|refine sb1 ?_|(refine' cp7x ?hc ?_;(case hc=>exact bX0 l p hl hp)));exact q7.1):A:=h ⟨k⟩
end
section
open Go Go.Maps Go.MapKept
end
section
open Go Go.Maps Go.MapKept
end
section
open Go Go.Maps Go.MapKept
theorem sk155 {A B:Prop} (k:B) (h:Hd7 B->A:=by intro q7;(first|refine sb0 ?_|refine sb1 ?_|(refine' cp7x ?hc ?_;(case hc=>first|exact HV|exact HM)));exact q7.1):A:=h ⟨k⟩
end
section
open Go
end
section
open Go Go.Maps Go.MapKept
theorem bo1 (l:List Int) (v:Int) (hl:l.length<=1000000):APure prog 171 [slI l,iD v] (iD (idx (fun y=>decide (v=y)) l)):=by
 refine eP7 func171 ntmps171 fun BB=>?_
 repeat' first|refine sk2 ?_|intro b;conv=>whnf
 refine ac6 mixed aa0 (γ:=Nat) (fun k=>[(8,iD k)]) (fun _=>[]) (fun k=>k<=l.length/\∀ i y,i<k->l[i]?=some y->decide (v=y)=false) (fun k=>l.length-k) 0 rfl rfl ⟨by omega,by omega⟩ ?_;rintro k ⟨hk,hno⟩;by_cases hlt:k<l.length
 ·obtain⟨y,hy⟩:∃ y,l[(k:Int).toNat]?=some y:=⟨_,zD hlt⟩
  by_cases hv:v=y
  ·repeat' first|refine sk2 ?_|intro b;conv=>whnf
   refine Rt.pure (zM iD ?_);exact (ad3 (p:=fun y=>decide (v=y)) hy (yJ hv) hno).symm
  ·repeat' first|refine sk2 ?_|intro b;conv=>whnf
   exact⟨k+1,rfl,rfl,⟨by omega,fun i z hi hz=>by
    by_cases e:i=k
    ·subst e;rw [show ((i:Int)).toNat=i from rfl,hz] at hy;cases hy;exact yE hv
    ·exact hno i z (by omega) hz⟩,by omega⟩
 ·repeat' first|refine sk2 ?_|intro b;conv=>whnf
  refine Rt.pure (zM iD ?_);exact (ai8 fun i y hy=>hno i y (by have:=(zE.1 hy).1;omega) hy).symm
theorem sk156 {A B:Prop} (k:B) (h:Hd7 B->A:=by intro q7;(first|refine sb0 ?_|refine sb1 ?_|(refine' cp7x ?hc ?_;(case hc=>exact bo1 l v hl)));exact q7.1):A:=h ⟨k⟩
end
section
open Go Go.Maps Go.MapKept
theorem sk157 {A B:Prop} (k:B) (h:Hd7 B->A:=by intro q7;(first|refine sb0 ?_|refine sb1 ?_|(refine' cp7x ?hc ?_;(case hc=>first|exact HS|exact HF)));exact q7.1):A:=h ⟨k⟩
end
section
open Go Go.Maps Go.MapKept
theorem sk158 {A B:Prop} (k:B) (h:Hd7 B->A:=by intro q7;(first|refine sb0 ?_|refine sb57 ?_|(refine' cp7x ?hc ?_;(case hc=>first|exact aj4 _ _|exact HC|exact HF|exact HW|exact HN)));exact q7.1):A:=h ⟨k⟩
theorem sk159 {A B:Prop} (k:B) (h:Hd7 B->A:=by intro q7;(first|refine sb0 ?_|refine sb1 ?_|(refine' cp7x ?hc ?_;(case hc=>first|exact aj4 _ _|exact HC|exact HF|exact HW|exact HN)));exact q7.1):A:=h ⟨k⟩
end
section
open Go Go.Maps Go.MapKept
theorem sk160 {A B:Prop} (k:B) (h:Hd7 B->A:=by intro q7;(first|refine sb0 ?_|refine sb1 ?_|(refine' cp7x ?hc ?_;(case hc=>first|exact aj4 _ _|exact HN|exact HT|exact HK)));exact q7.1):A:=h ⟨k⟩
theorem sk161 {A B:Prop} (k:B) (h:Hd7 B->A:=by intro q7;(first|refine sb0 ?_|refine sb57 ?_|(refine' cp7x ?hc ?_;(case hc=>first|exact aj4 _ _|exact HN|exact HT|exact HK)));exact q7.1):A:=h ⟨k⟩
theorem sk162 {A B:Prop} (k:B) (h:Hd7 B->A:=by intro q7;(first|refine sb0 ?_|refine sb118 ?_|(refine' cp7x ?hc ?_;(case hc=>first|exact aj4 _ _|exact HN|exact HT|exact HK)));exact q7.1):A:=h ⟨k⟩
end
end Go.Proofs.YtlcfiilejnnlnaaGreatDoor
