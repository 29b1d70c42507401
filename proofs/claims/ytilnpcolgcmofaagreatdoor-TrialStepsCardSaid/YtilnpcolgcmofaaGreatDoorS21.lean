/- A part of the proof: V8 Xa Xb Mq Xc Ta Tb Tc. -/
import Derived.Test.YtilnpcolgcmofaaGreatDoorS20
set_option maxRecDepth 100000
set_option maxHeartbeats 20000000
set_option linter.all false
namespace Go.Proofs.YtilnpcolgcmofaaGreatDoor
open Tryz
section
open Go Go.RowKit
theorem bJ.plc{x:ak}(h:bJ x){k f:Int}{kd:au}(c:0<=k)(a:x.kz[k.toNat]?=some kd)(f0:0<=f)(b:f<kd.fields.length):QU x k f:=by
 have g:=(zE.1 a).1;have e:=h.nk.2;have d:=h.sm.nf kd (zG a);exact⟨c,by omega,by omega,f0,by omega,by simp[di,a,b]⟩
theorem bJ.kpos{x:ak}(h:bJ x){k:Nat}{kd:au}(a:x.kz[k]?=some kd):1<=kd.fields.length/\kd.fields.length<=10:=by
 refine⟨?_,h.sm.nf kd (zG a)⟩;obtain⟨l,r,i,f1,f2,c,p,t,f,e,d,b,_⟩:=h.hx.form k kd a;rw[b];simp
section
variable {P:Program} {T:TypeId->Option TI} {σ τ:af}
theorem Ap.frz2{t e:TypeId}{i j:TI}{g:Bool}{k b:Nat}{xs ys zs:List (List D)}{v a:Value}{s c:af}{K:D->af->Prop}(w:T t=some i)(u:i.sl=some (e,g,k,b))(q:T e=some j)(h:(Nat.beq j.zero.length j.size&&Nat.blt 0 k&&Nat.beq j.size k)=true)
  (r:ae e k xs v s) (d:ae e k ys a c) (p:σ.Perm (s++(c++τ))) (o:(ys.all λy=>y.all dH)=true) (z:xs++ys=zs) (f:zs.length*b<=140737488355328) (m:zs.length<=1000000000)
  (l:W (K (.sl k zs) τ)):Ap P T σ (.v v) (.v a) t K:=by
 subst z;simp only[zJ]at h;rw[zI]at f m;exact⟨e,i,j,g,k,b,xs,ys,v,s,c,τ,w,u,q,yH h.1.1,by simpa [wT]using h.1.2,yH h.2,rfl,.inr ⟨a,rfl,d⟩,r,p,λy n=>yA.1 o y n,f,m,.inr l.h⟩
end
theorem JC(p:cK):((p.map bX).all λy=>y.all dH)=true:=yA.2 λy h=>by obtain⟨z,_,rfl⟩:=xM.1 h;rfl
def rP(L:cK)(i:Nat):cK:=(L.take i).map ug++L.drop i
theorem GL(L:cK)(i:Nat):(rP L i).length=L.length:=by unfold rP;rw[zI,zL,zR,List.length_drop];omega
theorem AF{L:cK}{i:Nat}{y:VI}(h:L[i]?=some y):(rP L i)[i]?=some y:=by
 have a:=(zE.1 h).1;unfold rP;rw[yK (by rw[zL,zR];omega),zL,zR,xR];rw[show i+(i-min i L.length)=i by omega];exact h
theorem rO{L:cK}{i:Nat}{y:VI}(h:L[i]?=some y):(rP L i).set i (ug y)=rP L (i+1):=by
 have a:=(zE.1 h).1;unfold rP;rw[xC,h,yB,List.set_append_right _ _ (by rw[zL,zR];omega),zL,zR,show i-min i L.length=0 by omega,vG a,List.set_cons_zero];simp
theorem GM(L:cK):rP L L.length=L.map ug:=by unfold rP;rw[yM,List.drop_length,zZ]
theorem Aj{A B:Prop}(k:B)(h:ar B->A:=by intro q7;(first|refine bQ ?_|refine aA ?_|(refine' ah ?hc ?_;(case hc=>first|exact HA0|exact HA1|exact HA _ _|exact HU _ _)));exact q7.1):A:=h ⟨k⟩
theorem SU{A B:Prop}(k:B)(h:ar B->A:=by intro q7;(first|(with_reducible refine Bc.l ?_)|((with_reducible refine Bx.l ?_);(((with_reducible refine W.mk ?_);(conv=>whnf)));(((with_reducible refine Sd.go ?qs7 ?_);(case qs7=>first|trivial|(constructor<;>omega)|omega|assumption|(refine And.intro ?_ (cA.mk ?_ ?_)<;>omega)|((try simp only[zL,zR,zI,List.length_cons,List.length_nil,zY,Nat.reduceAdd]at *);first|(constructor<;>omega)|omega)))))|refine MT ?_);exact q7.1):A:=h ⟨k⟩
theorem KC{A B:Prop}(k:B)(h:ar B->A:=by intro q7;(first|refine bQ ?_|refine SU ?_|(refine' ah ?hc ?_;(case hc=>first|exact HA0|exact HA1|exact HA3|exact HA _ _|exact HU _ _)));exact q7.1):A:=h ⟨k⟩
theorem fQ{A B:Prop}(k:B)(h:ar B->A:=by intro q7;(first|refine bQ ?_|refine aA ?_|(refine' ah ?hc ?_;(case hc=>first|exact HA0|exact HA1|exact HA3|exact HA _ _|exact HU _ _)));exact q7.1):A:=h ⟨k⟩
theorem SI{A B:Prop}(k:B)(h:ar B->A:=by intro q7;(first|refine bQ ?_|refine aA ?_|(refine' ah ?hc ?_;(case hc=>first|exact HA0|exact HA1|exact HA6|exact HA _ _|exact HS)));exact q7.1):A:=h ⟨k⟩
theorem SH{A B:Prop}(k:B)(h:ar B->A:=by intro q7;(first|refine bQ ?_|refine aA ?_|(refine' ah ?hc ?_;(case hc=>first|exact HA4|exact HA _ _|exact HS)));exact q7.1):A:=h ⟨k⟩
theorem cH{A B:Prop}(k:B)(h:ar B->A:=by intro q7;(first|refine bQ ?_|refine aA ?_|(refine' ah ?hc ?_;(case hc=>first|exact HA5|exact HS)));exact q7.1):A:=h ⟨k⟩
theorem KB{A B:Prop}(k:B)(h:ar B->A:=by intro q7;(first|refine bQ ?_|refine aA ?_|(refine' ah ?hc ?_;(case hc=>first|exact HA0|exact HA1|exact HA2|exact HU2|exact HA _ _)));exact q7.1):A:=h ⟨k⟩
theorem fg{p:Prop}(h:p:=by rw[zL,zI];simp;omega):p:=h
theorem X3{p:Prop}(h:p:=by
 repeat' first|refine fQ ?_|((refine' Ld.cellm (tb:=83) (cs:=cs) (by simp) ?hldc ?_);(case hldc=>first|exact hc0|exact hc1|exact hc3))
 refine Sv.cellm (tb:=83) (cs:=cs) (cs':=cs.set (i*4+3) (iD (y.c+3))) (τ:=[_]) (zH _) (by rw[show 0+((i:Nat):Int).toNat*4+3=i*4+3 by simp];exact hlt (hcs 3 (by decide))) rfl (by rw[show 0+((i:Nat):Int).toNat*4+3=i*4+3 by simp]) ?_
 repeat refine fQ ?_
 exact⟨(i+1,_),(aj aw),Sc.refl _,⟨by omega,hst (by decide) hsv⟩,by simp only;omega⟩):p:=h
theorem XW{p:Prop}(h:p:=by
 refine cU func17 ntmps17 λBB=>?_
 repeat refine Aj ?_
 (refine ba (aD2 _ _ _ _ _ _ _) (zH ([]++_)) (λs'=>s') cZ ?_;(rintro _ s9 ⟨v,rfl,hv⟩))
 repeat refine Aj ?_
 exact Rt.by (Vs.row hv (bR _)) ⟨rfl,_,rfl,aP1 (hL (.inl (by decide)))⟩):p:=h
theorem mL(x:ak)(hx:bJ x)(l:List Int)(hl:eB l):az prog 17 [ax x,bi l] [] (λd σ=>σ=[]/\∃p,d=rC p/\en x p):=by
 have HA:=λi n=>YS l hl i n;have HU:=λi j=>PY x i j (by have:=hx.nk;omega) (λk hk=>by have:=hx.sm.nf k hk;omega);obtain⟨hn1,hn3⟩:=hx.nk;obtain⟨k0,kl⟩:=dl l 0 x.kz.length
 replace kl:=kl (by omega)
 obtain⟨k,hk⟩:∃k:Nat,av l 0 x.kz.length=k:=⟨(av l 0 x.kz.length).toNat,by omega⟩
 rw[hk]at kl;obtain⟨kd,R⟩:∃kd,x.kz[k]?=some kd:=⟨_,zD (by omega)⟩
 obtain⟨hf1,hf10⟩:=hx.kpos R;obtain⟨f0,fl⟩:=dl l 1 kd.fields.length
 replace fl:=fl (by omega)
 obtain⟨f,hf⟩:∃f:Nat,av l 1 kd.fields.length=f:=⟨(av l 1 kd.fields.length).toNat,by omega⟩
 rw[hf]at fl;obtain⟨s0,G⟩:=dl l 2 12;obtain⟨c0,c1⟩:=dl l 3 3;obtain⟨o0,o1⟩:=dl l 4 2
 replace G:=G (by decide)
 replace c1:=c1 (by decide)
 replace o1:=o1 (by decide)
 have S:QU x k f:=hx.plc (by omega) R (by omega) (by omega);have hkd':x.kz[((k:Nat):Int).toNat]?=some kd:=R;have HA0:APure prog 29 [bi l,iD 0,iD ((x.kz.map bv).length:Nat)] (iD k):=by rw[zL,←hk];exact HA _ _
 have HA1:APure prog 29 [bi l,iD 1,iD ((kd.fields.map aH).length:Nat)] (iD f):=by rw[zL,←hf];exact HA _ _
 by_cases e0:av l 5 6=0
 .refine cU func17 ntmps17 λBB=>?_
  repeat refine Aj ?_
  exact Rt.by (Vs.refl _ _) ⟨rfl,YW k (av l 2 12-2) (1+av l 3 3),rfl,AE ⟨by omega,by omega⟩ kl (by omega) ⟨by omega,by omega⟩⟩
 by_cases e1:av l 5 6=1
 .obtain⟨q0,q1⟩:=dl l 6 x.kz.length
  replace q1:=q1 (by omega)
  obtain⟨n0,V⟩:=dl l 7 3
  replace V:=V (by decide)
  have HA3:APure prog 29 [bi l,iD 6,iD ((x.kz.map bv).length:Nat)] (iD (av l 6 x.kz.length)):=by rw[zL];exact HA _ _
  have hLo:Ke x k f (-1) 0 (7+av l 4 2) (av l 2 12-2) (1+av l 3 3):=⟨S,.inl (by decide),by omega,by omega,by omega⟩
  have hO:=NK hLo (kk:=av l 6 x.kz.length) (n:=1+av l 7 3) (by omega) q1 (by omega);refine cU func17 ntmps17 λBB=>?_
  repeat refine KC ?_
  refine Bx.l ?_
  repeat refine KC ?_
  refine Bx.r ?_;refine KN ai (out:=((kE (av l 6 x.kz.length) (1+av l 7 3)).map bX).flatten) rfl rfl rfl rfl rfl rfl rfl rfl (by kernel_rfl) (by kernel_rfl) (by decide) (λbo=>?_);have hr0:Mw (kE (av l 6 x.kz.length) (1+av l 7 3)) (.slice (some ⟨bo,0,none⟩) 3 3) _:=ku bo (by simp[kE]) rfl
  repeat refine fQ ?_
  (refine ba (aD2 _ _ _ _ _ _ _) (zH ([]++_)) (λs'=>s'++_) (λs'=>zH _) ?_;(rintro _ s9 ⟨v,rfl,hv⟩))
  repeat refine fQ ?_
  have hOL:=aP1 hLo;obtain⟨L,hLd⟩:∃L,lM k f (-1) 0 (7+av l 4 2) (av l 2 12-2) (1+av l 3 3)=L:=⟨_,rfl⟩
  rw[hLd]at hOL hO hv;have Q:L.length=10:=by rw[←hLd];rfl
  obtain⟨b9,c9,ju,U,z2,-⟩:=ae.block hv (by intro h;have:=zM List.length h;rw[zL,Q]at this;cases this);rw[zL,Q]at U;subst U z2;refine aV mixed ai (γ:=Nat×List D) (λg=>[(15,iD g.1)]) (λg=>[(b9,.cells 83 g.2),(bo,.cells 83 ((kE (av l 6 x.kz.length) (1+av l 7 3)).map bX).flatten)]) (λg=>g.1<=10/\Mw (rP L g.1) (.slice (some ⟨b9,0,none⟩) 10 c9) [(b9,.cells 83 g.2)]) (λg=>10-g.1) (0,_) (aj aw) (Sc.refl _) ⟨zW _,hv⟩ ?_;rintro⟨i,cs⟩ ⟨hi,C⟩;simp only at hi C⊢;by_cases hil:i<10
  .obtain⟨y,hy⟩:∃y,L[i]?=some y:=⟨_,zD (by omega)⟩
   have hoy:=hOL.ok y (zG hy);have X:((rP L i).map bX)[i]?=some (bX y):=by rw[qA,AF hy];rfl
   obtain⟨_,_,_,w1,w2,hcs⟩:=ae.get C X;clear w1
   cases w2
   have hc0:cs[0+((i:Nat):Int).toNat*4+0]?=some (iD y.op):=by rw[show 0+((i:Nat):Int).toNat*4+0=i*4+0 by simp];exact hcs 0 (by decide)
   have hc1:cs[0+((i:Nat):Int).toNat*4+1]?=some (iD y.a):=by rw[show 0+((i:Nat):Int).toNat*4+1=i*4+1 by simp];exact hcs 1 (by decide)
   have hc3:cs[0+((i:Nat):Int).toNat*4+3]?=some (iD y.c):=by rw[show 0+((i:Nat):Int).toNat*4+3=i*4+3 by simp];exact hcs 3 (by decide)
   have hlt:∀{m:Nat}{d:D},cs[i*4+m]?=some d->i*4+m<cs.length:=λh=>(zE.1 h).1;have hst:∀{m:Nat}{d:D},m<4->bX (ug y)=(bX y).set m d->Mw (rP L (i+1)) (.slice (some ⟨b9,0,none⟩) 10 c9) [(b9,.cells 83 (cs.set (i*4+m) d))]:=λ{m d}hm he=>by
    have:=pB1 (d:=d) C X hm
    rwa [←he,←wL,rO hy]at this
   obtain⟨hop,hfa,hfb,O⟩:=hoy;by_cases h6:y.op=6
   .rw[h6]at hfa;have ha:=LW hfa
    repeat' first|refine fQ ?_|((refine' Ld.cellm (tb:=83) (cs:=cs) (by simp) ?hldc ?_);(case hldc=>first|exact hc0|exact hc1|exact hc3))
    refine Sv.cellm (tb:=83) (cs:=cs) (cs':=cs.set (i*4+1) (iD (y.a+3))) (τ:=[_]) (zH _) (by rw[show 0+((i:Nat):Int).toNat*4+1=i*4+1 by simp];exact hlt (hcs 1 (by decide))) rfl (by rw[show 0+((i:Nat):Int).toNat*4+1=i*4+1 by simp]) ?_;have J:(cs.set (i*4+1) (iD (y.a+3)))[0+((i:Nat):Int).toNat*4+0]?=some (iD y.op):=by rw[wN (by simp)];exact hc0
    repeat' first|refine fQ ?_|((refine' Ld.cellm (tb:=83) (cs:=cs.set (i*4+1) (iD (y.a+3))) (by simp) J ?_))
    exact⟨(i+1,_),(aj aw),Sc.refl _,⟨by omega,hst (by decide) (by simp[ug,h6,bX])⟩,by simp only;omega⟩
   by_cases h7:y.op=7\/y.op=8
   .have ha:0<=y.c/\y.c<=L.length:=by
     rcases h7 with e|e
     .rw[e]at O;exact LW O
     .rw[e]at O;exact LW O
    have hsv:bX (ug y)=(bX y).set 3 (iD (y.c+3)):=by simp[ug,h6,h7,bX]
    rcases h7 with e|e
    .exact X3
    .exact X3
   .have hsv:ug y=y:=by unfold ug;rw[if_neg h6,if_neg h7]
    have hsh:rP L (i+1)=rP L i:=by
     rw[←rO hy,hsv];exact xY λq=>by
      by_cases e:q=i
      .subst e;rw[xI (by rw[GL];omega),AF hy]
      .rw[wN (λh=>e h.symm)]
    have h71:y.op≠7:=λe=>h7 (.inl e);have h72:y.op≠8:=λe=>h7 (.inr e)
    repeat' first|refine fQ ?_|((refine' Ld.cellm (tb:=83) (cs:=cs) (by simp) ?hldc ?_);(case hldc=>first|exact hc0|exact hc1|exact hc3))
    exact⟨(i+1,cs),(aj aw),Sc.refl _,⟨by omega,hsh ▸ C⟩,by simp only;omega⟩
  .obtain rfl:i=10:=by omega
   repeat refine fQ ?_
   refine Ap.frz2 rfl rfl rfl rfl hr0 C (List.Perm.swap _ _ _) (JC _) (zs:=(kE (av l 6 x.kz.length) (1+av l 7 3)++L.map ug).map bX) (by rw[yB,←Q,GM]) (by rw[zL];have:=hO.len;omega) (by rw[zL];have:=hO.len;omega) ?_
   repeat refine fQ ?_
   exact Rt.by (Vs.refl _ _) ⟨rfl,_,rfl,hO⟩
 by_cases e2:av l 5 6=2
 .obtain⟨n0,V⟩:=dl l 6 9
  replace V:=V (by decide)
  obtain⟨n,hn⟩:∃n:Nat,av l 6 9=n:=⟨(av l 6 9).toNat,by omega⟩
  have HS:=ut;have HA6:APure prog 29 [bi l,iD 6,iD 9] (iD n):=hn ▸ HA _ _;refine cU func17 ntmps17 λBB=>?_
  repeat refine SI ?_
  refine aV mixed ai (γ:=Nat×cK×Value×af) (λg=>[(18,iD g.1),(16,.v g.2.2.1)]) (λg=>g.2.2.2) (λg=>g.1<=n/\g.2.1.length=g.1/\(∀i∈g.2.1,EO n i/\di x i=true)/\Mw g.2.1 g.2.2.1 g.2.2.2) (λg=>n-g.1) (0,[],.slice none 0 0,[]) (aj aw) (Sc.refl _) ⟨zW _,rfl,(λi hi=>by cases hi),ae.nil _ _⟩ ?_;rintro⟨i,p,v,r⟩ ⟨hi,P,M,C⟩;simp only at hi P M C⊢;by_cases hil:i<n
  .obtain⟨o0,o9⟩:=dl l (7+4*(i:Int)) 9
   replace o9:=o9 (by decide)
   obtain⟨o,ho⟩:∃o:Nat,av l (7+4*(i:Int)) 9=o:=⟨(av l (7+4*(i:Int)) 9).toNat,by omega⟩
   have HA4:APure prog 29 [bi l,iD (7+4*(i:Int)),iD 9] (iD o):=ho ▸ HA _ _
   repeat refine SH ?_
   refine aV mixed ai (γ:=Nat×List Int×Value×af) (λg=>[(21,iD g.1),(20,.v g.2.2.1)]) (λg=>g.2.2.2++r) (λg=>g.1<=3/\g.2.1.length=g.1/\(∀q y,g.2.1[q]?=some y->gy n k f (o4 o q) y)/\J' g.2.1 g.2.2.1 g.2.2.2) (λg=>3-g.1) (0,[],.slice none 0 0,[]) (aj aw) (Sc.refl _) ⟨zW _,rfl,(λq y hq=>by cases hq),ae.nil _ _⟩ ?_;rintro⟨j,I,v2,r2⟩ ⟨hj,t,F,s⟩;simp only at hj t F s⊢;by_cases hjl:j<3
   .obtain⟨sr,ch,hsr,hch,hcm⟩:=Gn (o:=o) (j:=j) (by omega) hjl;have hsr2:(ub.map λz=>[sD z])[((o:Nat):Int).toNat]?=some [sD sr]:=by rw[qA,hsr];rfl
    obtain⟨u0,u1⟩:=dl l (8+4*(i:Int)+j) 720
    replace u1:=u1 (by decide)
    obtain⟨u,hu⟩:∃u:Nat,av l (8+4*(i:Int)+j) 720=u:=⟨(av l (8+4*(i:Int)+j) 720).toNat,by omega⟩
    have HA5:APure prog 29 [bi l,iD (8+4*(i:Int)+j),iD 720] (iD u):=hu ▸ HA _ _;have s:ae 3 1 (I.map λn=>[iD n]) v2 r2:=s;simp only[zU,vY,yF,xE]at hcm;rcases hcm with⟨K,rfl⟩|⟨K,rfl⟩|⟨K,rfl⟩|⟨K,rfl⟩|⟨K,rfl⟩|⟨K,rfl⟩|⟨K,rfl⟩
    .have E:gy n k f 0 0:=Zo (by decide) (by decide) ⟨by simp[oF],by simp[kQ]⟩;have J:UInt8.toNat 45=45:=rfl
     repeat refine cH ?_
     refine Ap.go rfl rfl rfl rfl s (zH _) rfl (zs:=(I++[(0:Int)]).map λn=>[iD n]) (by rw[yB];rfl) fg fg (λs'=>s'++r) (λs'=>zH _) (λT c1 G w=>?_)
     repeat refine cH ?_
     exact⟨(j+1,I++[(0:Int)],_,G),(aj aw),Sc.refl _,⟨by omega,by rw[zI,t];rfl,Pp t F K E,w⟩,by simp only;omega⟩
    .have E:gy n k f 1 ((u:Int).tmod 4):=Zo (by decide) (by decide) ⟨Int.tmod_nonneg _ (by omega),by have:=Int.tmod_lt_of_pos (u:Int) (b:=4) (by decide);simp[kQ];omega⟩;have J:UInt8.toNat 99=99:=rfl
     repeat refine cH ?_
     refine Ap.go rfl rfl rfl rfl s (zH _) rfl (zs:=(I++[((u:Int).tmod 4:Int)]).map λn=>[iD n]) (by rw[yB];rfl) fg fg (λs'=>s'++r) (λs'=>zH _) (λT c1 G w=>?_)
     repeat refine cH ?_
     exact⟨(j+1,I++[((u:Int).tmod 4:Int)],_,G),(aj aw),Sc.refl _,⟨by omega,by rw[zI,t];rfl,Pp t F K E,w⟩,by simp only;omega⟩
    .have E:gy n k f 2 ((u:Int).tmod 8):=Zo (by decide) (by decide) ⟨Int.tmod_nonneg _ (by omega),by have:=Int.tmod_lt_of_pos (u:Int) (b:=8) (by decide);simp[kQ];omega⟩;have J:UInt8.toNat 114=114:=rfl
     repeat refine cH ?_
     refine Ap.go rfl rfl rfl rfl s (zH _) rfl (zs:=(I++[((u:Int).tmod 8:Int)]).map λn=>[iD n]) (by rw[yB];rfl) fg fg (λs'=>s'++r) (λs'=>zH _) (λT c1 G w=>?_)
     repeat refine cH ?_
     exact⟨(j+1,I++[((u:Int).tmod 8:Int)],_,G),(aj aw),Sc.refl _,⟨by omega,by rw[zI,t];rfl,Pp t F K E,w⟩,by simp only;omega⟩
    .have h9:=Int.tmod_nonneg (a:=(u:Int)) 9 (by omega);have h99:=Int.tmod_lt_of_pos (u:Int) (b:=9) (by decide);have E:gy n k f 3 ((u:Int).tmod 9-2):=Zo (by decide) (by decide) ⟨by simp[oF];omega,by simp[kQ];omega⟩;have J:UInt8.toNat 110=110:=rfl
     repeat refine cH ?_
     refine Ap.go rfl rfl rfl rfl s (zH _) rfl (zs:=(I++[((u:Int).tmod 9-2:Int)]).map λn=>[iD n]) (by rw[yB];rfl) fg fg (λs'=>s'++r) (λs'=>zH _) (λT c1 G w=>?_)
     repeat refine cH ?_
     exact⟨(j+1,I++[((u:Int).tmod 9-2:Int)],_,G),(aj aw),Sc.refl _,⟨by omega,by rw[zI,t];rfl,Pp t F K E,w⟩,by simp only;omega⟩
    .have E:gy n k f 4 k:=⟨by have:=S.k0;have:=S.k5;simp[cy,oF,kQ];omega,λ_=>rfl,λe=>by cases e⟩
     have J:UInt8.toNat 107=107:=rfl
     repeat refine cH ?_
     refine Ap.go rfl rfl rfl rfl s (zH _) rfl (zs:=(I++[((k:Int):Int)]).map λn=>[iD n]) (by rw[yB];rfl) fg fg (λs'=>s'++r) (λs'=>zH _) (λT c1 G w=>?_)
     repeat refine cH ?_
     exact⟨(j+1,I++[((k:Int):Int)],_,G),(aj aw),Sc.refl _,⟨by omega,by rw[zI,t];rfl,Pp t F K E,w⟩,by simp only;omega⟩
    .have E:gy n k f 5 f:=⟨by have:=S.f0;have:=S.f9;simp[cy,oF,kQ];omega,(λe=>by cases e),λ_=>rfl⟩
     have J:UInt8.toNat 102=102:=rfl
     repeat refine cH ?_
     refine Ap.go rfl rfl rfl rfl s (zH _) rfl (zs:=(I++[((f:Int):Int)]).map λn=>[iD n]) (by rw[yB];rfl) fg fg (λs'=>s'++r) (λs'=>zH _) (λT c1 G w=>?_)
     repeat refine cH ?_
     exact⟨(j+1,I++[((f:Int):Int)],_,G),(aj aw),Sc.refl _,⟨by omega,by rw[zI,t];rfl,Pp t F K E,w⟩,by simp only;omega⟩
    .have h99:=Int.tmod_lt_of_pos (u:Int) (b:=(n:Int)+1) (by omega);have E:gy n k f 6 ((u:Int).tmod ((n:Int)+1)):=Zo (by decide) (by decide) ⟨Int.tmod_nonneg _ (by omega),by simp[kQ];omega⟩;have J:UInt8.toNat 105=105:=rfl
     repeat refine cH ?_
     refine Ap.go rfl rfl rfl rfl s (zH _) rfl (zs:=(I++[((u:Int).tmod ((n:Int)+1):Int)]).map λn=>[iD n]) (by rw[yB];rfl) fg fg (λs'=>s'++r) (λs'=>zH _) (λT c1 G w=>?_)
     repeat refine cH ?_
     exact⟨(j+1,I++[((u:Int).tmod ((n:Int)+1):Int)],_,G),(aj aw),Sc.refl _,⟨by omega,by rw[zI,t];rfl,Pp t F K E,w⟩,by simp only;omega⟩
   .obtain rfl:j=3:=by omega
    obtain⟨y1,y2,y3,rfl⟩:∃a b c,I=[a,b,c]:=by
     rcases I with _|⟨a,_|⟨b,_|⟨c,_|⟨d,I⟩⟩⟩⟩<;>simp at t;exact⟨a,b,c,rfl⟩
    have hfi:=Iq (x:=x) (by omega) S F;have s:ae 3 1 [[iD y1],[iD y2],[iD y3]] v2 r2:=s;obtain⟨b7,c7,j7,U,z2,-⟩:=ae.block s (by simp);rw[show([[iD y1],[iD y2],[iD y3]]:List (List D)).length=3 from rfl]at U;subst U z2
    repeat refine cH ?_
    refine Ap.go rfl rfl rfl rfl C (yT (l₁:=[_])) rfl (zs:=(p++[(⟨o,y1,y2,y3⟩:VI)]).map bX) (by rw[yB];rfl) fg fg (λs'=>s'++[_]) (λs'=>zH _) (λT c1 G w=>?_)
    repeat refine cH ?_
    exact⟨(i+1,p++[(⟨o,y1,y2,y3⟩:VI)],_,G),(aj aw),Sc.sl (xU _ _),⟨by omega,by rw[zI,P];rfl,(λz K=>by rcases zO.1 K with h|h;exact M z h;rw[zN.1 h];exact hfi),w⟩,by simp only;omega⟩
  .obtain rfl:i=n:=by omega
   repeat refine cH ?_
   exact Rt.by (Vs.row C (bR _)) ⟨rfl,_,rfl,⟨by omega,λi hi=>by rw[P];exact(M i hi).1,λi hi=>(M i hi).2⟩⟩
 obtain⟨fd,hfd⟩:∃y,kd.fields[((f:Nat):Int).toNat]?=some y:=⟨_,zD (by omega)⟩
 have hL:∀{rk rf:Int},rk<0\/QU x rk rf->Ke x k f rk rf (7+av l 4 2) (av l 2 12-2) (1+av l 3 3):=λh=>⟨S,h,by omega,by omega,by omega⟩
 by_cases e3:av l 5 6=3
 .by_cases h1:fd.kind=1
  .by_cases hu:0<=aI x k f
   .obtain⟨o,ok,ho,Z⟩:=j6 x k f hu;obtain⟨g1,g10⟩:=hx.kpos Z;have Y:x.kz[((o:Nat):Int).toNat]?=some ok:=Z;obtain⟨r0,r1⟩:=dl l 6 ok.fields.length
    replace r1:=r1 (by omega)
    have HU2:APure prog 36 [ax x,iD k,iD f] (iD o):=ho ▸ HU k f;have HA2:APure prog 29 [bi l,iD 6,iD ((ok.fields.map aH).length:Nat)] (iD (av l 6 ok.fields.length)):=by rw[zL];exact HA _ _
    refine cU func17 ntmps17 λBB=>?_
    repeat refine KB ?_
    (refine ba (aD2 _ _ _ _ _ _ _) (zH ([]++_)) (λs'=>s') cZ ?_;(rintro _ s9 ⟨v,rfl,hv⟩))
    repeat refine KB ?_
    exact Rt.by (Vs.row hv (bR _)) ⟨rfl,_,rfl,aP1 (hL (.inr (hx.plc (by omega) Y r0 r1)))⟩
   .have hu':aI x k f<0:=by omega
    refine cU func17 ntmps17 λBB=>?_
    repeat refine Aj ?_
    (refine ba (aD2 _ _ _ _ _ _ _) (zH ([]++_)) (λs'=>s') cZ ?_;(rintro _ s9 ⟨v,rfl,hv⟩))
    repeat refine Aj ?_
    exact Rt.by (Vs.row hv (bR _)) ⟨rfl,_,rfl,aP1 (hL (.inl hu'))⟩
  .exact XW
 .exact XW
end
section
open Go
def o3(rows:List (List Int))(up s i:Nat):Int:=rows.foldl (λ(a:Int)(r:List Int)=>if r.getD up 0=(i:Int)then IntKind.i64.wrap (a+r.getD s 0)else a) (0:Int)
def MS(x:ak)(o s:Nat):Nat:=match x.kz[o]? with
 |some k=>match k.fields[s]? with
  |some g=>(aZ k g.up).toNat
  |none=>0
 |none=>0
def fT(n:Int):Bool:=!(decide (n < -1099511627776)||decide (1099511627776<n))
def dA(x:ak)(k:Nat)(l:List Int):Bool:=sC x k l&&l.all fT
def qE(x:ak)(k:Nat)(l:List (List Int)):Bool:=decide (l.length<=512)&&l.all (dA x k)
def cO(x:ak)(w:Wd):Bool:=decide (w.length=x.kz.length)&&(List.range w.length).all (λk=>qE x k (w.getD k []))&&(bL x).all (λr=>(w.getD r.kind []).all (tr w r))
def qe(x:ak)(n:ByteArray):bW:=(x.lz.find? λl=>seq l.name n).getD ⟨ByteArray.empty,[],[]⟩
def Gl(l:bW)(n:List Bool):List Bool:=l.mz.foldl (λx m=>if n.getD m.1.toNat false then x.set m.2.toNat true else x) (List.replicate 12 false)
def jz(l:bW):Nat->List Bool
 |0=>(List.replicate 12 false).set 0 true
 |m+1=>Gl l (jz l m)
def jH(l:bW)(s:Nat):Bool:=!l.mz.any λm=>decide (m.1=(s:Int))
def PT(l:bW):Bool:=decide (l.tz.length<=12)&&decide (l.mz.length<=32)&&decide (l.tz.length≠0)&&l.mz.all λm=>b8 l.tz.length m
def wi(l:bW)(lo h:Int):List Bool:=
 if PT l&&decide (0<=lo)&&decide (lo<=h)&&decide (h<=1000)then(List.range l.tz.length).map λs=>(List.range (h.toNat+1)).any λm=>(jz l m).getD s false&&(decide (lo<=(m:Int))||jH l s)else[]
def lX(r:List Int)(i:Int):Int:=r.getD i.toNat 0
def gj(kd:au)(r:List Int)(n:ByteArray):Int:=if dF n then 0 else lX r (aZ kd n)
def Hg(v lo h:Int):Int:=if v<lo\/h<v then 5 else 0
def l7(x:ak)(w:Wd)(k i f:Nat):Int:=o3 (w.getD (jk x k f).1.toNat []) (MS x (jk x k f).1.toNat (jk x k f).2.toNat) (jk x k f).2.toNat i
def qr(x:ak)(w:Wd)(k:Nat)(kd:au)(d:am)(r:List Int):Int:=
 match dv x (aI x k (aZ kd d.up))with
 |some o=>lX ((w.getD (aI x k (aZ kd d.up)).toNat []).getD (lX r (aZ kd d.up)).toNat []) (aZ o d.of)
 |none=>0
def s4(x:ak)(w:Wd)(k:Nat)(kd:au)(r:List Int)(i f:Nat)(d:am)(s:List Int):Int:=
 if d.kind=0 then(if r.getD f 0<d.lo then 5 else if r.getD f 0∈s then 7 else 0)
 else if d.kind=2\/d.kind=7 then Hg (r.getD f 0) d.lo d.hi
 else if d.kind=3 then(if r.getD f 0<0\/(d.words.length:Int)<=r.getD f 0\/d.wz.getD (r.getD f 0).toNat 0=0 then 5 else 0)
 else if d.kind=4 then Hg (r.getD f 0-gj kd r d.of) d.lo d.hi
 else if d.kind=5 then(if(wi (qe x d.of) d.lo d.hi).getD (r.getD f 0).toNat false&&decide (0<=r.getD f 0)then 0 else 8)
 else if d.kind=6 then(if r.getD f 0=l7 x w k i f then 0 else 9)
 else if d.kind=8 then(if r.getD f 0=qr x w k kd d r then 0 else 16)
 else 0
def u'(r:List Int)(f:Nat)(d:am)(k:List Int):List Int:=if d.kind=0/\¬r.getD f 0<d.lo then r.getD f 0::k else k
def tn(kd:au)(r:List Int)(k:List Int):Nat->List Int
 |0=>k
 |q+1=>match kd.fields[q]? with
  |some d=>u' r q d (tn kd r k q)
  |none=>tn kd r k q
def xb(kd:au)(l:List (List Int)):Nat->List Int
 |0=>[]
 |i+1=>match l[i]? with
  |some r=>tn kd r (xb kd l i) r.length
  |none=>xb kd l i
def kP(kd:au)(r:List Int)(q:cF):Bool:=decide (gj kd r q.a<=gj kd r q.b+q.n)
def ja(x:ak)(w:Wd)(k:Nat)(kd:au)(l:List (List Int))(i:Nat)(r:List Int)(f:Nat):List fj:=
 match kd.fields[f]? with
 |some d=>one k i f (s4 x w k kd r i f d (tn kd r (xb kd l i) f))
 |none=>[]
def iX(x:ak)(k:Nat)(kd:au)(i:Nat)(r:List Int)(q:Nat):List fj:=
 match x.rules[q]? with
 |some u=>one k i (-1) (if bc x u.kind=(k:Int)/\kP kd r u=false then 24 else 0)
 |none=>[]
def iu(x:ak)(w:Wd)(k:Nat)(kd:au)(l:List (List Int))(i:Nat):List fj:=
 match l[i]? with
 |some r=>ap r.length (ja x w k kd l i r)++ap x.rules.length (iX x k kd i r)
 |none=>[]
def xq(x:ak)(w:Wd)(k:Nat):List fj:=
 match x.kz[k]? with
 |some kd=>ap (w.getD k []).length (iu x w k kd (w.getD k []))
 |none=>[]
def kM(x:ak)(w:Wd)(k:Nat):List fj:=
 match x.kz[k]? with
 |some kd=>one k (-1) (-1) (if((w.getD k []).length:Int)<kd.lo\/kd.hi<((w.getD k []).length:Int)then 4 else 0)
 |none=>[]
def IA(w:Wd)(r:Rf)(j:Nat):Nat:=(w.getD r.kind []).countP λl=>decide (l.getD r.field 0=(j:Int))
def iG(x:ak)(w:Wd)(r:Rf)(j:Nat):List fj:=
 match fieldAt x r.kind r.field with
 |some d=>one r.kind j r.field (if(IA w r j:Int)<d.lo\/d.hi<(IA w r j:Int)then 11 else 0)
 |none=>[]
def EC(x:ak)(w:Wd)(q:Nat):List fj:=
 match(bL x)[q]? with
 |some r=>ap (w.getD r.up.toNat []).length (iG x w r)
 |none=>[]
def J3(x:ak)(w:Wd):List fj:=
 if cO x w then ap w.length (kM x w)++ap w.length (xq x w)++ap (bL x).length (EC x w)else[(-1,-1,-1,2)]
end
section
open Go Go.Maps Go.MapKept
def cI(rows:List (List Int))(f j:Nat):List Int:=(rows.zipIdx.filter λp=>decide (p.1.getD f 0=(j:Int))).map λp=>(p.2:Int)
theorem aP4(rows:List (List Int))(r:List Int)(f j:Nat):cI (rows++[r]) f j=if r.getD f 0=(j:Int)then cI rows f j++[(rows.length:Int)]else cI rows f j:=by
 unfold cI;rw[List.zipIdx_append,vZ,yB,List.zipIdx_singleton,List.filter_cons,List.filter_nil,xD];by_cases h:r.getD f 0=(j:Int)
 .rw[if_pos h,if_pos (by simpa using h)];rfl
 .rw[if_neg h,if_neg (by simpa using h)];simp
theorem aL5(rows:List (List Int))(f j:Nat):(cI rows f j).length=rows.countP λr=>decide (r.getD f 0=(j:Int)):=by
 generalize a:rows.reverse=l
 induction l generalizing rows with
 |nil=>rw[List.reverse_eq_nil_iff]at a;subst a;rfl
 |cons r l i=>
  have b:rows=l.reverse++[r]:=by rw[←List.reverse_reverse rows,a];simp
  subst b;rw[aP4,List.countP_append,←i l.reverse (by simp),List.countP_singleton];by_cases h:r.getD f 0=(j:Int)
  .rw[if_pos h,if_pos (yJ h),zI];rfl
  .rw[if_neg h,if_neg (by simpa using h)];rfl
def gq(rows:List (List Int))(f n:Nat):List (List Int):=(List.range n).map (cI rows f)
theorem LU(rows:List (List Int))(f n:Nat):(gq rows f n).length=n:=by simp[gq]
theorem QS{f n j:Nat}(rows:List (List Int))(h:j<n):(gq rows f n)[j]?=some (cI rows f j):=by simp[gq,h]
theorem EB(f n:Nat):gq [] f n=List.replicate n []:=by
 refine xY λi=>?_;by_cases h:i<n
 .rw[QS _ h,wF,if_pos h];rfl
 .rw[yY.2 (by rw[LU];omega),yY.2 (by simp;omega)]
theorem wQ{rows:List (List Int)}{r:List Int}{f n v:Nat}(h:r.getD f 0=(v:Int)):gq (rows++[r]) f n=(gq rows f n).set v (cI rows f v++[(rows.length:Int)]):=by
 refine xY λi=>?_;by_cases hi:i<n
 .rw[QS _ hi,aP4,h];by_cases e:i=v
  .subst e;rw[if_pos rfl,xI (by rw[LU];exact hi)]
  .rw[if_neg (by omega),wN (Ne.symm e),QS _ hi]
 .rw[yY.2 (by rw[LU];omega),yY.2 (by rw[yR,LU];omega)]
theorem PG{α:Type}{l:List α}{j:Nat}{x:α}(h:l[j]?=some x):l.take (j+1)=l.take j++[x]:=by rw[xC,h];rfl
theorem pj(x:ak):(bL x).Pairwise λa b=>a.kind≠b.kind\/a.field≠b.field:=by
 have F:∀k kd i a,a∈fc x k kd i->a.kind=k/\a.field=i:=by
  intro k kd i a h;unfold fc at h;split at h
  .split at h
   .rw[zN]at h;subst h;exact⟨rfl,rfl⟩
   .cases h
  .cases h
 have K:∀k a,a∈fS x k->a.kind=k:=by
  intro k a h;unfold fS at h;split at h
  .obtain⟨i,_,h⟩:=x5.1 h;exact(F _ _ _ _ h).1
  .cases h
 unfold bL ap;rw[List.pairwise_flatMap];refine⟨λk _=>?_,List.nodup_range.imp λc a e b d=>.inl (by rw[K _ _ e,K _ _ d];exact c)⟩;unfold fS;split
 .unfold ap;rw[List.pairwise_flatMap];refine⟨λi _=>?_,List.nodup_range.imp λc a e b d=>.inr (by rw[(F _ _ _ _ e).2,(F _ _ _ _ d).2];exact c)⟩;unfold fc;split
  .split<;>simp
  .simp
 .simp
theorem GV{x:ak}{p q:Nat}{a b:Rf}(i:(bL x)[p]?=some a)(g:(bL x)[q]?=some b)(h:p≠q):a.kind≠b.kind\/a.field≠b.field:=by
 obtain⟨c,f⟩:=zE.1 i;obtain⟨l,e⟩:=zE.1 g;have d:=wS.1 (pj x);rcases Nat.lt_or_gt_of_ne h with h|h
 .have:=d p q c l h;rwa [f,e]at this
 .have:=d q p l c h;rw[f,e]at this;exact this.imp Ne.symm Ne.symm
def ly(w:Wd)(r:Rf):List (List Int):=gq (w.getD r.kind []) r.field (w.getD r.up.toNat []).length
def KW(r:Rf):List D:=[iD r.kind,iD r.field,iD r.up]
abbrev gd(l:List Rf):D:=.sl 3 (l.map KW)
abbrev Ob(r:Rf):Value:=H8 r.kind r.field r.up
def fH(w:Wd)(F:Value->Option Value)(L:List Rf)(σ:af):Prop:=∃(vs:List Value)(s:List af),da (λr v t=>P2 (ly w r) v t/\F (Ob r)=some v) L vs s/\σ.Perm s.flatten
theorem fH.nil(w:Wd)(F:Value->Option Value):fH w F [] []:=⟨[],[],.nil,by simp⟩
theorem fH.perm{w:Wd}{F:Value->Option Value}{L:List Rf}{σ σ':af}(h:fH w F L σ)(p:σ'.Perm σ):fH w F L σ':=by
 obtain⟨vs,t,b,a⟩:=h;exact⟨vs,t,b,p.trans a⟩
theorem da.imp{α:Type}{R a:fk α}{xs:List α}{vs:List Value}{s:List af}(h:da R xs vs s)(i:∀x∈xs,∀v t,R x v t->a x v t):da a xs vs s:=by
 induction h with
 |nil=>exact .nil
 |cons h k b=>exact .cons (i _ (yN ..) _ _ h) (b λx hx=>i x (yQ _ hx))
theorem fH.push{w:Wd}{F:Value->Option Value}{L:List Rf}{σ τ:af}{r:Rf}{v:Value}(h:fH w F L σ)(f:P2 (ly w r) v τ)(c:∀a∈L,a.kind≠r.kind\/a.field≠r.field):fH w (de F (Ob r) v) (L++[r]) (σ++τ):=by
 obtain⟨vs,s,i,g⟩:=h;refine⟨vs++[v],s++[τ],da.append (i.imp λa b u t d=>⟨d.1,?_⟩) (.cons ⟨f,?_⟩ .nil),?_⟩
 .unfold de;rw[if_neg]
  .exact d.2
  .intro e;obtain⟨k,j,_⟩:=H7 e;rcases c a b with h|h<;>omega
 .unfold de;rw[if_pos rfl]
 .rw[vW]
  simpa using g.append_right τ
theorem fH.at{w:Wd}{F:Value->Option Value}{L:List Rf}{σ:af}(h:fH w F L σ){q:Nat}{r:Rf}(a:L[q]?=some r):∃v t τ,F (Ob r)=some v/\P2 (ly w r) v t/\σ.Perm (t++τ):=by
 obtain⟨vs,s,c,b⟩:=h;obtain⟨u,t,τ,e,g,d,_⟩:=c.at a;exact⟨u,t,τ,g.2,g.1,b.trans d⟩
end
section
open Go Go.RowKit Go.Shelf Go.Maps Go.MapKept
open Go.ChangeMaps (setBlock modify_eq_set heap_setBlock_same heap_setBlock_other)
noncomputable def tN (G:Value->Option D) (key:Value) (d:D):Value->Option D:=open Classical in λx=>if x=key then some d else G x
section
variable {P:Program} {r:Option Nat} {n:Nat} {df:Nat} {N:Nat} {σ τ:af} {ρ:Operand->D} {f:aM} {L:List Oper} {k t e:TypeId} {G:Value->Option D} {b:Nat} {kv z:Value} {kl:Lit} {zd:D}
theorem BP{w:World}{X:Nat->Prop}(h:aU w X σ)(a:(b,aE.mp P k G)∈σ):∃e c n F,w.heap[b]?=some (.map e c)/\fG P k e c n F/\∀y,(F y=none/\G y=none)\/∃v d,F y=some v/\G y=some d/\Rd w (ay σ X) d v:=by
 obtain⟨_,o,i,e,c,n,F,rfl,g,f⟩:=h.at_ b _ a;exact⟨e,c,n,F,i,g,f⟩
theorem ci.makeMapM{o:Oper}{K:aM->af->Prop}(d:o.op= .makeMap t none)(kk:∀b,W (aR N o.dst (.v (.map (some b))) f (λf'=>K f' ((b,.mp P k λ_=>none)::σ)))):ci P r n df L N o f σ K:=by
 refine⟨λc Q a hsp e hk=>?_⟩;refine oM e (by rw[d];rfl) λw X g hst=>?_;have e0:(execOp g.eval o).run P w= .ok (.value (.map (some w.heap.size))) (w.alloc (.map #[] 0)):=by
  simp only[execOp,d]
  rfl
 rw[e0];have z:∀w O,(aE.mp P k λ_=>none).ok w O (.map #[] 0):=λw O=>⟨#[],0,0,λ_=>none,rfl,⟨by simp,stamped_empty 0,by simp,by simp,by simp⟩,λ_=>.inl ⟨rfl,rfl⟩⟩
 obtain⟨g1,g2,i⟩:=hst.st.new (.map #[] 0) (.mp P k λ_=>none) (z _ _);exact DW
theorem ci.mapUpdateM{o:Oper}{m y x:Operand}{d:D}{K:aM->af->Prop}(C:o.op= .mapUpdate t m y x)(hm:aK f m= .v (.map (some b)))(hd:gw (aK f y) kv)(hx:aK f x=d)(E:σ.Perm ((b,aE.mp P k G)::τ))
  (KK:Keyed P k) (ht:P.underlying t=some (.map k e)) (j:keyOf P k kv=some kl) (Y:W (aR N o.dst (.v undef) f (λI=>K I ((b,.mp P k (tN G kv d))::τ)))):ci P r n df L N o f σ K:=by
 refine⟨λA Q a p Z l=>?_⟩;refine oM Z (by rw[C];rfl) λw X s u=>?_;have h:=u.perm E;obtain⟨es,c,V,F,S,R,O⟩:=BP h.st (yN);have g:∀x,Rd w (ay ((b,aE.mp P k G)::τ) X) (aK f x) (s.eval x):=λx=>p.le x _ _ _ (h.fr.eval x);obtain⟨M,h1,⟨q,J,h2,h3⟩,h4⟩:=bU.update (v:=s.eval x) (n:=V) ⟨es,c,S,R⟩ KK ht j;have U:=(g m).val hm;have T:=hd _ _ _ (g y);have B:=g x;rw[hx]at B;have e0:(execOp s.eval o).run P w= .ok .skip M:=by
  simp only[execOp,C,U,T]
  show(do let _ ←Instr.mapUpdate t (.map (some b)) kv (s.eval x);pure Next.skip).run P w=_;simp only[Sem.run_bind,h1,Result.andThen,Sem.run_pure]
 have h6:(aE.mp P k (tN G kv d)).ok w (ay ((b,aE.mp P k G)::τ) X) (.map q J):=by
  refine⟨q,J,_,_,rfl,h3,λy=>?_⟩;unfold de tN;by_cases l:y=kv
  .subst l;exact .inr ⟨_,_,if_pos rfl,if_pos rfl,B⟩
  .rw[if_neg l,if_neg l];exact O y
 obtain⟨g1,H,g3,g4⟩:=h.st.upd (i:=0) (k':=.mp P k (tN G kv d)) rfl h4 h2 h6;obtain⟨I,z,h8⟩:=fE Y.h p;rw[e0];exact⟨_,kK E H,(h.mv H g1).put (.v undef) o.dst,l _ _ _ h8 z⟩
theorem oR{o:Oper}{m y:Operand}(d:D)(l:o.op= .lookup t m y false)(H:ρ m= .v (.map (some b)))(I:gw (ρ y) kv)(J:(b,aE.mp P k G)∈σ)
  (K:Keyed P k) (E:P.underlying t=some (.map k e)) (B:∀w,(zeroValue e).run P w= .ok z w) (i:∀w O,Rd w O zd z) (a:keyOf P k kv=some kl) (C:(G kv).getD zd=d):Yd P o ρ σ d:=by
 subst C;intro w X η h j;obtain⟨dst,S,R,pos,Q,g⟩:=o;simp only at l;subst l;have M:=(h m (by simp[Op.operands])).val H;have L:=I _ _ _ (h y (by simp[Op.operands]));obtain⟨N,c,A,F,x,u,q⟩:=BP j J;refine dC (s:=Instr.lookup t (η m) (η y) false) (by rw[M,L];exact bU.look (n:=A) ⟨N,c,x,u⟩ K E (B w) a) (Ex.refl w) ?_;rcases q kv with⟨f,r⟩|⟨v,d,f,r,p⟩
 .rw[f,r];exact i _ _
 .rw[f,r];exact p
end
end
section
open Go Go.Maps Go.MapKept
theorem az.look{P:Program}{f:FuncId}{T C:List D}{σ τ ρ:af}{R:D->af->Prop}(W:eX σ T τ C)(F:σ.Perm (τ++ρ))(O:az P f C τ R)(K:∀d s,R d s->sJ d=true/\oz s) :
  az P f T σ (λd σ'=>∃s,σ'=s++ρ/\R d s):=by
 refine⟨O.ent,λw X vs H E=>?_⟩;obtain⟨x,v⟩:=W.run w X vs E H;have l:=E.perm F;refine(O.run w X vs v x).mono ?_;rintro e U ⟨u,d,s,Z,S,Y,M,i⟩;obtain⟨f1,f2⟩:=K d s S;have A:=l.nodup;rw[eW,wR]at A;obtain⟨n1,V,N⟩:=A;have z:=i.keep.size;have m:∀b,b<w.heap.size->¬ay (τ++ρ) X b->U.heap[b]?=w.heap[b]?:=λb a n=>i.keep.block b a (λJ=>n (.inr (by rw[eW];exact xK _ J)));have Q:∀b,b<w.heap.size->¬ay (τ++ρ) X b->¬ay (s++ρ) X b:=λb a n g=>by
  rcases g with g|g
  .exact n (.inl g)
  .rw[eW,zO]at g;rcases g with g|g
   .rcases i.new b g with h|h
    .exact n (.inr (by rw[eW];exact xK _ h))
    .omega
   .exact n (.inr (by rw[eW];exact yW _ g))
 have r:∀b,b∈aQ ρ->b<w.heap.size:=λb a=>l.lt (by rw[eW];exact yW _ a);refine⟨u,d,s++ρ,Z,⟨s,rfl,S⟩,kU Y f1,⟨?_,λb k L=>?_,λb a=>yI (E.xlt b a) z,?_⟩,⟨⟨i.keep.os,i.keep.tape,i.keep.output,z,λb a n=>i.keep.block b a (λJ=>n (wy F b (by rw[eW];exact xK _ J)))⟩,λb a=>?_⟩⟩
 .rw[eW,wR];refine⟨M.nodup,V,λb B c q e=>?_⟩;subst e;rcases i.new b B with h|h
  .exact N b h b q rfl
  .have:=r b q;omega
 .rcases zO.1 L with h|h
  .obtain⟨B,o,q,h3⟩:=M.at_ b k h;refine⟨B,o,q,?_⟩;exact XL
  .obtain⟨B,o,q,h3⟩:=l.at_ b k (yW _ h);have I:=(zX.1 q).1;have y:b ∉ aQ τ:=λa=>N b a b (Qu h) rfl;exact⟨B,o,(i.keep.block b I y).trans q,r9 z Q m h3⟩
 .refine l.gok.keep z Q m (λb a=>?_);rcases a with a|a
  .exact yI (E.xlt b a) z
  .rw[eW,zO]at a;rcases a with a|a
   .exact M.lt a
   .exact yI (r b a) z
 .rw[eW,zO]at a;rcases a with a|a
  .rcases i.new b a with h|h
   .exact .inl (wy F b (by rw[eW];exact xK _ h))
   .exact .inr h
  .exact .inl (wy F b (by rw[eW];exact yW _ a))
def jD(l:List bW):Value->Option D
 |.string n=>(l.find? λx=>seq x.name n).map λx=>dj x
 |_=>none
theorem H4:jD []=λ_=>none:=by
 funext v
 cases v<;>rfl
theorem B9(f:bW)(l:List bW):tN (jD l) (.string f.name) (dj f)=jD (f::l):=by
 funext v
 unfold tN;by_cases h:v= .string f.name
 .rw[if_pos h,h];simp[jD,Pl]
 .rw[if_neg h]
  cases v<;>try rfl
  rename_i n;have:seq f.name n=false:=by
   cases e:seq f.name n with
   |false=>rfl
   |true=>exact absurd (by rw[(Ek _ _).1 e]) h
  simp[jD,List.find?,this]
end
section
open Go
theorem zh(y:au)(nm:ByteArray):APure prog 81 [fz y,.ro [sD nm]] (bD (seq y.name nm)):=by
 refine ao func81 ntmps81 λa=>?_
 repeat refine aq ?_
 refine Rt.pure (zM bD ?_);rfl
theorem bc6(y:am)(nm:ByteArray):APure prog 120 [bM y,.ro [sD nm]] (bD (seq y.name nm)):=by
 refine ao func120 ntmps120 λa=>?_
 repeat refine aq ?_
 refine Rt.pure (zM bD ?_);rfl
theorem SG{A B:Prop}(k:B)(h:ar B->A:=by intro q7;(first|refine bA ?_|refine aA ?_|(refine' ah ?hc ?_;(case hc=>exact CD x.kz (λy=>seq y.name nm) hl (λy _=>zh y nm))));exact q7.1):A:=h ⟨k⟩
theorem L9(x:ak)(nm:ByteArray)(hl:x.kz.length<=1000000):APure prog 42 [ax x,sD nm] (iD (bc x nm)):=by
 refine ao func42 ntmps42 λa=>?_
 repeat refine SG ?_
 refine Rt.pure (zM iD ?_);rfl
theorem SF{A B:Prop}(k:B)(h:ar B->A:=by intro q7;(first|refine bA ?_|refine aA ?_|(refine' ah ?hc ?_;(case hc=>exact CG k.fields (λy=>seq y.name nm) hl (λy _=>bc6 y nm))));exact q7.1):A:=h ⟨k⟩
theorem Ev(k:au)(nm:ByteArray)(hl:k.fields.length<=1000000):APure prog 74 [fz k,sD nm] (iD (aZ k nm)):=by
 refine ao func74 ntmps74 λa=>?_
 repeat refine SF ?_
 refine Rt.pure (zM iD ?_);rfl
theorem Pe(x:ak)(i j:Int):APure prog 115 [ax x,iD i,iD j] (.tup [bM (g0 x i j).1,bD (g0 x i j).2]):=by
 refine ao func115 ntmps115 λa=>?_
 repeat' first|refine aq ?_|intro b;conv=>whnf|refine a7.mk λy hy=>?_|(refine aT ?_;constructor<;>intro hc)
 all_goals first
  |(have r:g0 x i j=(xa,false):=(by unfold g0;rw[al5 (by omega)]);rw[r];exact Rt.vs (Vs.tup (eX.cons ((Vs.le Zx).trans (Vs.drop (yV _))) (eX.cons (Vs.refl _ _) (eX.nil _)))))
  |(have r:g0 x i j=(xa,false):=(by unfold g0;rw[JO (by omega) (by omega) hy,List.getElem?_eq_none (by omega)]);rw[r];exact Rt.vs (Vs.tup (eX.cons ((Vs.le Zx).trans (Vs.drop (yV _))) (eX.cons (Vs.refl _ _) (eX.nil _)))))
  |(have r:=bb6 (x:=x) (i:=i) (j:=j) (by omega) ‹x.kz[i.toNat]?=some _› (by omega) hy;rw[r];exact Rt.vs (Vs.refl _ _))
theorem lj{x:ak}{i j:Int}{f:am}(h:fieldAt x i j=some f):g0 x i j=(f,true):=by unfold g0;rw[h]
theorem qD{x:ak}{i j:Int}(h:fieldAt x i j=none):g0 x i j=(xa,false):=by unfold g0;rw[h]
theorem SE{A B:Prop}(k:B)(h:ar B->A:=by intro q7;(first|refine bA ?_|refine aA ?_|(refine' ah ?hc ?_;(case hc=>first|exact HA|exact L9 _ _ (by assumption)|exact Ev _ _ (by assumption))));exact q7.1):A:=h ⟨k⟩
theorem MU(x:ak)(i j:Int)(f:am)(hl:x.kz.length<=1000000)(a:fieldAt x i j=some f)(k:f.kind=1):APure prog 67 [ax x,iD i,iD j] (iD (refUp x i f)):=by
 have HA:=Pe x i j;rw[lj a]at HA;refine ao func67 ntmps67 λe=>?_
 repeat' first|refine SE ?_|intro b;conv=>whnf|(refine aT ?_;constructor<;>intro hc)
 all_goals(refine Rt.pure (zM iD ?_);unfold refUp;first|rw[if_pos (by assumption)]|rw[if_neg (by assumption)])
theorem AB{A B:Prop}(k:B)(h:ar B->A:=by intro q7;(first|refine bA ?_|refine aA ?_|(refine' ah ?hc ?_;(case hc=>first|exact HA|exact HB|exact HU|exact L9 _ _ (by assumption)|exact Ev _ _ (by assumption))));exact q7.1):A:=h ⟨k⟩
theorem XX{p:Prop}(h:p:=by
 refine ao func67 ntmps67 λBB=>?_
 repeat' first|refine AB ?_|intro b;conv=>whnf|(refine aT ?_;constructor<;>intro hc)
 all_goals(refine Rt.pure (zM iD ?_);rw[hU];(repeat' split)<;>first|rfl|omega|(unfold refUp;(repeat' split)<;>first|rfl|omega)|(unfold wk;simp only;unfold refUp;(repeat' split)<;>first|rfl|omega))):p:=h
theorem QJ(x:ak)(i j:Int)(hl:x.kz.length<=1000000)(s:∀k∈x.kz,k.fields.length<=1000000):APure prog 67 [ax x,iD i,iD j] (iD (aI x i j)):=by
 have HA:=Pe x i j
 cases a:fieldAt x i j with
 |none=>
  rw[qD a]at HA;refine ao func67 ntmps67 λBB=>?_
  repeat' first|refine AB ?_|intro b;conv=>whnf|(refine aT ?_;constructor<;>intro hc)
  refine Rt.pure (zM iD ?_);simp[aI,a]
 |some f=>
  rw[lj a]at HA;obtain⟨h0,h1,k,n,q⟩:=E8 a;have r:=s k (zG n);have l:dv x i=some k:=by simp[dv,h0,n]
  have o:=(zE.1 n).1;have hU:=Zv a l;have HB:=Pe x i (aZ k f.up)
  cases e:fieldAt x i (aZ k f.up)with
  |none=>
   rw[qD e]at HB;simp only[e,D',wk]at hU;refine ao func67 ntmps67 λBB=>?_
   repeat' first|refine AB ?_|intro b;conv=>whnf|(refine aT ?_;constructor<;>intro hc)
   all_goals(refine Rt.pure (zM iD ?_);rw[hU];unfold refUp;(repeat' split)<;>first|rfl|omega)
  |some g=>
   rw[lj e]at HB;simp only[e,D']at hU;by_cases hg1:g.kind=1
   .have HU:=MU x i (aZ k f.up) g hl e hg1;exact XX
   .exact XX
end
section
open Go
theorem AA{A B:Prop}(k:B)(h:ar B->A:=by intro q7;(first|refine bA ?_|refine aA ?_|(refine' ah ?hc ?_;(case hc=>first|exact L9 _ _ (by assumption)|exact QJ _ _ _ (by assumption) (by assumption))));exact q7.1):A:=h ⟨k⟩
theorem aG2(x:ak)(i:Int)(f:am)(hi:0<=i)(hl:x.kz.length<=1000000)(G:∀k∈x.kz,k.fields.length<=1000000):APure prog 171 [ax x,iD i,bM f] (.tup [iD (ga x i f).1,bi (ga x i f).2]):=by
 refine ao func171 ntmps171 λJ=>?_;have E:=Y1 x f.of;have hno:f.kind≠6\/bc x f.of<=i->ga x i f=(-1,[]):=λh=>by unfold ga;rw[aI3 h];rfl
 repeat' first|refine AA ?_|intro b;conv=>whnf|refine a7.mk λy hy=>?_|(refine aT ?_;constructor<;>intro hc)
 .exact sZ
 .obtain⟨e,rfl⟩:∃e,e=y:=⟨_,rfl⟩
  have j:=hy;clear hy;have I:f.kind=6:=by omega
  have n:=aI4 (x:=x) (i:=i) I (by omega);obtain⟨o,t⟩:=Int.eq_ofNat_of_zero_le (show 0<=bc x f.of by omega);rw[t]at j;have j:x.kz[o]?=some e:=j;have S:ga x i f=((o:Int),tg x o i f e.fields e.fields.length):=by
   unfold ga;rw[n,aN0 x i f o e t j,t];rfl
  have F:=G e (zG j);rw[t];refine lU mixed ai (γ:=Nat×Value×af) (λg=>[(9,.v g.2.1),(31,iD g.1)]) (λg=>g.2.2) (λg=>g.1<=e.fields.length/\ae 3 1 (EW (tg x o i f e.fields g.1)) g.2.1 g.2.2) (λg=>e.fields.length-g.1) (0,.slice none 0 0,[]) rfl dV ⟨zW _,ae.nil _ _⟩ ?_;rintro⟨q,v,s⟩ ⟨D,w⟩;simp only at D w⊢
  repeat' first|refine AA ?_|intro b;conv=>whnf|refine a7.mk λy hy=>?_|(refine aT ?_;constructor<;>intro hc)
  .have l:Eh x o i f y q=true:=by simp[Eh,seq, *]
   have r:=as2 x o i f e.fields q y hy;rw[l,if_pos rfl]at r;have z:=aI2 x o i f e.fields (q+1);refine Ap.go rfl rfl rfl rfl w (JU _ _) rfl (zs:=EW (tg x o i f e.fields (q+1))) (by rw[r];simp only[EW,yB];rfl) (by simp[EW];omega) (by simp[EW];omega) (λu=>_::u) (PL _) (λa c u C=>?_)
   repeat' first|refine AA ?_|intro b;conv=>whnf|refine a7.mk λy hy=>?_
   exact⟨(q+1,_,u),rfl,List.Sublist.cons _ (xQ _),⟨by simp only;omega,C⟩,by simp only;omega⟩
  iterate 3
   have l:Eh x o i f y q=false:=by simp[Eh,seq, *]
   have r:=as2 x o i f e.fields q y hy;rw[l,if_neg (by simp),zZ]at r;exact⟨(q+1,v,s),rfl,List.Sublist.cons _ (xQ _),⟨by simp only;omega,by simp only;rw[r];exact w⟩,by simp only;omega⟩
  .obtain rfl:q=e.fields.length:=by omega
   rw[S];exact Rt.vs (Vs.tup (eX.cons (Vs.refl _ _) (eX.cons (Vs.row w (bR _)) (eX.nil _))))
 .exact sZ
theorem HS1{x:ak}{i j:Int}{f:am}{o:Int}{l:List Int}(h:fieldAt x i j=some f)(s:ga x i f=(o,l)):jk x i j=mS o l:=by
 simp only[jk,h,s]
theorem Az{A B:Prop}(k:B)(h:ar B->A:=by intro q7;(first|refine bA ?_|refine aA ?_|(refine' ah ?hc ?_;(case hc=>first|exact HA|exact HS)));exact q7.1):A:=h ⟨k⟩
theorem tV(x:ak)(i j:Int)(hl:x.kz.length<=1000000)(n:∀k∈x.kz,k.fields.length<=1000000):APure prog 126 [ax x,iD i,iD j] (.tup [iD (jk x i j).1,iD (jk x i j).2]):=by
 have HA:=Pe x i j
 cases a:fieldAt x i j with
 |none=>
  rw[qD a]at HA;refine ao func126 ntmps126 λg=>?_
  repeat' first|refine Az ?_|intro b;conv=>whnf|(refine aT ?_;constructor<;>intro hc)
  exact Rt.pure (by simp only[jk,a])
 |some f=>
  rw[lj a]at HA;have HS:=aG2 x i f (E8 a).1 hl n;rcases hs:ga x i f with⟨o,l⟩
  have r:=HS1 a hs;rw[hs]at HS;simp only at HS;by_cases hl1:l.length=1
  .obtain⟨m,rfl⟩:=List.length_eq_one_iff.1 hl1;refine ao func126 ntmps126 λg=>?_
   repeat' first|refine Az ?_|intro b;conv=>whnf|(refine aT ?_;constructor<;>intro hc)
   exact Rt.pure (by rw[r];rfl)
  .have e:jk x i j=(-1,-1):=by rw[r,mR hl1]
   refine ao func126 ntmps126 λg=>?_
   repeat' first|refine Az ?_|intro b;conv=>whnf|(refine aT ?_;constructor<;>intro hc)
   exact Rt.pure (by rw[e])
end
section
open Go
theorem aV7(f:List (Bool×Int))(hl:f.length<=1000):APure prog 112 [.sl 2 (f.map λp=>[bD p.1,iD p.2])] (iD (jg f)):=by
 refine ao func112 ntmps112 λj=>?_
 repeat' first|refine aq ?_|intro b;conv=>whnf|refine a7.mk λy hy=>?_
 refine lU mixed ai (γ:=Nat) (λq=>[(7,iD q)]) (λ_=>[]) (λq=>q<=f.length/\∀(m:Nat)y,m<q->f[m]?=some y->y.1=false) (λq=>f.length-q) 0 rfl dV ⟨by omega,λm y g=>by omega⟩ ?_;rintro q ⟨i,o⟩
 repeat' first|refine aq ?_|intro b;conv=>whnf|refine a7.mk λy hy=>?_|(refine aT ?_;constructor<;>intro hc)
 .refine Rt.pure (zM iD ?_);exact(vj o hy (by assumption)).symm
 .exact⟨q+1,rfl,dV,⟨by omega,λm z g a=>by
   by_cases e:m=q
   .subst e;rw[show((m:Int)).toNat=m from rfl,a]at hy;cases hy;assumption
   .exact o m z (by omega) a⟩,by omega⟩
 .refine Rt.pure (zM iD ?_);exact(nz (λm y hy=>o m y (by have:=(zE.1 hy).1;omega) hy)).symm
theorem E9(b:Bool)(c:Int):APure prog 112 [.sl 2 [[bD b,iD c]]] (iD (jg [(b,c)])):=aV7 [(b,c)] (by simp)
theorem E'(b:Bool)(c:Int)(a:Bool)(c':Int):APure prog 112 [.sl 2 [[bD b,iD c],[bD a,iD c']]] (iD (jg [(b,c),(a,c')])):=aV7 [(b,c),(a,c')] (by simp)
theorem aq6(f b2 e d:Bool)(c1 b a c:Int):APure prog 112 [.sl 2 [[bD f,iD c1],[bD b2,iD b],[bD e,iD a],[bD d,iD c]]] (iD (jg [(f,c1),(b2,b),(e,a),(d,c)])):=aV7 [(f,c1),(b2,b),(e,a),(d,c)] (by simp)
def Kt(x:ak)(i j:Int)(f:am):List D:=[iD x.vz,Nb x.kz,EX x.lz,M' x.rules,iD i,iD j,sD f.name,sD f.of,sD f.up,iD f.kind,iD f.lo,iD f.hi,gA f.words,bi f.wz]
abbrev JW(x:ak)(i j:Int)(f:am):D:=.agg (Kt x i j f)
theorem SD{A B:Prop}(k:B)(h:ar B->A:=by intro q7;(first|refine bA ?_|refine aA ?_|(refine' ah ?hc ?_;(case hc=>exact QJ x _ _ hl hf)));exact q7.1):A:=h ⟨k⟩
theorem aV6(x:ak)(i j:Int)(f:am)(hl:x.kz.length<=1000000)(hf:∀k∈x.kz,k.fields.length<=1000000):APure prog 307 [JW x i j f] (bD (decide (aI x i j<0))):=by
 refine ao func307 ntmps307 λa=>?_
 repeat refine SD ?_
 refine Rt.pure (zM bD ?_);rfl
theorem KA{A B:Prop}(k:B)(h:ar B->A:=by intro q7;(first|refine bA ?_|refine aA ?_|(refine' ah ?hc ?_;(case hc=>first|exact QJ x _ _ hl hf|exact HA|exact Ev _ _ (by assumption))));exact q7.1):A:=h ⟨k⟩
theorem zc(x:ak)(i j:Int)(f:am)(hl:x.kz.length<=1000000)(hf:∀k∈x.kz,k.fields.length<=1000000):APure prog 317 [JW x i j f] (.tup [bM (eZ x i j f).1,bD (eZ x i j f).2]):=by
 have l:=rj x i j;refine ao func317 ntmps317 λn=>?_;by_cases hu:aI x i j<0
 .have ht:eZ x i j f=(xa,false):=by unfold eZ;rw[rp hu]
  repeat' first|refine KA ?_|intro b;conv=>whnf|(refine aT ?_;constructor<;>intro hc)
  rw[ht];exact Rt.vs (Vs.tup (eX.cons (Vs.le Zx) (eX.cons (Vs.refl _ _) (eX.nil _))))
 .obtain⟨o,a⟩:∃o,x.kz[(aI x i j).toNat]?=some o:=⟨_,zD (by omega)⟩
  have g:=hf o (zG a);have e:=rq (f:=f) hu a;have HA:=Pe x (aI x i j) (aZ o f.of);have ht:eZ x i j f=g0 x (aI x i j) (aZ o f.of):=by unfold eZ g0;rw[e]
  repeat' first|refine KA ?_|intro b;conv=>whnf|(refine aT ?_;constructor<;>intro hc)
  rw[ht];exact Rt.vs (Vs.refl _ _)
end
end Go.Proofs.YtilnpcolgcmofaaGreatDoor
