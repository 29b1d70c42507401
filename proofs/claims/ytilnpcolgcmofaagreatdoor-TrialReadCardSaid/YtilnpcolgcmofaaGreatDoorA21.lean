/- A part of the proof: V8 Xa Xb Mq Xc Ta Tb Tc. -/
import Derived.Test.YtilnpcolgcmofaaGreatDoorA20
set_option maxRecDepth 100000
set_option maxHeartbeats 20000000
set_option linter.all false
namespace Go.Proofs.YtilnpcolgcmofaaGreatDoor
open Tryz
section
open Go Go.RowKit
theorem bL.plc{x:ak}(h:bL x){k f:Int}{kd:au}(c:0<=k)(a:x.kz[k.toNat]?=some kd)(f0:0<=f)(b:f<kd.fields.length):Ry x k f:=by
 have g:=(zE.1 a).1;have e:=h.nk.2;have d:=h.sm.nf kd (zG a);exact⟨c,by omega,by omega,f0,by omega,by simp[dk,a,b]⟩
theorem bL.kpos{x:ak}(h:bL x){k:Nat}{kd:au}(a:x.kz[k]?=some kd):1<=kd.fields.length/\kd.fields.length<=10:=by
 refine⟨?_,h.sm.nf kd (zG a)⟩;obtain⟨l,r,i,f1,f2,c,p,t,f,e,d,b,_⟩:=h.hx.form k kd a;rw[b];simp
section
variable {P:Program} {T:TypeId->Option TI} {σ τ:af}
theorem Ap.frz2{t e:TypeId}{i j:TI}{g:Bool}{k b:Nat}{xs ys zs:List (List D)}{v a:Value}{s c:af}{K:D->af->Prop}(w:T t=some i)(u:i.sl=some (e,g,k,b))(q:T e=some j)(h:(Nat.beq j.zero.length j.size&&Nat.blt 0 k&&Nat.beq j.size k)=true)
  (r:ae e k xs v s) (d:ae e k ys a c) (p:σ.Perm (s++(c++τ))) (o:(ys.all λy=>y.all dJ)=true) (z:xs++ys=zs) (f:zs.length*b<=140737488355328) (m:zs.length<=1000000000)
  (l:W (K (.sl k zs) τ)):Ap P T σ (.v v) (.v a) t K:=by
 subst z;simp only[zJ]at h;rw[zI]at f m;exact⟨e,i,j,g,k,b,xs,ys,v,s,c,τ,w,u,q,yH h.1.1,by simpa [wT]using h.1.2,yH h.2,rfl,.inr ⟨a,rfl,d⟩,r,p,λy n=>yA.1 o y n,f,m,.inr l.h⟩
end
theorem JZ(p:cE):((p.map bY).all λy=>y.all dJ)=true:=yA.2 λy h=>by obtain⟨z,_,rfl⟩:=xM.1 h;rfl
def r8(L:cE)(i:Nat):cE:=(L.take i).map uG++L.drop i
theorem G6(L:cE)(i:Nat):(r8 L i).length=L.length:=by unfold r8;rw[zI,zL,zR,List.length_drop];omega
theorem A3{L:cE}{i:Nat}{y:VI}(h:L[i]?=some y):(r8 L i)[i]?=some y:=by
 have a:=(zE.1 h).1;unfold r8;rw[yK (by rw[zL,zR];omega),zL,zR,xR];rw[show i+(i-min i L.length)=i by omega];exact h
theorem r7{L:cE}{i:Nat}{y:VI}(h:L[i]?=some y):(r8 L i).set i (uG y)=r8 L (i+1):=by
 have a:=(zE.1 h).1;unfold r8;rw[xC,h,yB,List.set_append_right _ _ (by rw[zL,zR];omega),zL,zR,show i-min i L.length=0 by omega,vG a,List.set_cons_zero];simp
theorem G7(L:cE):r8 L L.length=L.map uG:=by unfold r8;rw[yM,List.drop_length,zZ]
theorem AJ{A B:Prop}(k:B)(h:ar B->A:=by intro q7;(first|refine bO ?_|refine aA ?_|(refine' ah ?hc ?_;(case hc=>first|exact HA0|exact HA1|exact HA _ _|exact HU _ _)));exact q7.1):A:=h ⟨k⟩
theorem Tv{A B:Prop}(k:B)(h:ar B->A:=by intro q7;(first|(with_reducible refine Bc.l ?_)|((with_reducible refine Bx.l ?_);(((with_reducible refine W.mk ?_);(conv=>whnf)));(((with_reducible refine Sd.go ?qs7 ?_);(case qs7=>first|trivial|(constructor<;>omega)|omega|assumption|(refine And.intro ?_ (cB.mk ?_ ?_)<;>omega)|((try simp only[zL,zR,zI,List.length_cons,List.length_nil,zY,Nat.reduceAdd]at *);first|(constructor<;>omega)|omega)))))|refine Nh ?_);exact q7.1):A:=h ⟨k⟩
theorem K3{A B:Prop}(k:B)(h:ar B->A:=by intro q7;(first|refine bO ?_|refine Tv ?_|(refine' ah ?hc ?_;(case hc=>first|exact HA0|exact HA1|exact HA3|exact HA _ _|exact HU _ _)));exact q7.1):A:=h ⟨k⟩
theorem fW{A B:Prop}(k:B)(h:ar B->A:=by intro q7;(first|refine bO ?_|refine aA ?_|(refine' ah ?hc ?_;(case hc=>first|exact HA0|exact HA1|exact HA3|exact HA _ _|exact HU _ _)));exact q7.1):A:=h ⟨k⟩
theorem Tj{A B:Prop}(k:B)(h:ar B->A:=by intro q7;(first|refine bO ?_|refine aA ?_|(refine' ah ?hc ?_;(case hc=>first|exact HA0|exact HA1|exact HA6|exact HA _ _|exact HS)));exact q7.1):A:=h ⟨k⟩
theorem Ti{A B:Prop}(k:B)(h:ar B->A:=by intro q7;(first|refine bO ?_|refine aA ?_|(refine' ah ?hc ?_;(case hc=>first|exact HA4|exact HA _ _|exact HS)));exact q7.1):A:=h ⟨k⟩
theorem cK{A B:Prop}(k:B)(h:ar B->A:=by intro q7;(first|refine bO ?_|refine aA ?_|(refine' ah ?hc ?_;(case hc=>first|exact HA5|exact HS)));exact q7.1):A:=h ⟨k⟩
theorem K2{A B:Prop}(k:B)(h:ar B->A:=by intro q7;(first|refine bO ?_|refine aA ?_|(refine' ah ?hc ?_;(case hc=>first|exact HA0|exact HA1|exact HA2|exact HU2|exact HA _ _)));exact q7.1):A:=h ⟨k⟩
theorem fk{p:Prop}(h:p:=by rw[zL,zI];simp;omega):p:=h
theorem YJ{p:Prop}(h:p:=by
 repeat' first|refine fW ?_|((refine' Ld.cellm (tb:=83) (cs:=cs) (by simp) ?hldc ?_);(case hldc=>first|exact hc0|exact hc1|exact hc3))
 refine Sv.cellm (tb:=83) (cs:=cs) (cs':=cs.set (i*4+3) (iD (y.c+3))) (τ:=[_]) (zH _) (by rw[show 0+((i:Nat):Int).toNat*4+3=i*4+3 by simp];exact hlt (hcs 3 (by decide))) rfl (by rw[show 0+((i:Nat):Int).toNat*4+3=i*4+3 by simp]) ?_
 repeat refine fW ?_
 exact⟨(i+1,_),(aj av),Sc.refl _,⟨by omega,hst (by decide) hsv⟩,by simp only;omega⟩):p:=h
theorem YC{p:Prop}(h:p:=by
 refine cP func17 ntmps17 λBB=>?_
 repeat refine AJ ?_
 (refine bc (aD5 _ _ _ _ _ _ _) (zH ([]++_)) (λs'=>s') da ?_;(rintro _ s9 ⟨v,rfl,hv⟩))
 repeat refine AJ ?_
 exact Rt.by (Vs.row hv (bS _)) ⟨rfl,_,rfl,aP4 (hL (.inl (by decide)))⟩):p:=h
theorem m5(x:ak)(hx:bL x)(l:List Int)(hl:ef l):az prog 17 [ax x,bj l] [] (λd σ=>σ=[]/\∃p,d=uB p/\fx x p):=by
 have HA:=λi n=>Q6 l hl i n;have HU:=λi j=>Qn x i j (by have:=hx.nk;omega) (λk hk=>by have:=hx.sm.nf k hk;omega);obtain⟨hn1,hn3⟩:=hx.nk;obtain⟨k0,kl⟩:=de l 0 x.kz.length
 replace kl:=kl (by omega)
 obtain⟨k,hk⟩:∃k:Nat,aw l 0 x.kz.length=k:=⟨(aw l 0 x.kz.length).toNat,by omega⟩
 rw[hk]at kl;obtain⟨kd,R⟩:∃kd,x.kz[k]?=some kd:=⟨_,zD (by omega)⟩
 obtain⟨hf1,hf10⟩:=hx.kpos R;obtain⟨f0,fl⟩:=de l 1 kd.fields.length
 replace fl:=fl (by omega)
 obtain⟨f,hf⟩:∃f:Nat,aw l 1 kd.fields.length=f:=⟨(aw l 1 kd.fields.length).toNat,by omega⟩
 rw[hf]at fl;obtain⟨s0,G⟩:=de l 2 12;obtain⟨c0,c1⟩:=de l 3 3;obtain⟨o0,o1⟩:=de l 4 2
 replace G:=G (by decide)
 replace c1:=c1 (by decide)
 replace o1:=o1 (by decide)
 have S:Ry x k f:=hx.plc (by omega) R (by omega) (by omega);have hkd':x.kz[((k:Nat):Int).toNat]?=some kd:=R;have HA0:APure prog 29 [bj l,iD 0,iD ((x.kz.map bA).length:Nat)] (iD k):=by rw[zL,←hk];exact HA _ _
 have HA1:APure prog 29 [bj l,iD 1,iD ((kd.fields.map aH).length:Nat)] (iD f):=by rw[zL,←hf];exact HA _ _
 by_cases e0:aw l 5 6=0
 .refine cP func17 ntmps17 λBB=>?_
  repeat refine AJ ?_
  exact Rt.by (Vs.refl _ _) ⟨rfl,ZA k (aw l 2 12-2) (1+aw l 3 3),rfl,A2 ⟨by omega,by omega⟩ kl (by omega) ⟨by omega,by omega⟩⟩
 by_cases e1:aw l 5 6=1
 .obtain⟨q0,q1⟩:=de l 6 x.kz.length
  replace q1:=q1 (by omega)
  obtain⟨n0,V⟩:=de l 7 3
  replace V:=V (by decide)
  have HA3:APure prog 29 [bj l,iD 6,iD ((x.kz.map bA).length:Nat)] (iD (aw l 6 x.kz.length)):=by rw[zL];exact HA _ _
  have hLo:KC x k f (-1) 0 (7+aw l 4 2) (aw l 2 12-2) (1+aw l 3 3):=⟨S,.inl (by decide),by omega,by omega,by omega⟩
  have hO:=N8 hLo (kk:=aw l 6 x.kz.length) (n:=1+aw l 7 3) (by omega) q1 (by omega);refine cP func17 ntmps17 λBB=>?_
  repeat refine K3 ?_
  refine Bx.l ?_
  repeat refine K3 ?_
  refine Bx.r ?_;refine La ai (out:=((kP (aw l 6 x.kz.length) (1+aw l 7 3)).map bY).flatten) rfl rfl rfl rfl rfl rfl rfl rfl (by kernel_rfl) (by kernel_rfl) (by decide) (λbo=>?_);have hr0:MU (kP (aw l 6 x.kz.length) (1+aw l 7 3)) (.slice (some ⟨bo,0,none⟩) 3 3) _:=kI bo (by simp[kP]) rfl
  repeat refine fW ?_
  (refine bc (aD5 _ _ _ _ _ _ _) (zH ([]++_)) (λs'=>s'++_) (λs'=>zH _) ?_;(rintro _ s9 ⟨v,rfl,hv⟩))
  repeat refine fW ?_
  have hOL:=aP4 hLo;obtain⟨L,hLd⟩:∃L,lY k f (-1) 0 (7+aw l 4 2) (aw l 2 12-2) (1+aw l 3 3)=L:=⟨_,rfl⟩
  rw[hLd]at hOL hO hv;have Q:L.length=10:=by rw[←hLd];rfl
  obtain⟨b9,c9,ju,U,z2,-⟩:=ae.block hv (by intro h;have:=zM List.length h;rw[zL,Q]at this;cases this);rw[zL,Q]at U;subst U z2;refine aR mixed ai (γ:=Nat×List D) (λg=>[(15,iD g.1)]) (λg=>[(b9,.cells 83 g.2),(bo,.cells 83 ((kP (aw l 6 x.kz.length) (1+aw l 7 3)).map bY).flatten)]) (λg=>g.1<=10/\MU (r8 L g.1) (.slice (some ⟨b9,0,none⟩) 10 c9) [(b9,.cells 83 g.2)]) (λg=>10-g.1) (0,_) (aj av) (Sc.refl _) ⟨zW _,hv⟩ ?_;rintro⟨i,cs⟩ ⟨hi,C⟩;simp only at hi C⊢;by_cases hil:i<10
  .obtain⟨y,hy⟩:∃y,L[i]?=some y:=⟨_,zD (by omega)⟩
   have hoy:=hOL.ok y (zG hy);have X:((r8 L i).map bY)[i]?=some (bY y):=by rw[qA,A3 hy];rfl
   obtain⟨_,_,_,w1,w2,hcs⟩:=ae.get C X;clear w1
   cases w2
   have hc0:cs[0+((i:Nat):Int).toNat*4+0]?=some (iD y.op):=by rw[show 0+((i:Nat):Int).toNat*4+0=i*4+0 by simp];exact hcs 0 (by decide)
   have hc1:cs[0+((i:Nat):Int).toNat*4+1]?=some (iD y.a):=by rw[show 0+((i:Nat):Int).toNat*4+1=i*4+1 by simp];exact hcs 1 (by decide)
   have hc3:cs[0+((i:Nat):Int).toNat*4+3]?=some (iD y.c):=by rw[show 0+((i:Nat):Int).toNat*4+3=i*4+3 by simp];exact hcs 3 (by decide)
   have hlt:∀{m:Nat}{d:D},cs[i*4+m]?=some d->i*4+m<cs.length:=λh=>(zE.1 h).1;have hst:∀{m:Nat}{d:D},m<4->bY (uG y)=(bY y).set m d->MU (r8 L (i+1)) (.slice (some ⟨b9,0,none⟩) 10 c9) [(b9,.cells 83 (cs.set (i*4+m) d))]:=λ{m d}hm he=>by
    have:=pB1 (d:=d) C X hm
    rwa [←he,←wL,r7 hy]at this
   obtain⟨hop,hfa,hfb,O⟩:=hoy;by_cases h6:y.op=6
   .rw[h6]at hfa;have ha:=Rv hfa
    repeat' first|refine fW ?_|((refine' Ld.cellm (tb:=83) (cs:=cs) (by simp) ?hldc ?_);(case hldc=>first|exact hc0|exact hc1|exact hc3))
    refine Sv.cellm (tb:=83) (cs:=cs) (cs':=cs.set (i*4+1) (iD (y.a+3))) (τ:=[_]) (zH _) (by rw[show 0+((i:Nat):Int).toNat*4+1=i*4+1 by simp];exact hlt (hcs 1 (by decide))) rfl (by rw[show 0+((i:Nat):Int).toNat*4+1=i*4+1 by simp]) ?_;have J:(cs.set (i*4+1) (iD (y.a+3)))[0+((i:Nat):Int).toNat*4+0]?=some (iD y.op):=by rw[wN (by simp)];exact hc0
    repeat' first|refine fW ?_|((refine' Ld.cellm (tb:=83) (cs:=cs.set (i*4+1) (iD (y.a+3))) (by simp) J ?_))
    exact⟨(i+1,_),(aj av),Sc.refl _,⟨by omega,hst (by decide) (by simp[uG,h6,bY])⟩,by simp only;omega⟩
   by_cases h7:y.op=7\/y.op=8
   .have ha:0<=y.c/\y.c<=L.length:=by
     rcases h7 with e|e
     .rw[e]at O;exact Rv O
     .rw[e]at O;exact Rv O
    have hsv:bY (uG y)=(bY y).set 3 (iD (y.c+3)):=by simp[uG,h6,h7,bY]
    rcases h7 with e|e
    .exact YJ
    .exact YJ
   .have hsv:uG y=y:=by unfold uG;rw[if_neg h6,if_neg h7]
    have hsh:r8 L (i+1)=r8 L i:=by
     rw[←r7 hy,hsv];exact xY λq=>by
      by_cases e:q=i
      .subst e;rw[xI (by rw[G6];omega),A3 hy]
      .rw[wN (λh=>e h.symm)]
    have h71:y.op≠7:=λe=>h7 (.inl e);have h72:y.op≠8:=λe=>h7 (.inr e)
    repeat' first|refine fW ?_|((refine' Ld.cellm (tb:=83) (cs:=cs) (by simp) ?hldc ?_);(case hldc=>first|exact hc0|exact hc1|exact hc3))
    exact⟨(i+1,cs),(aj av),Sc.refl _,⟨by omega,hsh ▸ C⟩,by simp only;omega⟩
  .obtain rfl:i=10:=by omega
   repeat refine fW ?_
   refine Ap.frz2 rfl rfl rfl rfl hr0 C (List.Perm.swap _ _ _) (JZ _) (zs:=(kP (aw l 6 x.kz.length) (1+aw l 7 3)++L.map uG).map bY) (by rw[yB,←Q,G7]) (by rw[zL];have:=hO.len;omega) (by rw[zL];have:=hO.len;omega) ?_
   repeat refine fW ?_
   exact Rt.by (Vs.refl _ _) ⟨rfl,_,rfl,hO⟩
 by_cases e2:aw l 5 6=2
 .obtain⟨n0,V⟩:=de l 6 9
  replace V:=V (by decide)
  obtain⟨n,hn⟩:∃n:Nat,aw l 6 9=n:=⟨(aw l 6 9).toNat,by omega⟩
  have HS:=uR;have HA6:APure prog 29 [bj l,iD 6,iD 9] (iD n):=hn ▸ HA _ _;refine cP func17 ntmps17 λBB=>?_
  repeat refine Tj ?_
  refine aR mixed ai (γ:=Nat×cE×Value×af) (λg=>[(18,iD g.1),(16,.v g.2.2.1)]) (λg=>g.2.2.2) (λg=>g.1<=n/\g.2.1.length=g.1/\(∀i∈g.2.1,Kz n i/\dk x i=true)/\MU g.2.1 g.2.2.1 g.2.2.2) (λg=>n-g.1) (0,[],.slice none 0 0,[]) (aj av) (Sc.refl _) ⟨zW _,rfl,(λi hi=>by cases hi),ae.nil _ _⟩ ?_;rintro⟨i,p,v,r⟩ ⟨hi,P,M,C⟩;simp only at hi P M C⊢;by_cases hil:i<n
  .obtain⟨o0,o9⟩:=de l (7+4*(i:Int)) 9
   replace o9:=o9 (by decide)
   obtain⟨o,ho⟩:∃o:Nat,aw l (7+4*(i:Int)) 9=o:=⟨(aw l (7+4*(i:Int)) 9).toNat,by omega⟩
   have HA4:APure prog 29 [bj l,iD (7+4*(i:Int)),iD 9] (iD o):=ho ▸ HA _ _
   repeat refine Ti ?_
   refine aR mixed ai (γ:=Nat×List Int×Value×af) (λg=>[(21,iD g.1),(20,.v g.2.2.1)]) (λg=>g.2.2.2++r) (λg=>g.1<=3/\g.2.1.length=g.1/\(∀q y,g.2.1[q]?=some y->gG n k f (pq o q) y)/\Kw g.2.1 g.2.2.1 g.2.2.2) (λg=>3-g.1) (0,[],.slice none 0 0,[]) (aj av) (Sc.refl _) ⟨zW _,rfl,(λq y hq=>by cases hq),ae.nil _ _⟩ ?_;rintro⟨j,I,v2,r2⟩ ⟨hj,t,F,s⟩;simp only at hj t F s⊢;by_cases hjl:j<3
   .obtain⟨sr,ch,hsr,hch,hcm⟩:=GQ (o:=o) (j:=j) (by omega) hjl;have hsr2:(uy.map λz=>[sD z])[((o:Nat):Int).toNat]?=some [sD sr]:=by rw[qA,hsr];rfl
    obtain⟨u0,u1⟩:=de l (8+4*(i:Int)+j) 720
    replace u1:=u1 (by decide)
    obtain⟨u,hu⟩:∃u:Nat,aw l (8+4*(i:Int)+j) 720=u:=⟨(aw l (8+4*(i:Int)+j) 720).toNat,by omega⟩
    have HA5:APure prog 29 [bj l,iD (8+4*(i:Int)+j),iD 720] (iD u):=hu ▸ HA _ _;have s:ae 3 1 (I.map λn=>[iD n]) v2 r2:=s;simp only[zU,vY,yF,xE]at hcm;rcases hcm with⟨K,rfl⟩|⟨K,rfl⟩|⟨K,rfl⟩|⟨K,rfl⟩|⟨K,rfl⟩|⟨K,rfl⟩|⟨K,rfl⟩
    .have E:gG n k f 0 0:=ZP (by decide) (by decide) ⟨by simp[oV],by simp[k8]⟩;have J:UInt8.toNat 45=45:=rfl
     repeat refine cK ?_
     refine Ap.go rfl rfl rfl rfl s (zH _) rfl (zs:=(I++[(0:Int)]).map λn=>[iD n]) (by rw[yB];rfl) fk fk (λs'=>s'++r) (λs'=>zH _) (λT c1 G w=>?_)
     repeat refine cK ?_
     exact⟨(j+1,I++[(0:Int)],_,G),(aj av),Sc.refl _,⟨by omega,by rw[zI,t];rfl,PP t F K E,w⟩,by simp only;omega⟩
    .have E:gG n k f 1 ((u:Int).tmod 4):=ZP (by decide) (by decide) ⟨Int.tmod_nonneg _ (by omega),by have:=Int.tmod_lt_of_pos (u:Int) (b:=4) (by decide);simp[k8];omega⟩;have J:UInt8.toNat 99=99:=rfl
     repeat refine cK ?_
     refine Ap.go rfl rfl rfl rfl s (zH _) rfl (zs:=(I++[((u:Int).tmod 4:Int)]).map λn=>[iD n]) (by rw[yB];rfl) fk fk (λs'=>s'++r) (λs'=>zH _) (λT c1 G w=>?_)
     repeat refine cK ?_
     exact⟨(j+1,I++[((u:Int).tmod 4:Int)],_,G),(aj av),Sc.refl _,⟨by omega,by rw[zI,t];rfl,PP t F K E,w⟩,by simp only;omega⟩
    .have E:gG n k f 2 ((u:Int).tmod 8):=ZP (by decide) (by decide) ⟨Int.tmod_nonneg _ (by omega),by have:=Int.tmod_lt_of_pos (u:Int) (b:=8) (by decide);simp[k8];omega⟩;have J:UInt8.toNat 114=114:=rfl
     repeat refine cK ?_
     refine Ap.go rfl rfl rfl rfl s (zH _) rfl (zs:=(I++[((u:Int).tmod 8:Int)]).map λn=>[iD n]) (by rw[yB];rfl) fk fk (λs'=>s'++r) (λs'=>zH _) (λT c1 G w=>?_)
     repeat refine cK ?_
     exact⟨(j+1,I++[((u:Int).tmod 8:Int)],_,G),(aj av),Sc.refl _,⟨by omega,by rw[zI,t];rfl,PP t F K E,w⟩,by simp only;omega⟩
    .have h9:=Int.tmod_nonneg (a:=(u:Int)) 9 (by omega);have h99:=Int.tmod_lt_of_pos (u:Int) (b:=9) (by decide);have E:gG n k f 3 ((u:Int).tmod 9-2):=ZP (by decide) (by decide) ⟨by simp[oV];omega,by simp[k8];omega⟩;have J:UInt8.toNat 110=110:=rfl
     repeat refine cK ?_
     refine Ap.go rfl rfl rfl rfl s (zH _) rfl (zs:=(I++[((u:Int).tmod 9-2:Int)]).map λn=>[iD n]) (by rw[yB];rfl) fk fk (λs'=>s'++r) (λs'=>zH _) (λT c1 G w=>?_)
     repeat refine cK ?_
     exact⟨(j+1,I++[((u:Int).tmod 9-2:Int)],_,G),(aj av),Sc.refl _,⟨by omega,by rw[zI,t];rfl,PP t F K E,w⟩,by simp only;omega⟩
    .have E:gG n k f 4 k:=⟨by have:=S.k0;have:=S.k5;simp[cz,oV,k8];omega,λ_=>rfl,λe=>by cases e⟩
     have J:UInt8.toNat 107=107:=rfl
     repeat refine cK ?_
     refine Ap.go rfl rfl rfl rfl s (zH _) rfl (zs:=(I++[((k:Int):Int)]).map λn=>[iD n]) (by rw[yB];rfl) fk fk (λs'=>s'++r) (λs'=>zH _) (λT c1 G w=>?_)
     repeat refine cK ?_
     exact⟨(j+1,I++[((k:Int):Int)],_,G),(aj av),Sc.refl _,⟨by omega,by rw[zI,t];rfl,PP t F K E,w⟩,by simp only;omega⟩
    .have E:gG n k f 5 f:=⟨by have:=S.f0;have:=S.f9;simp[cz,oV,k8];omega,(λe=>by cases e),λ_=>rfl⟩
     have J:UInt8.toNat 102=102:=rfl
     repeat refine cK ?_
     refine Ap.go rfl rfl rfl rfl s (zH _) rfl (zs:=(I++[((f:Int):Int)]).map λn=>[iD n]) (by rw[yB];rfl) fk fk (λs'=>s'++r) (λs'=>zH _) (λT c1 G w=>?_)
     repeat refine cK ?_
     exact⟨(j+1,I++[((f:Int):Int)],_,G),(aj av),Sc.refl _,⟨by omega,by rw[zI,t];rfl,PP t F K E,w⟩,by simp only;omega⟩
    .have h99:=Int.tmod_lt_of_pos (u:Int) (b:=(n:Int)+1) (by omega);have E:gG n k f 6 ((u:Int).tmod ((n:Int)+1)):=ZP (by decide) (by decide) ⟨Int.tmod_nonneg _ (by omega),by simp[k8];omega⟩;have J:UInt8.toNat 105=105:=rfl
     repeat refine cK ?_
     refine Ap.go rfl rfl rfl rfl s (zH _) rfl (zs:=(I++[((u:Int).tmod ((n:Int)+1):Int)]).map λn=>[iD n]) (by rw[yB];rfl) fk fk (λs'=>s'++r) (λs'=>zH _) (λT c1 G w=>?_)
     repeat refine cK ?_
     exact⟨(j+1,I++[((u:Int).tmod ((n:Int)+1):Int)],_,G),(aj av),Sc.refl _,⟨by omega,by rw[zI,t];rfl,PP t F K E,w⟩,by simp only;omega⟩
   .obtain rfl:j=3:=by omega
    obtain⟨y1,y2,y3,rfl⟩:∃a b c,I=[a,b,c]:=by
     rcases I with _|⟨a,_|⟨b,_|⟨c,_|⟨d,I⟩⟩⟩⟩<;>simp at t;exact⟨a,b,c,rfl⟩
    have hfi:=IQ (x:=x) (by omega) S F;have s:ae 3 1 [[iD y1],[iD y2],[iD y3]] v2 r2:=s;obtain⟨b7,c7,j7,U,z2,-⟩:=ae.block s (by simp);rw[show([[iD y1],[iD y2],[iD y3]]:List (List D)).length=3 from rfl]at U;subst U z2
    repeat refine cK ?_
    refine Ap.go rfl rfl rfl rfl C (yT (l₁:=[_])) rfl (zs:=(p++[(⟨o,y1,y2,y3⟩:VI)]).map bY) (by rw[yB];rfl) fk fk (λs'=>s'++[_]) (λs'=>zH _) (λT c1 G w=>?_)
    repeat refine cK ?_
    exact⟨(i+1,p++[(⟨o,y1,y2,y3⟩:VI)],_,G),(aj av),Sc.sl (xU _ _),⟨by omega,by rw[zI,P];rfl,(λz K=>by rcases zO.1 K with h|h;exact M z h;rw[zN.1 h];exact hfi),w⟩,by simp only;omega⟩
  .obtain rfl:i=n:=by omega
   repeat refine cK ?_
   exact Rt.by (Vs.row C (bS _)) ⟨rfl,_,rfl,⟨by omega,λi hi=>by rw[P];exact(M i hi).1,λi hi=>(M i hi).2⟩⟩
 obtain⟨fd,hfd⟩:∃y,kd.fields[((f:Nat):Int).toNat]?=some y:=⟨_,zD (by omega)⟩
 have hL:∀{rk rf:Int},rk<0\/Ry x rk rf->KC x k f rk rf (7+aw l 4 2) (aw l 2 12-2) (1+aw l 3 3):=λh=>⟨S,h,by omega,by omega,by omega⟩
 by_cases e3:aw l 5 6=3
 .by_cases h1:fd.kind=1
  .by_cases hu:0<=aI x k f
   .obtain⟨o,ok,ho,Z⟩:=kt x k f hu;obtain⟨g1,g10⟩:=hx.kpos Z;have Y:x.kz[((o:Nat):Int).toNat]?=some ok:=Z;obtain⟨r0,r1⟩:=de l 6 ok.fields.length
    replace r1:=r1 (by omega)
    have HU2:APure prog 36 [ax x,iD k,iD f] (iD o):=ho ▸ HU k f;have HA2:APure prog 29 [bj l,iD 6,iD ((ok.fields.map aH).length:Nat)] (iD (aw l 6 ok.fields.length)):=by rw[zL];exact HA _ _
    refine cP func17 ntmps17 λBB=>?_
    repeat refine K2 ?_
    (refine bc (aD5 _ _ _ _ _ _ _) (zH ([]++_)) (λs'=>s') da ?_;(rintro _ s9 ⟨v,rfl,hv⟩))
    repeat refine K2 ?_
    exact Rt.by (Vs.row hv (bS _)) ⟨rfl,_,rfl,aP4 (hL (.inr (hx.plc (by omega) Y r0 r1)))⟩
   .have hu':aI x k f<0:=by omega
    refine cP func17 ntmps17 λBB=>?_
    repeat refine AJ ?_
    (refine bc (aD5 _ _ _ _ _ _ _) (zH ([]++_)) (λs'=>s') da ?_;(rintro _ s9 ⟨v,rfl,hv⟩))
    repeat refine AJ ?_
    exact Rt.by (Vs.row hv (bS _)) ⟨rfl,_,rfl,aP4 (hL (.inl hu'))⟩
  .exact YC
 .exact YC
end
section
open Go
def pp(rows:List (List Int))(up s i:Nat):Int:=rows.foldl (λ(a:Int)(r:List Int)=>if r.getD up 0=(i:Int)then IntKind.i64.wrap (a+r.getD s 0)else a) (0:Int)
def Nf(x:ak)(o s:Nat):Nat:=match x.kz[o]? with
 |some k=>match k.fields[s]? with
  |some g=>(a7 k g.up).toNat
  |none=>0
 |none=>0
def en(n:Int):Bool:=!(decide (n < -1099511627776)||decide (1099511627776<n))
def dB(x:ak)(k:Nat)(l:List Int):Bool:=sT x k l&&l.all en
def qX(x:ak)(k:Nat)(l:List (List Int)):Bool:=decide (l.length<=512)&&l.all (dB x k)
def cG(x:ak)(w:Wd):Bool:=decide (w.length=x.kz.length)&&(List.range w.length).all (λk=>qX x k (w.getD k []))&&(bM x).all (λr=>(w.getD r.kind []).all (tP w r))
def qw(x:ak)(n:ByteArray):bX:=(x.lz.find? λl=>seq l.name n).getD ⟨ByteArray.empty,[],[]⟩
def GO(l:bX)(n:List Bool):List Bool:=l.mz.foldl (λx m=>if n.getD m.1.toNat false then x.set m.2.toNat true else x) (List.replicate 12 false)
def jL(l:bX):Nat->List Bool
 |0=>(List.replicate 12 false).set 0 true
 |m+1=>GO l (jL l m)
def jS(l:bX)(s:Nat):Bool:=!l.mz.any λm=>decide (m.1=(s:Int))
def Qh(l:bX):Bool:=decide (l.tz.length<=12)&&decide (l.mz.length<=32)&&decide (l.tz.length≠0)&&l.mz.all λm=>cb l.tz.length m
def xe(l:bX)(lo h:Int):List Bool:=
 if Qh l&&decide (0<=lo)&&decide (lo<=h)&&decide (h<=1000)then(List.range l.tz.length).map λs=>(List.range (h.toNat+1)).any λm=>(jL l m).getD s false&&(decide (lo<=(m:Int))||jS l s)else[]
def mf(r:List Int)(i:Int):Int:=r.getD i.toNat 0
def gr(kd:au)(r:List Int)(n:ByteArray):Int:=if dG n then 0 else mf r (a7 kd n)
def H0(v lo h:Int):Int:=if v<lo\/h<v then 5 else 0
def mu(x:ak)(w:Wd)(k i f:Nat):Int:=pp (w.getD (jw x k f).1.toNat []) (Nf x (jw x k f).1.toNat (jw x k f).2.toNat) (jw x k f).2.toNat i
def qJ(x:ak)(w:Wd)(k:Nat)(kd:au)(d:am)(r:List Int):Int:=
 match dw x (aI x k (a7 kd d.up))with
 |some o=>mf ((w.getD (aI x k (a7 kd d.up)).toNat []).getD (mf r (a7 kd d.up)).toNat []) (a7 o d.of)
 |none=>0
def tw(x:ak)(w:Wd)(k:Nat)(kd:au)(r:List Int)(i f:Nat)(d:am)(s:List Int):Int:=
 if d.kind=0 then(if r.getD f 0<d.lo then 5 else if r.getD f 0∈s then 7 else 0)
 else if d.kind=2\/d.kind=7 then H0 (r.getD f 0) d.lo d.hi
 else if d.kind=3 then(if r.getD f 0<0\/(d.words.length:Int)<=r.getD f 0\/d.wz.getD (r.getD f 0).toNat 0=0 then 5 else 0)
 else if d.kind=4 then H0 (r.getD f 0-gr kd r d.of) d.lo d.hi
 else if d.kind=5 then(if(xe (qw x d.of) d.lo d.hi).getD (r.getD f 0).toNat false&&decide (0<=r.getD f 0)then 0 else 8)
 else if d.kind=6 then(if r.getD f 0=mu x w k i f then 0 else 9)
 else if d.kind=8 then(if r.getD f 0=qJ x w k kd d r then 0 else 16)
 else 0
def v8(r:List Int)(f:Nat)(d:am)(k:List Int):List Int:=if d.kind=0/\¬r.getD f 0<d.lo then r.getD f 0::k else k
def tL(kd:au)(r:List Int)(k:List Int):Nat->List Int
 |0=>k
 |q+1=>match kd.fields[q]? with
  |some d=>v8 r q d (tL kd r k q)
  |none=>tL kd r k q
def x4(kd:au)(l:List (List Int)):Nat->List Int
 |0=>[]
 |i+1=>match l[i]? with
  |some r=>tL kd r (x4 kd l i) r.length
  |none=>x4 kd l i
def k7(kd:au)(r:List Int)(q:cI):Bool:=decide (gr kd r q.a<=gr kd r q.b+q.n)
def jm(x:ak)(w:Wd)(k:Nat)(kd:au)(l:List (List Int))(i:Nat)(r:List Int)(f:Nat):List fp:=
 match kd.fields[f]? with
 |some d=>one k i f (tw x w k kd r i f d (tL kd r (x4 kd l i) f))
 |none=>[]
def jf(x:ak)(k:Nat)(kd:au)(i:Nat)(r:List Int)(q:Nat):List fp:=
 match x.rules[q]? with
 |some u=>one k i (-1) (if bf x u.kind=(k:Int)/\k7 kd r u=false then 24 else 0)
 |none=>[]
def iF(x:ak)(w:Wd)(k:Nat)(kd:au)(l:List (List Int))(i:Nat):List fp:=
 match l[i]? with
 |some r=>aq r.length (jm x w k kd l i r)++aq x.rules.length (jf x k kd i r)
 |none=>[]
def yn(x:ak)(w:Wd)(k:Nat):List fp:=
 match x.kz[k]? with
 |some kd=>aq (w.getD k []).length (iF x w k kd (w.getD k []))
 |none=>[]
def kY(x:ak)(w:Wd)(k:Nat):List fp:=
 match x.kz[k]? with
 |some kd=>one k (-1) (-1) (if((w.getD k []).length:Int)<kd.lo\/kd.hi<((w.getD k []).length:Int)then 4 else 0)
 |none=>[]
def IZ(w:Wd)(r:Rf)(j:Nat):Nat:=(w.getD r.kind []).countP λl=>decide (l.getD r.field 0=(j:Int))
def iQ(x:ak)(w:Wd)(r:Rf)(j:Nat):List fp:=
 match fieldAt x r.kind r.field with
 |some d=>one r.kind j r.field (if(IZ w r j:Int)<d.lo\/d.hi<(IZ w r j:Int)then 11 else 0)
 |none=>[]
def EZ(x:ak)(w:Wd)(q:Nat):List fp:=
 match(bM x)[q]? with
 |some r=>aq (w.getD r.up.toNat []).length (iQ x w r)
 |none=>[]
def Ko(x:ak)(w:Wd):List fp:=
 if cG x w then aq w.length (kY x w)++aq w.length (yn x w)++aq (bM x).length (EZ x w)else[(-1,-1,-1,2)]
end
section
open Go Go.Maps Go.MapKept
def cL(rows:List (List Int))(f j:Nat):List Int:=(rows.zipIdx.filter λp=>decide (p.1.getD f 0=(j:Int))).map λp=>(p.2:Int)
theorem aP7(rows:List (List Int))(r:List Int)(f j:Nat):cL (rows++[r]) f j=if r.getD f 0=(j:Int)then cL rows f j++[(rows.length:Int)]else cL rows f j:=by
 unfold cL;rw[List.zipIdx_append,vZ,yB,List.zipIdx_singleton,List.filter_cons,List.filter_nil,xD];by_cases h:r.getD f 0=(j:Int)
 .rw[if_pos h,if_pos (by simpa using h)];rfl
 .rw[if_neg h,if_neg (by simpa using h)];simp
theorem aL9(rows:List (List Int))(f j:Nat):(cL rows f j).length=rows.countP λr=>decide (r.getD f 0=(j:Int)):=by
 generalize a:rows.reverse=l
 induction l generalizing rows with
 |nil=>rw[List.reverse_eq_nil_iff]at a;subst a;rfl
 |cons r l i=>
  have b:rows=l.reverse++[r]:=by rw[←List.reverse_reverse rows,a];simp
  subst b;rw[aP7,List.countP_append,←i l.reverse (by simp),List.countP_singleton];by_cases h:r.getD f 0=(j:Int)
  .rw[if_pos h,if_pos (yJ h),zI];rfl
  .rw[if_neg h,if_neg (by simpa using h)];rfl
def gA(rows:List (List Int))(f n:Nat):List (List Int):=(List.range n).map (cL rows f)
theorem Mx(rows:List (List Int))(f n:Nat):(gA rows f n).length=n:=by simp[gA]
theorem Rq{f n j:Nat}(rows:List (List Int))(h:j<n):(gA rows f n)[j]?=some (cL rows f j):=by simp[gA,h]
theorem EY(f n:Nat):gA [] f n=List.replicate n []:=by
 refine xY λi=>?_;by_cases h:i<n
 .rw[Rq _ h,wF,if_pos h];rfl
 .rw[yY.2 (by rw[Mx];omega),yY.2 (by simp;omega)]
theorem xv{rows:List (List Int)}{r:List Int}{f n v:Nat}(h:r.getD f 0=(v:Int)):gA (rows++[r]) f n=(gA rows f n).set v (cL rows f v++[(rows.length:Int)]):=by
 refine xY λi=>?_;by_cases hi:i<n
 .rw[Rq _ hi,aP7,h];by_cases e:i=v
  .subst e;rw[if_pos rfl,xI (by rw[Mx];exact hi)]
  .rw[if_neg (by omega),wN (Ne.symm e),Rq _ hi]
 .rw[yY.2 (by rw[Mx];omega),yY.2 (by rw[yR,Mx];omega)]
theorem P5{α:Type}{l:List α}{j:Nat}{x:α}(h:l[j]?=some x):l.take (j+1)=l.take j++[x]:=by rw[xC,h];rfl
theorem pG(x:ak):(bM x).Pairwise λa b=>a.kind≠b.kind\/a.field≠b.field:=by
 have F:∀k kd i a,a∈eN x k kd i->a.kind=k/\a.field=i:=by
  intro k kd i a h;unfold eN at h;split at h
  .split at h
   .rw[zN]at h;subst h;exact⟨rfl,rfl⟩
   .cases h
  .cases h
 have K:∀k a,a∈fB x k->a.kind=k:=by
  intro k a h;unfold fB at h;split at h
  .obtain⟨i,_,h⟩:=tE.1 h;exact(F _ _ _ _ h).1
  .cases h
 unfold bM aq;rw[List.pairwise_flatMap];refine⟨λk _=>?_,List.nodup_range.imp λc a e b d=>.inl (by rw[K _ _ e,K _ _ d];exact c)⟩;unfold fB;split
 .unfold aq;rw[List.pairwise_flatMap];refine⟨λi _=>?_,List.nodup_range.imp λc a e b d=>.inr (by rw[(F _ _ _ _ e).2,(F _ _ _ _ d).2];exact c)⟩;unfold eN;split
  .split<;>simp
  .simp
 .simp
theorem Hl{x:ak}{p q:Nat}{a b:Rf}(i:(bM x)[p]?=some a)(g:(bM x)[q]?=some b)(h:p≠q):a.kind≠b.kind\/a.field≠b.field:=by
 obtain⟨c,f⟩:=zE.1 i;obtain⟨l,e⟩:=zE.1 g;have d:=wS.1 (pG x);rcases Nat.lt_or_gt_of_ne h with h|h
 .have:=d p q c l h;rwa [f,e]at this
 .have:=d q p l c h;rw[f,e]at this;exact this.imp Ne.symm Ne.symm
def lM(w:Wd)(r:Rf):List (List Int):=gA (w.getD r.kind []) r.field (w.getD r.up.toNat []).length
def Lx(r:Rf):List D:=[iD r.kind,iD r.field,iD r.up]
abbrev gj(l:List Rf):D:=.sl 3 (l.map Lx)
abbrev OE(r:Rf):Value:=Iu r.kind r.field r.up
def fN(w:Wd)(F:Value->Option Value)(L:List Rf)(σ:af):Prop:=∃(vs:List Value)(s:List af),cT (λr v t=>Kt (lM w r) v t/\F (OE r)=some v) L vs s/\σ.Perm s.flatten
theorem fN.nil(w:Wd)(F:Value->Option Value):fN w F [] []:=⟨[],[],.nil,by simp⟩
theorem fN.perm{w:Wd}{F:Value->Option Value}{L:List Rf}{σ σ':af}(h:fN w F L σ)(p:σ'.Perm σ):fN w F L σ':=by
 obtain⟨vs,t,b,a⟩:=h;exact⟨vs,t,b,p.trans a⟩
theorem cT.imp{α:Type}{R a:eF α}{xs:List α}{vs:List Value}{s:List af}(h:cT R xs vs s)(i:∀x∈xs,∀v t,R x v t->a x v t):cT a xs vs s:=by
 induction h with
 |nil=>exact .nil
 |cons h k b=>exact .cons (i _ (yN ..) _ _ h) (b λx hx=>i x (yQ _ hx))
theorem fN.push{w:Wd}{F:Value->Option Value}{L:List Rf}{σ τ:af}{r:Rf}{v:Value}(h:fN w F L σ)(f:Kt (lM w r) v τ)(c:∀a∈L,a.kind≠r.kind\/a.field≠r.field):fN w (dh F (OE r) v) (L++[r]) (σ++τ):=by
 obtain⟨vs,s,i,g⟩:=h;refine⟨vs++[v],s++[τ],cT.append (i.imp λa b u t d=>⟨d.1,?_⟩) (.cons ⟨f,?_⟩ .nil),?_⟩
 .unfold dh;rw[if_neg]
  .exact d.2
  .intro e;obtain⟨k,j,_⟩:=It e;rcases c a b with h|h<;>omega
 .unfold dh;rw[if_pos rfl]
 .rw[vW]
  simpa using g.append_right τ
theorem fN.at{w:Wd}{F:Value->Option Value}{L:List Rf}{σ:af}(h:fN w F L σ){q:Nat}{r:Rf}(a:L[q]?=some r):∃v t τ,F (OE r)=some v/\Kt (lM w r) v t/\σ.Perm (t++τ):=by
 obtain⟨vs,s,c,b⟩:=h;obtain⟨u,t,τ,e,g,d,_⟩:=c.at a;exact⟨u,t,τ,g.2,g.1,b.trans d⟩
end
section
open Go Go.RowKit Go.Shelf Go.Maps Go.MapKept
open Go.ChangeMaps (setBlock modify_eq_set heap_setBlock_same heap_setBlock_other)
noncomputable def ui (G:Value->Option D) (key:Value) (d:D):Value->Option D:=open Classical in λx=>if x=key then some d else G x
section
variable {P:Program} {r:Option Nat} {n:Nat} {df:Nat} {N:Nat} {σ τ:af} {ρ:Operand->D} {f:aM} {L:List Oper} {k t e:TypeId} {G:Value->Option D} {b:Nat} {kv z:Value} {kl:Lit} {zd:D}
theorem Ce{w:World}{X:Nat->Prop}(h:aW w X σ)(a:(b,aB.mp P k G)∈σ):∃e c n F,w.heap[b]?=some (.map e c)/\fM P k e c n F/\∀y,(F y=none/\G y=none)\/∃v d,F y=some v/\G y=some d/\Rd w (ay σ X) d v:=by
 obtain⟨_,o,i,e,c,n,F,rfl,g,f⟩:=h.at_ b _ a;exact⟨e,c,n,F,i,g,f⟩
theorem cm.makeMapM{o:Oper}{K:aM->af->Prop}(d:o.op= .makeMap t none)(kk:∀b,W (aT N o.dst (.v (.map (some b))) f (λf'=>K f' ((b,.mp P k λ_=>none)::σ)))):cm P r n df L N o f σ K:=by
 refine⟨λc Q a hsp e hk=>?_⟩;refine o3 e (by rw[d];rfl) λw X g hst=>?_;have e0:(execOp g.eval o).run P w= .ok (.value (.map (some w.heap.size))) (w.alloc (.map #[] 0)):=by
  simp only[execOp,d]
  rfl
 rw[e0];have z:∀w O,(aB.mp P k λ_=>none).ok w O (.map #[] 0):=λw O=>⟨#[],0,0,λ_=>none,rfl,⟨by simp,stamped_empty 0,by simp,by simp,by simp⟩,λ_=>.inl ⟨rfl,rfl⟩⟩
 obtain⟨g1,g2,i⟩:=hst.st.new (.map #[] 0) (.mp P k λ_=>none) (z _ _);exact Em
theorem cm.mapUpdateM{o:Oper}{m y x:Operand}{d:D}{K:aM->af->Prop}(C:o.op= .mapUpdate t m y x)(hm:aK f m= .v (.map (some b)))(hd:gF (aK f y) kv)(hx:aK f x=d)(E:σ.Perm ((b,aB.mp P k G)::τ))
  (KK:Keyed P k) (ht:P.underlying t=some (.map k e)) (j:keyOf P k kv=some kl) (Y:W (aT N o.dst (.v undef) f (λI=>K I ((b,.mp P k (ui G kv d))::τ)))):cm P r n df L N o f σ K:=by
 refine⟨λA Q a p Z l=>?_⟩;refine o3 Z (by rw[C];rfl) λw X s u=>?_;have h:=u.perm E;obtain⟨es,c,V,F,S,R,O⟩:=Ce h.st (yN);have g:∀x,Rd w (ay ((b,aB.mp P k G)::τ) X) (aK f x) (s.eval x):=λx=>p.le x _ _ _ (h.fr.eval x);obtain⟨M,h1,⟨q,J,h2,h3⟩,h4⟩:=bV.update (v:=s.eval x) (n:=V) ⟨es,c,S,R⟩ KK ht j;have U:=(g m).val hm;have T:=hd _ _ _ (g y);have B:=g x;rw[hx]at B;have e0:(execOp s.eval o).run P w= .ok .skip M:=by
  simp only[execOp,C,U,T]
  show(do let _ ←Instr.mapUpdate t (.map (some b)) kv (s.eval x);pure Next.skip).run P w=_;simp only[Sem.run_bind,h1,Result.andThen,Sem.run_pure]
 have h6:(aB.mp P k (ui G kv d)).ok w (ay ((b,aB.mp P k G)::τ) X) (.map q J):=by
  refine⟨q,J,_,_,rfl,h3,λy=>?_⟩;unfold dh ui;by_cases l:y=kv
  .subst l;exact .inr ⟨_,_,if_pos rfl,if_pos rfl,B⟩
  .rw[if_neg l,if_neg l];exact O y
 obtain⟨g1,H,g3,g4⟩:=h.st.upd (i:=0) (k':=.mp P k (ui G kv d)) rfl h4 h2 h6;obtain⟨I,z,h8⟩:=fK Y.h p;rw[e0];exact⟨_,kW E H,(h.mv H g1).put (.v undef) o.dst,l _ _ _ h8 z⟩
theorem o8{o:Oper}{m y:Operand}(d:D)(l:o.op= .lookup t m y false)(H:ρ m= .v (.map (some b)))(I:gF (ρ y) kv)(J:(b,aB.mp P k G)∈σ)
  (K:Keyed P k) (E:P.underlying t=some (.map k e)) (B:∀w,(zeroValue e).run P w= .ok z w) (i:∀w O,Rd w O zd z) (a:keyOf P k kv=some kl) (C:(G kv).getD zd=d):Yd P o ρ σ d:=by
 subst C;intro w X η h j;obtain⟨dst,S,R,pos,Q,g⟩:=o;simp only at l;subst l;have M:=(h m (by simp[Op.operands])).val H;have L:=I _ _ _ (h y (by simp[Op.operands]));obtain⟨N,c,A,F,x,u,q⟩:=Ce j J;refine dE (s:=Instr.lookup t (η m) (η y) false) (by rw[M,L];exact bV.look (n:=A) ⟨N,c,x,u⟩ K E (B w) a) (Ex.refl w) ?_;rcases q kv with⟨f,r⟩|⟨v,d,f,r,p⟩
 .rw[f,r];exact i _ _
 .rw[f,r];exact p
end
end
section
open Go Go.Maps Go.MapKept
theorem az.look{P:Program}{f:FuncId}{T C:List D}{σ τ ρ:af}{R:D->af->Prop}(W:fc σ T τ C)(F:σ.Perm (τ++ρ))(O:az P f C τ R)(K:∀d s,R d s->sZ d=true/\oQ s) :
  az P f T σ (λd σ'=>∃s,σ'=s++ρ/\R d s):=by
 refine⟨O.ent,λw X vs H E=>?_⟩;obtain⟨x,v⟩:=W.run w X vs E H;have l:=E.perm F;refine(O.run w X vs v x).mono ?_;rintro e U ⟨u,d,s,Z,S,Y,M,i⟩;obtain⟨f1,f2⟩:=K d s S;have A:=l.nodup;rw[fa,wR]at A;obtain⟨n1,V,N⟩:=A;have z:=i.keep.size;have m:∀b,b<w.heap.size->¬ay (τ++ρ) X b->U.heap[b]?=w.heap[b]?:=λb a n=>i.keep.block b a (λJ=>n (.inr (by rw[fa];exact xK _ J)));have Q:∀b,b<w.heap.size->¬ay (τ++ρ) X b->¬ay (s++ρ) X b:=λb a n g=>by
  rcases g with g|g
  .exact n (.inl g)
  .rw[fa,zO]at g;rcases g with g|g
   .rcases i.new b g with h|h
    .exact n (.inr (by rw[fa];exact xK _ h))
    .omega
   .exact n (.inr (by rw[fa];exact yW _ g))
 have r:∀b,b∈aS ρ->b<w.heap.size:=λb a=>l.lt (by rw[fa];exact yW _ a);refine⟨u,d,s++ρ,Z,⟨s,rfl,S⟩,lc Y f1,⟨?_,λb k L=>?_,λb a=>yI (E.xlt b a) z,?_⟩,⟨⟨i.keep.os,i.keep.tape,i.keep.output,z,λb a n=>i.keep.block b a (λJ=>n (xt F b (by rw[fa];exact xK _ J)))⟩,λb a=>?_⟩⟩
 .rw[fa,wR];refine⟨M.nodup,V,λb B c q e=>?_⟩;subst e;rcases i.new b B with h|h
  .exact N b h b q rfl
  .have:=r b q;omega
 .rcases zO.1 L with h|h
  .obtain⟨B,o,q,h3⟩:=M.at_ b k h;refine⟨B,o,q,?_⟩;exact Yq
  .obtain⟨B,o,q,h3⟩:=l.at_ b k (yW _ h);have I:=(zX.1 q).1;have y:b ∉ aS τ:=λa=>N b a b (QR h) rfl;exact⟨B,o,(i.keep.block b I y).trans q,sE z Q m h3⟩
 .refine l.gok.keep z Q m (λb a=>?_);rcases a with a|a
  .exact yI (E.xlt b a) z
  .rw[fa,zO]at a;rcases a with a|a
   .exact M.lt a
   .exact yI (r b a) z
 .rw[fa,zO]at a;rcases a with a|a
  .rcases i.new b a with h|h
   .exact .inl (xt F b (by rw[fa];exact xK _ h))
   .exact .inr h
  .exact .inl (xt F b (by rw[fa];exact yW _ a))
def jP(l:List bX):Value->Option D
 |.string n=>(l.find? λx=>seq x.name n).map λx=>dl x
 |_=>none
theorem Iq:jP []=λ_=>none:=by
 funext v
 cases v<;>rfl
theorem CI(f:bX)(l:List bX):ui (jP l) (.string f.name) (dl f)=jP (f::l):=by
 funext v
 unfold ui;by_cases h:v= .string f.name
 .rw[if_pos h,h];simp[jP,PN]
 .rw[if_neg h]
  cases v<;>try rfl
  rename_i n;have:seq f.name n=false:=by
   cases e:seq f.name n with
   |false=>rfl
   |true=>exact absurd (by rw[(EM _ _).1 e]) h
  simp[jP,List.find?,this]
end
section
open Go
theorem Ac(y:au)(nm:ByteArray):APure prog 81 [fF y,.ro [sD nm]] (bD (seq y.name nm)):=by
 refine ap func81 ntmps81 λa=>?_
 repeat refine ao ?_
 refine Rt.pure (zM bD ?_);rfl
theorem bd3(y:am)(nm:ByteArray):APure prog 120 [bP y,.ro [sD nm]] (bD (seq y.name nm)):=by
 refine ap func120 ntmps120 λa=>?_
 repeat refine ao ?_
 refine Rt.pure (zM bD ?_);rfl
theorem Th{A B:Prop}(k:B)(h:ar B->A:=by intro q7;(first|refine bC ?_|refine aA ?_|(refine' ah ?hc ?_;(case hc=>exact C6 x.kz (λy=>seq y.name nm) hl (λy _=>Ac y nm))));exact q7.1):A:=h ⟨k⟩
theorem MH(x:ak)(nm:ByteArray)(hl:x.kz.length<=1000000):APure prog 42 [ax x,sD nm] (iD (bf x nm)):=by
 refine ap func42 ntmps42 λa=>?_
 repeat refine Th ?_
 refine Rt.pure (zM iD ?_);rfl
theorem Tg{A B:Prop}(k:B)(h:ar B->A:=by intro q7;(first|refine bC ?_|refine aA ?_|(refine' ah ?hc ?_;(case hc=>exact C7 k.fields (λy=>seq y.name nm) hl (λy _=>bd3 y nm))));exact q7.1):A:=h ⟨k⟩
theorem EW(k:au)(nm:ByteArray)(hl:k.fields.length<=1000000):APure prog 74 [fF k,sD nm] (iD (a7 k nm)):=by
 refine ap func74 ntmps74 λa=>?_
 repeat refine Tg ?_
 refine Rt.pure (zM iD ?_);rfl
theorem PH(x:ak)(i j:Int):APure prog 115 [ax x,iD i,iD j] (.tup [bP (hK x i j).1,bD (hK x i j).2]):=by
 refine ap func115 ntmps115 λa=>?_
 repeat' first|refine ao ?_|intro b;conv=>whnf|refine ba.mk λy hy=>?_|(refine aV ?_;constructor<;>intro hc)
 all_goals first
  |(have r:hK x i j=(x2,false):=(by unfold hK;rw[al8 (by omega)]);rw[r];exact Rt.vs (Vs.tup (fc.cons ((Vs.le Z0).trans (Vs.drop (yV _))) (fc.cons (Vs.refl _ _) (fc.nil _)))))
  |(have r:hK x i j=(x2,false):=(by unfold hK;rw[Ka (by omega) (by omega) hy,List.getElem?_eq_none (by omega)]);rw[r];exact Rt.vs (Vs.tup (fc.cons ((Vs.le Z0).trans (Vs.drop (yV _))) (fc.cons (Vs.refl _ _) (fc.nil _)))))
  |(have r:=bc3 (x:=x) (i:=i) (j:=j) (by omega) ‹x.kz[i.toNat]?=some _› (by omega) hy;rw[r];exact Rt.vs (Vs.refl _ _))
theorem lF{x:ak}{i j:Int}{f:am}(h:fieldAt x i j=some f):hK x i j=(f,true):=by unfold hK;rw[h]
theorem qW{x:ak}{i j:Int}(h:fieldAt x i j=none):hK x i j=(x2,false):=by unfold hK;rw[h]
theorem S'{A B:Prop}(k:B)(h:ar B->A:=by intro q7;(first|refine bC ?_|refine aA ?_|(refine' ah ?hc ?_;(case hc=>first|exact HA|exact MH _ _ (by assumption)|exact EW _ _ (by assumption))));exact q7.1):A:=h ⟨k⟩
theorem Ni(x:ak)(i j:Int)(f:am)(hl:x.kz.length<=1000000)(a:fieldAt x i j=some f)(k:f.kind=1):APure prog 67 [ax x,iD i,iD j] (iD (refUp x i f)):=by
 have HA:=PH x i j;rw[lF a]at HA;refine ap func67 ntmps67 λe=>?_
 repeat' first|refine S' ?_|intro b;conv=>whnf|(refine aV ?_;constructor<;>intro hc)
 all_goals(refine Rt.pure (zM iD ?_);unfold refUp;first|rw[if_pos (by assumption)]|rw[if_neg (by assumption)])
theorem AZ{A B:Prop}(k:B)(h:ar B->A:=by intro q7;(first|refine bC ?_|refine aA ?_|(refine' ah ?hc ?_;(case hc=>first|exact HA|exact HB|exact HU|exact MH _ _ (by assumption)|exact EW _ _ (by assumption))));exact q7.1):A:=h ⟨k⟩
theorem YD{p:Prop}(h:p:=by
 refine ap func67 ntmps67 λBB=>?_
 repeat' first|refine AZ ?_|intro b;conv=>whnf|(refine aV ?_;constructor<;>intro hc)
 all_goals(refine Rt.pure (zM iD ?_);rw[hU];(repeat' split)<;>first|rfl|omega|(unfold refUp;(repeat' split)<;>first|rfl|omega)|(unfold xh;simp only;unfold refUp;(repeat' split)<;>first|rfl|omega))):p:=h
theorem Q8(x:ak)(i j:Int)(hl:x.kz.length<=1000000)(s:∀k∈x.kz,k.fields.length<=1000000):APure prog 67 [ax x,iD i,iD j] (iD (aI x i j)):=by
 have HA:=PH x i j
 cases a:fieldAt x i j with
 |none=>
  rw[qW a]at HA;refine ap func67 ntmps67 λBB=>?_
  repeat' first|refine AZ ?_|intro b;conv=>whnf|(refine aV ?_;constructor<;>intro hc)
  refine Rt.pure (zM iD ?_);simp[aI,a]
 |some f=>
  rw[lF a]at HA;obtain⟨h0,h1,k,n,q⟩:=Fv a;have r:=s k (zG n);have l:dw x i=some k:=by simp[dw,h0,n]
  have o:=(zE.1 n).1;have hU:=ZX a l;have HB:=PH x i (a7 k f.up)
  cases e:fieldAt x i (a7 k f.up)with
  |none=>
   rw[qW e]at HB;simp only[e,ED,xh]at hU;refine ap func67 ntmps67 λBB=>?_
   repeat' first|refine AZ ?_|intro b;conv=>whnf|(refine aV ?_;constructor<;>intro hc)
   all_goals(refine Rt.pure (zM iD ?_);rw[hU];unfold refUp;(repeat' split)<;>first|rfl|omega)
  |some g=>
   rw[lF e]at HB;simp only[e,ED]at hU;by_cases hg1:g.kind=1
   .have HU:=Ni x i (a7 k f.up) g hl e hg1;exact YD
   .exact YD
end
section
open Go
theorem AY{A B:Prop}(k:B)(h:ar B->A:=by intro q7;(first|refine bC ?_|refine aA ?_|(refine' ah ?hc ?_;(case hc=>first|exact MH _ _ (by assumption)|exact Q8 _ _ _ (by assumption) (by assumption))));exact q7.1):A:=h ⟨k⟩
theorem aG7(x:ak)(i:Int)(f:am)(hi:0<=i)(hl:x.kz.length<=1000000)(G:∀k∈x.kz,k.fields.length<=1000000):APure prog 171 [ax x,iD i,bP f] (.tup [iD (gg x i f).1,bj (gg x i f).2]):=by
 refine ap func171 ntmps171 λJ=>?_;have E:=ZF x f.of;have hno:f.kind≠6\/bf x f.of<=i->gg x i f=(-1,[]):=λh=>by unfold gg;rw[aI8 h];rfl
 repeat' first|refine AY ?_|intro b;conv=>whnf|refine ba.mk λy hy=>?_|(refine aV ?_;constructor<;>intro hc)
 .exact tv
 .obtain⟨e,rfl⟩:∃e,e=y:=⟨_,rfl⟩
  have j:=hy;clear hy;have I:f.kind=6:=by omega
  have n:=aI9 (x:=x) (i:=i) I (by omega);obtain⟨o,t⟩:=Int.eq_ofNat_of_zero_le (show 0<=bf x f.of by omega);rw[t]at j;have j:x.kz[o]?=some e:=j;have S:gg x i f=((o:Int),tF x o i f e.fields e.fields.length):=by
   unfold gg;rw[n,aN3 x i f o e t j,t];rfl
  have F:=G e (zG j);rw[t];refine ma mixed ai (γ:=Nat×Value×af) (λg=>[(9,.v g.2.1),(31,iD g.1)]) (λg=>g.2.2) (λg=>g.1<=e.fields.length/\ae 3 1 (Fi (tF x o i f e.fields g.1)) g.2.1 g.2.2) (λg=>e.fields.length-g.1) (0,.slice none 0 0,[]) rfl dY ⟨zW _,ae.nil _ _⟩ ?_;rintro⟨q,v,s⟩ ⟨D,w⟩;simp only at D w⊢
  repeat' first|refine AY ?_|intro b;conv=>whnf|refine ba.mk λy hy=>?_|(refine aV ?_;constructor<;>intro hc)
  .have l:EI x o i f y q=true:=by simp[EI,seq, *]
   have r:=as1 x o i f e.fields q y hy;rw[l,if_pos rfl]at r;have z:=aI7 x o i f e.fields (q+1);refine Ap.go rfl rfl rfl rfl w (Kf _ _) rfl (zs:=Fi (tF x o i f e.fields (q+1))) (by rw[r];simp only[Fi,yB];rfl) (by simp[Fi];omega) (by simp[Fi];omega) (λu=>_::u) (Qa _) (λa c u C=>?_)
   repeat' first|refine AY ?_|intro b;conv=>whnf|refine ba.mk λy hy=>?_
   exact⟨(q+1,_,u),rfl,List.Sublist.cons _ (xQ _),⟨by simp only;omega,C⟩,by simp only;omega⟩
  iterate 3
   have l:EI x o i f y q=false:=by simp[EI,seq, *]
   have r:=as1 x o i f e.fields q y hy;rw[l,if_neg (by simp),zZ]at r;exact⟨(q+1,v,s),rfl,List.Sublist.cons _ (xQ _),⟨by simp only;omega,by simp only;rw[r];exact w⟩,by simp only;omega⟩
  .obtain rfl:q=e.fields.length:=by omega
   rw[S];exact Rt.vs (Vs.tup (fc.cons (Vs.refl _ _) (fc.cons (Vs.row w (bS _)) (fc.nil _))))
 .exact tv
theorem HS1{x:ak}{i j:Int}{f:am}{o:Int}{l:List Int}(h:fieldAt x i j=some f)(s:gg x i f=(o,l)):jw x i j=nc o l:=by
 simp only[jw,h,s]
theorem AX{A B:Prop}(k:B)(h:ar B->A:=by intro q7;(first|refine bC ?_|refine aA ?_|(refine' ah ?hc ?_;(case hc=>first|exact HA|exact HS)));exact q7.1):A:=h ⟨k⟩
theorem ur(x:ak)(i j:Int)(hl:x.kz.length<=1000000)(n:∀k∈x.kz,k.fields.length<=1000000):APure prog 126 [ax x,iD i,iD j] (.tup [iD (jw x i j).1,iD (jw x i j).2]):=by
 have HA:=PH x i j
 cases a:fieldAt x i j with
 |none=>
  rw[qW a]at HA;refine ap func126 ntmps126 λg=>?_
  repeat' first|refine AX ?_|intro b;conv=>whnf|(refine aV ?_;constructor<;>intro hc)
  exact Rt.pure (by simp only[jw,a])
 |some f=>
  rw[lF a]at HA;have HS:=aG7 x i f (Fv a).1 hl n;rcases hs:gg x i f with⟨o,l⟩
  have r:=HS1 a hs;rw[hs]at HS;simp only at HS;by_cases hl1:l.length=1
  .obtain⟨m,rfl⟩:=List.length_eq_one_iff.1 hl1;refine ap func126 ntmps126 λg=>?_
   repeat' first|refine AX ?_|intro b;conv=>whnf|(refine aV ?_;constructor<;>intro hc)
   exact Rt.pure (by rw[r];rfl)
  .have e:jw x i j=(-1,-1):=by rw[r,na hl1]
   refine ap func126 ntmps126 λg=>?_
   repeat' first|refine AX ?_|intro b;conv=>whnf|(refine aV ?_;constructor<;>intro hc)
   exact Rt.pure (by rw[e])
end
section
open Go
theorem aW1(f:List (Bool×Int))(hl:f.length<=1000):APure prog 112 [.sl 2 (f.map λp=>[bD p.1,iD p.2])] (iD (js f)):=by
 refine ap func112 ntmps112 λj=>?_
 repeat' first|refine ao ?_|intro b;conv=>whnf|refine ba.mk λy hy=>?_
 refine ma mixed ai (γ:=Nat) (λq=>[(7,iD q)]) (λ_=>[]) (λq=>q<=f.length/\∀(m:Nat)y,m<q->f[m]?=some y->y.1=false) (λq=>f.length-q) 0 rfl dY ⟨by omega,λm y g=>by omega⟩ ?_;rintro q ⟨i,o⟩
 repeat' first|refine ao ?_|intro b;conv=>whnf|refine ba.mk λy hy=>?_|(refine aV ?_;constructor<;>intro hc)
 .refine Rt.pure (zM iD ?_);exact(wm o hy (by assumption)).symm
 .exact⟨q+1,rfl,dY,⟨by omega,λm z g a=>by
   by_cases e:m=q
   .subst e;rw[show((m:Int)).toNat=m from rfl,a]at hy;cases hy;assumption
   .exact o m z (by omega) a⟩,by omega⟩
 .refine Rt.pure (zM iD ?_);exact(nQ (λm y hy=>o m y (by have:=(zE.1 hy).1;omega) hy)).symm
theorem Fx(b:Bool)(c:Int):APure prog 112 [.sl 2 [[bD b,iD c]]] (iD (js [(b,c)])):=aW1 [(b,c)] (by simp)
theorem Fz(b:Bool)(c:Int)(a:Bool)(c':Int):APure prog 112 [.sl 2 [[bD b,iD c],[bD a,iD c']]] (iD (js [(b,c),(a,c')])):=aW1 [(b,c),(a,c')] (by simp)
theorem aq6(f b2 e d:Bool)(c1 b a c:Int):APure prog 112 [.sl 2 [[bD f,iD c1],[bD b2,iD b],[bD e,iD a],[bD d,iD c]]] (iD (js [(f,c1),(b2,b),(e,a),(d,c)])):=aW1 [(f,c1),(b2,b),(e,a),(d,c)] (by simp)
def KU(x:ak)(i j:Int)(f:am):List D:=[iD x.vz,NC x.kz,Fj x.lz,NA x.rules,iD i,iD j,sD f.name,sD f.of,sD f.up,iD f.kind,iD f.lo,iD f.hi,gI f.words,bj f.wz]
abbrev Kh(x:ak)(i j:Int)(f:am):D:=.agg (KU x i j f)
theorem S9{A B:Prop}(k:B)(h:ar B->A:=by intro q7;(first|refine bC ?_|refine aA ?_|(refine' ah ?hc ?_;(case hc=>exact Q8 x _ _ hl hf)));exact q7.1):A:=h ⟨k⟩
theorem aW0(x:ak)(i j:Int)(f:am)(hl:x.kz.length<=1000000)(hf:∀k∈x.kz,k.fields.length<=1000000):APure prog 307 [Kh x i j f] (bD (decide (aI x i j<0))):=by
 refine ap func307 ntmps307 λa=>?_
 repeat refine S9 ?_
 refine Rt.pure (zM bD ?_);rfl
theorem K1{A B:Prop}(k:B)(h:ar B->A:=by intro q7;(first|refine bC ?_|refine aA ?_|(refine' ah ?hc ?_;(case hc=>first|exact Q8 x _ _ hl hf|exact HA|exact EW _ _ (by assumption))));exact q7.1):A:=h ⟨k⟩
theorem z8(x:ak)(i j:Int)(f:am)(hl:x.kz.length<=1000000)(hf:∀k∈x.kz,k.fields.length<=1000000):APure prog 317 [Kh x i j f] (.tup [bP (ff x i j f).1,bD (ff x i j f).2]):=by
 have l:=rI x i j;refine ap func317 ntmps317 λn=>?_;by_cases hu:aI x i j<0
 .have ht:ff x i j f=(x2,false):=by unfold ff;rw[rJ hu]
  repeat' first|refine K1 ?_|intro b;conv=>whnf|(refine aV ?_;constructor<;>intro hc)
  rw[ht];exact Rt.vs (Vs.tup (fc.cons (Vs.le Z0) (fc.cons (Vs.refl _ _) (fc.nil _))))
 .obtain⟨o,a⟩:∃o,x.kz[(aI x i j).toNat]?=some o:=⟨_,zD (by omega)⟩
  have g:=hf o (zG a);have e:=rK (f:=f) hu a;have HA:=PH x (aI x i j) (a7 o f.of);have ht:ff x i j f=hK x (aI x i j) (a7 o f.of):=by unfold ff hK;rw[e]
  repeat' first|refine K1 ?_|intro b;conv=>whnf|(refine aV ?_;constructor<;>intro hc)
  rw[ht];exact Rt.vs (Vs.refl _ _)
end
end Go.Proofs.YtilnpcolgcmofaaGreatDoor
