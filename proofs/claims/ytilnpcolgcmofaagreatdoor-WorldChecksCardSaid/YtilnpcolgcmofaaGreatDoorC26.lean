/- A part of the proof. -/
import Derived.Test.YtilnpcolgcmofaaGreatDoorC25
set_option maxRecDepth 100000
set_option maxHeartbeats 20000000
set_option linter.all false
namespace Go.Proofs.YtilnpcolgcmofaaGreatDoor
open Tryz
section
open Go
variable{x:ak}{i:Nat}
def LO{j t:Nat}{k:aq}{f:an}(hk:x.kz[i]?=some k)(hf:k.fields[j]?=some f)(h1:f.kind=1)(hu:aG x i j=t):t<i:=Nf
def Rq(x:ak)(p:fc)(k j:Nat)(v:Int):Prop:=∃t ct:Nat,aG x k j=t/\p.counts[t]?=some (ct:Int)/\0<=v/\v<ct
def qv{p:fc}(h:jF x p){j t:Nat}{k:aq}{f:an}(c:x.kz[i]?=some k)(m:k.fields[j]?=some f)(o:f.kind=1)(u:aG x i j=t)(v:0<=f.lo/\f.lo<=f.hi/\f.hi<=8){a:Nat}(s:p.counts[i]?=some (a:Int)) :
  ∃b:Nat,p.counts[t]?=some (b:Int)/\a<=8/\b<=8/\(0<a->1<=b)/\mQ (II p i j a b f)/\pM (II p i j a b f).spt:=by
 have l:=h.gx;have A:=l.nk;have C:=(zE.1 c).1;have E:=LO c m o u;obtain⟨y,w⟩:∃y,x.kz[t]?=some y:=⟨_,zD (by omega)⟩
 obtain⟨b,r,d⟩:=h.ok.cnt l w;obtain⟨q,g,e⟩:=h.ok.cnt l c;obtain rfl:a=q:=by rw[s]at g;have:=wK g;omega
 have z:=((l.ks.pos i k c).at (by omega) m).1 o;refine⟨b,r,e,d,λD=>h.ok.ref c m o u s r D,O5 h (by omega) (by omega) e d v,λq n B=>?_⟩
 show zo p.seed [2,(i:Int),(j:Int),0,(q:Int),(n:Int)];exact I9 h.sd (by omega) B
def bt2{a:Int}(d:0<=a/\a<=100){k:Nat}(b:k<=100)(c:i<=100):∀v∈[a,(k:Int),(i:Int)],cp v:=λv h=>by
 simp only[zU,yF,xE]at h;rcases h with rfl|rfl|rfl<;>(constructor<;>omega)
def BF{A B:Prop}(k:B)(h:ar B->A:=by intro q7;(first|refine bc ?_|refine aE ?_|(refine' aj ?hc ?_;(case hc=>first|exact HA|exact HR|exact HT|exact HN|exact HP|exact HW|exact HSH|exact HF|exact HG|exact HB|exact HU|exact HFO|exact HAB|exact HPT)));exact q7.1):A:=h ⟨k⟩
variable{p:Prop}
def Ka(h:p:=by
 refine⟨v,by omega,λe6=>by omega,λe1=>by omega,?_⟩;refine ap func107 ntmps107 λBB=>?_
 repeat' first|refine BF ?_|intro b;conv=>whnf
 refine Rt.pure (zM iD ?_);rfl):p:=h
def uF(h:p:=by
 refine ap func107 ntmps107 λBB=>?_
 repeat' first|refine BF ?_|intro b;conv=>whnf
 refine Rt.pure (zM iD ?_);rfl):p:=h
def tG(x:ak)(p:fc)(h:jF x p):∀(m k:Nat),k<m->∀(idx j:Nat)(kd:aq)(d:an)(c:Nat),x.kz[k]?=some kd->kd.fields[j]?=some d->p.counts[k]?=some (c:Int)->idx<c->∃v,(-4294967396<=v/\v<=4294967396)/\(d.kind=6->0<=v/\v<=800)/\(d.kind=1->Rq x p k j v)/\APure prog 107 [aw x,eX p,iD k,iD idx,iD j] (iD v)
 |0,k,hkm=>by omega
 |m+1,k,hkm=>by
  intro idx j kd d c q K hc hi;have C:=h.gx;have hnk:=C.nk;have hkl:=(zE.1 q).1;have hfl:=(zE.1 K).1;have hk':x.kz[((k:Nat):Int).toNat]?=some kd:=q;have hf':kd.fields[((j:Nat):Int).toNat]?=some d:=K;have hnf:=C.sm.nf kd (zG q);have hnl:x.kz.length<=1000000:=by omega
  have L:∀k∈x.kz,k.fields.length<=1000000:=λk q=>by have:=C.sm.nf k q;omega
  obtain⟨c',hc2,hc8⟩:=h.ok.cnt C q;obtain rfl:c=c':=by rw[hc]at hc2;have:=wK hc2;omega
  have hc':p.counts[((k:Nat):Int).toNat]?=some (c:Int):=hc;have hcl:=(zE.1 hc).1;have F:=(C.ks.pos k kd q).at (by omega) K
  cases C.gf q K with
  |key e hb=>
   obtain⟨v,Z,HA⟩:=Mn p.seed h.sd.s [1,(k:Int),(j:Int)] (by simp) (bt2 (by omega) (by omega) (by omega)) c (by omega) idx hi;refine⟨d.lo+v,by omega,λe6=>by omega,λe1=>by omega,?_⟩;exact uF
  |ref e t ht E b=>
   obtain⟨ct,f,_,ht8,h1,S,D⟩:=qv h q K e E b hc;have HR:=lP x C.sm p k j t kd d q K E c ct hc f;obtain⟨I,u,e2,R,hu2,HT⟩:=aV1 _ S D (h1 (by omega)) idx hi;have M:I<ct:=R;refine⟨I,by omega,λe6=>by omega,λ_=>⟨t,ct,E,f,by omega,by omega⟩,?_⟩;exact uF
  |num e hb=>
   obtain⟨v,Z,HN⟩:=aV0 x p h k idx j kd d q K (.inl e) c hc hi;exact Ka
  |day e hb ho=>
   obtain⟨v,Z,HN⟩:=aV0 x p h k idx j kd d q K (.inr e) c hc hi;exact Ka
  |pick e hb hw hs=>
   have G:gI k j:=by have:=F.2.2 (by omega);unfold gI;omega
   have Q:=qZ (a:=4) (by omega) (k:=k) (i:=j) (idx:=idx) (by omega) (by omega) (by omega);have hwp:=hw.pos;have hwn:=hw.n;obtain⟨v,Z,HP⟩:=IN p.seed h.sd.s [4,(k:Int),(j:Int),(idx:Int)] (by simp) Q.v d.wz hw ((C1 h.sd G (by omega)).drw (by omega) (by omega));exact Ka
  |step e hb ho=>
   obtain⟨l,hl,hlz,HW⟩:=Cj x p h k idx j kd d q K e hb ho (by omega);obtain⟨z,X⟩:∃z,l[l.length-1]?=some z:=⟨_,zD (by omega)⟩
   have hz:l[((l.length:Int)-1).toNat]?=some z:=by rw[show((l.length:Int)-1).toNat=l.length-1 by omega];exact X
   have hzb:=hlz z (zG X);refine⟨z,by omega,λe6=>by omega,λe1=>by omega,?_⟩;refine ap func107 ntmps107 λBB=>?_
   repeat' first|refine BF ?_|intro b;conv=>whnf|refine bg.mk λy hy=>?_
   rw[zL,hz]at hy
   cases hy
   refine Rt.pure (zM iD ?_);rfl
  |sum e hb jj n V s r w hs hsh P O U J E rb=>
   have hjl:=(zE.1 w).1;have hkj:=LO w U J E;have hnj:=C.sm.nf V (zG w);have hnl2:=(zE.1 hs).1;have hjj':x.kz[((jj:Nat):Int).toNat]?=some V:=w;have hs':V.fields[((n:Nat):Int).toNat]?=some s:=hs;obtain⟨cj,hcj,hcj8⟩:=h.ok.cnt C w;obtain⟨ct,f,_,_,_,S,D⟩:=qv h w U J E rb hcj;have ect:(ct:Int)=c:=by rw[hc]at f;have:=wK f;omega
   obtain rfl:ct=c:=by omega
   have HSH:=aV4 x k j hnl L;rw[hsh]at HSH;have HF:=nd V s.up (by omega);rw[O]at HF;have HR:=lP x C.sm p jj 1 k V r w U E cj ct hcj hc;obtain⟨dg,e2,T,HG⟩:=aV2 _ S D idx (by omega);have hdg8:dg<=r.hi:=T.2;obtain⟨o,rfl⟩:∃a:Nat,dg=a:=⟨dg.toNat,by omega⟩
   have m1:=iu (n:=o) (by omega) P.1 (by omega);have m2:=iu (n:=o) (by omega) (by omega:0<=s.hi) P.2.2;have m3:(o:Int)*s.lo<=(o:Int)*s.hi:=Int.mul_le_mul_of_nonneg_left P.2.1 (by omega);have G:gI k j:=by have:=F.2.2 (by omega);unfold gI;omega
   have Q:=qZ (a:=7) (by omega) (k:=k) (i:=j) (idx:=idx) (by omega) (by omega) (by omega);have HB:=aI2 p.seed h.sd.s [7,(k:Int),(j:Int),(idx:Int)] (by simp) Q.v ((o:Int)*s.lo) ((o:Int)*s.hi) ⟨by omega,by omega,by omega,by omega⟩ ((I7 h.sd G (by omega) (by omega)).drw (by omega) (by omega));have hbe:=Gz (sd:=p.seed) (p:=[7,(k:Int),(j:Int),(idx:Int)]) (n:=(o:Int)*s.hi-(o:Int)*s.lo+1) (by omega);have hbt:0<=gA p.seed [7,(k:Int),(j:Int),(idx:Int)] ((o:Int)*s.lo) ((o:Int)*s.hi)/\gA p.seed [7,(k:Int),(j:Int),(idx:Int)] ((o:Int)*s.lo) ((o:Int)*s.hi)<=800:=by unfold gA;omega
   generalize gA p.seed [7,(k:Int),(j:Int),(idx:Int)] ((o:Int)*s.lo) ((o:Int)*s.hi)=v at *;refine⟨v,by omega,λ_=>hbt,λe1=>by omega,?_⟩;exact uF
  |above e t n y g r ht hy hg2 hof O U J E rb sh fb=>
   have hy':x.kz[((t:Nat):Int).toNat]?=some y:=hy;have hyl:=(zE.1 hy).1;have hyf:=C.sm.nf y (zG hy);obtain⟨ct,f,_,ht8,h1,S,D⟩:=qv h q U J E rb hc;have HF:=nd kd d.up (by omega);rw[O]at HF;have HU:=FA x k 1 hnl L;rw[E]at HU;have HR:=lP x C.sm p k 1 t kd r q U E c ct hc f;obtain⟨I,u,e2,R,hu2,HT⟩:=aV1 _ S D (h1 (by omega)) idx hi;have M:I<ct:=R;have HFO:=nd y d.of (by omega);rw[hof]at HFO;obtain⟨va,hva,Y,-,HAB⟩:=tG x p h m t (by omega) I n y g ct hy hg2 f M;by_cases e8:d.kind=8
   .refine⟨va,hva,λe6=>by omega,λe1=>by omega,?_⟩;exact uF
   .have e7:d.kind=7:=by omega
    have hva7:=Y (sh e7);obtain⟨dg,e3,T,HG⟩:=aV2 _ S D I (by omega);have hdg8:dg<=r.hi:=T.2;obtain⟨o,rfl⟩:∃a:Nat,dg=a:=⟨dg.toNat,by omega⟩
    have hkp:=F.2.1 e7;obtain⟨v,e4,Z,_,HPT⟩:=IL ⟨p.seed,[8,(k:Int),(j:Int),(I:Int)],va,o,d.lo,d.hi⟩ ⟨h.sd.s,by simp,(qZ (a:=8) (by omega) (k:=k) (i:=j) (idx:=I) (by omega) (by omega) (by omega)).v,by simp only;omega,fb.1,fb.2.1,fb.2.2,by simp only;omega⟩ (λa' n' hn=>by
     show zo p.seed [8,(k:Int),(j:Int),(I:Int),(a':Int),(n':Int)];exact I8 h.sd (by omega) (by omega) (by omega) hn) u (by omega)
    have hv2:v<=d.hi:=Z.2;exact Ka
end
section
open Go
def Rr(x:ak)(p:fc)(k:Nat)(kd:aq)(l:List Int):Prop:=∀(j:Nat)d,kd.fields[j]?=some d->d.kind=1->Rq x p k j (l.getD j 0)
variable{A B:Prop}
def tk(k:B)(h:ar B->A:=by intro q7;(first|refine bc ?_|refine aE ?_|(refine' aj ?hc ?_;(case hc=>exact(hg j hjl))));exact q7.1):A:=h ⟨k⟩
def qF(x:ak)(p:fc)(h:jF x p)(k idx:Nat)(kd:aq)(c:Nat)(i:x.kz[k]?=some kd)(hc:p.counts[k]?=some (c:Int))(hi:idx<c):∃l:List Int,l.length=kd.fields.length/\(∀v∈l,-4294967396<=v/\v<=4294967396)/\Rr x p k kd l/\APure prog 62 [aw x,eX p,iD k,iD idx] (bv l):=by
 have u:=h.gx.nk;have y:=(zE.1 i).1;have z:x.kz[((k:Nat):Int).toNat]?=some kd:=i;have w:=h.gx.sm.nf kd (zG i);obtain⟨g,a⟩:=aX4 (n:=kd.fields.length) (q:=λ(j:Nat)(v:Int)=>(-4294967396<=v/\v<=4294967396)/\(∀d,kd.fields[j]?=some d->d.kind=1->Rq x p k j v)/\APure prog 107 [aw x,eX p,iD k,iD idx,iD j] (iD v)) λj hj=>by
  obtain⟨d,f⟩:∃d,kd.fields[j]?=some d:=⟨_,zD hj⟩
  obtain⟨v,h1,_,h3,h2⟩:=tG x p h (k+1) k (by omega) idx j kd d c i f hc hi;exact⟨v,h1,λC b e=>h3 (by rw[f]at b;cases b;exact e),h2⟩
 have hg:=λj hj=>(a j hj).2.2;refine⟨(List.range kd.fields.length).map g,by simp,λv t=>?_,λj d f e=>?_,?_⟩
 .obtain⟨j,hj,rfl⟩:=xM.1 t;exact(a j (xT.1 hj)).1
 .have hj:=(zE.1 f).1;rw[List.getD_eq_getElem?_getD,qA,xV hj];exact(a j hj).2.1 d f e
 refine ap func62 ntmps62 λF=>?_
 repeat refine tk ?_
 refine aO mixed ai (γ:=Nat×Value×ae) (λg=>[(10,iD g.1),(9,.v g.2.1)]) (λg=>g.2.2) (λq=>q.1<=kd.fields.length/\N' ((List.range q.1).map g) q.2.1 q.2.2) (λg=>kd.fields.length-g.1) (0,.slice none 0 0,[]) (ah av) (Sc.refl _) ⟨zW _,ab.nil _ _⟩ ?_;rintro⟨j,v,s⟩ ⟨hj,r⟩;simp only at hj r⊢;by_cases hjl:j<kd.fields.length
 .repeat refine tk ?_
  refine Ap.go rfl rfl rfl rfl r (bR _) rfl (zs:=((List.range (j+1)).map g).map λn=>[iD n]) (by rw[List.range_succ,yB,yB];rfl) (by rw[zL,zL,vU];omega) (by rw[zL,zL,vU];omega) (λo=>o) dF (λE D o r=>?_)
  repeat refine tk ?_
  exact⟨(j+1,_,o),(ah av),Sc.refl _,⟨by simp only;omega,r⟩,by simp only;omega⟩
 .obtain rfl:j=kd.fields.length:=by omega
  repeat refine tk ?_
  exact Rt.vs (Vs.row r (bR _))
def T'(k:B)(h:ar B->A:=by intro q7;(first|refine bc ?_|refine aE ?_|(refine' aj ?hc ?_;(case hc=>exact HC)));exact q7.1):A:=h ⟨k⟩
def wu(x:ak)(HC:APure prog 44 [aw x] (.sl 4 [])):APure prog 34 [aw x] (bD true):=by
 refine ap func34 ntmps34 λa=>?_
 repeat refine T' ?_
 refine Rt.pure (zM bD ?_);rfl
abbrev R2f:dZ (List (List Int)):=λl v s=>ab 22 1 (l.map λr=>[bv r]) v s
abbrev Rx:dZ Wd:=aC 70 R2f
def P5:GY R2f gc:=ui _ _ _
def P4:GY Rx fI:=bc7 P5
def OG{l:List Int}(h:∀c∈l,0<=c/\c<=8):0<=l.sum/\l.sum<=8*(l.length:Int):=Qh
variable{p:fc}
def jF.c8{x:ak}(h:jF x p):∀c∈p.counts,0<=c/\c<=8:=λc d=>by
 obtain⟨i,a⟩:=yO d;have l:=(zE.1 a).1;rw[h.ok.cl]at l;obtain⟨f,b,e⟩:=h.ok.cnt h.gx (zD l);rw[a]at b;have:=wK b;omega
structure WOf(x:ak)(w:Wd):Prop where
 len:w.length=x.kz.length
 row:∀(k:Nat)kd l,x.kz[k]?=some kd->w[k]?=some l->∀r∈l,r.length=kd.fields.length
 ref:∀(k j:Nat)kd d l,x.kz[k]?=some kd->kd.fields[j]?=some d->d.kind=1->w[k]?=some l->∀r∈l,0<=r.getD j 0/\r.getD j 0<((w.getD (aG x k j).toNat []).length:Nat)
def dK(p:fc)(G:Nat->Nat->List Int):Wd:=(List.range p.counts.length).map λk=>(List.range (p.counts.getD k 0).toNat).map (G k)
def aO5{G:Nat->Nat->List Int}{k c:Nat}(h:p.counts[k]?=some (c:Int)):(dK p G)[k]?=some ((List.range c).map (G k)):=by
 unfold dK;rw[qA,xV (zE.1 h).1,Option.map_some,List.getD_eq_getElem?_getD,h]
 rfl
def fW(k:B)(h:ar B->A:=by intro q7;(first|refine bc ?_|refine aE ?_|(refine' aj ?hc ?_;(case hc=>first|exact HV|exact HR)));exact q7.1):A:=h ⟨k⟩
def T9(k:B)(h:ar B->A:=by intro q7;(first|refine bc ?_|refine zw ?_|(refine' aj ?hc ?_;(case hc=>first|exact HV|exact HR)));exact q7.1):A:=h ⟨k⟩
def wr(x:ak)(p:fc)(h:jF x p)(HV:APure prog 61 [aw x,eX p] (iD 0)):∃w,(er w/\WOf x w)/\az prog 35 [aw x,eX p] [] (λd s=>∃v,d= .tup [.v v,iD 0]/\Rx w v s):=by
 have O:=h.gx;have hnk:=O.nk;have Q:=h.ok.cl;have J:=h.c8;obtain⟨G,M⟩:∃G:Nat->Nat->List Int,∀k kd,x.kz[k]?=some kd->∀(i c:Nat),p.counts[k]?=some (c:Int)->i<c->(G k i).length=kd.fields.length/\(∀v∈G k i,-4294967396<=v/\v<=4294967396)/\Rr x p k kd (G k i)/\APure prog 62 [aw x,eX p,iD k,iD i] (bv (G k i)):=by
  have hx:∀q:Nat×Nat,∃l:List Int,∀kd,x.kz[q.1]?=some kd->∀c:Nat,p.counts[q.1]?=some (c:Int)->q.2<c->l.length=kd.fields.length/\(∀v∈l,-4294967396<=v/\v<=4294967396)/\Rr x p q.1 kd l/\APure prog 62 [aw x,eX p,iD q.1,iD q.2] (bv l):=λq=>by
   by_cases hq:∃kd,x.kz[q.1]?=some kd/\∃c:Nat,p.counts[q.1]?=some (c:Int)/\q.2<c
   .obtain⟨kd,h1,c,h2,h3⟩:=hq;obtain⟨l,hl⟩:=qF x p h q.1 q.2 kd c h1 h2 h3;exact⟨l,λkd' e _ _ _=>by rw[h1]at e;cases e;exact hl⟩
   .exact⟨[],λkd h1 c h2 h3=>absurd ⟨kd,h1,c,h2,h3⟩ hq⟩
  obtain⟨G,M⟩:=Classical.axiomOfChoice hx;exact⟨λk i=>G (k,i),λk kd h1 i c h2 h3=>M (k,i) kd h1 c h2 h3⟩
 have a:(dK p G).length=p.counts.length:=by unfold dK;simp
 refine⟨dK p G,?_,?_⟩
 .have K:∀l∈dK p G,∃(k c:Nat)(kd:aq),x.kz[k]?=some kd/\p.counts[k]?=some (c:Int)/\c<=8/\l=(List.range c).map (G k):=λl hl=>by
   obtain⟨k,o⟩:=yO hl;have D:=(zE.1 o).1;rw[a,Q]at D;obtain⟨c,h1,h2⟩:=h.ok.cnt O (zD D);rw[aO5 h1]at o;exact⟨k,c,_,zD D,h1,h2,(wK o).symm⟩
  refine⟨⟨by rw[a];omega,λl hl=>?_,λl hl r I=>?_,λl hl r I v hv=>?_⟩,⟨by rw[a,Q],λk kd l o hl r I=>?_,λk j kd d l o hd e1 hl r I=>?_⟩⟩
  rotate_right 2
  .obtain⟨c,h1,h2⟩:=h.ok.cnt O o;rw[aO5 h1]at hl;obtain rfl:=wK hl;obtain⟨i,hi,rfl⟩:=xM.1 I;exact(M k kd o i c h1 (xT.1 hi)).1
  .obtain⟨c,h1,h2⟩:=h.ok.cnt O o;rw[aO5 h1]at hl;obtain rfl:=wK hl;obtain⟨i,hi,rfl⟩:=xM.1 I;obtain⟨t,ct,h3,h4,h5,h6⟩:=(M k kd o i c h1 (xT.1 hi)).2.2.1 j d hd e1;rw[h3,Int.toNat_natCast,show(dK p G).getD t []=(List.range ct).map (G t) by rw[List.getD_eq_getElem?_getD,aO5 h4];rfl,zL,vU];exact⟨h5,h6⟩
  .obtain⟨k,c,kd,_,_,h3,rfl⟩:=K l hl;simp;omega
  .obtain⟨k,c,kd,h1,h2,h3,rfl⟩:=K l hl;obtain⟨i,hi,rfl⟩:=xM.1 I;have:=(M k kd h1 i c h2 (xT.1 hi)).1;have:=O.sm.nf kd (zG h1);omega
  .obtain⟨k,c,kd,h1,h2,h3,rfl⟩:=K l hl;obtain⟨i,hi,rfl⟩:=xM.1 I;have:=(M k kd h1 i c h2 (xT.1 hi)).2.1 v hv;exact⟨by omega,by omega⟩
 refine dB func35 ntmps35 λBB=>?_
 repeat' first|refine fW ?_|intro b;conv=>whnf
 refine aO mixed ai (γ:=Nat) (λi=>[(7,iD (p.counts.take i).sum),(8,iD i)]) (λ_=>[]) (λi=>i<=p.counts.length) (λi=>p.counts.length-i) 0 (ah av) (Sc.refl _) (zW _) ?_;intro i hi;by_cases hil:i<p.counts.length
 .obtain⟨c,S⟩:∃c,p.counts[i]?=some c:=⟨_,zD hil⟩
  have hc:p.counts[((i:Nat):Int).toNat]?=some c:=S;have hsn:(p.counts.take (i+1)).sum=(p.counts.take i).sum+c:=by rw[xC,S,vO];simp
  have h1:=OG (l:=p.counts.take i) λc hc=>J c (xG hc);have h2:=OG (l:=p.counts.take (i+1)) λc hc=>J c (xG hc);rw[zR]at h1 h2
  repeat' first|refine fW ?_|intro b;conv=>whnf
  exact⟨i+1,(ah av),Sc.refl _,by omega,by omega⟩
 obtain rfl:i=p.counts.length:=by omega
 rw[yM];have hsum:=OG J;clear hi hil
 repeat' first|refine fW ?_|intro b;conv=>whnf
 refine Mk.go p.counts.length rfl rfl rfl rfl rfl (by simp) (by omega) (by omega) (λE=>?_)
 repeat' first|refine fW ?_|intro b;conv=>whnf
 have L:Rx ((dK p G).take 0++List.replicate ((dK p G).length-0) []) (.slice (some ⟨E,0,none⟩) (dK p G).length (dK p G).length) [(E,.cells 70 (List.replicate (dK p G).length (.v (.slice none 0 0))))]:=
  aC.made (R:=R2f) (x0:=[]) (ab.nil _ _) _ E (by unfold maxLen;omega)
 rw[a]at L;refine aO mixed ai (γ:=Nat×ae) (λg=>[(10,iD g.1)]) (λg=>g.2) (λg=>g.1<=p.counts.length/\Rx ((dK p G).take g.1++List.replicate (p.counts.length-g.1) []) (.slice (some ⟨E,0,none⟩) p.counts.length p.counts.length) g.2) (λg=>p.counts.length-g.1) (0,_) (ah av) (Sc.refl _) ⟨zW _,L⟩ ?_;clear L;rintro⟨k,s⟩ ⟨o,z⟩;simp only at o z⊢;by_cases D:k<p.counts.length
 .obtain⟨kd,P⟩:∃y,x.kz[k]?=some y:=⟨_,zD (by omega)⟩
  obtain⟨c,hc,hc8'⟩:=h.ok.cnt O P;have hc':p.counts[((k:Nat):Int).toNat]?=some (c:Int):=hc;have C:k<(dK p G).length:=by omega
  have hl:=aO5 (G:=G) hc;rw[←a,oy C]at z
  repeat' first|refine fW ?_|intro b;conv=>whnf
  refine aO mixed ai (γ:=Nat×ae) (λg=>[(11,iD g.1)]) (λg=>g.2) (λg=>g.1<=c/\Rx (oK (dK p G) k (((List.range c).map (G k)).take g.1)) (.slice (some ⟨E,0,none⟩) (dK p G).length (dK p G).length) g.2) (λg=>c-g.1) (0,s) (ah av) (Sc.refl _) ⟨zW _,z⟩ ?_;clear z;rintro⟨i,s⟩ ⟨hi,z⟩;simp only at hi z⊢;by_cases hil:i<c
  .have HR:=(M k kd P i c hc hil).2.2.2;have U:((List.range c).map (G k)).take (i+1)=((List.range c).map (G k)).take i++[G k i]:=by
    rw[xC,qA,xV hil];rfl
   obtain⟨b0,cap0,f,u,t,τ,e0,p0,c0,hu,T⟩:=aC.at z (MA C (((List.range c).map (G k)).take i));rw[C5 C]at e0
   cases e0
   obtain⟨a1,ca1,rfl⟩:=ab.slice hu
   repeat' first|refine T9 ?_|intro b;conv=>whnf
   refine gS ?_;refine iG mixed ai rfl [0,1,2,3,4,5,6,7,8,9,10,11] 3 (hQ [12,14]) (.one 12 (.fst 13 (.one 14 .done))) (γ:=ae) (λ_=>[]) (λg=>g) (λg=>Rx (oK (dK p G) k (((List.range c).map (G k)).take (i+1))) (.slice (some ⟨E,0,none⟩) (dK p G).length (dK p G).length) g) (by decide +kernel) ?_ ?_
   .repeat' first|refine fW ?_|intro b;conv=>whnf|(refine And.intro ?_ ?_<;>(conv=>whnf))|(refine Ld.cellm (tb:=70) (cs:=f) (p0.mem_iff.2 yN) (by rw[aR];exact c0) ?_)|(refine Ap.go rfl rfl rfl rfl hu (τ:=(E,.cells 70 f)::τ) (p0.trans List.perm_middle.symm) rfl (zs:=(((List.range c).map (G k)).take (i+1)).map λr=>[bv r]) (by rw[U,yB];rfl) (by rw[zL,zR];simp;omega) (by rw[zL,zR];simp;omega) (λZ=>Z++((E,.cells 70 f)::τ)) (λZ=>zH _) (λa6 c6 Y V=>?_))
    have F:=T (((List.range c).map (G k)).take (i+1)) _ _ ((E,.cells 70 (f.set k (.v (.slice a6 ((((List.range c).map (G k)).take (i+1)).map λr=>[bv r]).length c6))))::(Y++τ)) V (zH _);rw[C4 C]at F;refine Sv.cellm (tb:=70) (cs:=f) (cs':=f.set k (.v (.slice a6 ((((List.range c).map (G k)).take (i+1)).map λr=>[bv r]).length c6))) (τ:=Y++τ) List.perm_middle (by rw[aR];exact(zE.1 c0).1) rfl (by rw[aR]) ?_
    repeat' first|refine fW ?_|intro b;conv=>whnf
    exact⟨_,(ah aJ),Sc.refl _,F⟩
   .intro g X
    repeat' first|refine fW ?_|intro b;conv=>whnf
    exact⟨(i+1,g),(ah av),Sc.refl _,⟨by simp only;omega,X⟩,by simp only;omega⟩
  .obtain rfl:i=c:=by omega
   rw[yL (by simp),tP hl,a]at z
   repeat' first|refine fW ?_|intro b;conv=>whnf
   exact⟨(k+1,s),(ah av),Sc.refl _,⟨by simp only;omega,z⟩,by simp only;omega⟩
 .obtain rfl:k=p.counts.length:=by omega
  rw[show(dK p G).take p.counts.length=dK p G by rw[←a,yM],wH,List.replicate_zero,zZ]at z
  repeat' first|refine fW ?_|intro b;conv=>whnf
  exact Rt.same ⟨_,rfl,z⟩
def vh{P:Program}{f:FuncId}{args:List D}{w:Wd}(h:az P f args [] (λd s=>∃v,d= .tup [.v v,iD 0]/\Rx w v s)):APure P f args (.tup [fI w,iD 0]):=
 APure.of_call (az.vs (az.imp h λd s⟨v,a,r⟩=>by rw[a];exact Rt.vs (Vs.tup (.cons (Vs.frz (τ:=[]) P4 r (by simp)) (.cons (Vs.refl _ _) (.nil _))))))
def T8(k:B)(h:ar B->A:=by intro q7;(first|refine bc ?_|refine aE ?_|(refine' aj ?hc ?_;(case hc=>exact HV)));exact q7.1):A:=h ⟨k⟩
def qB(x:ak)(p:fc)(e:Int)(h0:e≠0)(HV:APure prog 61 [aw x,eX p] (iD e)):APure prog 35 [aw x,eX p] (.tup [fI [],iD e]):=by
 refine ap func35 ntmps35 λa=>?_
 repeat' first|refine T8 ?_|intro b;conv=>whnf
 exact Rt.vs (Vs.tup (.cons (be6 _ _) (.cons (Vs.refl _ _) (.nil _))))
section
open Go.RowKit Go.Shelf
variable {P:Program} {T:TypeId->Option TI} {σ:ae} {N:Nat} {f:aP} {fn:Func}
def pB4(A:∀t i,T t=some i->aH P t=some i){i i2 j m b:Nat}{t tb:TypeId}{cs:List D}{c:TI}{d d2:D}{K:D->Prop}(h:fn.results= #[.cell j t,.tmp i,.tmp i2])(y:aN f (.tmp i)=d)(g:aN f (.tmp i2)=d2)(x:aN f (.tmp j)= .v (.pointer (some ⟨b,0,none⟩)))(z:σ[m]?=some (b,.cells tb cs))(r:T t=some c)(n:c.agg=true)(s:c.size=cs.length)
  (k:W (K (.tup [.agg cs,d,d2]))):Rs P N fn f σ K:=by
 subst y g;refine⟨_,λa o=>?_,k.h⟩;intro w X p l e;obtain⟨vs,B,q⟩:=ax2 A e z r n s;have u:=(lp l j).val (o.eq x (λh=>by cases h));refine⟨.tuple #[.agg vs.toArray,p.getD i undef,p.getD i2 undef],by simp[results,h,u,asAddr,B,Result.andThen,-Array.getD_eq_getD_getElem?],?_⟩;have:=bj.cons (Rd.agg (w:=w) (O:=ay σ X) cs vs q.len q.at_) (bj.cons (sb o i _ _ _ (lp l i)) (bj.cons (sb o i2 _ _ _ (lp l i2)) bj.nil));exact .tup _ _ this.len this.at_
end
def AF:er []:=⟨by simp,by simp,by simp,by simp⟩
def je{A B:Prop}(k:B)(h:ar B->A:=by intro q7;(first|refine bc ?_|refine aE ?_|(refine' aj ?hc ?_;(case hc=>first|exact HS|exact HW)));exact q7.1):A:=h ⟨k⟩
def B9(x:ak)(h:cg x)(C:APure prog 44 [aw x] (.sl 4 []))(l:List Int)(hl:eH l):az prog 8 [aw x,bv l] [] (λd σ=>∃p w is,d= .tup [eX p,fI w,bD is]/\σ=[]/\er w/\(is=true->WOf x w)):=by
 have P:=Co x h.lim h.fbs C l hl;have HS:=wu x C;refine dB func8 ntmps8 λq=>?_
 repeat' first|refine je ?_|intro b;conv=>whnf
 obtain⟨n,rfl⟩:∃c,c=b:=⟨_,rfl⟩
 refine bu P (zH ([]++_)) (λs=>s++_) (λs=>zH _) ?_;rintro _ _ ⟨p,is,rfl,rfl,j,f⟩
 cases is with
 |false=>
  repeat' first|refine je ?_|intro b;conv=>whnf
  refine pB4 ai (m:=1) rfl rfl rfl rfl rfl rfl rfl rfl ?_
  repeat' first|refine je ?_|intro b;conv=>whnf
  exact Rt.by (σ':=[]) (d':=.tup [eX p,fI [],bD false]) (Vs.vd ⟨_,by rw[zZ]⟩ (Vd.tup (.cons (Vd.same (λz a=>by cases a) _) (.cons (Vd.nil _) (.cons (Vd.same (λz a=>by cases a) _) .nil))))) ⟨p,[],false,rfl,rfl,AF,λh=>by cases h⟩
 |true=>
  obtain⟨e,k,V⟩:=wM x h C p j (f rfl);by_cases h0:e=0
  .subst h0;obtain⟨w,⟨i,o⟩,g⟩:=wr x p (k rfl) V;have HW:=vh g
   repeat' first|refine je ?_|intro b;conv=>whnf
   refine pB4 ai (m:=1) rfl rfl rfl rfl rfl rfl rfl rfl ?_
   repeat' first|refine je ?_|intro b;conv=>whnf
   exact Rt.by (σ':=[]) (d':=.tup [eX p,fI w,bD true]) (Vs.vd ⟨_,by rw[zZ]⟩ (Vd.same (λz a=>by cases a) _)) ⟨p,w,true,rfl,rfl,i,λ_=>o⟩
  .have HW:=qB x p e h0 V
   repeat' first|refine je ?_|intro b;conv=>whnf
   refine pB4 ai (m:=1) rfl rfl rfl rfl rfl rfl rfl rfl ?_
   repeat' first|refine je ?_|intro b;conv=>whnf
   exact Rt.by (σ':=[]) (d':=.tup [eX p,fI [],bD (decide (e=0))]) (Vs.vd ⟨_,by rw[zZ]⟩ (Vd.same (λz a=>by cases a) _)) ⟨p,[],_,rfl,rfl,AF,λh=>absurd (wY h) h0⟩
end
section
open Go
def r4(rows:List (List Int))(up s i:Nat):Int:=rows.foldl (λ(a:Int)(r:List Int)=>if r.getD up 0=(i:Int)then IntKind.i64.wrap (a+r.getD s 0)else a) (0:Int)
def AO(x:ak)(o s:Nat):Nat:=match x.kz[o]? with
 |some k=>match k.fields[s]? with
  |some g=>(bb k g.up).toNat
  |none=>0
 |none=>0
def dE(n:Int):Bool:=!(decide (n < -1099511627776)||decide (1099511627776<n))
def dT(x:ak)(k:Nat)(l:List Int):Bool:=tZ x k l&&l.all dE
def r0(x:ak)(k:Nat)(l:List (List Int)):Bool:=decide (l.length<=512)&&l.all (dT x k)
def cL(x:ak)(w:Wd):Bool:=decide (w.length=x.kz.length)&&(List.range w.length).all (λk=>r0 x k (w.getD k []))&&(bJ x).all (λr=>(w.getD r.kind []).all (p8 w r))
def R3(x:ak)(n:ByteArray):bG:=(x.lz.find? λl=>seq l.name n).getD ⟨ByteArray.empty,[],[]⟩
def If(l:bG)(now:List Bool):List Bool:=l.mz.foldl (λn m=>if now.getD m.1.toNat false then n.set m.2.toNat true else n) (List.replicate 12 false)
def pZ(l:bG):Nat->List Bool
 |0=>(List.replicate 12 false).set 0 true
 |m+1=>If l (pZ l m)
def FU(l:bG)(s:Nat):Bool:=!l.mz.any λm=>decide (m.1=(s:Int))
def Rk(l:bG):Bool:=decide (l.tz.length<=12)&&decide (l.mz.length<=32)&&decide (l.tz.length≠0)&&l.mz.all λm=>ch l.tz.length m
def m7(l:bG)(lo h:Int):List Bool:=
 if Rk l&&decide (0<=lo)&&decide (lo<=h)&&decide (h<=1000)then(List.range l.tz.length).map λs=>(List.range (h.toNat+1)).any λm=>(pZ l m).getD s false&&(decide (lo<=(m:Int))||FU l s)else[]
def il(r:List Int)(i:Int):Int:=r.getD i.toNat 0
def da(kd:aq)(r:List Int)(n:ByteArray):Int:=if dz n then 0 else il r (bb kd n)
def fM(v lo h:Int):Int:=if v<lo\/h<v then 5 else 0
def Lf(x:ak)(w:Wd)(k i f:Nat):Int:=r4 (w.getD (j8 x k f).1.toNat []) (AO x (j8 x k f).1.toNat (j8 x k f).2.toNat) (j8 x k f).2.toNat i
def jx(x:ak)(w:Wd)(k:Nat)(kd:aq)(d:an)(r:List Int):Int:=
 match dN x (aG x k (bb kd d.up))with
 |some o=>il ((w.getD (aG x k (bb kd d.up)).toNat []).getD (il r (bb kd d.up)).toNat []) (bb o d.of)
 |none=>0
def ib(x:ak)(w:Wd)(k:Nat)(kd:aq)(r:List Int)(i f:Nat)(d:an)(s:List Int):Int:=
 if d.kind=0 then(if r.getD f 0<d.lo then 5 else if r.getD f 0∈s then 7 else 0)
 else if d.kind=2\/d.kind=7 then fM (r.getD f 0) d.lo d.hi
 else if d.kind=3 then(if r.getD f 0<0\/(d.words.length:Int)<=r.getD f 0\/d.wz.getD (r.getD f 0).toNat 0=0 then 5 else 0)
 else if d.kind=4 then fM (r.getD f 0-da kd r d.of) d.lo d.hi
 else if d.kind=5 then(if(m7 (R3 x d.of) d.lo d.hi).getD (r.getD f 0).toNat false&&decide (0<=r.getD f 0)then 0 else 8)
 else if d.kind=6 then(if r.getD f 0=Lf x w k i f then 0 else 9)
 else if d.kind=8 then(if r.getD f 0=jx x w k kd d r then 0 else 16)
 else 0
def jT(r:List Int)(f:Nat)(d:an)(k:List Int):List Int:=if d.kind=0/\¬r.getD f 0<d.lo then r.getD f 0::k else k
def jZ(kd:aq)(r:List Int)(k:List Int):Nat->List Int
 |0=>k
 |q+1=>match kd.fields[q]? with
  |some d=>jT r q d (jZ kd r k q)
  |none=>jZ kd r k q
def j6(kd:aq)(l:List (List Int)):Nat->List Int
 |0=>[]
 |i+1=>match l[i]? with
  |some r=>jZ kd r (j6 kd l i) r.length
  |none=>j6 kd l i
def KB(kd:aq)(r:List Int)(q:cH):Bool:=decide (da kd r q.a<=da kd r q.b+q.n)
def fQ(x:ak)(w:Wd)(k:Nat)(kd:aq)(l:List (List Int))(i:Nat)(r:List Int)(f:Nat):List eZ:=
 match kd.fields[f]? with
 |some d=>one k i f (ib x w k kd r i f d (jZ kd r (j6 kd l i) f))
 |none=>[]
def fi(x:ak)(k:Nat)(kd:aq)(i:Nat)(r:List Int)(q:Nat):List eZ:=
 match x.rules[q]? with
 |some u=>one k i (-1) (if bi x u.kind=(k:Int)/\KB kd r u=false then 24 else 0)
 |none=>[]
def dX(x:ak)(w:Wd)(k:Nat)(kd:aq)(l:List (List Int))(i:Nat):List eZ:=
 match l[i]? with
 |some r=>am r.length (fQ x w k kd l i r)++am x.rules.length (fi x k kd i r)
 |none=>[]
def l2(x:ak)(w:Wd)(k:Nat):List eZ:=
 match x.kz[k]? with
 |some kd=>am (w.getD k []).length (dX x w k kd (w.getD k []))
 |none=>[]
def fN(x:ak)(w:Wd)(k:Nat):List eZ:=
 match x.kz[k]? with
 |some kd=>one k (-1) (-1) (if((w.getD k []).length:Int)<kd.lo\/kd.hi<((w.getD k []).length:Int)then 4 else 0)
 |none=>[]
def ES(w:Wd)(r:Rf)(j:Nat):Nat:=(w.getD r.kind []).countP λl=>decide (l.getD r.field 0=(j:Int))
def eD(x:ak)(w:Wd)(r:Rf)(j:Nat):List eZ:=
 match fieldAt x r.kind r.field with
 |some d=>one r.kind j r.field (if(ES w r j:Int)<d.lo\/d.hi<(ES w r j:Int)then 11 else 0)
 |none=>[]
def pm(x:ak)(w:Wd)(q:Nat):List eZ:=
 match(bJ x)[q]? with
 |some r=>am (w.getD r.up.toNat []).length (eD x w r)
 |none=>[]
def N1(x:ak)(w:Wd):List eZ:=
 if cL x w then am w.length (fN x w)++am w.length (l2 x w)++am (bJ x).length (pm x w)else[(-1,-1,-1,2)]
end
section
open Go Go.Maps Go.MapKept
def cS(rows:List (List Int))(f j:Nat):List Int:=(rows.zipIdx.filter λp=>decide (p.1.getD f 0=(j:Int))).map λp=>(p.2:Int)
def aR8(rows:List (List Int))(r:List Int)(f j:Nat):cS (rows++[r]) f j=if r.getD f 0=(j:Int)then cS rows f j++[(rows.length:Int)]else cS rows f j:=by
 unfold cS;rw[List.zipIdx_append,vZ,yB,List.zipIdx_singleton,List.filter_cons,List.filter_nil,xD];by_cases h:r.getD f 0=(j:Int)
 .rw[if_pos h,if_pos (by simpa using h)];rfl
 .rw[if_neg h,if_neg (by simpa using h)];simp
def aN8(rows:List (List Int))(f j:Nat):(cS rows f j).length=rows.countP λr=>decide (r.getD f 0=(j:Int)):=by
 generalize a:rows.reverse=l
 induction l generalizing rows with
 |nil=>rw[List.reverse_eq_nil_iff]at a;subst a;rfl
 |cons r l i=>
  have b:rows=l.reverse++[r]:=by rw[←List.reverse_reverse rows,a];simp
  subst b;rw[aR8,List.countP_append,←i l.reverse (by simp),List.countP_singleton];by_cases h:r.getD f 0=(j:Int)
  .rw[if_pos h,if_pos (yJ h),zI];rfl
  .rw[if_neg h,if_neg (by simpa using h)];rfl
def gW(rows:List (List Int))(f n:Nat):List (List Int):=(List.range n).map (cS rows f)
def NN(rows:List (List Int))(f n:Nat):(gW rows f n).length=n:=by simp[gW]
def Sn{f n j:Nat}(rows:List (List Int))(h:j<n):(gW rows f n)[j]?=some (cS rows f j):=by simp[gW,h]
def FQ(f n:Nat):gW [] f n=List.replicate n []:=by
 refine xY λi=>?_;by_cases h:i<n
 .rw[Sn _ h,wF,if_pos h];rfl
 .rw[yY.2 (by rw[NN];omega),yY.2 (by simp;omega)]
def y6{rows:List (List Int)}{r:List Int}{f n v:Nat}(h:r.getD f 0=(v:Int)):gW (rows++[r]) f n=(gW rows f n).set v (cS rows f v++[(rows.length:Int)]):=by
 refine xY λi=>?_;by_cases hi:i<n
 .rw[Sn _ hi,aR8,h];by_cases e:i=v
  .subst e;rw[if_pos rfl,xI (by rw[NN];exact hi)]
  .rw[if_neg (by omega),wN (Ne.symm e),Sn _ hi]
 .rw[yY.2 (by rw[NN];omega),yY.2 (by rw[yR,NN];omega)]
variable{α:Type}
def Q2{l:List α}{j:Nat}{x:α}(h:l[j]?=some x):l.take (j+1)=l.take j++[x]:=by rw[xC,h];rfl
def qw(x:ak):(bJ x).Pairwise λa b=>a.kind≠b.kind\/a.field≠b.field:=by
 have F:∀k kd i a,a∈dL x k kd i->a.kind=k/\a.field=i:=by
  intro k kd i a h;unfold dL at h;split at h
  .split at h
   .rw[zN]at h;subst h;exact⟨rfl,rfl⟩
   .cases h
  .cases h
 have K:∀k a,a∈fL x k->a.kind=k:=by
  intro k a h;unfold fL at h;split at h
  .obtain⟨i,_,h⟩:=QJ.1 h;exact(F _ _ _ _ h).1
  .cases h
 unfold bJ am;rw[List.pairwise_flatMap];refine⟨λk _=>?_,List.nodup_range.imp λc a e b d=>.inl (by rw[K _ _ e,K _ _ d];exact c)⟩;unfold fL;split
 .unfold am;rw[List.pairwise_flatMap];refine⟨λi _=>?_,List.nodup_range.imp λc a e b d=>.inr (by rw[(F _ _ _ _ e).2,(F _ _ _ _ d).2];exact c)⟩;unfold dL;split
  .split<;>simp
  .simp
 .simp
variable{q:Nat}
def IJ{x:ak}{p:Nat}{a b:Rf}(i:(bJ x)[p]?=some a)(g:(bJ x)[q]?=some b)(h:p≠q):a.kind≠b.kind\/a.field≠b.field:=by
 obtain⟨c,f⟩:=zE.1 i;obtain⟨l,e⟩:=zE.1 g;have d:=wS.1 (qw x);rcases Nat.lt_or_gt_of_ne h with h|h
 .have:=d p q c l h;rwa [f,e]at this
 .have:=d q p l c h;rw[f,e]at this;exact this.imp Ne.symm Ne.symm
def mK(w:Wd)(r:Rf):List (List Int):=gW (w.getD r.kind []) r.field (w.getD r.up.toNat []).length
def MI(r:Rf):List D:=[iD r.kind,iD r.field,iD r.up]
abbrev gM(l:List Rf):D:=.sl 3 (l.map MI)
abbrev PH(r:Rf):Value:=JI r.kind r.field r.up
def gp(w:Wd)(F:Value->Option Value)(L:List Rf)(σ:ae):Prop:=∃(vs:List Value)(s:List ae),cA (λr v t=>uX (mK w r) v t/\F (PH r)=some v) L vs s/\σ.Perm s.flatten
def gp.nil(w:Wd)(F:Value->Option Value):gp w F [] []:=⟨[],[],.nil,by simp⟩
variable{w:Wd}{F:Value->Option Value}
def gp.perm{L:List Rf}{σ σ':ae}(h:gp w F L σ)(p:σ'.Perm σ):gp w F L σ':=by
 obtain⟨vs,t,b,a⟩:=h;exact⟨vs,t,b,p.trans a⟩
def cA.imp{R a:dZ α}{xs:List α}{vs:List Value}{ts:List ae}(h:cA R xs vs ts)(i:∀x∈xs,∀v t,R x v t->a x v t):cA a xs vs ts:=by
 induction h with
 |nil=>exact .nil
 |cons h k b=>exact .cons (i _ (yN ..) _ _ h) (b λx hx=>i x (yQ _ hx))
def gp.push{L:List Rf}{σ τ:ae}{r:Rf}{v:Value}(h:gp w F L σ)(d:uX (mK w r) v τ)(b:∀r'∈L,r'.kind≠r.kind\/r'.field≠r.field):gp w (dC F (PH r) v) (L++[r]) (σ++τ):=by
 obtain⟨vs,s,g,f⟩:=h;refine⟨vs++[v],s++[τ],cA.append (g.imp λr' a u t c=>⟨c.1,?_⟩) (.cons ⟨d,?_⟩ .nil),?_⟩
 .unfold dC;rw[if_neg]
  .exact c.2
  .intro e;obtain⟨j,i,_⟩:=JH e;rcases b r' a with h|h<;>omega
 .unfold dC;rw[if_pos rfl]
 .rw[vW]
  simpa using f.append_right τ
def gp.at{L:List Rf}{σ:ae}(h:gp w F L σ){r:Rf}(a:L[q]?=some r):∃v t τ,F (PH r)=some v/\uX (mK w r) v t/\σ.Perm (t++τ):=by
 obtain⟨vs,s,c,b⟩:=h;obtain⟨u,t,τ,e,g,d,_⟩:=c.at a;exact⟨u,t,τ,g.2,g.1,b.trans d⟩
end
section
open Go Go.RowKit Go.Shelf Go.Maps Go.MapKept
open Go.ChangeMaps (setBlock modify_eq_set heap_setBlock_same heap_setBlock_other)
noncomputable def vk (G:Value->Option D) (key:Value) (d:D):Value->Option D:=open Classical in λx=>if x=key then some d else G x
section
variable {P:Program} {r:Option Nat} {n:Nat} {df:Nat} {N:Nat} {σ τ:ae} {ρ:Operand->D} {f:aP} {L:List Oper} {k t e:TypeId} {G:Value->Option D} {b:Nat} {kv z:Value} {kl:Lit} {zd:D}
def CW{w:World}{X:Nat->Prop}(h:aW w X σ)(a:(b,ax.mp P k G)∈σ):∃e c n F,w.heap[b]?=some (.map e c)/\gn P k e c n F/\∀y,(F y=none/\G y=none)\/∃v d,F y=some v/\G y=some d/\Rd w (ay σ X) d v:=by
 obtain⟨_,o,i,e,c,n,F,rfl,g,f⟩:=h.at_ b _ a;exact⟨e,c,n,F,i,g,f⟩
variable{K:aP->ae->Prop}{o:Oper}
def ce.makeMapM(d:o.op= .makeMap t none)(kk:∀b,W (aX N o.dst (.v (.map (some b))) f (λf'=>K f' ((b,.mp P k λ_=>none)::σ)))):ce P r n df L N o f σ K:=by
 refine⟨λc Q a hsp e hk=>?_⟩;refine nc e (by rw[d];rfl) λw X g hst=>?_;have e0:(execOp g.eval o).run P w= .ok (.value (.map (some w.heap.size))) (w.alloc (.map #[] 0)):=by
  simp only[execOp,d]
  rfl
 rw[e0];have z:∀w O,(ax.mp P k λ_=>none).ok w O (.map #[] 0):=λw O=>⟨#[],0,0,λ_=>none,rfl,⟨by simp,stamped_empty 0,by simp,by simp,by simp⟩,λ_=>.inl ⟨rfl,rfl⟩⟩
 obtain⟨g1,g2,i⟩:=hst.st.new (.map #[] 0) (.mp P k λ_=>none) (z _ _);exact E9
def ce.mapUpdateM{m y x:Operand}{d:D}(C:o.op= .mapUpdate t m y x)(hm:aN f m= .v (.map (some b)))(hd:g7 (aN f y) kv)(hx:aN f x=d)(E:σ.Perm ((b,ax.mp P k G)::τ))
  (KK:Keyed P k) (ht:P.underlying t=some (.map k e)) (j:keyOf P k kv=some kl) (Y:W (aX N o.dst (.v undef) f (λI=>K I ((b,.mp P k (vk G kv d))::τ)))):ce P r n df L N o f σ K:=by
 refine⟨λA Q a p Z l=>?_⟩;refine nc Z (by rw[C];rfl) λw X s u=>?_;have h:=u.perm E;obtain⟨es,c,V,F,S,R,O⟩:=CW h.st (yN);have g:∀x,Rd w (ay ((b,ax.mp P k G)::τ) X) (aN f x) (s.eval x):=λx=>p.le x _ _ _ (h.fr.eval x);obtain⟨M,h1,⟨q,J,h2,h3⟩,h4⟩:=cb.update (v:=s.eval x) (n:=V) ⟨es,c,S,R⟩ KK ht j;have U:=(g m).val hm;have T:=hd _ _ _ (g y);have B:=g x;rw[hx]at B;have e0:(execOp s.eval o).run P w= .ok .skip M:=by
  simp only[execOp,C,U,T]
  show(do let _ ←Instr.mapUpdate t (.map (some b)) kv (s.eval x);pure Next.skip).run P w=_;simp only[Sem.run_bind,h1,Result.andThen,Sem.run_pure]
 have h6:(ax.mp P k (vk G kv d)).ok w (ay ((b,ax.mp P k G)::τ) X) (.map q J):=by
  refine⟨q,J,_,_,rfl,h3,λy=>?_⟩;unfold dC vk;by_cases l:y=kv
  .subst l;exact .inr ⟨_,_,if_pos rfl,if_pos rfl,B⟩
  .rw[if_neg l,if_neg l];exact O y
 obtain⟨g1,H,g3,g4⟩:=h.st.upd (i:=0) (k':=.mp P k (vk G kv d)) rfl h4 h2 h6;obtain⟨I,z,h8⟩:=fT Y.h p;rw[e0];exact⟨_,lV E H,(h.mv H g1).put (.v undef) o.dst,l _ _ _ h8 z⟩
def qc{m y:Operand}(d:D)(l:o.op= .lookup t m y false)(H:ρ m= .v (.map (some b)))(I:g7 (ρ y) kv)(J:(b,ax.mp P k G)∈σ)
  (K:Keyed P k) (E:P.underlying t=some (.map k e)) (B:∀w,(zeroValue e).run P w= .ok z w) (i:∀w O,Rd w O zd z) (a:keyOf P k kv=some kl) (C:(G kv).getD zd=d):Yd P o ρ σ d:=by
 subst C;intro w X η h j;obtain⟨dst,op,R,pos,Q,g⟩:=o;simp only at l;subst l;have M:=(h m (by simp[Op.operands])).val H;have L:=I _ _ _ (h y (by simp[Op.operands]));obtain⟨N,c,A,F,x,u,q⟩:=CW j J;refine ev (s:=Instr.lookup t (η m) (η y) false) (by rw[M,L];exact cb.look (n:=A) ⟨N,c,x,u⟩ K E (B w) a) (Ex.refl w) ?_;rcases q kv with⟨f,r⟩|⟨v,d,f,r,p⟩
 .rw[f,r];exact i _ _
 .rw[f,r];exact p
end
end
section
open Go Go.Maps Go.MapKept
def az.look{P:Program}{f:FuncId}{z l:List D}{σ τ ρ:ae}{R:D->ae->Prop}(B:fF σ z τ l)(n:σ.Perm (τ++ρ))(x:az P f l τ R)(v:∀d s,R d s->uk d=true/\mT s) :
  az P f z σ (λd σ'=>∃s,σ'=s++ρ/\R d s):=by
 refine⟨x.ent,λw X vs q m=>?_⟩;obtain⟨g,a⟩:=B.run w X vs m q;have hsp:=m.perm n;refine(x.run w X vs a g).mono ?_;rintro e A ⟨u,d,s,E,y,C,g4,g5⟩;obtain⟨f1,f2⟩:=v d s y;have i:=hsp.nodup;rw[en,wR]at i;obtain⟨F,n2,n3⟩:=i;have hz:=g5.keep.size;have hblk:∀b,b<w.heap.size->¬ay (τ++ρ) X b->A.heap[b]?=w.heap[b]?:=λb hb hn=>g5.keep.block b hb (λr=>hn (.inr (by rw[en];exact xK _ r)));have hO:∀b,b<w.heap.size->¬ay (τ++ρ) X b->¬ay (s++ρ) X b:=λb hb hn ho=>by
  rcases ho with ho|ho
  .exact hn (.inl ho)
  .exact Y8
 have hρ:∀b,b∈aT ρ->b<w.heap.size:=λb hb=>hsp.lt (by rw[en];exact yW _ hb);refine⟨u,d,s++ρ,E,⟨s,rfl,y⟩,l8 C f1,⟨?_,λb k hbk=>?_,λb hb=>yI (m.xlt b hb) hz,?_⟩,⟨⟨g5.keep.os,g5.keep.tape,g5.keep.output,hz,λb hb hn=>g5.keep.block b hb (λr=>hn (y5 n b (by rw[en];exact xK _ r)))⟩,λb hb=>?_⟩⟩
 .exact ND
 .exact ZM
 .refine hsp.gok.keep hz hO hblk (λb hb=>?_);rcases hb with hb|hb
  .exact yI (m.xlt b hb) hz
  .exact Na
 .rw[en,zO]at hb;rcases hb with hb|hb
  .rcases g5.new b hb with h|h
   .exact .inl (y5 n b (by rw[en];exact xK _ h))
   .exact .inr h
  .exact .inl (y5 n b (by rw[en];exact yW _ hb))
def kK(l:List bG):Value->Option D
 |.string n=>(l.find? λx=>seq x.name n).map λx=>cZ x
 |_=>none
def JE:kK []=λ_=>none:=by
 funext v
 cases v<;>rfl
def DI(f:bG)(l:List bG):vk (kK l) (.string f.name) (cZ f)=kK (f::l):=by
 funext v
 unfold vk;by_cases h:v= .string f.name
 .rw[if_pos h,h];simp[kK,QM]
 .rw[if_neg h]
  cases v<;>try rfl
  rename_i n;have:seq f.name n=false:=by
   cases e:seq f.name n with
   |false=>rfl
   |true=>exact absurd (by rw[(FD _ _).1 e]) h
  simp[kK,List.find?,this]
end
section
open Go
variable{A B:Prop}
def gy(k:B)(h:ar B->A:=by intro q7;(first|refine bh ?_|refine aE ?_|(refine' aj ?hc ?_;(case hc=>exact hp _ (zG hy))));exact q7.1):A:=h ⟨k⟩
def rO{p:Prop}(h:p:=by
 repeat refine gy ?_
 refine gD mixed ai (γ:=Nat) (λk=>[(8,iD k)]) (λ_=>[]) (λk=>k<=l.length/\∀i y,i<k->l[i]?=some y->p y=false) (λk=>l.length-k) 0 rfl rfl ⟨by omega,by omega⟩ ?_;rintro k ⟨hk,hno⟩;by_cases hlt:k<l.length
 .obtain⟨y,hy⟩:∃y,l[(k:Int).toNat]?=some y:=⟨_,zD hlt⟩
  repeat' first|refine gy ?_|(refine aZ ?_;constructor<;>intro hc)
  .refine Rt.pure (zM iD ?_);exact(K' hy ‹_› hno).symm
  .exact⟨k+1,rfl,rfl,⟨by omega,λi z hi hz=>by
    by_cases e:i=k
    .subst e;rw[show((i:Int)).toNat=i from rfl,hz]at hy;cases hy;assumption
    .exact hno i z (by omega) hz⟩,by omega⟩
 .repeat refine gy ?_
  refine Rt.pure (zM iD ?_);exact(R1 λi y hy=>hno i y (by have:=(zE.1 hy).1;omega) hy).symm):p:=h
variable{cs:List D}
def D5{f:FuncId}(l:List aq)(p:aq->Bool)(hl:l.length<=1000000)(hp:∀y∈l,APure prog f [fP y,.ro cs] (bD (p y))):APure prog 80 [kq l,.clo f [.ro cs]] (iD (idx p l)):=by
 refine ap func80 ntmps80 λa=>?_;exact rO
def T7(k:B)(h:ar B->A:=by intro q7;(first|refine bh ?_|refine aE ?_|(refine' aj ?hc ?_;(case hc=>exact D5 l p hl hp)));exact q7.1):A:=h ⟨k⟩
def KS{f:FuncId}(l:List aq)(p:aq->Bool)(hl:l.length<=1000000)(hp:∀y∈l,APure prog f [fP y,.ro cs] (bD (p y))):APure prog 208 [kq l,.clo f [.ro cs]] (bD (l.any p)):=by
 refine ap func208 ntmps208 λa=>?_
 repeat refine T7 ?_
 refine Rt.pure (zM bD ?_);exact uK p l
def D6{f:FuncId}(l:List an)(p:an->Bool)(hl:l.length<=1000000)(hp:∀y∈l,APure prog f [bT y,.ro cs] (bD (p y))):APure prog 119 [mV l,.clo f [.ro cs]] (iD (idx p l)):=by
 refine ap func119 ntmps119 λa=>?_;exact rO
def PY{f:FuncId}(l:List bG)(p:bG->Bool)(hl:l.length<=1000000)(hp:∀y∈l,APure prog f [cZ y,.ro cs] (bD (p y))):APure prog 166 [iM l,.clo f [.ro cs]] (iD (idx p l)):=by
 refine ap func166 ntmps166 λa=>?_;exact rO
def T6(k:B)(h:ar B->A:=by intro q7;(first|refine bh ?_|refine aE ?_|(refine' aj ?hc ?_;(case hc=>exact PY l p hl hp)));exact q7.1):A:=h ⟨k⟩
def be2{f:FuncId}(l:List bG)(p:bG->Bool)(hl:l.length<=1000000)(hp:∀y∈l,APure prog f [cZ y,.ro cs] (bD (p y))):APure prog 110 [iM l,.clo f [.ro cs]] (bD (l.any p)):=by
 refine ap func110 ntmps110 λa=>?_
 repeat refine T6 ?_
 refine Rt.pure (zM bD ?_);exact uK p l
def PW{f:FuncId}(l:List cH)(p:cH->Bool)(hl:l.length<=1000000)(hp:∀y∈l,APure prog f [eR y,.ro cs] (bD (p y))):APure prog 224 [jI l,.clo f [.ro cs]] (iD (idx p l)):=by
 refine ap func224 ntmps224 λa=>?_;exact rO
def T5(k:B)(h:ar B->A:=by intro q7;(first|refine bh ?_|refine aE ?_|(refine' aj ?hc ?_;(case hc=>exact PW l p hl hp)));exact q7.1):A:=h ⟨k⟩
def uM{f:FuncId}(l:List cH)(p:cH->Bool)(hl:l.length<=1000000)(hp:∀y∈l,APure prog f [eR y,.ro cs] (bD (p y))):APure prog 167 [jI l,.clo f [.ro cs]] (bD (l.any p)):=by
 refine ap func167 ntmps167 λa=>?_
 repeat refine T5 ?_
 refine Rt.pure (zM bD ?_);exact uK p l
end
section
open Go
def AU(y:aq)(nm:ByteArray):APure prog 81 [fP y,.ro [sD nm]] (bD (seq y.name nm)):=by
 refine ap func81 ntmps81 λa=>?_
 repeat refine aV ?_
 refine Rt.pure (zM bD ?_);rfl
def bf0(y:an)(nm:ByteArray):APure prog 120 [bT y,.ro [sD nm]] (bD (seq y.name nm)):=by
 refine ap func120 ntmps120 λa=>?_
 repeat refine aV ?_
 refine Rt.pure (zM bD ?_);rfl
variable{A B:Prop}
def T4(k:B)(h:ar B->A:=by intro q7;(first|refine bh ?_|refine aE ?_|(refine' aj ?hc ?_;(case hc=>exact D5 x.kz (λy=>seq y.name nm) hl (λy _=>AU y nm))));exact q7.1):A:=h ⟨k⟩
def NV(x:ak)(nm:ByteArray)(hl:x.kz.length<=1000000):APure prog 42 [aw x,sD nm] (iD (bi x nm)):=by
 refine ap func42 ntmps42 λa=>?_
 repeat refine T4 ?_
 refine Rt.pure (zM iD ?_);rfl
def T3(k:B)(h:ar B->A:=by intro q7;(first|refine bh ?_|refine aE ?_|(refine' aj ?hc ?_;(case hc=>exact D6 k.fields (λy=>seq y.name nm) hl (λy _=>bf0 y nm))));exact q7.1):A:=h ⟨k⟩
def FP(k:aq)(nm:ByteArray)(hl:k.fields.length<=1000000):APure prog 74 [fP k,sD nm] (iD (bb k nm)):=by
 refine ap func74 ntmps74 λa=>?_
 repeat refine T3 ?_
 refine Rt.pure (zM iD ?_);rfl
def QF(x:ak)(i j:Int):APure prog 115 [aw x,iD i,iD j] (.tup [bT (iC x i j).1,bD (iC x i j).2]):=by
 refine ap func115 ntmps115 λa=>?_
 repeat' first|refine aV ?_|intro b;conv=>whnf|refine bg.mk λy hy=>?_|(refine aZ ?_;constructor<;>intro hc)
 all_goals first
  |(have r:iC x i j=(zf,false):=(by unfold iC;rw[am8 (by omega)]);rw[r];exact Rt.vs (Vs.tup (fF.cons ((Vs.le aG0).trans (Vs.drop (yV _))) (fF.cons (Vs.refl _ _) (fF.nil _)))))
  |(have r:iC x i j=(zf,false):=(by unfold iC;rw[K9 (by omega) (by omega) hy,List.getElem?_eq_none (by omega)]);rw[r];exact Rt.vs (Vs.tup (fF.cons ((Vs.le aG0).trans (Vs.drop (yV _))) (fF.cons (Vs.refl _ _) (fF.nil _)))))
  |(have r:=be1 (x:=x) (i:=i) (j:=j) (by omega) ‹x.kz[i.toNat]?=some _› (by omega) hy;rw[r];exact Rt.vs (Vs.refl _ _))
variable{x:ak}
def mE{i j:Int}{f:an}(h:fieldAt x i j=some f):iC x i j=(f,true):=by unfold iC;rw[h]
def r5{i j:Int}(h:fieldAt x i j=none):iC x i j=(zf,false):=by unfold iC;rw[h]
def T2(k:B)(h:ar B->A:=by intro q7;(first|refine bh ?_|refine aE ?_|(refine' aj ?hc ?_;(case hc=>first|exact HA|exact NV _ _ (by assumption)|exact FP _ _ (by assumption))));exact q7.1):A:=h ⟨k⟩
def Ox(x:ak)(i j:Int)(f:an)(hl:x.kz.length<=1000000)(a:fieldAt x i j=some f)(k:f.kind=1):APure prog 67 [aw x,iD i,iD j] (iD (refUp x i f)):=by
 have HA:=QF x i j;rw[mE a]at HA;refine ap func67 ntmps67 λe=>?_
 repeat' first|refine T2 ?_|intro b;conv=>whnf|(refine aZ ?_;constructor<;>intro hc)
 all_goals(refine Rt.pure (zM iD ?_);unfold refUp;first|rw[if_pos (by assumption)]|rw[if_neg (by assumption)])
def BE(k:B)(h:ar B->A:=by intro q7;(first|refine bh ?_|refine aE ?_|(refine' aj ?hc ?_;(case hc=>first|exact HA|exact HB|exact HU|exact NV _ _ (by assumption)|exact FP _ _ (by assumption))));exact q7.1):A:=h ⟨k⟩
def Zx{p:Prop}(h:p:=by
 refine ap func67 ntmps67 λBB=>?_
 repeat' first|refine BE ?_|intro b;conv=>whnf|(refine aZ ?_;constructor<;>intro hc)
 all_goals(refine Rt.pure (zM iD ?_);rw[hU];(repeat' split)<;>first|rfl|omega|(unfold refUp;(repeat' split)<;>first|rfl|omega)|(unfold yt;simp only;unfold refUp;(repeat' split)<;>first|rfl|omega))):p:=h
def R'(x:ak)(i j:Int)(hl:x.kz.length<=1000000)(s:∀k∈x.kz,k.fields.length<=1000000):APure prog 67 [aw x,iD i,iD j] (iD (aG x i j)):=by
 have HA:=QF x i j
 cases a:fieldAt x i j with
 |none=>
  rw[r5 a]at HA;refine ap func67 ntmps67 λBB=>?_
  repeat' first|refine BE ?_|intro b;conv=>whnf|(refine aZ ?_;constructor<;>intro hc)
  refine Rt.pure (zM iD ?_);simp[aG,a]
 |some f=>
  rw[mE a]at HA;obtain⟨h0,h1,k,n,q⟩:=GH a;have r:=s k (zG n);have l:dN x i=some k:=by simp[dN,h0,n]
  have o:=(zE.1 n).1;have hU:=aH5 a l;have HB:=QF x i (bb k f.up)
  cases e:fieldAt x i (bb k f.up)with
  |none=>
   rw[r5 e]at HB;simp only[e,Fs,yt]at hU;refine ap func67 ntmps67 λBB=>?_
   repeat' first|refine BE ?_|intro b;conv=>whnf|(refine aZ ?_;constructor<;>intro hc)
   all_goals(refine Rt.pure (zM iD ?_);rw[hU];unfold refUp;(repeat' split)<;>first|rfl|omega)
  |some g=>
   rw[mE e]at HB;simp only[e,Fs]at hU;by_cases hg1:g.kind=1
   .have HU:=Ox x i (bb k f.up) g hl e hg1;exact Zx
   .exact Zx
end
section
open Go
def BD{A B:Prop}(k:B)(h:ar B->A:=by intro q7;(first|refine bh ?_|refine aE ?_|(refine' aj ?hc ?_;(case hc=>first|exact NV _ _ (by assumption)|exact R' _ _ _ (by assumption) (by assumption))));exact q7.1):A:=h ⟨k⟩
def aH7(x:ak)(i:Int)(f:an)(hi:0<=i)(hl:x.kz.length<=1000000)(G:∀k∈x.kz,k.fields.length<=1000000):APure prog 171 [aw x,iD i,bT f] (.tup [iD (gJ x i f).1,bv (gJ x i f).2]):=by
 refine ap func171 ntmps171 λJ=>?_;have E:=az4 x f.of;have hno:f.kind≠6\/bi x f.of<=i->gJ x i f=(-1,[]):=λh=>by unfold gJ;rw[aJ9 h];rfl
 repeat' first|refine BD ?_|intro b;conv=>whnf|refine bg.mk λy hy=>?_|(refine aZ ?_;constructor<;>intro hc)
 .exact uE
 .obtain⟨e,rfl⟩:∃e,e=y:=⟨_,rfl⟩
  have j:=hy;clear hy;have I:f.kind=6:=by omega
  have n:=aK0 (x:=x) (i:=i) I (by omega);obtain⟨o,t⟩:=Int.eq_ofNat_of_zero_le (show 0<=bi x f.of by omega);rw[t]at j;have j:x.kz[o]?=some e:=j;have S:gJ x i f=((o:Int),uO x o i f e.fields e.fields.length):=by
   unfold gJ;rw[n,aP4 x i f o e t j,t];rfl
  have F:=G e (zG j);rw[t];refine jN mixed ai (γ:=Nat×Value×ae) (λg=>[(9,.v g.2.1),(31,iD g.1)]) (λg=>g.2.2) (λg=>g.1<=e.fields.length/\ab 3 1 (Gt (uO x o i f e.fields g.1)) g.2.1 g.2.2) (λg=>e.fields.length-g.1) (0,.slice none 0 0,[]) rfl bE ⟨zW _,ab.nil _ _⟩ ?_;rintro⟨q,v,s⟩ ⟨D,w⟩;simp only at D w⊢
  repeat' first|refine BD ?_|intro b;conv=>whnf|refine bg.mk λy hy=>?_|(refine aZ ?_;constructor<;>intro hc)
  .have l:FB x o i f y q=true:=by simp[FB,seq, *]
   have r:=at3 x o i f e.fields q y hy;rw[l,if_pos rfl]at r;have z:=aJ8 x o i f e.fields (q+1);refine Ap.go rfl rfl rfl rfl w (GN _ _) rfl (zs:=Gt (uO x o i f e.fields (q+1))) (by rw[r];simp only[Gt,yB];rfl) (by simp[Gt];omega) (by simp[Gt];omega) (λu=>_::u) (N5 _) (λa c u C=>?_)
   repeat' first|refine BD ?_|intro b;conv=>whnf|refine bg.mk λy hy=>?_
   exact⟨(q+1,_,u),rfl,List.Sublist.cons _ (xQ _),⟨by simp only;omega,C⟩,by simp only;omega⟩
  iterate 3
   have l:FB x o i f y q=false:=by simp[FB,seq, *]
   have r:=at3 x o i f e.fields q y hy;rw[l,if_neg (by simp),zZ]at r;exact⟨(q+1,v,s),rfl,List.Sublist.cons _ (xQ _),⟨by simp only;omega,by simp only;rw[r];exact w⟩,by simp only;omega⟩
  .obtain rfl:q=e.fields.length:=by omega
   rw[S];exact Rt.vs (Vs.tup (fF.cons (Vs.refl _ _) (fF.cons (Vs.row w (bR _)) (fF.nil _))))
 .exact uE
def HS1{x:ak}{i j:Int}{f:an}{o:Int}{l:List Int}(h:fieldAt x i j=some f)(s:gJ x i f=(o,l)):j8 x i j=ou o l:=by
 simp only[j8,h,s]
def BC{A B:Prop}(k:B)(h:ar B->A:=by intro q7;(first|refine bh ?_|refine aE ?_|(refine' aj ?hc ?_;(case hc=>first|exact HA|exact HS)));exact q7.1):A:=h ⟨k⟩
def vw(x:ak)(i j:Int)(hl:x.kz.length<=1000000)(n:∀k∈x.kz,k.fields.length<=1000000):APure prog 126 [aw x,iD i,iD j] (.tup [iD (j8 x i j).1,iD (j8 x i j).2]):=by
 have HA:=QF x i j
 cases a:fieldAt x i j with
 |none=>
  rw[r5 a]at HA;refine ap func126 ntmps126 λg=>?_
  repeat' first|refine BC ?_|intro b;conv=>whnf|(refine aZ ?_;constructor<;>intro hc)
  exact Rt.pure (by simp only[j8,a])
 |some f=>
  rw[mE a]at HA;have HS:=aH7 x i f (GH a).1 hl n;rcases hs:gJ x i f with⟨o,l⟩
  have r:=HS1 a hs;rw[hs]at HS;simp only at HS;by_cases hl1:l.length=1
  .obtain⟨m,rfl⟩:=List.length_eq_one_iff.1 hl1;refine ap func126 ntmps126 λg=>?_
   repeat' first|refine BC ?_|intro b;conv=>whnf|(refine aZ ?_;constructor<;>intro hc)
   exact Rt.pure (by rw[r];rfl)
  .have e:j8 x i j=(-1,-1):=by rw[r,oq hl1]
   refine ap func126 ntmps126 λg=>?_
   repeat' first|refine BC ?_|intro b;conv=>whnf|(refine aZ ?_;constructor<;>intro hc)
   exact Rt.pure (by rw[e])
end
end Go.Proofs.YtilnpcolgcmofaaGreatDoor
