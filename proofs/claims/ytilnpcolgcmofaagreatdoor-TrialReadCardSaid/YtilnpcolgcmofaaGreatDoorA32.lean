/- A part of the proof: Jg Jh R09h Vd Ld. -/
import Derived.Test.YtilnpcolgcmofaaGreatDoorA31
import Derived.Test.YtilnpcolgcmofaaGreatDoorRows
import Derived.LaidMore
import Derived.OpenShut
import Derived.LaidHandle
import Derived.LaidSub
import Derived.Lib.LaidU8
import Derived.WideKeyElems2
import Derived.Maps.RangeWalk
import Derived.Maps.Keyed
set_option maxRecDepth 100000
set_option maxHeartbeats 20000000
set_option linter.all false
namespace Go.Proofs.YtilnpcolgcmofaaGreatDoor
open Go.Proofs.Tryz
section
open Go
theorem KG{x:ak}{i j t:Nat}{k:au}{f:am}(hk:x.kz[i]?=some k)(hf:k.fields[j]?=some f)(h1:f.kind=1)(hu:aI x i j=t):t<i:=LW
def Qp(x:ak)(p:eJ)(k j:Nat)(v:Int):Prop:=∃t ct:Nat,aI x k j=t/\p.counts[t]?=some (ct:Int)/\0<=v/\v<ct
theorem pF{x:ak}{p:eJ}(h:iX x p){i j t:Nat}{k:au}{f:am}(c:x.kz[i]?=some k)(m:k.fields[j]?=some f)(o:f.kind=1)(u:aI x i j=t)(v:0<=f.lo/\f.lo<=f.hi/\f.hi<=8){a:Nat}(s:p.counts[i]?=some (a:Int)) :
  ∃b:Nat,p.counts[t]?=some (b:Int)/\a<=8/\b<=8/\(0<a->1<=b)/\lS (Hj p i j a b f)/\oM (Hj p i j a b f).spt:=by
 have l:=h.gx;have A:=l.nk;have C:=(zE.1 c).1;have E:=KG c m o u;obtain⟨y,w⟩:∃y,x.kz[t]?=some y:=⟨_,zD (by omega)⟩
 obtain⟨b,r,d⟩:=h.ok.cnt l w;obtain⟨q,g,e⟩:=h.ok.cnt l c;obtain rfl:a=q:=by rw[s]at g;have:=wK g;omega
 have z:=((l.ks.pos i k c).at (by omega) m).1 o;refine⟨b,r,e,d,λD=>h.ok.ref c m o u s r D,NZ h (by omega) (by omega) e d v,λq n B=>?_⟩
 show ya p.seed [2,(i:Int),(j:Int),0,(q:Int),(n:Int)];exact H8 h.sd (by omega) B
theorem br9{a:Int}(d:0<=a/\a<=100){k i:Nat}(b:k<=100)(c:i<=100):∀v∈[a,(k:Int),(i:Int)],cB v:=λv h=>by
 simp only[zU,yF,xE]at h;rcases h with rfl|rfl|rfl<;>(constructor<;>omega)
theorem AR{A B:Prop}(k:B)(h:ar B->A:=by intro q7;(first|refine bO ?_|refine aA ?_|(refine' ah ?hc ?_;(case hc=>first|exact HA|exact HR|exact HT|exact HN|exact HP|exact HW|exact HSH|exact HF|exact HG|exact HB|exact HU|exact HFO|exact HAB|exact HPT)));exact q7.1):A:=h ⟨k⟩
theorem I2{p:Prop}(h:p:=by
 refine⟨v,by omega,λe6=>by omega,λe1=>by omega,?_⟩;refine ap func107 ntmps107 λBB=>?_
 repeat' first|refine AR ?_|intro b;conv=>whnf
 refine Rt.pure (zM iD ?_);rfl):p:=h
theorem I0{p:Prop}(h:p:=by
 refine ap func107 ntmps107 λBB=>?_
 repeat' first|refine AR ?_|intro b;conv=>whnf
 refine Rt.pure (zM iD ?_);rfl):p:=h
theorem sx(x:ak)(p:eJ)(h:iX x p):∀(m k:Nat),k<m->∀(idx j:Nat)(kd:au)(d:am)(c:Nat),x.kz[k]?=some kd->kd.fields[j]?=some d->p.counts[k]?=some (c:Int)->idx<c->∃v,(-4294967396<=v/\v<=4294967396)/\(d.kind=6->0<=v/\v<=800)/\(d.kind=1->Qp x p k j v)/\APure prog 107 [ax x,eE p,iD k,iD idx,iD j] (iD v)
 |0,k,hkm=>by omega
 |m+1,k,hkm=>by
  intro idx j kd d c q K hc hi;have C:=h.gx;have hnk:=C.nk;have hkl:=(zE.1 q).1;have hfl:=(zE.1 K).1;have hk':x.kz[((k:Nat):Int).toNat]?=some kd:=q;have hf':kd.fields[((j:Nat):Int).toNat]?=some d:=K;have hnf:=C.sm.nf kd (zG q);have hnl:x.kz.length<=1000000:=by omega
  have L:∀k∈x.kz,k.fields.length<=1000000:=λk q=>by have:=C.sm.nf k q;omega
  obtain⟨c',hc2,hc8⟩:=h.ok.cnt C q;obtain rfl:c=c':=by rw[hc]at hc2;have:=wK hc2;omega
  have hc':p.counts[((k:Nat):Int).toNat]?=some (c:Int):=hc;have hcl:=(zE.1 hc).1;have F:=(C.ks.pos k kd q).at (by omega) K
  cases C.gf q K with
  |key e hb=>
   obtain⟨v,Z,HA⟩:=K5 p.seed h.sd.s [1,(k:Int),(j:Int)] (by simp) (br9 (by omega) (by omega) (by omega)) c (by omega) idx hi;refine⟨d.lo+v,by omega,λe6=>by omega,λe1=>by omega,?_⟩;exact I0
  |ref e t ht E b=>
   obtain⟨ct,f,_,ht8,h1,S,D⟩:=pF h q K e E b hc;have HR:=kO x C.sm p k j t kd d q K E c ct hc f;obtain⟨I,u,e2,R,hu2,HT⟩:=aT1 _ S D (h1 (by omega)) idx hi;have M:I<ct:=R;refine⟨I,by omega,λe6=>by omega,λ_=>⟨t,ct,E,f,by omega,by omega⟩,?_⟩;exact I0
  |num e hb=>
   obtain⟨v,Z,HN⟩:=aT0 x p h k idx j kd d q K (.inl e) c hc hi;exact I2
  |day e hb ho=>
   obtain⟨v,Z,HN⟩:=aT0 x p h k idx j kd d q K (.inr e) c hc hi;exact I2
  |pick e hb hw hs=>
   have G:ge k j:=by have:=F.2.2 (by omega);unfold ge;omega
   have Q:=qf (a:=4) (by omega) (k:=k) (i:=j) (idx:=idx) (by omega) (by omega) (by omega);have hwp:=hw.pos;have hwn:=hw.n;obtain⟨v,Z,HP⟩:=Hq p.seed h.sd.s [4,(k:Int),(j:Int),(idx:Int)] (by simp) Q.v d.wz hw ((Cj h.sd G (by omega)).drw (by omega) (by omega));exact I2
  |step e hb ho=>
   obtain⟨l,hl,hlz,HW⟩:=BK x p h k idx j kd d q K e hb ho (by omega);obtain⟨z,X⟩:∃z,l[l.length-1]?=some z:=⟨_,zD (by omega)⟩
   have hz:l[((l.length:Int)-1).toNat]?=some z:=by rw[show((l.length:Int)-1).toNat=l.length-1 by omega];exact X
   have hzb:=hlz z (zG X);refine⟨z,by omega,λe6=>by omega,λe1=>by omega,?_⟩;refine ap func107 ntmps107 λBB=>?_
   repeat' first|refine AR ?_|intro b;conv=>whnf|refine ba.mk λy hy=>?_
   rw[zL,hz]at hy
   cases hy
   refine Rt.pure (zM iD ?_);rfl
  |sum e hb jj n V s r w hs hsh P O U J E rb=>
   have hjl:=(zE.1 w).1;have hkj:=KG w U J E;have hnj:=C.sm.nf V (zG w);have hnl2:=(zE.1 hs).1;have hjj':x.kz[((jj:Nat):Int).toNat]?=some V:=w;have hs':V.fields[((n:Nat):Int).toNat]?=some s:=hs;obtain⟨cj,hcj,hcj8⟩:=h.ok.cnt C w;obtain⟨ct,f,_,_,_,S,D⟩:=pF h w U J E rb hcj;have ect:(ct:Int)=c:=by rw[hc]at f;have:=wK f;omega
   obtain rfl:ct=c:=by omega
   have HSH:=pS x k j hnl L;rw[hsh]at HSH;have HF:=xu V s.up (by omega);rw[O]at HF;have HR:=kO x C.sm p jj 1 k V r w U E cj ct hcj hc;obtain⟨dg,e2,T,HG⟩:=aT2 _ S D idx (by omega);have hdg8:dg<=r.hi:=T.2;obtain⟨o,rfl⟩:∃a:Nat,dg=a:=⟨dg.toNat,by omega⟩
   have m1:=g6 (n:=o) (by omega) P.1 (by omega);have m2:=g6 (n:=o) (by omega) (by omega:0<=s.hi) P.2.2;have m3:(o:Int)*s.lo<=(o:Int)*s.hi:=Int.mul_le_mul_of_nonneg_left P.2.1 (by omega);have G:ge k j:=by have:=F.2.2 (by omega);unfold ge;omega
   have Q:=qf (a:=7) (by omega) (k:=k) (i:=j) (idx:=idx) (by omega) (by omega) (by omega);have HB:=aH1 p.seed h.sd.s [7,(k:Int),(j:Int),(idx:Int)] (by simp) Q.v ((o:Int)*s.lo) ((o:Int)*s.hi) ⟨by omega,by omega,by omega,by omega⟩ ((H6 h.sd G (by omega) (by omega)).drw (by omega) (by omega));have hbe:=Fm (sd:=p.seed) (p:=[7,(k:Int),(j:Int),(idx:Int)]) (n:=(o:Int)*s.hi-(o:Int)*s.lo+1) (by omega);have hbt:0<=fX p.seed [7,(k:Int),(j:Int),(idx:Int)] ((o:Int)*s.lo) ((o:Int)*s.hi)/\fX p.seed [7,(k:Int),(j:Int),(idx:Int)] ((o:Int)*s.lo) ((o:Int)*s.hi)<=800:=by unfold fX;omega
   generalize fX p.seed [7,(k:Int),(j:Int),(idx:Int)] ((o:Int)*s.lo) ((o:Int)*s.hi)=v at *;refine⟨v,by omega,λ_=>hbt,λe1=>by omega,?_⟩;exact I0
  |above e t n y g r ht hy hg2 hof O U J E rb sh fb=>
   have hy':x.kz[((t:Nat):Int).toNat]?=some y:=hy;have hyl:=(zE.1 hy).1;have hyf:=C.sm.nf y (zG hy);obtain⟨ct,f,_,ht8,h1,S,D⟩:=pF h q U J E rb hc;have HF:=xu kd d.up (by omega);rw[O]at HF;have HU:=Qn x k 1 hnl L;rw[E]at HU;have HR:=kO x C.sm p k 1 t kd r q U E c ct hc f;obtain⟨I,u,e2,R,hu2,HT⟩:=aT1 _ S D (h1 (by omega)) idx hi;have M:I<ct:=R;have HFO:=xu y d.of (by omega);rw[hof]at HFO;obtain⟨va,hva,Y,-,HAB⟩:=sx x p h m t (by omega) I n y g ct hy hg2 f M;by_cases e8:d.kind=8
   .refine⟨va,hva,λe6=>by omega,λe1=>by omega,?_⟩;exact I0
   .have e7:d.kind=7:=by omega
    have hva7:=Y (sh e7);obtain⟨dg,e3,T,HG⟩:=aT2 _ S D I (by omega);have hdg8:dg<=r.hi:=T.2;obtain⟨o,rfl⟩:∃a:Nat,dg=a:=⟨dg.toNat,by omega⟩
    have hkp:=F.2.1 e7;obtain⟨v,e4,Z,_,HPT⟩:=Ho ⟨p.seed,[8,(k:Int),(j:Int),(I:Int)],va,o,d.lo,d.hi⟩ ⟨h.sd.s,by simp,(qf (a:=8) (by omega) (k:=k) (i:=j) (idx:=I) (by omega) (by omega) (by omega)).v,by simp only;omega,fb.1,fb.2.1,fb.2.2,by simp only;omega⟩ (λa' n' hn=>by
     show ya p.seed [8,(k:Int),(j:Int),(I:Int),(a':Int),(n':Int)];exact H7 h.sd (by omega) (by omega) (by omega) hn) u (by omega)
    have hv2:v<=d.hi:=Z.2;exact I2
end
section
open Go
def Qq(x:ak)(p:eJ)(k:Nat)(kd:au)(l:List Int):Prop:=∀(j:Nat)d,kd.fields[j]?=some d->d.kind=1->Qp x p k j (l.getD j 0)
theorem rU{A B:Prop}(k:B)(h:ar B->A:=by intro q7;(first|refine bO ?_|refine aA ?_|(refine' ah ?hc ?_;(case hc=>exact(hg j hjl))));exact q7.1):A:=h ⟨k⟩
theorem pN(x:ak)(p:eJ)(h:iX x p)(k idx:Nat)(kd:au)(c:Nat)(i:x.kz[k]?=some kd)(hc:p.counts[k]?=some (c:Int))(hi:idx<c):∃l:List Int,l.length=kd.fields.length/\(∀v∈l,-4294967396<=v/\v<=4294967396)/\Qq x p k kd l/\APure prog 62 [ax x,eE p,iD k,iD idx] (bj l):=by
 have u:=h.gx.nk;have y:=(zE.1 i).1;have z:x.kz[((k:Nat):Int).toNat]?=some kd:=i;have w:=h.gx.sm.nf kd (zG i);obtain⟨g,a⟩:=aV2 (n:=kd.fields.length) (q:=λ(j:Nat)(v:Int)=>(-4294967396<=v/\v<=4294967396)/\(∀d,kd.fields[j]?=some d->d.kind=1->Qp x p k j v)/\APure prog 107 [ax x,eE p,iD k,iD idx,iD j] (iD v)) λj hj=>by
  obtain⟨d,f⟩:∃d,kd.fields[j]?=some d:=⟨_,zD hj⟩
  obtain⟨v,h1,_,h3,h2⟩:=sx x p h (k+1) k (by omega) idx j kd d c i f hc hi;exact⟨v,h1,λC b e=>h3 (by rw[f]at b;cases b;exact e),h2⟩
 have hg:=λj hj=>(a j hj).2.2;refine⟨(List.range kd.fields.length).map g,by simp,λv t=>?_,λj d f e=>?_,?_⟩
 .obtain⟨j,hj,rfl⟩:=xM.1 t;exact(a j (xT.1 hj)).1
 .have hj:=(zE.1 f).1;rw[List.getD_eq_getElem?_getD,qA,xV hj];exact(a j hj).2.1 d f e
 refine ap func62 ntmps62 λF=>?_
 repeat refine rU ?_
 refine aR mixed ai (γ:=Nat×Value×af) (λg=>[(10,iD g.1),(9,.v g.2.1)]) (λg=>g.2.2) (λq=>q.1<=kd.fields.length/\Kw ((List.range q.1).map g) q.2.1 q.2.2) (λg=>kd.fields.length-g.1) (0,.slice none 0 0,[]) (aj av) (Sc.refl _) ⟨zW _,ae.nil _ _⟩ ?_;rintro⟨j,v,s⟩ ⟨hj,r⟩;simp only at hj r⊢;by_cases hjl:j<kd.fields.length
 .repeat refine rU ?_
  refine Ap.go rfl rfl rfl rfl r (bS _) rfl (zs:=((List.range (j+1)).map g).map λn=>[iD n]) (by rw[List.range_succ,yB,yB];rfl) (by rw[zL,zL,vU];omega) (by rw[zL,zL,vU];omega) (λo=>o) da (λE D o r=>?_)
  repeat refine rU ?_
  exact⟨(j+1,_,o),(aj av),Sc.refl _,⟨by simp only;omega,r⟩,by simp only;omega⟩
 .obtain rfl:j=kd.fields.length:=by omega
  repeat refine rU ?_
  exact Rt.vs (Vs.row r (bS _))
theorem uT(x:ak)(HC:APure prog 44 [ax x] (.sl 4 [])):APure prog 34 [ax x] (bD true):=by
 refine ap func34 ntmps34 λa=>?_
 repeat refine kD ?_
 refine Rt.pure (zM bD ?_);rfl
abbrev R2f:eF (List (List Int)):=λl v s=>ae 22 1 (l.map λr=>[bj r]) v s
abbrev Qs:eF Wd:=aN 70 R2f
theorem O3:FN R2f fV:=sY _ _ _
theorem O1:FN Qs jD:=ba8 O3
theorem Nr{l:List Int}(h:∀c∈l,0<=c/\c<=8):0<=l.sum/\l.sum<=8*(l.length:Int):=Pd
theorem iX.c8{x:ak}{p:eJ}(h:iX x p):∀c∈p.counts,0<=c/\c<=8:=λc d=>by
 obtain⟨i,a⟩:=yO d;have l:=(zE.1 a).1;rw[h.ok.cl]at l;obtain⟨f,b,e⟩:=h.ok.cnt h.gx (zD l);rw[a]at b;have:=wK b;omega
structure WOf(x:ak)(w:Wd):Prop where
 len:w.length=x.kz.length
 row:∀(k:Nat)kd l,x.kz[k]?=some kd->w[k]?=some l->∀r∈l,r.length=kd.fields.length
 ref:∀(k j:Nat)kd d l,x.kz[k]?=some kd->kd.fields[j]?=some d->d.kind=1->w[k]?=some l->∀r∈l,0<=r.getD j 0/\r.getD j 0<((w.getD (aI x k j).toNat []).length:Nat)
def dt(p:eJ)(G:Nat->Nat->List Int):Wd:=(List.range p.counts.length).map λk=>(List.range (p.counts.getD k 0).toNat).map (G k)
theorem ZW{p:eJ}{G:Nat->Nat->List Int}{k c:Nat}(h:p.counts[k]?=some (c:Int)):(dt p G)[k]?=some ((List.range c).map (G k)):=by
 unfold dt;rw[qA,xV (zE.1 h).1,Option.map_some,List.getD_eq_getElem?_getD,h]
 rfl
theorem fq{A B:Prop}(k:B)(h:ar B->A:=by intro q7;(first|refine bO ?_|refine aA ?_|(refine' ah ?hc ?_;(case hc=>first|exact HV|exact HR)));exact q7.1):A:=h ⟨k⟩
theorem So{A B:Prop}(k:B)(h:ar B->A:=by intro q7;(first|refine bO ?_|refine gX ?_|(refine' ah ?hc ?_;(case hc=>first|exact HV|exact HR)));exact q7.1):A:=h ⟨k⟩
theorem uS(x:ak)(p:eJ)(h:iX x p)(HV:APure prog 61 [ax x,eE p] (iD 0)):∃w,(fw w/\WOf x w)/\az prog 35 [ax x,eE p] [] (λd s=>∃v,d= .tup [.v v,iD 0]/\Qs w v s):=by
 have O:=h.gx;have hnk:=O.nk;have Q:=h.ok.cl;have J:=h.c8;obtain⟨G,M⟩:∃G:Nat->Nat->List Int,∀k kd,x.kz[k]?=some kd->∀(i c:Nat),p.counts[k]?=some (c:Int)->i<c->(G k i).length=kd.fields.length/\(∀v∈G k i,-4294967396<=v/\v<=4294967396)/\Qq x p k kd (G k i)/\APure prog 62 [ax x,eE p,iD k,iD i] (bj (G k i)):=by
  have hx:∀q:Nat×Nat,∃l:List Int,∀kd,x.kz[q.1]?=some kd->∀c:Nat,p.counts[q.1]?=some (c:Int)->q.2<c->l.length=kd.fields.length/\(∀v∈l,-4294967396<=v/\v<=4294967396)/\Qq x p q.1 kd l/\APure prog 62 [ax x,eE p,iD q.1,iD q.2] (bj l):=λq=>by
   by_cases hq:∃kd,x.kz[q.1]?=some kd/\∃c:Nat,p.counts[q.1]?=some (c:Int)/\q.2<c
   .obtain⟨kd,h1,c,h2,h3⟩:=hq;obtain⟨l,hl⟩:=pN x p h q.1 q.2 kd c h1 h2 h3;exact⟨l,λkd' e _ _ _=>by rw[h1]at e;cases e;exact hl⟩
   .exact⟨[],λkd h1 c h2 h3=>absurd ⟨kd,h1,c,h2,h3⟩ hq⟩
  obtain⟨G,M⟩:=Classical.axiomOfChoice hx;exact⟨λk i=>G (k,i),λk kd h1 i c h2 h3=>M (k,i) kd h1 c h2 h3⟩
 have a:(dt p G).length=p.counts.length:=by unfold dt;simp
 refine⟨dt p G,?_,?_⟩
 .have K:∀l∈dt p G,∃(k c:Nat)(kd:au),x.kz[k]?=some kd/\p.counts[k]?=some (c:Int)/\c<=8/\l=(List.range c).map (G k):=λl hl=>by
   obtain⟨k,o⟩:=yO hl;have D:=(zE.1 o).1;rw[a,Q]at D;obtain⟨c,h1,h2⟩:=h.ok.cnt O (zD D);rw[ZW h1]at o;exact⟨k,c,_,zD D,h1,h2,(wK o).symm⟩
  refine⟨⟨by rw[a];omega,λl hl=>?_,λl hl r I=>?_,λl hl r I v hv=>?_⟩,⟨by rw[a,Q],λk kd l o hl r I=>?_,λk j kd d l o hd e1 hl r I=>?_⟩⟩
  rotate_right 2
  .obtain⟨c,h1,h2⟩:=h.ok.cnt O o;rw[ZW h1]at hl;obtain rfl:=wK hl;obtain⟨i,hi,rfl⟩:=xM.1 I;exact(M k kd o i c h1 (xT.1 hi)).1
  .obtain⟨c,h1,h2⟩:=h.ok.cnt O o;rw[ZW h1]at hl;obtain rfl:=wK hl;obtain⟨i,hi,rfl⟩:=xM.1 I;obtain⟨t,ct,h3,h4,h5,h6⟩:=(M k kd o i c h1 (xT.1 hi)).2.2.1 j d hd e1;rw[h3,Int.toNat_natCast,show(dt p G).getD t []=(List.range ct).map (G t) by rw[List.getD_eq_getElem?_getD,ZW h4];rfl,zL,vU];exact⟨h5,h6⟩
  .obtain⟨k,c,kd,_,_,h3,rfl⟩:=K l hl;simp;omega
  .obtain⟨k,c,kd,h1,h2,h3,rfl⟩:=K l hl;obtain⟨i,hi,rfl⟩:=xM.1 I;have:=(M k kd h1 i c h2 (xT.1 hi)).1;have:=O.sm.nf kd (zG h1);omega
  .obtain⟨k,c,kd,h1,h2,h3,rfl⟩:=K l hl;obtain⟨i,hi,rfl⟩:=xM.1 I;have:=(M k kd h1 i c h2 (xT.1 hi)).2.1 v hv;exact⟨by omega,by omega⟩
 refine cP func35 ntmps35 λBB=>?_
 repeat' first|refine fq ?_|intro b;conv=>whnf
 refine aR mixed ai (γ:=Nat) (λi=>[(7,iD (p.counts.take i).sum),(8,iD i)]) (λ_=>[]) (λi=>i<=p.counts.length) (λi=>p.counts.length-i) 0 (aj av) (Sc.refl _) (zW _) ?_;intro i hi;by_cases hil:i<p.counts.length
 .obtain⟨c,S⟩:∃c,p.counts[i]?=some c:=⟨_,zD hil⟩
  have hc:p.counts[((i:Nat):Int).toNat]?=some c:=S;have hsn:(p.counts.take (i+1)).sum=(p.counts.take i).sum+c:=by rw[xC,S,vO];simp
  have h1:=Nr (l:=p.counts.take i) λc hc=>J c (xG hc);have h2:=Nr (l:=p.counts.take (i+1)) λc hc=>J c (xG hc);rw[zR]at h1 h2
  repeat' first|refine fq ?_|intro b;conv=>whnf
  exact⟨i+1,(aj av),Sc.refl _,by omega,by omega⟩
 obtain rfl:i=p.counts.length:=by omega
 rw[yM];have hsum:=Nr J;clear hi hil
 repeat' first|refine fq ?_|intro b;conv=>whnf
 refine Mk.go p.counts.length rfl rfl rfl rfl rfl (by simp) (by omega) (by omega) (λE=>?_)
 repeat' first|refine fq ?_|intro b;conv=>whnf
 have L:Qs ((dt p G).take 0++List.replicate ((dt p G).length-0) []) (.slice (some ⟨E,0,none⟩) (dt p G).length (dt p G).length) [(E,.cells 70 (List.replicate (dt p G).length (.v (.slice none 0 0))))]:=
  aN.made (R:=R2f) (x0:=[]) (ae.nil _ _) _ E (by unfold maxLen;omega)
 rw[a]at L;refine aR mixed ai (γ:=Nat×af) (λg=>[(10,iD g.1)]) (λg=>g.2) (λg=>g.1<=p.counts.length/\Qs ((dt p G).take g.1++List.replicate (p.counts.length-g.1) []) (.slice (some ⟨E,0,none⟩) p.counts.length p.counts.length) g.2) (λg=>p.counts.length-g.1) (0,_) (aj av) (Sc.refl _) ⟨zW _,L⟩ ?_;clear L;rintro⟨k,s⟩ ⟨o,z⟩;simp only at o z⊢;by_cases D:k<p.counts.length
 .obtain⟨kd,P⟩:∃y,x.kz[k]?=some y:=⟨_,zD (by omega)⟩
  obtain⟨c,hc,hc8'⟩:=h.ok.cnt O P;have hc':p.counts[((k:Nat):Int).toNat]?=some (c:Int):=hc;have C:k<(dt p G).length:=by omega
  have hl:=ZW (G:=G) hc;rw[←a,np C]at z
  repeat' first|refine fq ?_|intro b;conv=>whnf
  refine aR mixed ai (γ:=Nat×af) (λg=>[(11,iD g.1)]) (λg=>g.2) (λg=>g.1<=c/\Qs (oK (dt p G) k (((List.range c).map (G k)).take g.1)) (.slice (some ⟨E,0,none⟩) (dt p G).length (dt p G).length) g.2) (λg=>c-g.1) (0,s) (aj av) (Sc.refl _) ⟨zW _,z⟩ ?_;clear z;rintro⟨i,s⟩ ⟨hi,z⟩;simp only at hi z⊢;by_cases hil:i<c
  .have HR:=(M k kd P i c hc hil).2.2.2;have U:((List.range c).map (G k)).take (i+1)=((List.range c).map (G k)).take i++[G k i]:=by
    rw[xC,qA,xV hil];rfl
   obtain⟨b0,cap0,f,u,t,τ,e0,p0,c0,hu,T⟩:=aN.at z (Lg C (((List.range c).map (G k)).take i));rw[Cr C]at e0
   cases e0
   obtain⟨a1,ca1,rfl⟩:=ae.slice hu
   repeat' first|refine So ?_|intro b;conv=>whnf
   refine ja ?_;refine jt mixed ai rfl [0,1,2,3,4,5,6,7,8,9,10,11] 3 (i8 [12,14]) (.one 12 (.fst 13 (.one 14 .done))) (γ:=af) (λ_=>[]) (λg=>g) (λg=>Qs (oK (dt p G) k (((List.range c).map (G k)).take (i+1))) (.slice (some ⟨E,0,none⟩) (dt p G).length (dt p G).length) g) (by decide +kernel) ?_ ?_
   .repeat' first|refine fq ?_|intro b;conv=>whnf|(refine And.intro ?_ ?_<;>(conv=>whnf))|(refine Ld.cellm (tb:=70) (cs:=f) (p0.mem_iff.2 yN) (by rw[dW];exact c0) ?_)|(refine Ap.go rfl rfl rfl rfl hu (τ:=(E,.cells 70 f)::τ) (p0.trans List.perm_middle.symm) rfl (zs:=(((List.range c).map (G k)).take (i+1)).map λr=>[bj r]) (by rw[U,yB];rfl) (by rw[zL,zR];simp;omega) (by rw[zL,zR];simp;omega) (λZ=>Z++((E,.cells 70 f)::τ)) (λZ=>zH _) (λa6 c6 Y V=>?_))
    have F:=T (((List.range c).map (G k)).take (i+1)) _ _ ((E,.cells 70 (f.set k (.v (.slice a6 ((((List.range c).map (G k)).take (i+1)).map λr=>[bj r]).length c6))))::(Y++τ)) V (zH _);rw[Cq C]at F;refine Sv.cellm (tb:=70) (cs:=f) (cs':=f.set k (.v (.slice a6 ((((List.range c).map (G k)).take (i+1)).map λr=>[bj r]).length c6))) (τ:=Y++τ) List.perm_middle (by rw[dW];exact(zE.1 c0).1) rfl (by rw[dW]) ?_
    repeat' first|refine fq ?_|intro b;conv=>whnf
    exact⟨_,(aj aQ),Sc.refl _,F⟩
   .intro g X
    repeat' first|refine fq ?_|intro b;conv=>whnf
    exact⟨(i+1,g),(aj av),Sc.refl _,⟨by simp only;omega,X⟩,by simp only;omega⟩
  .obtain rfl:i=c:=by omega
   rw[yL (by simp),sJ hl,a]at z
   repeat' first|refine fq ?_|intro b;conv=>whnf
   exact⟨(k+1,s),(aj av),Sc.refl _,⟨by simp only;omega,z⟩,by simp only;omega⟩
 .obtain rfl:k=p.counts.length:=by omega
  rw[show(dt p G).take p.counts.length=dt p G by rw[←a,yM],wH,List.replicate_zero,zZ]at z
  repeat' first|refine fq ?_|intro b;conv=>whnf
  exact Rt.same ⟨_,rfl,z⟩
theorem ud{P:Program}{f:FuncId}{args:List D}{w:Wd}(h:az P f args [] (λd s=>∃v,d= .tup [.v v,iD 0]/\Qs w v s)):APure P f args (.tup [jD w,iD 0]):=
 APure.of_call (az.vs (az.imp h λd s⟨v,a,r⟩=>by rw[a];exact Rt.vs (Vs.tup (.cons (Vs.frz (τ:=[]) O1 r (by simp)) (.cons (Vs.refl _ _) (.nil _))))))
theorem Sn{A B:Prop}(k:B)(h:ar B->A:=by intro q7;(first|refine bO ?_|refine aA ?_|(refine' ah ?hc ?_;(case hc=>exact HV)));exact q7.1):A:=h ⟨k⟩
theorem pL(x:ak)(p:eJ)(e:Int)(h0:e≠0)(HV:APure prog 61 [ax x,eE p] (iD e)):APure prog 35 [ax x,eE p] (.tup [jD [],iD e]):=by
 refine ap func35 ntmps35 λa=>?_
 repeat' first|refine Sn ?_|intro b;conv=>whnf
 exact Rt.vs (Vs.tup (.cons (bc9 _ _) (.cons (Vs.refl _ _) (.nil _))))
section
open Go.RowKit Go.Shelf
variable {P:Program} {T:TypeId->Option TI} {σ:af} {N:Nat} {f:aM} {fn:Func}
theorem pB3(A:∀t i,T t=some i->aE P t=some i){i i2 j m b:Nat}{t tb:TypeId}{cs:List D}{c:TI}{d d2:D}{K:D->Prop}(h:fn.results= #[.cell j t,.tmp i,.tmp i2])(y:aK f (.tmp i)=d)(g:aK f (.tmp i2)=d2)(x:aK f (.tmp j)= .v (.pointer (some ⟨b,0,none⟩)))(z:σ[m]?=some (b,.cells tb cs))(r:T t=some c)(n:c.agg=true)(s:c.size=cs.length)
  (k:W (K (.tup [.agg cs,d,d2]))):Rs P N fn f σ K:=by
 subst y g;refine⟨_,λa o=>?_,k.h⟩;intro w X p l e;obtain⟨vs,B,q⟩:=aw7 A e z r n s;have u:=(j5 l j).val (o.eq x (λh=>by cases h));refine⟨.tuple #[.agg vs.toArray,p.getD i undef,p.getD i2 undef],by simp[results,h,u,asAddr,B,Result.andThen,-Array.getD_eq_getD_getElem?],?_⟩;have:=be.cons (Rd.agg (w:=w) (O:=ay σ X) cs vs q.len q.at_) (be.cons (re o i _ _ _ (j5 l i)) (be.cons (re o i2 _ _ _ (j5 l i2)) be.nil));exact .tup _ _ this.len this.at_
end
theorem zn:fw []:=⟨by simp,by simp,by simp,by simp⟩
theorem iz{A B:Prop}(k:B)(h:ar B->A:=by intro q7;(first|refine bO ?_|refine aA ?_|(refine' ah ?hc ?_;(case hc=>first|exact HS|exact HW)));exact q7.1):A:=h ⟨k⟩
theorem BH(x:ak)(h:bL x)(C:APure prog 44 [ax x] (.sl 4 []))(l:List Int)(hl:ef l):az prog 8 [ax x,bj l] [] (λd σ=>∃p w is,d= .tup [eE p,jD w,bD is]/\σ=[]/\fw w/\(is=true->WOf x w)):=by
 have P:=BN x h.lim h.fbs C l hl;have HS:=uT x C;refine cP func8 ntmps8 λq=>?_
 repeat' first|refine iz ?_|intro b;conv=>whnf
 obtain⟨n,rfl⟩:∃c,c=b:=⟨_,rfl⟩
 refine bc P (zH ([]++_)) (λs=>s++_) (λs=>zH _) ?_;rintro _ _ ⟨p,is,rfl,rfl,j,f⟩
 cases is with
 |false=>
  repeat' first|refine iz ?_|intro b;conv=>whnf
  refine pB3 ai (m:=1) rfl rfl rfl rfl rfl rfl rfl rfl ?_
  repeat' first|refine iz ?_|intro b;conv=>whnf
  exact Rt.by (σ':=[]) (d':=.tup [eE p,jD [],bD false]) (Vs.vd ⟨_,by rw[zZ]⟩ (Vd.tup (.cons (Vd.same (λz a=>by cases a) _) (.cons (Vd.nil _) (.cons (Vd.same (λz a=>by cases a) _) .nil))))) ⟨p,[],false,rfl,rfl,zn,λh=>by cases h⟩
 |true=>
  obtain⟨e,k,V⟩:=uW x h C p j (f rfl);by_cases h0:e=0
  .subst h0;obtain⟨w,⟨i,o⟩,g⟩:=uS x p (k rfl) V;have HW:=ud g
   repeat' first|refine iz ?_|intro b;conv=>whnf
   refine pB3 ai (m:=1) rfl rfl rfl rfl rfl rfl rfl rfl ?_
   repeat' first|refine iz ?_|intro b;conv=>whnf
   exact Rt.by (σ':=[]) (d':=.tup [eE p,jD w,bD true]) (Vs.vd ⟨_,by rw[zZ]⟩ (Vd.same (λz a=>by cases a) _)) ⟨p,w,true,rfl,rfl,i,λ_=>o⟩
  .have HW:=pL x p e h0 V
   repeat' first|refine iz ?_|intro b;conv=>whnf
   refine pB3 ai (m:=1) rfl rfl rfl rfl rfl rfl rfl rfl ?_
   repeat' first|refine iz ?_|intro b;conv=>whnf
   exact Rt.by (σ':=[]) (d':=.tup [eE p,jD [],bD (decide (e=0))]) (Vs.vd ⟨_,by rw[zZ]⟩ (Vd.same (λz a=>by cases a) _)) ⟨p,[],_,rfl,rfl,zn,λh=>absurd (wY h) h0⟩
end
section
open Go
theorem Gj{x:ak}(h:ik x=true):fI x=0:=by unfold fI;rw[if_pos h]
theorem Qm{x:ak}(h:ik x=false):fI x=1:=by unfold fI;rw[h];rfl
theorem eg{A B:Prop}(k:B)(h:ar B->A:=by intro q7;(first|refine bC ?_|refine aA ?_|(refine' ah ?hc ?_;(case hc=>first|exact Q0 _ _ _|exact HK|exact HL|exact aT5 _)));exact q7.1):A:=h ⟨k⟩
theorem ve(x:ak)(g:Fe x):APure prog 83 [ax x] (iD (fI x)):=by
 refine ap func83 ntmps83 λv=>?_
 cases h1:cA x.vz 0 1048576
 .have E:fI x=1:=Qm (by simp[ik,h1])
  repeat' first|refine eg ?_|(refine aV ?_;constructor<;>intro hc)
  all_goals(refine Rt.pure (zM iD ?_);exact E.symm)
 by_cases h2:x.kz.length<=6
 case neg=>
  have E:fI x=1:=Qm (by simp[ik,h2])
  repeat' first|refine eg ?_|(refine aV ?_;constructor<;>intro hc)
  all_goals(refine Rt.pure (zM iD ?_);exact E.symm)
 by_cases h3:x.lz.length<=6
 case neg=>
  have E:fI x=1:=Qm (by simp[ik,h3])
  repeat' first|refine eg ?_|(refine aV ?_;constructor<;>intro hc)
  all_goals(refine Rt.pure (zM iD ?_);exact E.symm)
 by_cases h4:x.rules.length<=16
 case neg=>
  have E:fI x=1:=Qm (by simp[ik,h4])
  repeat' first|refine eg ?_|(refine aV ?_;constructor<;>intro hc)
  all_goals(refine Rt.pure (zM iD ?_);exact E.symm)
 repeat refine eg ?_
 refine fZ mixed ai (γ:=Nat) (λq=>[(3,iD q)]) (λ_=>[]) (λq=>q<=x.kz.length/\∀(m:Nat)y,m<q->x.kz[m]?=some y->jv y=true) (λq=>x.kz.length-q) 0 rfl rfl ⟨by omega,λm y p=>by omega⟩ ?_;rintro q ⟨r,o⟩;by_cases hlt:q<x.kz.length
 .obtain⟨k,b⟩:∃k,x.kz[(q:Int).toNat]?=some k:=⟨_,zD hlt⟩
  have i:=zG b;have a:=g.sm.kz k i;have HK:=qc k (λf t=>⟨(a.fields f t).nwords,(a.fields f t).nweights⟩) a.nfields
  repeat' first|refine eg ?_|(refine aV ?_;constructor<;>intro hc)
  .exact⟨q+1,rfl,rfl,⟨by omega,JQ o b (by assumption)⟩,by omega⟩
  .refine Rt.pure (zM iD ?_);exact(Qm (by simp only[ik,J' b (by assumption:jv k=false)];simp)).symm
 have n:x.kz.all jv=true:=J7 (λm y p hy=>o m y (by omega) hy);clear o
 repeat refine eg ?_
 refine fZ mixed ai (γ:=Nat) (λq=>[(4,iD q)]) (λ_=>[]) (λq=>q<=x.lz.length/\∀(m:Nat)y,m<q->x.lz[m]?=some y->j6 y=true) (λq=>x.lz.length-q) 0 rfl rfl ⟨by omega,λm y p=>by omega⟩ ?_;clear r hlt;rintro q ⟨r,o⟩;by_cases hlt:q<x.lz.length
 .obtain⟨k,b⟩:∃k,x.lz[(q:Int).toNat]?=some k:=⟨_,zD hlt⟩
  have i:=zG b;have a:=g.sm.lz k i;have HL:=qb k a.nstates a.nmoves
  repeat' first|refine eg ?_|(refine aV ?_;constructor<;>intro hc)
  .exact⟨q+1,rfl,rfl,⟨by omega,JQ o b (by assumption)⟩,by omega⟩
  .refine Rt.pure (zM iD ?_);exact(Qm (by simp only[ik,J' b (by assumption:j6 k=false)];simp)).symm
 have l:x.lz.all j6=true:=J7 (λm y p hy=>o m y (by omega) hy);clear o
 repeat refine eg ?_
 refine fZ mixed ai (γ:=Nat) (λq=>[(5,iD q)]) (λ_=>[]) (λq=>q<=x.rules.length/\∀(m:Nat)y,m<q->x.rules[m]?=some y->xj y=true) (λq=>x.rules.length-q) 0 rfl rfl ⟨by omega,λm y p=>by omega⟩ ?_;clear r hlt;rintro q ⟨r,o⟩;by_cases hlt:q<x.rules.length
 .obtain⟨k,b⟩:∃k,x.rules[(q:Int).toNat]?=some k:=⟨_,zD hlt⟩
  repeat' first|refine eg ?_|(refine aV ?_;constructor<;>intro hc)
  .exact⟨q+1,rfl,rfl,⟨by omega,JQ o b (by assumption)⟩,by omega⟩
  .refine Rt.pure (zM iD ?_);exact(Qm (by simp only[ik,J' b (by assumption:xj k=false)];simp)).symm
 have j:x.rules.all xj=true:=J7 (λm y p hy=>o m y (by omega) hy);have e:ik x=true:=by simp only[ik,h1,n,l,j];simp;omega
 have E:=Gj e;have S:=pT x (Av e g);have u:=g.src e
 repeat refine eg ?_
 refine CE.some S ?_;rintro _ ⟨s,rfl,hs⟩
 repeat refine eg ?_
 refine Rt.pure (zM iD ?_);exact E.symm
end
section
open Go Go.RowKit
theorem RG{o:Wd}{v:Value}{σ:af}(h:RW o v σ){k i:Nat}{l:List (List Int)}{r:List Int}(G:o[k]?=some l)(E:l[i]?=some r) :
  ∃m e b f c d n t2 ρ,v= .slice (some ⟨m,0,none⟩) o.length e/\σ.Perm ((m,.cells 70 b)::(f,.cells 22 d)::(t2++ρ))/\b[k]?=some (.v (.slice (some ⟨f,0,none⟩) l.length c))/\d[i]?=some (.v n)/\RI r n t2 /\
   ∀p g j s,RI p g j->s.Perm ((m,.cells 70 b)::(f,.cells 22 (d.set i (.v g)))::(j++ρ))->RW (o.set k (l.set i p)) v s:=by
 obtain⟨m,e,b,u,t,τ,e0,B,z,C,q⟩:=aN.at h G;obtain⟨f,c,d,n,t2,τ2,y,A,c1,w,up1⟩:=aN.at C E;subst y;refine⟨m,e,b,f,c,d,n,t2,τ2++τ,e0,?_,z,c1,w,λp g j s x F=>?_⟩
 .refine gz λa=>?_;have y:=Q9 B a;have J:=Q9 A a;simp only[List.append_eq,List.nil_append,gy,hY,gO]at y J⊢;omega
 .have D:b.set k (.v (.slice (some ⟨f,0,none⟩) l.length c))=b:=by
   obtain⟨I,H⟩:=zE.1 z;rw[←H];exact List.set_getElem_self I
  refine q _ (.slice (some ⟨f,0,none⟩) l.length c) ((f,.cells 22 (d.set i (.v g)))::(j++τ2)) _ (up1 p g j _ x (zH _)) ?_;rw[D];refine F.trans (gz λa=>?_);simp only[List.append_eq,List.nil_append,gy,hY,gO];omega
theorem OC{r:List Int}(h:1<=r.length):(r.map λn=>[iD n])≠[]:=λe=>by
 have:=zM List.length e;rw[zL]at this;simp only[List.length_nil]at this;omega
theorem WSz.wsA{w:Wd}(h:WSz 10 10 50 w):Ws w:=⟨by have:=h.k;omega,λl a=>by have:=h.n l a;omega,λl a r b=>by have:=h.f l a r b;omega⟩
theorem PY{x:ak}{p:cE}{w u:Wd}(h:ke x p w u)(a:fw w):∀l∈u,l.length<=10/\∀r∈l,r.length<=50:=by
 intro l e;obtain⟨k,b,rfl⟩:=aL7 (d:=[]) e;have j:=a.n _ (Mz (d:=[]) (h.k ▸ b));refine⟨by rw[h.n];exact j,λr c=>?_⟩;obtain⟨i,f,rfl⟩:=aL7 (d:=[]) c;have g:=a.f _ (Mz (d:=[]) (h.k ▸ b)) _ (Mz (d:=[]) (h.n k ▸ f));rw[h.f];exact g
theorem N'(a b:Nat×aB)(s:af):(s++[a,b]).Perm (b::(s++[a])):=by
 rw[show s++[a,b]=(s++[a])++[b] by simp];exact yT (l₂:=[b])
theorem Hm{x:ak}{k f:Nat}{kd:au}{d:am}(h:x.kz[k]?=some kd)(a:kd.fields[f]?=some d):pH x k f=decide (d.kind=1):=by unfold pH;rw[h];simp only;rw[a]
theorem wk{p:cE}{i:Nat}{y:VI}(h:p[i]?=some y)(k f:Nat):nK (p.take (i+1)) k f=(nK (p.take i) k f||(decide (y.op=5)&&decide (y.b=k)&&decide (y.c=f))):=by
 unfold nK;rw[xC,h,List.any_append];simp
theorem bs8{σ:af}{x y:Nat×aB}{t:af}(h:σ.Perm (x::y::t)):x∈σ:=h.mem_iff.2 yN
theorem bs7{σ:af}{x y:Nat×aB}{t:af}(h:σ.Perm (x::y::t)):y∈σ:=h.mem_iff.2 (yQ _ yN)
theorem fw.num{w:Wd}(h:fw w):iY w:=λl c r b v a=>by
 have:=(h.v l c r b v a).lo;have:=(h.v l c r b v a).hi;simp[en];omega
theorem dH{A B:Prop}(k:B)(h:ar B->A:=by intro q7;(first|refine bO ?_|refine aA ?_|(refine' ah ?hc ?_;(case hc=>first|exact aW2|exact HRun)));exact q7.1):A:=h ⟨k⟩
theorem mC{A B:Prop}(k:B)(h:ar B->A:=by intro q7;(first|refine bO ?_|refine aA ?_|(refine' ah ?hc ?_;(case hc=>exact HA5)));exact q7.1):A:=h ⟨k⟩
theorem Sm{A B:Prop}(k:B)(h:ar B->A:=by intro q7;(first|refine bO ?_|refine gX ?_|(refine' ah ?hc ?_;(case hc=>exact HA5)));exact q7.1):A:=h ⟨k⟩
theorem rT{A B:Prop}(k:B)(h:ar B->A:=by intro q7;(first|refine bO ?_|refine gX ?_|(refine' ah ?hc ?_;(case hc=>first|exact hO|exact hR1|exact hR2|exact aW2)));exact q7.1):A:=h ⟨k⟩
theorem sq8{A B:Prop}(k:B)(h:ar B->A:=by intro q7;(first|refine rT ?_|(with_reducible refine Br.t (yJ trivial) ?_)|(with_reducible refine Br.t (yJ rfl) ?_)|(with_reducible refine Br.t (wP _) ?_));exact q7.1):A:=h ⟨k⟩
theorem Pp{p:Prop}(h:p:=by rw[show 0+((k:Nat):Int).toNat*1=k by simp];exact z0):p:=h
theorem L7{p:Prop}(h:p:=by
 exact⟨(f+1,a3,u3,s4),(aj av),Sc.refl _,⟨by simp only;omega,by simp only;omega,hal3,hnu3,hv3⟩,by simp only;omega⟩):p:=h
theorem LG{p:Prop}(h:p:=by
 repeat' first|refine rT ?_|intro b;conv=>whnf
 exact⟨b,(aj av),Sc.refl _,trivial⟩):p:=h
theorem l30_read(l m q j:List Int)(hl:ef l)(hm:ef m)(hq:ef q)(h3:ef j):APure prog 5 [bj l,bj m,bj q,bj j] (bD true):=by
 have HRun:=True.intro;refine ap func5 ntmps5 λBB=>?_
 repeat' first|refine dH ?_|intro b;conv=>whnf
 refine CE.some (cd.of_call ((pU l hl).imp λd σ⟨x,e,_,h⟩=>⟨x,e,h⟩):cd prog 7 [bj l] (λd=>∃x,d=ax x/\bL x)) ?_;rintro _ ⟨x,rfl,o⟩;have hp:=o.probs0;have hnk:=o.nk;have HV:=bd7 x o.cls.good;have HR:=ve x o.cls.good;have HC:=vb x HR;rw[hp]at HC;have hnf:=o.sm.nf
 repeat' first|refine dH ?_|intro b;conv=>whnf
 obtain⟨bx,rfl⟩:∃bx,bx=b:=⟨_,rfl⟩
 refine bc (s:=[]) (BH x o HC m hm) (zH ([]++_)) (λX=>X++_) (λX=>zH _) ?_;rintro _ _ ⟨I,w,is,rfl,rfl,P,S⟩
 cases is with
 |false=>
  repeat' first|refine dH ?_|intro b;conv=>whnf
  exact Rt.vs (Vs.drop (yV _))
 |true=>
  have S:=S rfl
  repeat' first|refine dH ?_|intro b;conv=>whnf
  obtain⟨J,rfl⟩:∃c,c=b:=⟨_,rfl⟩
  refine bc (s:=[]) (m5 x o q hq) (zH ([]++_)) (λX=>X++_) (λX=>zH _) ?_;rintro _ _ ⟨rfl,p,rfl,hP⟩
  repeat' first|refine dH ?_|intro b;conv=>whnf
  refine bc (s:=[]) (uU w P.sz (by decide) (by decide) (by decide)) (zH ([]++_)) (λX=>X++_) (λX=>zH _) ?_;rintro _ s1 ⟨v1,rfl,hv1⟩;obtain⟨ca,cc,rfl⟩:=aN.slice hv1
  repeat' first|refine dH ?_|intro b;conv=>whnf
  refine xg (i:=9) (d':=.ro (uH x)) (τ:=s1++[(J,.cells 31 (tO I))]) rfl (λh=>by cases h) (Vs.ptr (tb:=27) (cs:=uH x) (b:=bx) (by exact N' _ _ _)) ?_;have hwk:=P.k;have hpl:=hP.len;refine aR mixed ai (γ:=Nat×Nat×Wd×af) (λg=>[(16,iD g.1),(15,iD g.2.1)]) (λg=>g.2.2.2++[(J,.cells 31 (tO I))]) (λg=>g.1<=w.length/\g.2.1<=g.1*1000/\ke x p w g.2.2.1/\iY g.2.2.1/\RW g.2.2.1 (.slice ca w.length cc) g.2.2.2) (λg=>w.length-g.1) (0,0,w,s1) (aj av) (Sc.refl _) ⟨zW _,zW _,ke.refl x p w,P.num,hv1⟩ ?_;rintro⟨k,a1,u,s2⟩ ⟨hk,ha1,M,hnu,hv⟩;simp only at hk ha1 M hnu hv⊢;by_cases hkl:k<w.length
  .obtain⟨kd,T⟩:∃kd,x.kz[((k:Nat):Int).toNat]?=some kd:=⟨_,zD (by have:=S.len;omega)⟩
   have hfl:=hnf kd (zG T)
   repeat' first|refine dH ?_|intro b;conv=>whnf
   refine aR mixed ai (γ:=Nat×Nat×Wd×af) (λg=>[(17,iD g.1),(15,iD g.2.1)]) (λg=>g.2.2.2++[(J,.cells 31 (tO I))]) (λg=>g.1<=kd.fields.length/\g.2.1<=k*1000+g.1*50/\ke x p w g.2.2.1/\iY g.2.2.1/\RW g.2.2.1 (.slice ca w.length cc) g.2.2.2) (λg=>kd.fields.length-g.1) (0,a1,u,s2) (aj av) (Sc.refl _) ⟨zW _,by omega,M,hnu,hv⟩ ?_;rintro⟨f,a2,u2,s3⟩ ⟨hf,ha2,L,K,hv2⟩;simp only at hf ha2 L K hv2⊢;by_cases hff:f<kd.fields.length
   .obtain⟨d,hd⟩:∃d,kd.fields[((f:Nat):Int).toNat]?=some d:=⟨_,zD (by omega)⟩
    have hrf:=Hm (x:=x) T hd;rw[Int.toNat_natCast,Int.toNat_natCast]at hrf
    repeat' first|refine dH ?_|intro b;conv=>whnf
    refine aR mixed ai (γ:=Nat×Bool) (λg=>[(19,iD g.1),(18,bD g.2)]) (λ_=>s3++[(J,.cells 31 (tO I))]) (λg=>g.1<=p.length/\g.2=(pH x k f||nK (p.take g.1) k f)) (λg=>p.length-g.1) (0,decide (d.kind=1)) (aj av) (Sc.refl _) ⟨zW _,by rw[hrf];simp[nK]⟩ ?_;rintro⟨i,bb⟩ ⟨hi,C⟩;simp only at hi C⊢;by_cases hil:i<p.length
    .obtain⟨y,hy⟩:∃y,p[((i:Nat):Int).toNat]?=some y:=⟨_,zD (by omega)⟩
     have Q:=wk (p:=p) (i:=i) hy k f
     cases bb with
     |true=>
      repeat' first|refine dH ?_|intro b;conv=>whnf
      exact⟨(i+1,true),(aj av),Sc.refl _,⟨by simp only;omega,by rw[Q,←Bool.or_assoc,←C];rfl⟩,by simp only;omega⟩
     |false=>
      by_cases h5:y.op=5
      .by_cases hb5:y.b=(k:Int)
       .repeat' first|refine dH ?_|intro b;conv=>whnf
        exact⟨(i+1,decide (y.c=(f:Int))),(aj av),Sc.refl _,⟨by simp only;omega,by rw[Q,←Bool.or_assoc,←C,h5,hb5];simp⟩,by simp only;omega⟩
       .repeat' first|refine dH ?_|intro b;conv=>whnf
        exact⟨(i+1,false),(aj av),Sc.refl _,⟨by simp only;omega,by rw[Q,←Bool.or_assoc,←C];simp[hb5]⟩,by simp only;omega⟩
      .repeat' first|refine dH ?_|intro b;conv=>whnf
       exact⟨(i+1,false),(aj av),Sc.refl _,⟨by simp only;omega,by rw[Q,←Bool.or_assoc,←C];simp[h5]⟩,by simp only;omega⟩
    .obtain rfl:i=p.length:=by omega
     rw[yM]at C
     repeat' first|refine dH ?_|intro b;conv=>whnf
     refine aR mixed ai (γ:=Nat×Nat×Wd×af) (λg=>[(20,iD g.1),(15,iD g.2.1)]) (λg=>g.2.2.2++[(J,.cells 31 (tO I))]) (λg=>g.1<=(w.getD k []).length/\g.2.1<=k*1000+f*50+g.1/\ke x p w g.2.2.1/\iY g.2.2.1/\RW g.2.2.1 (.slice ca w.length cc) g.2.2.2) (λg=>(w.getD k []).length-g.1) (0,a2,u2,s3) (aj av) (Sc.refl _) ⟨zW _,by simp only;omega,L,K,hv2⟩ ?_;rintro⟨i,a3,u3,s4⟩ ⟨hi,ha3,hal3,hnu3,hv3⟩;simp only at hi ha3 hal3 hnu3 hv3⊢;obtain⟨l3,F⟩:∃y,u3[k]?=some y:=⟨_,zD (by have:=hal3.k;omega)⟩
     have hl3n:l3.length=(w.getD k []).length:=by have:=hal3.n k;rwa [getD_some F]at this
     have hwn:(w.getD k []).length<=10:=P.n _ (Mz hkl);by_cases hgo:i<(w.getD k []).length/\bb=false
     .obtain⟨U,rfl⟩:=hgo;obtain⟨E,R⟩:∃y,l3[i]?=some y:=⟨_,zD (by omega)⟩
      obtain⟨b0,O,z,b1,cap1,G,uu,t2,ρ,e0,q0,z0,V,hu2,up⟩:=RG hv3 F R;obtain⟨rfl,rfl⟩:ca=some ⟨b0,0,none⟩/\cc=O:=by simp only[Value.slice.injEq]at e0;exact⟨e0.1,e0.2.2⟩
      have m0:(b0,aB.cells 70 z)∈s4++[(J,aB.cells 31 (tO I))]:=xK _ (bs8 q0);have m1:(b1,aB.cells 22 G)∈s4++[(J,aB.cells 31 (tO I))]:=xK _ (bs7 q0);have hrn:E.length=kd.fields.length:=by
       obtain⟨l0,hl0⟩:∃y,w[k]?=some y:=⟨_,zD hkl⟩
       have h1:=hal3.f k i;rw[getD_some F,getD_some R,getD_some hl0]at h1;rw[getD_some hl0]at U;rw[h1];exact S.row k kd l0 T hl0 _ (Mz U)
      have Y:ae 3 1 (E.map λn=>[iD n]) uu t2:=hu2;obtain⟨b2,Z,ju,g1,g2,-⟩:=ae.block Y (OC (by have:=o.kpos T;omega));rw[zL]at g1;subst g1 g2;obtain⟨v0,v9⟩:=de j a3 1000
      replace v9:=v9 (by decide)
      have hfo:(E.map λn=>[iD n])[f]?=some [iD (E.getD f 0)]:=by rw[qA,List.getD_eq_getElem?_getD,zD (by omega)];rfl
      have hpt:=pB1 (d:=iD (aw j a3 1000-500)) Y hfo (m:=0) (by decide);have HA5:=Q6 j h3 a3 1000;have hfl2:f*1+0<((E.map λn=>[iD n]).flatten++ju).length:=by
       have:∀t:List Int,(t.map λn=>[iD n]).flatten.length=t.length:=λt=>by induction t with
        |nil=>rfl
        |cons a t ih=>simp[List.flatten,ih]
       rw[zI,this];omega
      repeat' first|refine mC ?_|intro b;conv=>whnf|(refine Ld.cellm (tb:=70) (cs:=z) m0 Pp ?_)|(refine Ld.cellm (tb:=22) (cs:=G) m1 (by rw[show 0+((i:Nat):Int).toNat*1=i by simp];exact V) ?_)
      refine Sv.cellm (tb:=3) (cs:=(E.map λn=>[iD n]).flatten++ju) (cs':=((E.map λn=>[iD n]).flatten++ju).set (f*1+0) (iD (aw j a3 1000-500))) (τ:=(b0,.cells 70 z)::(b1,.cells 22 G)::(ρ++[(J,.cells 31 (tO I))])) ?_ (by rw[show 0+((f:Nat):Int).toNat*1=f*1+0 by simp];exact hfl2) rfl (by rw[show 0+((f:Nat):Int).toNat*1=f*1+0 by simp]) ?_
      .refine gz λa=>?_;have e1:=Q9 q0 a;simp only[List.append_eq,List.nil_append,List.cons_append,gy,hY,gO]at e1⊢;omega
      repeat' first|refine mC ?_|intro b;conv=>whnf
      have hz1:G.set i (.v (.slice (some ⟨b2,0,none⟩) E.length Z))=G:=by
       obtain⟨h2,h3⟩:=zE.1 V;rw[←h3];exact List.set_getElem_self h2
      have hpt2:RI (E.set f (aw j a3 1000-500)) (.slice (some ⟨b2,0,none⟩) E.length Z) [(b2,.cells 3 (((E.map λn=>[iD n]).flatten++ju).set (f*1+0) (iD (aw j a3 1000-500))))]:=by
       have:=hpt;rw[show[iD (E.getD f 0)].set 0 (iD (aw j a3 1000-500))=(λn:Int=>[iD n]) (aw j a3 1000-500) from rfl,←wL]at this;exact this
      have hup:=up _ _ _ ((b2,.cells 3 (((E.map λn=>[iD n]).flatten++ju).set (f*1+0) (iD (aw j a3 1000-500))))::(b0,.cells 70 z)::(b1,.cells 22 G)::ρ) hpt2 (by
       rw[hz1];refine gz λa=>?_;simp only[List.append_eq,List.nil_append,List.cons_append,gy,hY,gO];omega)
      exact⟨(i+1,a3+1,_,_),(aj av),Sc.refl _,⟨by simp only;omega,by simp only;omega,hal3.trans (JY F R C.symm _),Ib hnu3 F R (by simp[en];omega),hup⟩,by simp only;omega⟩
     .obtain⟨b0,O,z,uu,t2,ρ,e0,q0,z0,hu2,-⟩:=aN.at hv3 F;obtain⟨rfl,rfl⟩:ca=some ⟨b0,0,none⟩/\cc=O:=by simp only[Value.slice.injEq]at e0;exact⟨e0.1,e0.2.2⟩
      obtain⟨ga,gc,rfl⟩:=aN.slice hu2;have m0:(b0,aB.cells 70 z)∈s4++[(J,aB.cells 31 (tO I))]:=xK _ (q0.mem_iff.2 yN);by_cases U:i<(w.getD k []).length
      .obtain rfl:bb=true:=by cases bb;exact absurd ⟨U,rfl⟩ hgo;rfl
       repeat' first|refine mC ?_|intro b;conv=>whnf|(refine Ld.cellm (tb:=70) (cs:=z) m0 Pp ?_)
       exact L7
      .repeat' first|refine mC ?_|intro b;conv=>whnf|(refine Ld.cellm (tb:=70) (cs:=z) m0 Pp ?_)
       exact L7
   .obtain rfl:f=kd.fields.length:=by omega
    repeat' first|refine mC ?_|intro b;conv=>whnf
    exact⟨(k+1,a2,u2,s3),(aj av),Sc.refl _,⟨by simp only;omega,by simp only;omega,L,K,hv2⟩,by simp only;omega⟩
  .obtain rfl:k=w.length:=by omega
   have hR1:=pj x p w 2000 (qP x HV w P.sz.wsA) (pd x (by omega) (λk hk=>by have:=hnf k hk;omega) p (by omega) w (by omega) (λl hl=>⟨by have:=P.n l hl;omega,λr hr=>by have:=P.f l hl r hr;omega⟩) 2000);have D:∀l∈u,l.length<=10/\∀r∈l,r.length<=50:=PY M P;have hul:=M.k;have hR2:=pj x p u 2000 (qP x HV u ⟨by omega,λl hl=>by have:=(D l hl).1;omega,λl hl r hr=>by have:=(D l hl).2 r hr;omega⟩) (pd x (by omega) (λk hk=>by have:=hnf k hk;omega) p (by omega) u (by omega) (λl hl=>⟨by have:=(D l hl).1;omega,λr hr=>by have:=(D l hl).2 r hr;omega⟩) 2000);rw[Bd hp hP M P.num hnu]at hR2;have hO:=IE p (by omega);obtain⟨vd,hvd⟩:∃vd,mP x p w 2000=vd:=⟨_,rfl⟩
   rw[hvd]at hR1 hR2;obtain⟨⟨V,z2,z3⟩,z4⟩:=vd
   repeat' first|refine Sm ?_|intro b;conv=>whnf
   refine ja ?_;refine xg (i:=14) (d':=jD u) (τ:=[(J,.cells 31 (tO I))]) rfl (λh=>by cases h) (Vs.frz XI hv (zH _)) ?_;refine jt mixed ai rfl [0,1,2,3,4,5,6,7] 3 (i8 [8,9]) (.one 8 (.one 9 (.fst 10 .done))) (γ:=Nat) (λg=>[(21,.v (.pointer (some ⟨g,0,none⟩))),(22,iD z4)]) (λg=>[(g,.cells 56 (QB (V,z2,z3))),(J,.cells 31 (tO I))]) (λ_=>True) (by decide +kernel) ?_ ?_
   .exact LG
   .rintro g1 -
    repeat' first|refine rT ?_|intro b;conv=>whnf
    refine ja ?_;refine jt mixed ai rfl [0,1,2,3,4,5,6,7] 3 (i8 [8,9]) (.one 8 (.one 9 (.fst 10 .done))) (γ:=Nat) (λg=>[(23,.v (.pointer (some ⟨g,0,none⟩))),(24,iD z4)]) (λg=>[(g,.cells 56 (QB (V,z2,z3))),(g1,.cells 56 (QB (V,z2,z3))),(J,.cells 31 (tO I))]) (λ_=>True) (by decide +kernel) ?_ ?_
    .exact LG
    .rintro g2 -
     repeat' first|refine rT ?_|intro b;conv=>whnf
     refine Ot.yd (kf (p:=(V,z2,z3)) (q:=(V,z2,z3)) rfl rfl rfl) ?_;rw[aV8]
     repeat' first|refine sq8 ?_|intro b;conv=>whnf
     exact Rt.vs (Vs.drop (yV _))
end
section
open Go Go.Maps Go.MapKept Go.WideElems Go.ChangeShapes Go.WideShapes
set_option maxRecDepth 100000
abbrev laidL:List (String×DataW Unit):=[("diorama/dioramaref02.constants",Rows.laid_diorama_dioramaref02_constants),("math/bits.deBruijn32tab",Rows.laid_math_bits_deBruijn32tab),("math/bits.deBruijn64tab",Rows.laid_math_bits_deBruijn64tab),("internal/strconv.uint64pow10",Rows.laid_internal_strconv_uint64pow10),("diorama/schema.words",Rows.laid_diorama_schema_words),("diorama/typing.checks",Rows.laid_diorama_typing_checks)]
theorem PA:prog.cellsOf 9=1:=by kernel_rfl
theorem Y9:prog.cellsOf 367=1:=by kernel_rfl
theorem Zo:prog.cellsOf 379=20:=by kernel_rfl
theorem Zq:prog.cellsOf 212=1:=by kernel_rfl
theorem Zr:prog.cellsOf 213=1:=by kernel_rfl
theorem XG:prog.globalNamed "internal/strconv.uint64pow10" =some 3:=by kernel_rfl
theorem sX:prog.globalNamed "diorama/schema.words" =some 1:=by kernel_rfl
theorem XH:prog.globalNamed "diorama/typing.checks" =some 0:=by kernel_rfl
theorem R9:(prog.globals[3]?).map (·.type)=some 379:=by kernel_rfl
theorem GJ:(prog.globals[1]?).map (·.type)=some 346:=by kernel_rfl
theorem R':(prog.globals[0]?).map (·.type)=some 215:=by kernel_rfl
theorem B2:(Rows.laid_internal_strconv_uint64pow10:DataW Unit)=Lib.tabData .u64 Lib.pow10Tab:=by rfl
theorem az9{W:World}(h:laidMetH prog laidL W){n:String}{d:DataW Unit}(m:(n,d)∈laidL.filter λx=>x.2.handleName?.isNone):Lib.VarReads prog W n d:=Lib.laidMet.reads (laidMetH_iff.1 h).1 m
theorem Ct:(Rows.laid_internal_strconv_uint64pow10:DataW Unit).handleName?.isNone=true:=rfl
theorem qm:(Rows.laid_diorama_schema_words:DataW Unit).handleName?.isNone=true:=rfl
theorem C1{W:World}(h:laidMetH prog laidL W):kb W:=by
 obtain⟨g,t,s,f,p,c,b,v,a⟩:=az9 h (n:= "internal/strconv.uint64pow10") (d:=Rows.laid_internal_strconv_uint64pow10) (vP.2 ⟨by simp[laidL],Ct⟩)
 obtain rfl:=wK (XG.symm.trans c);obtain rfl:=wK (R9.symm.trans b);rw[B2]at a;unfold kb Lib.TabIs;rw[v,←Lib.cells_of_tab underlying379 underlying367 Y9 Zo a]
theorem qz{W:World}(h:laidMetH prog laidL W):lP W:=by
 obtain⟨g,t,H,u,p,B,z,w,C⟩:=az9 h (n:= "diorama/schema.words") (d:=Rows.laid_diorama_schema_words) (vP.2 ⟨by simp[laidL],qm⟩)
 obtain rfl:=wK (sX.symm.trans B);obtain rfl:=wK (GJ.symm.trans z);obtain⟨x,I,rfl,e,q,A,l⟩:=DataW.trod_array underlying346 C;intro i s j;have f:i<9:=(zE.1 j).1;have E:=l i f;obtain⟨y,o⟩:∃y,x[i]?=some y:=⟨x[i]'(by omega),zD (by omega)⟩
 rw[o,PA]at E;obtain⟨c,G,F,_⟩:=DataW.trod_string underlying9 E;have r:=World.var?_cell sX w i;have D:H[i]?=some (.string c):=by
  have:=zM (·[0]?) G
  simpa [yX,xR]using this
 rw[D]at r;rw[r];have m:(x.map (·.1))[i]?=some (.lit (.string c.data.toList)):=by rw[qA,o,F];rfl
 have v:=zM Prod.fst e;simp only[Rows.laid_diorama_schema_words,DataW.agg.injEq]at v;rw[←v]at m;have k:c.data.toList=s.data.toList:=by
  have:i=0\/i=1\/i=2\/i=3\/i=4\/i=5\/i=6\/i=7\/i=8:=by omega
  rcases this with rfl|rfl|rfl|rfl|rfl|rfl|rfl|rfl|rfl<;>(simp at j m;subst j;rw[←m])
 have:c=s:=by
  obtain⟨a⟩:=c;obtain⟨b⟩:=s
  congr 1
  exact Array.toList_inj.1 k
 rw[this]
abbrev nu(d:UInt8):List UInt8:=[100,105,111,114,97,109,97,47,116,121,112,105,110,103,46,99,104,101,99,107,115,36,d]
abbrev y8:List (Lit×DataW (List UInt8)):=[(.int .i64 0,.agg [.held (nu 49)]),(.int .i64 1,.agg [.held (nu 50)]),(.int .i64 4,.agg [.held (nu 51)]),(.int .i64 5,.agg [.held (nu 52)]),(.int .i64 6,.agg [.held (nu 53)]),(.int .i64 7,.agg [.held (nu 54)]),(.int .i64 8,.agg [.held (nu 55)])]
theorem O5{W:World}{n:Nat}{v:Value}{z:DataW (List UInt8)×List MemPlace}{d:UInt8}{f0:FuncId}(h:elemAt (funcToken prog) prog W 0 (λ_=>true) true n 213 v=some z)(i:z.1= .agg [.held (nu d)])
  (b:((List.range prog.funcs.size).filter λf=>(prog.funcs[f]?).any (·.name.toUTF8.data.toList==nu d))=[f0]):v= .agg #[od f0]:=by
 unfold elemAt at h;split at h
 .rename_i j;obtain⟨x,m,rfl,hx,p,q,k⟩:=DataW.trod_struct underlying213 h;rw[Zr]at p;have g:=k 0 _ rfl;obtain⟨y,o⟩:∃y,x[0]?=some y:=⟨x[0]'(by rw[q];decide),zD _⟩
  simp only[o,Zq,List.drop_zero]at g;rw[hx]at i;simp only[DataW.agg.injEq]at i;have a:y.1= .held (nu d):=by
   have:(x.map (·.1))[0]?=some y.1:=by rw[qA,o];rfl
   rw[i]at this
   simpa using this.symm
  match hc:v.cells.toList,p with
  |[c],_=>
   rw[hc]at g;simp only[List.getElem_toArray,List.getElem_cons_zero,List.drop_zero,Zq,List.take_succ_cons,List.take_zero]at g;obtain⟨t,r⟩:=y;simp only at a;subst a;have e:=func_of_trod underlying212 b g;subst e;unfold Value.formed at j;rw[underlying213]at j
   cases v with
   |agg s=>
    simp only[Value.cells]at hc;obtain⟨l⟩:=s;simp only at hc;rw[hc];rfl
   |_=>simp at j
 .cases h
theorem nG{W:World}(h:laidMetH prog laidL W):∃r,W.cell? ⟨0,0,none⟩=some (.map (some r))/\bV prog 3 W r 7 (rr hJ):=by
 obtain⟨g,t,M,u,p,G,I,H,K⟩:=h.funcs (n:= "diorama/typing.checks") (by unfold laidL Rows.laid_diorama_typing_checks;simp only[zU];exact .inr (.inr (.inr (.inr (.inr (.inl rfl))))))
 obtain rfl:=wK (XH.symm.trans G);obtain rfl:=wK (R'.symm.trans I);have C:DataW.trod (funcToken prog) prog W 0 (λ_=>true) true u 215 M.toList=some (.map y8,p):=K;rcases open_map underlying215 C with⟨_,hx⟩|⟨N,s,c,m,rfl,D,L,_,F,hx⟩
 .simp at hx
 simp only[vY,DataW.map.injEq]at hx;have B:=hx.1 ▸ sorted_perm (s.toList.map (rg prog 3 (elemAt (funcToken prog) prog W 0 (λ_=>true) true m 213)));have l:=World.var?_cell G H 0;rw[Array.eq_one_of_toList D]at l;have J:s.size=7:=by have:=B.length_eq;simpa using this.symm
 have one:∀e∈s.toList,rr hJ e.key=some e.val:=λe b=>by
  obtain⟨y,f⟩:=F.reads e b;have i:y∈y8:=B.mem_iff.2 (xM.2 ⟨e,b,rg_of f⟩);have k:=rd_key f;obtain⟨z,A,x⟩:=rd_val f;obtain⟨q,j,w,_⟩:=keyOf_int_inv underlying3 k;simp only[y8,zU,yF,xE]at i;rcases i with rfl|rfl|rfl|rfl|rfl|rfl|rfl<;>(cases w;rw[j,O5 A x.symm (by kernel_rfl)];rfl)
 refine⟨N,by simpa using l,s,c,L,⟨by omega,F.stamped,F.keys,one,λo v a=>?_⟩⟩;have back:∀(n:Int)d,(Lit.int .i64 n,d)∈y8->∃e∈s.toList,e.key= .int .i64 n:=λn d i=>by
  obtain⟨e,b,E⟩:=xM.1 (B.mem_iff.1 i);obtain⟨y,f⟩:=F.reads e b;rw[rg_of f]at E;have k:=rd_key f;rw[E]at k;obtain⟨q,j,w,_⟩:=keyOf_int_inv underlying3 k;simp only at w
  cases w
  exact⟨e,b,j⟩
 have fin:∀(n:Int)d,(Lit.int .i64 n,d)∈y8->o= .int .i64 n->∃e∈s.toList,e.key=o/\e.val=v:=λn d i k=>by
  obtain⟨e,b,j⟩:=back n d i;have:=one e b;rw[j,←k,a]at this;exact⟨e,b,by rw[j,k],(wK this).symm⟩
 unfold rr hJ at a;split at a
 .exact fin 0 (.agg [.held (nu 49)]) (by simp[y8]) rfl
 .exact fin 1 (.agg [.held (nu 50)]) (by simp[y8]) rfl
 .exact fin 4 (.agg [.held (nu 51)]) (by simp[y8]) rfl
 .exact fin 5 (.agg [.held (nu 52)]) (by simp[y8]) rfl
 .exact fin 6 (.agg [.held (nu 53)]) (by simp[y8]) rfl
 .exact fin 7 (.agg [.held (nu 54)]) (by simp[y8]) rfl
 .exact fin 8 (.agg [.held (nu 55)]) (by simp[y8]) rfl
 .cases a
theorem Nc{W:World}{n:String}{g:Nat}{cs:Array Value}(a:prog.globalNamed n=some g)(h:W.var? prog n=some cs):g<W.heap.size:=by
 unfold World.var? at h;rw[a]at h;simp only[Option.bind_some]at h
 cases b:W.heap[g]? with
 |none=>rw[b]at h;simp at h
 |some o=>exact(zX.1 b).1
theorem Y':prog.cellsOf 372=1:=by kernel_rfl
theorem Zp:prog.cellsOf 375=64:=by kernel_rfl
theorem No{W:World}{n:String}{d:DataW Unit}{f:Nat}(o:d=Lib.tabData .u32 (eB.map λn:Nat=>(n:Int)))(c:prog.globalNamed n=some f)(b:(prog.globals[f]?).map (·.type)=some 375)(h:Lib.VarReads prog W n d):E8 f W:=by
 obtain⟨g,t,s,l,p,j,k,v,a⟩:=h;obtain rfl:=wK (c.symm.trans j);obtain rfl:=wK (b.symm.trans k);rw[o]at a;have e:=Lib.cells_of_tab underlying375 underlying372 Y' Zp a;intro i n m;have q:=World.var?_cell j v i;rw[q,←Array.getElem?_toList,e,qA,qA,m]
 rfl
theorem pI:(Rows.laid_diorama_dioramaref02_constants:DataW Unit)=Lib.tabData .u32 (eB.map λn:Nat=>(n:Int)):=by kernel_rfl
theorem qn:(Rows.laid_diorama_dioramaref02_constants:DataW Unit).handleName?.isNone=true:=rfl
theorem ID{W:World}(h:laidMetH prog laidL W):E8 2 W:=
 No (n:= "diorama/dioramaref02.constants") pI (by kernel_rfl) (by kernel_rfl) (az9 h (vP.2 ⟨by simp[laidL],qn⟩))
theorem C3{W:World}(h:laidMetH prog laidL W):rB W (λ_=>False):=by
 obtain⟨g,t,s,f,p,b,i,v,j⟩:=az9 h (n:= "math/bits.deBruijn64tab") (d:=Rows.laid_math_bits_deBruijn64tab) (vP.2 ⟨by simp[laidL],rfl⟩)
 have a:=Nc b v;obtain rfl:=wK ((show prog.globalNamed "math/bits.deBruijn64tab" =some 5 by kernel_rfl).symm.trans b)
 obtain⟨r,e,c⟩:=nG h;exact⟨λ_ h=>h.elim,a,λ_ _ h=>h,C1 h,qz h,⟨r,e,λh=>h,c⟩,ID h⟩
end
end Go.Proofs.YtilnpcolgcmofaaGreatDoor
