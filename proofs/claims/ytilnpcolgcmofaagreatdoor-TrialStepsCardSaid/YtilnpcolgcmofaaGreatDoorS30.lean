/- A part of the proof: Jg Gc Jh Vh Shelf Ba Ma. -/
import Derived.Test.YtilnpcolgcmofaaGreatDoorS29
import Derived.Shelf.Strings.Builder1
import Derived.Shelf.Strconv.Itoa0
import Derived.Shelf.Strconv.Itoa1
import Derived.Shelf.LaysM
import Derived.Shelf.Strconv.Itoa2
import Derived.Shelf.Strconv.Itoa3
import Derived.Lib.Builder
import Derived.Laws.Externs
set_option maxRecDepth 100000
set_option maxHeartbeats 20000000
set_option linter.all false
namespace Go.Proofs.YtilnpcolgcmofaaGreatDoor
open Tryz
section
open Go
theorem Ki{x:ak}{i j t:Nat}{k:au}{f:am}(hk:x.kz[i]?=some k)(hf:k.fields[j]?=some f)(h1:f.kind=1)(hu:aI x i j=t):t<i:=Lv
def P0(x:ak)(p:eE)(k j:Nat)(v:Int):Prop:=∃t ct:Nat,aI x k j=t/\p.counts[t]?=some (ct:Int)/\0<=v/\v<ct
theorem ph{x:ak}{p:eE}(h:iN x p){i j t:Nat}{k:au}{f:am}(c:x.kz[i]?=some k)(m:k.fields[j]?=some f)(o:f.kind=1)(u:aI x i j=t)(v:0<=f.lo/\f.lo<=f.hi/\f.hi<=8){a:Nat}(s:p.counts[i]?=some (a:Int)) :
  ∃b:Nat,p.counts[t]?=some (b:Int)/\a<=8/\b<=8/\(0<a->1<=b)/\lF (GU p i j a b f)/\ov (GU p i j a b f).spt:=by
 have l:=h.gx;have A:=l.nk;have C:=(zE.1 c).1;have E:=Ki c m o u;obtain⟨y,w⟩:∃y,x.kz[t]?=some y:=⟨_,zD (by omega)⟩
 obtain⟨b,r,d⟩:=h.ok.cnt l w;obtain⟨q,g,e⟩:=h.ok.cnt l c;obtain rfl:a=q:=by rw[s]at g;have:=wK g;omega
 have z:=((l.ks.pos i k c).at (by omega) m).1 o;refine⟨b,r,e,d,λD=>h.ok.ref c m o u s r D,NB h (by omega) (by omega) e d v,λq n B=>?_⟩
 show xh p.seed [2,(i:Int),(j:Int),0,(q:Int),(n:Int)];exact Hm h.sd (by omega) B
theorem br5{a:Int}(d:0<=a/\a<=100){k i:Nat}(b:k<=100)(c:i<=100):∀v∈[a,(k:Int),(i:Int)],cA v:=λv h=>by
 simp only[zU,yF,xE]at h;rcases h with rfl|rfl|rfl<;>(constructor<;>omega)
theorem At{A B:Prop}(k:B)(h:ar B->A:=by intro q7;(first|refine bQ ?_|refine aA ?_|(refine' ah ?hc ?_;(case hc=>first|exact HA|exact HR|exact HT|exact HN|exact HP|exact HW|exact HSH|exact HF|exact HG|exact HB|exact HU|exact HFO|exact HAB|exact HPT)));exact q7.1):A:=h ⟨k⟩
theorem IE{p:Prop}(h:p:=by
 refine⟨v,by omega,λe6=>by omega,λe1=>by omega,?_⟩;refine ao func107 ntmps107 λBB=>?_
 repeat' first|refine At ?_|intro b;conv=>whnf
 refine Rt.pure (zM iD ?_);rfl):p:=h
theorem IC{p:Prop}(h:p:=by
 refine ao func107 ntmps107 λBB=>?_
 repeat' first|refine At ?_|intro b;conv=>whnf
 refine Rt.pure (zM iD ?_);rfl):p:=h
theorem r4(x:ak)(p:eE)(h:iN x p):∀(m k:Nat),k<m->∀(idx j:Nat)(kd:au)(d:am)(c:Nat),x.kz[k]?=some kd->kd.fields[j]?=some d->p.counts[k]?=some (c:Int)->idx<c->∃v,(-4294967396<=v/\v<=4294967396)/\(d.kind=6->0<=v/\v<=800)/\(d.kind=1->P0 x p k j v)/\APure prog 107 [ax x,ez p,iD k,iD idx,iD j] (iD v)
 |0,k,hkm=>by omega
 |m+1,k,hkm=>by
  intro idx j kd d c q K hc hi;have C:=h.gx;have hnk:=C.nk;have hkl:=(zE.1 q).1;have hfl:=(zE.1 K).1;have hk':x.kz[((k:Nat):Int).toNat]?=some kd:=q;have hf':kd.fields[((j:Nat):Int).toNat]?=some d:=K;have hnf:=C.sm.nf kd (zG q);have hnl:x.kz.length<=1000000:=by omega
  have L:∀k∈x.kz,k.fields.length<=1000000:=λk q=>by have:=C.sm.nf k q;omega
  obtain⟨c',hc2,hc8⟩:=h.ok.cnt C q;obtain rfl:c=c':=by rw[hc]at hc2;have:=wK hc2;omega
  have hc':p.counts[((k:Nat):Int).toNat]?=some (c:Int):=hc;have hcl:=(zE.1 hc).1;have F:=(C.ks.pos k kd q).at (by omega) K
  cases C.gf q K with
  |key e hb=>
   obtain⟨v,Z,HA⟩:=KE p.seed h.sd.s [1,(k:Int),(j:Int)] (by simp) (br5 (by omega) (by omega) (by omega)) c (by omega) idx hi;refine⟨d.lo+v,by omega,λe6=>by omega,λe1=>by omega,?_⟩;exact IC
  |ref e t ht E b=>
   obtain⟨ct,f,_,ht8,h1,S,D⟩:=ph h q K e E b hc;have HR:=kD x C.sm p k j t kd d q K E c ct hc f;obtain⟨I,u,e2,R,hu2,HT⟩:=aS7 _ S D (h1 (by omega)) idx hi;have M:I<ct:=R;refine⟨I,by omega,λe6=>by omega,λ_=>⟨t,ct,E,f,by omega,by omega⟩,?_⟩;exact IC
  |num e hb=>
   obtain⟨v,Z,HN⟩:=aS6 x p h k idx j kd d q K (.inl e) c hc hi;exact IE
  |day e hb ho=>
   obtain⟨v,Z,HN⟩:=aS6 x p h k idx j kd d q K (.inr e) c hc hi;exact IE
  |pick e hb hw hs=>
   have G:fZ k j:=by have:=F.2.2 (by omega);unfold fZ;omega
   have Q:=pQ (a:=4) (by omega) (k:=k) (i:=j) (idx:=idx) (by omega) (by omega) (by omega);have hwp:=hw.pos;have hwn:=hw.n;obtain⟨v,Z,HP⟩:=GZ p.seed h.sd.s [4,(k:Int),(j:Int),(idx:Int)] (by simp) Q.v d.wz hw ((BS h.sd G (by omega)).drw (by omega) (by omega));exact IE
  |step e hb ho=>
   obtain⟨l,hl,hlz,HW⟩:=Bf x p h k idx j kd d q K e hb ho (by omega);obtain⟨z,X⟩:∃z,l[l.length-1]?=some z:=⟨_,zD (by omega)⟩
   have hz:l[((l.length:Int)-1).toNat]?=some z:=by rw[show((l.length:Int)-1).toNat=l.length-1 by omega];exact X
   have hzb:=hlz z (zG X);refine⟨z,by omega,λe6=>by omega,λe1=>by omega,?_⟩;refine ao func107 ntmps107 λBB=>?_
   repeat' first|refine At ?_|intro b;conv=>whnf|refine a7.mk λy hy=>?_
   rw[zL,hz]at hy
   cases hy
   refine Rt.pure (zM iD ?_);rfl
  |sum e hb jj n V s r w hs hsh P O U J E rb=>
   have hjl:=(zE.1 w).1;have hkj:=Ki w U J E;have hnj:=C.sm.nf V (zG w);have hnl2:=(zE.1 hs).1;have hjj':x.kz[((jj:Nat):Int).toNat]?=some V:=w;have hs':V.fields[((n:Nat):Int).toNat]?=some s:=hs;obtain⟨cj,hcj,hcj8⟩:=h.ok.cnt C w;obtain⟨ct,f,_,_,_,S,D⟩:=ph h w U J E rb hcj;have ect:(ct:Int)=c:=by rw[hc]at f;have:=wK f;omega
   obtain rfl:ct=c:=by omega
   have HSH:=pA x k j hnl L;rw[hsh]at HSH;have HF:=wM V s.up (by omega);rw[O]at HF;have HR:=kD x C.sm p jj 1 k V r w U E cj ct hcj hc;obtain⟨dg,e2,T,HG⟩:=aS8 _ S D idx (by omega);have hdg8:dg<=r.hi:=T.2;obtain⟨o,rfl⟩:∃a:Nat,dg=a:=⟨dg.toNat,by omega⟩
   have m1:=gS (n:=o) (by omega) P.1 (by omega);have m2:=gS (n:=o) (by omega) (by omega:0<=s.hi) P.2.2;have m3:(o:Int)*s.lo<=(o:Int)*s.hi:=Int.mul_le_mul_of_nonneg_left P.2.1 (by omega);have G:fZ k j:=by have:=F.2.2 (by omega);unfold fZ;omega
   have Q:=pQ (a:=7) (by omega) (k:=k) (i:=j) (idx:=idx) (by omega) (by omega) (by omega);have HB:=aG7 p.seed h.sd.s [7,(k:Int),(j:Int),(idx:Int)] (by simp) Q.v ((o:Int)*s.lo) ((o:Int)*s.hi) ⟨by omega,by omega,by omega,by omega⟩ ((Hj h.sd G (by omega) (by omega)).drw (by omega) (by omega));have hbe:=E0 (sd:=p.seed) (p:=[7,(k:Int),(j:Int),(idx:Int)]) (n:=(o:Int)*s.hi-(o:Int)*s.lo+1) (by omega);have hbt:0<=fU p.seed [7,(k:Int),(j:Int),(idx:Int)] ((o:Int)*s.lo) ((o:Int)*s.hi)/\fU p.seed [7,(k:Int),(j:Int),(idx:Int)] ((o:Int)*s.lo) ((o:Int)*s.hi)<=800:=by unfold fU;omega
   generalize fU p.seed [7,(k:Int),(j:Int),(idx:Int)] ((o:Int)*s.lo) ((o:Int)*s.hi)=v at *;refine⟨v,by omega,λ_=>hbt,λe1=>by omega,?_⟩;exact IC
  |above e t n y g r ht hy hg2 hof O U J E rb sh fb=>
   have hy':x.kz[((t:Nat):Int).toNat]?=some y:=hy;have hyl:=(zE.1 hy).1;have hyf:=C.sm.nf y (zG hy);obtain⟨ct,f,_,ht8,h1,S,D⟩:=ph h q U J E rb hc;have HF:=wM kd d.up (by omega);rw[O]at HF;have HU:=PY x k 1 hnl L;rw[E]at HU;have HR:=kD x C.sm p k 1 t kd r q U E c ct hc f;obtain⟨I,u,e2,R,hu2,HT⟩:=aS7 _ S D (h1 (by omega)) idx hi;have M:I<ct:=R;have HFO:=wM y d.of (by omega);rw[hof]at HFO;obtain⟨va,hva,Y,-,HAB⟩:=r4 x p h m t (by omega) I n y g ct hy hg2 f M;by_cases e8:d.kind=8
   .refine⟨va,hva,λe6=>by omega,λe1=>by omega,?_⟩;exact IC
   .have e7:d.kind=7:=by omega
    have hva7:=Y (sh e7);obtain⟨dg,e3,T,HG⟩:=aS8 _ S D I (by omega);have hdg8:dg<=r.hi:=T.2;obtain⟨o,rfl⟩:∃a:Nat,dg=a:=⟨dg.toNat,by omega⟩
    have hkp:=F.2.1 e7;obtain⟨v,e4,Z,_,HPT⟩:=GX ⟨p.seed,[8,(k:Int),(j:Int),(I:Int)],va,o,d.lo,d.hi⟩ ⟨h.sd.s,by simp,(pQ (a:=8) (by omega) (k:=k) (i:=j) (idx:=I) (by omega) (by omega) (by omega)).v,by simp only;omega,fb.1,fb.2.1,fb.2.2,by simp only;omega⟩ (λa' n' hn=>by
     show xh p.seed [8,(k:Int),(j:Int),(I:Int),(a':Int),(n':Int)];exact Hl h.sd (by omega) (by omega) (by omega) hn) u (by omega)
    have hv2:v<=d.hi:=Z.2;exact IE
end
section
open Go
structure WSz(a b c:Nat)(w:Wd):Prop where
 k:w.length<=a
 n:∀l∈w,l.length<=b
 f:∀l∈w,∀r∈l,r.length<=c
 v:∀l∈w,∀r∈l,∀v∈r,cA v
theorem gG.sz{w:Wd}(h:gG w):WSz 10 10 50 w:=⟨h.k,h.n,h.f,h.sm.v⟩
def oK(w:Wd)(k:Nat)(x:List (List Int)):Wd:=w.take k++x::List.replicate (w.length-k-1) []
theorem N3{w:Wd}{k:Nat}(h:k<w.length)(x:List (List Int)):(oK w k x).length=w.length:=by unfold oK;simp;omega
theorem S3{w:Wd}{k:Nat}(h:k<w.length)(x:List (List Int)):(oK w k x)[k]?=some x:=by
 unfold oK;rw[yK (by simp;omega),zR,show k-min k w.length=0 by omega]
 rfl
theorem N2{w:Wd}{k:Nat}(h:k<w.length)(x y:List (List Int)):(oK w k x).set k y=oK w k y:=by
 unfold oK;rw[List.set_append_right _ _ (by simp;omega),zR,show k-min k w.length=0 by omega]
 rfl
theorem BW{w:Wd}{k:Nat}(h:k<w.length):w.take k++List.replicate (w.length-k) []=oK w k []:=by
 unfold oK;rw[show w.length-k=(w.length-k-1)+1 by omega,List.replicate_succ]
 rfl
theorem Hp{w:Wd}{k:Nat}{l:List (List Int)}(h:w[k]?=some l):oK w k l=w.take (k+1)++List.replicate (w.length-(k+1)) []:=by
 unfold oK;rw[xC,h,show w.length-k-1=w.length-(k+1) by omega];simp
theorem bo2{A B:Prop}(k:B)(h:ar B->A:=by intro q7;(first|refine bA ?_|refine ir ?_|(refine' ah ?hc ?_;(case hc=>fail)));exact q7.1):A:=h ⟨k⟩
end
section
open Go
def P1(x:ak)(p:eE)(k:Nat)(kd:au)(l:List Int):Prop:=∀(j:Nat)d,kd.fields[j]?=some d->d.kind=1->P0 x p k j (l.getD j 0)
theorem rG{A B:Prop}(k:B)(h:ar B->A:=by intro q7;(first|refine bQ ?_|refine aA ?_|(refine' ah ?hc ?_;(case hc=>exact(hg j hjl))));exact q7.1):A:=h ⟨k⟩
theorem pr(x:ak)(p:eE)(h:iN x p)(k idx:Nat)(kd:au)(c:Nat)(i:x.kz[k]?=some kd)(hc:p.counts[k]?=some (c:Int))(hi:idx<c):∃l:List Int,l.length=kd.fields.length/\(∀v∈l,-4294967396<=v/\v<=4294967396)/\P1 x p k kd l/\APure prog 62 [ax x,ez p,iD k,iD idx] (bi l):=by
 have u:=h.gx.nk;have y:=(zE.1 i).1;have z:x.kz[((k:Nat):Int).toNat]?=some kd:=i;have w:=h.gx.sm.nf kd (zG i);obtain⟨g,a⟩:=aU8 (n:=kd.fields.length) (q:=λ(j:Nat)(v:Int)=>(-4294967396<=v/\v<=4294967396)/\(∀d,kd.fields[j]?=some d->d.kind=1->P0 x p k j v)/\APure prog 107 [ax x,ez p,iD k,iD idx,iD j] (iD v)) λj hj=>by
  obtain⟨d,f⟩:∃d,kd.fields[j]?=some d:=⟨_,zD hj⟩
  obtain⟨v,h1,_,h3,h2⟩:=r4 x p h (k+1) k (by omega) idx j kd d c i f hc hi;exact⟨v,h1,λC b e=>h3 (by rw[f]at b;cases b;exact e),h2⟩
 have hg:=λj hj=>(a j hj).2.2;refine⟨(List.range kd.fields.length).map g,by simp,λv t=>?_,λj d f e=>?_,?_⟩
 .obtain⟨j,hj,rfl⟩:=xM.1 t;exact(a j (xT.1 hj)).1
 .have hj:=(zE.1 f).1;rw[List.getD_eq_getElem?_getD,qA,xV hj];exact(a j hj).2.1 d f e
 refine ao func62 ntmps62 λF=>?_
 repeat refine rG ?_
 refine aV mixed ai (γ:=Nat×Value×af) (λg=>[(10,iD g.1),(9,.v g.2.1)]) (λg=>g.2.2) (λq=>q.1<=kd.fields.length/\J' ((List.range q.1).map g) q.2.1 q.2.2) (λg=>kd.fields.length-g.1) (0,.slice none 0 0,[]) (aj aw) (Sc.refl _) ⟨zW _,ae.nil _ _⟩ ?_;rintro⟨j,v,s⟩ ⟨hj,r⟩;simp only at hj r⊢;by_cases hjl:j<kd.fields.length
 .repeat refine rG ?_
  refine Ap.go rfl rfl rfl rfl r (bR _) rfl (zs:=((List.range (j+1)).map g).map λn=>[iD n]) (by rw[List.range_succ,yB,yB];rfl) (by rw[zL,zL,vU];omega) (by rw[zL,zL,vU];omega) (λo=>o) cZ (λE D o r=>?_)
  repeat refine rG ?_
  exact⟨(j+1,_,o),(aj aw),Sc.refl _,⟨by simp only;omega,r⟩,by simp only;omega⟩
 .obtain rfl:j=kd.fields.length:=by omega
  repeat refine rG ?_
  exact Rt.vs (Vs.row r (bR _))
theorem uv(x:ak)(HC:APure prog 44 [ax x] (.sl 4 [])):APure prog 34 [ax x] (bD true):=by
 refine ao func34 ntmps34 λa=>?_
 repeat refine kf ?_
 refine Rt.pure (zM bD ?_);rfl
abbrev R2f:fk (List (List Int)):=λl v s=>ae 22 1 (l.map λr=>[bi r]) v s
abbrev P4:fk Wd:=bw 70 R2f
theorem OG:Kg R2f fP:=sI _ _ _
theorem OF:Kg P4 lI:=nj OG
theorem M3{l:List Int}(h:∀c∈l,0<=c/\c<=8):0<=l.sum/\l.sum<=8*(l.length:Int):=OR
theorem iN.c8{x:ak}{p:eE}(h:iN x p):∀c∈p.counts,0<=c/\c<=8:=λc d=>by
 obtain⟨i,a⟩:=yO d;have l:=(zE.1 a).1;rw[h.ok.cl]at l;obtain⟨f,b,e⟩:=h.ok.cnt h.gx (zD l);rw[a]at b;have:=wK b;omega
structure WOf(x:ak)(w:Wd):Prop where
 len:w.length=x.kz.length
 row:∀(k:Nat)kd l,x.kz[k]?=some kd->w[k]?=some l->∀r∈l,r.length=kd.fields.length
 ref:∀(k j:Nat)kd d l,x.kz[k]?=some kd->kd.fields[j]?=some d->d.kind=1->w[k]?=some l->∀r∈l,0<=r.getD j 0/\r.getD j 0<((w.getD (aI x k j).toNat []).length:Nat)
def dr(p:eE)(G:Nat->Nat->List Int):Wd:=(List.range p.counts.length).map λk=>(List.range (p.counts.getD k 0).toNat).map (G k)
theorem Zu{p:eE}{G:Nat->Nat->List Int}{k c:Nat}(h:p.counts[k]?=some (c:Int)):(dr p G)[k]?=some ((List.range c).map (G k)):=by
 unfold dr;rw[qA,xV (zE.1 h).1,Option.map_some,List.getD_eq_getElem?_getD,h]
 rfl
theorem fm{A B:Prop}(k:B)(h:ar B->A:=by intro q7;(first|refine bQ ?_|refine aA ?_|(refine' ah ?hc ?_;(case hc=>first|exact HV|exact HR)));exact q7.1):A:=h ⟨k⟩
theorem R4{A B:Prop}(k:B)(h:ar B->A:=by intro q7;(first|refine bQ ?_|refine ir ?_|(refine' ah ?hc ?_;(case hc=>first|exact HV|exact HR)));exact q7.1):A:=h ⟨k⟩
theorem uu(x:ak)(p:eE)(h:iN x p)(HV:APure prog 61 [ax x,ez p] (iD 0)):∃w,(gG w/\WOf x w)/\az prog 35 [ax x,ez p] [] (λd s=>∃v,d= .tup [.v v,iD 0]/\P4 w v s):=by
 have O:=h.gx;have hnk:=O.nk;have Q:=h.ok.cl;have J:=h.c8;obtain⟨G,M⟩:∃G:Nat->Nat->List Int,∀k kd,x.kz[k]?=some kd->∀(i c:Nat),p.counts[k]?=some (c:Int)->i<c->(G k i).length=kd.fields.length/\(∀v∈G k i,-4294967396<=v/\v<=4294967396)/\P1 x p k kd (G k i)/\APure prog 62 [ax x,ez p,iD k,iD i] (bi (G k i)):=by
  have hx:∀q:Nat×Nat,∃l:List Int,∀kd,x.kz[q.1]?=some kd->∀c:Nat,p.counts[q.1]?=some (c:Int)->q.2<c->l.length=kd.fields.length/\(∀v∈l,-4294967396<=v/\v<=4294967396)/\P1 x p q.1 kd l/\APure prog 62 [ax x,ez p,iD q.1,iD q.2] (bi l):=λq=>by
   by_cases hq:∃kd,x.kz[q.1]?=some kd/\∃c:Nat,p.counts[q.1]?=some (c:Int)/\q.2<c
   .obtain⟨kd,h1,c,h2,h3⟩:=hq;obtain⟨l,hl⟩:=pr x p h q.1 q.2 kd c h1 h2 h3;exact⟨l,λkd' e _ _ _=>by rw[h1]at e;cases e;exact hl⟩
   .exact⟨[],λkd h1 c h2 h3=>absurd ⟨kd,h1,c,h2,h3⟩ hq⟩
  obtain⟨G,M⟩:=Classical.axiomOfChoice hx;exact⟨λk i=>G (k,i),λk kd h1 i c h2 h3=>M (k,i) kd h1 c h2 h3⟩
 have a:(dr p G).length=p.counts.length:=by unfold dr;simp
 refine⟨dr p G,?_,?_⟩
 .have K:∀l∈dr p G,∃(k c:Nat)(kd:au),x.kz[k]?=some kd/\p.counts[k]?=some (c:Int)/\c<=8/\l=(List.range c).map (G k):=λl hl=>by
   obtain⟨k,o⟩:=yO hl;have D:=(zE.1 o).1;rw[a,Q]at D;obtain⟨c,h1,h2⟩:=h.ok.cnt O (zD D);rw[Zu h1]at o;exact⟨k,c,_,zD D,h1,h2,(wK o).symm⟩
  refine⟨⟨by rw[a];omega,λl hl=>?_,λl hl r I=>?_,λl hl r I v hv=>?_⟩,⟨by rw[a,Q],λk kd l o hl r I=>?_,λk j kd d l o hd e1 hl r I=>?_⟩⟩
  rotate_right 2
  .obtain⟨c,h1,h2⟩:=h.ok.cnt O o;rw[Zu h1]at hl;obtain rfl:=wK hl;obtain⟨i,hi,rfl⟩:=xM.1 I;exact(M k kd o i c h1 (xT.1 hi)).1
  .obtain⟨c,h1,h2⟩:=h.ok.cnt O o;rw[Zu h1]at hl;obtain rfl:=wK hl;obtain⟨i,hi,rfl⟩:=xM.1 I;obtain⟨t,ct,h3,h4,h5,h6⟩:=(M k kd o i c h1 (xT.1 hi)).2.2.1 j d hd e1;rw[h3,Int.toNat_natCast,show(dr p G).getD t []=(List.range ct).map (G t) by rw[List.getD_eq_getElem?_getD,Zu h4];rfl,zL,vU];exact⟨h5,h6⟩
  .obtain⟨k,c,kd,_,_,h3,rfl⟩:=K l hl;simp;omega
  .obtain⟨k,c,kd,h1,h2,h3,rfl⟩:=K l hl;obtain⟨i,hi,rfl⟩:=xM.1 I;have:=(M k kd h1 i c h2 (xT.1 hi)).1;have:=O.sm.nf kd (zG h1);omega
  .obtain⟨k,c,kd,h1,h2,h3,rfl⟩:=K l hl;obtain⟨i,hi,rfl⟩:=xM.1 I;have:=(M k kd h1 i c h2 (xT.1 hi)).2.1 v hv;exact⟨by omega,by omega⟩
 refine cU func35 ntmps35 λBB=>?_
 repeat' first|refine fm ?_|intro b;conv=>whnf
 refine aV mixed ai (γ:=Nat) (λi=>[(7,iD (p.counts.take i).sum),(8,iD i)]) (λ_=>[]) (λi=>i<=p.counts.length) (λi=>p.counts.length-i) 0 (aj aw) (Sc.refl _) (zW _) ?_;intro i hi;by_cases hil:i<p.counts.length
 .obtain⟨c,S⟩:∃c,p.counts[i]?=some c:=⟨_,zD hil⟩
  have hc:p.counts[((i:Nat):Int).toNat]?=some c:=S;have hsn:(p.counts.take (i+1)).sum=(p.counts.take i).sum+c:=by rw[xC,S,vO];simp
  have h1:=M3 (l:=p.counts.take i) λc hc=>J c (xG hc);have h2:=M3 (l:=p.counts.take (i+1)) λc hc=>J c (xG hc);rw[zR]at h1 h2
  repeat' first|refine fm ?_|intro b;conv=>whnf
  exact⟨i+1,(aj aw),Sc.refl _,by omega,by omega⟩
 obtain rfl:i=p.counts.length:=by omega
 rw[yM];have hsum:=M3 J;clear hi hil
 repeat' first|refine fm ?_|intro b;conv=>whnf
 refine Mk.go p.counts.length rfl rfl rfl rfl rfl (by simp) (by omega) (by omega) (λE=>?_)
 repeat' first|refine fm ?_|intro b;conv=>whnf
 have L:P4 ((dr p G).take 0++List.replicate ((dr p G).length-0) []) (.slice (some ⟨E,0,none⟩) (dr p G).length (dr p G).length) [(E,.cells 70 (List.replicate (dr p G).length (.v (.slice none 0 0))))]:=
  bw.made (R:=R2f) (x0:=[]) (ae.nil _ _) _ E (by unfold maxLen;omega)
 rw[a]at L;refine aV mixed ai (γ:=Nat×af) (λg=>[(10,iD g.1)]) (λg=>g.2) (λg=>g.1<=p.counts.length/\P4 ((dr p G).take g.1++List.replicate (p.counts.length-g.1) []) (.slice (some ⟨E,0,none⟩) p.counts.length p.counts.length) g.2) (λg=>p.counts.length-g.1) (0,_) (aj aw) (Sc.refl _) ⟨zW _,L⟩ ?_;clear L;rintro⟨k,s⟩ ⟨o,z⟩;simp only at o z⊢;by_cases D:k<p.counts.length
 .obtain⟨kd,P⟩:∃y,x.kz[k]?=some y:=⟨_,zD (by omega)⟩
  obtain⟨c,hc,hc8'⟩:=h.ok.cnt O P;have hc':p.counts[((k:Nat):Int).toNat]?=some (c:Int):=hc;have C:k<(dr p G).length:=by omega
  have hl:=Zu (G:=G) hc;rw[←a,BW C]at z
  repeat' first|refine fm ?_|intro b;conv=>whnf
  refine aV mixed ai (γ:=Nat×af) (λg=>[(11,iD g.1)]) (λg=>g.2) (λg=>g.1<=c/\P4 (oK (dr p G) k (((List.range c).map (G k)).take g.1)) (.slice (some ⟨E,0,none⟩) (dr p G).length (dr p G).length) g.2) (λg=>c-g.1) (0,s) (aj aw) (Sc.refl _) ⟨zW _,z⟩ ?_;clear z;rintro⟨i,s⟩ ⟨hi,z⟩;simp only at hi z⊢;by_cases hil:i<c
  .have HR:=(M k kd P i c hc hil).2.2.2;have U:((List.range c).map (G k)).take (i+1)=((List.range c).map (G k)).take i++[G k i]:=by
    rw[xC,qA,xV hil];rfl
   obtain⟨b0,cap0,f,u,t,τ,e0,p0,c0,hu,T⟩:=bw.at z (S3 C (((List.range c).map (G k)).take i));rw[N3 C]at e0
   cases e0
   obtain⟨a1,ca1,rfl⟩:=ae.slice hu
   repeat' first|refine R4 ?_|intro b;conv=>whnf
   refine jI ?_;refine lu mixed ai rfl [0,1,2,3,4,5,6,7,8,9,10,11] 3 (jE [12,14]) (.one 12 (.fst 13 (.one 14 .done))) (γ:=af) (λ_=>[]) (λg=>g) (λg=>P4 (oK (dr p G) k (((List.range c).map (G k)).take (i+1))) (.slice (some ⟨E,0,none⟩) (dr p G).length (dr p G).length) g) (by decide +kernel) ?_ ?_
   .repeat' first|refine fm ?_|intro b;conv=>whnf|(refine And.intro ?_ ?_<;>(conv=>whnf))|(refine Ld.cellm (tb:=70) (cs:=f) (p0.mem_iff.2 yN) (by rw[eP];exact c0) ?_)|(refine Ap.go rfl rfl rfl rfl hu (τ:=(E,.cells 70 f)::τ) (p0.trans List.perm_middle.symm) rfl (zs:=(((List.range c).map (G k)).take (i+1)).map λr=>[bi r]) (by rw[U,yB];rfl) (by rw[zL,zR];simp;omega) (by rw[zL,zR];simp;omega) (λZ=>Z++((E,.cells 70 f)::τ)) (λZ=>zH _) (λa6 c6 Y V=>?_))
    have F:=T (((List.range c).map (G k)).take (i+1)) _ _ ((E,.cells 70 (f.set k (.v (.slice a6 ((((List.range c).map (G k)).take (i+1)).map λr=>[bi r]).length c6))))::(Y++τ)) V (zH _);rw[N2 C]at F;refine Sv.cellm (tb:=70) (cs:=f) (cs':=f.set k (.v (.slice a6 ((((List.range c).map (G k)).take (i+1)).map λr=>[bi r]).length c6))) (τ:=Y++τ) List.perm_middle (by rw[eP];exact(zE.1 c0).1) rfl (by rw[eP]) ?_
    repeat' first|refine fm ?_|intro b;conv=>whnf
    exact⟨_,(aj aP),Sc.refl _,F⟩
   .intro g X
    repeat' first|refine fm ?_|intro b;conv=>whnf
    exact⟨(i+1,g),(aj aw),Sc.refl _,⟨by simp only;omega,X⟩,by simp only;omega⟩
  .obtain rfl:i=c:=by omega
   rw[yL (by simp),Hp hl,a]at z
   repeat' first|refine fm ?_|intro b;conv=>whnf
   exact⟨(k+1,s),(aj aw),Sc.refl _,⟨by simp only;omega,z⟩,by simp only;omega⟩
 .obtain rfl:k=p.counts.length:=by omega
  rw[show(dr p G).take p.counts.length=dr p G by rw[←a,yM],wH,List.replicate_zero,zZ]at z
  repeat' first|refine fm ?_|intro b;conv=>whnf
  exact Rt.same ⟨_,rfl,z⟩
theorem tJ{P:Program}{f:FuncId}{args:List D}{w:Wd}(h:az P f args [] (λd s=>∃v,d= .tup [.v v,iD 0]/\P4 w v s)):APure P f args (.tup [lI w,iD 0]):=
 APure.of_call (az.vs (az.imp h λd s⟨v,a,r⟩=>by rw[a];exact Rt.vs (Vs.tup (.cons (Vs.frz (τ:=[]) OF r (by simp)) (.cons (Vs.refl _ _) (.nil _))))))
theorem R3{A B:Prop}(k:B)(h:ar B->A:=by intro q7;(first|refine bQ ?_|refine aA ?_|(refine' ah ?hc ?_;(case hc=>exact HV)));exact q7.1):A:=h ⟨k⟩
theorem pp(x:ak)(p:eE)(e:Int)(h0:e≠0)(HV:APure prog 61 [ax x,ez p] (iD e)):APure prog 35 [ax x,ez p] (.tup [lI [],iD e]):=by
 refine ao func35 ntmps35 λa=>?_
 repeat' first|refine R3 ?_|intro b;conv=>whnf
 exact Rt.vs (Vs.tup (.cons (bc2 _ _) (.cons (Vs.refl _ _) (.nil _))))
section
open Go.RowKit Go.Shelf
variable {P:Program} {T:TypeId->Option TI} {σ:af} {N:Nat} {f:aM} {fn:Func}
theorem pB3(A:∀t i,T t=some i->aD P t=some i){i i2 j m b:Nat}{t tb:TypeId}{cs:List D}{c:TI}{d d2:D}{K:D->Prop}(h:fn.results= #[.cell j t,.tmp i,.tmp i2])(y:aK f (.tmp i)=d)(g:aK f (.tmp i2)=d2)(x:aK f (.tmp j)= .v (.pointer (some ⟨b,0,none⟩)))(z:σ[m]?=some (b,.cells tb cs))(r:T t=some c)(n:c.agg=true)(s:c.size=cs.length)
  (k:W (K (.tup [.agg cs,d,d2]))):Rs P N fn f σ K:=by
 subst y g;refine⟨_,λa o=>?_,k.h⟩;intro w X p l e;obtain⟨vs,B,q⟩:=Z8 A e z r n s;have u:=(jR l j).val (o.eq x (λh=>by cases h));refine⟨.tuple #[.agg vs.toArray,p.getD i undef,p.getD i2 undef],by simp[results,h,u,asAddr,B,Result.andThen,-Array.getD_eq_getD_getElem?],?_⟩;have:=bb.cons (Rd.agg (w:=w) (O:=ay σ X) cs vs q.len q.at_) (bb.cons (qL o i _ _ _ (jR l i)) (bb.cons (qL o i2 _ _ _ (jR l i2)) bb.nil));exact .tup _ _ this.len this.at_
end
theorem yq:gG []:=⟨by simp,by simp,by simp,by simp⟩
theorem im{A B:Prop}(k:B)(h:ar B->A:=by intro q7;(first|refine bQ ?_|refine aA ?_|(refine' ah ?hc ?_;(case hc=>first|exact HS|exact HW)));exact q7.1):A:=h ⟨k⟩
theorem A'(x:ak)(h:bJ x)(C:APure prog 44 [ax x] (.sl 4 []))(l:List Int)(hl:eB l):az prog 8 [ax x,bi l] [] (λd σ=>∃p w is,d= .tup [ez p,lI w,bD is]/\σ=[]/\gG w/\(is=true->WOf x w)):=by
 have P:=Bi x h.lim h.fbs C l hl;have HS:=uv x C;refine cU func8 ntmps8 λq=>?_
 repeat' first|refine im ?_|intro b;conv=>whnf
 obtain⟨n,rfl⟩:∃c,c=b:=⟨_,rfl⟩
 refine ba P (zH ([]++_)) (λs=>s++_) (λs=>zH _) ?_;rintro _ _ ⟨p,is,rfl,rfl,j,f⟩
 cases is with
 |false=>
  repeat' first|refine im ?_|intro b;conv=>whnf
  refine pB3 ai (m:=1) rfl rfl rfl rfl rfl rfl rfl rfl ?_
  repeat' first|refine im ?_|intro b;conv=>whnf
  exact Rt.by (σ':=[]) (d':=.tup [ez p,lI [],bD false]) (Vs.vd ⟨_,by rw[zZ]⟩ (Vd.tup (.cons (Vd.same (λz a=>by cases a) _) (.cons (Vd.nil _) (.cons (Vd.same (λz a=>by cases a) _) .nil))))) ⟨p,[],false,rfl,rfl,yq,λh=>by cases h⟩
 |true=>
  obtain⟨e,k,V⟩:=ux x h C p j (f rfl);by_cases h0:e=0
  .subst h0;obtain⟨w,⟨i,o⟩,g⟩:=uu x p (k rfl) V;have HW:=tJ g
   repeat' first|refine im ?_|intro b;conv=>whnf
   refine pB3 ai (m:=1) rfl rfl rfl rfl rfl rfl rfl rfl ?_
   repeat' first|refine im ?_|intro b;conv=>whnf
   exact Rt.by (σ':=[]) (d':=.tup [ez p,lI w,bD true]) (Vs.vd ⟨_,by rw[zZ]⟩ (Vd.same (λz a=>by cases a) _)) ⟨p,w,true,rfl,rfl,i,λ_=>o⟩
  .have HW:=pp x p e h0 V
   repeat' first|refine im ?_|intro b;conv=>whnf
   refine pB3 ai (m:=1) rfl rfl rfl rfl rfl rfl rfl rfl ?_
   repeat' first|refine im ?_|intro b;conv=>whnf
   exact Rt.by (σ':=[]) (d':=.tup [ez p,lI [],bD (decide (e=0))]) (Vs.vd ⟨_,by rw[zZ]⟩ (Vd.same (λz a=>by cases a) _)) ⟨p,[],_,rfl,rfl,yq,λh=>absurd (wY h) h0⟩
end
section
open Go
theorem C5{x:ak}{w:Wd}(b:gG w)(o:WOf x w):cO x w=true:=by
 unfold cO;simp only[zJ,zQ,yA,xT];refine⟨⟨o.len,λk c=>?_⟩,λr j y h=>?_⟩
 .obtain⟨l,a⟩:∃l,w[k]?=some l:=⟨_,zD c⟩
  obtain⟨kd,d⟩:∃kd,x.kz[k]?=some kd:=⟨_,zD (by have:=o.len;omega)⟩
  rw[getD_some a];unfold qE;simp only[zJ,zQ,yA];have m:=zG a;refine⟨by have:=b.n l m;omega,λy h=>?_⟩;unfold dA sC;simp only[zJ,zQ,yA,d];exact⟨o.row k kd l d a y h,λv e=>by
   have i:=(b.v l m y h v e).lo;have g:=(b.v l m y h v e).hi;simp[fT];omega⟩
 .obtain⟨kd,f,i,g,p,n,_⟩:=aL3 j;by_cases c:r.kind<w.length
  .obtain⟨l,a⟩:∃l,w[r.kind]?=some l:=⟨_,zD c⟩
   rw[getD_some a]at h;have:=o.ref r.kind r.field kd f l i g p a y h;unfold tr;rw[n,yE (by omega),yE (by omega)]
   rfl
  .rw[List.getD_eq_getElem?_getD,List.getElem?_eq_none (by omega)]at h;cases h
theorem zx{w:Wd}{r d:List Int}{a c:Int}{i:VI}{n:Nat}(o:EO n i)(s:gc w r a i= .go d c)(l:0<=a)(k:a<n):0<=c/\c<=n:=by
 have g:=o.op;have f:=o.a;have e:=o.c;unfold gc at s;by_cases h6:i.op=6
 .have:=LW (v:=i.a) (n:=n) (by simpa [cM,h6]using f);simp only[h6]at s;simp at s;omega
 .by_cases b:i.op=7\/i.op=8
  .have:=LW (v:=i.c) (n:=n) (by rcases b with h|h<;>simpa [cM,h]using e);rcases b with h|h<;>(simp only[h]at s;simp at s;obtain⟨_,rfl⟩:=s;split<;>omega)
  .rw[if_neg h6,if_neg (λh=>b (.inl h))]at s;have j:i.op≠8:=λh=>b (.inr h);have b:i.op≠7:=λh=>b (.inl h);have:c=a+1:=by
    repeat' split at s
    all_goals first|(cases s;done)|(cases s;rfl)|omega
   omega
theorem K7{p:Prop}(h:p:=by
 right;rw[hend n r a e];exact⟨rfl,0,by simp,by omega,λg _=>hend n r a e g,λg h=>by omega⟩):p:=h
theorem uo{w:Wd}{p:cK}(P:∀i∈p,EO p.length i):∀(f:Nat)(n:Int)(r:List Int)(a:Int),0<=a->a<=p.length ->
  (bO w p f n r a).2.2=23\/((bO w p f n r a).2.2=0/\∃s:Nat,(bO w p f n r a).2.1=n+s/\s<=f/\(∀g,s<=g->bO w p g n r a=bO w p f n r a)/\∀g,g<s->bO w p g n r a=(0,0,23)):=by
 have hend:∀(n:Int)(r:List Int)(a:Int),a=p.length->∀g,bO w p g n r a=(0,n,0):=λn r a e g=>by
  cases g with
  |zero=>unfold bO;rw[if_pos e]
  |succ g=>unfold bO;rw[List.getElem?_eq_none (by omega)]
 intro f
 induction f with
 |zero=>
  intro n r a o k;by_cases e:a=p.length
  .exact K7
  .left;unfold bO;rw[if_neg e]
 |succ f t=>
  intro n r a o k
  cases d:p[a.toNat]? with
  |none=>
   have e:a=p.length:=by have:=yY.1 d;omega
   exact K7
  |some i=>
   have z:=(zE.1 d).1;have u:=P i (zG d);have e0:bO w p 0 n r a=(0,0,23):=by unfold bO;rw[if_neg (by omega)]
   cases j:gc w r a i with
   |fin c=>
    have b:∀g,bO w p (g+1) n r a=(c,n+1,0):=λg=>by rw[bO,d];simp only[j]
    right;rw[b];refine⟨rfl,1,by simp,by omega,λg h=>?_,λg h=>?_⟩
    .cases g with
     |zero=>omega
     |succ g=>rw[b]
    .obtain rfl:g=0:=by omega
     exact e0
   |go l q=>
    have m:=zx u j o (by omega);have b:∀g,bO w p (g+1) n r a=bO w p g (n+1) l q:=λg=>by rw[bO,d];simp only[j]
    rw[b];rcases t (n+1) l q m.1 m.2 with h|⟨k,s,y,A,x,v⟩
    .exact .inl h
    .refine .inr ⟨k,s+1,by rw[y];omega,by omega,λg h=>?_,λg h=>?_⟩
     .cases g with
      |zero=>omega
      |succ g=>rw[b];exact x g (by omega)
     .cases g with
      |zero=>exact e0
      |succ g=>rw[b];exact v g (by omega)
def AQ(w:Wd)(p:cK)(m:Nat):(Bool×Int×Int)×Int:=
 if(bO w p m 0 (List.replicate 8 0) 0).2.2≠0 then((false,0,0),(bO w p m 0 (List.replicate 8 0) 0).2.2)else((!decide ((bO w p m 0 (List.replicate 8 0) 0).1=0),(bO w p m 0 (List.replicate 8 0) 0).1,(bO w p m 0 (List.replicate 8 0) 0).2.1),0)
theorem kt{x:ak}{p:cK}{w:Wd}(a:ef x=[])(h:en x p)(f:cO x w=true){m:Int}(c:0<=m)(b:m<=1000000):gO x p w m=AQ w p m.toNat:=by
 have e:fR x p w m=bO w p m.toNat 0 (List.replicate 8 0) 0:=by
  unfold fR;rw[if_neg (by rw[h.valid];decide),if_neg (by omega),if_neg (by rw[h.named];decide)]
 rw[my a,if_pos f];unfold qi AQ;rw[e]
theorem AP{x:ak}{p:cK}{w:Wd}(h:ef x=[])(P:en x p)(f:cO x w=true){m:Int}(a:m<0):gO x p w m=((false,0,0),4):=by
 have e:fR x p w m=(0,0,4):=by
  unfold fR;rw[if_neg (by rw[P.valid];decide),if_pos (.inl a)]
 rw[my h,if_pos f];unfold qi;rw[e]
 rfl
theorem tX{x:ak}{p:cK}{w:Wd}(d:ef x=[])(P:en x p)(f:cO x w=true) :
  gO x p w 2000=((false,0,0),23)\/∃(c:Int)(s:Nat),s<=2000/\(∀m:Int,s<=m->m<=1000000->gO x p w m=((!decide (c=0),c,(s:Int)),0))/\∀m:Int,0<=m->m<s->gO x p w m=((false,0,0),23):=by
 rcases uo (w:=w) (p:=p) P.ok 2000 0 (List.replicate 8 0) 0 (by omega) (by omega)with h|⟨k,s,j,i,g,e⟩
 .left;rw[kt d P f (by omega) (by omega)];unfold AQ;rw[show(2000:Int).toNat=2000 from rfl,h,if_pos (by decide)]
 .right;refine⟨(bO w p 2000 0 (List.replicate 8 0) 0).1,s,i,λm b a=>?_,λm b a=>?_⟩
  .rw[kt d P f (by omega) a];unfold AQ;rw[g m.toNat (by omega),k,j,if_neg (by decide)];simp
  .rw[kt d P f b (by omega)];unfold AQ;rw[e m.toNat (by omega),if_pos (by decide)]
end
end Go.Proofs.YtilnpcolgcmofaaGreatDoor
namespace Go.Proofs
open Tryz YtilnpcolgcmofaaGreatDoor
open Go.Shelf
def Ib:Go.Shelf.Ren:=⟨λ|246=>275|283=>278|284=>279|285=>280|286=>281|129=>286|317=>285|318=>287|319=>288|320=>289|337=>290|338=>291|n=>n,λ|2=>2|3=>3|9=>9|4=>4|171=>366|0=>0|53=>367|37=>147|5=>5|173=>370|212=>379|51=>372|20=>20|213=>380|46=>381|232=>363|233=>384|n=>n,λ|17=>3|18=>4|19=>5|n=>n⟩
def Ic:Go.Shelf.Ren:=⟨λ|243=>271|246=>275|283=>278|284=>279|285=>280|286=>281|129=>286|317=>285|318=>287|319=>288|320=>289|337=>290|338=>291|n=>n,λ|3=>3|9=>9|2=>2|4=>4|171=>366|0=>0|53=>367|37=>147|5=>5|173=>370|212=>379|51=>372|20=>20|213=>380|46=>381|232=>363|233=>384|n=>n,λ|17=>3|18=>4|19=>5|n=>n⟩
def kN:Go.Shelf.Ren:=⟨λ|171=>260|243=>271|246=>275|283=>278|284=>279|285=>280|286=>281|129=>286|317=>285|318=>287|319=>288|320=>289|337=>290|338=>291|n=>n,λ|3=>3|9=>9|2=>2|4=>4|171=>366|0=>0|53=>367|37=>147|5=>5|173=>370|212=>379|51=>372|20=>20|213=>380|46=>381|232=>363|233=>384|n=>n,λ|17=>3|18=>4|19=>5|n=>n⟩
theorem Cx:Go.Proofs.LaysM.n171 prog kN:={
 mixed:=by kernel_rfl
 f129:=func286.trans (zM some (by kernel_rfl))
 f171:=func260.trans (zM some (by kernel_rfl))
 f243:=func271.trans (zM some (by kernel_rfl))
 f246:=func275.trans (zM some (by kernel_rfl))
 f283:=func278.trans (zM some (by kernel_rfl))
 f284:=func279.trans (zM some (by kernel_rfl))
 f285:=func280.trans (zM some (by kernel_rfl))
 f286:=func281.trans (zM some (by kernel_rfl))
 f317:=func285.trans (zM some (by kernel_rfl))
 f318:=func287.trans (zM some (by kernel_rfl))
 f319:=func288.trans (zM some (by kernel_rfl))
 f320:=func289.trans (zM some (by kernel_rfl))
 f337:=func290.trans (zM some (by kernel_rfl))
 f338:=func291.trans (zM some (by kernel_rfl))
 t0:=underlying0
 a0:=isAgg0
 z0:=sizeOf0
 v0:=zeroValue0
 t2:=underlying2
 a2:=isAgg2
 z2:=sizeOf2
 v2:=zeroValue2
 t3:=underlying3
 a3:=isAgg3
 z3:=sizeOf3
 v3:=zeroValue3
 t4:=underlying4
 a4:=isAgg4
 z4:=sizeOf4
 v4:=zeroValue4
 t5:=underlying5
 a5:=isAgg5
 z5:=sizeOf5
 v5:=zeroValue5
 t9:=underlying9
 a9:=isAgg9
 z9:=sizeOf9
 v9:=zeroValue9
 t20:=underlying20
 a20:=isAgg20
 z20:=sizeOf20
 v20:=zeroValue20
 t37:=underlying147
 a37:=isAgg147
 z37:=sizeOf147
 v37:=zeroValue147
 t46:=underlying381
 a46:=isAgg381
 z46:=sizeOf381
 v46:=zeroValue381
 t51:=underlying372
 a51:=isAgg372
 z51:=sizeOf372
 v51:=zeroValue372
 t53:=underlying367
 a53:=isAgg367
 z53:=sizeOf367
 v53:=zeroValue367
 t171:=underlying366
 a171:=isAgg366
 z171:=sizeOf366
 v171:=zeroValue366
 t173:=underlying370
 a173:=isAgg370
 z173:=sizeOf370
 v173:=zeroValue370
 t212:=underlying379
 a212:=isAgg379
 z212:=sizeOf379
 v212:=zeroValue379
 t213:=underlying380
 a213:=isAgg380
 z213:=sizeOf380
 t232:=underlying363
 a232:=isAgg363
 z232:=sizeOf363
 v232:=zeroValue363
 t233:=underlying384
 a233:=isAgg384
 z233:=sizeOf384
 v233:=zeroValue384
 g17:=by kernel_rfl
 g18:=by kernel_rfl
 g19:=by kernel_rfl
 i0:=by kernel_rfl
 i2:=by kernel_rfl
 i3:=by kernel_rfl
 i4:=by kernel_rfl
 i5:=by kernel_rfl
 i9:=by kernel_rfl
 i20:=by kernel_rfl
 i37:=by kernel_rfl
 i46:=by kernel_rfl
 i51:=by kernel_rfl
 i53:=by kernel_rfl
 i171:=by kernel_rfl
 i173:=by kernel_rfl
 i212:=by kernel_rfl
 i232:=by kernel_rfl
 i233:=by kernel_rfl
 m17:=by kernel_rfl
 m18:=by kernel_rfl
 m19:=by kernel_rfl }
open Go.RowKit Go.Sort Go.Lib in
theorem strconv_Itoa(n:Int)(h0:-9223372036854775808<=n)(h1:n<=9223372036854775807)(w:World)(htab:Lib.TabIs prog w "internal/strconv.uint64pow10" .u64 Lib.pow10Tab) :
  Calls prog 260 #[.int .i64 n] w λe w'=>e= .returned (.string ⟨(Lib.itoa n).toArray⟩)/\∃k os,w'=grow (w.drewN k) os:=Any.strconv_Itoa Cx n h0 h1 w htab
end Go.Proofs
namespace Go.Proofs.YtilnpcolgcmofaaGreatDoor
open Tryz
section
open Go Go.RowKit Go.Shelf
theorem PU{w:World}{O:Nat->Prop}{d:D}{b:List D}{s:List Value}(h:bb w O (d::b) s):∃u a,s=u::a/\Rd w O d u/\bb w O b a:=by
 cases s with
 |nil=>have:=h.len;simp at this
 |cons u a=>exact⟨u,a,rfl,h.at_ 0 _ _ rfl rfl,⟨by have:=h.len;simpa using this,λj d u e c=>h.at_ (j+1) d u (by simpa using e) (by simpa using c)⟩⟩
theorem Zs{w:World}{O:Nat->Prop}{u:List Value}(h:bb w O [] u):u=[]:=by
 have:=h.len;exact List.eq_nil_of_length_eq_zero (by simpa using this)
theorem vh:(prog.info? 5).map (λi=>(i.zero,i.size,i.bytes))=some (some (.int .u8 0),1,1):=by kernel_rfl
theorem rL:(prog.info? 316).map (λi=>i.size)=some 2:=by kernel_rfl
theorem IT(b:Nat)(w:World)(c:w.cell? ⟨b,0,none⟩=some (.pointer (some ⟨b,0,none⟩))) :
  Calls prog 258 #[.pointer (some ⟨b,0,none⟩)] w λe a=>e= .returned (.tuple #[])/\w=a:=by
 obtain⟨j,h,_⟩:=xN.1 rL
 go_enter func258,ntmps258
 go_wp2
 rw[Lib.run_neq_ptr_same w _ underlying314 h]
 go_wp2
 go_end0
 exact⟨rfl,rfl⟩
theorem D4(b:Nat)(w:World)(d:w.cell? ⟨b,0,none⟩=some (.pointer none))(h:w.shape? b=some (316,2))(z:w.frozen? ⟨b,0,none⟩=false) :
  Calls prog 258 #[.pointer (some ⟨b,0,none⟩)] w λe c=>e= .returned (.tuple #[])/\c=w.setCell ⟨b,0,none⟩ (.pointer (some ⟨b,0,none⟩)):=by
 obtain⟨j,a,s⟩:=xN.1 rL
 go_enter func258,ntmps258
 go_wp2
 rw[Lib.run_to_unsafe w ⟨b,0,none⟩ underlying314 underlying357 a (by rw[s];decide) h (Nat.zero_lt_succ 1)];simp only[Result.andThen];rw[Oper.upon_value]
 go_wp2
 rw[run_callFunc_extern func270 (by kernel_rfl) (by kernel_rfl) (by kernel_rfl) (e:=Extern.AbiNoEscape.same) (by kernel_rfl)];rw[Lib.run_noEscape];simp only[Result.andThen];rw[Oper.upon_value]
 go_wp2
 rw[Lib.run_from_unsafe w ⟨b,0,none⟩ underlying357 underlying314 a h (by kernel_rfl)];simp only[Result.andThen];rw[Oper.upon_value]
 go_wp2
 go_end0
 exact⟨rfl,rfl⟩
abbrev pB(b:Nat):Value:=.pointer (some ⟨b,0,none⟩)
abbrev kB(b:Nat)(p v:Value):Nat×aE:=(b,.cells 316 [.v p,.v v])
theorem nW(b:Nat)(p v:Value)(k:p= .pointer none\/p=pB b):az prog 258 [.v (pB b)] [kB b p v] (λd σ=>d= .any/\σ=[kB b (pB b) v]):=by
 refine⟨enters_of func258 (by kernel_rfl) rfl,λw X vs j s=>?_⟩;obtain⟨u,c,rfl,q,n⟩:=PU j;rw[Zs n,q.val rfl];obtain⟨_,o,h,vs,rfl,a⟩:=s.at_ b _ yN;obtain⟨x,c,rfl,g,a⟩:=PU a;obtain⟨y,c,rfl,r,a⟩:=PU a;rw[Zs a,g.val rfl,r.val rfl]at h;rcases k with rfl|rfl
 .refine(D4 b w (by simp[World.cell?,h]) (by simp[World.shape?,h]) (by simp[World.frozen?,h])).mono ?_;rintro e f ⟨rfl,rfl⟩;have l:aW (λx=>x=b) w (w.setCell ⟨b,0,none⟩ (pB b)):=(aW.refl (λx=>x=b) w).setCell (p:=⟨b,0,none⟩) (.inr rfl) _;have m:(w.setCell ⟨b,0,none⟩ (pB b)).heap[b]?=some (.cells [pB b,v].toArray 316 (0,0)):=by
   simp only[World.setCell,Array.getElem?_modify,if_true,h]
   rfl
  obtain⟨z,t,_⟩:=s.upd (i:=0) rfl (k':=.cells 316 [.v (pB b),.v v]) l m ⟨_,rfl,.cons (.v _) (.cons (.v _) .nil)⟩;exact⟨_,.any,_,rfl,⟨rfl,rfl⟩,.any _,z,t⟩
 .refine(IT b w (by simp[World.cell?,h])).mono ?_;rintro e f ⟨rfl,rfl⟩;exact⟨_,.any,_,rfl,⟨rfl,rfl⟩,.any _,s,Mv.refl _ _⟩
def g9(l:List Nat)(v:Value)(s:af):Prop:=(∀d∈l,d<256)/\((l=[]/\v= .slice none 0 0/\s=[])\/(l≠[]/\ae 5 1 (l.map λ(d:Nat)=>[D.v (.int .u8 (d:Int))]) v s))
theorem g9.row{l:List Nat}{v:Value}{s:af}(h:g9 l v s):ae 5 1 (l.map λ(d:Nat)=>[D.v (.int .u8 (d:Int))]) v s:=by
 rcases h.2 with⟨rfl,rfl,rfl⟩|⟨_,h⟩
 .exact ae.nil _ _
 .exact h
theorem g9.slice{l:List Nat}{v:Value}{s:af}(h:g9 l v s):∃a n c,v= .slice a n c:=by
 obtain⟨a,c,e⟩:=h.row.slice;exact⟨a,_,c,e⟩
theorem g9.add{l t:List Nat}{v:Value}{s:af}(h:∀d∈l++t,d<256)(e:t≠[])(r:ae 5 1 ((l++t).map λ(d:Nat)=>[D.v (.int .u8 (d:Int))]) v s):g9 (l++t) v s:=⟨h,.inr ⟨by simp[e],r⟩⟩
def lW(b n:Nat)(σ:af):Prop:=∃p v s l,σ=kB b p v::s/\(p= .pointer none\/p=pB b)/\l.length=n/\g9 l v s
theorem lW.new(b:Nat):lW b 0 [kB b (.pointer none) (.slice none 0 0)]:=⟨_,_,[],[],rfl,.inl rfl,rfl,(λd h=>by cases h),.inl ⟨rfl,rfl,rfl⟩⟩
section
variable {P:Program} {w:World} {X:Nat->Prop}
theorem n4{t E ty e:TypeId}{i:TypeInfo}{l:List Nat}(r:P.underlying t=some (.slice e))(q:P.underlying E=some .string)(Q:P.info? e=some i)(M:i.zero=some (.int .u8 0))(k:i.size=1)(z:i.bytes=1)
  (F:aU w X []) (V:∀d∈l,d<256) (I:l≠[]) (hm:l.length<=1000000000) :
  ∃C a G,(Builtin.append_ #[t,E] ty #[.slice none 0 0,.string (bx l)]).run P w= .ok C a/\ae e 1 (l.map λ(d:Nat)=>[D.v (.int .u8 (d:Int))]) C G/\aU a X G/\Mv w [] a G:=by
 have Z:0<l.length:=xS.2 I;obtain⟨C,a,n,f,K,_⟩:=Lib.run_append_own_string (P:=P) w 0 t E ty e i r q Q M k z (.slice none 0 0) 0 [] (World.ownsRow_nil _ _ _ _) (bx l) (by rw[jT];unfold maxLen;omega) (by rw[jT];omega) (zW _);have N:=run_append_nil_string (P:=P) w t E ty e i _ r q Q M (bx l) (by rw[jT];exact Z) (by rw[jT];omega) (by rw[z,jT];omega);rw[N]at n;have x:Ex w a:=by cases n;exact((Ex.refl w).drew).alloc
 have T:C.ownBlock=some w.heap.size:=by cases n;rfl
 have L:Lib.strCells (bx l)=l.map λ(d:Nat)=>Value.int .u8 (d:Int):=aS0 V;rw[jT,xD,List.nil_append]at f;rcases f.2 with⟨rfl,h⟩|⟨g,B,c,rfl,_,hg,u,m,v,H⟩
 .omega
 .obtain rfl:g=w.heap.size:=wK T;have J:∀y∈l.map (λ(d:Nat)=>[D.v (.int .u8 (d:Int))]),y.length=1:=λy S=>by
   obtain⟨d,_,rfl⟩:=xM.1 S
   rfl
  have s:bb a (ay [(w.heap.size,aE.cells e ((l.map λ(d:Nat)=>[D.v (.int .u8 (d:Int))]).flatten++List.replicate (c.toList.drop (l.length*1)).length .any))] X) (l.map λ(d:Nat)=>[D.v (.int .u8 (d:Int))]).flatten (Lib.strCells (bx l)):=by
   rw[L,kT l];have R:=KO (w:=a) (O:=ay [(w.heap.size,aE.cells e (l.map (λ(d:Nat)=>D.v (.int .u8 (d:Int)))++List.replicate (c.toList.drop (l.length*1)).length .any))] X) (l.map λ(d:Nat)=>Value.int .u8 (d:Int));rw[vA]at R;exact R
  have Y:¬X w.heap.size:=λhx=>by have:=F.xlt _ hx;omega
  refine⟨_,a,[(w.heap.size,.cells e ((l.map λ(d:Nat)=>[D.v (.int .u8 (d:Int))]).flatten++List.replicate (c.toList.drop (l.length*1)).length .any))],N.trans n,⟨J,.inr ⟨_,B,_,by rw[zL],rfl,by rw[zL];exact u,m,?_,λd W=>(List.mem_replicate.1 W).2⟩⟩,⟨by simp[aQ],?_,λb o=>yI (F.xlt b o) x.size,?_⟩,⟨x.keep,λb o=>?_⟩⟩
  .simp only[zL,zY,List.length_drop,Array.length_toList,v];omega
  .intro b kk A;simp only[zN,vY]at A;obtain⟨rfl,rfl⟩:=A;refine⟨Y,_,hg,c.toList,by simp,?_⟩;have j:=s.append (kC (w:=a) (c.toList.drop (l.length*1)));rw[←H,vF]at j;exact j
  .refine F.gok.keep x.size (λb o U ho=>?_) (λb o _=>x.block b o) (λb ho=>?_)
   .rcases ho with ho|ho
    .exact U (.inl ho)
    .simp only[aQ,List.map_cons,List.map_nil,zN]at ho;omega
   .rcases ho with ho|ho
    .exact yI (F.xlt b ho) x.size
    .exact Ly
  .simp only[aQ,List.map_cons,List.map_nil,zN]at o;subst o;exact .inr (zT _)
end
section
variable {P:Program} {r:Option Nat} {n:Nat} {df:Nat} {N:Nat} {σ:af} {f:aM} {L:List Oper}
theorem ci.apbuf{o:Oper}{p x:Operand}{t U:TypeId}{u:TypeInfo}{m l:List Nat}{v:Value}{s τ:af}{K:aM->af->Prop}
  (ho:o.op= .call { callee:=.builtin .append,args:=#[p,x],argTypes:=#[t,U] }) (hp:aK f p= .v v) (hx:aK f x=cW l) (D:P.underlying t=some (.slice 5)) (C:P.underlying U=some .string) (hi:P.info? 5=some u) (hz:u.zero=some (.int .u8 0)) (j:u.size=1) (O:u.bytes=1)
  (hr:g9 m v s) (H:σ.Perm (s++τ)) (hl:∀d∈l,d<256) (hm:m.length+l.length<=1000000000)
  (fs:af->af) (hq:∀g,(g++τ).Perm (fs g))
  (kk:∀a n c g,g9 (m++l) (.slice a n c) g->W (aR N o.dst (.v (.slice a n c)) f (λG=>K G (fs g)))):ci P r n df L N o f σ K:=by
 have E:∀d∈m++l,d<256:=λd T=>(zO.1 T).elim (hr.1 d) (hl d);rcases hr.2 with⟨rfl,rfl,rfl⟩|⟨J,h⟩
 .refine⟨λA Q a q V hk=>?_⟩;refine Ji H ?_;refine oM V (by rw[ho];rfl) λw X fr k=>?_;have hpv:=q.le p _ _ _ (k.fr.eval p);rw[hp]at hpv;have hpv:=hpv.val rfl;have hxv:=q.le x _ _ _ (k.fr.eval x);rw[hx]at hxv;have hxv:=hxv.val rfl;have M:=k.st.left;obtain⟨z,y,g,S,g1,g3,R⟩:∃z y g,g9 ([]++l) z g/\(Builtin.append_ #[t,U] o.type #[.slice none 0 0,.string (bx l)]).run P w= .ok z y/\aU y (λb=>X b\/b∈aQ τ) g/\Mv w [] y g:=by
   by_cases F:l=[]
   .subst F;have hf:=Lib.run_firstCells_string (P:=P) w 1 (bx []);refine⟨.slice none 0 0,w,[],⟨E,.inl ⟨rfl,rfl,rfl⟩⟩,?_,M,Mv.refl _ _⟩;have I:(bx []).size=0:=rfl;rw[I]at hf;simp[Builtin.append_,run_underlying D,run_underlying C,sizeOf,typeInfo,hi,j,Builtin.lenOf,I,hf]
   .obtain⟨z,y,g,g1,g2,g3,R⟩:=n4 (ty:=o.type) D C hi hz j O M hl F (by simpa using hm);exact⟨z,y,g,⟨E,.inr ⟨by simpa using F,g2⟩⟩,g1,g3,R⟩
  have ee:(execOp fr.eval o).run P w= .ok (.value z) y:=Xl;rw[ee];obtain⟨q1,q2,q3,q4⟩:=stays k.st g3 R;obtain⟨va,vn,vc,rfl⟩:=S.slice;obtain⟨G,Y,h4⟩:=fE (kk _ _ _ g S).h q;exact⟨_,_,q2,(⟨k.fr.keep R.keep.size q3 q4,q1,k.df.keep R.keep.size q3 q4⟩:St y X df a (g++τ) fr).put (.v _) o.dst,Ji (hq g) (hk _ _ _ h4 Y)⟩
 .refine⟨λA Q a q V hk=>?_⟩;refine(ci.apstr (l:=l) (K:=λG σ'=>∃g,σ'=g++τ/\K G (fs g)) ho hp hx D C hi hz j O h (by simpa using J) H hl (by rw[zL];exact hm) (λz g Z=>?_)).run A Q a q V (λG σ' a'⟨g,e,h1⟩h2=>by subst e;exact Ji (hq g) (hk G _ a' h1 h2));have S:g9 (m++l) z g:=⟨E,.inr ⟨by simp[J],by rw[yB];exact Z⟩⟩
  obtain⟨va,vn,vc,rfl⟩:=S.slice;have B:=(kk _ _ _ g S).h;refine⟨?_⟩
  cases T:o.dst with
  |none=>rw[T]at B;exact⟨g,rfl,B⟩
  |some i=>
   rw[T]at B;simp only[aR]at B⊢
   cases hb:Nat.blt i N with
   |true=>rw[hb]at B;exact⟨g,rfl,B⟩
   |false=>rw[hb]at B;exact B
end
/- String,of bytes: they are frozen. -/
theorem O9(b g a:Nat)(p:Value)(c:Array Value)(l:List Nat)(r:∀d∈l,d<256)(w:World)(t:l≠[])(q:w.heap[b]?=some (.cells #[p,.slice (some ⟨g,0,none⟩) l.length a] 316 (0,0)))(n:w.heap[g]?=some (.cells c 5 (0,0)))
  (m:l.length<=a) (i:a<=maxLen) (s:c.size=a) (h:c.toList.take l.length=l.map λ(d:Nat)=>Value.int .u8 (d:Int)) :
  Calls prog 223 #[.pointer (some ⟨b,0,none⟩)] w λe v=>e= .returned (.string (bx l))/\v=w.drew.freeze ⟨g,0,none⟩ l.length:=by
 have y:0<l.length:=xS.2 t;have c1:w.drew.cell? ⟨b,1,none⟩=some (.slice (some ⟨g,0,none⟩) l.length a):=by
  have:w.drew.heap[b]?=_:=q;rw[Lib.cell_of_heap this];rfl
 have D:(Builtin.unsafeSliceData_ #[147] 348 #[.slice (some ⟨g,0,none⟩) l.length a]).run prog w.drew= .ok (.pointer (some ⟨g,0,none⟩)) w.drew:=
  Lib.run_unsafeSliceData_row _ _ _ _ _ _ (by omega)
 have f:(l.map UInt8.ofNat).length=l.length:=zL ..;have S:=Lib.run_unsafeString_row (P:=prog) w.drew 348 3 9 5 underlying348 (by kernel_rfl) g c.size (by have k:w.drew.heap[g]?=some (.cells c 5 (0,0)):=n;simp[World.shape?,k]) (l.map UInt8.ofNat) (by simpa using t) (by rw[f];omega) (by rw[f];unfold maxLen at i;omega) (λj x hx=>by
  rw[qA]at hx;obtain⟨d,o,rfl⟩:=xN.1 hx;have z:=(zE.1 o).1;have A:=r d (zG o);have E:c[j]?=some (.int .u8 (d:Int)):=by
   have u:(c.toList.take l.length)[j]?=some (.int .u8 (d:Int)):=by rw[h,qA,o];rfl
   rw[yX,if_pos z]at u
   simpa using u
  have k:w.drew.heap[g]?=some (.cells c 5 (0,0)):=n;have C:(UInt8.ofNat d).toNat=d:=by simp;omega
  rw[C,x4];simp[World.cell?,k,E])
 rw[f]at S;have B:(⟨(l.map UInt8.ofNat).toArray⟩:ByteArray)=bx l:=rfl;rw[B]at S;clear m i s h n f r
 go_enter func223,ntmps223
 go_wp2
 go_region
 all_goals(go_wp2;go_ret;exact⟨rfl,rfl⟩)
theorem O'(b:Nat)(p:Value)(w:World)(h:w.heap[b]?=some (.cells #[p,.slice none 0 0] 316 (0,0))) :
  Calls prog 223 #[.pointer (some ⟨b,0,none⟩)] w λe a=>e= .returned (.string ⟨#[]⟩)/\a=w.drew:=by
 have S:∀q W,(Builtin.unsafeString_ #[348,3] 9 #[.pointer q,.int .i64 0]).run prog W= .ok (.string .empty) W:=λq W=>Lib.run_unsafeString_none W _ _ _ q;have c1:w.drew.cell? ⟨b,1,none⟩=some (.slice none 0 0):=by
  have:w.drew.heap[b]?=_:=h;rw[Lib.cell_of_heap this];rfl
 have D:(Builtin.unsafeSliceData_ #[147] 348 #[.slice none 0 0]).run prog w.drew= .ok (.pointer none) w.drew:=rfl
 go_enter func223,ntmps223
 go_wp2
 go_region
 all_goals(go_wp2;go_ret;exact⟨rfl,rfl⟩)
theorem bh6(b n:Nat)(σ:af)(h:lW b n σ):az prog 223 [.v (pB b)] σ (λd σ'=>∃s:ByteArray,d= .v (.string s)/\s.size=n/\σ'=[]):=by
 obtain⟨p,v,s,l,rfl,hp,rfl,f⟩:=h;refine⟨enters_of func223 (by kernel_rfl) rfl,λw X vs T A=>?_⟩;obtain⟨u,G,rfl,W,V⟩:=PU T;rw[Zs V,W.val rfl];obtain⟨_,o,C,vs,rfl,t⟩:=A.at_ b _ yN;obtain⟨x,G,rfl,Q,t⟩:=PU t;obtain⟨y,G,rfl,P,t⟩:=PU t;rw[Zs t,Q.val rfl,P.val rfl]at C;rcases f.2 with⟨rfl,rfl,rfl⟩|⟨m,K⟩
 .refine(O' b p w C).mono ?_;rintro e O ⟨rfl,rfl⟩;have hx:Ex w w.drew:=(Ex.refl w).drew;exact⟨_,_,[],rfl,⟨_,rfl,rfl,rfl⟩,.v _,(A.ex hx).sub (yV _),(jx hx).fewer (λb f=>by cases f)⟩
 .obtain⟨g,z,I,rfl,rfl,q,r,L,_⟩:=K.block (by simpa using m);obtain⟨_,o,N,vs,rfl,M⟩:=A.at_ g _ (yQ _ yN);have a:=E4 K.len;rw[zL]at q L a C;have D:vs.length=z:=by rw[M.len,zI,a];omega
  have J:=M.take l.length;rw[List.take_left' (by rw[a];omega),kT]at J;have c:vs.take l.length=l.map λ(d:Nat)=>Value.int .u8 (d:Int):=by
   refine xY λj=>?_
   cases B:l[j]? with
   |none=>
    have L:l.length<=j:=by simpa using B
    rw[qA,B,yX,if_neg (by omega)];rfl
   |some d=>
    obtain⟨u,S,R⟩:=J.get (j:=j) (d:=.v (.int .u8 (d:Int))) (by rw[qA,B];rfl);rw[S,R.val rfl,qA,B];rfl
  refine(O9 b g z p vs.toArray l f.1 w m C N q r (by simpa using D) c).mono ?_;rintro e O ⟨rfl,rfl⟩;have F:aW (λx=>x=g) w (w.drew.freeze ⟨g,0,none⟩ l.length):=by
   unfold World.freeze;split
   .exact⟨rfl,rfl,rfl,zT _,λ_ _ _=>rfl⟩
   .exact⟨rfl,rfl,rfl,by simp,λk F U=>by
     simp only[Array.getElem?_modify];rw[if_neg (λe=>U e.symm)];rfl⟩
  obtain⟨H,E⟩:∃H,(w.drew.freeze ⟨g,0,none⟩ l.length).heap[g]?=some H:=⟨_,Array.getElem?_eq_getElem (yI (zX.1 N).1 F.size)⟩
  obtain⟨Z,Y,_⟩:=A.upd (i:=1) rfl (k':=.obj λ_=>True) F E trivial;exact⟨_,_,[],rfl,⟨_,rfl,jT l,rfl⟩,.v _,Z.sub (yV _),Y.fewer (λb f=>by cases f)⟩
theorem Pd(b n:Nat)(σ:af)(h:lW b n σ)(t:List Nat)(ht:∀d∈t,d<256)(q:n+t.length<=1000000000):az prog 219 [.v (pB b),cW t] σ (λd σ'=>d= .any/\lW b (n+t.length) σ'):=by
 obtain⟨p,v,s,l,rfl,o,rfl,hb⟩:=h;obtain⟨k,hi,hj⟩:=xN.1 vh;simp only[vY]at hj;obtain⟨i,g,f⟩:=hj;refine cU func219 ntmps219 λr=>?_
 repeat refine aq ?_
 refine ba (nW b p v o) (by exact zH ([_]++s)) (λe=>e++s) (λe=>zH _) ?_;rintro _ _ ⟨rfl,rfl⟩
 repeat refine aq ?_
 refine ci.apbuf (m:=l) (l:=t) rfl rfl rfl underlying147 underlying9 hi i g f hb (τ:=[kB b (pB b) v]) (by exact yT (l₁:=[kB b (pB b) v])) ht q (λe=>kB b (pB b) v::e) (λe=>yT) (λa n c e j=>?_)
 repeat refine aq ?_
 exact Rt.by (Vs.le (λ_ _ v _=>.any v)) ⟨rfl,_,_,_,_,rfl,.inr rfl,zI,j⟩
theorem td(b n:Nat)(σ:af)(h:lW b n σ)(c:Nat)(hc:c<256)(i:n+1<=1000000000):az prog 259 [.v (pB b),.v (.int .u8 (c:Int))] σ (λd σ'=>d= .any/\lW b (n+1) σ'):=by
 obtain⟨p,v,s,l,rfl,f,rfl,hb⟩:=h;refine cU func259 ntmps259 λk=>?_
 repeat refine aq ?_
 refine ba (nW b p v f) (by exact zH ([_]++s)) (λe=>e++s) (λe=>zH _) ?_;rintro _ _ ⟨rfl,rfl⟩
 repeat refine aq ?_
 refine Ap.go rfl rfl rfl rfl hb.row (τ:=[kB b (pB b) v]) (by exact yT (l₁:=[kB b (pB b) v])) rfl (zs:=(l++[c]).map λ(d:Nat)=>[D.v (.int .u8 (d:Int))]) (by rw[yB];rfl) (by simp;omega) (by simp;omega) (λe=>kB b (pB b) v::e) (λe=>yT) (λa j e r=>?_)
 repeat refine aq ?_
 exact Rt.by (Vs.le (λ_ _ v _=>.any v)) ⟨rfl,_,_,_,l++[c],rfl,.inr rfl,zI,g9.add (λd g=>(zO.1 g).elim (hb.1 d) (λh=>by rw[zN]at h;omega)) (by simp) r⟩
end
section
open Go
abbrev xr(f:FuncId):D:=.v (.func (.func f) #[] #[])
abbrev cD(c:UInt8):D:=.v (.int .u8 c.toNat)
theorem Mh(n a b:Int):APure prog 158 [iD n,iD a,iD b] (bD (cz n a b)):=by
 refine ao func158 ntmps158 λe=>?_;exact Xs
theorem aG5(lo hi a b:Int):APure prog 211 [iD lo,iD hi,iD a,iD b] (bD (ln lo hi a b)):=by
 refine ao func211 ntmps211 λe=>?_;exact Xt
theorem aC9(c:UInt8):APure prog 246 [cD c] (bD (I2 c)):=by
 refine ao func246 ntmps246 λa=>?_;exact Xu
theorem AK(c:UInt8):APure prog 249 [cD c] (bD (nK c)):=by
 refine ao func249 ntmps249 λa=>?_;exact Xv
theorem R2{A B:Prop}(k:B)(h:ar B->A:=by intro q7;(first|refine bA ?_|refine aA ?_|(refine' ah ?hc ?_;(case hc=>first|exact aC9 _|exact AK _)));exact q7.1):A:=h ⟨k⟩
theorem AI(c:UInt8):APure prog 248 [cD c] (bD (!eQ c)):=by
 refine ao func248 ntmps248 λa=>?_
 repeat' first|refine R2 ?_|(refine aT ?_;constructor<;>intro hc)
 all_goals(refine Rt.pure (zM bD ?_);simp[eQ, *])
theorem OA{f:FuncId}(l:List UInt8)(p:UInt8->Bool)(hl:l.length<=1000000)(hp:∀y∈l,APure prog f [cD y] (bD (p y))):APure prog 266 [.sl 1 (l.map λc=>[cD c]),xr f] (iD (idx p l)):=by
 refine ao func266 ntmps266 λa=>?_;exact nP
theorem R1{A B:Prop}(k:B)(h:ar B->A:=by intro q7;(first|refine bA ?_|refine aA ?_|(refine' ah ?hc ?_;(case hc=>exact OA l p hl hp)));exact q7.1):A:=h ⟨k⟩
theorem JB{f:FuncId}(l:List UInt8)(p:UInt8->Bool)(hl:l.length<=1000000)(hp:∀y∈l,APure prog f [cD y] (bD (p y))):APure prog 247 [.sl 1 (l.map λc=>[cD c]),xr f] (bD (l.any p)):=by
 refine ao func247 ntmps247 λa=>?_
 repeat refine R1 ?_
 refine Rt.pure (zM bD ?_);exact qM p l
end
end Go.Proofs.YtilnpcolgcmofaaGreatDoor
