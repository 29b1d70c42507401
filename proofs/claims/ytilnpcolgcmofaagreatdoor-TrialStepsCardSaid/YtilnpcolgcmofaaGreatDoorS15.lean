/- A part of the proof: Df V6 V7 V9 Hb Hc Hd Hk. -/
import Derived.Test.YtilnpcolgcmofaaGreatDoorS14
set_option maxRecDepth 100000
set_option maxHeartbeats 20000000
set_option linter.all false
namespace Go.Proofs.YtilnpcolgcmofaaGreatDoor
open Tryz
section
open Go
structure xj(l:bW):Prop where
 n:1<=l.tz.length/\l.tz.length<=12
 m:l.mz.length<=32
 q:∀q∈l.mz,(0<=q.1/\q.1<(l.tz.length:Int))/\(0<=q.2/\q.2<(l.tz.length:Int))
theorem uH(l:bW)(h:xj l):APure prog 180 [dj l] (iD 0):=by
 have h1:=h.n;have h2:=h.m;refine ao func180 ntmps180 λf=>?_
 repeat' first|refine aN ?_|intro b;conv=>whnf
 refine aV mixed ai (γ:=Nat) (λi=>[(4,iD i)]) (λ_=>[]) (λi=>i<=l.mz.length) (λi=>l.mz.length-i) 0 (aj aw) (Sc.refl _) (zW _) ?_;intro i hi;by_cases hil:i<l.mz.length
 .obtain⟨y,a⟩:∃y,l.mz[i]?=some y:=⟨_,zD hil⟩
  have hy:l.mz[((i:Nat):Int).toNat]?=some y:=a;have e:=h.q y (zG a)
  repeat' first|refine aN ?_|intro b;conv=>whnf|((with_reducible refine' Ot.yd ?hyd ?_);(case hyd=>first|exact jf ai (m:=0) (q:=0) rfl rfl rfl rfl rfl rfl (by decide) rfl|exact jf ai (m:=1) (q:=1) rfl rfl rfl rfl rfl rfl (by decide) rfl))
  exact⟨i+1,(aj aw),(Sc.sl (yG _ _)),by omega,by omega⟩
 .obtain rfl:i=l.mz.length:=by omega
  repeat' first|refine aN ?_|intro b;conv=>whnf
  refine Rt.pure (zM iD ?_)
  rfl
def cn(mv:List (Int×Int))(s:Int):List Int:=(mv.filter λp=>decide (p.1=s)).map Prod.snd
theorem uT{mv:List (Int×Int)}{i:Nat}{y:Int×Int}(h:mv[i]?=some y)(s:Int):cn (mv.take (i+1)) s=cn (mv.take i) s++(if y.1=s then[y.2]else[]):=by
 unfold cn;rw[xC,h,vZ,yB]
 congr 1
 by_cases e:y.1=s<;>simp[e]
theorem B2(mv:List (Int×Int))(s:Int):(cn mv s).length<=mv.length:=by
 unfold cn;rw[zL];exact List.length_filter_le _ _
theorem uI(l:bW)(h:xj l)(s:Int):APure prog 181 [dj l,iD s] (bi (cn l.mz s)):=by
 have h2:=h.m;refine ao func181 ntmps181 λo=>?_
 repeat refine aN ?_
 refine aV mixed ai (γ:=Nat×Value×af) (λg=>[(6,iD g.1),(5,.v g.2.1)]) (λg=>g.2.2) (λg=>g.1<=l.mz.length/\J' (cn (l.mz.take g.1) s) g.2.1 g.2.2) (λg=>l.mz.length-g.1) (0,.slice none 0 0,[]) (aj aw) (Sc.refl _) ⟨zW _,ae.nil _ _⟩ ?_;rintro⟨i,v,r⟩ ⟨hi,w⟩;simp only at hi w⊢;by_cases hil:i<l.mz.length
 .obtain⟨y,e⟩:∃y,l.mz[i]?=some y:=⟨_,zD hil⟩
  have hy:l.mz[((i:Nat):Int).toNat]?=some y:=e;have a:=uT e s;have f:=B2 (l.mz.take (i+1)) s;rw[zR]at f;by_cases hys:y.1=s
  .rw[if_pos hys]at a;have b:ae 3 1 ((cn (l.mz.take i) s).map λn=>[iD n]) v r:=w
   repeat refine aN ?_
   refine Ap.go rfl rfl rfl rfl b (bR _) rfl (zs:=(cn (l.mz.take (i+1)) s).map λn=>[iD n]) (by rw[a,yB];rfl) (by simp;omega) (by simp;omega) (λs'=>s') cZ (λk j s' hr=>?_)
   repeat refine aN ?_
   exact sW
  .rw[if_neg hys,zZ]at a;rw[←a]at w
   repeat refine aN ?_
   exact⟨(i+1,v,r),(aj aw),Sc.refl _,⟨by simp only;omega,w⟩,by simp only;omega⟩
 .obtain rfl:i=l.mz.length:=by omega
  rw[yM]at w
  repeat refine aN ?_
  exact Rt.vs (Vs.row w (bR _))
theorem DG(sd:List Nat)(p:List Int){n:Int}(h:n=1\/n=2\/n=1099511627776):oA sd p n:=by
 have:=jY sd p 0;rcases h with rfl|rfl|rfl<;>(refine⟨by decide,?_⟩;unfold H';simp;omega)
def fy(l:List Int):Int:=l.getD (l.length-1) 0
def Hq(mv:List (Int×Int))(sd:List Nat)(p:List Int)(i:Nat)(c:Int):Int:=(cn mv c).getD (dL sd (p++[(i:Int)]) (cn mv c).length).toNat 0
def ey(mv:List (Int×Int))(sd:List Nat)(p:List Int):Nat->List Int
 |0=>[0]
 |i+1=>if cn mv (fy (ey mv sd p i))=[]then ey mv sd p i else ey mv sd p i++[Hq mv sd p i (fy (ey mv sd p i))]
section
variable {mv:List (Int×Int)} {sd:List Nat} {p:List Int}
theorem aL1:∀i,1<=(ey mv sd p i).length/\(ey mv sd p i).length<=i+1
 |0=>by simp[ey]
 |i+1=>by
  have:=aL1 i;rw[ey];split
  .omega
  .rw[zI,List.length_singleton];omega
theorem Ie{l:List Int}(h:1<=l.length):l[l.length-1]?=some (fy l):=by
 unfold fy;rw[List.getD_eq_getElem?_getD,zD (by omega)];rfl
theorem sj{i:Nat}{c:Int}(h:cn mv c≠[]):0<=dL sd (p++[(i:Int)]) (cn mv c).length/\dL sd (p++[(i:Int)]) (cn mv c).length<(cn mv c).length/\(cn mv c)[(dL sd (p++[(i:Int)]) (cn mv c).length).toNat]?=some (Hq mv sd p i c):=by
 have l:0<(cn mv c).length:=xS.2 h;have b:=E0 (sd:=sd) (p:=p++[(i:Int)]) (n:=(cn mv c).length) (by omega);refine⟨b.1,b.2,?_⟩;unfold Hq;rw[List.getD_eq_getElem?_getD,zD (by omega)];rfl
def vP:=@List.mem_filter
theorem kH{n:Int}(d:0<n)(c:∀q∈mv,0<=q.2/\q.2<n):∀i,∀z∈ey mv sd p i,0<=z/\z<n
 |0,z,h=>by simp[ey]at h;omega
 |i+1,z,h=>by
  rw[ey]at h;split at h
  .exact kH d c i z h
  .rename_i e;rcases zO.1 h with h|h
   .exact kH d c i z h
   .rw[zN]at h;subst h;obtain⟨_,_,g⟩:=sj (sd:=sd) (p:=p) (i:=i) e;have f:=zG g;unfold cn at f;obtain⟨q,b,a⟩:=xM.1 f;rw[←a];exact c q ((vP.1 b).1)
theorem aT6{i:Nat}(h:cn mv (fy (ey mv sd p i))=[]):∀d,ey mv sd p (i+d)=ey mv sd p i
 |0=>rfl
 |d+1=>by
  have a:=aT6 h d;rw[←vQ,ey,a,if_pos h]
end
theorem RK{A B:Prop}(k:B)(h:ar B->A:=by intro q7;(first|refine bQ ?_|refine mx ?_|(refine' ah ?hc ?_;(case hc=>first|exact HV|exact HM|exact HB)));exact q7.1):A:=h ⟨k⟩
theorem o6{A B:Prop}(k:B)(h:ar B->A:=by intro q7;(first|refine bQ ?_|refine aA ?_|(refine' ah ?hc ?_;(case hc=>first|exact HV|exact HM|exact HB)));exact q7.1):A:=h ⟨k⟩
theorem Bw(l:bW)(h:xj l)(Q:∀s,(cn l.mz s).length<=2)(sd:List Nat)(hs:fX sd)(p:List Int)(U:p.length<=7)(z:∀v∈p,cA v)(k:Nat)(V:k<=100):APure prog 204 [dj l,cW sd,bi p,iD k] (.tup [bi (ey l.mz sd p k),iD 0]):=by
 have T:=jT sd;have L:=hs.n;have HV:=uH l h;refine ao func204 ntmps204 λBB=>?_
 repeat' first|refine RK ?_|intro b;conv=>whnf
 refine Bx.l ?_
 repeat' first|refine RK ?_|intro b;conv=>whnf
 refine Bx.r ?_;refine KN ai rfl rfl rfl rfl rfl rfl rfl rfl rfl rfl (by decide) (λE=>?_)
 repeat' first|refine o6 ?_|intro b;conv=>whnf
 refine aV mixed ai (γ:=Nat×Value×af) (λg=>[(12,iD g.1),(11,.v g.2.1)]) (λg=>g.2.2) (λg=>g.1<=k/\J' (ey l.mz sd p g.1) g.2.1 g.2.2) (λg=>k-g.1) (0,.slice (some ⟨E,0,none⟩) 1 1,[(E,.cells 3 [iD 0])]) (aj aw) (Sc.refl _) ⟨zW _,PW (xs:=[[iD 0]]) E (by simp) (by decide)⟩ ?_;rintro⟨i,v,r⟩ ⟨hi,w⟩;simp only at hi w⊢;by_cases hik:i<k
 .have M:=aL1 (mv:=l.mz) (sd:=sd) (p:=p) i;have C:=Ie (l:=ey l.mz sd p i) (by omega);have a:ae 3 1 ((ey l.mz sd p i).map λn=>[iD n]) v r:=w;obtain⟨Z,G,u,R,D,o⟩:=ae.get a (show((ey l.mz sd p i).map λn=>[iD n])[(ey l.mz sd p i).length-1]?=some [iD (fy (ey l.mz sd p i))] by rw[qA,C];rfl);have e:=o 0 (by decide);rw[Nat.mul_one,Nat.add_zero]at e;have HM:=uI l h (fy (ey l.mz sd p i));have j:ey l.mz sd p (i+1)=if cn l.mz (fy (ey l.mz sd p i))=[]then ey l.mz sd p i else ey l.mz sd p i++[Hq l.mz sd p i (fy (ey l.mz sd p i))]:=rfl
  have P:=Q (fy (ey l.mz sd p i));have F:=aL1 (mv:=l.mz) (sd:=sd) (p:=p) (i+1);subst R D;have q:0+((((ey l.mz sd p i).map λn=>[iD n]).length:Int)-1).toNat*1=(ey l.mz sd p i).length-1:=by rw[zL];omega
  by_cases hmo:cn l.mz (fy (ey l.mz sd p i))=[]
  .have t:=aT6 hmo (k-i);rw[show i+(k-i)=k by omega]at t;rw[hmo]at HM
   repeat' first|refine o6 ?_|intro b;conv=>whnf|(refine Ld.cellm (tb:=3) (cs:=u) (List.Mem.head _) (by rw[q];exact e) ?_)
   rw[t];exact Rt.vs (Vs.tup (.cons (Vs.row a (bR _)) (.cons (Vs.refl _ _) (.nil _))))
  .obtain⟨K,J,I⟩:=sj (sd:=sd) (p:=p) (i:=i) hmo;rw[if_neg hmo]at j;have O:0<(cn l.mz (fy (ey l.mz sd p i))).length:=xS.2 hmo;have HB:=Qv sd hs (p++[(i:Int)]) ⟨by simp;omega,λv f=>by
    rcases zO.1 f with f|f
    .exact z v f
    .rw[zN]at f;subst f;exact⟨by omega,by omega⟩⟩ ((cn l.mz (fy (ey l.mz sd p i))).length:Int) (DG sd _ (by omega))
   rw[show((cn l.mz (fy (ey l.mz sd p i))).length:Int)=(((cn l.mz (fy (ey l.mz sd p i))).map λx=>[iD x]).length:Int) by rw[zL]]at HB K J I
   repeat' first|refine o6 ?_|intro b;conv=>whnf|(refine Ld.cellm (tb:=3) (cs:=u) (List.Mem.head _) (by rw[q];exact e) ?_)
   refine Ap.go rfl rfl rfl rfl (ae.e0 _ _ (some ⟨b,0,none⟩)) (show List.Perm _ ([]++_) from zH _) (JS p) (zs:=p.map λn=>[iD n]) rfl (by simp;omega) (by simp;omega) (λs'=>s'++_) (λs'=>zH _) (λa5 X S y=>?_)
   repeat' first|refine o6 ?_|intro b;conv=>whnf
   refine Ap.frz rfl rfl rfl rfl y (zH _) rfl (zs:=(p++[(i:Int)]).map λn=>[iD n]) (by rw[yB];rfl) (by simp;omega) (by simp;omega) ?_
   repeat' first|refine o6 ?_|intro b;conv=>whnf
   refine Ap.go rfl rfl rfl rfl a (bR _) rfl (zs:=(ey l.mz sd p (i+1)).map λn=>[iD n]) (by rw[j,yB];rfl) (by rw[zL];omega) (by rw[zL];omega) (λs'=>s') cZ (λa' Y s' hr=>?_)
   repeat' first|refine o6 ?_|intro b;conv=>whnf
   exact sW
 .obtain rfl:i=k:=by omega
  repeat' first|refine o6 ?_|intro b;conv=>whnf
  exact Rt.vs (Vs.tup (.cons (Vs.row w (bR _)) (.cons (Vs.refl _ _) (.nil _))))
end
section
open Go Go.RowKit
def iz(k f st:Int)(e:Int):cK:=[⟨4,1,k,0⟩,⟨1,2,1,0⟩,⟨1,5,st,0⟩,⟨8,0,1,e⟩,⟨2,4,0,7⟩,⟨5,4,k,f⟩]
def Cf(k f r a st:Int):cK:=if r<0 then iz k f st 10 else iz k f st 11++[⟨5,4,r,a⟩]
def lM(k f r a o st c:Int):cK:=Cf k f r a st++[⟨2,0,0,2⟩,⟨o,4,5,(if r<0 then 10 else 11)-1⟩,⟨6,3,0,0⟩,⟨0,c,0,0⟩]
abbrev Mw(p:cK)(v:Value)(s:af):Prop:=ae 83 4 (p.map bX) v s
theorem aZ4(k f r a st:Int):(Cf k f r a st).length<=7:=by unfold Cf;split<;>simp[iz]
theorem ku{p:cK}(b:Nat)(h:p.length<=1000){n:Nat}(a:n=p.length):Mw p (.slice (some ⟨b,0,none⟩) n n) [(b,.cells 83 (p.map bX).flatten)]:=by
 subst a;have:=PW (e:=83) (k:=4) (xs:=p.map bX) b (by intro x hx;obtain⟨y,_,rfl⟩:=xM.1 hx;rfl) (by rw[zL];unfold maxLen;omega)
 rwa [zL]at this
theorem Nq{cs:List D}{n:Nat}{d:D}(h:n<cs.length):cs.set n d=cs.take n++[d]++cs.drop (n+1):=by
 rw[xW,if_pos h];simp
theorem Ak{A B:Prop}(k:B)(h:ar B->A:=by intro q7;(first|refine bQ ?_|refine mx ?_|(refine' ah ?hc ?_;(case hc=>fail)));exact q7.1):A:=h ⟨k⟩
theorem ZT{p:Prop}(h:p:=by unfold lM;rw[zL,zI];have:=aZ4 k f rk rf st;simp;omega):p:=h
theorem aD2(k f rk rf g st c:Int):az prog 50 [iD k,iD f,iD rk,iD rf,iD g,iD st,iD c] [] (λd σ=>∃v,d= .v v/\Mw (lM k f rk rf g st c) v σ):=by
 refine cU func50 ntmps50 λy=>?_;by_cases hr:rk<0
 .repeat refine Ak ?_
  refine Bx.r ?_;refine KN ai (out:=((iz k f st 10).map bX).flatten) rfl rfl rfl rfl rfl rfl rfl rfl (by kernel_rfl) (by kernel_rfl) (by decide) (λo=>?_);have a:Mw (iz k f st 10) (.slice (some ⟨o,0,none⟩) 6 6) _:=ku o (by simp[iz]) rfl
  repeat refine aN ?_
  refine Ap.go rfl rfl rfl rfl a (bR _) rfl (zs:=(lM k f rk rf g st c).map bX) (by unfold lM Cf;simp only[hr,if_true,uC];rfl) ZT ZT (λs=>s) cZ (λn c1 l e=>?_)
  repeat refine aN ?_
  exact Rt.by (Vs.refl _ _) ⟨_,rfl,e⟩
 .repeat refine Ak ?_
  refine Bx.r ?_;refine KN ai (out:=((iz k f st 10).map bX).flatten) rfl rfl rfl rfl rfl rfl rfl rfl (by kernel_rfl) (by kernel_rfl) (by decide) (λo=>?_);have j:Mw (iz k f st 10) (.slice (some ⟨o,0,none⟩) 6 6) _:=ku o (by simp[iz]) rfl
  repeat refine aN ?_
  refine Ap.go rfl rfl rfl rfl j (bR _) rfl (zs:=(iz k f st 10++[(⟨5,4,rk,rf⟩:VI)]).map bX) rfl (by simp[iz]) (by simp[iz]) (λs=>s) cZ (λn c1 l a=>?_);obtain⟨w,t,u,r,q,-⟩:=ae.block a (by simp[iz])
  cases r
  subst q;have hl:((iz k f st 10++[(⟨5,4,rk,rf⟩:VI)]).map bX).length=7:=rfl;rw[hl]at a⊢;have b:=pB1 (d:=iD 11) a (i:=3) (m:=3) (x:=bX ⟨8,0,1,10⟩) rfl (by decide);rw[show((iz k f st 10++[(⟨5,4,rk,rf⟩:VI)]).map bX).set 3 ((bX ⟨8,0,1,10⟩).set 3 (iD 11))=(iz k f st 11++[(⟨5,4,rk,rf⟩:VI)]).map bX from rfl]at b;rw[Nq (by simp[iz,bX])]at b
  repeat refine aN ?_
  refine Ap.go rfl rfl rfl rfl b (bR _) rfl (zs:=(lM k f rk rf g st c).map bX) (by unfold lM Cf;simp only[hr,uC];rfl) ZT ZT (λs=>s) cZ (λn c1 l e=>?_)
  repeat refine aN ?_
  exact Rt.by (Vs.refl _ _) ⟨_,rfl,e⟩
end
section
open Go
structure QU(x:ak)(k f:Int):Prop where
 k0:0<=k
 k5:k<=5
 kl:k<x.kz.length
 f0:0<=f
 f9:f<=9
 nm:di x ⟨5,4,k,f⟩=true
structure en(x:ak)(p:cK):Prop where
 len:p.length<=128
 ok:∀i∈p,EO p.length i
 nm:∀i∈p,di x i=true
theorem en.valid{x:ak}{p:cK}(h:en x p):xy p=0:=by
 unfold xy;rw[if_neg (by have:=h.len;omega),if_pos (yA.2 λi a=>Zr.2 (h.ok i a))]
theorem en.named{x:ak}{p:cK}(h:en x p):QD x p=true:=yA.2 h.nm
theorem EO.of{n:Nat}{i:VI}(h:oE n i=true):EO n i:=Zr.1 h
theorem aK8{x:ak}{p:cK}(c:p.length<=128)(b:p.all (oE p.length)=true)(a:p.all (di x)=true):en x p:=
 ⟨c,λi h=>Zr.1 (yA.1 b i h),yA.1 a⟩
theorem Zq{x:ak}{i:VI}(a:i.op≠4)(h:i.op≠5):di x i=true:=by unfold di;rw[if_neg a,if_neg h]
theorem Hw{x:ak}{a b k f:Int}(h:di x ⟨5,a,k,f⟩=true):di x ⟨5,b,k,f⟩=true:=h
theorem QL{x:ak}{a k f:Int}(h:k<x.kz.length):di x ⟨4,a,k,f⟩=true:=by simp[di,h]
def ug(i:VI):VI:=if i.op=6 then⟨i.op,i.a+3,i.b,i.c⟩else if i.op=7\/i.op=8 then⟨i.op,i.a,i.b,i.c+3⟩else i
structure Ke(x:ak)(k f rk rf op st c:Int):Prop where
 p:QU x k f
 r:rk<0\/QU x rk rf
 op:op=7\/op=8
 st:-2<=st/\st<=9
 c:1<=c/\c<=3
theorem aP1{x:ak}{k f r a o st c:Int}(h:Ke x k f r a o st c):en x (lM k f r a o st c):=by
 obtain⟨⟨m,j,kl,f0,f9,nm⟩,b,p,⟨d,s⟩,⟨c1,u⟩⟩:=h;by_cases e:r<0
 .refine aK8 ?_ ?_ ?_
  .unfold lM;rw[zI];have:=aZ4 k f r a st;simp;omega
  .rcases p with rfl|rfl<;>(simp[lM,Cf,iz,e,oE,cy,cM,oF,kQ];omega)
  .rcases p with rfl|rfl<;>simp[lM,Cf,iz,e,nm,QL kl,Zq]
 .obtain⟨i,g,l,t,q,n⟩:=b.resolve_left e;refine aK8 ?_ ?_ ?_
  .unfold lM;rw[zI];have:=aZ4 k f r a st;simp;omega
  .rcases p with rfl|rfl<;>(simp[lM,Cf,iz,e,oE,cy,cM,oF,kQ];omega)
  .rcases p with rfl|rfl<;>simp[lM,Cf,iz,e,nm,n,QL kl,Zq]
def kE(kk n:Int):cK:=[⟨4,6,kk,0⟩,⟨1,5,n,0⟩,⟨7,6,5,13⟩]
theorem NK{x:ak}{k f o st c kk n:Int}(h:Ke x k f (-1) 0 o st c)(b:0<=kk/\kk<=5)(l:kk<x.kz.length)(a:1<=n/\n<=3):en x (kE kk n++(lM k f (-1) 0 o st c).map ug):=by
 obtain⟨⟨j,i,kl,f0,f9,nm⟩,r,p,⟨d,s⟩,⟨c1,m⟩⟩:=h;obtain⟨t,q⟩:=b;obtain⟨g,e⟩:=a;refine aK8 ?_ ?_ ?_
 .unfold lM;rw[zI,zL,zI];have:=aZ4 k f (-1) 0 st;simp[kE];omega
 .rcases p with rfl|rfl<;>(simp[kE,lM,Cf,iz,ug,oE,cy,cM,oF,kQ];omega)
 .rcases p with rfl|rfl<;>simp[kE,lM,Cf,iz,ug,nm,QL kl,QL l,Zq]
def YW(k st c:Int):cK:=[⟨4,1,k,0⟩,⟨1,2,(if st<1 then 1 else st).tmod 5,0⟩,⟨7,1,2,4⟩,⟨0,c,0,0⟩]
theorem AE{x:ak}{k st c:Int}(a:0<=k/\k<=5)(h:k<x.kz.length)(s:st<=9)(b:1<=c/\c<=3):en x (YW k st c):=by
 have e:0<=(if st<1 then 1 else st).tmod 5:=Int.tmod_nonneg _ (by split<;>omega);have d:(if st<1 then 1 else st).tmod 5<5:=Int.tmod_lt_of_pos _ (by omega);obtain⟨i,g⟩:=a;obtain⟨f,n⟩:=b;refine aK8 (by simp[YW]) ?_ ?_
 .unfold YW;generalize(if st<1 then 1 else st).tmod 5=z at e d⊢;simp[oE,cy,cM,oF,kQ];omega
 .simp[YW,QL h,Zq]
end
section
open Go Go.RowKit
def ub:List ByteArray:=[⟨#[99,45,45]⟩,⟨#[114,110,45]⟩,⟨#[114,114,114]⟩,⟨#[114,114,114]⟩,⟨#[114,107,45]⟩,⟨#[114,107,102]⟩,⟨#[105,45,45]⟩,⟨#[114,114,105]⟩,⟨#[114,114,105]⟩]
theorem ut:APure prog 51 [] (.sl 1 (ub.map λz=>[sD z])):=by
 refine ao func51 ntmps51 λa=>?_
 repeat refine aN ?_
 exact Rt.pure rfl
def o4(o:Int)(j:Nat):Int:=if j=0 then(cM o).1 else if j=1 then(cM o).2.1 else(cM o).2.2
def zz(o:Nat):ByteArray:=ub.getD o ⟨#[]⟩
def M6(o j:Nat):UInt8:=(bytes (zz o)).getD j 0
theorem Gt:∀o:Fin 9,∀j:Fin 3,((bytes (zz o.1))[j.1]?=some (M6 o.1 j.1))/\(o4 o.1 j.1,M6 o.1 j.1)∈[((0:Int),(45:UInt8)),(1,99),(2,114),(3,110),(4,107),(5,102),(6,105)]:=by decide +kernel
theorem Gn{o j:Nat}(h:o<9)(a:j<3):∃s c,ub[((o:Nat):Int).toNat]?=some s/\(bytes s)[((j:Nat):Int).toNat]?=some c/\(o4 o j,c)∈[((0:Int),(45:UInt8)),(1,99),(2,114),(3,110),(4,107),(5,102),(6,105)]:=by
 obtain⟨e,d⟩:=Gt ⟨o,h⟩ ⟨j,a⟩;have b:ub[o]?=some (zz o):=by
  have:o<ub.length:=h;unfold zz;rw[List.getD_eq_getElem?_getD,zD this];rfl
 exact⟨zz o,M6 o j,b,e,d⟩
def gy(n:Nat)(k f:Nat)(z y:Int):Prop:=cy z y n=true/\(z=4->y=k)/\(z=5->y=f)
theorem Zo{n k f:Nat}{z y:Int}(b:z≠4)(a:z≠5)(h:oF z<=y/\y<=kQ z n):gy n k f z y:=⟨by simp[cy,h],λe=>absurd e b,λe=>absurd e a⟩
theorem Pp{n k f o j:Nat}{ls:List Int}{y z:Int}(l:ls.length=j)(h:∀q y,ls[q]?=some y->gy n k f (o4 o q) y)(c:o4 o j=z)(d:gy n k f z y):∀q b,(ls++[y])[q]?=some b->gy n k f (o4 o q) b:=by
 intro q b a;by_cases hlt:q<ls.length
 .rw[yP hlt]at a;exact h q b a
 .rw[yK (by omega)]at a;have:q=j:=by
   have:=(zE.1 a).1;simp at this;omega
  subst this;rw[l,wH]at a
  cases a
  rw[c];exact d
theorem Iq{x:ak}{n k f o:Nat}{a b c:Int}(j:o<9)(P:QU x k f)(h:∀q y,[a,b,c][q]?=some y->gy n k f (o4 o q) y):EO n ⟨o,a,b,c⟩/\di x ⟨o,a,b,c⟩=true:=by
 refine⟨⟨by simp only;omega,(h 0 a rfl).1,(h 1 b rfl).1,(h 2 c rfl).1⟩,?_⟩;by_cases i:o=4
 .subst i;have d:=(h 1 b rfl).2.1 (by decide);subst d;exact QL P.kl
 by_cases g:o=5
 .subst g;have d:=(h 1 b rfl).2.1 (by decide);have e:=(h 2 c rfl).2.2 (by decide);subst d e;exact Hw P.nm
 .exact Zq (by simp only;omega) (by simp only;omega)
end
section
open Go
def gE(l:List am)(nm:ByteArray):Int:=idx (λf=>seq f.name nm) l
def nZ(n:Int):Bool:=!decide (n=0) && !decide (n=1) && !decide (n=6) && !decide (n=7)
def oH(k:au):Int:=idx (λf=>nZ f.kind) k.fields
theorem aO1(l:List am)(nm:ByteArray)(hl:l.length<=1000000):APure prog 56 [xn l,sD nm] (iD (gE l nm)):=by
 refine ao func56 ntmps56 λa=>?_
 repeat' first|refine aq ?_|refine a7.mk λy hy=>?_
 refine fW mixed ai (γ:=Nat) (λq=>[(5,iD q)]) (λ_=>[]) (λq=>q<=l.length/\∀i y,i<q->l[i]?=some y->seq y.name nm=false) (λq=>l.length-q) 0 rfl rfl ⟨by omega,by omega⟩ ?_;exact X5
theorem dV{p:Prop}(h:p:=by repeat(first|exact xQ _|exact yV _|apply List.Sublist.cons)):p:=h
theorem sV{p:Prop}(h:p:=by
 repeat refine aq ?_
 exact⟨q+1,(aj aP),dV,⟨by omega,nxt hp⟩,by omega⟩):p:=h
theorem pP(k:au)(hl:k.fields.length<=1000000):APure prog 55 [fz k] (iD (oH k)):=by
 refine ao func55 ntmps55 λg=>?_
 repeat refine aq ?_
 refine lU mixed ai (γ:=Nat) (λq=>[(3,iD q)]) (λ_=>[]) (λq=>q<=k.fields.length/\∀i y,i<q->k.fields[i]?=some y->nZ y.kind=false) (λq=>k.fields.length-q) 0 (aj aP) dV ⟨by omega,by omega⟩ ?_;rintro q ⟨f,o⟩;by_cases hql:q<k.fields.length
 .obtain⟨y,a⟩:∃y,k.fields[q]?=some y:=⟨_,zD hql⟩
  have hy:k.fields[((q:Nat):Int).toNat]?=some y:=a;have nxt:nZ y.kind=false->∀i z,i<q+1->k.fields[i]?=some z->nZ z.kind=false:=λh i z hi b=>by
   by_cases e:i=q
   .subst e;cases a.symm.trans b;exact h
   .exact o i z (by omega) b
  by_cases h0:y.kind=0
  .have hp:nZ y.kind=false:=by unfold nZ;simp[h0]
   exact sV
  .by_cases h1:y.kind=1
   .have hp:nZ y.kind=false:=by unfold nZ;simp[h1]
    exact sV
   .by_cases h6:y.kind=6
    .have hp:nZ y.kind=false:=by unfold nZ;simp[h6]
     exact sV
    .by_cases h7:y.kind=7
     .have hp:nZ y.kind=false:=by unfold nZ;simp[h7]
      exact sV
     .have hp:nZ y.kind=true:=by unfold nZ;simp[h0,h1,h6,h7]
      repeat refine aq ?_
      refine Rt.pure (zM iD ?_);exact(JP a hp o).symm
 .obtain rfl:q=k.fields.length:=by omega
  repeat refine aq ?_
  refine Rt.pure (zM iD ?_);exact(Y8 λi y hy=>o i y (zE.1 hy).1 hy).symm
end
section
open Go
abbrev nE:ByteArray:=⟨#[]⟩
abbrev bj:ByteArray:=⟨#[115,105,122,101]⟩
abbrev i6:ByteArray:=⟨#[116,97,103]⟩
abbrev oN:ByteArray:=⟨#[98,111,114,110]⟩
abbrev su:ByteArray:=⟨#[108,101,102,116]⟩
abbrev N9:ByteArray:=⟨#[115,116,97,116,101]⟩
abbrev bn:ByteArray:=⟨#[108,105,102,101]⟩
abbrev gh:ByteArray:=⟨#[108,111,119]⟩
abbrev eL:ByteArray:=⟨#[104,105,103,104]⟩
abbrev p8:ByteArray:=⟨#[114,101,100]⟩
abbrev PI:ByteArray:=⟨#[103,114,101,101,110]⟩
abbrev iw:ByteArray:=⟨#[98,108,117,101]⟩
inductive aG:List am->Prop
 |none:aG []
 |size (a b:Int) (ha:-5<=a/\a<=5) (hb:0<=b/\b<20):aG [⟨bj,nE,nE,2,a,a+b,[],[]⟩]
 |tag (n:Nat) (ws:List Int) (hn:1<=n/\n<=3) (hw:ws.length=n) (h0:∀w∈ws,0<=w/\w<=4) (h1:∃w∈ws,1<=w):aG [⟨i6,nE,nE,3,0,0,[p8,PI,iw].take n,ws⟩]
 |born (a b c d:Int) (ha:-200<=a/\a<200) (hb:0<=b/\b<60) (hc:0<=c/\c<3) (hd:0<=d/\d<30):aG [⟨oN,nE,nE,4,a,a+b,[],[]⟩,⟨su,oN,nE,4,c,3+d,[],[]⟩]
 |state (a b:Int) (ha:0<=a/\a<3) (hb:0<=b/\b<4):aG [⟨N9,bn,nE,5,a,a+b,[],[]⟩]
 |low (a b c d:Int) (ha:0<=a/\a<5) (hb:0<=b/\b<10) (hc:0<=c/\c<5) (hd:0<=d/\d<10):aG [⟨gh,nE,nE,2,a,5+b,[],[]⟩,⟨eL,nE,nE,2,c,10+d,[],[]⟩]
abbrev aO:D:=.v (.slice .none 0 0)
abbrev bI(f:am)(w g:D):List D:=[sD f.name,sD f.of,sD f.up,iD f.kind,iD f.lo,iD f.hi,w,g]
theorem Vd.nil{σ τ:af}(k:Nat):Vd σ τ (.v (.slice .none 0 0)) (.sl k []):=λw X u _ h=>by
 rw[h.val rfl];exact .sl k [] .none 0 (λ_ _=>undef) (by simp) (λy a=>by cases a) (λi y a=>by simp at a) (λi y a=>by simp at a)
theorem Vd.row{σ τ ρ:af}{e:TypeId}{k:Nat}{xs:List (List D)}{v:Value}{s:af}(h:ae e k xs v s)(p:σ.Perm (s++ρ))(a:∀b,b∈aQ τ->b∈aQ ρ):Vd σ τ (.v v) (.sl k xs):=
 λw X u c r=>L8 ((Vs.row h p).run w X u c r).2 a
theorem SJ{A B:Prop}(k:B)(h:ar B->A:=by intro q7;(first|refine zb ?_|fail|((with_reducible refine Cb.go ?h ?_);(case h=>decide +kernel)));exact q7.1):A:=h ⟨k⟩
theorem bt{A B:Prop}(k:B)(h:ar B->A:=by intro q7;(first|refine bA ?_|refine SJ ?_|(refine' ah ?hc ?_;(case hc=>fail)));exact q7.1):A:=h ⟨k⟩
theorem cl9{p:Prop}(h:p:=by repeat'(first|exact oq.nil|exact jV.nil|refine oq.cons ?_ ?_|refine jV.cons ?_ ?_|exact Vd.nil _|exact Vd.same (λ_ h=>h) _)):p:=h
theorem gY{p:Prop}(h:p:=by(refine iT λa=>?_;simp only[List.append_eq,List.nil_append,iS,jP,jh,Nz,Pj,iD,bD];omega)):p:=h
theorem X9{p:Prop}(h:p:=by
 repeat' first|refine bt ?_|intro b;conv=>whnf
 repeat' first|refine bt ?_|intro b;conv=>whnf|(refine And.intro ?_ ?_<;>(conv=>whnf))|((refine ba (ek xs hx bm _ _ ⟨by omega,by omega⟩) (zH ([aB bm xs _]++_)) (λs'=>s'++_) (λs'=>zH _) ?_);(rintro _ _ ⟨rfl,rfl⟩))|((refine ba (ek xs hx bm _ _ ⟨by omega,by omega⟩) (show List.Perm (_::aB bm xs _::_) ([aB bm xs _]++(_::_)) from List.Perm.swap _ _ _) (λs'=>s'++(_::_)) (λs'=>zH _) ?_);(rintro _ _ ⟨rfl,rfl⟩))
 all_goals exact⟨(),(aj aP),rfl,trivial⟩):p:=h
theorem aD6(xs:List Int)(hx:eB xs)(bm:Nat)(pos:Int)(hp:0<=pos/\pos<=100000000):az prog 57 [ptr bm] [aB bm xs pos] (λd σ=>∃k fs,(pos<=k/\k<=pos+20)/\d=xn fs/\σ=[aB bm xs k]/\aG fs):=by
 refine cU func57 ntmps57 λBB=>?_
 repeat' first|refine bt ?_|intro b;conv=>whnf
 (refine ba (El xs hx bm _ _ ⟨by omega,by omega⟩) (zH ([aB bm xs _]++_)) (λs'=>s'++_) (λs'=>zH _) ?_)
 rintro _ _ ⟨r,rfl,⟨hr,G⟩,rfl⟩;have G:=G (by omega);by_cases e0:r=0
 .repeat' first|refine bt ?_|intro b;conv=>whnf
  (refine ba (El xs hx bm _ _ ⟨by omega,by omega⟩) (zH ([aB bm xs _]++_)) (λs'=>s'++_) (λs'=>zH _) ?_)
  rintro _ _ ⟨a,rfl,⟨T,e⟩,rfl⟩;have e:=e (by omega)
  repeat' first|refine bt ?_|intro b;conv=>whnf
  (refine ba (El xs hx bm _ _ ⟨by omega,by omega⟩) (zH ([aB bm xs _]++_)) (λs'=>s'++_) (λs'=>zH _) ?_)
  rintro _ _ ⟨b,rfl,⟨hb,f⟩,rfl⟩;have f:=f (by omega)
  repeat' first|refine bt ?_|intro b;conv=>whnf
  exact Rt.by (Vs.vd ⟨[],zH _⟩ (Vd.sl (λ_ h=>h) cl9)) ⟨_,_,⟨by omega,by omega⟩,rfl,rfl,aG.size (a-5) b ⟨by omega,by omega⟩ ⟨by omega,by omega⟩⟩
 by_cases e1:r=1
 .repeat' first|refine bt ?_|intro b;conv=>whnf
  (refine ba (El xs hx bm _ _ ⟨by omega,by omega⟩) (zH ([aB bm xs _]++_)) (λs'=>s'++_) (λs'=>zH _) ?_)
  rintro _ _ ⟨c,rfl,⟨hc,j⟩,rfl⟩;have j:=j (by omega);obtain⟨n,hn,rfl⟩:∃n:Nat,n<3/\c=n:=⟨c.toNat,by omega,by omega⟩
  repeat' first|refine bt ?_|intro b;conv=>whnf
  generalize Z:(List.take (1+(n:Int)).toNat [[D.v (Value.string p8)],[D.v (Value.string PI)],[D.v (Value.string iw)]])=Wd;have hWl:Wd.length=n+1:=by rw[←Z,zR];simp;omega
  refine sv (List.Perm.swap _ _ _) ?_;refine lU mixed ai (γ:=List Int×Value×af) (λg=>[(6,iD g.1.length)]) (λg=>aB bm xs (pos+2+g.1.length)::(b,.cells 81 (bI ⟨i6,nE,nE,3,0,0,[],[]⟩ (.sl 1 Wd) (.v g.2.1)))::g.2.2) (λg=>g.1.length<=n+1/\(∀z∈g.1,0<=z/\z<=4)/\ae 3 1 (g.1.map λz=>[iD z]) g.2.1 g.2.2) (λg=>n+1-g.1.length) ([],.slice none 0 0,[]) (aj aP) (by simp only[List.length_nil];rw[show pos+2+((0:Nat):Int)=pos+1+1 by omega];exact dV) ⟨zW _,(by simp),ae.nil _ _⟩ ?_
  .rintro⟨ws,v,s⟩ ⟨O,P,w⟩;simp only at O P w⊢;by_cases hlt:ws.length<n+1
   .have hb:=dl xs (pos+2+ws.length) 5;have f:=hb.2 (by omega)
    repeat' first|refine bt ?_|intro b;conv=>whnf
    refine jI ?_;refine J7 mixed ai rfl [0,2] 6 (.two 1 (.one 3 (.one 4 (.one 5 (.one 6 (.one 7 .done))))) 3 (.two 1 (.one 4 (.one 5 (.one 6 (.one 7 .done)))) 4 (.one 1 (.one 5 (.one 6 (.one 7 .done)))))) (γ:=Value×af) (λg=>[(39,.v v),(41,iD (av xs (pos+2+ws.length) 5)),(42,.sl 1 [[iD (av xs (pos+2+ws.length) 5)]]),(43,.v g.1),(44,.v (.pointer (some ⟨b,0+7,none⟩)))]) (λg=>aB bm xs (pos+2+ws.length+1)::(b,.cells 81 (bI ⟨i6,nE,nE,3,0,0,[],[]⟩ (.sl 1 Wd) (.v g.1)))::g.2) (λg=>ae 3 1 ((ws++[av xs (pos+2+ws.length) 5]).map λz=>[iD z]) g.1 g.2) (by decide +kernel) ?_ ?_
    .repeat' first|refine bt ?_|intro b;conv=>whnf
     repeat' first|refine bt ?_|intro b;conv=>whnf|(refine And.intro ?_ ?_<;>(conv=>whnf))|((refine ba (ek xs hx bm _ _ ⟨by omega,by omega⟩) (zH ([aB bm xs _]++_)) (λs'=>s'++_) (λs'=>zH _) ?_);(rintro _ _ ⟨rfl,rfl⟩))|((refine ba (ek xs hx bm _ _ ⟨by omega,by omega⟩) (show List.Perm (_::aB bm xs _::_) ([aB bm xs _]++(_::_)) from List.Perm.swap _ _ _) (λs'=>s'++(_::_)) (λs'=>zH _) ?_);(rintro _ _ ⟨rfl,rfl⟩))|(refine Ap.go rfl rfl rfl rfl w (τ:=[aB bm xs (pos+2+ws.length+1),(b,.cells 81 (bI ⟨i6,nE,nE,3,0,0,[],[]⟩ (.sl 1 Wd) (.v v)))]) ZU rfl (zs:=(ws++[av xs (pos+2+ws.length) 5]).map λz=>[iD z]) (by simp) (by simp;omega) (by simp;omega) (λs'=>aB bm xs (pos+2+ws.length+1)::(b,.cells 81 (bI ⟨i6,nE,nE,3,0,0,[],[]⟩ (.sl 1 Wd) (.v v)))::s') (λs'=>gY) (λa2 c2 L o=>?_))
     all_goals exact⟨(_,L),(aj aP),rfl,o⟩
    .rintro⟨v2,L⟩ o;generalize av xs (pos+2+ws.length) 5=B at *;simp only at o⊢
     repeat' first|refine bt ?_|intro b;conv=>whnf
     refine⟨(ws++[B],v2,L),?_,?_,⟨by simp;omega,λz y=>?_,o⟩,by simp only[zI,List.length_cons,List.length_nil];omega⟩
     .simp only[zI,List.length_cons,List.length_nil];exact(aj aw)
     .simp only[zI,List.length_cons,List.length_nil];rw[show pos+2+((ws.length+(0+1):Nat):Int)=pos+2+ws.length+1 by omega];exact dV
     .rcases zO.1 y with h|h
      .exact P z h
      .rw[zN]at h;subst h;exact⟨hb.1,by omega⟩
   .have M:ws.length=n+1:=by omega
    rw[M];have R:=dl xs (pos+2+(n+1:Nat)) (Wd.length:Nat);have Y:=R.2 (by omega);have Q:=dl xs (pos+2+(n+1:Nat)+1) 3;have V:=Q.2 (by omega);obtain⟨c,J⟩:∃c:Nat,av xs (pos+2+(n+1:Nat)) (Wd.length:Nat)=c:=⟨(av xs (pos+2+(n+1:Nat)) (Wd.length:Nat)).toNat,by omega⟩
    have I:c<ws.length:=by omega
    obtain⟨z,y⟩:∃z,ws[c]?=some z:=⟨_,zD I⟩
    obtain⟨q,i,l,rfl,rfl,S,F⟩:=aW2 (g:=iD) w y;have K:=(zE.1 S).1
    repeat' first|refine bt ?_|intro b;conv=>whnf
    refine jI ?_;refine J7 mixed ai rfl [0,2,3,4,6] 6 (.two 1 (.one 5 (.one 7 (.one 8 (.one 9 (.one 10 .done))))) 5 (.two 1 (.one 7 (.one 8 (.one 9 (.one 10 .done)))) 7 (.two 1 (.one 8 (.one 9 (.one 10 .done))) 8 (.one 1 (.one 9 (.one 10 .done)))))) (γ:=Unit) (λ_=>[(46,.v (.slice (some ⟨q,0,none⟩) ws.length i)),(50,iD (av xs (pos+2+(n+1:Nat)) (Wd.length:Nat))),(52,iD (av xs (pos+2+(n+1:Nat)+1) 3)),(53,iD (1+av xs (pos+2+(n+1:Nat)+1) 3)),(54,.v (.pointer (some ⟨q,0+(av xs (pos+2+(n+1:Nat)) (Wd.length:Nat)).toNat*1,none⟩)))]) (λ_=>(q,.cells 3 (l.set c (iD (1+av xs (pos+2+(n+1:Nat)+1) 3))))::[aB bm xs (pos+2+(n+1:Nat)+1+1),(b,.cells 81 (bI ⟨i6,nE,nE,3,0,0,[],[]⟩ (.sl 1 Wd) (.v (.slice (some ⟨q,0,none⟩) ws.length i))))]) (λ_=>True) (by decide +kernel) ?_ ?_
    .repeat' first|refine bt ?_|intro b;conv=>whnf
     repeat' first|refine bt ?_|intro b;conv=>whnf|(refine And.intro ?_ ?_<;>(conv=>whnf))|((refine ba (ek xs hx bm _ _ ⟨by omega,by omega⟩) (zH ([aB bm xs _]++_)) (λs'=>s'++_) (λs'=>zH _) ?_);(rintro _ _ ⟨rfl,rfl⟩))|((refine ba (ek xs hx bm _ _ ⟨by omega,by omega⟩) (show List.Perm (_::aB bm xs _::_) ([aB bm xs _]++(_::_)) from List.Perm.swap _ _ _) (λs'=>s'++(_::_)) (λs'=>zH _) ?_);(rintro _ _ ⟨rfl,rfl⟩))|(refine Sv.cellm (tb:=3) (cs:=l) (cs':=l.set c (iD (1+av xs (pos+2+(n+1:Nat)+1) 3))) (τ:=[aB bm xs (pos+2+(n+1:Nat)+1+1),(b,.cells 81 (bI ⟨i6,nE,nE,3,0,0,[],[]⟩ (.sl 1 Wd) (.v (.slice (some ⟨q,0,none⟩) ws.length i))))]) ZU (by rw[J,eP];exact K) rfl (by rw[J,eP]) ?_)
     all_goals exact⟨(),(aj aP),rfl,trivial⟩
    .rintro - -;have t:=F (1+av xs (pos+2+(n+1:Nat)+1) 3);generalize av xs (pos+2+(n+1:Nat)+1) 3=E at *;have U:Wd=([p8,PI,iw].take (n+1)).map λx=>[sD x]:=by
      rw[←Z,show(1+(n:Int)).toNat=n+1 by omega,vR];rfl
     repeat' first|refine bt ?_|intro b;conv=>whnf
     rw[U];have hs:∀x,x∈aQ [aB bm xs (pos+2+(n+1:Nat)+1+1)]->x∈aQ ((q,aE.cells 3 (l.set c (iD (1+E))))::[aB bm xs (pos+2+(n+1:Nat)+1+1),(b,.cells 81 (bI ⟨i6,nE,nE,3,0,0,[],[]⟩ (.sl 1 (([p8,PI,iw].take (n+1)).map λx=>[sD x])) (.v (.slice (some ⟨q,0,none⟩) ws.length i))))]):=λx h=>by simp[aQ]at h⊢;exact .inr (.inl h)
     refine Rt.by (Vs.vd ⟨[(q,aE.cells 3 (l.set c (iD (1+E)))),(b,.cells 81 (bI ⟨i6,nE,nE,3,0,0,[],[]⟩ (.sl 1 (([p8,PI,iw].take (n+1)).map λx=>[sD x])) (.v (.slice (some ⟨q,0,none⟩) ws.length i))))],by(refine iT λa=>?_;simp only[List.append_eq,List.nil_append,iS,jP,jh,Nz,Pj,iD,bD];omega)⟩ (Vd.sl hs (.cons (.cons (Vd.same hs _) (.cons (Vd.same hs _) (.cons (Vd.same hs _) (.cons (Vd.same hs _) (.cons (Vd.same hs _) (.cons (Vd.same hs _) (.cons (Vd.same hs _) (.cons (Vd.row t (zH _) (λx h=>by simp[aQ]at h⊢;exact .inl h)) .nil)))))))) .nil))) ⟨_,_,⟨?_,?_⟩,rfl,rfl,aG.tag (n+1) (ws.set c (1+E)) ⟨by omega,by omega⟩ (by rw[yR];omega) (λz y=>?_) ⟨1+E,?_,by omega⟩⟩
     .omega
     .omega
     .rcases yZ y with h|rfl
      .exact P z h
      .omega
     .exact List.mem_set I _
 by_cases e2:r=2
 .repeat' first|refine bt ?_|intro b;conv=>whnf
  (refine ba (El xs hx bm _ _ ⟨by omega,by omega⟩) (zH ([aB bm xs _]++_)) (λs'=>s'++_) (λs'=>zH _) ?_)
  rintro _ _ ⟨a,rfl,⟨T,e⟩,rfl⟩;have e:=e (by omega)
  repeat' first|refine bt ?_|intro b;conv=>whnf
  have hb:=dl xs (pos+1+1) 60;have f:=hb.2 (by omega);refine jI ?_;refine J7 mixed ai rfl [0,2] 5 (.two 1 (.one 3 (.one 4 (.one 5 (.one 6 .done)))) 3 (.one 1 (.one 4 (.one 5 (.one 6 .done))))) (γ:=Unit) (λ_=>[(64,iD (a-200)),(66,iD (av xs (pos+1+1) 60)),(67,iD (a-200+av xs (pos+1+1) 60)),(68,.v (.pointer (some ⟨b,0+5,none⟩)))]) (λ_=>[aB bm xs (pos+1+1+1),(b,.cells 81 (bI ⟨oN,nE,nE,4,a-200,a-200+av xs (pos+1+1) 60,[],[]⟩ aO aO))]) (λ_=>True) (by decide +kernel) ?_ ?_
  .exact X9
  .rintro - -;generalize av xs (pos+1+1) 60=B at *;have hc:=dl xs (pos+1+1+1) 3;have j:=hc.2 (by omega);have X:=dl xs (pos+1+1+1+1) 30;have u:=X.2 (by omega)
   repeat' first|refine bt ?_|intro b;conv=>whnf
   (refine Dr.r ?_;refine W.mk ?_)
   refine J7 mixed ai rfl [1,3] 7 (.two 0 (.one 2 (.one 4 (.one 5 (.one 6 (.one 7 (.one 8 .done)))))) 2 (.two 0 (.one 4 (.one 5 (.one 6 (.one 7 (.one 8 .done))))) 4 (.two 0 (.one 5 (.one 6 (.one 7 (.one 8 .done)))) 5 (.two 0 (.one 6 (.one 7 (.one 8 .done))) 6 (.one 0 (.one 7 (.one 8 .done))))))) (γ:=Unit) (λ_=>[(2,.sl 8 [bI ⟨oN,nE,nE,4,a-200,a-200+B,[],[]⟩ aO aO,bI ⟨su,oN,nE,4,av xs (pos+1+1+1) 3,3+av xs (pos+1+1+1+1) 30,[],[]⟩ aO aO])]) (λ_=>[aB bm xs (pos+1+1+1+1+1),(b,.cells 81 (bI ⟨oN,nE,nE,4,a-200,a-200+B,[],[]⟩ aO aO))]) (λ_=>True) (by decide +kernel) ?_ ?_
   .exact X9
   .rintro - -;generalize av xs (pos+1+1+1) 3=C at *;generalize av xs (pos+1+1+1+1) 30=E at *
    repeat' first|refine bt ?_|intro b;conv=>whnf
    have hs:∀x,x∈aQ [aB bm xs (pos+1+1+1+1+1)]->x∈aQ [aB bm xs (pos+1+1+1+1+1),(b,.cells 81 (bI ⟨oN,nE,nE,4,a-200,a-200+B,[],[]⟩ aO aO))]:=λx h=>by simp[aQ]at h⊢;exact .inl h
    exact Rt.by (Vs.vd ⟨[_],List.Perm.swap _ _ _⟩ (Vd.sl hs (by repeat'(first|exact oq.nil|exact jV.nil|refine oq.cons ?_ ?_|refine jV.cons ?_ ?_|exact Vd.nil _|exact Vd.same hs _)))) ⟨_,_,⟨by omega,by omega⟩,rfl,rfl,aG.born (a-200) B C E ⟨by omega,by omega⟩ ⟨by omega,by omega⟩ ⟨by omega,by omega⟩ ⟨by omega,by omega⟩⟩
 by_cases e3:r=3
 .repeat' first|refine bt ?_|intro b;conv=>whnf
  (refine ba (El xs hx bm _ _ ⟨by omega,by omega⟩) (zH ([aB bm xs _]++_)) (λs'=>s'++_) (λs'=>zH _) ?_)
  rintro _ _ ⟨a,rfl,⟨T,e⟩,rfl⟩;have e:=e (by omega)
  repeat' first|refine bt ?_|intro b;conv=>whnf
  (refine ba (El xs hx bm _ _ ⟨by omega,by omega⟩) (zH ([aB bm xs _]++_)) (λs'=>s'++_) (λs'=>zH _) ?_)
  rintro _ _ ⟨b,rfl,⟨hb,f⟩,rfl⟩;have f:=f (by omega)
  repeat' first|refine bt ?_|intro b;conv=>whnf
  exact Rt.by (Vs.vd ⟨[],zH _⟩ (Vd.sl (λ_ h=>h) cl9)) ⟨_,_,⟨by omega,by omega⟩,rfl,rfl,aG.state a b ⟨by omega,by omega⟩ ⟨by omega,by omega⟩⟩
 by_cases e4:r=4
 .repeat' first|refine bt ?_|intro b;conv=>whnf
  (refine ba (El xs hx bm _ _ ⟨by omega,by omega⟩) (zH ([aB bm xs _]++_)) (λs'=>s'++_) (λs'=>zH _) ?_)
  rintro _ _ ⟨a,rfl,⟨T,e⟩,rfl⟩;have e:=e (by omega)
  repeat' first|refine bt ?_|intro b;conv=>whnf
  (refine ba (El xs hx bm _ _ ⟨by omega,by omega⟩) (zH ([aB bm xs _]++_)) (λs'=>s'++_) (λs'=>zH _) ?_)
  rintro _ _ ⟨b,rfl,⟨hb,f⟩,rfl⟩;have f:=f (by omega)
  repeat' first|refine bt ?_|intro b;conv=>whnf
  (refine ba (El xs hx bm _ _ ⟨by omega,by omega⟩) (zH ([aB bm xs _]++_)) (λs'=>s'++_) (λs'=>zH _) ?_)
  rintro _ _ ⟨c,rfl,⟨hc,j⟩,rfl⟩;have j:=j (by omega)
  repeat' first|refine bt ?_|intro b;conv=>whnf
  (refine ba (El xs hx bm _ _ ⟨by omega,by omega⟩) (zH ([aB bm xs _]++_)) (λs'=>s'++_) (λs'=>zH _) ?_)
  rintro _ _ ⟨d,rfl,⟨X,u⟩,rfl⟩;have u:=u (by omega)
  repeat' first|refine bt ?_|intro b;conv=>whnf
  exact Rt.by (Vs.vd ⟨[],zH _⟩ (Vd.sl (λ_ h=>h) cl9)) ⟨_,_,⟨by omega,by omega⟩,rfl,rfl,aG.low a b c d ⟨by omega,by omega⟩ ⟨by omega,by omega⟩ ⟨by omega,by omega⟩ ⟨by omega,by omega⟩⟩
 .repeat' first|refine bt ?_|intro b;conv=>whnf
  exact Rt.by (Vs.vd ⟨[],zH _⟩ (Vd.nil 8)) ⟨_,_,⟨by omega,by omega⟩,rfl,rfl,aG.none⟩
end
section
open Go
abbrev PJ:ByteArray:=⟨#[111,114,100,101,114]⟩
abbrev LN:ByteArray:=⟨#[109,111,115,116]⟩
abbrev Mm:ByteArray:=⟨#[108,101,97,115,116]⟩
inductive cu(k:au):cF->Prop
 |low (n:Int) (h:0<=gE k.fields gh) (hn:0<=n/\n<8):cu k ⟨PJ++k.name.extract 0 1,k.name,gh,eL,n-2⟩
 |most (f:am) (n:Int) (h:0<=gE k.fields bj) (hf:k.fields[(gE k.fields bj).toNat]?=some f) (hn:0<=n/\n<12):cu k ⟨LN++k.name.extract 0 1,k.name,bj,nE,f.lo+n⟩
 |least (f:am) (n:Int) (h:0<=gE k.fields bj) (hf:k.fields[(gE k.fields bj).toNat]?=some f) (hn:0<=n/\n<12):cu k ⟨Mm++k.name.extract 0 1,k.name,nE,bj,n-f.hi⟩
theorem cX{A B:Prop}(k:B)(h:ar B->A:=by intro q7;(first|refine bA ?_|refine SJ ?_|(refine' ah ?hc ?_;(case hc=>exact aO1 _ _ hfl)));exact q7.1):A:=h ⟨k⟩
theorem DI{p:Prop}(h:p:=by
 repeat' first|refine cX ?_|intro b;conv=>whnf|((with_reducible refine Sd.go ?qs8 ?_);(case qs8=>(rw[hex];decide)))|(refine And.intro ?_ ?_<;>(conv=>whnf))|((refine ba (ek xs hx bm _ _ ⟨by omega,by omega⟩) (zH ([aB bm xs _]++_)) (λs'=>s'++_) (λs'=>zH _) ?_);(rintro _ _ ⟨rfl,rfl⟩))|((refine ba (ek xs hx bm _ _ ⟨by omega,by omega⟩) (show List.Perm (_::aB bm xs _::_) ([aB bm xs _]++(_::_)) from List.Perm.swap _ _ _) (λs'=>s'++(_::_)) (λs'=>zH _) ?_);(rintro _ _ ⟨rfl,rfl⟩))
 all_goals exact⟨(),(aj aP),rfl,trivial⟩):p:=h
theorem By(xs:List Int)(hx:eB xs)(bm:Nat)(pos:Int)(G:0<=pos/\pos<=100000000)(k:au)(hfl:k.fields.length<=1000000)(C:1<=k.name.size/\k.name.size<=12)(i:∀f∈k.fields,(-100000<=f.lo/\f.lo<=100000)/\(-100000<=f.hi/\f.hi<=100000)) :
  az prog 32 [ptr bm,fz k] [aB bm xs pos] (λd σ=>∃a r ok,(pos<=a/\a<=pos+20)/\d= .tup [eH r,bD ok]/\σ=[aB bm xs a]/\(ok=true->cu k r)):=by
 have hex:(k.name.extract 0 (1:Int).toNat).size=1:=by
  rw[show(1:Int).toNat=1 from rfl,ByteArray.size_extract];omega
 refine cU func32 ntmps32 λI=>?_
 repeat' first|refine cX ?_|intro b;conv=>whnf
 generalize b=e;have fin:∀(a:Int)(r:cF)(ok:Bool)(ρ:af),[aB bm xs a].Sublist ρ->(pos<=a/\a<=pos+20)->(ok=true->cu k r)->Rt (λd σ=>∃a r ok,(pos<=a/\a<=pos+20)/\d= .tup [eH r,bD ok]/\σ=[aB bm xs a]/\(ok=true->cu k r)) (.tup [eH r,bD ok]) ρ:=λa r ok ρ h0 h1 h2=>Rt.by (Vs.drop h0) ⟨_,_,_,h1,rfl,rfl,h2⟩
 by_cases hl:0<=gE k.fields gh
 .have F:=dl xs pos 3;have E:=F.2 (by omega)
  repeat' first|refine cX ?_|intro b;conv=>whnf
  ((refine ba (ek xs hx bm _ _ ⟨by omega,by omega⟩) (show List.Perm (_::aB bm xs _::_) ([aB bm xs _]++(_::_)) from List.Perm.swap _ _ _) (λs'=>s'++(_::_)) (λs'=>zH _) ?_);(rintro _ _ ⟨rfl,rfl⟩))
  by_cases hpos:0<av xs pos 3
  .have hb:=dl xs (pos+1) 8;have D:=hb.2 (by omega)
   repeat' first|refine cX ?_|intro b;conv=>whnf
   refine jI ?_;refine J7 mixed ai rfl [0,1,2,3,4,5,6] 5 (.one 7 (.one 8 (.one 9 (.one 10 (.one 11 .done))))) (γ:=Unit) (λ_=>[(5,bD true),(29,iD (av xs (pos+1) 8)),(30,iD (av xs (pos+1) 8-2)),(31,eH ⟨PJ++k.name.extract 0 1,k.name,gh,eL,av xs (pos+1) 8-2⟩)]) (λ_=>[aB bm xs (pos+1+1),(e,.cells 96 (dG ⟨PJ++k.name.extract 0 1,k.name,gh,eL,av xs (pos+1) 8-2⟩))]) (λ_=>True) (by decide +kernel) ?_ ?_
   .exact DI
   .rintro - -
    repeat' first|refine cX ?_|intro b;conv=>whnf
    refine mT ai (m:=1) rfl rfl rfl rfl rfl rfl rfl ?_
    repeat' first|refine cX ?_|intro b;conv=>whnf
    exact fin _ ⟨PJ++k.name.extract 0 1,k.name,gh,eL,av xs (pos+1) 8-2⟩ true _ (.cons_cons _ (yV _)) ⟨by omega,by omega⟩ (λ_=>cu.low _ hl ⟨by omega,by omega⟩)
  .generalize z:pos+1=q;have y:pos<=q/\q<=pos+1:=⟨by omega,by omega⟩
   clear z;by_cases hs:gE k.fields bj<0
   .repeat' first|refine cX ?_|intro b;conv=>whnf
    first
     |refine mT ai (m:=1) rfl rfl rfl rfl rfl rfl rfl ?_
     |refine mT ai (m:=0) rfl rfl rfl rfl rfl rfl rfl ?_
    repeat' first|refine cX ?_|intro b;conv=>whnf
    refine fin q ⟨nE,nE,nE,nE,0⟩ false _ ?_ ⟨by omega,by omega⟩ (λh=>by cases h)
    first
     |exact .cons_cons _ (yV _)
     |exact .cons _ (.cons_cons _ (yV _))
   .have j:gE k.fields bj<k.fields.length:=Fk _ _;have x:0<=gE k.fields ⟨#[115,105,122,101]⟩:=Int.not_lt.1 hs;obtain⟨f,g⟩:∃f,k.fields[(gE k.fields bj).toNat]?=some f:=⟨_,zD (by omega)⟩
    obtain⟨⟨s,o⟩,n,l⟩:=i f (zG g);have hc:=dl xs q 2;have w:=dl xs (q+1) 12;have u:=w.2 (by omega)
    repeat' first|refine cX ?_|intro b;conv=>whnf
    refine ba (t:=[(b,.cells 81 (aH f)),(e,.cells 96 [.v (zv ZV.str),.v (zv ZV.str),.v (zv ZV.str),.v (zv ZV.str),.v (zv (ZV.int IntKind.i64))])]) (ek xs hx bm q 2 ⟨by omega,by omega⟩) ?hpm (λs'=>s'++[(b,.cells 81 (aH f)),(e,.cells 96 [.v (zv ZV.str),.v (zv ZV.str),.v (zv ZV.str),.v (zv ZV.str),.v (zv (ZV.int IntKind.i64))])]) (λs'=>zH _) ?_
    case hpm=>
     first
      |exact List.Perm.swap _ _ _
      |exact(List.Perm.cons _ (List.Perm.swap _ _ _)).trans (List.Perm.swap _ _ _)
    rintro _ _ ⟨rfl,rfl⟩;by_cases hz:av xs q 2=0
    .repeat' first|refine cX ?_|intro b;conv=>whnf
     refine jI ?_;refine J7 mixed ai rfl [0,1,2,3,4,5,6,8] 6 (.two 7 (.one 9 (.one 10 (.one 11 (.one 12 (.one 13 .done))))) 9 (.one 7 (.one 10 (.one 11 (.one 12 (.one 13 .done)))))) (γ:=Unit) (λ_=>[(5,bD true),(50,iD f.lo),(52,iD (av xs (q+1) 12)),(53,iD (f.lo+av xs (q+1) 12)),(54,eH ⟨LN++k.name.extract 0 1,k.name,bj,nE,f.lo+av xs (q+1) 12⟩)]) (λ_=>[aB bm xs (q+1+1),(b,.cells 81 (aH f)),(e,.cells 96 (dG ⟨LN++k.name.extract 0 1,k.name,bj,nE,f.lo+av xs (q+1) 12⟩))]) (λ_=>True) (by decide +kernel) ?_ ?_
     .exact DI
     .rintro - -
      repeat' first|refine cX ?_|intro b;conv=>whnf
      refine mT ai (m:=2) rfl rfl rfl rfl rfl rfl rfl ?_
      repeat' first|refine cX ?_|intro b;conv=>whnf
      exact fin _ ⟨LN++k.name.extract 0 1,k.name,bj,nE,f.lo+av xs (q+1) 12⟩ true _ (.cons_cons _ (yV _)) ⟨by omega,by omega⟩ (λ_=>cu.most f _ (by omega) g ⟨by omega,by omega⟩)
    .repeat' first|refine cX ?_|intro b;conv=>whnf
     refine jI ?_;refine J7 mixed ai rfl [0,1,2,3,4,5,6,8] 6 (.two 7 (.one 9 (.one 10 (.one 11 (.one 12 (.one 13 .done))))) 9 (.one 7 (.one 10 (.one 11 (.one 12 (.one 13 .done)))))) (γ:=Unit) (λ_=>[(5,bD true),(64,iD f.hi),(62,iD (av xs (q+1) 12)),(65,iD (av xs (q+1) 12-f.hi)),(66,eH ⟨Mm++k.name.extract 0 1,k.name,nE,bj,av xs (q+1) 12-f.hi⟩)]) (λ_=>[aB bm xs (q+1+1),(b,.cells 81 (aH f)),(e,.cells 96 (dG ⟨Mm++k.name.extract 0 1,k.name,nE,bj,av xs (q+1) 12-f.hi⟩))]) (λ_=>True) (by decide +kernel) ?_ ?_
     .exact DI
     .rintro - -
      repeat' first|refine cX ?_|intro b;conv=>whnf
      refine mT ai (m:=2) rfl rfl rfl rfl rfl rfl rfl ?_
      repeat' first|refine cX ?_|intro b;conv=>whnf
      exact fin _ ⟨Mm++k.name.extract 0 1,k.name,nE,bj,av xs (q+1) 12-f.hi⟩ true _ (.cons_cons _ (yV _)) ⟨by omega,by omega⟩ (λ_=>cu.least f _ (by omega) g ⟨by omega,by omega⟩)
 .skip
  by_cases hs:gE k.fields bj<0
  .repeat' first|refine cX ?_|intro b;conv=>whnf
   first
    |refine mT ai (m:=1) rfl rfl rfl rfl rfl rfl rfl ?_
    |refine mT ai (m:=0) rfl rfl rfl rfl rfl rfl rfl ?_
   repeat' first|refine cX ?_|intro b;conv=>whnf
   refine fin pos ⟨nE,nE,nE,nE,0⟩ false _ ?_ ⟨by omega,by omega⟩ (λh=>by cases h)
   first
    |exact .cons_cons _ (yV _)
    |exact .cons _ (.cons_cons _ (yV _))
  .have j:gE k.fields bj<k.fields.length:=Fk _ _;have x:0<=gE k.fields ⟨#[115,105,122,101]⟩:=Int.not_lt.1 hs;obtain⟨f,g⟩:∃f,k.fields[(gE k.fields bj).toNat]?=some f:=⟨_,zD (by omega)⟩
   obtain⟨⟨s,o⟩,n,l⟩:=i f (zG g);have hc:=dl xs pos 2;have w:=dl xs (pos+1) 12;have u:=w.2 (by omega)
   repeat' first|refine cX ?_|intro b;conv=>whnf
   refine ba (t:=[(b,.cells 81 (aH f)),(e,.cells 96 [.v (zv ZV.str),.v (zv ZV.str),.v (zv ZV.str),.v (zv ZV.str),.v (zv (ZV.int IntKind.i64))])]) (ek xs hx bm pos 2 ⟨by omega,by omega⟩) ?hpm (λs'=>s'++[(b,.cells 81 (aH f)),(e,.cells 96 [.v (zv ZV.str),.v (zv ZV.str),.v (zv ZV.str),.v (zv ZV.str),.v (zv (ZV.int IntKind.i64))])]) (λs'=>zH _) ?_
   case hpm=>
    first
     |exact List.Perm.swap _ _ _
     |exact(List.Perm.cons _ (List.Perm.swap _ _ _)).trans (List.Perm.swap _ _ _)
   rintro _ _ ⟨rfl,rfl⟩;by_cases hz:av xs pos 2=0
   .repeat' first|refine cX ?_|intro b;conv=>whnf
    refine jI ?_;refine J7 mixed ai rfl [0,1,2,3,4,5,6,8] 6 (.two 7 (.one 9 (.one 10 (.one 11 (.one 12 (.one 13 .done))))) 9 (.one 7 (.one 10 (.one 11 (.one 12 (.one 13 .done)))))) (γ:=Unit) (λ_=>[(5,bD true),(50,iD f.lo),(52,iD (av xs (pos+1) 12)),(53,iD (f.lo+av xs (pos+1) 12)),(54,eH ⟨LN++k.name.extract 0 1,k.name,bj,nE,f.lo+av xs (pos+1) 12⟩)]) (λ_=>[aB bm xs (pos+1+1),(b,.cells 81 (aH f)),(e,.cells 96 (dG ⟨LN++k.name.extract 0 1,k.name,bj,nE,f.lo+av xs (pos+1) 12⟩))]) (λ_=>True) (by decide +kernel) ?_ ?_
    .exact DI
    .rintro - -
     repeat' first|refine cX ?_|intro b;conv=>whnf
     refine mT ai (m:=2) rfl rfl rfl rfl rfl rfl rfl ?_
     repeat' first|refine cX ?_|intro b;conv=>whnf
     exact fin _ ⟨LN++k.name.extract 0 1,k.name,bj,nE,f.lo+av xs (pos+1) 12⟩ true _ (.cons_cons _ (yV _)) ⟨by omega,by omega⟩ (λ_=>cu.most f _ (by omega) g ⟨by omega,by omega⟩)
   .repeat' first|refine cX ?_|intro b;conv=>whnf
    refine jI ?_;refine J7 mixed ai rfl [0,1,2,3,4,5,6,8] 6 (.two 7 (.one 9 (.one 10 (.one 11 (.one 12 (.one 13 .done))))) 9 (.one 7 (.one 10 (.one 11 (.one 12 (.one 13 .done)))))) (γ:=Unit) (λ_=>[(5,bD true),(64,iD f.hi),(62,iD (av xs (pos+1) 12)),(65,iD (av xs (pos+1) 12-f.hi)),(66,eH ⟨Mm++k.name.extract 0 1,k.name,nE,bj,av xs (pos+1) 12-f.hi⟩)]) (λ_=>[aB bm xs (pos+1+1),(b,.cells 81 (aH f)),(e,.cells 96 (dG ⟨Mm++k.name.extract 0 1,k.name,nE,bj,av xs (pos+1) 12-f.hi⟩))]) (λ_=>True) (by decide +kernel) ?_ ?_
    .exact DI
    .rintro - -
     repeat' first|refine cX ?_|intro b;conv=>whnf
     refine mT ai (m:=2) rfl rfl rfl rfl rfl rfl rfl ?_
     repeat' first|refine cX ?_|intro b;conv=>whnf
     exact fin _ ⟨Mm++k.name.extract 0 1,k.name,nE,bj,av xs (pos+1) 12-f.hi⟩ true _ (.cons_cons _ (yV _)) ⟨by omega,by omega⟩ (λ_=>cu.least f _ (by omega) g ⟨by omega,by omega⟩)
end
section
open Go
abbrev N':ByteArray:=⟨#[105,100]⟩
abbrev xp:ByteArray:=⟨#[111,102]⟩
abbrev jA:ByteArray:=⟨#[115,97,109,101]⟩
abbrev jB:ByteArray:=⟨#[112,97,114,116]⟩
abbrev oJ:ByteArray:=⟨#[116,111,116,97,108]⟩
abbrev KT:ByteArray:=⟨#[98,121]⟩
abbrev sq:ByteArray:=⟨#[112,101,114,115,111,110]⟩
abbrev KS:ByteArray:=⟨#[105,116,101,109]⟩
def br(n:Nat):ByteArray:=[sq,PJ,KS].getD n nE
def cT(lo:Int):am:=⟨N',nE,nE,0,lo,0,[],[]⟩
def hG(k:au)(lo h:Int):am:=⟨xp,k.name,nE,1,lo,h,[],[]⟩
def hI(nm:ByteArray):am:=⟨jA,nm,xp,8,0,0,[],[]⟩
def fp(a b:Int):am:=⟨jB,oJ,xp,7,a,a+b,[],[]⟩
def bf(nm:ByteArray):am:=⟨oJ,nm,nE,6,0,0,[],[]⟩
def IU(k:au):am:=⟨KT,k.name,nE,1,0,8,[],[]⟩
inductive gt(ks:List au)(nm:ByteArray):List am->List au->Prop
 |none (h:ks=[]):gt ks nm [] ks
 |of (tw0:Nat) (y:au) (lo hi:Int) (sm:List am) (hy:ks[tw0]?=some y) (hl:lo=0\/lo=1) (hh:hi∈[4,3,8,2]) (hs:sm=[]\/∃g,0<=oH y/\y.fields[(oH y).toNat]?=some g/\sm=[hI g.name]):gt ks nm (hG y lo hi::sm) ks
 |part (tw0:Nat) (y:au) (lo hi a b:Int) (sm:List am) (hy:ks[tw0]?=some y) (hl:lo=0\/lo=1) (hh:hi∈[4,3,8,2]) (hs:sm=[]\/∃g,0<=oH y/\y.fields[(oH y).toNat]?=some g/\sm=[hI g.name])
   (ht:gE y.fields oJ<0) (ha:0<=a/\a<3) (hb:0<=b/\b<8):gt ks nm (hG y lo hi::(sm++[fp a b])) (ks.set tw0 ⟨y.name,y.lo,y.hi,y.fields++[bf nm]⟩)
structure iO(ks:List au)(k:au)(ks':List au):Prop where
 ex:∃lo r idl f1 f2 p1 p2,lo∈[(0:Int),1,2,4,1,2]/\(0<=r/\r<5)/\idl∈[(0:Int),1,100,-3]/\k=⟨br ks.length,lo,lo+r,cT idl::(f1++(f2++(p1++p2)))⟩/\gt ks (br ks.length) f1 ks' /\
  (f2=[]\/∃y,ks[0]?=some y/\1<ks.length/\f2=[IU y])/\aG p1/\aG p2/\(p2=[]\/∃g gs,p2=g::gs/\gE (cT idl::(f1++(f2++p1))) g.name<0)
end
end Go.Proofs.YtilnpcolgcmofaaGreatDoor
