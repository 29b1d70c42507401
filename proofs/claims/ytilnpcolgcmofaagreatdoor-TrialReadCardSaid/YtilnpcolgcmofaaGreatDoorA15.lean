/- A part of the proof: Df V6 V7 V9 Hb Hc Hd Hk. -/
import Derived.Test.YtilnpcolgcmofaaGreatDoorA14
set_option maxRecDepth 100000
set_option maxHeartbeats 20000000
set_option linter.all false
namespace Go.Proofs.YtilnpcolgcmofaaGreatDoor
open Tryz
section
open Go
structure yc(l:bX):Prop where
 n:1<=l.tz.length/\l.tz.length<=12
 m:l.mz.length<=32
 q:∀q∈l.mz,(0<=q.1/\q.1<(l.tz.length:Int))/\(0<=q.2/\q.2<(l.tz.length:Int))
theorem u9(l:bX)(h:yc l):APure prog 180 [dl l] (iD 0):=by
 have h1:=h.n;have h2:=h.m;refine ap func180 ntmps180 λf=>?_
 repeat' first|refine aO ?_|intro b;conv=>whnf
 refine aR mixed ai (γ:=Nat) (λi=>[(4,iD i)]) (λ_=>[]) (λi=>i<=l.mz.length) (λi=>l.mz.length-i) 0 (aj av) (Sc.refl _) (zW _) ?_;intro i hi;by_cases hil:i<l.mz.length
 .obtain⟨y,a⟩:∃y,l.mz[i]?=some y:=⟨_,zD hil⟩
  have hy:l.mz[((i:Nat):Int).toNat]?=some y:=a;have e:=h.q y (zG a)
  repeat' first|refine aO ?_|intro b;conv=>whnf|((with_reducible refine' Ot.yd ?hyd ?_);(case hyd=>first|exact jr ai (m:=0) (q:=0) rfl rfl rfl rfl rfl rfl (by decide) rfl|exact jr ai (m:=1) (q:=1) rfl rfl rfl rfl rfl rfl (by decide) rfl))
  exact⟨i+1,(aj av),(Sc.sl (yG _ _)),by omega,by omega⟩
 .obtain rfl:i=l.mz.length:=by omega
  repeat' first|refine aO ?_|intro b;conv=>whnf
  refine Rt.pure (zM iD ?_)
  rfl
def co(mv:List (Int×Int))(s:Int):List Int:=(mv.filter λp=>decide (p.1=s)).map Prod.snd
theorem vo{mv:List (Int×Int)}{i:Nat}{y:Int×Int}(h:mv[i]?=some y)(s:Int):co (mv.take (i+1)) s=co (mv.take i) s++(if y.1=s then[y.2]else[]):=by
 unfold co;rw[xC,h,vZ,yB]
 congr 1
 by_cases e:y.1=s<;>simp[e]
theorem Cz(mv:List (Int×Int))(s:Int):(co mv s).length<=mv.length:=by
 unfold co;rw[zL];exact List.length_filter_le _ _
theorem u'(l:bX)(h:yc l)(s:Int):APure prog 181 [dl l,iD s] (bj (co l.mz s)):=by
 have h2:=h.m;refine ap func181 ntmps181 λo=>?_
 repeat refine aO ?_
 refine aR mixed ai (γ:=Nat×Value×af) (λg=>[(6,iD g.1),(5,.v g.2.1)]) (λg=>g.2.2) (λg=>g.1<=l.mz.length/\Kw (co (l.mz.take g.1) s) g.2.1 g.2.2) (λg=>l.mz.length-g.1) (0,.slice none 0 0,[]) (aj av) (Sc.refl _) ⟨zW _,ae.nil _ _⟩ ?_;rintro⟨i,v,r⟩ ⟨hi,w⟩;simp only at hi w⊢;by_cases hil:i<l.mz.length
 .obtain⟨y,e⟩:∃y,l.mz[i]?=some y:=⟨_,zD hil⟩
  have hy:l.mz[((i:Nat):Int).toNat]?=some y:=e;have a:=vo e s;have f:=Cz (l.mz.take (i+1)) s;rw[zR]at f;by_cases hys:y.1=s
  .rw[if_pos hys]at a;have b:ae 3 1 ((co (l.mz.take i) s).map λn=>[iD n]) v r:=w
   repeat refine aO ?_
   refine Ap.go rfl rfl rfl rfl b (bS _) rfl (zs:=(co (l.mz.take (i+1)) s).map λn=>[iD n]) (by rw[a,yB];rfl) (by simp;omega) (by simp;omega) (λs'=>s') da (λk j s' hr=>?_)
   repeat refine aO ?_
   exact tr
  .rw[if_neg hys,zZ]at a;rw[←a]at w
   repeat refine aO ?_
   exact⟨(i+1,v,r),(aj av),Sc.refl _,⟨by simp only;omega,w⟩,by simp only;omega⟩
 .obtain rfl:i=l.mz.length:=by omega
  rw[yM]at w
  repeat refine aO ?_
  exact Rt.vs (Vs.row w (bS _))
theorem D4(sd:List Nat)(p:List Int){n:Int}(h:n=1\/n=2\/n=1099511627776):oR sd p n:=by
 have:=kg sd p 0;rcases h with rfl|rfl|rfl<;>(refine⟨by decide,?_⟩;unfold Iy;simp;omega)
def fE(l:List Int):Int:=l.getD (l.length-1) 0
def Ia(mv:List (Int×Int))(sd:List Nat)(p:List Int)(i:Nat)(c:Int):Int:=(co mv c).getD (dN sd (p++[(i:Int)]) (co mv c).length).toNat 0
def eD(mv:List (Int×Int))(sd:List Nat)(p:List Int):Nat->List Int
 |0=>[0]
 |i+1=>if co mv (fE (eD mv sd p i))=[]then eD mv sd p i else eD mv sd p i++[Ia mv sd p i (fE (eD mv sd p i))]
section
variable {mv:List (Int×Int)} {sd:List Nat} {p:List Int}
theorem aL5:∀i,1<=(eD mv sd p i).length/\(eD mv sd p i).length<=i+1
 |0=>by simp[eD]
 |i+1=>by
  have:=aL5 i;rw[eD];split
  .omega
  .rw[zI,List.length_singleton];omega
theorem IC{l:List Int}(h:1<=l.length):l[l.length-1]?=some (fE l):=by
 unfold fE;rw[List.getD_eq_getElem?_getD,zD (by omega)];rfl
theorem sK{i:Nat}{c:Int}(h:co mv c≠[]):0<=dN sd (p++[(i:Int)]) (co mv c).length/\dN sd (p++[(i:Int)]) (co mv c).length<(co mv c).length/\(co mv c)[(dN sd (p++[(i:Int)]) (co mv c).length).toNat]?=some (Ia mv sd p i c):=by
 have l:0<(co mv c).length:=xS.2 h;have b:=Fm (sd:=sd) (p:=p++[(i:Int)]) (n:=(co mv c).length) (by omega);refine⟨b.1,b.2,?_⟩;unfold Ia;rw[List.getD_eq_getElem?_getD,zD (by omega)];rfl
def vP:=@List.mem_filter
theorem kT{n:Int}(d:0<n)(c:∀q∈mv,0<=q.2/\q.2<n):∀i,∀z∈eD mv sd p i,0<=z/\z<n
 |0,z,h=>by simp[eD]at h;omega
 |i+1,z,h=>by
  rw[eD]at h;split at h
  .exact kT d c i z h
  .rename_i e;rcases zO.1 h with h|h
   .exact kT d c i z h
   .rw[zN]at h;subst h;obtain⟨_,_,g⟩:=sK (sd:=sd) (p:=p) (i:=i) e;have f:=zG g;unfold co at f;obtain⟨q,b,a⟩:=xM.1 f;rw[←a];exact c q ((vP.1 b).1)
theorem aU0{i:Nat}(h:co mv (fE (eD mv sd p i))=[]):∀d,eD mv sd p (i+d)=eD mv sd p i
 |0=>rfl
 |d+1=>by
  have a:=aU0 h d;rw[←vQ,eD,a,if_pos h]
end
theorem Sf{A B:Prop}(k:B)(h:ar B->A:=by intro q7;(first|refine bO ?_|refine mN ?_|(refine' ah ?hc ?_;(case hc=>first|exact HV|exact HM|exact HB)));exact q7.1):A:=h ⟨k⟩
theorem pu{A B:Prop}(k:B)(h:ar B->A:=by intro q7;(first|refine bO ?_|refine aA ?_|(refine' ah ?hc ?_;(case hc=>first|exact HV|exact HM|exact HB)));exact q7.1):A:=h ⟨k⟩
theorem BV(l:bX)(h:yc l)(Q:∀s,(co l.mz s).length<=2)(sd:List Nat)(hs:gb sd)(p:List Int)(U:p.length<=7)(z:∀v∈p,cB v)(k:Nat)(V:k<=100):APure prog 204 [dl l,cX sd,bj p,iD k] (.tup [bj (eD l.mz sd p k),iD 0]):=by
 have T:=j8 sd;have L:=hs.n;have HV:=u9 l h;refine ap func204 ntmps204 λBB=>?_
 repeat' first|refine Sf ?_|intro b;conv=>whnf
 refine Bx.l ?_
 repeat' first|refine Sf ?_|intro b;conv=>whnf
 refine Bx.r ?_;refine La ai rfl rfl rfl rfl rfl rfl rfl rfl rfl rfl (by decide) (λE=>?_)
 repeat' first|refine pu ?_|intro b;conv=>whnf
 refine aR mixed ai (γ:=Nat×Value×af) (λg=>[(12,iD g.1),(11,.v g.2.1)]) (λg=>g.2.2) (λg=>g.1<=k/\Kw (eD l.mz sd p g.1) g.2.1 g.2.2) (λg=>k-g.1) (0,.slice (some ⟨E,0,none⟩) 1 1,[(E,.cells 3 [iD 0])]) (aj av) (Sc.refl _) ⟨zW _,Ql (xs:=[[iD 0]]) E (by simp) (by decide)⟩ ?_;rintro⟨i,v,r⟩ ⟨hi,w⟩;simp only at hi w⊢;by_cases hik:i<k
 .have M:=aL5 (mv:=l.mz) (sd:=sd) (p:=p) i;have C:=IC (l:=eD l.mz sd p i) (by omega);have a:ae 3 1 ((eD l.mz sd p i).map λn=>[iD n]) v r:=w;obtain⟨Z,G,u,R,D,o⟩:=ae.get a (show((eD l.mz sd p i).map λn=>[iD n])[(eD l.mz sd p i).length-1]?=some [iD (fE (eD l.mz sd p i))] by rw[qA,C];rfl);have e:=o 0 (by decide);rw[Nat.mul_one,Nat.add_zero]at e;have HM:=u' l h (fE (eD l.mz sd p i));have j:eD l.mz sd p (i+1)=if co l.mz (fE (eD l.mz sd p i))=[]then eD l.mz sd p i else eD l.mz sd p i++[Ia l.mz sd p i (fE (eD l.mz sd p i))]:=rfl
  have P:=Q (fE (eD l.mz sd p i));have F:=aL5 (mv:=l.mz) (sd:=sd) (p:=p) (i+1);subst R D;have q:0+((((eD l.mz sd p i).map λn=>[iD n]).length:Int)-1).toNat*1=(eD l.mz sd p i).length-1:=by rw[zL];omega
  by_cases hmo:co l.mz (fE (eD l.mz sd p i))=[]
  .have t:=aU0 hmo (k-i);rw[show i+(k-i)=k by omega]at t;rw[hmo]at HM
   repeat' first|refine pu ?_|intro b;conv=>whnf|(refine Ld.cellm (tb:=3) (cs:=u) (List.Mem.head _) (by rw[q];exact e) ?_)
   rw[t];exact Rt.vs (Vs.tup (.cons (Vs.row a (bS _)) (.cons (Vs.refl _ _) (.nil _))))
  .obtain⟨K,J,I⟩:=sK (sd:=sd) (p:=p) (i:=i) hmo;rw[if_neg hmo]at j;have O:0<(co l.mz (fE (eD l.mz sd p i))).length:=xS.2 hmo;have HB:=QS sd hs (p++[(i:Int)]) ⟨by simp;omega,λv f=>by
    rcases zO.1 f with f|f
    .exact z v f
    .rw[zN]at f;subst f;exact⟨by omega,by omega⟩⟩ ((co l.mz (fE (eD l.mz sd p i))).length:Int) (D4 sd _ (by omega))
   rw[show((co l.mz (fE (eD l.mz sd p i))).length:Int)=(((co l.mz (fE (eD l.mz sd p i))).map λx=>[iD x]).length:Int) by rw[zL]]at HB K J I
   repeat' first|refine pu ?_|intro b;conv=>whnf|(refine Ld.cellm (tb:=3) (cs:=u) (List.Mem.head _) (by rw[q];exact e) ?_)
   refine Ap.go rfl rfl rfl rfl (ae.e0 _ _ (some ⟨b,0,none⟩)) (show List.Perm _ ([]++_) from zH _) (FE p) (zs:=p.map λn=>[iD n]) rfl (by simp;omega) (by simp;omega) (λs'=>s'++_) (λs'=>zH _) (λa5 X S y=>?_)
   repeat' first|refine pu ?_|intro b;conv=>whnf
   refine Ap.frz rfl rfl rfl rfl y (zH _) rfl (zs:=(p++[(i:Int)]).map λn=>[iD n]) (by rw[yB];rfl) (by simp;omega) (by simp;omega) ?_
   repeat' first|refine pu ?_|intro b;conv=>whnf
   refine Ap.go rfl rfl rfl rfl a (bS _) rfl (zs:=(eD l.mz sd p (i+1)).map λn=>[iD n]) (by rw[j,yB];rfl) (by rw[zL];omega) (by rw[zL];omega) (λs'=>s') da (λa' Y s' hr=>?_)
   repeat' first|refine pu ?_|intro b;conv=>whnf
   exact tr
 .obtain rfl:i=k:=by omega
  repeat' first|refine pu ?_|intro b;conv=>whnf
  exact Rt.vs (Vs.tup (.cons (Vs.row w (bS _)) (.cons (Vs.refl _ _) (.nil _))))
end
section
open Go Go.RowKit
def iJ(k f st:Int)(e:Int):cE:=[⟨4,1,k,0⟩,⟨1,2,1,0⟩,⟨1,5,st,0⟩,⟨8,0,1,e⟩,⟨2,4,0,7⟩,⟨5,4,k,f⟩]
def CO(k f r a st:Int):cE:=if r<0 then iJ k f st 10 else iJ k f st 11++[⟨5,4,r,a⟩]
def lY(k f r a o st c:Int):cE:=CO k f r a st++[⟨2,0,0,2⟩,⟨o,4,5,(if r<0 then 10 else 11)-1⟩,⟨6,3,0,0⟩,⟨0,c,0,0⟩]
abbrev MU(p:cE)(v:Value)(s:af):Prop:=ae 83 4 (p.map bY) v s
theorem aZ9(k f r a st:Int):(CO k f r a st).length<=7:=by unfold CO;split<;>simp[iJ]
theorem kI{p:cE}(b:Nat)(h:p.length<=1000){n:Nat}(a:n=p.length):MU p (.slice (some ⟨b,0,none⟩) n n) [(b,.cells 83 (p.map bY).flatten)]:=by
 subst a;have:=Ql (e:=83) (k:=4) (xs:=p.map bY) b (by intro x hx;obtain⟨y,_,rfl⟩:=xM.1 hx;rfl) (by rw[zL];unfold maxLen;omega)
 rwa [zL]at this
theorem NQ{cs:List D}{n:Nat}{d:D}(h:n<cs.length):cs.set n d=cs.take n++[d]++cs.drop (n+1):=by
 rw[xW,if_pos h];simp
theorem AK{A B:Prop}(k:B)(h:ar B->A:=by intro q7;(first|refine bO ?_|refine mN ?_|(refine' ah ?hc ?_;(case hc=>fail)));exact q7.1):A:=h ⟨k⟩
theorem cl7{p:Prop}(h:p:=by unfold lY;rw[zL,zI];have:=aZ9 k f rk rf st;simp;omega):p:=h
theorem aD5(k f rk rf g st c:Int):az prog 50 [iD k,iD f,iD rk,iD rf,iD g,iD st,iD c] [] (λd σ=>∃v,d= .v v/\MU (lY k f rk rf g st c) v σ):=by
 refine cP func50 ntmps50 λy=>?_;by_cases hr:rk<0
 .repeat refine AK ?_
  refine Bx.r ?_;refine La ai (out:=((iJ k f st 10).map bY).flatten) rfl rfl rfl rfl rfl rfl rfl rfl (by kernel_rfl) (by kernel_rfl) (by decide) (λo=>?_);have a:MU (iJ k f st 10) (.slice (some ⟨o,0,none⟩) 6 6) _:=kI o (by simp[iJ]) rfl
  repeat refine aO ?_
  refine Ap.go rfl rfl rfl rfl a (bS _) rfl (zs:=(lY k f rk rf g st c).map bY) (by unfold lY CO;simp only[hr,if_true,uC];rfl) cl7 cl7 (λs=>s) da (λn c1 l e=>?_)
  repeat refine aO ?_
  exact Rt.by (Vs.refl _ _) ⟨_,rfl,e⟩
 .repeat refine AK ?_
  refine Bx.r ?_;refine La ai (out:=((iJ k f st 10).map bY).flatten) rfl rfl rfl rfl rfl rfl rfl rfl (by kernel_rfl) (by kernel_rfl) (by decide) (λo=>?_);have j:MU (iJ k f st 10) (.slice (some ⟨o,0,none⟩) 6 6) _:=kI o (by simp[iJ]) rfl
  repeat refine aO ?_
  refine Ap.go rfl rfl rfl rfl j (bS _) rfl (zs:=(iJ k f st 10++[(⟨5,4,rk,rf⟩:VI)]).map bY) rfl (by simp[iJ]) (by simp[iJ]) (λs=>s) da (λn c1 l a=>?_);obtain⟨w,t,u,r,q,-⟩:=ae.block a (by simp[iJ])
  cases r
  subst q;have hl:((iJ k f st 10++[(⟨5,4,rk,rf⟩:VI)]).map bY).length=7:=rfl;rw[hl]at a⊢;have b:=pB1 (d:=iD 11) a (i:=3) (m:=3) (x:=bY ⟨8,0,1,10⟩) rfl (by decide);rw[show((iJ k f st 10++[(⟨5,4,rk,rf⟩:VI)]).map bY).set 3 ((bY ⟨8,0,1,10⟩).set 3 (iD 11))=(iJ k f st 11++[(⟨5,4,rk,rf⟩:VI)]).map bY from rfl]at b;rw[NQ (by simp[iJ,bY])]at b
  repeat refine aO ?_
  refine Ap.go rfl rfl rfl rfl b (bS _) rfl (zs:=(lY k f rk rf g st c).map bY) (by unfold lY CO;simp only[hr,uC];rfl) cl7 cl7 (λs=>s) da (λn c1 l e=>?_)
  repeat refine aO ?_
  exact Rt.by (Vs.refl _ _) ⟨_,rfl,e⟩
end
section
open Go
structure Ry(x:ak)(k f:Int):Prop where
 k0:0<=k
 k5:k<=5
 kl:k<x.kz.length
 f0:0<=f
 f9:f<=9
 nm:dk x ⟨5,4,k,f⟩=true
structure fx(x:ak)(p:cE):Prop where
 len:p.length<=128
 ok:∀i∈p,Kz p.length i
 nm:∀i∈p,dk x i=true
theorem fx.valid{x:ak}{p:cE}(h:fx x p):yw p=0:=by
 unfold yw;rw[if_neg (by have:=h.len;omega),if_pos (yA.2 λi a=>ZS.2 (h.ok i a))]
theorem fx.named{x:ak}{p:cE}(h:fx x p):Q1 x p=true:=yA.2 h.nm
theorem Kz.of{n:Nat}{i:VI}(h:oU n i=true):Kz n i:=ZS.1 h
theorem aL2{x:ak}{p:cE}(c:p.length<=128)(b:p.all (oU p.length)=true)(a:p.all (dk x)=true):fx x p:=
 ⟨c,λi h=>ZS.1 (yA.1 b i h),yA.1 a⟩
theorem ZR{x:ak}{i:VI}(a:i.op≠4)(h:i.op≠5):dk x i=true:=by unfold dk;rw[if_neg a,if_neg h]
theorem Ii{x:ak}{a b k f:Int}(h:dk x ⟨5,a,k,f⟩=true):dk x ⟨5,b,k,f⟩=true:=h
theorem Ri{x:ak}{a k f:Int}(h:k<x.kz.length):dk x ⟨4,a,k,f⟩=true:=by simp[dk,h]
def uG(i:VI):VI:=if i.op=6 then⟨i.op,i.a+3,i.b,i.c⟩else if i.op=7\/i.op=8 then⟨i.op,i.a,i.b,i.c+3⟩else i
structure KC(x:ak)(k f rk rf op st c:Int):Prop where
 p:Ry x k f
 r:rk<0\/Ry x rk rf
 op:op=7\/op=8
 st:-2<=st/\st<=9
 c:1<=c/\c<=3
theorem aP4{x:ak}{k f r a o st c:Int}(h:KC x k f r a o st c):fx x (lY k f r a o st c):=by
 obtain⟨⟨m,j,kl,f0,f9,nm⟩,b,p,⟨d,s⟩,⟨c1,u⟩⟩:=h;by_cases e:r<0
 .refine aL2 ?_ ?_ ?_
  .unfold lY;rw[zI];have:=aZ9 k f r a st;simp;omega
  .rcases p with rfl|rfl<;>(simp[lY,CO,iJ,e,oU,cz,di,oV,k8];omega)
  .rcases p with rfl|rfl<;>simp[lY,CO,iJ,e,nm,Ri kl,ZR]
 .obtain⟨i,g,l,t,q,n⟩:=b.resolve_left e;refine aL2 ?_ ?_ ?_
  .unfold lY;rw[zI];have:=aZ9 k f r a st;simp;omega
  .rcases p with rfl|rfl<;>(simp[lY,CO,iJ,e,oU,cz,di,oV,k8];omega)
  .rcases p with rfl|rfl<;>simp[lY,CO,iJ,e,nm,n,Ri kl,ZR]
def kP(kk n:Int):cE:=[⟨4,6,kk,0⟩,⟨1,5,n,0⟩,⟨7,6,5,13⟩]
theorem N8{x:ak}{k f o st c kk n:Int}(h:KC x k f (-1) 0 o st c)(b:0<=kk/\kk<=5)(l:kk<x.kz.length)(a:1<=n/\n<=3):fx x (kP kk n++(lY k f (-1) 0 o st c).map uG):=by
 obtain⟨⟨j,i,kl,f0,f9,nm⟩,r,p,⟨d,s⟩,⟨c1,m⟩⟩:=h;obtain⟨t,q⟩:=b;obtain⟨g,e⟩:=a;refine aL2 ?_ ?_ ?_
 .unfold lY;rw[zI,zL,zI];have:=aZ9 k f (-1) 0 st;simp[kP];omega
 .rcases p with rfl|rfl<;>(simp[kP,lY,CO,iJ,uG,oU,cz,di,oV,k8];omega)
 .rcases p with rfl|rfl<;>simp[kP,lY,CO,iJ,uG,nm,Ri kl,Ri l,ZR]
def ZA(k st c:Int):cE:=[⟨4,1,k,0⟩,⟨1,2,(if st<1 then 1 else st).tmod 5,0⟩,⟨7,1,2,4⟩,⟨0,c,0,0⟩]
theorem A2{x:ak}{k st c:Int}(a:0<=k/\k<=5)(h:k<x.kz.length)(s:st<=9)(b:1<=c/\c<=3):fx x (ZA k st c):=by
 have e:0<=(if st<1 then 1 else st).tmod 5:=Int.tmod_nonneg _ (by split<;>omega);have d:(if st<1 then 1 else st).tmod 5<5:=Int.tmod_lt_of_pos _ (by omega);obtain⟨i,g⟩:=a;obtain⟨f,n⟩:=b;refine aL2 (by simp[ZA]) ?_ ?_
 .unfold ZA;generalize(if st<1 then 1 else st).tmod 5=z at e d⊢;simp[oU,cz,di,oV,k8];omega
 .simp[ZA,Ri h,ZR]
end
section
open Go Go.RowKit
def uy:List ByteArray:=[⟨#[99,45,45]⟩,⟨#[114,110,45]⟩,⟨#[114,114,114]⟩,⟨#[114,114,114]⟩,⟨#[114,107,45]⟩,⟨#[114,107,102]⟩,⟨#[105,45,45]⟩,⟨#[114,114,105]⟩,⟨#[114,114,105]⟩]
theorem uR:APure prog 51 [] (.sl 1 (uy.map λz=>[sD z])):=by
 refine ap func51 ntmps51 λa=>?_
 repeat refine aO ?_
 exact Rt.pure rfl
def pq(o:Int)(j:Nat):Int:=if j=0 then(di o).1 else if j=1 then(di o).2.1 else(di o).2.2
def Au(o:Nat):ByteArray:=uy.getD o ⟨#[]⟩
def Nw(o j:Nat):UInt8:=(bytes (Au o)).getD j 0
theorem GR:∀o:Fin 9,∀j:Fin 3,((bytes (Au o.1))[j.1]?=some (Nw o.1 j.1))/\(pq o.1 j.1,Nw o.1 j.1)∈[((0:Int),(45:UInt8)),(1,99),(2,114),(3,110),(4,107),(5,102),(6,105)]:=by decide +kernel
theorem GQ{o j:Nat}(h:o<9)(a:j<3):∃s c,uy[((o:Nat):Int).toNat]?=some s/\(bytes s)[((j:Nat):Int).toNat]?=some c/\(pq o j,c)∈[((0:Int),(45:UInt8)),(1,99),(2,114),(3,110),(4,107),(5,102),(6,105)]:=by
 obtain⟨e,d⟩:=GR ⟨o,h⟩ ⟨j,a⟩;have b:uy[o]?=some (Au o):=by
  have:o<uy.length:=h;unfold Au;rw[List.getD_eq_getElem?_getD,zD this];rfl
 exact⟨Au o,Nw o j,b,e,d⟩
def gG(n:Nat)(k f:Nat)(z y:Int):Prop:=cz z y n=true/\(z=4->y=k)/\(z=5->y=f)
theorem ZP{n k f:Nat}{z y:Int}(b:z≠4)(a:z≠5)(h:oV z<=y/\y<=k8 z n):gG n k f z y:=⟨by simp[cz,h],λe=>absurd e b,λe=>absurd e a⟩
theorem PP{n k f o j:Nat}{ls:List Int}{y z:Int}(l:ls.length=j)(h:∀q y,ls[q]?=some y->gG n k f (pq o q) y)(c:pq o j=z)(d:gG n k f z y):∀q b,(ls++[y])[q]?=some b->gG n k f (pq o q) b:=by
 intro q b a;by_cases hlt:q<ls.length
 .rw[yP hlt]at a;exact h q b a
 .rw[yK (by omega)]at a;have:q=j:=by
   have:=(zE.1 a).1;simp at this;omega
  subst this;rw[l,wH]at a
  cases a
  rw[c];exact d
theorem IQ{x:ak}{n k f o:Nat}{a b c:Int}(j:o<9)(P:Ry x k f)(h:∀q y,[a,b,c][q]?=some y->gG n k f (pq o q) y):Kz n ⟨o,a,b,c⟩/\dk x ⟨o,a,b,c⟩=true:=by
 refine⟨⟨by simp only;omega,(h 0 a rfl).1,(h 1 b rfl).1,(h 2 c rfl).1⟩,?_⟩;by_cases i:o=4
 .subst i;have d:=(h 1 b rfl).2.1 (by decide);subst d;exact Ri P.kl
 by_cases g:o=5
 .subst g;have d:=(h 1 b rfl).2.1 (by decide);have e:=(h 2 c rfl).2.2 (by decide);subst d e;exact Ii P.nm
 .exact ZR (by simp only;omega) (by simp only;omega)
end
section
open Go
def gN(l:List am)(nm:ByteArray):Int:=idx (λf=>seq f.name nm) l
def oq(n:Int):Bool:=!decide (n=0) && !decide (n=1) && !decide (n=6) && !decide (n=7)
def oX(k:au):Int:=idx (λf=>oq f.kind) k.fields
theorem aO4(l:List am)(nm:ByteArray)(hl:l.length<=1000000):APure prog 56 [yj l,sD nm] (iD (gN l nm)):=by
 refine ap func56 ntmps56 λa=>?_
 repeat' first|refine ao ?_|refine ba.mk λy hy=>?_
 refine fZ mixed ai (γ:=Nat) (λq=>[(5,iD q)]) (λ_=>[]) (λq=>q<=l.length/\∀i y,i<q->l[i]?=some y->seq y.name nm=false) (λq=>l.length-q) 0 rfl rfl ⟨by omega,by omega⟩ ?_;exact YL
theorem dY{p:Prop}(h:p:=by repeat(first|exact xQ _|exact yV _|apply List.Sublist.cons)):p:=h
theorem tq{p:Prop}(h:p:=by
 repeat refine ao ?_
 exact⟨q+1,(aj aQ),dY,⟨by omega,nxt hp⟩,by omega⟩):p:=h
theorem qd(k:au)(hl:k.fields.length<=1000000):APure prog 55 [fF k] (iD (oX k)):=by
 refine ap func55 ntmps55 λg=>?_
 repeat refine ao ?_
 refine ma mixed ai (γ:=Nat) (λq=>[(3,iD q)]) (λ_=>[]) (λq=>q<=k.fields.length/\∀i y,i<q->k.fields[i]?=some y->oq y.kind=false) (λq=>k.fields.length-q) 0 (aj aQ) dY ⟨by omega,by omega⟩ ?_;rintro q ⟨f,o⟩;by_cases hql:q<k.fields.length
 .obtain⟨y,a⟩:∃y,k.fields[q]?=some y:=⟨_,zD hql⟩
  have hy:k.fields[((q:Nat):Int).toNat]?=some y:=a;have nxt:oq y.kind=false->∀i z,i<q+1->k.fields[i]?=some z->oq z.kind=false:=λh i z hi b=>by
   by_cases e:i=q
   .subst e;cases a.symm.trans b;exact h
   .exact o i z (by omega) b
  by_cases h0:y.kind=0
  .have hp:oq y.kind=false:=by unfold oq;simp[h0]
   exact tq
  .by_cases h1:y.kind=1
   .have hp:oq y.kind=false:=by unfold oq;simp[h1]
    exact tq
   .by_cases h6:y.kind=6
    .have hp:oq y.kind=false:=by unfold oq;simp[h6]
     exact tq
    .by_cases h7:y.kind=7
     .have hp:oq y.kind=false:=by unfold oq;simp[h7]
      exact tq
     .have hp:oq y.kind=true:=by unfold oq;simp[h0,h1,h6,h7]
      repeat refine ao ?_
      refine Rt.pure (zM iD ?_);exact(Kb a hp o).symm
 .obtain rfl:q=k.fields.length:=by omega
  repeat refine ao ?_
  refine Rt.pure (zM iD ?_);exact(ZM λi y hy=>o i y (zE.1 hy).1 hy).symm
end
section
open Go
abbrev nE:ByteArray:=⟨#[]⟩
abbrev bp:ByteArray:=⟨#[115,105,122,101]⟩
abbrev ji:ByteArray:=⟨#[116,97,103]⟩
abbrev o4:ByteArray:=⟨#[98,111,114,110]⟩
abbrev sN:ByteArray:=⟨#[108,101,102,116]⟩
abbrev OA:ByteArray:=⟨#[115,116,97,116,101]⟩
abbrev br:ByteArray:=⟨#[108,105,102,101]⟩
abbrev gp:ByteArray:=⟨#[108,111,119]⟩
abbrev eR:ByteArray:=⟨#[104,105,103,104]⟩
abbrev qp:ByteArray:=⟨#[114,101,100]⟩
abbrev P7:ByteArray:=⟨#[103,114,101,101,110]⟩
abbrev iH:ByteArray:=⟨#[98,108,117,101]⟩
inductive aG:List am->Prop
 |none:aG []
 |size (a b:Int) (ha:-5<=a/\a<=5) (hb:0<=b/\b<20):aG [⟨bp,nE,nE,2,a,a+b,[],[]⟩]
 |tag (n:Nat) (ws:List Int) (hn:1<=n/\n<=3) (hw:ws.length=n) (h0:∀w∈ws,0<=w/\w<=4) (h1:∃w∈ws,1<=w):aG [⟨ji,nE,nE,3,0,0,[qp,P7,iH].take n,ws⟩]
 |born (a b c d:Int) (ha:-200<=a/\a<200) (hb:0<=b/\b<60) (hc:0<=c/\c<3) (hd:0<=d/\d<30):aG [⟨o4,nE,nE,4,a,a+b,[],[]⟩,⟨sN,o4,nE,4,c,3+d,[],[]⟩]
 |state (a b:Int) (ha:0<=a/\a<3) (hb:0<=b/\b<4):aG [⟨OA,br,nE,5,a,a+b,[],[]⟩]
 |low (a b c d:Int) (ha:0<=a/\a<5) (hb:0<=b/\b<10) (hc:0<=c/\c<5) (hd:0<=d/\d<10):aG [⟨gp,nE,nE,2,a,5+b,[],[]⟩,⟨eR,nE,nE,2,c,10+d,[],[]⟩]
abbrev aP:D:=.v (.slice .none 0 0)
abbrev bK(f:am)(w g:D):List D:=[sD f.name,sD f.of,sD f.up,iD f.kind,iD f.lo,iD f.hi,w,g]
theorem Vd.nil{σ τ:af}(k:Nat):Vd σ τ (.v (.slice .none 0 0)) (.sl k []):=λw X u _ h=>by
 rw[h.val rfl];exact .sl k [] .none 0 (λ_ _=>undef) (by simp) (λy a=>by cases a) (λi y a=>by simp at a) (λi y a=>by simp at a)
theorem Vd.row{σ τ ρ:af}{e:TypeId}{k:Nat}{xs:List (List D)}{v:Value}{s:af}(h:ae e k xs v s)(p:σ.Perm (s++ρ))(a:∀b,b∈aS τ->b∈aS ρ):Vd σ τ (.v v) (.sl k xs):=
 λw X u c r=>MG ((Vs.row h p).run w X u c r).2 a
theorem Tk{A B:Prop}(k:B)(h:ar B->A:=by intro q7;(first|refine z7 ?_|fail|((with_reducible refine Cb.go ?h ?_);(case h=>decide +kernel)));exact q7.1):A:=h ⟨k⟩
theorem bv{A B:Prop}(k:B)(h:ar B->A:=by intro q7;(first|refine bC ?_|refine Tk ?_|(refine' ah ?hc ?_;(case hc=>fail)));exact q7.1):A:=h ⟨k⟩
theorem cl9{p:Prop}(h:p:=by repeat'(first|exact oI.nil|exact ka.nil|refine oI.cons ?_ ?_|refine ka.cons ?_ ?_|exact Vd.nil _|exact Vd.same (λ_ h=>h) _)):p:=h
theorem hI{p:Prop}(h:p:=by(refine gz λa=>?_;simp only[List.append_eq,List.nil_append,gy,hY,gO,NX,PM,iD,bD];omega)):p:=h
theorem YP{p:Prop}(h:p:=by
 repeat' first|refine bv ?_|intro b;conv=>whnf
 repeat' first|refine bv ?_|intro b;conv=>whnf|(refine And.intro ?_ ?_<;>(conv=>whnf))|((refine bc (ev xs hx bm _ _ ⟨by omega,by omega⟩) (zH ([aC bm xs _]++_)) (λs'=>s'++_) (λs'=>zH _) ?_);(rintro _ _ ⟨rfl,rfl⟩))|((refine bc (ev xs hx bm _ _ ⟨by omega,by omega⟩) (show List.Perm (_::aC bm xs _::_) ([aC bm xs _]++(_::_)) from List.Perm.swap _ _ _) (λs'=>s'++(_::_)) (λs'=>zH _) ?_);(rintro _ _ ⟨rfl,rfl⟩))
 all_goals exact⟨(),(aj aQ),rfl,trivial⟩):p:=h
theorem aD9(xs:List Int)(hx:ef xs)(bm:Nat)(pos:Int)(hp:0<=pos/\pos<=100000000):az prog 57 [ptr bm] [aC bm xs pos] (λd σ=>∃k fs,(pos<=k/\k<=pos+20)/\d=yj fs/\σ=[aC bm xs k]/\aG fs):=by
 refine cP func57 ntmps57 λBB=>?_
 repeat' first|refine bv ?_|intro b;conv=>whnf
 (refine bc (EN xs hx bm _ _ ⟨by omega,by omega⟩) (zH ([aC bm xs _]++_)) (λs'=>s'++_) (λs'=>zH _) ?_)
 rintro _ _ ⟨r,rfl,⟨hr,G⟩,rfl⟩;have G:=G (by omega);by_cases e0:r=0
 .repeat' first|refine bv ?_|intro b;conv=>whnf
  (refine bc (EN xs hx bm _ _ ⟨by omega,by omega⟩) (zH ([aC bm xs _]++_)) (λs'=>s'++_) (λs'=>zH _) ?_)
  rintro _ _ ⟨a,rfl,⟨T,e⟩,rfl⟩;have e:=e (by omega)
  repeat' first|refine bv ?_|intro b;conv=>whnf
  (refine bc (EN xs hx bm _ _ ⟨by omega,by omega⟩) (zH ([aC bm xs _]++_)) (λs'=>s'++_) (λs'=>zH _) ?_)
  rintro _ _ ⟨b,rfl,⟨hb,f⟩,rfl⟩;have f:=f (by omega)
  repeat' first|refine bv ?_|intro b;conv=>whnf
  exact Rt.by (Vs.vd ⟨[],zH _⟩ (Vd.sl (λ_ h=>h) cl9)) ⟨_,_,⟨by omega,by omega⟩,rfl,rfl,aG.size (a-5) b ⟨by omega,by omega⟩ ⟨by omega,by omega⟩⟩
 by_cases e1:r=1
 .repeat' first|refine bv ?_|intro b;conv=>whnf
  (refine bc (EN xs hx bm _ _ ⟨by omega,by omega⟩) (zH ([aC bm xs _]++_)) (λs'=>s'++_) (λs'=>zH _) ?_)
  rintro _ _ ⟨c,rfl,⟨hc,j⟩,rfl⟩;have j:=j (by omega);obtain⟨n,hn,rfl⟩:∃n:Nat,n<3/\c=n:=⟨c.toNat,by omega,by omega⟩
  repeat' first|refine bv ?_|intro b;conv=>whnf
  generalize Z:(List.take (1+(n:Int)).toNat [[D.v (Value.string qp)],[D.v (Value.string P7)],[D.v (Value.string iH)]])=Wd;have hWl:Wd.length=n+1:=by rw[←Z,zR];simp;omega
  refine sO (List.Perm.swap _ _ _) ?_;refine ma mixed ai (γ:=List Int×Value×af) (λg=>[(6,iD g.1.length)]) (λg=>aC bm xs (pos+2+g.1.length)::(b,.cells 81 (bK ⟨ji,nE,nE,3,0,0,[],[]⟩ (.sl 1 Wd) (.v g.2.1)))::g.2.2) (λg=>g.1.length<=n+1/\(∀z∈g.1,0<=z/\z<=4)/\ae 3 1 (g.1.map λz=>[iD z]) g.2.1 g.2.2) (λg=>n+1-g.1.length) ([],.slice none 0 0,[]) (aj aQ) (by simp only[List.length_nil];rw[show pos+2+((0:Nat):Int)=pos+1+1 by omega];exact dY) ⟨zW _,(by simp),ae.nil _ _⟩ ?_
  .rintro⟨ws,v,s⟩ ⟨O,P,w⟩;simp only at O P w⊢;by_cases hlt:ws.length<n+1
   .have hb:=de xs (pos+2+ws.length) 5;have f:=hb.2 (by omega)
    repeat' first|refine bv ?_|intro b;conv=>whnf
    refine ja ?_;refine Ks mixed ai rfl [0,2] 6 (.two 1 (.one 3 (.one 4 (.one 5 (.one 6 (.one 7 .done))))) 3 (.two 1 (.one 4 (.one 5 (.one 6 (.one 7 .done)))) 4 (.one 1 (.one 5 (.one 6 (.one 7 .done)))))) (γ:=Value×af) (λg=>[(39,.v v),(41,iD (aw xs (pos+2+ws.length) 5)),(42,.sl 1 [[iD (aw xs (pos+2+ws.length) 5)]]),(43,.v g.1),(44,.v (.pointer (some ⟨b,0+7,none⟩)))]) (λg=>aC bm xs (pos+2+ws.length+1)::(b,.cells 81 (bK ⟨ji,nE,nE,3,0,0,[],[]⟩ (.sl 1 Wd) (.v g.1)))::g.2) (λg=>ae 3 1 ((ws++[aw xs (pos+2+ws.length) 5]).map λz=>[iD z]) g.1 g.2) (by decide +kernel) ?_ ?_
    .repeat' first|refine bv ?_|intro b;conv=>whnf
     repeat' first|refine bv ?_|intro b;conv=>whnf|(refine And.intro ?_ ?_<;>(conv=>whnf))|((refine bc (ev xs hx bm _ _ ⟨by omega,by omega⟩) (zH ([aC bm xs _]++_)) (λs'=>s'++_) (λs'=>zH _) ?_);(rintro _ _ ⟨rfl,rfl⟩))|((refine bc (ev xs hx bm _ _ ⟨by omega,by omega⟩) (show List.Perm (_::aC bm xs _::_) ([aC bm xs _]++(_::_)) from List.Perm.swap _ _ _) (λs'=>s'++(_::_)) (λs'=>zH _) ?_);(rintro _ _ ⟨rfl,rfl⟩))|(refine Ap.go rfl rfl rfl rfl w (τ:=[aC bm xs (pos+2+ws.length+1),(b,.cells 81 (bK ⟨ji,nE,nE,3,0,0,[],[]⟩ (.sl 1 Wd) (.v v)))]) cl6 rfl (zs:=(ws++[aw xs (pos+2+ws.length) 5]).map λz=>[iD z]) (by simp) (by simp;omega) (by simp;omega) (λs'=>aC bm xs (pos+2+ws.length+1)::(b,.cells 81 (bK ⟨ji,nE,nE,3,0,0,[],[]⟩ (.sl 1 Wd) (.v v)))::s') (λs'=>hI) (λa2 c2 L o=>?_))
     all_goals exact⟨(_,L),(aj aQ),rfl,o⟩
    .rintro⟨v2,L⟩ o;generalize aw xs (pos+2+ws.length) 5=B at *;simp only at o⊢
     repeat' first|refine bv ?_|intro b;conv=>whnf
     refine⟨(ws++[B],v2,L),?_,?_,⟨by simp;omega,λz y=>?_,o⟩,by simp only[zI,List.length_cons,List.length_nil];omega⟩
     .simp only[zI,List.length_cons,List.length_nil];exact(aj av)
     .simp only[zI,List.length_cons,List.length_nil];rw[show pos+2+((ws.length+(0+1):Nat):Int)=pos+2+ws.length+1 by omega];exact dY
     .rcases zO.1 y with h|h
      .exact P z h
      .rw[zN]at h;subst h;exact⟨hb.1,by omega⟩
   .have M:ws.length=n+1:=by omega
    rw[M];have R:=de xs (pos+2+(n+1:Nat)) (Wd.length:Nat);have Y:=R.2 (by omega);have Q:=de xs (pos+2+(n+1:Nat)+1) 3;have V:=Q.2 (by omega);obtain⟨c,J⟩:∃c:Nat,aw xs (pos+2+(n+1:Nat)) (Wd.length:Nat)=c:=⟨(aw xs (pos+2+(n+1:Nat)) (Wd.length:Nat)).toNat,by omega⟩
    have I:c<ws.length:=by omega
    obtain⟨z,y⟩:∃z,ws[c]?=some z:=⟨_,zD I⟩
    obtain⟨q,i,l,rfl,rfl,S,F⟩:=aW7 (g:=iD) w y;have K:=(zE.1 S).1
    repeat' first|refine bv ?_|intro b;conv=>whnf
    refine ja ?_;refine Ks mixed ai rfl [0,2,3,4,6] 6 (.two 1 (.one 5 (.one 7 (.one 8 (.one 9 (.one 10 .done))))) 5 (.two 1 (.one 7 (.one 8 (.one 9 (.one 10 .done)))) 7 (.two 1 (.one 8 (.one 9 (.one 10 .done))) 8 (.one 1 (.one 9 (.one 10 .done)))))) (γ:=Unit) (λ_=>[(46,.v (.slice (some ⟨q,0,none⟩) ws.length i)),(50,iD (aw xs (pos+2+(n+1:Nat)) (Wd.length:Nat))),(52,iD (aw xs (pos+2+(n+1:Nat)+1) 3)),(53,iD (1+aw xs (pos+2+(n+1:Nat)+1) 3)),(54,.v (.pointer (some ⟨q,0+(aw xs (pos+2+(n+1:Nat)) (Wd.length:Nat)).toNat*1,none⟩)))]) (λ_=>(q,.cells 3 (l.set c (iD (1+aw xs (pos+2+(n+1:Nat)+1) 3))))::[aC bm xs (pos+2+(n+1:Nat)+1+1),(b,.cells 81 (bK ⟨ji,nE,nE,3,0,0,[],[]⟩ (.sl 1 Wd) (.v (.slice (some ⟨q,0,none⟩) ws.length i))))]) (λ_=>True) (by decide +kernel) ?_ ?_
    .repeat' first|refine bv ?_|intro b;conv=>whnf
     repeat' first|refine bv ?_|intro b;conv=>whnf|(refine And.intro ?_ ?_<;>(conv=>whnf))|((refine bc (ev xs hx bm _ _ ⟨by omega,by omega⟩) (zH ([aC bm xs _]++_)) (λs'=>s'++_) (λs'=>zH _) ?_);(rintro _ _ ⟨rfl,rfl⟩))|((refine bc (ev xs hx bm _ _ ⟨by omega,by omega⟩) (show List.Perm (_::aC bm xs _::_) ([aC bm xs _]++(_::_)) from List.Perm.swap _ _ _) (λs'=>s'++(_::_)) (λs'=>zH _) ?_);(rintro _ _ ⟨rfl,rfl⟩))|(refine Sv.cellm (tb:=3) (cs:=l) (cs':=l.set c (iD (1+aw xs (pos+2+(n+1:Nat)+1) 3))) (τ:=[aC bm xs (pos+2+(n+1:Nat)+1+1),(b,.cells 81 (bK ⟨ji,nE,nE,3,0,0,[],[]⟩ (.sl 1 Wd) (.v (.slice (some ⟨q,0,none⟩) ws.length i))))]) cl6 (by rw[J,dW];exact K) rfl (by rw[J,dW]) ?_)
     all_goals exact⟨(),(aj aQ),rfl,trivial⟩
    .rintro - -;have t:=F (1+aw xs (pos+2+(n+1:Nat)+1) 3);generalize aw xs (pos+2+(n+1:Nat)+1) 3=E at *;have U:Wd=([qp,P7,iH].take (n+1)).map λx=>[sD x]:=by
      rw[←Z,show(1+(n:Int)).toNat=n+1 by omega,vR];rfl
     repeat' first|refine bv ?_|intro b;conv=>whnf
     rw[U];have hs:∀x,x∈aS [aC bm xs (pos+2+(n+1:Nat)+1+1)]->x∈aS ((q,aB.cells 3 (l.set c (iD (1+E))))::[aC bm xs (pos+2+(n+1:Nat)+1+1),(b,.cells 81 (bK ⟨ji,nE,nE,3,0,0,[],[]⟩ (.sl 1 (([qp,P7,iH].take (n+1)).map λx=>[sD x])) (.v (.slice (some ⟨q,0,none⟩) ws.length i))))]):=λx h=>by simp[aS]at h⊢;exact .inr (.inl h)
     refine Rt.by (Vs.vd ⟨[(q,aB.cells 3 (l.set c (iD (1+E)))),(b,.cells 81 (bK ⟨ji,nE,nE,3,0,0,[],[]⟩ (.sl 1 (([qp,P7,iH].take (n+1)).map λx=>[sD x])) (.v (.slice (some ⟨q,0,none⟩) ws.length i))))],by(refine gz λa=>?_;simp only[List.append_eq,List.nil_append,gy,hY,gO,NX,PM,iD,bD];omega)⟩ (Vd.sl hs (.cons (.cons (Vd.same hs _) (.cons (Vd.same hs _) (.cons (Vd.same hs _) (.cons (Vd.same hs _) (.cons (Vd.same hs _) (.cons (Vd.same hs _) (.cons (Vd.same hs _) (.cons (Vd.row t (zH _) (λx h=>by simp[aS]at h⊢;exact .inl h)) .nil)))))))) .nil))) ⟨_,_,⟨?_,?_⟩,rfl,rfl,aG.tag (n+1) (ws.set c (1+E)) ⟨by omega,by omega⟩ (by rw[yR];omega) (λz y=>?_) ⟨1+E,?_,by omega⟩⟩
     .omega
     .omega
     .rcases yZ y with h|rfl
      .exact P z h
      .omega
     .exact List.mem_set I _
 by_cases e2:r=2
 .repeat' first|refine bv ?_|intro b;conv=>whnf
  (refine bc (EN xs hx bm _ _ ⟨by omega,by omega⟩) (zH ([aC bm xs _]++_)) (λs'=>s'++_) (λs'=>zH _) ?_)
  rintro _ _ ⟨a,rfl,⟨T,e⟩,rfl⟩;have e:=e (by omega)
  repeat' first|refine bv ?_|intro b;conv=>whnf
  have hb:=de xs (pos+1+1) 60;have f:=hb.2 (by omega);refine ja ?_;refine Ks mixed ai rfl [0,2] 5 (.two 1 (.one 3 (.one 4 (.one 5 (.one 6 .done)))) 3 (.one 1 (.one 4 (.one 5 (.one 6 .done))))) (γ:=Unit) (λ_=>[(64,iD (a-200)),(66,iD (aw xs (pos+1+1) 60)),(67,iD (a-200+aw xs (pos+1+1) 60)),(68,.v (.pointer (some ⟨b,0+5,none⟩)))]) (λ_=>[aC bm xs (pos+1+1+1),(b,.cells 81 (bK ⟨o4,nE,nE,4,a-200,a-200+aw xs (pos+1+1) 60,[],[]⟩ aP aP))]) (λ_=>True) (by decide +kernel) ?_ ?_
  .exact YP
  .rintro - -;generalize aw xs (pos+1+1) 60=B at *;have hc:=de xs (pos+1+1+1) 3;have j:=hc.2 (by omega);have X:=de xs (pos+1+1+1+1) 30;have u:=X.2 (by omega)
   repeat' first|refine bv ?_|intro b;conv=>whnf
   (refine Dr.r ?_;refine W.mk ?_)
   refine Ks mixed ai rfl [1,3] 7 (.two 0 (.one 2 (.one 4 (.one 5 (.one 6 (.one 7 (.one 8 .done)))))) 2 (.two 0 (.one 4 (.one 5 (.one 6 (.one 7 (.one 8 .done))))) 4 (.two 0 (.one 5 (.one 6 (.one 7 (.one 8 .done)))) 5 (.two 0 (.one 6 (.one 7 (.one 8 .done))) 6 (.one 0 (.one 7 (.one 8 .done))))))) (γ:=Unit) (λ_=>[(2,.sl 8 [bK ⟨o4,nE,nE,4,a-200,a-200+B,[],[]⟩ aP aP,bK ⟨sN,o4,nE,4,aw xs (pos+1+1+1) 3,3+aw xs (pos+1+1+1+1) 30,[],[]⟩ aP aP])]) (λ_=>[aC bm xs (pos+1+1+1+1+1),(b,.cells 81 (bK ⟨o4,nE,nE,4,a-200,a-200+B,[],[]⟩ aP aP))]) (λ_=>True) (by decide +kernel) ?_ ?_
   .exact YP
   .rintro - -;generalize aw xs (pos+1+1+1) 3=C at *;generalize aw xs (pos+1+1+1+1) 30=E at *
    repeat' first|refine bv ?_|intro b;conv=>whnf
    have hs:∀x,x∈aS [aC bm xs (pos+1+1+1+1+1)]->x∈aS [aC bm xs (pos+1+1+1+1+1),(b,.cells 81 (bK ⟨o4,nE,nE,4,a-200,a-200+B,[],[]⟩ aP aP))]:=λx h=>by simp[aS]at h⊢;exact .inl h
    exact Rt.by (Vs.vd ⟨[_],List.Perm.swap _ _ _⟩ (Vd.sl hs (by repeat'(first|exact oI.nil|exact ka.nil|refine oI.cons ?_ ?_|refine ka.cons ?_ ?_|exact Vd.nil _|exact Vd.same hs _)))) ⟨_,_,⟨by omega,by omega⟩,rfl,rfl,aG.born (a-200) B C E ⟨by omega,by omega⟩ ⟨by omega,by omega⟩ ⟨by omega,by omega⟩ ⟨by omega,by omega⟩⟩
 by_cases e3:r=3
 .repeat' first|refine bv ?_|intro b;conv=>whnf
  (refine bc (EN xs hx bm _ _ ⟨by omega,by omega⟩) (zH ([aC bm xs _]++_)) (λs'=>s'++_) (λs'=>zH _) ?_)
  rintro _ _ ⟨a,rfl,⟨T,e⟩,rfl⟩;have e:=e (by omega)
  repeat' first|refine bv ?_|intro b;conv=>whnf
  (refine bc (EN xs hx bm _ _ ⟨by omega,by omega⟩) (zH ([aC bm xs _]++_)) (λs'=>s'++_) (λs'=>zH _) ?_)
  rintro _ _ ⟨b,rfl,⟨hb,f⟩,rfl⟩;have f:=f (by omega)
  repeat' first|refine bv ?_|intro b;conv=>whnf
  exact Rt.by (Vs.vd ⟨[],zH _⟩ (Vd.sl (λ_ h=>h) cl9)) ⟨_,_,⟨by omega,by omega⟩,rfl,rfl,aG.state a b ⟨by omega,by omega⟩ ⟨by omega,by omega⟩⟩
 by_cases e4:r=4
 .repeat' first|refine bv ?_|intro b;conv=>whnf
  (refine bc (EN xs hx bm _ _ ⟨by omega,by omega⟩) (zH ([aC bm xs _]++_)) (λs'=>s'++_) (λs'=>zH _) ?_)
  rintro _ _ ⟨a,rfl,⟨T,e⟩,rfl⟩;have e:=e (by omega)
  repeat' first|refine bv ?_|intro b;conv=>whnf
  (refine bc (EN xs hx bm _ _ ⟨by omega,by omega⟩) (zH ([aC bm xs _]++_)) (λs'=>s'++_) (λs'=>zH _) ?_)
  rintro _ _ ⟨b,rfl,⟨hb,f⟩,rfl⟩;have f:=f (by omega)
  repeat' first|refine bv ?_|intro b;conv=>whnf
  (refine bc (EN xs hx bm _ _ ⟨by omega,by omega⟩) (zH ([aC bm xs _]++_)) (λs'=>s'++_) (λs'=>zH _) ?_)
  rintro _ _ ⟨c,rfl,⟨hc,j⟩,rfl⟩;have j:=j (by omega)
  repeat' first|refine bv ?_|intro b;conv=>whnf
  (refine bc (EN xs hx bm _ _ ⟨by omega,by omega⟩) (zH ([aC bm xs _]++_)) (λs'=>s'++_) (λs'=>zH _) ?_)
  rintro _ _ ⟨d,rfl,⟨X,u⟩,rfl⟩;have u:=u (by omega)
  repeat' first|refine bv ?_|intro b;conv=>whnf
  exact Rt.by (Vs.vd ⟨[],zH _⟩ (Vd.sl (λ_ h=>h) cl9)) ⟨_,_,⟨by omega,by omega⟩,rfl,rfl,aG.low a b c d ⟨by omega,by omega⟩ ⟨by omega,by omega⟩ ⟨by omega,by omega⟩ ⟨by omega,by omega⟩⟩
 .repeat' first|refine bv ?_|intro b;conv=>whnf
  exact Rt.by (Vs.vd ⟨[],zH _⟩ (Vd.nil 8)) ⟨_,_,⟨by omega,by omega⟩,rfl,rfl,aG.none⟩
end
section
open Go
abbrev P9:ByteArray:=⟨#[111,114,100,101,114]⟩
abbrev Mn:ByteArray:=⟨#[109,111,115,116]⟩
abbrev MO:ByteArray:=⟨#[108,101,97,115,116]⟩
inductive cv(k:au):cI->Prop
 |low (n:Int) (h:0<=gN k.fields gp) (hn:0<=n/\n<8):cv k ⟨P9++k.name.extract 0 1,k.name,gp,eR,n-2⟩
 |most (f:am) (n:Int) (h:0<=gN k.fields bp) (hf:k.fields[(gN k.fields bp).toNat]?=some f) (hn:0<=n/\n<12):cv k ⟨Mn++k.name.extract 0 1,k.name,bp,nE,f.lo+n⟩
 |least (f:am) (n:Int) (h:0<=gN k.fields bp) (hf:k.fields[(gN k.fields bp).toNat]?=some f) (hn:0<=n/\n<12):cv k ⟨MO++k.name.extract 0 1,k.name,nE,bp,n-f.hi⟩
theorem cY{A B:Prop}(k:B)(h:ar B->A:=by intro q7;(first|refine bC ?_|refine Tk ?_|(refine' ah ?hc ?_;(case hc=>exact aO4 _ _ hfl)));exact q7.1):A:=h ⟨k⟩
theorem D6{p:Prop}(h:p:=by
 repeat' first|refine cY ?_|intro b;conv=>whnf|((with_reducible refine Sd.go ?qs8 ?_);(case qs8=>(rw[hex];decide)))|(refine And.intro ?_ ?_<;>(conv=>whnf))|((refine bc (ev xs hx bm _ _ ⟨by omega,by omega⟩) (zH ([aC bm xs _]++_)) (λs'=>s'++_) (λs'=>zH _) ?_);(rintro _ _ ⟨rfl,rfl⟩))|((refine bc (ev xs hx bm _ _ ⟨by omega,by omega⟩) (show List.Perm (_::aC bm xs _::_) ([aC bm xs _]++(_::_)) from List.Perm.swap _ _ _) (λs'=>s'++(_::_)) (λs'=>zH _) ?_);(rintro _ _ ⟨rfl,rfl⟩))
 all_goals exact⟨(),(aj aQ),rfl,trivial⟩):p:=h
theorem BW(xs:List Int)(hx:ef xs)(bm:Nat)(pos:Int)(G:0<=pos/\pos<=100000000)(k:au)(hfl:k.fields.length<=1000000)(C:1<=k.name.size/\k.name.size<=12)(i:∀f∈k.fields,(-100000<=f.lo/\f.lo<=100000)/\(-100000<=f.hi/\f.hi<=100000)) :
  az prog 32 [ptr bm,fF k] [aC bm xs pos] (λd σ=>∃a r ok,(pos<=a/\a<=pos+20)/\d= .tup [eM r,bD ok]/\σ=[aC bm xs a]/\(ok=true->cv k r)):=by
 have hex:(k.name.extract 0 (1:Int).toNat).size=1:=by
  rw[show(1:Int).toNat=1 from rfl,ByteArray.size_extract];omega
 refine cP func32 ntmps32 λI=>?_
 repeat' first|refine cY ?_|intro b;conv=>whnf
 generalize b=e;have fin:∀(a:Int)(r:cI)(ok:Bool)(ρ:af),[aC bm xs a].Sublist ρ->(pos<=a/\a<=pos+20)->(ok=true->cv k r)->Rt (λd σ=>∃a r ok,(pos<=a/\a<=pos+20)/\d= .tup [eM r,bD ok]/\σ=[aC bm xs a]/\(ok=true->cv k r)) (.tup [eM r,bD ok]) ρ:=λa r ok ρ h0 h1 h2=>Rt.by (Vs.drop h0) ⟨_,_,_,h1,rfl,rfl,h2⟩
 by_cases hl:0<=gN k.fields gp
 .have F:=de xs pos 3;have E:=F.2 (by omega)
  repeat' first|refine cY ?_|intro b;conv=>whnf
  ((refine bc (ev xs hx bm _ _ ⟨by omega,by omega⟩) (show List.Perm (_::aC bm xs _::_) ([aC bm xs _]++(_::_)) from List.Perm.swap _ _ _) (λs'=>s'++(_::_)) (λs'=>zH _) ?_);(rintro _ _ ⟨rfl,rfl⟩))
  by_cases hpos:0<aw xs pos 3
  .have hb:=de xs (pos+1) 8;have D:=hb.2 (by omega)
   repeat' first|refine cY ?_|intro b;conv=>whnf
   refine ja ?_;refine Ks mixed ai rfl [0,1,2,3,4,5,6] 5 (.one 7 (.one 8 (.one 9 (.one 10 (.one 11 .done))))) (γ:=Unit) (λ_=>[(5,bD true),(29,iD (aw xs (pos+1) 8)),(30,iD (aw xs (pos+1) 8-2)),(31,eM ⟨P9++k.name.extract 0 1,k.name,gp,eR,aw xs (pos+1) 8-2⟩)]) (λ_=>[aC bm xs (pos+1+1),(e,.cells 96 (dI ⟨P9++k.name.extract 0 1,k.name,gp,eR,aw xs (pos+1) 8-2⟩))]) (λ_=>True) (by decide +kernel) ?_ ?_
   .exact D6
   .rintro - -
    repeat' first|refine cY ?_|intro b;conv=>whnf
    refine nd ai (m:=1) rfl rfl rfl rfl rfl rfl rfl ?_
    repeat' first|refine cY ?_|intro b;conv=>whnf
    exact fin _ ⟨P9++k.name.extract 0 1,k.name,gp,eR,aw xs (pos+1) 8-2⟩ true _ (.cons_cons _ (yV _)) ⟨by omega,by omega⟩ (λ_=>cv.low _ hl ⟨by omega,by omega⟩)
  .generalize z:pos+1=q;have y:pos<=q/\q<=pos+1:=⟨by omega,by omega⟩
   clear z;by_cases hs:gN k.fields bp<0
   .repeat' first|refine cY ?_|intro b;conv=>whnf
    first
     |refine nd ai (m:=1) rfl rfl rfl rfl rfl rfl rfl ?_
     |refine nd ai (m:=0) rfl rfl rfl rfl rfl rfl rfl ?_
    repeat' first|refine cY ?_|intro b;conv=>whnf
    refine fin q ⟨nE,nE,nE,nE,0⟩ false _ ?_ ⟨by omega,by omega⟩ (λh=>by cases h)
    first
     |exact .cons_cons _ (yV _)
     |exact .cons _ (.cons_cons _ (yV _))
   .have j:gN k.fields bp<k.fields.length:=FK _ _;have x:0<=gN k.fields ⟨#[115,105,122,101]⟩:=Int.not_lt.1 hs;obtain⟨f,g⟩:∃f,k.fields[(gN k.fields bp).toNat]?=some f:=⟨_,zD (by omega)⟩
    obtain⟨⟨s,o⟩,n,l⟩:=i f (zG g);have hc:=de xs q 2;have w:=de xs (q+1) 12;have u:=w.2 (by omega)
    repeat' first|refine cY ?_|intro b;conv=>whnf
    refine bc (t:=[(b,.cells 81 (aH f)),(e,.cells 96 [.v (zv ZV.str),.v (zv ZV.str),.v (zv ZV.str),.v (zv ZV.str),.v (zv (ZV.int IntKind.i64))])]) (ev xs hx bm q 2 ⟨by omega,by omega⟩) ?hpm (λs'=>s'++[(b,.cells 81 (aH f)),(e,.cells 96 [.v (zv ZV.str),.v (zv ZV.str),.v (zv ZV.str),.v (zv ZV.str),.v (zv (ZV.int IntKind.i64))])]) (λs'=>zH _) ?_
    case hpm=>
     first
      |exact List.Perm.swap _ _ _
      |exact(List.Perm.cons _ (List.Perm.swap _ _ _)).trans (List.Perm.swap _ _ _)
    rintro _ _ ⟨rfl,rfl⟩;by_cases hz:aw xs q 2=0
    .repeat' first|refine cY ?_|intro b;conv=>whnf
     refine ja ?_;refine Ks mixed ai rfl [0,1,2,3,4,5,6,8] 6 (.two 7 (.one 9 (.one 10 (.one 11 (.one 12 (.one 13 .done))))) 9 (.one 7 (.one 10 (.one 11 (.one 12 (.one 13 .done)))))) (γ:=Unit) (λ_=>[(5,bD true),(50,iD f.lo),(52,iD (aw xs (q+1) 12)),(53,iD (f.lo+aw xs (q+1) 12)),(54,eM ⟨Mn++k.name.extract 0 1,k.name,bp,nE,f.lo+aw xs (q+1) 12⟩)]) (λ_=>[aC bm xs (q+1+1),(b,.cells 81 (aH f)),(e,.cells 96 (dI ⟨Mn++k.name.extract 0 1,k.name,bp,nE,f.lo+aw xs (q+1) 12⟩))]) (λ_=>True) (by decide +kernel) ?_ ?_
     .exact D6
     .rintro - -
      repeat' first|refine cY ?_|intro b;conv=>whnf
      refine nd ai (m:=2) rfl rfl rfl rfl rfl rfl rfl ?_
      repeat' first|refine cY ?_|intro b;conv=>whnf
      exact fin _ ⟨Mn++k.name.extract 0 1,k.name,bp,nE,f.lo+aw xs (q+1) 12⟩ true _ (.cons_cons _ (yV _)) ⟨by omega,by omega⟩ (λ_=>cv.most f _ (by omega) g ⟨by omega,by omega⟩)
    .repeat' first|refine cY ?_|intro b;conv=>whnf
     refine ja ?_;refine Ks mixed ai rfl [0,1,2,3,4,5,6,8] 6 (.two 7 (.one 9 (.one 10 (.one 11 (.one 12 (.one 13 .done))))) 9 (.one 7 (.one 10 (.one 11 (.one 12 (.one 13 .done)))))) (γ:=Unit) (λ_=>[(5,bD true),(64,iD f.hi),(62,iD (aw xs (q+1) 12)),(65,iD (aw xs (q+1) 12-f.hi)),(66,eM ⟨MO++k.name.extract 0 1,k.name,nE,bp,aw xs (q+1) 12-f.hi⟩)]) (λ_=>[aC bm xs (q+1+1),(b,.cells 81 (aH f)),(e,.cells 96 (dI ⟨MO++k.name.extract 0 1,k.name,nE,bp,aw xs (q+1) 12-f.hi⟩))]) (λ_=>True) (by decide +kernel) ?_ ?_
     .exact D6
     .rintro - -
      repeat' first|refine cY ?_|intro b;conv=>whnf
      refine nd ai (m:=2) rfl rfl rfl rfl rfl rfl rfl ?_
      repeat' first|refine cY ?_|intro b;conv=>whnf
      exact fin _ ⟨MO++k.name.extract 0 1,k.name,nE,bp,aw xs (q+1) 12-f.hi⟩ true _ (.cons_cons _ (yV _)) ⟨by omega,by omega⟩ (λ_=>cv.least f _ (by omega) g ⟨by omega,by omega⟩)
 .skip
  by_cases hs:gN k.fields bp<0
  .repeat' first|refine cY ?_|intro b;conv=>whnf
   first
    |refine nd ai (m:=1) rfl rfl rfl rfl rfl rfl rfl ?_
    |refine nd ai (m:=0) rfl rfl rfl rfl rfl rfl rfl ?_
   repeat' first|refine cY ?_|intro b;conv=>whnf
   refine fin pos ⟨nE,nE,nE,nE,0⟩ false _ ?_ ⟨by omega,by omega⟩ (λh=>by cases h)
   first
    |exact .cons_cons _ (yV _)
    |exact .cons _ (.cons_cons _ (yV _))
  .have j:gN k.fields bp<k.fields.length:=FK _ _;have x:0<=gN k.fields ⟨#[115,105,122,101]⟩:=Int.not_lt.1 hs;obtain⟨f,g⟩:∃f,k.fields[(gN k.fields bp).toNat]?=some f:=⟨_,zD (by omega)⟩
   obtain⟨⟨s,o⟩,n,l⟩:=i f (zG g);have hc:=de xs pos 2;have w:=de xs (pos+1) 12;have u:=w.2 (by omega)
   repeat' first|refine cY ?_|intro b;conv=>whnf
   refine bc (t:=[(b,.cells 81 (aH f)),(e,.cells 96 [.v (zv ZV.str),.v (zv ZV.str),.v (zv ZV.str),.v (zv ZV.str),.v (zv (ZV.int IntKind.i64))])]) (ev xs hx bm pos 2 ⟨by omega,by omega⟩) ?hpm (λs'=>s'++[(b,.cells 81 (aH f)),(e,.cells 96 [.v (zv ZV.str),.v (zv ZV.str),.v (zv ZV.str),.v (zv ZV.str),.v (zv (ZV.int IntKind.i64))])]) (λs'=>zH _) ?_
   case hpm=>
    first
     |exact List.Perm.swap _ _ _
     |exact(List.Perm.cons _ (List.Perm.swap _ _ _)).trans (List.Perm.swap _ _ _)
   rintro _ _ ⟨rfl,rfl⟩;by_cases hz:aw xs pos 2=0
   .repeat' first|refine cY ?_|intro b;conv=>whnf
    refine ja ?_;refine Ks mixed ai rfl [0,1,2,3,4,5,6,8] 6 (.two 7 (.one 9 (.one 10 (.one 11 (.one 12 (.one 13 .done))))) 9 (.one 7 (.one 10 (.one 11 (.one 12 (.one 13 .done)))))) (γ:=Unit) (λ_=>[(5,bD true),(50,iD f.lo),(52,iD (aw xs (pos+1) 12)),(53,iD (f.lo+aw xs (pos+1) 12)),(54,eM ⟨Mn++k.name.extract 0 1,k.name,bp,nE,f.lo+aw xs (pos+1) 12⟩)]) (λ_=>[aC bm xs (pos+1+1),(b,.cells 81 (aH f)),(e,.cells 96 (dI ⟨Mn++k.name.extract 0 1,k.name,bp,nE,f.lo+aw xs (pos+1) 12⟩))]) (λ_=>True) (by decide +kernel) ?_ ?_
    .exact D6
    .rintro - -
     repeat' first|refine cY ?_|intro b;conv=>whnf
     refine nd ai (m:=2) rfl rfl rfl rfl rfl rfl rfl ?_
     repeat' first|refine cY ?_|intro b;conv=>whnf
     exact fin _ ⟨Mn++k.name.extract 0 1,k.name,bp,nE,f.lo+aw xs (pos+1) 12⟩ true _ (.cons_cons _ (yV _)) ⟨by omega,by omega⟩ (λ_=>cv.most f _ (by omega) g ⟨by omega,by omega⟩)
   .repeat' first|refine cY ?_|intro b;conv=>whnf
    refine ja ?_;refine Ks mixed ai rfl [0,1,2,3,4,5,6,8] 6 (.two 7 (.one 9 (.one 10 (.one 11 (.one 12 (.one 13 .done))))) 9 (.one 7 (.one 10 (.one 11 (.one 12 (.one 13 .done)))))) (γ:=Unit) (λ_=>[(5,bD true),(64,iD f.hi),(62,iD (aw xs (pos+1) 12)),(65,iD (aw xs (pos+1) 12-f.hi)),(66,eM ⟨MO++k.name.extract 0 1,k.name,nE,bp,aw xs (pos+1) 12-f.hi⟩)]) (λ_=>[aC bm xs (pos+1+1),(b,.cells 81 (aH f)),(e,.cells 96 (dI ⟨MO++k.name.extract 0 1,k.name,nE,bp,aw xs (pos+1) 12-f.hi⟩))]) (λ_=>True) (by decide +kernel) ?_ ?_
    .exact D6
    .rintro - -
     repeat' first|refine cY ?_|intro b;conv=>whnf
     refine nd ai (m:=2) rfl rfl rfl rfl rfl rfl rfl ?_
     repeat' first|refine cY ?_|intro b;conv=>whnf
     exact fin _ ⟨MO++k.name.extract 0 1,k.name,nE,bp,aw xs (pos+1) 12-f.hi⟩ true _ (.cons_cons _ (yV _)) ⟨by omega,by omega⟩ (λ_=>cv.least f _ (by omega) g ⟨by omega,by omega⟩)
end
section
open Go
abbrev OB:ByteArray:=⟨#[105,100]⟩
abbrev yl:ByteArray:=⟨#[111,102]⟩
abbrev jM:ByteArray:=⟨#[115,97,109,101]⟩
abbrev jN:ByteArray:=⟨#[112,97,114,116]⟩
abbrev oZ:ByteArray:=⟨#[116,111,116,97,108]⟩
abbrev Lu:ByteArray:=⟨#[98,121]⟩
abbrev sM:ByteArray:=⟨#[112,101,114,115,111,110]⟩
abbrev Lr:ByteArray:=⟨#[105,116,101,109]⟩
def bu(n:Nat):ByteArray:=[sM,P9,Lr].getD n nE
def cV(lo:Int):am:=⟨OB,nE,nE,0,lo,0,[],[]⟩
def ic(k:au)(lo h:Int):am:=⟨yl,k.name,nE,1,lo,h,[],[]⟩
def ig(nm:ByteArray):am:=⟨jM,nm,yl,8,0,0,[],[]⟩
def fu(a b:Int):am:=⟨jN,oZ,yl,7,a,a+b,[],[]⟩
def bi(nm:ByteArray):am:=⟨oZ,nm,nE,6,0,0,[],[]⟩
def Jw(k:au):am:=⟨Lu,k.name,nE,1,0,8,[],[]⟩
inductive gC(ks:List au)(nm:ByteArray):List am->List au->Prop
 |none (h:ks=[]):gC ks nm [] ks
 |of (tw0:Nat) (y:au) (lo hi:Int) (sm:List am) (hy:ks[tw0]?=some y) (hl:lo=0\/lo=1) (hh:hi∈[4,3,8,2]) (hs:sm=[]\/∃g,0<=oX y/\y.fields[(oX y).toNat]?=some g/\sm=[ig g.name]):gC ks nm (ic y lo hi::sm) ks
 |part (tw0:Nat) (y:au) (lo hi a b:Int) (sm:List am) (hy:ks[tw0]?=some y) (hl:lo=0\/lo=1) (hh:hi∈[4,3,8,2]) (hs:sm=[]\/∃g,0<=oX y/\y.fields[(oX y).toNat]?=some g/\sm=[ig g.name])
   (ht:gN y.fields oZ<0) (ha:0<=a/\a<3) (hb:0<=b/\b<8):gC ks nm (ic y lo hi::(sm++[fu a b])) (ks.set tw0 ⟨y.name,y.lo,y.hi,y.fields++[bi nm]⟩)
structure iZ(ks:List au)(k:au)(ks':List au):Prop where
 ex:∃lo r idl f1 f2 p1 p2,lo∈[(0:Int),1,2,4,1,2]/\(0<=r/\r<5)/\idl∈[(0:Int),1,100,-3]/\k=⟨bu ks.length,lo,lo+r,cV idl::(f1++(f2++(p1++p2)))⟩/\gC ks (bu ks.length) f1 ks' /\
  (f2=[]\/∃y,ks[0]?=some y/\1<ks.length/\f2=[Jw y])/\aG p1/\aG p2/\(p2=[]\/∃g gs,p2=g::gs/\gN (cV idl::(f1++(f2++p1))) g.name<0)
end
end Go.Proofs.YtilnpcolgcmofaaGreatDoor
