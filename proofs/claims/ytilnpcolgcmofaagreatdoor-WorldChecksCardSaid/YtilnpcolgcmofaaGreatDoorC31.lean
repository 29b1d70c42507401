/- A part of the proof. -/
import Derived.Test.YtilnpcolgcmofaaGreatDoorC29
import Derived.Test.YtilnpcolgcmofaaGreatDoorC30
set_option maxRecDepth 100000
set_option maxHeartbeats 20000000
set_option linter.all false
namespace Go.Proofs.YtilnpcolgcmofaaGreatDoor
open Tryz
section
open Go
abbrev N9:dZ (List eZ):=λl v s=>ab 107 4 (l.map aS) v s
def pz{α:Type}{g:Nat->List α}{m n:Nat}(h:∀i,(g i).length<=m)(q:Nat)(a:q<=n):(am q g).length<=n*m:=xH (fa h q) (xZ m a)
def IC(x:ak)(k:Nat)(kd:aq)(i:Nat)(r:List Int)(q:Nat):(fi x k kd i r q).length<=1:=by unfold fi;split;exact Ad ..;simp
def jc{A B:Prop}(k:B)(h:ar B->A:=by intro q7;(first|refine bc ?_|refine aE ?_|(refine' aj ?hc ?_;(case hc=>first|exact HR|exact HK|exact HP)));exact q7.1):A:=h ⟨k⟩
variable{p:Prop}
def Fc(h:p:=by
 repeat refine jc ?_
 exact⟨(q+1,v,s),(ah av),Sc.refl _,⟨by simp only;omega,by simp only;rw[hsn];exact hrow⟩,by simp only;omega⟩):p:=h
def Ng(h:p:=by
 repeat refine jc ?_
 exact⟨(q+1,_,s'),(ah av),Sc.refl _,⟨by simp only;omega,hrow⟩,by simp only;omega⟩):p:=h
def IQ(x:ak)(G:dJ x=[])(w:Wd)(O:Ws w)(t:cL x w=true)(k i:Nat)(kd:aq)(f:x.kz[k]?=some kd)(l:List (List Int))(r:List Int)(hl:w[k]?=some l)(y:l[i]?=some r):APure prog 47 [aw x,fI w,iD k,iD i] (.sl 4 ((dX x w k kd l i).map aS)):=by
 have V:=(Ft G).vld;have T:=V.nk;have S:=V.nr;have U:=V.nf kd (zG f);have I:x.kz.length<=1000000:=by omega
 obtain⟨K,b,E⟩:=GB t;obtain⟨Z,j⟩:=uN (b _ _ hl);have o:=si f (j r (zG y));have hkl:=(zE.1 f).1;have Y:=(zE.1 hl).1;have Q:=(zE.1 y).1;have hk':x.kz[((k:Nat):Int).toNat]?=some kd:=f;have hl':w[((k:Nat):Int).toNat]?=some l:=hl;have R:l[((i:Nat):Int).toNat]?=some r:=y;have D:dX x w k kd l i=am r.length (fQ x w k kd l i r)++am x.rules.length (fi x k kd i r):=by unfold dX;rw[y]
 rw[D];refine ap func47 ntmps47 λBB=>?_
 repeat refine jc ?_
 refine aO mixed ai (γ:=Nat×Value×ae) (λg=>[(10,iD g.1),(9,.v g.2.1)]) (λg=>g.2.2) (λg=>g.1<=r.length/\N9 (am g.1 (fQ x w k kd l i r)) g.2.1 g.2.2) (λg=>r.length-g.1) (0,.slice none 0 0,[]) (ah av) (Sc.refl _) ⟨zW _,ab.nil _ _⟩ ?_;rintro⟨q,v,s⟩ ⟨F,hrow⟩;simp only at F hrow⊢;by_cases hql:q<r.length
 .obtain⟨d,L⟩:∃d,kd.fields[q]?=some d:=⟨_,zD (by omega)⟩
  obtain⟨n,X⟩:∃n,r[q]?=some n:=⟨_,zD hql⟩
  have HR:=wv x G w O t k i q kd d f L l r n hl y X;have hsn:=gE q (fQ x w k kd l i r);have e:fQ x w k kd l i r q=one k i q (ib x w k kd r i q d (jZ kd r (j6 kd l i) q)):=by unfold fQ;rw[L]
  rw[e]at hsn;have C:=pz (Sq x w k kd l i r) (q+1) (show q+1<=10 by omega);generalize ib x w k kd r i q d (jZ kd r (j6 kd l i) q)=J at *;by_cases h0:J=0
  .rw[h0,jl,zZ]at hsn;exact Fc
  .rw[show one (k:Int) i q J=[((k:Int),(i:Int),(q:Int),J)] by unfold one;rw[if_neg h0]]at hsn
   repeat refine jc ?_
   refine Ap.go rfl rfl rfl rfl hrow (bR _) rfl (zs:=(am (q+1) (fQ x w k kd l i r)).map aS) (by rw[hsn,yB];rfl) (by rw[zL];omega) (by rw[zL];omega) (λs'=>s') dF (λa' c' s' hrow=>?_);exact Ng
 obtain rfl:q=r.length:=by omega
 have P:=pz (Sq x w k kd l i r) r.length (show r.length<=10 by omega);generalize am r.length (fQ x w k kd l i r)=M at *
 repeat refine jc ?_
 refine aO mixed ai (γ:=Nat×Value×ae) (λg=>[(12,iD g.1),(9,.v g.2.1)]) (λg=>g.2.2) (λg=>g.1<=x.rules.length/\N9 (M++am g.1 (fi x k kd i r)) g.2.1 g.2.2) (λg=>x.rules.length-g.1) (0,v,s) (ah av) (Sc.refl _) ⟨zW _,by simp only;rw[ay9,zZ];exact hrow⟩ ?_;rintro⟨q,v,s⟩ ⟨F,hrow⟩;simp only at F hrow⊢;by_cases hql:q<x.rules.length
 .obtain⟨u,a⟩:∃u,x.rules[q]?=some u:=⟨_,zD hql⟩
  have hu:x.rules[((q:Nat):Int).toNat]?=some u:=a;have HK:=An x u.kind I;have hsn:=gE q (fi x k kd i r);have e:fi x k kd i r q=one k i (-1) (if bi x u.kind=(k:Int)/\KB kd r u=false then 24 else 0):=by unfold fi;rw[a]
  rw[e]at hsn;have C:=pz (IC x k kd i r) (q+1) (show q+1<=16 by omega);by_cases hkk:bi x u.kind=(k:Int)
  .obtain⟨ga,gb⟩:=nG G a hkk f;have HP:=Cc kd r u (by omega) o.1 ga gb o.2 (BQ V a)
   cases z:KB kd r u with
   |true=>
    rw[z]at HP hsn;rw[if_neg (by simp),jl,zZ]at hsn;exact Fc
   |false=>
    rw[z]at HP hsn;rw[if_pos ⟨hkk,rfl⟩]at hsn;rw[show one (k:Int) i (-1) 24=[((k:Int),(i:Int),-1,24)] from rfl]at hsn
    repeat refine jc ?_
    refine Ap.go rfl rfl rfl rfl hrow (bR _) rfl (zs:=(M++am (q+1) (fi x k kd i r)).map aS) (by rw[hsn,←zV];simp only[yB];rfl) (by rw[zL,zI];omega) (by rw[zL,zI];omega) (λs'=>s') dF (λa' c' s' hrow=>?_);exact Ng
  .rw[if_neg (λh=>hkk h.1),jl,zZ]at hsn;exact Fc
 .obtain rfl:q=x.rules.length:=by omega
  repeat refine jc ?_
  exact Rt.vs (Vs.row hrow (bR _))
def o8(x:ak)(w:Wd)(r:Rf):List eZ:=am (w.getD r.up.toNat []).length (eD x w r)
def FS(x:ak)(w:Wd)(k:Nat)(kd:aq)(f:Nat):List eZ:=(dL x k kd f).flatMap (o8 x w)
def Ks(x:ak)(w:Wd)(k:Nat):List eZ:=match x.kz[k]? with
 |some kd=>am kd.fields.length (FS x w k kd)
 |none=>[]
def be7{α β:Type}(L:List α)(g:α->List β):∀q,q<=L.length->am q (λq=>(L[q]?).elim [] g)=(L.take q).flatMap g
 |0,_=>rfl
 |q+1,h=>by
  rw[gE,be7 L g q (by omega),xC,List.flatMap_append]
  congr 1
  rw[zD (by omega)];simp
def be8{α β:Type}(q:Nat)(h:Nat->List α)(g:α->List β):(am q h).flatMap g=am q λk=>(h k).flatMap g:=by
 unfold am;rw[List.flatMap_assoc]
def J'(x:ak)(w:Wd):am (bJ x).length (pm x w)=am x.kz.length (Ks x w):=by
 have h:=be7 (bJ x) (o8 x w) (bJ x).length (zT _);rw[yM]at h;have e:pm x w=λq=>((bJ x)[q]?).elim [] (o8 x w):=by
  funext q;unfold pm o8;cases(bJ x)[q]?<;>rfl
 rw[e,h];unfold bJ;rw[be8]
 congr 1
 funext k
 unfold fL Ks
 cases x.kz[k]? with
 |none=>rfl
 |some kd=>simp only;rw[be8];rfl
def ER(x:ak)(w:Wd)(a:Ws w)(r:Rf):(o8 x w r).length<=1000:=by
 have c:=fa (aG6 x w r) (w.getD r.up.toNat []).length;unfold o8;have b:(w.getD r.up.toNat []).length<=1000:=by
  rw[List.getD_eq_getElem?_getD]
  cases h:w[r.up.toNat]? with
  |none=>simp
  |some l=>exact a.nr l (zG h)
 omega
def kY(x:ak)(w:Wd)(h:Ws w)(k:Nat)(kd:aq)(f:Nat):(FS x w k kd f).length<=1000:=by
 unfold FS;have d:=NL (l:=dL x k kd f) (f:=o8 x w) (c:=1000) (λr _=>ER x w h r);have a:=aZ4 x k kd f;have b:(dL x k kd f).length*1000<=1*1000:=xZ 1000 a;omega
def x8(x:ak)(w:Wd)(a:Ws w)(h:∀k∈x.kz,k.fields.length<=10)(k:Nat):(Ks x w k).length<=10000:=by
 unfold Ks;split
 .rename_i kd b;exact pz (kY x w a k kd) kd.fields.length (h kd (zG b))
 .simp
def fV{A B:Prop}(k:B)(h:ar B->A:=by intro q7;(first|refine bc ?_|refine aE ?_|(refine' aj ?hc ?_;(case hc=>first|exact aU6 (by first|omega|(simp only[zL];omega)) (by first|omega|(simp only[zL];omega))|exact aU8 (by first|omega|(simp only[zL];omega))|exact HU|exact HD)));exact q7.1):A:=h ⟨k⟩
def yf(h:p:=by rw[zL,zI,zI];omega):p:=h
def oc(x:ak)(Z:dJ x=[])(w:Wd)(I:Ws w)(F:cL x w=true):APure prog 48 [aw x,fI w] (.sl 4 ((am (bJ x).length (pm x w)).map aS)):=by
 have U:=Ft Z;have V:=U.vld;have hnk:=V.nk;have O:x.kz.length<=1000000:=by omega
 have E:∀k∈x.kz,k.fields.length<=1000000:=λk P=>by have:=V.nf k P;omega
 obtain⟨S,u,M⟩:=GB F;rw[J'];refine ap func48 ntmps48 λBB=>?_
 repeat' first|refine fV ?_|intro b;conv=>whnf
 refine aO mixed ai (γ:=Nat×Value×ae) (λg=>[(6,iD g.1),(5,.v g.2.1)]) (λg=>g.2.2) (λg=>g.1<=x.kz.length/\N9 (am g.1 (Ks x w)) g.2.1 g.2.2) (λg=>x.kz.length-g.1) (0,.slice none 0 0,[]) (ah av) (Sc.refl _) ⟨zW _,ab.nil _ _⟩ ?_;rintro⟨k,v,s⟩ ⟨P,a⟩;simp only at P a⊢;by_cases hkl:k<x.kz.length
 case neg=>
  obtain rfl:k=x.kz.length:=by omega
  repeat' first|refine fV ?_|intro b;conv=>whnf
  exact Rt.vs (Vs.row a (bR _))
 obtain⟨kd,i⟩:∃y,x.kz[k]?=some y:=⟨_,zD hkl⟩
 have T:x.kz[((k:Nat):Int).toNat]?=some kd:=i;have hnf:=V.nf kd (zG i);obtain⟨l,hl⟩:∃l,w[k]?=some l:=⟨_,zD (by omega)⟩
 obtain⟨_,D⟩:=uN (u _ _ hl);have C:=gE k (Ks x w);rw[show Ks x w k=am kd.fields.length (FS x w k kd) by unfold Ks;rw[i]]at C;have hLk:=pz (x8 x w I V.nf) k (show k<=6 by omega);generalize am k (Ks x w)=L at *
 repeat' first|refine fV ?_|intro b;conv=>whnf
 refine aO mixed ai (γ:=Nat×Value×ae) (λg=>[(7,iD g.1),(5,.v g.2.1)]) (λg=>g.2.2) (λg=>g.1<=kd.fields.length/\N9 (L++am g.1 (FS x w k kd)) g.2.1 g.2.2) (λg=>kd.fields.length-g.1) (0,v,s) (ah av) (Sc.refl _) ⟨zW _,by simp only;rw[ay9,zZ];exact a⟩ ?_;clear a;rintro⟨f,v,s⟩ ⟨hf,a⟩;simp only at hf a⊢;by_cases hfl:f<kd.fields.length
 case neg=>
  obtain rfl:f=kd.fields.length:=by omega
  repeat' first|refine fV ?_|intro b;conv=>whnf
  exact⟨(k+1,v,s),(ah av),Sc.refl _,⟨by simp only;omega,by simp only;rw[C];exact a⟩,by simp only;omega⟩
 obtain⟨d,G⟩:∃y,kd.fields[f]?=some y:=⟨_,zD hfl⟩
 have hd':kd.fields[((f:Nat):Int).toNat]?=some d:=G;have r:=gE f (FS x w k kd);by_cases h1:d.kind=1
 case neg=>
  rw[show FS x w k kd f=[] by unfold FS dL;rw[G];simp[h1],zZ]at r
  repeat' first|refine fV ?_|intro b;conv=>whnf
  exact⟨(f+1,v,s),(ah av),(Sc.sl (yG _ _)),⟨by simp only;omega,by simp only;rw[r];exact a⟩,by simp only;omega⟩
 have z:=U.up _ (aM6 i G h1);simp only at z;obtain⟨o,Q⟩:∃o:Nat,aG x k f=o:=⟨(aG x k f).toNat,by omega⟩
 have HU:=FA x k f O E;rw[Q]at HU z;obtain⟨t,e⟩:∃l,w[o]?=some l:=⟨_,zD (by omega)⟩
 have hlo:w[((o:Nat):Int).toNat]?=some t:=e;have R:=I.nr t (zG e);have hol:=(zE.1 e).1;rw[show FS x w k kd f=am t.length (eD x w ⟨k,f,o,d.lo⟩) by
  unfold FS dL;rw[G];simp only[h1,if_true,Q,List.flatMap_cons,List.flatMap_nil,zZ];unfold o8;simp only[Int.toNat_natCast];rw[cw e]]at r
 have hLf:=pz (kY x w I k kd) f (show f<=10 by omega);generalize am f (FS x w k kd)=J at *
 repeat' first|refine fV ?_|intro b;conv=>whnf
 obtain⟨b8,rfl⟩:∃c,c=b:=⟨_,rfl⟩
 refine aO mixed ai (γ:=Nat×Value×ae) (λg=>[(9,iD g.1),(5,.v g.2.1)]) (λg=>(b8,.cells 81 (aA d))::g.2.2) (λg=>g.1<=t.length/\N9 (L++J++am g.1 (eD x w ⟨k,f,o,d.lo⟩)) g.2.1 g.2.2) (λg=>t.length-g.1) (0,v,s) (ah av) (Sc.refl _) ⟨zW _,by simp only;rw[ay9,zZ];exact a⟩ ?_;clear a;rintro⟨j,v,s⟩ ⟨hj,a⟩;simp only at hj a⊢;by_cases hjl:j<t.length
 case neg=>
  obtain rfl:j=t.length:=by omega
  repeat' first|refine fV ?_|intro b;conv=>whnf
  exact⟨(f+1,v,s),(ah av),(Sc.sl (yG _ _)),⟨by simp only;omega,by simp only;rw[r,←zV];exact a⟩,by simp only;omega⟩
 have HD:=qC w I k f j l hl (λy hy=>by have:=(si i (D y hy)).1;omega);have q:=gE j (eD x w ⟨k,f,o,d.lo⟩);rw[show eD x w ⟨k,f,o,d.lo⟩ j=one k j f (if((l.countP λy=>decide (y.getD f 0=(j:Int)):Nat):Int)<d.lo\/d.hi<((l.countP λy=>decide (y.getD f 0=(j:Int)):Nat):Int)then 11 else 0) by
  unfold eD ES;simp only;rw[uj i G];simp only;rw[cw hl]]at q
 have hLj:=pz (aG6 x w ⟨k,f,o,d.lo⟩) (j+1) (show j+1<=1000 by omega);generalize((l.countP λy=>decide (y.getD f 0=(j:Int)):Nat):Int)=X at *;by_cases hb:X<d.lo\/d.hi<X
 .rw[if_pos hb,show one (k:Int) j f 11=[((k:Int),(j:Int),(f:Int),11)] from rfl]at q;have Y:(L++J++am j (eD x w ⟨k,f,o,d.lo⟩)).map aS++[[iD k,iD j,iD f,iD 11]]=(L++J++am (j+1) (eD x w ⟨k,f,o,d.lo⟩)).map aS:=by
   rw[q,←zV];simp only[yB];rfl
  repeat' first|refine fV ?_|intro b;conv=>whnf
  refine Ap.go rfl rfl rfl rfl a (GN _ _) rfl (zs:=(L++J++am (j+1) (eD x w ⟨k,f,o,d.lo⟩)).map aS) Y yf yf (λK=>_::K) (N5 _) (λa' c' K a=>?_)
  repeat' first|refine fV ?_|intro b;conv=>whnf
  exact⟨(j+1,_,K),(ah av),Sc.refl _,⟨by simp only;omega,a⟩,by simp only;omega⟩
 .rw[if_neg hb,jl,zZ]at q
  repeat' first|refine fV ?_|intro b;conv=>whnf
  exact⟨(j+1,v,s),(ah av),Sc.refl _,⟨by simp only;omega,by simp only;rw[q];exact a⟩,by simp only;omega⟩
end
section
open Go
def bt7:aq:=⟨⟨#[]⟩,0,0,[]⟩
def Gv(x:ak)(k:Nat):aq:=(x.kz[k]?).getD bt7
variable{x:ak}
def l4{k:Nat}{kd:aq}(h:x.kz[k]?=some kd):Gv x k=kd:=by unfold Gv;rw[h];rfl
def jp{k:Nat}(h:k<x.kz.length):x.kz[k]?=some (Gv x k):=by
 obtain⟨kd,d⟩:∃kd,x.kz[k]?=some kd:=⟨_,zD h⟩
 rw[l4 d];exact d
def gh(x:ak)(w:Wd)(k:Nat)(r:List Int)(f:Nat):Bool:=
 dE (r.getD f 0)&&match(Gv x k).fields[f]? with
  |some g=>!(decide (g.kind=1))||(decide (0<=r.getD f 0)&&decide (r.getD f 0<(w.getD (aG x k f).toNat []).length))
  |none=>true
def jW(x:ak)(w:Wd)(k:Nat)(r:List Int):Bool:=decide (r.length=(Gv x k).fields.length)&&(List.range r.length).all (gh x w k r)
variable{w:Wd}
def J2(t:cL x w=true){k:Nat}{l:List (List Int)}(c:w[k]?=some l){r:List Int}(d:r∈l):jW x w k r=true:=by
 obtain⟨n,s,a⟩:=GB t;have e:k<x.kz.length:=by have:=(zE.1 c).1;omega
 have j:=si (jp e) ((uN (s _ _ c)).2 r d);unfold jW;rw[zJ,zQ,yA];refine⟨j.1,λf i=>?_⟩;rw[xT]at i;obtain⟨z,b⟩:∃z,r[f]?=some z:=⟨_,zD i⟩
 have o:=j.2 z (zG b);unfold gh dE;rw[cw b,zJ];refine⟨by simp only[xJ,wA,xF];omega,?_⟩
 cases m:(Gv x k).fields[f]? with
 |none=>rfl
 |some g=>
  by_cases h1:g.kind=1
  .have h:=a _ (aM6 (jp e) m h1) l c r d;unfold p8 at h;simp only at h;rw[cw b]at h;simp only[xJ,wA,xF]at h;simp only[h1,decide_true,Bool.not_true,Bool.false_or,zJ,zQ];omega
  .simp[h1]
def J1(n:w.length=x.kz.length)(t:∀(k:Nat)(l:List (List Int)),w[k]?=some l->l.length<=512)(o:∀(k:Nat)(l:List (List Int)),w[k]?=some l->∀r∈l,jW x w k r=true):cL x w=true:=by
 unfold cL;simp only[zJ,zQ,yA];refine⟨⟨n,λk j=>?_⟩,λe i r c=>?_⟩
 .rw[xT]at j;obtain⟨l,b⟩:∃l,w[k]?=some l:=⟨_,zD j⟩
  rw[cw b];unfold r0;rw[zJ,zQ,yA];refine⟨t k l b,λr c=>?_⟩;have h:=o k l b r c;unfold jW at h;rw[zJ,zQ,yA]at h;unfold dT tZ;rw[jp (by omega:k<x.kz.length),zJ,zQ,yA];refine⟨h.1,λz q=>?_⟩;obtain⟨f,d⟩:=yO q;have a:=h.2 f (xT.2 (zE.1 d).1);unfold gh at a;rw[cw d,zJ]at a;exact a.1
 .obtain⟨kd,g,m,p,v,u,_⟩:=aN5 i;have j:=(zE.1 m).1;obtain⟨l,b⟩:∃l,w[e.kind]?=some l:=⟨_,zD (by omega)⟩
  rw[cw b]at c;have h:=o _ l b r c;unfold jW at h;rw[zJ,zQ,yA,l4 m]at h;have d:e.field<r.length:=by rw[h.1];exact(zE.1 p).1
  have a:=h.2 e.field (xT.2 d);unfold gh at a;rw[l4 m,p,zJ]at a;have s:=a.2;simp only[v,decide_true,Bool.not_true,Bool.false_or,zJ,zQ]at s;unfold p8;rw[u];simp only[xJ,wA,xF];omega
def IR(x:ak)(w:Wd)(S:Ws w)(P:dJ x=[])(G:w.length=x.kz.length)(q:x.kz.length<=1000000)(s:∀k∈x.kz,k.fields.length<=1000000)(k:Nat)(J:k<x.kz.length)(r:List Int)(O:r.length<=1000):APure prog 88 [aw x,fI w,iD k,bv r] (bD (jW x w k r)):=by
 have I:x.kz[((k:Nat):Int).toNat]?=some (Gv x k):=jp J;have U:=(Ft P).up;unfold jW;have HU:=True.intro;by_cases hl:r.length=(Gv x k).fields.length
 .rw[yJ hl,Bool.true_and];refine ap func88 ntmps88 λR=>?_
  repeat refine bM ?_
  refine jN mixed ai (γ:=Nat) (λf=>[(10,iD f)]) (λ_=>[]) (λf=>f<=r.length/\∀j,j<f->gh x w k r j=true) (λf=>r.length-f) 0 (ah aJ) bE ⟨zW _,λj hj=>by omega⟩ ?_;rintro f ⟨T,K⟩;by_cases hfl:f<r.length
  .obtain⟨z,E⟩:∃z,r[f]?=some z:=⟨_,zD hfl⟩
   have L:r[((f:Nat):Int).toNat]?=some z:=E;obtain⟨g,t⟩:∃g,(Gv x k).fields[f]?=some g:=⟨_,zD (by omega)⟩
   have Q:(Gv x k).fields[((f:Nat):Int).toNat]?=some g:=t;have v:gh x w k r f=(dE z&&(!(decide (g.kind=1))||(decide (0<=z)&&decide (z<(w.getD (aG x k f).toNat []).length)))):=by
    unfold gh;rw[cw E,t]
   have o:gh x w k r f=false->(List.range r.length).all (gh x w k r)=false:=λh=>by
    cases h2:(List.range r.length).all (gh x w k r)with
    |false=>rfl
    |true=>rw[yA]at h2;rw[h2 f (xT.2 hfl)]at h;cases h
   have good:gh x w k r f=true->∀j,j<f+1->gh x w k r j=true:=λh j hj=>by
    by_cases e:j=f
    .subst e;exact h
    .exact K j (by omega)
   by_cases hn:-1099511627776<=z/\z<=1099511627776
   .have a:dE z=true:=by unfold dE;simp only[xJ,wA,xF];omega
    rw[a,Bool.true_and]at v;by_cases h1:g.kind=1
    .have HU:=FA x k f q s;obtain⟨C,y,_⟩:=U _ (aM6 (jp J) t h1);simp only at C y;obtain⟨u,M⟩:∃u:Nat,aG x k f=u:=⟨_,(xX C).symm⟩
     rw[M]at HU v y;obtain⟨D,i⟩:∃l,w[u]?=some l:=⟨_,zD (by omega)⟩
     have F:w[((u:Nat):Int).toNat]?=some D:=i;rw[Int.toNat_natCast,cw i]at v;simp only[h1,decide_true,Bool.not_true,Bool.false_or]at v;by_cases hz2:0<=z/\z<D.length
     .rw[yJ hz2.1,yJ hz2.2]at v
      repeat refine bM ?_
      exact⟨f+1,(ah aJ),bE,⟨by omega,good v⟩,by omega⟩
     .have b:gh x w k r f=false:=by
       rw[v];simp only[Bool.and_eq_false_iff,xF];omega
      rw[o b];by_cases hz3:z<0
      .repeat refine bM ?_
       exact Rt.pure rfl
      .repeat refine bM ?_
       exact Rt.pure rfl
    .have b:gh x w k r f=true:=by rw[v];simp[h1]
     repeat refine bM ?_
     exact⟨f+1,(ah aJ),bE,⟨by omega,good b⟩,by omega⟩
   .have a:dE z=false:=by unfold dE;simp only[Bool.not_eq_false',xO,zQ];omega
    rw[a,Bool.false_and]at v;rw[o v];by_cases hz3:z < -1099511627776
    .repeat refine bM ?_
     exact Rt.pure rfl
    .repeat refine bM ?_
     exact Rt.pure rfl
  .obtain rfl:f=r.length:=by omega
   have n:(List.range r.length).all (gh x w k r)=true:=by rw[yA];intro j hj;exact K j (xT.1 hj)
   rw[n]
   repeat refine bM ?_
   exact Rt.pure rfl
 .rw[yE hl,Bool.false_and];refine ap func88 ntmps88 λR=>?_
  repeat refine bM ?_
  exact Rt.pure rfl
end
section
open Go
def EE{x:ak}{w:Wd}(h:cL x w=true->False):cL x w=false:=by
 cases a:cL x w with
 |false=>rfl
 |true=>exact absurd a h
def Ce(x:ak)(w:Wd)(f:Ws w)(E:dJ x=[])(q:x.kz.length<=1000000)(s:∀k∈x.kz,k.fields.length<=1000000):APure prog 45 [aw x,fI w] (bD (cL x w)):=by
 have C:=f.nk;by_cases hlen:w.length=x.kz.length
 .refine ap func45 ntmps45 λG=>?_
  repeat refine dS ?_
  refine jN mixed ai (γ:=Nat) (λk=>[(5,iD k)]) (λ_=>[]) (λk=>k<=w.length/\∀(j:Nat)l,j<k->w[j]?=some l->l.length<=512) (λk=>w.length-k) 0 (ah aJ) bE ⟨zW _,λj l hj=>by omega⟩ ?_;rintro k ⟨I,y⟩;by_cases hkl:k<w.length
  .obtain⟨l,hl⟩:∃l,w[k]?=some l:=⟨_,zD hkl⟩
   have v:w[((k:Nat):Int).toNat]?=some l:=hl;have u:=f.nr l (zG hl);by_cases h5:l.length<=512
   .repeat refine dS ?_
    exact⟨k+1,(ah aJ),bE,⟨by omega,λj o hj h2=>by
     by_cases e:j=k
     .subst e;rw[hl]at h2;cases h2;exact h5
     .exact y j o (by omega) h2⟩,by omega⟩
   .rw[EE λt=>h5 (uN ((GB t).2.1 k l hl)).1]
    repeat refine dS ?_
    exact Rt.pure rfl
  .obtain rfl:k=w.length:=by omega
   repeat refine dS ?_
   refine jN mixed ai (γ:=Nat) (λk=>[(6,iD k)]) (λ_=>[]) (λk=>k<=w.length/\∀(j:Nat)l,j<k->w[j]?=some l->∀r∈l,jW x w j r=true) (λk=>w.length-k) 0 (ah aJ) bE ⟨zW _,λj l hj=>by omega⟩ ?_;rintro k ⟨F,hb⟩;by_cases hkl2:k<w.length
   .obtain⟨l,hl⟩:∃l,w[k]?=some l:=⟨_,zD hkl2⟩
    have v:w[((k:Nat):Int).toNat]?=some l:=hl;have u:=f.nr l (zG hl)
    repeat refine dS ?_
    refine jN mixed ai (γ:=Nat) (λi=>[(7,iD i)]) (λ_=>[]) (λi=>i<=l.length/\∀(j:Nat)r,j<i->l[j]?=some r->jW x w k r=true) (λi=>l.length-i) 0 (ah aJ) bE ⟨zW _,λj r hj=>by omega⟩ ?_;rintro i ⟨hi,hc⟩;by_cases hil:i<l.length
    .obtain⟨r,b⟩:∃r,l[i]?=some r:=⟨_,zD hil⟩
     have D:l[((i:Nat):Int).toNat]?=some r:=b;have HF:=IR x w f E hlen q s k (by omega) r (f.nf l (zG hl) r (zG b))
     cases g:jW x w k r with
     |true=>
      rw[g]at HF
      repeat refine dS ?_
      exact⟨i+1,(ah aJ),bE,⟨by omega,λj z hj h2=>by
       by_cases e:j=i
       .subst e;rw[b]at h2;cases h2;exact g
       .exact hc j z (by omega) h2⟩,by omega⟩
     |false=>
      rw[g]at HF;rw[EE λt=>by rw[J2 t hl (zG b)]at g;cases g]
      repeat refine dS ?_
      exact Rt.pure rfl
    .obtain rfl:i=l.length:=by omega
     repeat refine dS ?_
     exact⟨k+1,(ah aJ),bE,⟨by omega,λj o hj h2=>by
      by_cases e:j=k
      .subst e;rw[hl]at h2;cases h2
       intro r b;obtain⟨a,n⟩:=yO b;exact hc a r (zE.1 n).1 n
      .exact hb j o (by omega) h2⟩,by omega⟩
   .obtain rfl:k=w.length:=by omega
    rw[J1 hlen (λj l h=>y j l (zE.1 h).1 h) (λj l h=>hb j l (zE.1 h).1 h)]
    repeat refine dS ?_
    exact Rt.pure rfl
 .rw[oS hlen];refine ap func45 ntmps45 λG=>?_
  repeat refine dS ?_
  exact Rt.pure rfl
end
section
open Go
def CY(l:List eZ):((l.map aS).all λy=>y.all cY)=true:=by rw[yA];intro y h;obtain⟨f,_,rfl⟩:=xM.1 h;rfl
def pf(x:ak)(w:Wd):List eZ:=match dJ x with
 |[]=>N1 x w
 |p::_=>[(-1,-1,-1,p.2.2.2)]
def ef{A B:Prop}(k:B)(h:ar B->A:=by intro q7;(first|refine bc ?_|refine aE ?_|(refine' aj ?hc ?_;(case hc=>first|exact aU6 (by first|omega|(simp only[zL];omega)) (by first|omega|(simp only[zL];omega))|exact aU8 (by first|omega|(simp only[zL];omega))|exact HC|exact HF|exact HO|exact HD)));exact q7.1):A:=h ⟨k⟩
def bg5(x:ak)(HV:APure prog 83 [aw x] (iD (fD x)))(w:Wd)(q:Ws w)(K:x.kz.length<=1000000)(z:∀k∈x.kz,k.fields.length<=1000000):APure prog 15 [aw x,fI w] (.sl 4 ((pf x w).map aS)):=by
 have HC:=bh3 x HV;unfold pf
 cases o:dJ x with
 |cons p F=>
  rw[o]at HC;have h0:((p::F).map aS)[((0:Int)).toNat]?=some (aS p):=rfl;have Q:((p::F).map aS).length=F.length+1:=by simp
  refine ap func15 ntmps15 λR=>?_
  repeat refine ef ?_
  exact Rt.pure rfl
 |nil=>
  rw[o]at HC;have hS:=Ft o;have V:=hS.vld;have HF:=Ce x w q o K z;simp only;unfold N1
  cases t:cL x w with
  |false=>
   rw[t]at HF;refine ap func15 ntmps15 λR=>?_
   repeat refine ef ?_
   exact Rt.pure rfl
  |true=>
   rw[t]at HF;simp only[if_true];have HD:=oc x o w q t;obtain⟨M,e,J⟩:=GB t;refine ap func15 ntmps15 λR=>?_
   repeat refine ef ?_
   refine aO mixed ai (γ:=Nat×Value×ae) (λg=>[(7,iD g.1),(6,.v g.2.1)]) (λg=>g.2.2) (λg=>g.1<=w.length/\N9 (am g.1 (fN x w)) g.2.1 g.2.2) (λg=>w.length-g.1) (0,.slice none 0 0,[]) (ah av) (Sc.refl _) ⟨zW _,ab.nil _ _⟩ ?_;rintro⟨k,v,s⟩ ⟨D,a⟩;simp only at D a⊢;have U:=V.nk;by_cases hkl:k<w.length
   .obtain⟨kd,f⟩:∃y,x.kz[k]?=some y:=⟨_,zD (by omega)⟩
    have C:x.kz[((k:Nat):Int).toNat]?=some kd:=f;obtain⟨l,hl⟩:∃l,w[k]?=some l:=⟨_,zD hkl⟩
    have P:w[((k:Nat):Int).toNat]?=some l:=hl;have b:=gE k (fN x w);rw[show fN x w k=one k (-1) (-1) (if(l.length:Int)<kd.lo\/kd.hi<(l.length:Int)then 4 else 0) by unfold fN;rw[f];simp only;rw[cw hl]]at b;have S:=pz (aF7 x w) (k+1) (show k+1<=6 by omega);by_cases hb:(l.length:Int)<kd.lo\/kd.hi<(l.length:Int)
    .rw[if_pos hb,show one (k:Int) (-1) (-1) 4=[((k:Int),-1,-1,4)] from rfl]at b;have G:(am k (fN x w)).map aS++[[iD k,iD (-1),iD (-1),iD 4]]=(am (k+1) (fN x w)).map aS:=by
      rw[b,yB];rfl
     repeat refine ef ?_
     refine Ap.go rfl rfl rfl rfl a (bR _) rfl (zs:=(am (k+1) (fN x w)).map aS) G (by rw[zL];omega) (by rw[zL];omega) (λj=>j) dF (λa' c' j a=>?_)
     repeat refine ef ?_
     exact⟨(k+1,_,j),(ah av),Sc.refl _,⟨by simp only;omega,a⟩,by simp only;omega⟩
    .rw[if_neg hb,jl,zZ]at b
     repeat refine ef ?_
     exact⟨(k+1,v,s),(ah av),Sc.refl _,⟨by simp only;omega,by simp only;rw[b];exact a⟩,by simp only;omega⟩
   obtain rfl:k=w.length:=by omega
   have hl1:=pz (aF7 x w) w.length (show w.length<=6 by omega);generalize am w.length (fN x w)=L at *;clear D hkl
   repeat refine ef ?_
   refine aO mixed ai (γ:=Nat×Value×ae) (λg=>[(8,iD g.1),(6,.v g.2.1)]) (λg=>g.2.2) (λg=>g.1<=w.length/\N9 (L++am g.1 (l2 x w)) g.2.1 g.2.2) (λg=>w.length-g.1) (0,v,s) (ah av) (Sc.refl _) ⟨zW _,by simp only;rw[ay9,zZ];exact a⟩ ?_;clear a;rintro⟨k,v,s⟩ ⟨D,a⟩;simp only at D a⊢;by_cases hkl:k<w.length
   case neg=>
    obtain rfl:k=w.length:=by omega
    have O:=pz (aN6 V.nr e V.nf) w.length (show w.length<=6 by omega);have Z:=pz (kX (x:=x) q) (bJ x).length (aM5 V)
    repeat refine ef ?_
    refine Ap.frz rfl rfl rfl rfl a (bR _) (CY _) (zs:=(L++am w.length (l2 x w)++am (bJ x).length (pm x w)).map aS) (by simp only[yB]) yf yf ?_
    repeat refine ef ?_
    exact Rt.pure rfl
   obtain⟨kd,f⟩:∃y,x.kz[k]?=some y:=⟨_,zD (by omega)⟩
   have C:x.kz[((k:Nat):Int).toNat]?=some kd:=f;obtain⟨l,hl⟩:∃l,w[k]?=some l:=⟨_,zD hkl⟩
   have P:w[((k:Nat):Int).toNat]?=some l:=hl;have X:=q.nr l (zG hl);have u:=(uN (e _ _ hl)).2;have b:=gE k (l2 x w);rw[show l2 x w k=am l.length (dX x w k kd l) by unfold l2;rw[f];simp only;rw[cw hl]]at b;have O:=pz (aN6 V.nr e V.nf) k (show k<=6 by omega);generalize am k (l2 x w)=E at *
   repeat refine ef ?_
   refine aO mixed ai (γ:=Nat×Value×ae) (λg=>[(9,iD g.1),(6,.v g.2.1)]) (λg=>g.2.2) (λg=>g.1<=l.length/\N9 (L++E++am g.1 (dX x w k kd l)) g.2.1 g.2.2) (λg=>l.length-g.1) (0,v,s) (ah av) (Sc.refl _) ⟨zW _,by simp only;rw[ay9,zZ];exact a⟩ ?_;clear a;rintro⟨i,v,s⟩ ⟨hi,a⟩;simp only at hi a⊢;by_cases hil:i<l.length
   case neg=>
    obtain rfl:i=l.length:=by omega
    repeat refine ef ?_
    exact⟨(k+1,v,s),(ah av),Sc.refl _,⟨by simp only;omega,by simp only;rw[b,←zV];exact a⟩,by simp only;omega⟩
   obtain⟨r,T⟩:∃r,l[i]?=some r:=⟨_,zD hil⟩
   have HO:=IQ x o w q t k i kd f l r hl T;have I:=gE i (dX x w k kd l);have Y:=pz (aP8 (w:=w) V.nr u V.nf f) (i+1) (show i+1<=1000 by omega);have G:(L++E++am i (dX x w k kd l)).map aS++(dX x w k kd l i).map aS=(L++E++am (i+1) (dX x w k kd l)).map aS:=by
    rw[I,←zV];simp only[yB]
   repeat refine ef ?_
   refine Ap.go rfl rfl rfl rfl a (bR _) (CY _) (zs:=(L++E++am (i+1) (dX x w k kd l)).map aS) G yf yf (λj=>j) dF (λa' c' j a=>?_)
   repeat refine ef ?_
   exact⟨(i+1,_,j),(ah av),Sc.refl _,⟨by simp only;omega,a⟩,by simp only;omega⟩
variable{p:eZ}
def bb5{k f r e:Int}(h:p∈one k f r e):p.2.2.2≠0:=by
 unfold one at h;split at h
 .cases h
 .rw[zN]at h;subst h;assumption
def aM3{α:Type}{q:Nat}{g:Nat->List α}{a:α}(h:a∈am q g):∃i,a∈g i:=by
 unfold am at h;obtain⟨i,_,h⟩:=List.mem_flatMap.1 h;exact⟨i,h⟩
def xc{x:ak}(h:p∈dJ x):p.2.2.2≠0:=by
 unfold dJ at h;split at h
 .rcases zO.1 h with h|h
  .rcases zO.1 h with h|h
   .obtain⟨i,h⟩:=aM3 h;unfold my at h;split at h
    .exact bb5 h
    .cases h
   .obtain⟨i,h⟩:=aM3 h;unfold eu at h;split at h
    .rcases zO.1 h with h|h
     .exact bb5 h
     .obtain⟨j,h⟩:=aM3 h;unfold fU at h;split at h
      .exact bb5 h
      .cases h
    .cases h
  .obtain⟨i,h⟩:=aM3 h;unfold mZ at h;split at h
   .exact bb5 h
   .cases h
 .rw[zN]at h;subst h;assumption
def TC{A B:Prop}(k:B)(h:ar B->A:=by intro q7;(first|refine bc ?_|refine aE ?_|(refine' aj ?hc ?_;(case hc=>exact HN)));exact q7.1):A:=h ⟨k⟩
def Fh(x:ak)(V:APure prog 108 [aw x] (iD (fD x)))(w:Wd)(e:Ws w):APure prog 14 [aw x,fI w] (.sl 4 ((pf x w).map aS)):=by
 unfold pf
 cases a:dJ x with
 |nil=>exact k9 x w e a V
 |cons p s=>
  have HN:=C7 x w p s a V;have f:p.2.2.2≠0:=xc (x:=x) (by rw[a];exact yN);refine ap func14 ntmps14 λg=>?_
  repeat' first|refine TC ?_|intro b;conv=>whnf
  exact Rt.pure rfl
end
section
open Go
structure DF(f:an):Prop where
 nm:f.name.size<=13
 of:f.of.size<=12
 up:f.up.size<=12
 nw:f.words.length<=4
 wd:∀s∈f.words,s.size<=12
 ng:f.wz.length<=4
 wt:∀n∈f.wz,-2000000<=n/\n<=2000000
 kd:-1<=f.kind/\f.kind<=9
 lo:-2000000<=f.lo/\f.lo<=2000000
 hi:-2000000<=f.hi/\f.hi<=2000000
structure DK(k:aq):Prop where
 nm:k.name.size<=12
 lo:-2000000<=k.lo/\k.lo<=2000000
 hi:-2000000<=k.hi/\k.hi<=2000000
 nf:k.fields.length<=10
 fs:∀f∈k.fields,DF f
structure DL(l:bG):Prop where
 nm:l.name.size<=12
 ns:l.tz.length<=5
 st:∀s∈l.tz,s.size<=12
 nv:l.mz.length<=6
 mv:∀m∈l.mz,(-2000000<=m.1/\m.1<=2000000)/\(-2000000<=m.2/\m.2<=2000000)
structure DR(r:cH):Prop where
 nm:r.name.size<=12
 kd:r.kind.size<=12
 a:r.a.size<=12
 b:r.b.size<=12
 n:-2000<=r.n/\r.n<=2000
structure RD(x:ak):Prop where
 ver:-2000000<=x.vz/\x.vz<=2000000
 nk:x.kz.length<=3
 ks:∀k∈x.kz,DK k
 nl:x.lz.length<=1
 ls:∀l∈x.lz,DL l
 nr:x.rules.length<=4
 rs:∀r∈x.rules,DR r
def DF.bd{f:an}(h:DF f):gk f<=200:=ZH
def DK.bd{k:aq}(h:DK k):dw k<=2100:=Y5
variable{l:bG}
def DL.bd(h:DL l):dY l<=300:=Zw
def DR.bd{r:cH}(h:DR r):fK r<=100:=Nc
variable{x:ak}
def RD.src(h:RD x):fe x<=8192:=Y7
def DF.sm{f:an}(h:DF f):SmF f:=⟨by have:=h.nm;unfold eY;omega,by have:=h.of;unfold eY;omega,by have:=h.up;unfold eY;omega,λs a=>by have:=h.wd s a;unfold eY;omega,by have:=h.nw;omega,by have:=h.ng;omega⟩
def RD.good(h:RD x):zr x where
 ver:=by have:=h.ver;omega
 fsane:=λk a f d=>by
  have:=(h.ks k a).fs f d;exact⟨⟨by have:=this.lo;omega,by have:=this.hi;omega,λn g=>by have:=this.wt n g;omega⟩,by have:=this.kd;omega⟩
 ksane:=λk a=>by have:=h.ks k a;have o:=this.lo;have j:=this.hi;omega
 msane:=λl b m i=>by have:=(h.ls l b).mv m i;omega
 rsane:=λr c=>by have:=(h.rs r c).n;omega
 sm:={
  kz:=λk a=>⟨by have:=(h.ks k a).nm;unfold eY;omega,λf d=>((h.ks k a).fs f d).sm,by have:=(h.ks k a).nf;omega⟩
  lz:=λl b=>⟨by have:=(h.ls l b).nm;unfold eY;omega,λs e=>by have:=(h.ls l b).st s e;unfold eY;omega,by have:=(h.ls l b).ns;omega,by have:=(h.ls l b).nv;omega⟩
  rules:=λr c=>by have:=h.rs r c;exact⟨by have:=this.nm;unfold eY;omega,by have:=this.kd;unfold eY;omega,by have:=this.a;unfold eY;omega,by have:=this.b;unfold eY;omega⟩
  nkinds:=by have:=h.nk;omega
  nlives:=by have:=h.nl;omega
  nrules:=by have:=h.nr;omega }
 src:=λ_=>h.src
def CF.df{f:an}(h:CF f):DF f:=⟨by have:=h.nm;omega,h.of,h.up,by have:=h.nw;omega,h.wd,by have:=h.ng;omega,λn a=>by have:=h.wt n a;omega,by have:=h.kd;omega,by have:=h.lo;omega,by have:=h.hi;omega⟩
def CK.dk{k:aq}(h:CK k):DK k:=⟨h.nm.2,by have:=h.lo;omega,by have:=h.hi;omega,h.nf,λf a=>(h.fs f a).df⟩
def CL.dl(h:CL l):DL l:=⟨h.nm,by have:=h.ns;omega,h.st,by have:=h.nv;omega,λm a=>by have:=h.mv m a;omega⟩
def LL.dls(h:LL x):RD x:=⟨by have:=h.ver;omega,h.nk,λk c=>(h.ks k c).dk,h.nl,λl b=>(h.ls l b).dl,by have:=h.nr;omega,λr a=>(by have:=h.rs r a;exact⟨this.nm,this.kd,this.a,this.b,this.n⟩)⟩
end
end Go.Proofs.YtilnpcolgcmofaaGreatDoor
namespace Go.Proofs.YtilnpcolgcmofaaGreatDoor
open Tryz
open Go
inductive Cnd where
 |c0 (op:Int) (path CX:List ByteArray) (n:Int)
 |c1 (op:Int) (path CX:List ByteArray) (n:Int) (a:Cnd)
 |c2 (op:Int) (path CX:List ByteArray) (n:Int) (a b:Cnd)
namespace Cnd
def op:Cnd->Int
 |c0 o ..=>o
 |c1 o ..=>o
 |c2 o ..=>o
def path:Cnd->List ByteArray
 |c0 _ p ..=>p
 |c1 _ p ..=>p
 |c2 _ p ..=>p
def CX:Cnd->List ByteArray
 |c0 _ _ p ..=>p
 |c1 _ _ p ..=>p
 |c2 _ _ p ..=>p
def n:Cnd->Int
 |c0 _ _ _ n=>n
 |c1 _ _ _ n _=>n
 |c2 _ _ _ n _ _=>n
def kids:Cnd->List Cnd
 |c0 ..=>[]
 |c1 _ _ _ _ a=>[a]
 |c2 _ _ _ _ a b=>[a,b]
def size:Cnd->Nat
 |c0 ..=>1
 |c1 _ _ _ _ a=>1+a.size
 |c2 _ _ _ _ a b=>1+a.size+b.size
inductive All(p:Cnd->Prop):Cnd->Prop
 |mk {c:Cnd} (h:p c) (k:∀a∈c.kids,All p a):All p c
def All.one{p:Cnd->Prop}{c:Cnd}(h:All p c):p c:=by cases h;assumption
end Cnd
end Go.Proofs.YtilnpcolgcmofaaGreatDoor
namespace Go.Proofs.YtilnpcolgcmofaaGreatDoor
open Tryz
section
open Go
def ZR{p:Prop}(h:p:=by
 refine ap func269 ntmps269 λBB=>?_
 repeat refine gy ?_
 refine gD mixed ai (γ:=Nat) (λk=>[(8,iD k)]) (λ_=>[]) (λk=>k<=l.length/\∀i y,i<k->l[i]?=some y->p y=false) (λk=>l.length-k) 0 rfl rfl ⟨by omega,by omega⟩ ?_;rintro k ⟨hk,hno⟩;by_cases hlt:k<l.length
 .obtain⟨y,hy⟩:∃y,l[(k:Int).toNat]?=some y:=⟨_,zD hlt⟩
  repeat' first|refine gy ?_|(refine aZ ?_;constructor<;>intro hc)
  .refine Rt.pure (zM iD ?_);exact(K' hy ‹_› hno).symm
  .exact⟨k+1,rfl,rfl,⟨by omega,λi z hi hz=>by
    by_cases e:i=k
    .subst e;rw[show((i:Int)).toNat=i from rfl,hz]at hy;cases hy;assumption
    .exact hno i z (by omega) hz⟩,by omega⟩
 .repeat refine gy ?_
  refine Rt.pure (zM iD ?_);exact(R1 λi y hy=>hno i y (by have:=(zE.1 hy).1;omega) hy).symm):p:=h
def JV{f:FuncId}(l:List ByteArray)(p:ByteArray->Bool)(hl:l.length<=1000000)(hp:∀y∈l,APure prog f [sD y] (bD (p y))):APure prog 269 [gr l,.v (.func (.func f) #[] #[])] (iD (idx p l)):=ZR
def bq4{A B:Prop}(k:B)(h:ar B->A:=by intro q7;(first|refine bh ?_|refine aE ?_|(refine' aj ?hc ?_;(case hc=>exact JV l p hl hp)));exact q7.1):A:=h ⟨k⟩
end
section
open Go Go.Maps Go.MapKept
section
variable {P:Program} {r:Option Nat} {n:Nat} {df:Nat} {N:Nat} {σ τ:ae} {ρ:Operand->D} {f:aP} {L:List Oper} {k t e:TypeId} {F:Value->Option Value} {b:Nat} {kv z:Value} {kl:Lit}
end
end
section
open Go Go.Maps Go.MapKept
end
section
open Go
end
section
open Go
end
section
open Go
abbrev zC:List D:=[.v (zv (ZV.int IntKind.i64)),.v (zv ZV.sl),.v (zv ZV.sl),.v (zv ZV.sl),.v (zv (ZV.int IntKind.i64))]
def bk4(d:D)(p:List ByteArray):Prop:=d=gr p\/(d= .v (.slice none 0 0)/\p=[])
variable{d:D}
def bk4.vd{σ τ:ae}{p:List ByteArray}(h:bk4 d p)(s:∀b,b∈aT τ->b∈aT σ):Vd σ τ d (gr p):=by
 rcases h with rfl|⟨rfl,rfl⟩
 .exact Vd.same s _
 .exact Vd.nil _
variable{K:D->Prop}
def x1(h:K d):bY d K:=by cases d<;>exact h
def aG1:∀{l:List D}{K:List D->Prop},K l->m6 l K
 |[],_,h=>h
 |d::s,K,h=>x1 (K:=λd=>m6 s λs=>K (d::s)) (aG1 (K:=λs=>K (d::s)) h)
def bd1{p:Nat->Option (Nat×Nat)}{K:List D->Prop}{E:Prop}{out:List D}(k:K out):∀{s:List (Nat×D)}{c:List D},y8 p c s=some out->FV p s c K E
 |[],c,h=>by simp only[y8,xB]at h;subst h;exact k
 |(i,d)::s,c,h=>by
  simp only[y8]at h;simp only[FV];split at h
  .cases h
  .rename_i o size e;simp only[e]
   cases b:(N4 d&&((gX d).length==size)&&Nat.ble (o+size) c.length)with
   |false=>rw[b]at h;cases h
   |true=>
    rw[b]at h;simp only[cond_true]at h⊢;exact aG1 (K:=λa=>FV p s a K E) (bd1 k h)
def jy{P:Program}{T:TypeId->Option TI}{f:aP}{σ:ae}{o:Oper}{t e:TypeId}{m k b:Nat}{ps:Array (Nat×Operand)}{i j:TI}{v:Bool}{out:List D}{L:List (List D)}{B:Prop}(a:o.op= .buildSlice t m ps)(c:T t=some i)(s:i.sl=some (e,v,k,b))(n:T e=some j)
  (r:(Nat.beq j.zero.length j.size&&Nat.beq j.size k&&Nat.blt 0 k&&Nat.ble (m*k) 1000)=true) (F:y8 (λq=>some (q*k,k)) (GP j.zero k m) (ps.toList.map λp=>(p.1,aN f p.2))=some out) (d:(out.length==m*k)=true) (u:Aq k m out=L) (h:W (Rj L λl=>K (.sl k l))):Bx (gR P T o f σ K) B:=by
 obtain⟨dst,op,y,pos,w,g⟩:=o;simp only at a;subst a;subst u;refine Bx.l ⟨?_⟩;simp only[gR,c,s,n,r,cond_true];exact aG1 (bd1 (by simp only[d,cond_true];exact h.h) F)
end
section
open Go
end
section
open Go
def qE(x:ak)(hK:x.kz.length<=10)(Q:∀k∈x.kz,k.fields.length<=50)(p:List Int)(Y:eH p):bH prog 10 [aw x,bv p,bD true] (λd=>∃w,d=fI w/\er w):=by
 have HA:=λi n=>R8 p Y i n;have HU:=λi j=>FA x i j (by omega) (λk b=>by have:=Q k b;omega);refine bH.of_call (az.vs3 (R:=λd s=>∃v w,d= .v v/\RW w v s/\er w) ?_ λd σ⟨v,w,e,V,hw⟩=>by subst e;exact⟨_,[],Vs.frz GW V (by simp),w,rfl,hw⟩);refine dB func10 ntmps10 λBB=>?_
 repeat refine g9 ?_
 refine aO mixed ai (γ:=Nat×List Int×Value×ae) (λg=>[(8,iD g.1),(7,.v g.2.2.1)]) (λg=>g.2.2.2) (λg=>g.1<=x.kz.length/\g.2.1.length=g.1/\Cnt g.2.1/\RI g.2.1 g.2.2.1 g.2.2.2) (λg=>x.kz.length-g.1) (0,[],.slice none 0 0,[]) (ah av) (Sc.refl _) ⟨zW _,rfl,λc hc=>by(cases hc),ab.nil _ _⟩ ?_;rintro⟨k,cs,v,s⟩ ⟨b,hcl,hcs,hrow⟩;simp only at b hcl hcs hrow⊢;by_cases hkl:k<x.kz.length
 .exact cq8
 .obtain rfl:k=x.kz.length:=by omega
  clear hkl b
  repeat refine g9 ?_
  refine pW (i:=7) (d':=bv cs) (τ:=[]) rfl (λh=>by cases h) (Vs.row hrow (by simp)) ?_;refine aO mixed ai (γ:=Nat×Nat×Wd×Value×ae) (λg=>[(11,iD g.1),(10,iD g.2.1),(9,.v g.2.2.2.1)]) (λg=>g.2.2.2.2) (λg=>g.1<=x.kz.length/\g.2.1<=6+g.1*2000/\g.2.2.1.length=g.1/\er g.2.2.1/\RW g.2.2.1 g.2.2.2.1 g.2.2.2.2) (λg=>x.kz.length-g.1) (0,6,[],.slice none 0 0,[]) (ah av) (Sc.refl _) ⟨zW _,by decide,rfl,⟨by decide,by simp,by simp,by simp⟩,aC.nil _ _⟩ ?_;clear hrow;rintro⟨k,S,w,v,s⟩ ⟨b,K,t,hw,hrow⟩;simp only at b K t hw hrow⊢;by_cases hkl:k<x.kz.length
  .obtain⟨kd,q⟩:∃y,x.kz[k]?=some y:=⟨_,zD hkl⟩
   have M:x.kz[((k:Nat):Int).toNat]?=some kd:=q;have hfl:=Q kd (zG q);obtain⟨ck,hck⟩:∃y,cs[k]?=some y:=⟨_,zD (by omega)⟩
   have P:cs[((k:Nat):Int).toNat]?=some ck:=hck;have hc4:=hcs ck (zG hck);obtain⟨n,rfl⟩:∃n:Nat,ck=n:=⟨ck.toNat,by omega⟩
   repeat refine g9 ?_
   refine aO mixed ai (γ:=Nat×Nat×List (List Int)×Value×ae) (λg=>[(13,iD g.1),(10,iD g.2.1),(12,.v g.2.2.2.1)]) (λg=>g.2.2.2.2++s) (λg=>g.1<=n/\g.2.1<=S+g.1*400/\g.2.2.1.length=g.1/\(∀r∈g.2.2.1,r.length<=50/\∀v∈r,Tn v)/\uX g.2.2.1 g.2.2.2.1 g.2.2.2.2) (λg=>n-g.1) (0,S,[],.slice none 0 0,[]) (ah av) (Sc.refl _) ⟨zW _,by simp only;omega,rfl,by simp,aC.nil _ _⟩ ?_;rintro⟨i,a1,l,v1,s1⟩ ⟨hi,J,F,hlr,hrow1⟩;simp only at hi J F hlr hrow1⊢;by_cases hin:i<n
   .repeat refine g9 ?_
    refine aO mixed ai (γ:=Nat×Nat×List Int×Value×ae) (λg=>[(15,iD g.1),(10,iD g.2.1),(14,.v g.2.2.2.1)]) (λg=>g.2.2.2.2++(s1++s)) (λg=>g.1<=kd.fields.length/\g.2.1<=a1+g.1/\g.2.2.1.length=g.1/\(∀v∈g.2.2.1,Tn v)/\RI g.2.2.1 g.2.2.2.1 g.2.2.2.2) (λg=>kd.fields.length-g.1) (0,a1,[],.slice none 0 0,[]) (ah av) (Sc.refl _) ⟨zW _,by simp only;omega,rfl,by simp,ab.nil _ _⟩ ?_;rintro⟨j,a2,r,v2,s2⟩ ⟨hj,I,E,hrv,hrow2⟩;simp only at hj I E hrv hrow2⊢;by_cases hjl:j<kd.fields.length
    .obtain⟨f,hf⟩:∃y,kd.fields[j]?=some y:=⟨_,zD hjl⟩
     have hf':kd.fields[((j:Nat):Int).toNat]?=some f:=hf;have L:=ek p ((a2:Int).tmod (if((p.map λn=>[iD n]).length:Int)<1 then(1:Int)else((p.map λn=>[iD n]).length:Int))) 12;have hv12:Tn (aB p ((a2:Int).tmod (if((p.map λn=>[iD n]).length:Int)<1 then(1:Int)else((p.map λn=>[iD n]).length:Int))) 12-2):=⟨by omega,by omega⟩
     have C:=aY3 x k j;have HUp:=HU k j;by_cases hk1:f.kind=1
     .generalize aG x k j=u at *;by_cases hu:0<=u
      .have U:=C hu;obtain⟨o,rfl⟩:∃o:Nat,u=o:=⟨u.toNat,by omega⟩
       obtain⟨co,G⟩:∃y,cs[((o:Nat):Int).toNat]?=some y:=⟨_,zD (by simp;omega)⟩
       have O:=hcs co (zG G);have X:=ek p ((a2:Int).tmod (if((p.map λn=>[iD n]).length:Int)<1 then(1:Int)else((p.map λn=>[iD n]).length:Int))) (if co<1 then 1 else co);have hq2:Tn (aB p ((a2:Int).tmod (if((p.map λn=>[iD n]).length:Int)<1 then(1:Int)else((p.map λn=>[iD n]).length:Int))) (if co<1 then 1 else co)):=⟨by omega,by have:=X.2 (by split<;>omega);split at this<;>omega⟩
       have Z:0<=(k:Int).tmod 2/\(k:Int).tmod 2<2:=⟨Int.tmod_nonneg _ (by omega),Int.tmod_lt_of_pos _ (by decide)⟩
       have hjm:0<=(j:Int).tmod 2/\(j:Int).tmod 2<2:=⟨Int.tmod_nonneg _ (by omega),Int.tmod_lt_of_pos _ (by decide)⟩
       by_cases h31:aB p ((a2:Int).tmod (if(p.length:Int)<1 then(1:Int)else(p.length:Int))) 31=0
       .repeat refine g9 ?_
        generalize T:co+(k:Int).tmod 2*9-9*(j:Int).tmod 2=z at *;have hz:Tn z:=⟨by omega,by omega⟩
        refine Ap.go rfl rfl rfl rfl hrow2 (zH _) rfl (zs:=(r++[z]).map λn=>[iD n]) (by rw[yB];rfl) (vx (c:=1000) (by simp;omega) (by decide)) (by simp;omega) (λs'=>s'++(s1++s)) (λs'=>zH _) (λa3 c3 s3 hr3=>?_)
        repeat refine g9 ?_
        exact⟨(j+1,a2+1,r++[z],_,s3),(ah av),Sc.refl _,⟨by simp only;omega,by simp only;omega,by simp only[zI,List.length_singleton];omega,λv h=>(zO.1 h).elim (hrv v) (λh=>by rw[zN]at h;rw[h];exact hz),hr3⟩,by simp only;omega⟩
       .repeat refine g9 ?_
        exact ZO
      .exact Kc
     .exact Kc
    .exact Z2
   .exact Z5
  .exact MV
end
section
open Go
def nj{P:Program}{T:TypeId->Option TI}{f:aP}{σ:ae}{o:Oper}{t e:TypeId}{m k b:Nat}{ps:Array (Nat×Operand)}{i j:TI}{v:Bool}{out:List D}{L:List (List D)}{K:D->Prop}(a:o.op= .buildSlice t m ps)(c:T t=some i)(s:i.sl=some (e,v,k,b))(n:T e=some j)
  (r:(Nat.beq j.zero.length j.size&&Nat.beq j.size k&&Nat.blt 0 k&&Nat.ble (m*k) 1000)=true) (F:y8 (λq=>some (q*k,k)) (GP j.zero k m) (ps.toList.map λp=>(p.1,aN f p.2))=some out) (d:(out.length==m*k)=true) (u:Aq k m out=L) (h:W (Rj L λl=>K (.sl k l))):W (gR P T o f σ K):=by
 obtain⟨dst,op,y,pos,w,g⟩:=o;simp only at a;subst a;subst u;refine⟨?_⟩;simp only[gR,c,s,n,r,cond_true];exact aG1 (bd1 (by simp only[d,cond_true];exact h.h) F)
def Px(l:List ByteArray):((l.map λa=>[sD a]).all λy=>y.all cY)=true:=by
 rw[yA];intro y h;obtain⟨c,_,rfl⟩:=xM.1 h;rfl
end
end Go.Proofs.YtilnpcolgcmofaaGreatDoor
