/- A part of the proof. -/
import Derived.Test.YtilnpcolgcmofaaGreatDoorC27
import Derived.StringKeys
set_option maxRecDepth 100000
set_option maxHeartbeats 20000000
set_option linter.all false
namespace Go.Proofs.YtilnpcolgcmofaaGreatDoor
open Tryz
section
open Go Go.Maps Go.MapKept
def J8{α:Type}{l:List α}{i:Nat}{a:α}(h:l[i]?=some a):l.drop i=a::l.drop (i+1):=by
 obtain⟨b,rfl⟩:=zE.1 h;exact vG b
variable{x:ak}{w:Wd}
def oS(h:w.length≠x.kz.length):cL x w=false:=by simp[cL,h]
variable{k:Nat}{l:List (List Int)}
def oR(a:w[k]?=some l)(h:r0 x k l=false):cL x w=false:=by
 unfold cL;have:(List.range w.length).all (λk=>r0 x k (w.getD k []))=false:=by
  rw[vT];exact⟨k,xT.2 (zE.1 a).1,by rw[cw a,h];simp⟩
 rw[this];simp
variable{y:List Int}
def EG{r:Rf}(b:r∈bJ x)(c:w[r.kind]?=some l)(a:y∈l)(h:p8 w r y=false):cL x w=false:=by
 unfold cL;have:(bJ x).all (λr=>(w.getD r.kind []).all (p8 w r))=false:=by
  rw[vT];refine⟨r,b,?_⟩;rw[cw c,Bool.not_eq_true,vT];exact⟨y,a,by rw[h];simp⟩
 rw[this];simp
def EF(f:w.length=x.kz.length)(e:∀(k:Nat)l,w[k]?=some l->r0 x k l=true)(d:∀r∈bJ x,∀l,w[r.kind]?=some l->∀y∈l,p8 w r y=true):cL x w=true:=by
 unfold cL;simp only[zJ,zQ,yA];refine⟨⟨f,λk c=>?_⟩,λr b y a=>?_⟩
 .obtain⟨l,h⟩:∃l,w[k]?=some l:=⟨_,zD (xT.1 c)⟩
  rw[cw h];exact e k l h
 .cases h:w[r.kind]? with
  |none=>rw[List.getD_eq_getElem?_getD,h]at a;cases a
  |some l=>rw[cw h]at a;exact d r b l h y a
def uN(h:r0 x k l=true):l.length<=512/\∀y∈l,dT x k y=true:=by
 unfold r0 at h;simp only[zJ,zQ,yA]at h;exact h
def si{kd:aq}(b:x.kz[k]?=some kd)(h:dT x k y=true):y.length=kd.fields.length/\∀n∈y,-1099511627776<=n/\n<=1099511627776:=by
 unfold dT tZ at h;rw[b]at h;simp only[zJ,zQ,yA]at h;refine⟨h.1,λn a=>?_⟩;have:=h.2 n a;unfold dE at this;simp only[xJ,wA,xF]at this;omega
def rT(x:ak)(w:Wd)(d:D)(r l:Nat):List D:=[iD x.vz,kq x.kz,iM x.lz,jI x.rules,fI w,d,.v (.map (some r)),.v (.map (some l)),.v (.slice none 0 0)]
def Qx(x:ak)(w:Wd)(L:List Rf)(r l:Nat):rT x w (gM L) r l=gj x w L r l (.slice none 0 0):=rfl
def bE5(x:ak)(w:Wd)(d:D)(σ:ae):Prop:=∃(c r l:Nat)(F:Value->Option Value)(s:ae),d= .tup [.v (.pointer (some ⟨c,0,none⟩)),iD 0]/\σ=(c,.cells 122 (gj x w (bJ x) r l (.slice none 0 0)))::(r,.obj (bo prog 124 F))::(l,.mp prog 9 (kK x.lz))::s/\gp w F (bJ x) s
def bE6(x:ak)(w:Wd)(d:D)(σ:ae):Prop:=(cL x w=false/\d= .tup [.v (.pointer none),iD 2]/\σ=[])\/(cL x w=true/\bE5 x w d σ)
variable{A B:Prop}
def TR(k:B)(h:ar B->A:=by intro q7;(first|refine bh ?_|refine aE ?_|(refine' aj ?hc ?_;(case hc=>first|exact HC)));exact q7.1):A:=h ⟨k⟩
def C7(x:ak)(w:Wd)(p:eZ)(ps:List eZ)(a:dJ x=p::ps)(V:APure prog 108 [aw x] (iD (fD x))):APure prog 38 [aw x,fI w] (.tup [.v (.pointer none),iD p.2.2.2]):=by
 have HC:=nt x V;rw[a]at HC;refine ap func38 ntmps38 λe=>?_
 repeat' first|refine TR ?_|intro b;conv=>whnf
 exact Rt.pure rfl
def Mu(a b c d e:Nat×ax)(s:ae):(a::b::c::d::e::s).Perm (s++[a,b,c,d,e]):=yT (l₁:=[a,b,c,d,e]) (l₂:=s)
def Pt(a b c d e:Nat×ax)(s:ae):(s++[a,b,c,d,e]).Perm (a::b::c::d::e::s):=(Mu a b c d e s).symm
def yk{l:List bG}{y:List D}(h:y∈ic l):y.length=2:=by
 obtain⟨k,a⟩:=yO h;obtain⟨j,z,_,_,rfl⟩:=aT2 a
 rfl
def xn{l:bG}(h:jL l=true):l.name.size<=1000:=by
 simp only[jL,zJ]at h;have:=h.1.1.1.1;simp only[bf,cF,zJ,zQ]at this;omega
def bL(k:B)(h:ar B->A:=by intro q7;(first|refine bh ?_|refine aE ?_|(refine' aj ?hc ?_;(case hc=>first|exact HC|exact R' _ _ _ (by assumption) (by assumption)|exact HB)));exact q7.1):A:=h ⟨k⟩
def TQ(k:B)(h:ar B->A:=by intro q7;(first|refine bh ?_|refine jh ?_|(refine' aj ?hc ?_;(case hc=>first|exact HC|exact R' _ _ _ (by assumption) (by assumption)|exact HB)));exact q7.1):A:=h ⟨k⟩
def Nw{p:Prop}(h:p:=by
 repeat' first|refine bL ?_|intro b;conv=>whnf
 exact Rt.by (Vs.drop (yV _)) (.inl ⟨EG hrm hl hym hbad,rfl,rfl⟩)):p:=h
def vB:=@Go.WideMaps.keyOf_string_mk
def PD(x:ak)(w:Wd)(hw:Ws w)(hp:dJ x=[])(HV:APure prog 108 [aw x] (iD (fD x))):az prog 38 [aw x,fI w] [] (bE6 x w):=by
 have HC:=nt x HV;rw[hp]at HC;have hS:=Ft hp;have hV:=hS.vld;have hnk:=hV.nk;have Y:=hV.nf;have hwl:=hw.nk;have hl6:x.kz.length<=1000000:=by omega
 have hf6:∀k∈x.kz,k.fields.length<=1000000:=λk hk=>by have:=Y k hk;omega
 have hrl:=aM5 hV;refine dB func38 ntmps38 λBB=>?_
 repeat' first|refine bL ?_|intro b;conv=>whnf
 refine ce.makeMap (k:=124) rfl (λC=>?_)
 repeat' first|refine bL ?_|intro b;conv=>whnf
 refine ce.makeMapM (k:=9) rfl (λD=>?_)
 repeat' first|refine TQ ?_|intro b;conv=>whnf
 refine Bx.r ?_;refine ce.box (t:=122) rfl rfl (λc=>?_);by_cases hlen:w.length=x.kz.length
 .repeat' first|refine bL ?_|intro b;conv=>whnf
  refine pW (i:=7) (d:=.v (.pointer (some ⟨b,0,none⟩))) (d':=.ro [.v (.pointer (some ⟨c,0,none⟩))]) (τ:=[(c,.cells 122 (rT x w (.v (.slice none 0 0)) C D)),(D,.mp prog 9 λ_=>none),(C,.obj (bo prog 124 λ_=>none))]) rfl (λh=>by cases h) (Vs.ptr (tb:=109) (zH _)) ?_;refine aO mixed ai (γ:=Nat×Value×ae) (λg=>[(45,iD g.1)]) (λg=>(c,.cells 122 (rT x w (.v g.2.1) C D))::(D,.mp prog 9 λ_=>none)::(C,.obj (bo prog 124 λ_=>none))::g.2.2) (λg=>g.1<=x.kz.length/\ab 124 3 ((am g.1 (fL x)).map MI) g.2.1 g.2.2) (λg=>x.kz.length-g.1) (0,.slice none 0 0,[]) (ah aJ) (Sc.refl _) ⟨zW _,ab.nil _ _⟩ ?_;rintro⟨k,v,s⟩ ⟨hk,o⟩;simp only at hk o⊢;by_cases T:k<x.kz.length
  .obtain⟨kd,I⟩:∃y,x.kz[k]?=some y:=⟨_,zD T⟩
   have hkd':x.kz[((k:Nat):Int).toNat]?=some kd:=I;have hfl:=Y kd (zG I);have hSK:=gE k (fL x);have hRK:fL x k=am kd.fields.length (dL x k kd):=by unfold fL;rw[I]
   repeat' first|refine bL ?_|intro b;conv=>whnf
   refine aO mixed ai (γ:=Nat×Value×ae) (λg=>[(53,iD g.1)]) (λg=>(b,.cells 78 (aD kd))::(c,.cells 122 (rT x w (.v g.2.1) C D))::(D,.mp prog 9 λ_=>none)::(C,.obj (bo prog 124 λ_=>none))::g.2.2) (λg=>g.1<=kd.fields.length/\ab 124 3 ((am k (fL x)++am g.1 (dL x k kd)).map MI) g.2.1 g.2.2) (λg=>kd.fields.length-g.1) (0,v,s) (ah aJ) (Sc.refl _) ⟨zW _,by simpa [am]using o⟩ ?_;clear o;rintro⟨f,v,s⟩ ⟨hf,o⟩;simp only at hf o⊢;by_cases Z:f<kd.fields.length
   .obtain⟨g,hg⟩:∃y,kd.fields[f]?=some y:=⟨_,zD Z⟩
    have hg':kd.fields[((f:Nat):Int).toNat]?=some g:=hg;have L:=gE f (dL x k kd);have hlen1:=fa (λk=>n8 x k (λk hk=>by have:=Y k hk;omega)) k;have hlen2:=fa (aZ4 x k kd) f;by_cases h1:g.kind=1
    .have hRF:dL x k kd f=[⟨k,f,aG x k f,g.lo⟩]:=by unfold dL;rw[hg];simp[h1]
     rw[hRF]at L
     repeat' first|refine bL ?_|intro b;conv=>whnf
     refine Ap.go rfl rfl rfl rfl o (Mu _ _ _ _ _ _) rfl (zs:=(am k (fL x)++am (f+1) (dL x k kd)).map MI) (by rw[L];simp only[yB,List.map_cons,List.map_nil,zV];rfl) (by rw[L];simp;omega) (by rw[L];simp;omega) (λs'=>_::_::_::_::_::s') (Pt _ _ _ _ _) (λa' c' s' hr'=>?_)
     repeat' first|refine bL ?_|intro b;conv=>whnf
     exact⟨(f+1,_,s'),(ah aJ),Sc.sl (yG _ _),⟨by simp only;omega,hr'⟩,by simp only;omega⟩
    .have hRF:dL x k kd f=[]:=by unfold dL;rw[hg];simp[h1]
     rw[hRF,zZ]at L
     repeat' first|refine bL ?_|intro b;conv=>whnf
     exact⟨(f+1,v,s),(ah aJ),Sc.sl (yG _ _),⟨by simp only;omega,by rw[L];exact o⟩,by simp only;omega⟩
   .obtain rfl:f=kd.fields.length:=by omega
    repeat' first|refine bL ?_|intro b;conv=>whnf
    exact⟨(k+1,v,s),(ah aJ),Sc.sl (yG _ _),⟨by simp only;omega,by rw[hSK,hRK];exact o⟩,by simp only;omega⟩
  .obtain rfl:k=x.kz.length:=by omega
   change ab 124 3 ((bJ x).map MI) v s at o
   repeat' first|refine bL ?_|intro b;conv=>whnf
   refine DJ (τ:=(c,.cells 122 (rT x w (gM (bJ x)) C D))::(D,.mp prog 9 λ_=>none)::(C,.obj (bo prog 124 λ_=>none))::[]) ((Sc.perm (List.Perm.cons _ (yT (l₁:=[_,_]) (l₂:=s)))).trans (Sc.frz (j:=5) rfl o (ec.refl _))) ?_;clear o;refine aO mixed ai (γ:=Nat) (λg=>[(81,iD g)]) (λ_=>(c,.cells 122 (rT x w (gM (bJ x)) C D))::(D,.mp prog 9 λ_=>none)::(C,.obj (bo prog 124 λ_=>none))::[]) (λg=>g<=w.length/\∀(k:Nat)l,k<g->w[k]?=some l->r0 x k l=true) (λg=>w.length-g) 0 (ah aJ) (Sc.refl _) ⟨zW _,λk l h=>by omega⟩ ?_;rintro k ⟨hk,G⟩;by_cases T:k<w.length
   .obtain⟨l,hl⟩:∃l,w[k]?=some l:=⟨_,zD T⟩
    have hl':w[((k:Nat):Int).toNat]?=some l:=hl;obtain⟨kd,I⟩:∃y,x.kz[k]?=some y:=⟨_,zD (by omega)⟩
    have hll:=hw.nr l (zG hl);have hlf:=hw.nf l (zG hl);have HR:APure prog 68 [gc l,.clo 69 [.ro (du x),.ro [iD k]]] (bD (l.any λr=>!dT x k r)):=QU l _ (by omega) (λy hy=>PB x k kd y I hl6 (by have:=hlf y hy;omega));have hany:(l.any λr=>!dT x k r)=!(l.all (dT x k)):=by rw[vJ];simp
    by_cases h5:512<l.length
    .have hb:r0 x k l=false:=by unfold r0;rw[yE (by omega)];rfl
     repeat' first|refine bL ?_|intro b;conv=>whnf
     exact Rt.by (Vs.drop (yV _)) (.inl ⟨oR hl hb,rfl,rfl⟩)
    .repeat' first|refine bL ?_|intro b;conv=>whnf
     refine CE.pk (iK.peek (.cons (Pk.same _) (.cons (Pk.clo (.cons (Pk.same _) (.cons (Pk.ptr (j:=0) rfl (kf.refl _)) .nil))) .nil)) HR rfl) ?_;clear HR;rw[hany];have hro:r0 x k l=l.all (dT x k):=by unfold r0;rw[yJ (by omega)];rfl
     cases hall:l.all (dT x k)with
     |true=>
      repeat' first|refine bL ?_|intro b;conv=>whnf
      refine⟨k+1,(ah aJ),Sc.sl (yG _ _),⟨by omega,λk' l' hk' S=>?_⟩,by omega⟩;by_cases e:k'=k
      .subst e;cases hl.symm.trans S;rw[hro];exact hall
      .exact G k' l' (by omega) S
     |false=>
      repeat' first|refine bL ?_|intro b;conv=>whnf
      exact Rt.by (Vs.drop (yV _)) (.inl ⟨oR hl (hro.trans hall),rfl,rfl⟩)
   .obtain rfl:k=w.length:=by omega
    have J:∀(k:Nat)l,w[k]?=some l->r0 x k l=true:=λk l h=>G k l (zE.1 h).1 h;clear G
    repeat' first|refine bL ?_|intro b;conv=>whnf
    refine aO mixed ai (γ:=Nat×(Value->Option Value)×ae) (λg=>[(100,iD g.1)]) (λg=>(c,.cells 122 (rT x w (gM (bJ x)) C D))::(D,.mp prog 9 λ_=>none)::(C,.obj (bo prog 124 g.2.1))::g.2.2) (λg=>g.1<=(bJ x).length/\gp w g.2.1 ((bJ x).take g.1) g.2.2/\∀(q:Nat)r l,q<g.1->(bJ x)[q]?=some r->w[r.kind]?=some l->∀y∈l,p8 w r y=true) (λg=>(bJ x).length-g.1) (0,(λ_=>none),[]) (ah aJ) (Sc.refl _) ⟨zW _,gp.nil _ _,λq r l h=>by simp at h⟩ ?_;rintro⟨q,F,M⟩ ⟨hq,hA,G⟩;simp only at hq hA G⊢;by_cases hql:q<(bJ x).length
    .obtain⟨r,hr⟩:∃r,(bJ x)[q]?=some r:=⟨_,zD hql⟩
     have hr':(bJ x)[((q:Nat):Int).toNat]?=some r:=hr;have hrm:=zG hr;obtain⟨u1,u2,u3⟩:=hS.up r hrm;obtain⟨l,hl⟩:∃l,w[r.kind]?=some l:=⟨_,zD (by omega)⟩
     obtain⟨E,Q⟩:∃l,w[r.up.toNat]?=some l:=⟨_,zD (by omega)⟩
     have hl':w[((r.kind:Nat):Int).toNat]?=some l:=hl;have hll:=hw.nr l (zG hl);have hlul:=hw.nr E (zG Q);obtain⟨kd,fd,I,hfd,_⟩:=aN5 hrm;have hrr:=uN (J _ _ hl);have hadj:mK w r=gW l r.field E.length:=by unfold mK;rw[cw hl,cw Q]
     repeat' first|refine bL ?_|intro b;conv=>whnf
     refine Mk.go E.length rfl rfl rfl rfl rfl (by simp) (by omega) (by omega) (λU=>?_)
     repeat' first|refine bL ?_|intro b;conv=>whnf
     have hR0:uX (gW (l.take 0) r.field E.length) (.slice (some ⟨U,0,none⟩) E.length E.length) [(U,.cells 22 (List.replicate E.length (.v (.slice none 0 0))))]:=by
      rw[List.take_zero,FQ];exact aC.made (R:=RI) (x0:=[]) (ab.nil _ _) _ U (by unfold maxLen;omega)
     refine pW (i:=15) (d:=.v (.pointer (some ⟨b,0,none⟩))) (d':=.ro (MI r)) (τ:=(U,.cells 22 (List.replicate E.length (.v (.slice none 0 0))))::(c,.cells 122 (rT x w (gM (bJ x)) C D))::(D,.mp prog 9 λ_=>none)::(C,.obj (bo prog 124 F))::M) rfl (λh=>by cases h) (Vs.ptr (tb:=124) (List.Perm.swap _ _ _)) ?_;refine aO mixed ai (γ:=Nat×ae) (λg=>[(117,iD g.1)]) (λg=>g.2++((c,.cells 122 (rT x w (gM (bJ x)) C D))::(D,.mp prog 9 λ_=>none)::(C,.obj (bo prog 124 F))::M)) (λg=>g.1<=l.length/\uX (gW (l.take g.1) r.field E.length) (.slice (some ⟨U,0,none⟩) E.length E.length) g.2/\∀(i:Nat)y,i<g.1->l[i]?=some y->p8 w r y=true) (λg=>l.length-g.1) (0,[(U,.cells 22 (List.replicate E.length (.v (.slice none 0 0))))]) (ah aJ) (Sc.refl _) ⟨zW _,hR0,λi y h=>by simp at h⟩ ?_;clear hR0;rintro⟨i,sr⟩ ⟨hi,hR,P⟩;simp only at hi hR P⊢;by_cases hil:i<l.length
     .obtain⟨y,hy⟩:∃y,l[i]?=some y:=⟨_,zD hil⟩
      have hy':l[((i:Nat):Int).toNat]?=some y:=hy;have hym:=zG hy;have hyl:=(si I (hrr.2 y hym)).1;have hyl2:=hw.nf l (zG hl) y hym;have hfl:=(zE.1 hfd).1;obtain⟨z,hz⟩:∃z,y[r.field]?=some z:=⟨_,zD (by omega)⟩
      have hz':y[((r.field:Nat):Int).toNat]?=some z:=hz;have O:p8 w r y=!(decide (z<0)||decide ((E.length:Int)<=z)):=by unfold p8;rw[cw hz,cw Q]
      by_cases hz0:z<0
      .have hbad:p8 w r y=false:=by rw[O,yJ hz0];rfl
       exact Nw
      .by_cases hz1:(E.length:Int)<=z
       .have hbad:p8 w r y=false:=by rw[O,yJ hz1,Bool.or_true];rfl
        exact Nw
       .have hgood:p8 w r y=true:=by rw[O,yE hz0,yE hz1];rfl
        obtain⟨v,rfl⟩:∃v:Nat,z=v:=⟨z.toNat,by omega⟩
        obtain⟨b0,cap0,K,u,t,τ,e0,p0,c0,hu,upo⟩:=aC.at hR (Sn (f:=r.field) (l.take i) (show v<E.length by omega));rw[NN]at e0
        cases e0
        obtain⟨a1,ca1,rfl⟩:=ab.slice hu;have hil2:(cS (l.take i) r.field v).length<=1000:=by
         rw[aN8];have:=List.countP_le_length (p:=λr':List Int=>decide (r'.getD r.field 0=(v:Int))) (l:=l.take i);rw[zR]at this;omega
        repeat' first|refine bL ?_|intro b;conv=>whnf
        refine Ld.cellm (tb:=22) (cs:=K) (xK _ (p0.mem_iff.2 yN)) (by rw[aR];exact c0) ?_
        repeat' first|refine bL ?_|intro b;conv=>whnf
        refine Ap.go rfl rfl rfl rfl hu (τ:=(U,.cells 22 K)::(τ++((c,.cells 122 (rT x w (gM (bJ x)) C D))::(D,.mp prog 9 λ_=>none)::(C,.obj (bo prog 124 F))::M))) Qv rfl (zs:=(cS (l.take i) r.field v++[(i:Int)]).map λn=>[iD n]) (by rw[yB];rfl) (by simp;omega) (by simp;omega) (λs2=>s2++((U,.cells 22 K)::(τ++((c,.cells 122 (rT x w (gM (bJ x)) C D))::(D,.mp prog 9 λ_=>none)::(C,.obj (bo prog 124 F))::M)))) (λs2=>zH _) (λa9 c9 s9 hr9=>?_)
        repeat' first|refine bL ?_|intro b;conv=>whnf
        refine Sv.cellm (tb:=22) (cs:=K) (cs':=K.set v (.v (.slice a9 ((cS (l.take i) r.field v++[(i:Int)]).map λn=>[iD n]).length c9))) (τ:=s9++(τ++((c,.cells 122 (rT x w (gM (bJ x)) C D))::(D,.mp prog 9 λ_=>none)::(C,.obj (bo prog 124 F))::M))) pa (by rw[aR];exact(zE.1 c0).1) rfl (by rw[aR]) ?_
        repeat' first|refine bL ?_|intro b;conv=>whnf
        have h8:=upo _ _ s9 ((U,.cells 22 (K.set v (.v (.slice a9 ((cS (l.take i) r.field v++[(i:Int)]).map λn=>[iD n]).length c9))))::(s9++τ)) hr9 (zH _);have hlt:(l.take i).length=i:=by rw[zR];omega
        have hsn:=y6 (rows:=l.take i) (r:=y) (f:=r.field) (n:=E.length) (v:=v) (cw hz 0);rw[hlt,←Q2 hy]at hsn;rw[←hsn]at h8;refine⟨(i+1,(U,.cells 22 (K.set v (.v (.slice a9 ((cS (l.take i) r.field v++[(i:Int)]).map λn=>[iD n]).length c9))))::(s9++τ)),(ah aJ),Sc.perm pa,⟨by simp only;omega,h8,λi' y' hi' hy2=>?_⟩,by simp only;omega⟩;by_cases e:i'=i
        .subst e;cases hy.symm.trans hy2;exact hgood
        .exact P i' y' (by omega) hy2
     .obtain rfl:i=l.length:=by omega
      rw[yM,←hadj]at hR;have hfl:=(zE.1 hfd).1;have Z:=Y kd (zG I);obtain⟨kl,T⟩:=rB (show(Lit.int .i64 (r.kind:Int)).wf=true from iY (by omega) (by omega)) (show(Lit.int .i64 (r.field:Int)).wf=true from iY (by omega) (by omega)) (show(Lit.int .i64 r.up).wf=true from iY (by omega) (by omega))
      repeat' first|refine bL ?_|intro b;conv=>whnf
      refine Ld.cellm (yW _ yN) rfl ?_
      repeat' first|refine bL ?_|intro b;conv=>whnf
      refine ce.mapUpdate (b:=C) (F:=F) (k:=124) (e:=70) (kv:=PH r) (kl:=kl) (τ:=sr++((c,.cells 122 (rT x w (gM (bJ x)) C D))::(D,.mp prog 9 λ_=>none)::M)) rfl rfl (pB0 _ _ _) rfl pa bb9 underlying119 T ?_
      repeat' first|refine bL ?_|intro b;conv=>whnf
      refine⟨(q+1,dC F (PH r) (.slice (some ⟨U,0,none⟩) E.length E.length),M++sr),(ah aJ),Sc.perm pa,⟨by simp only;omega,?_,λq' r' l' X V S y hy=>?_⟩,by simp only;omega⟩
      .rw[Q2 hr];refine hA.push hR λr' V=>?_;obtain⟨q',X⟩:=yO V;have hq2:=(zE.1 X).1;rw[zR]at hq2;rw[yX,if_pos (by omega)]at X;exact IJ X hr (by omega)
      .by_cases e:q'=q
       .subst e
        cases hr.symm.trans V
        cases hl.symm.trans S
        obtain⟨i,hi⟩:=yO hy;exact P i y (zE.1 hi).1 hi
       .exact G q' r' l' (by omega) V S y hy
    .obtain rfl:q=(bJ x).length:=by omega
     rw[yM]at hA;have hfit:cL x w=true:=EF hlen J λr hr l hl y hy=>by
      obtain⟨q,hq⟩:=yO hr;exact G q r l (zE.1 hq).1 hq hl y hy
     clear G J;have HB:=Ju x.lz;have hll:=hV.nl
     repeat' first|refine bL ?_|intro b;conv=>whnf
     refine tU (List.Perm.swap _ _ _) ?_;refine DM mixed ai rfl (yj x.lz (by omega)) (λy hy=>yk hy) rfl (γ:=Unit) (λm _=>(D,.mp prog 9 (kK (x.lz.drop (x.lz.length-m))))::(c,.cells 122 (rT x w (gM (bJ x)) C D))::(C,.obj (bo prog 124 F))::M) (λ_ _=>True) () (by rw[show kK (x.lz.drop (x.lz.length-0))=λ_=>none by rw[Nat.sub_zero,List.drop_length,JE]];exact bE) trivial ?_ ?_
     .rintro lb m _ y hy -;obtain⟨j,lf,h1,h2,rfl⟩:=aT2 hy;have hnm:=xn (hV.lz lf (zG h2));rw[show x.lz.length-m=j+1 by omega]
      repeat' first|refine bL ?_|intro b;conv=>whnf
      refine ce.mapUpdateM (d:=cZ lf) (b:=D) (k:=9) (e:=93) (kv:=.string lf.name) (τ:=(b,.cells 93 (bX lf))::(c,.cells 122 (rT x w (gM (bJ x)) C D))::(C,.obj (bo prog 124 F))::M) rfl rfl (g7.v _) rfl (List.Perm.swap _ _ _) (string_keyed underlying9) underlying120 (vB underlying9 (by unfold maxLen;omega)) ?_
      repeat' first|refine bL ?_|intro b;conv=>whnf
      rw[DI,←J8 h2];exact⟨(),by rw[show x.lz.length-(m+1)=j by omega];exact List.Sublist.cons_cons _ (yG _ _),trivial⟩
     .rintro _ -;rw[show x.lz.length-(ic x.lz).length=0 by rw[aT1];omega,List.drop_zero]
      repeat' first|refine bL ?_|intro b;conv=>whnf
      exact Rt.by (Vs.perm (τ:=(c,.cells 122 (gj x w (bJ x) C D (.slice none 0 0)))::(C,.obj (bo prog 124 F))::(D,.mp prog 9 (kK x.lz))::M) (by refine cV λa=>?_;simp only[cU,Qx];omega)) (.inr ⟨hfit,c,C,D,F,M,rfl,rfl,hA⟩)
 .repeat' first|refine bL ?_|intro b;conv=>whnf
  exact Rt.by (Vs.drop (yV _)) (.inl ⟨oS hlen,rfl,rfl⟩)
end
section
open Go
variable{x:ak}{k f:Nat}{kd:aq}{d:an}
def uj(h:x.kz[k]?=some kd)(a:kd.fields[f]?=some d):fieldAt x k f=some d:=by
 simp[fieldAt,dN,h,a]
def FX(h:x.kz[k]?=some kd):dN x k=some kd:=by simp[dN,h]
def sZ(h:dJ x=[])(b:x.kz[k]?=some kd)(c:kd.fields[f]?=some d)(g:d.kind=4):dz d.of=true\/∃q:Nat,bb kd d.of=q/\q<f:=by
 have a:=(RX h b c).2;unfold cP at a;rw[if_neg (by omega),if_neg (by omega),if_neg (by omega),if_pos g]at a;unfold rN at a;rw[FX b]at a;simp only at a
 cases e:dz d.of with
 |true=>exact .inl rfl
 |false=>
  rw[if_neg (by rw[e];decide)]at a;split at a
  .omega
  .exact .inr ⟨(bb kd d.of).toNat,by omega,by omega⟩
def nF(h:dJ x=[])(b:x.kz[k]?=some kd)(c:kd.fields[f]?=some d)(e:d.kind=5):x.lz.any (λl=>seq l.name d.of)=true:=by
 have a:=(RX h b c).2;unfold cP at a;rw[if_neg (by omega),if_neg (by omega),if_neg (by omega),if_neg (by omega),if_pos e]at a;split at a
 .assumption
 .omega
def xX:=@Int.toNat_of_nonneg
def qm(c:x.kz[k]?=some kd)(m:kd.fields[f]?=some d)(n:d.kind=7\/d.kind=8)(a:0<=aG x k f):∃(u:Nat)(g:an),bb kd d.up=u/\u<f/\kd.fields[u]?=some g/\g.kind=1/\aG x k u=aG x k f:=by
 have e:aG x k f=yt x k (Sj x k f d):=by unfold aG;rw[uj c m];simp only;rw[if_pos n]
 rw[e]at a;have j:Sj x k f d=Fs (bb kd d.up) f (fieldAt x k (bb kd d.up)):=by unfold Sj;rw[FX c]
 cases h:fieldAt x k (bb kd d.up)with
 |none=>rw[j,h]at a;simp[Fs,yt]at a
 |some g=>
  rw[j,h]at a;by_cases h2:bb kd d.up<(f:Int)/\g.kind=1
  .have i:0<=bb kd d.up:=by
    by_cases i:0<=bb kd d.up
    .exact i
    .unfold fieldAt at h;rw[FX c]at h;simp only at h;rw[if_neg i]at h;cases h
   obtain⟨u,b⟩:∃u:Nat,bb kd d.up=u:=⟨_,(xX i).symm⟩
   have l:kd.fields[u]?=some g:=by rw[b]at h;unfold fieldAt at h;rw[FX c]at h;simpa using h
   refine⟨u,g,b,by omega,l,h2.2,?_⟩;rw[e,j,h];unfold aG;rw[uj c l];simp only[Fs,if_pos h2,yt];rw[if_neg (by omega),if_pos h2.2]
  .rw[Fs,if_neg h2]at a;simp[yt]at a
def s4(h:dJ x=[])(b:x.kz[k]?=some kd)(c:kd.fields[f]?=some d)(e:d.kind=7\/d.kind=8):0<=aG x k f/\GQ x k f d (aG x k f)=0:=by
 have a:=(RX h b c).2;unfold cP at a;rw[if_neg (by omega),if_neg (by omega),if_neg (by omega),if_neg (by omega),if_neg (by omega),if_neg (by omega)]at a;refine⟨?_,a⟩;unfold GQ at a;split at a
 .omega
 .omega
def nH(h:dJ x=[])(c:x.kz[k]?=some kd)(i:kd.fields[f]?=some d)(j:d.kind=8) :
  ∃(u:Nat)(g:an)(o:Nat)(a:aq)(q:Nat),bb kd d.up=u/\u<f/\kd.fields[u]?=some g/\g.kind=1/\aG x k u=o/\x.kz[o]?=some a/\bb a d.of=q/\q<a.fields.length:=by
 obtain⟨l,b⟩:=s4 h c i (.inr j);obtain⟨u,g,t,s,r,p,n⟩:=qm c i (.inr j) l;obtain⟨o,a,m,e⟩:=sM x k f l;have y:¬bb a d.of<0:=by
  intro v;unfold GQ at b;rw[if_neg (by omega),if_neg (by omega)]at b;have:cz x k f d=(-1,zf):=by
   unfold cz im;rw[if_neg (by omega),m,FX e];simp only;unfold fieldAt;rw[FX e];simp only;rw[if_neg (by omega)]
  rw[this,if_pos (.inl (by decide))]at b;omega
 have w:bb a d.of<a.fields.length:=GU _ _;exact⟨u,g,o,a,(bb a d.of).toNat,t,s,r,p,by rw[n,m],e,by omega,by omega⟩
def sY(h:dJ x=[])(v:x.kz[k]?=some kd)(w:kd.fields[f]?=some d)(C:d.kind=6) :
  ∃(o s:Nat)(a:aq)(g:an)(u:Nat)(r:an),j8 x k f=((o:Int),(s:Int))/\x.kz[o]?=some a/\a.fields[s]?=some g/\bb a g.up=u/\a.fields[u]?=some r/\r.kind=1/\aG x o u=k:=by
 have c:=(RX h v w).2;unfold cP at c;rw[if_neg (by omega),if_neg (by omega),if_neg (by omega),if_neg (by omega),if_neg (by omega),if_pos C]at c;split at c
 .omega
 rename_i i;split at c
 .rename_i e;unfold gJ at i e;split at i
  .simp at i
  rename_i y;rw[if_neg y]at e;simp only at i e;have B:bi x d.of<x.kz.length:=GU _ _;obtain⟨o,t⟩:∃o:Nat,bi x d.of=o:=⟨_,(xX (by omega)).symm⟩
  obtain⟨a,b⟩:∃a,x.kz[o]?=some a:=⟨_,zD (by omega)⟩
  obtain⟨s,p⟩:=List.length_eq_one_iff.1 e;have m:s∈Ai x k d:=by rw[p];exact zN.2 rfl
  unfold Ai at m;rw[t,FX b]at m;simp only[xM,vP,xT]at m;obtain⟨n,⟨l,q⟩,rfl⟩:=m;obtain⟨g,j⟩:∃g,a.fields[n]?=some g:=⟨_,zD l⟩
  rw[j]at q;simp only[zJ,zQ]at q;obtain⟨⟨A,H⟩,z⟩:=q;obtain⟨u,r,G,I,F,E,D⟩:=qm b j (.inl A) (by omega);refine⟨o,n,a,g,u,r,?_,b,j,G,F,E,by rw[D,z]⟩;unfold j8;rw[uj v w];simp only;unfold gJ;rw[if_neg y,p,t]
  rfl
 .omega
def nG(h:dJ x=[]){i:Nat}{q:cH}(e:x.rules[i]?=some q)(j:bi x q.kind=(k:Int))(d:x.kz[k]?=some kd):(dz q.a=true\/0<=bb kd q.a)/\(dz q.b=true\/0<=bb kd q.b):=by
 have a:j5 x i q=0:=by
  have b:=h;unfold dJ at b;split at b
  .simp only[vN]at b;have g:=aY2 b.2 i (zE.1 e).1;simp only[mZ,e]at g;exact tO g
  .cases b
 unfold j5 at a;rw[j,FX d]at a;simp only at a;have y:∀nm:ByteArray,fC x kd k nm=false->dz nm=true\/0<=bb kd nm:=λnm n=>by
  unfold fC at n
  cases l:dz nm with
  |true=>exact .inl rfl
  |false=>
   rw[l]at n;refine .inr ?_;by_cases h3:0<=bb kd nm
   .exact h3
   .exfalso;have:iC x k (bb kd nm)=(zf,false):=by unfold iC fieldAt;rw[FX d];simp only;rw[if_neg h3]
    rw[this]at n
    cases n
 cases c:fC x kd k q.a with
 |true=>
  exfalso;rw[c,Bool.true_or]at a;generalize pI x i q=t at a
  cases t<;>simp[j7]at a
 |false=>
  cases f:fC x kd k q.b with
  |true=>
   exfalso;rw[c,f,Bool.or_true]at a;generalize pI x i q=t at a
   cases t<;>simp[j7]at a
  |false=>exact⟨y _ c,y _ f⟩
end
section
open Go Go.Maps Go.MapKept
def sI(w:World):(zeroValue 70).run prog w= .ok (.slice none 0 0) w:=by kernel_rfl
variable{x:ak}{w:Wd}
def GB(h:cL x w=true):w.length=x.kz.length/\(∀(k:Nat)l,w[k]?=some l->r0 x k l=true)/\∀r∈bJ x,∀l,w[r.kind]?=some l->∀y∈l,p8 w r y=true:=by
 unfold cL at h;simp only[zJ,zQ,yA]at h;obtain⟨⟨f,e⟩,d⟩:=h;refine⟨f,λk l a=>?_,λr c l a y b=>?_⟩
 .have:=e k (xT.2 (zE.1 a).1)
  rwa [cw a]at this
 .have:=d r c y;rw[cw a]at this;exact this b
def aG6(x:ak)(w:Wd)(r:Rf)(j:Nat):(eD x w r j).length<=1:=by unfold eD;split;exact Ad ..;simp
def kX(a:Ws w)(q:Nat):(pm x w q).length<=1000:=by
 unfold pm;split
 .rename_i r b;have d:=fa (aG6 x w r) (w.getD r.up.toNat []).length;have c:(w.getD r.up.toNat []).length<=1000:=by
   cases h:w[r.up.toNat]? with
   |none=>rw[List.getD_eq_getElem?_getD,h];simp
   |some l=>rw[cw h];exact a.nr l (zG h)
  omega
 .simp
def aF7(x:ak)(w:Wd)(k:Nat):(fN x w k).length<=1:=by unfold fN;split;exact Ad ..;simp
def Sq(x:ak)(w:Wd)(k:Nat)(kd:aq)(l:List (List Int))(i:Nat)(r:List Int)(f:Nat):(fQ x w k kd l i r f).length<=1:=by unfold fQ;split;exact Ad ..;simp
variable{A B:Prop}
def bq6(k:B)(h:ar B->A:=by intro q7;(first|refine bh ?_|refine aE ?_|(refine' aj ?hc ?_;(case hc=>first|exact GE _ _|exact HN)));exact q7.1):A:=h ⟨k⟩
def Mm(k:B)(h:ar B->A:=by intro q7;(first|refine vl ?_|(with_reducible refine Dr.r ?_)|refine RF ?_);exact q7.1):A:=h ⟨k⟩
def bq5(k:B)(h:ar B->A:=by intro q7;(first|refine bh ?_|refine Mm ?_|(refine' aj ?hc ?_;(case hc=>first|exact GE _ _|exact HN)));exact q7.1):A:=h ⟨k⟩
end
section
open Go Go.Maps Go.MapKept
variable{p:Prop}
def ZQ(h:p:=by
 refine ap func225 ntmps225 λBB=>?_
 repeat refine gy ?_
 refine gD mixed ai (γ:=Nat) (λk=>[(8,iD k)]) (λ_=>[]) (λk=>k<=l.length/\∀i y,i<k->l[i]?=some y->p y=false) (λk=>l.length-k) 0 rfl rfl ⟨by omega,by omega⟩ ?_;rintro k ⟨hk,hno⟩;by_cases hlt:k<l.length
 .obtain⟨y,hy⟩:∃y,l[(k:Int).toNat]?=some y:=⟨_,zD hlt⟩
  repeat' first|refine gy ?_|(refine aZ ?_;constructor<;>intro hc)
  .refine Rt.pure (zM iD ?_);exact(K' hy ‹_› hno).symm
  .exact⟨k+1,rfl,rfl,⟨by omega,λi z hi hz=>by
    by_cases e:i=k
    .subst e;rw[show((i:Int)).toNat=i from rfl,hz]at hy;cases hy;assumption
    .exact hno i z (by omega) hz⟩,by omega⟩
 .repeat refine gy ?_
  refine Rt.pure (zM iD ?_);exact(R1 λi y hy=>hno i y (by have:=(zE.1 hy).1;omega) hy).symm):p:=h
variable{f:FuncId}{c1:List D}
def PX(l:List (Int×Int))(p:Int×Int->Bool)(hl:l.length<=1000000)(hp:∀y∈l,APure prog f [.agg (cE y),.ro c1] (bD (p y))):APure prog 225 [.sl 2 (l.map cE),.clo f [.ro c1]] (iD (idx p l)):=ZQ
def TP{A B:Prop}(k:B)(h:ar B->A:=by intro q7;(first|refine bh ?_|refine aE ?_|(refine' aj ?hc ?_;(case hc=>exact PX l p hl hp)));exact q7.1):A:=h ⟨k⟩
def KR(l:List (Int×Int))(p:Int×Int->Bool)(hl:l.length<=1000000)(hp:∀y∈l,APure prog f [.agg (cE y),.ro c1] (bD (p y))):APure prog 169 [.sl 2 (l.map cE),.clo f [.ro c1]] (bD (l.any p)):=by
 refine ap func169 ntmps169 λa=>?_
 repeat refine TP ?_
 refine Rt.pure (zM bD ?_);exact uK p l
def FG{α:Type}(l:List α)(p:α->Bool):(l.any λa=>!p a)=!l.all p:=by rw[vJ,Bool.not_not]
def xo(n:Nat)(m:Int×Int):APure prog 170 [.agg (cE m),.ro [iD n]] (bD (!ch n m)):=by
 refine ap func170 ntmps170 λa=>?_
 repeat' first|refine aV ?_|(refine aZ ?_;constructor<;>intro hc)
 .refine Rt.pure (zM bD ?_);unfold ch cF;simp only[Bool.true_eq,xJ,Bool.and_eq_false_iff,xF];split at hc<;>omega
 .refine Rt.pure (zM bD ?_);unfold ch cF;rw[Bool.eq_iff_iff];simp only[zQ,xJ,Bool.and_eq_false_iff,xF];split at hc<;>split<;>omega
def UH(l:bG):Int:=if 12<l.tz.length\/32<l.mz.length then 4 else if l.tz.length=0\/l.mz.all (ch l.tz.length)=false then 1 else 0
def PG(l:bG):decide (UH l=0)=Rk l:=by
 unfold UH Rk;split
 .rename_i h;rw[yE (by decide)];rcases h with h|h
  .rw[yE (show ¬l.tz.length<=12 by omega)];rfl
  .rw[yE (show ¬l.mz.length<=32 by omega)];simp
 .rename_i h;split
  .rename_i a;rw[yE (by decide)];rcases a with a|a
   .rw[a];simp
   .rw[a];simp
  .rename_i a;have b:l.mz.all (ch l.tz.length)=true:=by
    cases e:l.mz.all (ch l.tz.length)with
    |true=>rfl
    |false=>exact absurd (.inr e) a
   rw[b,yJ (show l.tz.length<=12 by omega),yJ (show l.mz.length<=32 by omega),yJ (show l.tz.length≠0 by omega)];rfl
def Zo(h:p:=by
 repeat' first|refine aV ?_|intro b;conv=>whnf
 (refine CE.pk (iK.peek (.cons (Pk.same _) (.cons (Pk.clo (.cons (Pk.ptr (j:=0) rfl (kf.refl _)) .nil)) .nil)) HK rfl) ?_)
 repeat' first|refine aV ?_|intro b;conv=>whnf
 exact Rt.pure rfl):p:=h
def DT(l:bG)(h1:l.tz.length<=1000000)(h2:l.mz.length<=1000000):APure prog 121 [cZ l] (iD (UH l)):=by
 have HK:APure prog 169 [.sl 2 (l.mz.map cE),.clo 170 [.ro [iD ((l.tz.map λ(x:ByteArray)=>[sD x]).length:Nat)]]] (bD (!l.mz.all (ch l.tz.length))):=by
  rw[zL];exact FG l.mz (ch l.tz.length) ▸ KR _ _ (by omega) λy _=>xo _ y
 refine ap func121 ntmps121 λa=>?_;unfold UH;by_cases h3:12<l.tz.length\/32<l.mz.length
 .rw[if_pos h3]
  repeat' first|refine aV ?_|intro b;conv=>whnf|(refine aZ ?_;constructor<;>intro hc)
  all_goals first|exact Rt.pure rfl|(exfalso;omega)
 .rw[if_neg h3];by_cases h4:l.tz.length=0
  .rw[if_pos (.inl h4)]
   repeat' first|refine aV ?_|intro b;conv=>whnf
   exact Rt.pure rfl
  .cases h5:l.mz.all (ch l.tz.length)with
   |false=>
    rw[h5]at HK;rw[if_pos (.inr rfl)];exact Zo
   |true=>
    rw[h5]at HK;rw[if_neg (by simpa using h4)];exact Zo
end
section
open Go Go.Maps Go.MapKept
def Ac{P:Program}{σ:ae}{ρ:Operand->D}{T:TypeId->Option TI}(g:∀t i,T t=some i->aH P t=some i){o:Oper}{t:TypeId}{x a:Operand}{b f n:Nat}{k:IntKind}{j:Int}{l:Bool}{i:TI}(c:o.op= .indexAddr t x a)(hx:ρ x= .v (.pointer (some ⟨b,f,none⟩)))(d:ρ a= .v (.int k j))(h:T t=some i)(e:i.arr=some (n,l,1))(p:0<=j)(m:j.toNat<n):Yd P o ρ σ (.v (.pointer (some ⟨b,f+j.toNat,none⟩))):=
 iE g c hx d h e (by omega) m rfl
def rx(l:bG)(s:Int):List Int:=(l.mz.filter λm=>decide (m.1=s)).map λm=>m.2
def ru(l:bG)(s:Nat):decide ((rx l s).length=0)=FU l s:=by
 unfold rx FU;rw[zL]
 cases h:l.mz.any λm=>decide (m.1=(s:Int))with
 |false=>
  rw[List.any_eq_false]at h;rw[List.filter_eq_nil_iff.2 λm a=>h m a];rfl
 |true=>
  rw[wC]at h;obtain⟨m,a,h⟩:=h;have:0<(l.mz.filter λm=>decide (m.1=(s:Int))).length:=xS.2 (List.ne_nil_of_mem (vP.2 ⟨a,h⟩));rw[yE (by omega)];rfl
def DV(l:bG)(s:Int)(hl:l.mz.length<=1000):APure prog 122 [cZ l,iD s] (bv (rx l s)):=by
 refine ap func122 ntmps122 λu=>?_
 repeat' first|refine aV ?_|intro b;conv=>whnf
 refine aO mixed ai (γ:=Nat×Value×ae) (λg=>[(5,.v g.2.1),(11,iD g.1)]) (λg=>g.2.2) (λg=>g.1<=l.mz.length/\iI 3 iD (((l.mz.take g.1).filter λm=>decide (m.1=s)).map λm=>m.2) g.2.1 g.2.2) (λg=>l.mz.length-g.1) (0,.slice none 0 0,[]) (ah aJ) (Sc.refl _) ⟨zW _,ab.nil _ _⟩ ?_;rintro⟨j,v,r⟩ ⟨hj,w⟩;simp only at hj w⊢;by_cases hjl:j<l.mz.length
 .obtain⟨m,e⟩:∃m,l.mz[j]?=some m:=⟨_,zD hjl⟩
  have o:l.mz[((j:Nat):Int).toNat]?=some m:=e;have k:=Q2 e;have n:((l.mz.take j).filter λm=>decide (m.1=s)).length<=1000:=xH (List.length_filter_le ..) (by rw[zR];omega);have a:((l.mz.take (j+1)).filter λm=>decide (m.1=s)).length<=1000:=xH (List.length_filter_le ..) (by rw[zR];omega);by_cases h:m.1=s
  .repeat' first|refine aV ?_|intro b;conv=>whnf|((with_reducible refine' Ot.yd ?hydn ?_);(case hydn=>(refine Ac ai rfl rfl rfl rfl rfl ?_ ?_<;>omega)))
   refine Ap.go rfl rfl rfl rfl w (GN _ _) rfl (zs:=(((l.mz.take (j+1)).filter λm=>decide (m.1=s)).map λm=>m.2).map λb=>[iD b]) (by rw[k,vZ,yB,yB];simp[h]) (by simp;omega) (by simp;omega) (λi=>_::i) (N5 _) (λt q f h3=>?_)
   repeat' first|refine aV ?_|intro b;conv=>whnf|((with_reducible refine' Ot.yd ?hydn ?_);(case hydn=>(refine Ac ai rfl rfl rfl rfl rfl ?_ ?_<;>omega)))
   exact⟨(j+1,_,f),(ah aJ),Sc.sl (yG _ _),⟨by simp only;omega,h3⟩,by simp only;omega⟩
  .repeat' first|refine aV ?_|intro b;conv=>whnf|((with_reducible refine' Ot.yd ?hydn ?_);(case hydn=>(refine Ac ai rfl rfl rfl rfl rfl ?_ ?_<;>omega)))
   exact⟨(j+1,v,r),(ah aJ),Sc.sl (yG _ _),⟨by simp only;omega,by rw[k,vZ];simpa [h]using w⟩,by simp only;omega⟩
 .obtain rfl:j=l.mz.length:=by omega
  rw[yM]at w
  repeat' first|refine aV ?_|intro b;conv=>whnf
  exact Rt.vs (Vs.row w (by simp:r.Perm (r++[])))
def gu(N:Nat->Bool):List D:=(List.range 12).map λi=>bD (N i)
def aA0(N:Nat->Bool):(gu N).length=12:=by simp[gu]
variable{j:Nat}
def aA1(N:Nat->Bool)(h:j<12):(gu N)[j]?=some (bD (N j)):=by unfold gu;rw[qA,xV h];rfl
def lh(N:Nat->Bool)(h:j<12)(b:Bool):(gu N).set j (bD b)=gu λi=>if i=j then b else N i:=by
 refine xY λi=>?_;by_cases hi:i<12
 .rw[aA1 _ hi];by_cases e:i=j
  .subst e;rw[xI (by rw[aA0];exact hi),if_pos rfl]
  .rw[wN (Ne.symm e),aA1 _ hi,if_neg e]
 .rw[yY.2 (by rw[yR,aA0];omega),yY.2 (by rw[aA0];omega)]
def gQ(n:Nat)(new o:Nat->Bool)(j:Nat):List Bool:=(List.range n).map λi=>if i<j then new i else o i
def xi(n:Nat)(new o:Nat->Bool):gQ n new o 0=(List.range n).map o:=by unfold gQ;exact List.map_congr_left λi _=>if_neg (Nat.not_lt_zero i)
def xj(n:Nat)(new o:Nat->Bool):gQ n new o n=(List.range n).map new:=by unfold gQ;exact List.map_congr_left λi h=>if_pos (xT.1 h)
def DE{n:Nat}(new o:Nat->Bool)(h:j<n):(gQ n new o j)[j]?=some (o j):=by unfold gQ;rw[qA,xV h];simp
def bb8(n:Nat)(new o:Nat->Bool)(j:Nat):(gQ n new o j).length=n:=by simp[gQ]
def DD{n:Nat}(new o:Nat->Bool)(h:j<n):(gQ n new o j).set j (new j)=gQ n new o (j+1):=by
 refine xY λi=>?_;by_cases hi:i<n
 .have a:∀q,(gQ n new o q)[i]?=some (if i<q then new i else o i):=λq=>by unfold gQ;rw[qA,xV hi];rfl
  rw[a];by_cases e:i=j
  .subst e;rw[xI (by rw[bb8];exact hi),if_pos (by omega)]
  .rw[wN (Ne.symm e),a];by_cases h2:i<j
   .rw[if_pos h2,if_pos (by omega)]
   .rw[if_neg h2,if_neg (by omega)]
 .rw[yY.2 (by rw[yR,bb8];omega),yY.2 (by rw[bb8];omega)]
def bi0(a b c d:Nat×ax):[d,a,b,c].Perm [a,b,c,d]:=ya
def aR0(a b c d:Nat×ax):[a,b,c,d].Perm [d,a,b,c]:=ya
def TN{A B:Prop}(k:B)(h:ar B->A:=by intro q7;(first|refine bh ?_|refine jh ?_|(refine' aj ?hc ?_;(case hc=>fail)));exact q7.1):A:=h ⟨k⟩
variable{p:Prop}
def bD1(h:p:=by rw[aR];exact(zE.1 hc5).1):p:=h
def EU(h:p:=by
 simp only[Bool.true_or,Bool.false_or,Bool.true_and,Bool.false_and,Bool.or_self,Bool.or_false,Bool.or_true]at hnj;rw[hnj]at hw
 repeat' first|refine aV ?_|((with_reducible refine' Ot.yd ?hydn ?_);(case hydn=>(refine Ac ai rfl rfl rfl rfl rfl ?_ ?_<;>omega)))|((refine' Ld.cellm (tb:=4) (cs:=cs5) ?hq1 ?hq2 ?_);(case hq1=>(simp;done));(case hq2=>(rw[aR];exact hc5)))|((refine' Ld.cellm (tb:=227) (cs:=gu N) ?hq1 ?hq2 ?_);(case hq1=>(simp;done));(case hq2=>(rw[xD,Int.toNat_natCast];exact g1)))|((refine' Ld.cellm (tb:=227) (cs:=gu E) ?hq1 ?hq2 ?_);(case hq1=>(simp;done));(case hq2=>(rw[xD,Int.toNat_natCast];exact g2)))|(refine Sv.cellm (tb:=4) (cs:=cs5) (τ:=[(b6,.cells 227 (gu N)),(b9,.cells 166 [.v (.slice (some ⟨b5,0,none⟩) n cap)]),(b7,.cells 227 (gu E))]) (aR0 _ _ _ _) bD1 rfl (by rw[aR]) ?_)
 refine⟨(j+1,_),(ah aJ),Sc.perm (bi0 _ _ _ _),⟨by simp only;omega,hw⟩,by simp only;omega⟩):p:=h
def xq(m n:Nat)(y:n<=12)(z:m<=2000)(N E b:Nat->Bool)(lo:Int)(b9 b7:Nat)(v:Value)(s:ae)(r:iI 4 bD ((List.range n).map b) v s) :
  az prog 124 [iD m,.agg (gu N),.v (.pointer (some ⟨b9,0,none⟩)),.ro [iD lo],.v (.pointer (some ⟨b7,0,none⟩))] ((b9,.cells 166 [.v v])::(b7,.cells 227 (gu E))::s)
   (λd σ'=>∃k,d=bD true/\σ'=(b9,.cells 166 [.v v])::(b7,.cells 227 (gu E))::k/\iI 4 bD ((List.range n).map λi=>b i||(N i&&(decide (lo<=(m:Int))||E i))) v k):=by
 obtain⟨a,cap,rfl⟩:=ab.slice r;rw[zL,zL,vU]at *;obtain⟨new,w⟩:∃new:Nat->Bool,new=λi=>b i||(N i&&(decide (lo<=(m:Int))||E i)):=⟨_,rfl⟩
 rw[←w];refine dB func124 ntmps124 λC=>?_
 repeat refine TN ?_
 refine Bx.r ?_;refine ce.box (t:=227) rfl rfl (λb6=>?_)
 repeat refine aV ?_
 refine aO mixed ai (γ:=Nat×ae) (λg=>[(11,iD g.1)]) (λg=>(b6,.cells 227 (gu N))::(b9,.cells 166 [.v (.slice a n cap)])::(b7,.cells 227 (gu E))::g.2) (λg=>g.1<=n/\iI 4 bD (gQ n new b g.1) (.slice a n cap) g.2) (λg=>n-g.1) (0,s) (ah aJ) (Sc.refl _) ⟨zW _,by rw[xi];exact r⟩ ?_;rintro⟨j,s⟩ ⟨hj,h⟩;simp only at hj h⊢;by_cases hjn:j<n
 .have e:=DD new b hjn;have g1:=aA1 N (j:=j) (by omega);have g2:=aA1 E (j:=j) (by omega);obtain⟨b5,q,cs5,l,rfl,hc5,f⟩:=aZ0 h (DE new b hjn);obtain⟨rfl,_,rfl⟩:=Value.slice.inj l;clear l;have hw:=f (new j);rw[e]at hw;have hnj:new j=(b j||(N j&&(decide (lo<=(m:Int))||E j))):=by rw[w]
  generalize b j=o at *;generalize N j=u at *;generalize E j=x at *
  cases o with
  |true=>exact EU
  |false=>
   cases u with
   |false=>exact EU
   |true=>
    by_cases hlo:lo<=(m:Int)
    .rw[yJ hlo]at hnj;exact EU
    .rw[yE hlo]at hnj
     cases x with
     |false=>exact EU
     |true=>exact EU
 .obtain rfl:j=n:=by omega
  rw[xj]at h
  repeat refine aV ?_
  exact Rt.by (Vs.drop (yG _ _)) ⟨s,rfl,rfl,h⟩
end
section
open Go Go.Maps Go.MapKept
def fk(l:bG)(m i:Nat):Bool:=(pZ l m).getD i false
def LX(l:bG)(m j:Nat):List Bool:=(l.mz.take j).foldl (λn q=>if(pZ l m).getD q.1.toNat false then n.set q.2.toNat true else n) (List.replicate 12 false)
def Aw(l:bG)(m j i:Nat):Bool:=(LX l m j).getD i false
def Ig(l:bG)(m j:Nat):(LX l m j).length=12:=by
 unfold LX;generalize l.mz.take j=s;have:∀(s:List (Int×Int))(x:List Bool),(s.foldl (λn q=>if(pZ l m).getD q.1.toNat false then n.set q.2.toNat true else n) x).length=x.length:=by
  intro s
  induction s with
  |nil=>intro x;rfl
  |cons q s i=>intro x;rw[List.foldl_cons,i];split<;>simp
 rw[this];simp
variable{l:bG}{q:Int×Int}{j m:Nat}
def nD(h:l.mz[j]?=some q):LX l m (j+1)=if fk l m q.1.toNat then(LX l m j).set q.2.toNat true else LX l m j:=by
 unfold LX fk;rw[Q2 h,List.foldl_append];rfl
def v6(h:l.mz[j]?=some q)(n:fk l m q.1.toNat=true)(a:q.2.toNat<12):Aw l m (j+1)=λi=>if i=q.2.toNat then true else Aw l m j i:=by
 funext i
 unfold Aw;rw[nD h,if_pos n,List.getD_eq_getElem?_getD,List.getD_eq_getElem?_getD];by_cases e:i=q.2.toNat
 .rw[if_pos e,e,xI (by rw[Ig];exact a)];rfl
 .rw[if_neg e,wN (Ne.symm e)]
def A6(h:l.mz[j]?=some q)(n:fk l m q.1.toNat=false):Aw l m (j+1)=Aw l m j:=by
 funext i
 unfold Aw;rw[nD h,if_neg (by rw[n];decide)]
def v8(l:bG)(m:Nat):Aw l m l.mz.length=fk l (m+1):=by
 funext i
 unfold Aw fk LX;rw[yM];rfl
def jk(l:bG)(lo:Int)(E:Nat->Bool)(m:Nat)(i:Nat):Bool:=(List.range m).any λq=>fk l q i&&(decide (lo<=(q:Int))||E i)
def xf(l:bG)(lo:Int)(E:Nat->Bool)(m:Nat):(λi=>jk l lo E m i||(fk l m i&&(decide (lo<=(m:Int))||E i)))=jk l lo E (m+1):=by
 funext i
 unfold jk;rw[List.range_succ,List.any_append];simp
def Ps(a b c:Nat×ax)(s:ae):(a::b::c::s).Perm ((b::c::s)++[a]):=ya
def Pr(z a b c:Nat×ax)(s:ae):(z::((b::c::s)++[a])).Perm (z::a::b::c::s):=ya
def Pp(a b:Nat×ax)(s:ae):(a::b::s).Perm (b::a::s):=List.Perm.swap _ _ _
def Po(a b:Nat×ax)(s:ae):(b::a::s).Perm ((b::s)++[a]):=ya
def xp(l:bG)(D:l.mz.length<=32)(u:∀q∈l.mz,(0<=q.1/\q.1<12)/\(0<=q.2/\q.2<12))(hi:Nat)(L:hi<=1000)(n:Nat)(C:n<=12)(E:Nat->Bool)(lo:Int)(a e:Nat)(v:Value)(s:ae)(y:iI 4 bD ((List.range n).map (jk l lo E 0)) v s) :
  az prog 123 [cZ l,iD hi,.clo 124 [.v (.pointer (some ⟨a,0,none⟩)),.ro [iD lo],.v (.pointer (some ⟨e,0,none⟩))]] ((a,.cells 166 [.v v])::(e,.cells 227 (gu E))::s)
   (λd σ'=>∃f,d= .v (.tuple #[])/\σ'=(a,.cells 166 [.v v])::(e,.cells 227 (gu E))::f/\iI 4 bD ((List.range n).map (jk l lo E (hi+1))) v f):=by
 refine dB func123 ntmps123 λM=>?_
 repeat' first|refine aV ?_|intro b;conv=>whnf
 obtain⟨r,rfl⟩:∃r,r=b:=⟨_,rfl⟩
 refine aO mixed ai (γ:=Nat×ae) (λg=>[(7,iD g.1)]) (λg=>(r,.cells 227 (gu (fk l g.1)))::(a,.cells 166 [.v v])::(e,.cells 227 (gu E))::g.2) (λg=>g.1<=hi+1/\iI 4 bD ((List.range n).map (jk l lo E g.1)) v g.2) (λg=>hi+1-g.1) (0,s) (ah aJ) (Sc.refl _) ⟨zW _,y⟩ ?_;rintro⟨m,s⟩ ⟨F,h⟩;simp only at F h⊢;by_cases hmh:m<=hi
 .have R:=xq m n C (by omega) (fk l m) E (jk l lo E m) lo a e v s h;rw[xf]at R
  repeat' first|refine aV ?_|intro b;conv=>whnf
  refine bu R (Ps _ _ _ _) (λf=>f++[_]) (λf=>zH _) ?_;rintro _ _ ⟨x,rfl,rfl,h2⟩
  repeat' first|refine aV ?_|intro b;conv=>whnf
  obtain⟨w,rfl⟩:∃w,w=b:=⟨_,rfl⟩
  refine aO mixed ai (γ:=Nat) (λj=>[(26,iD j)]) (λj=>(w,.cells 227 (gu (Aw l m j)))::(r,.cells 227 (gu (fk l m)))::(a,.cells 166 [.v v])::(e,.cells 227 (gu E))::x) (λj=>j<=l.mz.length) (λj=>l.mz.length-j) 0 (ah aJ) (Sc.perm (Pr _ _ _ _ _)) (zW _) ?_;intro j hj;simp only at hj⊢;by_cases hjl:j<l.mz.length
  .obtain⟨q,o⟩:∃q,l.mz[j]?=some q:=⟨_,zD hjl⟩
   have z:l.mz[((j:Nat):Int).toNat]?=some q:=o;obtain⟨⟨K,J⟩,I,G⟩:=u q (zG o);have i:=aA1 (fk l m) (j:=q.1.toNat) (by omega)
   cases k:fk l m q.1.toNat with
   |true=>
    have hs:=v6 o k (by omega);have t:=lh (Aw l m j) (j:=q.2.toNat) (by omega) true;rw[←hs]at t;rw[k]at i
    repeat' first|refine aV ?_|intro b;conv=>whnf|((with_reducible refine' Ot.yd ?hydn ?_);(case hydn=>(refine Ac ai rfl rfl rfl rfl rfl ?_ ?_<;>omega)))|((refine' Ld.cellm (tb:=227) (cs:=gu (fk l m)) ?hq1 ?hq2 ?_);(case hq1=>(simp;done));(case hq2=>(rw[xD];exact i)))
    refine Sv.cellm (tb:=227) (cs:=gu (Aw l m j)) (cs':=gu (Aw l m (j+1))) (Pp _ _ _) (by rw[xD,aA0];omega) rfl (by rw[xD];exact t) ?_
    repeat' first|refine aV ?_|intro b;conv=>whnf|((with_reducible refine' Ot.yd ?hydn ?_);(case hydn=>(refine Ac ai rfl rfl rfl rfl rfl ?_ ?_<;>omega)))|((refine' Ld.cellm (tb:=227) (cs:=gu (fk l m)) ?hq1 ?hq2 ?_);(case hq1=>(simp;done));(case hq2=>(rw[xD];exact i)))
    exact⟨j+1,(ah aJ),Sc.drop (Po _ _ _),by omega,by omega⟩
   |false=>
    have hs:=A6 o k;rw[k]at i
    repeat' first|refine aV ?_|intro b;conv=>whnf|((with_reducible refine' Ot.yd ?hydn ?_);(case hydn=>(refine Ac ai rfl rfl rfl rfl rfl ?_ ?_<;>omega)))|((refine' Ld.cellm (tb:=227) (cs:=gu (fk l m)) ?hq1 ?hq2 ?_);(case hq1=>(simp;done));(case hq2=>(rw[xD];exact i)))
    exact⟨j+1,(ah aJ),Sc.sl (by rw[hs];exact yG _ _),by omega,by omega⟩
  .obtain rfl:j=l.mz.length:=by omega
   rw[v8]
   repeat' first|refine aV ?_|intro b;conv=>whnf
   exact⟨(m+1,x),(ah av),Sc.sl (yG _ _),⟨by simp only;omega,h2⟩,by simp only;omega⟩
 .obtain rfl:m=hi+1:=by omega
  repeat' first|refine aV ?_|intro b;conv=>whnf
  exact Rt.by (Vs.drop (yG _ _)) ⟨s,rfl,rfl,h⟩
end
section
open Go Go.Maps Go.MapKept
def Ge(e:TypeId)(d:D)(m b:Nat)(a:m<=maxLen):ab e 1 (List.replicate m [d]) (.slice (some ⟨b,0,none⟩) m m) [(b,.cells e (List.replicate m d))]:=
 ⟨λy h=>by rw[(List.mem_replicate.1 h).2];rfl,.inr ⟨b,m,[],by simp,by simp,by simp,a,by simp,λd c=>by cases c⟩⟩
def iz(l:bG)(i s:Nat):Bool:=decide (s<i)&&FU l s
def x4(l:bG)(i:Nat):(λs=>if s=i then FU l i else iz l i s)=iz l (i+1):=by
 funext s
 unfold iz;by_cases h:s=i
 .subst h;rw[if_pos rfl,yJ (by omega)];rfl
 .rw[if_neg h]
  congr 1
  exact decide_eq_decide.2 (by omega)
def wp{l:bG}{lo:Int}{i:Nat}(h:Rk l=true)(c:0<=lo)(b:lo<=(i:Int))(d:i<=1000):(List.range l.tz.length).map (jk l lo (iz l l.tz.length) (i+1))=m7 l lo i:=by
 unfold m7;rw[h,yJ c,yJ b,yJ (show(i:Int)<=1000 by omega)];simp only[Bool.and_self,if_true,Int.toNat_natCast];refine List.map_congr_left λs a=>?_;unfold jk iz fk;rw[yJ (xT.1 a),Bool.true_and]
def Pl(a b c:Nat×ax):[a,b,c].Perm ((a::c::[b])++[]):=ya
def Pj(a b:Nat×ax)(s:ae):((a::b::s)++[]).Perm (s++[a,b]):=ya
def jd{A B:Prop}(k:B)(h:ar B->A:=by intro q7;(first|refine bh ?_|refine aE ?_|(refine' aj ?hc ?_;(case hc=>first|exact HV|exact HM)));exact q7.1):A:=h ⟨k⟩
def DU(l:bG)(lo hi:Int)(h1:l.tz.length<=1000000)(h2:l.mz.length<=1000000):APure prog 75 [cZ l,iD lo,iD hi] (slB (m7 l lo hi)):=by
 have HV:=DT l h1 h2;have k:=PG l;by_cases hall:UH l=0/\0<=lo/\lo<=hi/\hi<=1000
 .obtain⟨c1,G,F,L⟩:=hall;rw[yJ c1]at k;rw[c1]at HV;obtain⟨n,rfl⟩:∃n:Nat,hi=n:=⟨hi.toNat,by omega⟩
  have r:=wp k.symm G F (by omega);have a:=k.symm;unfold Rk at a;simp only[zJ,zQ,yA]at a;obtain⟨⟨⟨C,z⟩,K⟩,w⟩:=a;have v:∀q∈l.mz,(0<=q.1/\q.1<12)/\(0<=q.2/\q.2<12):=λq D=>by
   have:=w q D;unfold ch cF at this;simp only[zJ,zQ]at this;omega
  have E:(l.tz.map λ(x:ByteArray)=>[sD x]).length=l.tz.length:=zL ..;refine ap func75 ntmps75 λI=>?_
  repeat' first|refine jd ?_|intro b;conv=>whnf|((with_reducible refine' Ot.yd ?hydn ?_);(case hydn=>(refine Ac ai rfl rfl rfl rfl rfl ?_ ?_<;>omega)))|((with_reducible refine Br.t ?h ?_);(case h=>first|exact yJ trivial|exact wP _))|((with_reducible refine Br.f ?h ?_);(case h=>first|exact Bool.not_true|exact yE not_false))
  obtain⟨f,rfl⟩:∃f,f=b:=⟨_,rfl⟩
  refine aO mixed ai (γ:=Nat) (λi=>[(29,iD i)]) (λi=>[(f,.cells 227 (gu (iz l i)))]) (λi=>i<=l.tz.length) (λi=>l.tz.length-i) 0 (ah aJ) (Sc.refl _) (zW _) ?_;intro i hi;simp only at hi⊢;by_cases hil:i<l.tz.length
  .have HM:=DV l i (by omega);have t:=lh (iz l i) (j:=i) (by omega) (FU l i);rw[x4]at t;have o:=ru l i;rw[←o]at t
   repeat' first|refine jd ?_|intro b;conv=>whnf|((with_reducible refine' Ot.yd ?hydn ?_);(case hydn=>(refine Ac ai rfl rfl rfl rfl rfl ?_ ?_<;>omega)))|((with_reducible refine Br.t ?h ?_);(case h=>first|exact yJ trivial|exact wP _))|((with_reducible refine Br.f ?h ?_);(case h=>first|exact Bool.not_true|exact yE not_false))
   refine Sv.cellm (tb:=227) (cs:=gu (iz l i)) (cs':=gu (iz l (i+1))) (τ:=[]) (zH _) (by rw[xD,aA0];omega) rfl (by rw[xD,Int.toNat_natCast,zL,←t];congr 3;exact decide_eq_decide.2 (by omega)) ?_
   repeat' first|refine jd ?_|intro b;conv=>whnf|((with_reducible refine' Ot.yd ?hydn ?_);(case hydn=>(refine Ac ai rfl rfl rfl rfl rfl ?_ ?_<;>omega)))|((with_reducible refine Br.t ?h ?_);(case h=>first|exact yJ trivial|exact wP _))|((with_reducible refine Br.f ?h ?_);(case h=>first|exact Bool.not_true|exact yE not_false))
   exact⟨i+1,(ah aJ),Sc.refl _,by omega,by omega⟩
  .obtain rfl:i=l.tz.length:=by omega
   repeat' first|refine jd ?_|intro b;conv=>whnf
   refine Mk.go l.tz.length rfl rfl rfl rfl rfl (by simp) (by omega) (by omega) (λu=>?_)
   repeat' first|refine jd ?_|intro b;conv=>whnf
   have g:iI 4 bD ((List.range l.tz.length).map (jk l lo (iz l l.tz.length) 0)) (.slice (some ⟨u,0,none⟩) l.tz.length l.tz.length) [(u,.cells 4 (List.replicate l.tz.length (bD false)))]:=by
    have e:((List.range l.tz.length).map (jk l lo (iz l l.tz.length) 0)).map (λb=>[bD b])=List.replicate l.tz.length [bD false]:=by
     rw[vA,List.eq_replicate_iff];exact⟨by simp,λy hy=>by obtain⟨i,_,rfl⟩:=xM.1 hy;rfl⟩
    show ab _ _ (List.map _ _) _ _;rw[e];exact Ge _ _ _ _ (by unfold maxLen;omega)
   refine bu (xp l z v n (by omega) l.tz.length C (iz l l.tz.length) lo b f _ _ g) (Pl _ _ _) (λs=>s++[]) (λs=>zH _) ?_;rintro _ _ ⟨J,rfl,rfl,h2⟩;rw[r]at h2
   repeat' first|refine jd ?_|intro b;conv=>whnf|((with_reducible refine' Ot.yd ?hydn ?_);(case hydn=>(refine Ac ai rfl rfl rfl rfl rfl ?_ ?_<;>omega)))|((with_reducible refine Br.t ?h ?_);(case h=>first|exact yJ trivial|exact wP _))|((with_reducible refine Br.f ?h ?_);(case h=>first|exact Bool.not_true|exact yE not_false))
   exact Rt.vs ((Vs.row h2 (Pj _ _ _)).trans (Vs.drop (yV _)))
 .have R:m7 l lo hi=[]:=by
   unfold m7;rw[if_neg];intro h;simp only[zJ,zQ]at h;rw[←k,zQ]at h;omega
  rw[R];refine ap func75 ntmps75 λI=>?_
  repeat' first|refine jd ?_|intro b;conv=>whnf|((with_reducible refine' Ot.yd ?hydn ?_);(case hydn=>(refine Ac ai rfl rfl rfl rfl rfl ?_ ?_<;>omega)))|((with_reducible refine Br.t ?h ?_);(case h=>first|exact yJ trivial|exact wP _))|((with_reducible refine Br.f ?h ?_);(case h=>first|exact Bool.not_true|exact yE not_false))|(refine aZ ?_;constructor<;>intro hc)
  all_goals first|exact Rt.le (gC _)|(exfalso;omega)
end
end Go.Proofs.YtilnpcolgcmofaaGreatDoor
