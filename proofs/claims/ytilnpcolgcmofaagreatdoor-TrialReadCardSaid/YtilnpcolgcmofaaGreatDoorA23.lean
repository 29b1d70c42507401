/- A part of the proof: Xg Sx Xh Ra Rb Rc Re. -/
import Derived.Test.YtilnpcolgcmofaaGreatDoorA22
import Derived.StringKeys
set_option maxRecDepth 100000
set_option maxHeartbeats 20000000
set_option linter.all false
namespace Go.Proofs.YtilnpcolgcmofaaGreatDoor
open Tryz
section
open Go Go.Maps Go.MapKept
theorem IX{α:Type}{l:List α}{i:Nat}{a:α}(h:l[i]?=some a):l.drop i=a::l.drop (i+1):=by
 obtain⟨b,rfl⟩:=zE.1 h;exact vG b
theorem DV{x:ak}{w:Wd}(h:w.length≠x.kz.length):cG x w=false:=by simp[cG,h]
theorem nP{x:ak}{w:Wd}{k:Nat}{l:List (List Int)}(a:w[k]?=some l)(h:qX x k l=false):cG x w=false:=by
 unfold cG;have:(List.range w.length).all (λk=>qX x k (w.getD k []))=false:=by
  rw[vT];exact⟨k,xT.2 (zE.1 a).1,by rw[eI a,h];simp⟩
 rw[this];simp
theorem DU{x:ak}{w:Wd}{r:Rf}(b:r∈bM x){l:List (List Int)}(c:w[r.kind]?=some l){y:List Int}(a:y∈l)(h:tP w r y=false):cG x w=false:=by
 unfold cG;have:(bM x).all (λr=>(w.getD r.kind []).all (tP w r))=false:=by
  rw[vT];refine⟨r,b,?_⟩;rw[eI c,Bool.not_eq_true,vT];exact⟨y,a,by rw[h];simp⟩
 rw[this];simp
theorem DT{x:ak}{w:Wd}(f:w.length=x.kz.length)(e:∀(k:Nat)l,w[k]?=some l->qX x k l=true)(d:∀r∈bM x,∀l,w[r.kind]?=some l->∀y∈l,tP w r y=true):cG x w=true:=by
 unfold cG;simp only[zJ,zQ,yA];refine⟨⟨f,λk c=>?_⟩,λr b y a=>?_⟩
 .obtain⟨l,h⟩:∃l,w[k]?=some l:=⟨_,zD (xT.1 c)⟩
  rw[eI h];exact e k l h
 .cases h:w[r.kind]? with
  |none=>rw[List.getD_eq_getElem?_getD,h]at a;cases a
  |some l=>rw[eI h]at a;exact d r b l h y a
theorem QU{x:ak}{k:Nat}{l:List (List Int)}(h:qX x k l=true):l.length<=512/\∀y∈l,dB x k y=true:=by
 unfold qX at h;simp only[zJ,zQ,yA]at h;exact h
def wA:=@Bool.or_eq_false_iff
theorem Qk{x:ak}{k:Nat}{kd:au}{y:List Int}(b:x.kz[k]?=some kd)(h:dB x k y=true):y.length=kd.fields.length/\∀n∈y,-1099511627776<=n/\n<=1099511627776:=by
 unfold dB sT at h;rw[b]at h;simp only[zJ,zQ,yA]at h;refine⟨h.1,λn a=>?_⟩;have:=h.2 n a;unfold en at this;simp only[xJ,wA,xF]at this;omega
def qQ(x:ak)(w:Wd)(d:D)(r l:Nat):List D:=[iD x.vz,NC x.kz,Fj x.lz,NA x.rules,jD w,d,.v (.map (some r)),.v (.map (some l)),.v (.slice none 0 0)]
theorem Pu(x:ak)(w:Wd)(L:List Rf)(r l:Nat):qQ x w (gj L) r l=fH x w L r l (.slice none 0 0):=rfl
def bD3(x:ak)(w:Wd)(d:D)(σ:af):Prop:=∃(c r l:Nat)(F:Value->Option Value)(s:af),d= .tup [.v (.pointer (some ⟨c,0,none⟩)),iD 0]/\σ=(c,.cells 122 (fH x w (bM x) r l (.slice none 0 0)))::(r,.obj (bh prog 124 F))::(l,.mp prog 9 (jP x.lz))::s/\fN w F (bM x) s
def bD4(x:ak)(w:Wd)(d:D)(σ:af):Prop:=(cG x w=false/\d= .tup [.v (.pointer none),iD 2]/\σ=[])\/(cG x w=true/\bD3 x w d σ)
theorem SZ{A B:Prop}(k:B)(h:ar B->A:=by intro q7;(first|refine bC ?_|refine aA ?_|(refine' ah ?hc ?_;(case hc=>first|exact HC)));exact q7.1):A:=h ⟨k⟩
theorem Cu(x:ak)(w:Wd)(p:fp)(s:List fp)(a:eH x=p::s)(V:APure prog 108 [ax x] (iD (fI x))):APure prog 38 [ax x,jD w] (.tup [.v (.pointer none),iD p.2.2.2]):=by
 have HC:=mi x V;rw[a]at HC;refine ap func38 ntmps38 λe=>?_
 repeat' first|refine SZ ?_|intro b;conv=>whnf
 exact Rt.pure rfl
theorem K9(a b c d e:Nat×aB)(s:af):(a::b::c::d::e::s).Perm (s++[a,b,c,d,e]):=yT (l₁:=[a,b,c,d,e]) (l₂:=s)
theorem Ol(a b c d e:Nat×aB)(s:af):(s++[a,b,c,d,e]).Perm (a::b::c::d::e::s):=(K9 a b c d e s).symm
theorem w9{l:List bX}{y:List D}(h:y∈gK l):y.length=2:=by
 obtain⟨k,a⟩:=yO h;obtain⟨j,z,_,_,rfl⟩:=aR2 a
 rfl
theorem vw{l:bX}(h:j6 l=true):l.name.size<=1000:=by
 simp only[j6,zJ]at h;have:=h.1.1.1.1;simp only[aZ,cA,zJ,zQ]at this;omega
theorem bG{A B:Prop}(k:B)(h:ar B->A:=by intro q7;(first|refine bC ?_|refine aA ?_|(refine' ah ?hc ?_;(case hc=>first|exact HC|exact Q8 _ _ _ (by assumption) (by assumption)|exact HB)));exact q7.1):A:=h ⟨k⟩
theorem SY{A B:Prop}(k:B)(h:ar B->A:=by intro q7;(first|refine bC ?_|refine mN ?_|(refine' ah ?hc ?_;(case hc=>first|exact HC|exact Q8 _ _ _ (by assumption) (by assumption)|exact HB)));exact q7.1):A:=h ⟨k⟩
theorem qM{p:Prop}(h:p:=by refine gz λa=>?_;simp only[List.append_eq,List.nil_append,gy,hY,gO];omega):p:=h
theorem XM{p:Prop}(h:p:=by
 repeat' first|refine bG ?_|intro b;conv=>whnf
 exact Rt.by (Vs.drop (yV _)) (.inl ⟨DU hrm hl hym hbad,rfl,rfl⟩)):p:=h
def vB:=@Go.WideMaps.keyOf_string_mk
theorem Oz(x:ak)(w:Wd)(hw:Ws w)(hp:eH x=[])(HV:APure prog 108 [ax x] (iD (fI x))):az prog 38 [ax x,jD w] [] (bD4 x w):=by
 have HC:=mi x HV;rw[hp]at HC;have hS:=ky hp;have hV:=hS.vld;have hnk:=hV.nk;have Y:=hV.nf;have hwl:=hw.nk;have hl6:x.kz.length<=1000000:=by omega
 have hf6:∀k∈x.kz,k.fields.length<=1000000:=λk hk=>by have:=Y k hk;omega
 have hrl:=mU hV;refine cP func38 ntmps38 λBB=>?_
 repeat' first|refine bG ?_|intro b;conv=>whnf
 refine cm.makeMap (k:=124) rfl (λC=>?_)
 repeat' first|refine bG ?_|intro b;conv=>whnf
 refine cm.makeMapM (k:=9) rfl (λD=>?_)
 repeat' first|refine SY ?_|intro b;conv=>whnf
 refine Bx.r ?_;refine cm.box (t:=122) rfl rfl (λc=>?_);by_cases hlen:w.length=x.kz.length
 .repeat' first|refine bG ?_|intro b;conv=>whnf
  refine xg (i:=7) (d:=.v (.pointer (some ⟨b,0,none⟩))) (d':=.ro [.v (.pointer (some ⟨c,0,none⟩))]) (τ:=[(c,.cells 122 (qQ x w (.v (.slice none 0 0)) C D)),(D,.mp prog 9 λ_=>none),(C,.obj (bh prog 124 λ_=>none))]) rfl (λh=>by cases h) (Vs.ptr (tb:=109) (zH _)) ?_;refine aR mixed ai (γ:=Nat×Value×af) (λg=>[(45,iD g.1)]) (λg=>(c,.cells 122 (qQ x w (.v g.2.1) C D))::(D,.mp prog 9 λ_=>none)::(C,.obj (bh prog 124 λ_=>none))::g.2.2) (λg=>g.1<=x.kz.length/\ae 124 3 ((aq g.1 (fB x)).map Lx) g.2.1 g.2.2) (λg=>x.kz.length-g.1) (0,.slice none 0 0,[]) (aj aQ) (Sc.refl _) ⟨zW _,ae.nil _ _⟩ ?_;rintro⟨k,v,s⟩ ⟨hk,o⟩;simp only at hk o⊢;by_cases T:k<x.kz.length
  .obtain⟨kd,I⟩:∃y,x.kz[k]?=some y:=⟨_,zD T⟩
   have hkd':x.kz[((k:Nat):Int).toNat]?=some kd:=I;have hfl:=Y kd (zG I);have hSK:=j9 k (fB x);have hRK:fB x k=aq kd.fields.length (eN x k kd):=by unfold fB;rw[I]
   repeat' first|refine bG ?_|intro b;conv=>whnf
   refine aR mixed ai (γ:=Nat×Value×af) (λg=>[(53,iD g.1)]) (λg=>(b,.cells 78 (bA kd))::(c,.cells 122 (qQ x w (.v g.2.1) C D))::(D,.mp prog 9 λ_=>none)::(C,.obj (bh prog 124 λ_=>none))::g.2.2) (λg=>g.1<=kd.fields.length/\ae 124 3 ((aq k (fB x)++aq g.1 (eN x k kd)).map Lx) g.2.1 g.2.2) (λg=>kd.fields.length-g.1) (0,v,s) (aj aQ) (Sc.refl _) ⟨zW _,by simpa [aq]using o⟩ ?_;clear o;rintro⟨f,v,s⟩ ⟨hf,o⟩;simp only at hf o⊢;by_cases Z:f<kd.fields.length
   .obtain⟨g,hg⟩:∃y,kd.fields[f]?=some y:=⟨_,zD Z⟩
    have hg':kd.fields[((f:Nat):Int).toNat]?=some g:=hg;have L:=j9 f (eN x k kd);have hlen1:=fL (λk=>mX x k (λk hk=>by have:=Y k hk;omega)) k;have hlen2:=fL (mY x k kd) f;by_cases h1:g.kind=1
    .have hRF:eN x k kd f=[⟨k,f,aI x k f,g.lo⟩]:=by unfold eN;rw[hg];simp[h1]
     rw[hRF]at L
     repeat' first|refine bG ?_|intro b;conv=>whnf
     refine Ap.go rfl rfl rfl rfl o (K9 _ _ _ _ _ _) rfl (zs:=(aq k (fB x)++aq (f+1) (eN x k kd)).map Lx) (by rw[L];simp only[yB,List.map_cons,List.map_nil,zV];rfl) (by rw[L];simp;omega) (by rw[L];simp;omega) (λs'=>_::_::_::_::_::s') (Ol _ _ _ _ _) (λa' c' s' hr'=>?_)
     repeat' first|refine bG ?_|intro b;conv=>whnf
     exact⟨(f+1,_,s'),(aj aQ),Sc.sl (yG _ _),⟨by simp only;omega,hr'⟩,by simp only;omega⟩
    .have hRF:eN x k kd f=[]:=by unfold eN;rw[hg];simp[h1]
     rw[hRF,zZ]at L
     repeat' first|refine bG ?_|intro b;conv=>whnf
     exact⟨(f+1,v,s),(aj aQ),Sc.sl (yG _ _),⟨by simp only;omega,by rw[L];exact o⟩,by simp only;omega⟩
   .obtain rfl:f=kd.fields.length:=by omega
    repeat' first|refine bG ?_|intro b;conv=>whnf
    exact⟨(k+1,v,s),(aj aQ),Sc.sl (yG _ _),⟨by simp only;omega,by rw[hSK,hRK];exact o⟩,by simp only;omega⟩
  .obtain rfl:k=x.kz.length:=by omega
   change ae 124 3 ((bM x).map Lx) v s at o
   repeat' first|refine bG ?_|intro b;conv=>whnf
   refine CM (τ:=(c,.cells 122 (qQ x w (gj (bM x)) C D))::(D,.mp prog 9 λ_=>none)::(C,.obj (bh prog 124 λ_=>none))::[]) ((Sc.perm (List.Perm.cons _ (yT (l₁:=[_,_]) (l₂:=s)))).trans (Sc.frz (j:=5) rfl o (dO.refl _))) ?_;clear o;refine aR mixed ai (γ:=Nat) (λg=>[(81,iD g)]) (λ_=>(c,.cells 122 (qQ x w (gj (bM x)) C D))::(D,.mp prog 9 λ_=>none)::(C,.obj (bh prog 124 λ_=>none))::[]) (λg=>g<=w.length/\∀(k:Nat)l,k<g->w[k]?=some l->qX x k l=true) (λg=>w.length-g) 0 (aj aQ) (Sc.refl _) ⟨zW _,λk l h=>by omega⟩ ?_;rintro k ⟨hk,G⟩;by_cases T:k<w.length
   .obtain⟨l,hl⟩:∃l,w[k]?=some l:=⟨_,zD T⟩
    have hl':w[((k:Nat):Int).toNat]?=some l:=hl;obtain⟨kd,I⟩:∃y,x.kz[k]?=some y:=⟨_,zD (by omega)⟩
    have hll:=hw.nr l (zG hl);have hlf:=hw.nf l (zG hl);have HR:APure prog 68 [fV l,.clo 69 [.ro (uH x),.ro [iD k]]] (bD (l.any λr=>!dB x k r)):=PV l _ (by omega) (λy hy=>Ox x k kd y I hl6 (by have:=hlf y hy;omega));have hany:(l.any λr=>!dB x k r)=!(l.all (dB x k)):=by rw[vJ];simp
    by_cases h5:512<l.length
    .have hb:qX x k l=false:=by unfold qX;rw[yE (by omega)];rfl
     repeat' first|refine bG ?_|intro b;conv=>whnf
     exact Rt.by (Vs.drop (yV _)) (.inl ⟨nP hl hb,rfl,rfl⟩)
    .repeat' first|refine bG ?_|intro b;conv=>whnf
     refine CE.pk (gT.peek (.cons (Pk.same _) (.cons (Pk.clo (.cons (Pk.same _) (.cons (Pk.ptr (j:=0) rfl (jz.refl _)) .nil))) .nil)) HR rfl) ?_;clear HR;rw[hany];have hro:qX x k l=l.all (dB x k):=by unfold qX;rw[yJ (by omega)];rfl
     cases hall:l.all (dB x k)with
     |true=>
      repeat' first|refine bG ?_|intro b;conv=>whnf
      refine⟨k+1,(aj aQ),Sc.sl (yG _ _),⟨by omega,λk' l' hk' S=>?_⟩,by omega⟩;by_cases e:k'=k
      .subst e;cases hl.symm.trans S;rw[hro];exact hall
      .exact G k' l' (by omega) S
     |false=>
      repeat' first|refine bG ?_|intro b;conv=>whnf
      exact Rt.by (Vs.drop (yV _)) (.inl ⟨nP hl (hro.trans hall),rfl,rfl⟩)
   .obtain rfl:k=w.length:=by omega
    have J:∀(k:Nat)l,w[k]?=some l->qX x k l=true:=λk l h=>G k l (zE.1 h).1 h;clear G
    repeat' first|refine bG ?_|intro b;conv=>whnf
    refine aR mixed ai (γ:=Nat×(Value->Option Value)×af) (λg=>[(100,iD g.1)]) (λg=>(c,.cells 122 (qQ x w (gj (bM x)) C D))::(D,.mp prog 9 λ_=>none)::(C,.obj (bh prog 124 g.2.1))::g.2.2) (λg=>g.1<=(bM x).length/\fN w g.2.1 ((bM x).take g.1) g.2.2/\∀(q:Nat)r l,q<g.1->(bM x)[q]?=some r->w[r.kind]?=some l->∀y∈l,tP w r y=true) (λg=>(bM x).length-g.1) (0,(λ_=>none),[]) (aj aQ) (Sc.refl _) ⟨zW _,fN.nil _ _,λq r l h=>by simp at h⟩ ?_;rintro⟨q,F,M⟩ ⟨hq,hA,G⟩;simp only at hq hA G⊢;by_cases hql:q<(bM x).length
    .obtain⟨r,hr⟩:∃r,(bM x)[q]?=some r:=⟨_,zD hql⟩
     have hr':(bM x)[((q:Nat):Int).toNat]?=some r:=hr;have hrm:=zG hr;obtain⟨u1,u2,u3⟩:=hS.up r hrm;obtain⟨l,hl⟩:∃l,w[r.kind]?=some l:=⟨_,zD (by omega)⟩
     obtain⟨E,Q⟩:∃l,w[r.up.toNat]?=some l:=⟨_,zD (by omega)⟩
     have hl':w[((r.kind:Nat):Int).toNat]?=some l:=hl;have hll:=hw.nr l (zG hl);have hlul:=hw.nr E (zG Q);obtain⟨kd,fd,I,hfd,_⟩:=aZ7 hrm;have hrr:=QU (J _ _ hl);have hadj:lM w r=gA l r.field E.length:=by unfold lM;rw[eI hl,eI Q]
     repeat' first|refine bG ?_|intro b;conv=>whnf
     refine Mk.go E.length rfl rfl rfl rfl rfl (by simp) (by omega) (by omega) (λU=>?_)
     repeat' first|refine bG ?_|intro b;conv=>whnf
     have hR0:Kt (gA (l.take 0) r.field E.length) (.slice (some ⟨U,0,none⟩) E.length E.length) [(U,.cells 22 (List.replicate E.length (.v (.slice none 0 0))))]:=by
      rw[List.take_zero,EY];exact aN.made (R:=RI) (x0:=[]) (ae.nil _ _) _ U (by unfold maxLen;omega)
     refine xg (i:=15) (d:=.v (.pointer (some ⟨b,0,none⟩))) (d':=.ro (Lx r)) (τ:=(U,.cells 22 (List.replicate E.length (.v (.slice none 0 0))))::(c,.cells 122 (qQ x w (gj (bM x)) C D))::(D,.mp prog 9 λ_=>none)::(C,.obj (bh prog 124 F))::M) rfl (λh=>by cases h) (Vs.ptr (tb:=124) (List.Perm.swap _ _ _)) ?_;refine aR mixed ai (γ:=Nat×af) (λg=>[(117,iD g.1)]) (λg=>g.2++((c,.cells 122 (qQ x w (gj (bM x)) C D))::(D,.mp prog 9 λ_=>none)::(C,.obj (bh prog 124 F))::M)) (λg=>g.1<=l.length/\Kt (gA (l.take g.1) r.field E.length) (.slice (some ⟨U,0,none⟩) E.length E.length) g.2/\∀(i:Nat)y,i<g.1->l[i]?=some y->tP w r y=true) (λg=>l.length-g.1) (0,[(U,.cells 22 (List.replicate E.length (.v (.slice none 0 0))))]) (aj aQ) (Sc.refl _) ⟨zW _,hR0,λi y h=>by simp at h⟩ ?_;clear hR0;rintro⟨i,sr⟩ ⟨hi,hR,P⟩;simp only at hi hR P⊢;by_cases hil:i<l.length
     .obtain⟨y,hy⟩:∃y,l[i]?=some y:=⟨_,zD hil⟩
      have hy':l[((i:Nat):Int).toNat]?=some y:=hy;have hym:=zG hy;have hyl:=(Qk I (hrr.2 y hym)).1;have hyl2:=hw.nf l (zG hl) y hym;have hfl:=(zE.1 hfd).1;obtain⟨z,hz⟩:∃z,y[r.field]?=some z:=⟨_,zD (by omega)⟩
      have hz':y[((r.field:Nat):Int).toNat]?=some z:=hz;have O:tP w r y=!(decide (z<0)||decide ((E.length:Int)<=z)):=by unfold tP;rw[eI hz,eI Q]
      by_cases hz0:z<0
      .have hbad:tP w r y=false:=by rw[O,yJ hz0];rfl
       exact XM
      .by_cases hz1:(E.length:Int)<=z
       .have hbad:tP w r y=false:=by rw[O,yJ hz1,Bool.or_true];rfl
        exact XM
       .have hgood:tP w r y=true:=by rw[O,yE hz0,yE hz1];rfl
        obtain⟨v,rfl⟩:∃v:Nat,z=v:=⟨z.toNat,by omega⟩
        obtain⟨b0,cap0,K,u,t,τ,e0,p0,c0,hu,upo⟩:=aN.at hR (Rq (f:=r.field) (l.take i) (show v<E.length by omega));rw[Mx]at e0
        cases e0
        obtain⟨a1,ca1,rfl⟩:=ae.slice hu;have hil2:(cL (l.take i) r.field v).length<=1000:=by
         rw[aL9];have:=List.countP_le_length (p:=λr':List Int=>decide (r'.getD r.field 0=(v:Int))) (l:=l.take i);rw[zR]at this;omega
        repeat' first|refine bG ?_|intro b;conv=>whnf
        refine Ld.cellm (tb:=22) (cs:=K) (xK _ (p0.mem_iff.2 yN)) (by rw[dW];exact c0) ?_
        repeat' first|refine bG ?_|intro b;conv=>whnf
        refine Ap.go rfl rfl rfl rfl hu (τ:=(U,.cells 22 K)::(τ++((c,.cells 122 (qQ x w (gj (bM x)) C D))::(D,.mp prog 9 λ_=>none)::(C,.obj (bh prog 124 F))::M))) (by refine gz λa=>?_;have e1:=Q9 p0 a;simp only[List.append_eq,List.nil_append,gy,hY,gO]at e1⊢;omega) rfl (zs:=(cL (l.take i) r.field v++[(i:Int)]).map λn=>[iD n]) (by rw[yB];rfl) (by simp;omega) (by simp;omega) (λs2=>s2++((U,.cells 22 K)::(τ++((c,.cells 122 (qQ x w (gj (bM x)) C D))::(D,.mp prog 9 λ_=>none)::(C,.obj (bh prog 124 F))::M)))) (λs2=>zH _) (λa9 c9 s9 hr9=>?_)
        repeat' first|refine bG ?_|intro b;conv=>whnf
        refine Sv.cellm (tb:=22) (cs:=K) (cs':=K.set v (.v (.slice a9 ((cL (l.take i) r.field v++[(i:Int)]).map λn=>[iD n]).length c9))) (τ:=s9++(τ++((c,.cells 122 (qQ x w (gj (bM x)) C D))::(D,.mp prog 9 λ_=>none)::(C,.obj (bh prog 124 F))::M))) qM (by rw[dW];exact(zE.1 c0).1) rfl (by rw[dW]) ?_
        repeat' first|refine bG ?_|intro b;conv=>whnf
        have h8:=upo _ _ s9 ((U,.cells 22 (K.set v (.v (.slice a9 ((cL (l.take i) r.field v++[(i:Int)]).map λn=>[iD n]).length c9))))::(s9++τ)) hr9 (zH _);have hlt:(l.take i).length=i:=by rw[zR];omega
        have hsn:=xv (rows:=l.take i) (r:=y) (f:=r.field) (n:=E.length) (v:=v) (eI hz 0);rw[hlt,←P5 hy]at hsn;rw[←hsn]at h8;refine⟨(i+1,(U,.cells 22 (K.set v (.v (.slice a9 ((cL (l.take i) r.field v++[(i:Int)]).map λn=>[iD n]).length c9))))::(s9++τ)),(aj aQ),Sc.perm qM,⟨by simp only;omega,h8,λi' y' hi' hy2=>?_⟩,by simp only;omega⟩;by_cases e:i'=i
        .subst e;cases hy.symm.trans hy2;exact hgood
        .exact P i' y' (by omega) hy2
     .obtain rfl:i=l.length:=by omega
      rw[yM,←hadj]at hR;have hfl:=(zE.1 hfd).1;have Z:=Y kd (zG I);obtain⟨kl,T⟩:=qu (show(Lit.int .i64 (r.kind:Int)).wf=true from iq (by omega) (by omega)) (show(Lit.int .i64 (r.field:Int)).wf=true from iq (by omega) (by omega)) (show(Lit.int .i64 r.up).wf=true from iq (by omega) (by omega))
      repeat' first|refine bG ?_|intro b;conv=>whnf
      refine Ld.cellm (yW _ yN) rfl ?_
      repeat' first|refine bG ?_|intro b;conv=>whnf
      refine cm.mapUpdate (b:=C) (F:=F) (k:=124) (e:=70) (kv:=OE r) (kl:=kl) (τ:=sr++((c,.cells 122 (qQ x w (gj (bM x)) C D))::(D,.mp prog 9 λ_=>none)::M)) rfl rfl (pB2 _ _ _) rfl qM ba0 underlying119 T ?_
      repeat' first|refine bG ?_|intro b;conv=>whnf
      refine⟨(q+1,dh F (OE r) (.slice (some ⟨U,0,none⟩) E.length E.length),M++sr),(aj aQ),Sc.perm qM,⟨by simp only;omega,?_,λq' r' l' X V S y hy=>?_⟩,by simp only;omega⟩
      .rw[P5 hr];refine hA.push hR λr' V=>?_;obtain⟨q',X⟩:=yO V;have hq2:=(zE.1 X).1;rw[zR]at hq2;rw[yX,if_pos (by omega)]at X;exact Hl X hr (by omega)
      .by_cases e:q'=q
       .subst e
        cases hr.symm.trans V
        cases hl.symm.trans S
        obtain⟨i,hi⟩:=yO hy;exact P i y (zE.1 hi).1 hi
       .exact G q' r' l' (by omega) V S y hy
    .obtain rfl:q=(bM x).length:=by omega
     rw[yM]at hA;have hfit:cG x w=true:=DT hlen J λr hr l hl y hy=>by
      obtain⟨q,hq⟩:=yO hr;exact G q r l (zE.1 hq).1 hq hl y hy
     clear G J;have HB:=Ig x.lz;have hll:=hV.nl
     repeat' first|refine bG ?_|intro b;conv=>whnf
     refine sO (List.Perm.swap _ _ _) ?_;refine CN mixed ai rfl (w8 x.lz (by omega)) (λy hy=>w9 hy) rfl (γ:=Unit) (λm _=>(D,.mp prog 9 (jP (x.lz.drop (x.lz.length-m))))::(c,.cells 122 (qQ x w (gj (bM x)) C D))::(C,.obj (bh prog 124 F))::M) (λ_ _=>True) () (by rw[show jP (x.lz.drop (x.lz.length-0))=λ_=>none by rw[Nat.sub_zero,List.drop_length,Iq]];exact dY) trivial ?_ ?_
     .rintro lb m _ y hy -;obtain⟨j,lf,h1,h2,rfl⟩:=aR2 hy;have hnm:=vw (hV.lz lf (zG h2));rw[show x.lz.length-m=j+1 by omega]
      repeat' first|refine bG ?_|intro b;conv=>whnf
      refine cm.mapUpdateM (d:=dl lf) (b:=D) (k:=9) (e:=93) (kv:=.string lf.name) (τ:=(b,.cells 93 (dV lf))::(c,.cells 122 (qQ x w (gj (bM x)) C D))::(C,.obj (bh prog 124 F))::M) rfl rfl (gF.v _) rfl (List.Perm.swap _ _ _) (string_keyed underlying9) underlying120 (vB underlying9 (by unfold maxLen;omega)) ?_
      repeat' first|refine bG ?_|intro b;conv=>whnf
      rw[CI,←IX h2];exact⟨(),by rw[show x.lz.length-(m+1)=j by omega];exact List.Sublist.cons_cons _ (yG _ _),trivial⟩
     .rintro _ -;rw[show x.lz.length-(gK x.lz).length=0 by rw[aR1];omega,List.drop_zero]
      repeat' first|refine bG ?_|intro b;conv=>whnf
      exact Rt.by (Vs.perm (τ:=(c,.cells 122 (fH x w (bM x) C D (.slice none 0 0)))::(C,.obj (bh prog 124 F))::(D,.mp prog 9 (jP x.lz))::M) (by refine gz λa=>?_;simp only[gy,Pu];omega)) (.inr ⟨hfit,c,C,D,F,M,rfl,rfl,hA⟩)
 .repeat' first|refine bG ?_|intro b;conv=>whnf
  exact Rt.by (Vs.drop (yV _)) (.inl ⟨DV hlen,rfl,rfl⟩)
end
section
open Go
theorem DQ{x:ak}{k f:Nat}{kd:au}{d:am}(h:x.kz[k]?=some kd)(a:kd.fields[f]?=some d):fieldAt x k f=some d:=by
 simp[fieldAt,dw,h,a]
theorem FD{x:ak}{k:Nat}{kd:au}(h:x.kz[k]?=some kd):dw x k=some kd:=by simp[dw,h]
theorem GV{x:ak}(h:eH x=[]){k f:Nat}{kd:au}{d:am}(b:x.kz[k]?=some kd)(c:kd.fields[f]?=some d)(g:d.kind=4):dG d.of=true\/∃q:Nat,a7 kd d.of=q/\q<f:=by
 have a:=(ZH h b c).2;unfold cM at a;rw[if_neg (by omega),if_neg (by omega),if_neg (by omega),if_pos g]at a;unfold qI at a;rw[FD b]at a;simp only at a
 cases e:dG d.of with
 |true=>exact .inl rfl
 |false=>
  rw[if_neg (by rw[e];decide)]at a;split at a
  .omega
  .exact .inr ⟨(a7 kd d.of).toNat,by omega,by omega⟩
theorem Az{x:ak}(h:eH x=[]){k f:Nat}{kd:au}{d:am}(b:x.kz[k]?=some kd)(c:kd.fields[f]?=some d)(e:d.kind=5):x.lz.any (λl=>seq l.name d.of)=true:=by
 have a:=(ZH h b c).2;unfold cM at a;rw[if_neg (by omega),if_neg (by omega),if_neg (by omega),if_neg (by omega),if_pos e]at a;split at a
 .assumption
 .omega
def xX:=@Int.toNat_of_nonneg
theorem Ay{x:ak}{k f:Nat}{kd:au}{d:am}(c:x.kz[k]?=some kd)(m:kd.fields[f]?=some d)(n:d.kind=7\/d.kind=8)(a:0<=aI x k f):∃(u:Nat)(g:am),a7 kd d.up=u/\u<f/\kd.fields[u]?=some g/\g.kind=1/\aI x k u=aI x k f:=by
 have e:aI x k f=xh x k (Rn x k f d):=by unfold aI;rw[DQ c m];simp only;rw[if_pos n]
 rw[e]at a;have j:Rn x k f d=ED (a7 kd d.up) f (fieldAt x k (a7 kd d.up)):=by unfold Rn;rw[FD c]
 cases h:fieldAt x k (a7 kd d.up)with
 |none=>rw[j,h]at a;simp[ED,xh]at a
 |some g=>
  rw[j,h]at a;by_cases h2:a7 kd d.up<(f:Int)/\g.kind=1
  .have i:0<=a7 kd d.up:=by
    by_cases i:0<=a7 kd d.up
    .exact i
    .unfold fieldAt at h;rw[FD c]at h;simp only at h;rw[if_neg i]at h;cases h
   obtain⟨u,b⟩:∃u:Nat,a7 kd d.up=u:=⟨_,(xX i).symm⟩
   have l:kd.fields[u]?=some g:=by rw[b]at h;unfold fieldAt at h;rw[FD c]at h;simpa using h
   refine⟨u,g,b,by omega,l,h2.2,?_⟩;rw[e,j,h];unfold aI;rw[DQ c l];simp only[ED,if_pos h2,xh];rw[if_neg (by omega),if_pos h2.2]
  .rw[ED,if_neg h2]at a;simp[xh]at a
theorem GW{x:ak}(h:eH x=[]){k f:Nat}{kd:au}{d:am}(b:x.kz[k]?=some kd)(c:kd.fields[f]?=some d)(e:d.kind=7\/d.kind=8):0<=aI x k f/\FG x k f d (aI x k f)=0:=by
 have a:=(ZH h b c).2;unfold cM at a;rw[if_neg (by omega),if_neg (by omega),if_neg (by omega),if_neg (by omega),if_neg (by omega),if_neg (by omega)]at a;refine⟨?_,a⟩;unfold FG at a;split at a
 .omega
 .omega
theorem AB{x:ak}(h:eH x=[]){k f:Nat}{kd:au}{d:am}(c:x.kz[k]?=some kd)(i:kd.fields[f]?=some d)(j:d.kind=8) :
  ∃(u:Nat)(g:am)(o:Nat)(a:au)(q:Nat),a7 kd d.up=u/\u<f/\kd.fields[u]?=some g/\g.kind=1/\aI x k u=o/\x.kz[o]?=some a/\a7 a d.of=q/\q<a.fields.length:=by
 obtain⟨l,b⟩:=GW h c i (.inr j);obtain⟨u,g,t,s,r,p,n⟩:=Ay c i (.inr j) l;obtain⟨o,a,m,e⟩:=kt x k f l;have y:¬a7 a d.of<0:=by
  intro v;unfold FG at b;rw[if_neg (by omega),if_neg (by omega)]at b;have:cq x k f d=(-1,x2):=by
   unfold cq gU;rw[if_neg (by omega),m,FD e];simp only;unfold fieldAt;rw[FD e];simp only;rw[if_neg (by omega)]
  rw[this,if_pos (.inl (by decide))]at b;omega
 have w:a7 a d.of<a.fields.length:=FK _ _;exact⟨u,g,o,a,(a7 a d.of).toNat,t,s,r,p,by rw[n,m],e,by omega,by omega⟩
theorem GU{x:ak}(h:eH x=[]){k f:Nat}{kd:au}{d:am}(v:x.kz[k]?=some kd)(w:kd.fields[f]?=some d)(C:d.kind=6) :
  ∃(o s:Nat)(a:au)(g:am)(u:Nat)(r:am),jw x k f=((o:Int),(s:Int))/\x.kz[o]?=some a/\a.fields[s]?=some g/\a7 a g.up=u/\a.fields[u]?=some r/\r.kind=1/\aI x o u=k:=by
 have c:=(ZH h v w).2;unfold cM at c;rw[if_neg (by omega),if_neg (by omega),if_neg (by omega),if_neg (by omega),if_neg (by omega),if_pos C]at c;split at c
 .omega
 rename_i i;split at c
 .rename_i e;unfold gg at i e;split at i
  .simp at i
  rename_i y;rw[if_neg y]at e;simp only at i e;have B:bf x d.of<x.kz.length:=FK _ _;obtain⟨o,t⟩:∃o:Nat,bf x d.of=o:=⟨_,(xX (by omega)).symm⟩
  obtain⟨a,b⟩:∃a,x.kz[o]?=some a:=⟨_,zD (by omega)⟩
  obtain⟨s,p⟩:=List.length_eq_one_iff.1 e;have m:s∈y4 x k d:=by rw[p];exact zN.2 rfl
  unfold y4 at m;rw[t,FD b]at m;simp only[xM,vP,xT]at m;obtain⟨n,⟨l,q⟩,rfl⟩:=m;obtain⟨g,j⟩:∃g,a.fields[n]?=some g:=⟨_,zD l⟩
  rw[j]at q;simp only[zJ,zQ]at q;obtain⟨⟨A,H⟩,z⟩:=q;obtain⟨u,r,G,I,F,E,D⟩:=Ay b j (.inl A) (by omega);refine⟨o,n,a,g,u,r,?_,b,j,G,F,E,by rw[D,z]⟩;unfold jw;rw[DQ v w];simp only;unfold gg;rw[if_neg y,p,t]
  rfl
 .omega
theorem AA{x:ak}(h:eH x=[]){i k:Nat}{q:cI}{kd:au}(e:x.rules[i]?=some q)(j:bf x q.kind=(k:Int))(d:x.kz[k]?=some kd):(dG q.a=true\/0<=a7 kd q.a)/\(dG q.b=true\/0<=a7 kd q.b):=by
 have a:jq x i q=0:=by
  have b:=h;unfold eH at b;split at b
  .simp only[vN]at b;have g:=aV9 b.2 i (zE.1 e).1;simp only[lZ,e]at g;exact sI g
  .cases b
 unfold jq at a;rw[j,FD d]at a;simp only at a;have y:∀nm:ByteArray,eZ x kd k nm=false->dG nm=true\/0<=a7 kd nm:=λnm n=>by
  unfold eZ at n
  cases l:dG nm with
  |true=>exact .inl rfl
  |false=>
   rw[l]at n;refine .inr ?_;by_cases h3:0<=a7 kd nm
   .exact h3
   .exfalso;have:hK x k (a7 kd nm)=(x2,false):=by unfold hK fieldAt;rw[FD d];simp only;rw[if_neg h3]
    rw[this]at n
    cases n
 cases c:eZ x kd k q.a with
 |true=>
  exfalso;rw[c,Bool.true_or]at a;generalize oG x i q=t at a
  cases t<;>simp[js]at a
 |false=>
  cases f:eZ x kd k q.b with
  |true=>
   exfalso;rw[c,f,Bool.or_true]at a;generalize oG x i q=t at a
   cases t<;>simp[js]at a
  |false=>exact⟨y _ c,y _ f⟩
end
section
open Go Go.Maps Go.MapKept
theorem rE(w:World):(zeroValue 70).run prog w= .ok (.slice none 0 0) w:=by kernel_rfl
theorem bb1{x:ak}{w:Wd}(h:cG x w=true):w.length=x.kz.length/\(∀(k:Nat)l,w[k]?=some l->qX x k l=true)/\∀r∈bM x,∀l,w[r.kind]?=some l->∀y∈l,tP w r y=true:=by
 unfold cG at h;simp only[zJ,zQ,yA]at h;obtain⟨⟨f,e⟩,d⟩:=h;refine⟨f,λk l a=>?_,λr c l a y b=>?_⟩
 .have:=e k (xT.2 (zE.1 a).1)
  rwa [eI a]at this
 .have:=d r c y;rw[eI a]at this;exact this b
theorem n7(x:ak)(w:Wd)(r:Rf)(j:Nat):(iQ x w r j).length<=1:=by unfold iQ;split;exact EL ..;simp
theorem wu{x:ak}{w:Wd}(a:Ws w)(q:Nat):(EZ x w q).length<=1000:=by
 unfold EZ;split
 .rename_i r b;have d:=fL (n7 x w r) (w.getD r.up.toNat []).length;have c:(w.getD r.up.toNat []).length<=1000:=by
   cases h:w[r.up.toNat]? with
   |none=>rw[List.getD_eq_getElem?_getD,h];simp
   |some l=>rw[eI h];exact a.nr l (zG h)
  omega
 .simp
theorem nC(x:ak)(w:Wd)(k:Nat):(kY x w k).length<=1:=by unfold kY;split;exact EL ..;simp
theorem bb0(x:ak)(w:Wd)(k:Nat)(kd:au)(l:List (List Int))(i:Nat)(r:List Int)(f:Nat):(jm x w k kd l i r f).length<=1:=by unfold jm;split;exact EL ..;simp
theorem bp8{A B:Prop}(k:B)(h:ar B->A:=by intro q7;(first|refine bC ?_|refine aA ?_|(refine' ah ?hc ?_;(case hc=>first|exact Fu _ _|exact HN)));exact q7.1):A:=h ⟨k⟩
theorem K4{A B:Prop}(k:B)(h:ar B->A:=by intro q7;(first|refine z7 ?_|(with_reducible refine Dr.r ?_)|refine u9x ?_);exact q7.1):A:=h ⟨k⟩
theorem bp7{A B:Prop}(k:B)(h:ar B->A:=by intro q7;(first|refine bC ?_|refine K4 ?_|(refine' ah ?hc ?_;(case hc=>first|exact Fu _ _|exact HN)));exact q7.1):A:=h ⟨k⟩
end
section
open Go Go.Maps Go.MapKept
theorem YV{p:Prop}(h:p:=by
 refine ap func225 ntmps225 λBB=>?_
 repeat refine QE ?_
 refine fZ mixed ai (γ:=Nat) (λk=>[(8,iD k)]) (λ_=>[]) (λk=>k<=l.length/\∀i y,i<k->l[i]?=some y->p y=false) (λk=>l.length-k) 0 rfl rfl ⟨by omega,by omega⟩ ?_;rintro k ⟨hk,hno⟩;by_cases hlt:k<l.length
 .obtain⟨y,hy⟩:∃y,l[(k:Int).toNat]?=some y:=⟨_,zD hlt⟩
  repeat' first|refine QE ?_|(refine aV ?_;constructor<;>intro hc)
  .refine Rt.pure (zM iD ?_);exact(Kb hy ‹_› hno).symm
  .exact⟨k+1,rfl,rfl,⟨by omega,λi z hi hz=>by
    by_cases e:i=k
    .subst e;rw[show((i:Int)).toNat=i from rfl,hz]at hy;cases hy;assumption
    .exact hno i z (by omega) hz⟩,by omega⟩
 .repeat refine QE ?_
  refine Rt.pure (zM iD ?_);exact(ZM λi y hy=>hno i y (by have:=(zE.1 hy).1;omega) hy).symm):p:=h
theorem OT{f:FuncId}{c1:List D}(l:List (Int×Int))(p:Int×Int->Bool)(hl:l.length<=1000000)(hp:∀y∈l,APure prog f [.agg (du y),.ro c1] (bD (p y))):APure prog 225 [.sl 2 (l.map du),.clo f [.ro c1]] (iD (idx p l)):=YV
theorem SX{A B:Prop}(k:B)(h:ar B->A:=by intro q7;(first|refine bC ?_|refine aA ?_|(refine' ah ?hc ?_;(case hc=>exact OT l p hl hp)));exact q7.1):A:=h ⟨k⟩
theorem JS{f:FuncId}{c1:List D}(l:List (Int×Int))(p:Int×Int->Bool)(hl:l.length<=1000000)(hp:∀y∈l,APure prog f [.agg (du y),.ro c1] (bD (p y))):APure prog 169 [.sl 2 (l.map du),.clo f [.ro c1]] (bD (l.any p)):=by
 refine ap func169 ntmps169 λa=>?_
 repeat refine SX ?_
 refine Rt.pure (zM bD ?_);exact rh p l
theorem EO{α:Type}(l:List α)(p:α->Bool):(l.any λa=>!p a)=!l.all p:=by rw[vJ,Bool.not_not]
theorem vx(n:Nat)(m:Int×Int):APure prog 170 [.agg (du m),.ro [iD n]] (bD (!cb n m)):=by
 refine ap func170 ntmps170 λa=>?_
 repeat' first|refine ao ?_|(refine aV ?_;constructor<;>intro hc)
 .refine Rt.pure (zM bD ?_);unfold cb cA;simp only[Bool.true_eq,xJ,Bool.and_eq_false_iff,xF];split at hc<;>omega
 .refine Rt.pure (zM bD ?_);unfold cb cA;rw[Bool.eq_iff_iff];simp only[zQ,xJ,Bool.and_eq_false_iff,xF];split at hc<;>split<;>omega
def TK(l:bX):Int:=if 12<l.tz.length\/32<l.mz.length then 4 else if l.tz.length=0\/l.mz.all (cb l.tz.length)=false then 1 else 0
theorem OD(l:bX):decide (TK l=0)=Qh l:=by
 unfold TK Qh;split
 .rename_i h;rw[yE (by decide)];rcases h with h|h
  .rw[yE (show ¬l.tz.length<=12 by omega)];rfl
  .rw[yE (show ¬l.mz.length<=32 by omega)];simp
 .rename_i h;split
  .rename_i a;rw[yE (by decide)];rcases a with a|a
   .rw[a];simp
   .rw[a];simp
  .rename_i a;have b:l.mz.all (cb l.tz.length)=true:=by
    cases e:l.mz.all (cb l.tz.length)with
    |true=>rfl
    |false=>exact absurd (.inr e) a
   rw[b,yJ (show l.tz.length<=12 by omega),yJ (show l.mz.length<=32 by omega),yJ (show l.tz.length≠0 by omega)];rfl
theorem Yu{p:Prop}(h:p:=by
 repeat' first|refine ao ?_|intro b;conv=>whnf
 (refine CE.pk (gT.peek (.cons (Pk.same _) (.cons (Pk.clo (.cons (Pk.ptr (j:=0) rfl (jz.refl _)) .nil)) .nil)) HK rfl) ?_)
 repeat' first|refine ao ?_|intro b;conv=>whnf
 exact Rt.pure rfl):p:=h
theorem CW(l:bX)(h1:l.tz.length<=1000000)(h2:l.mz.length<=1000000):APure prog 121 [dl l] (iD (TK l)):=by
 have HK:APure prog 169 [.sl 2 (l.mz.map du),.clo 170 [.ro [iD ((l.tz.map λ(x:ByteArray)=>[sD x]).length:Nat)]]] (bD (!l.mz.all (cb l.tz.length))):=by
  rw[zL];exact EO l.mz (cb l.tz.length) ▸ JS _ _ (by omega) λy _=>vx _ y
 refine ap func121 ntmps121 λa=>?_;unfold TK;by_cases h3:12<l.tz.length\/32<l.mz.length
 .rw[if_pos h3]
  repeat' first|refine ao ?_|intro b;conv=>whnf|(refine aV ?_;constructor<;>intro hc)
  all_goals first|exact Rt.pure rfl|(exfalso;omega)
 .rw[if_neg h3];by_cases h4:l.tz.length=0
  .rw[if_pos (.inl h4)]
   repeat' first|refine ao ?_|intro b;conv=>whnf
   exact Rt.pure rfl
  .cases h5:l.mz.all (cb l.tz.length)with
   |false=>
    rw[h5]at HK;rw[if_pos (.inr rfl)];exact Yu
   |true=>
    rw[h5]at HK;rw[if_neg (by simpa using h4)];exact Yu
end
section
open Go Go.Maps Go.MapKept
theorem yx{P:Program}{σ:af}{ρ:Operand->D}{T:TypeId->Option TI}(g:∀t i,T t=some i->aE P t=some i){o:Oper}{t:TypeId}{x a:Operand}{b f n:Nat}{kk:IntKind}{j:Int}{k:Bool}{i:TI}(c:o.op= .indexAddr t x a)(hx:ρ x= .v (.pointer (some ⟨b,f,none⟩)))(d:ρ a= .v (.int kk j))(h:T t=some i)(e:i.arr=some (n,k,1))(l:0<=j)(m:j.toNat<n):Yd P o ρ σ (.v (.pointer (some ⟨b,f+j.toNat,none⟩))):=
 jr g c hx d h e (by omega) m rfl
def qr(l:bX)(s:Int):List Int:=(l.mz.filter λm=>decide (m.1=s)).map λm=>m.2
theorem qq(l:bX)(s:Nat):decide ((qr l s).length=0)=jS l s:=by
 unfold qr jS;rw[zL]
 cases h:l.mz.any λm=>decide (m.1=(s:Int))with
 |false=>
  rw[List.any_eq_false]at h;rw[List.filter_eq_nil_iff.2 λm a=>h m a];rfl
 |true=>
  rw[wC]at h;obtain⟨m,a,h⟩:=h;have:0<(l.mz.filter λm=>decide (m.1=(s:Int))).length:=xS.2 (List.ne_nil_of_mem (vP.2 ⟨a,h⟩));rw[yE (by omega)];rfl
theorem CY(l:bX)(s:Int)(hl:l.mz.length<=1000):APure prog 122 [dl l,iD s] (bj (qr l s)):=by
 refine ap func122 ntmps122 λu=>?_
 repeat' first|refine ao ?_|intro b;conv=>whnf
 refine aR mixed ai (γ:=Nat×Value×af) (λg=>[(5,.v g.2.1),(11,iD g.1)]) (λg=>g.2.2) (λg=>g.1<=l.mz.length/\ia 3 iD (((l.mz.take g.1).filter λm=>decide (m.1=s)).map λm=>m.2) g.2.1 g.2.2) (λg=>l.mz.length-g.1) (0,.slice none 0 0,[]) (aj aQ) (Sc.refl _) ⟨zW _,ae.nil _ _⟩ ?_;rintro⟨j,v,r⟩ ⟨hj,w⟩;simp only at hj w⊢;by_cases hjl:j<l.mz.length
 .obtain⟨m,e⟩:∃m,l.mz[j]?=some m:=⟨_,zD hjl⟩
  have o:l.mz[((j:Nat):Int).toNat]?=some m:=e;have k:=P5 e;have n:((l.mz.take j).filter λm=>decide (m.1=s)).length<=1000:=xH (List.length_filter_le ..) (by rw[zR];omega);have a:((l.mz.take (j+1)).filter λm=>decide (m.1=s)).length<=1000:=xH (List.length_filter_le ..) (by rw[zR];omega);by_cases h:m.1=s
  .repeat' first|refine ao ?_|intro b;conv=>whnf|((with_reducible refine' Ot.yd ?hydn ?_);(case hydn=>(refine yx ai rfl rfl rfl rfl rfl ?_ ?_<;>omega)))
   refine Ap.go rfl rfl rfl rfl w (Kf _ _) rfl (zs:=(((l.mz.take (j+1)).filter λm=>decide (m.1=s)).map λm=>m.2).map λb=>[iD b]) (by rw[k,vZ,yB,yB];simp[h]) (by simp;omega) (by simp;omega) (λi=>_::i) (Qa _) (λt q f h3=>?_)
   repeat' first|refine ao ?_|intro b;conv=>whnf|((with_reducible refine' Ot.yd ?hydn ?_);(case hydn=>(refine yx ai rfl rfl rfl rfl rfl ?_ ?_<;>omega)))
   exact⟨(j+1,_,f),(aj aQ),Sc.sl (yG _ _),⟨by simp only;omega,h3⟩,by simp only;omega⟩
  .repeat' first|refine ao ?_|intro b;conv=>whnf|((with_reducible refine' Ot.yd ?hydn ?_);(case hydn=>(refine yx ai rfl rfl rfl rfl rfl ?_ ?_<;>omega)))
   exact⟨(j+1,v,r),(aj aQ),Sc.sl (yG _ _),⟨by simp only;omega,by rw[k,vZ];simpa [h]using w⟩,by simp only;omega⟩
 .obtain rfl:j=l.mz.length:=by omega
  rw[yM]at w
  repeat' first|refine ao ?_|intro b;conv=>whnf
  exact Rt.vs (Vs.row w (by simp:r.Perm (r++[])))
def fR(N:Nat->Bool):List D:=(List.range 12).map λi=>bD (N i)
theorem ZD(N:Nat->Bool):(fR N).length=12:=by simp[fR]
theorem ZC(N:Nat->Bool){j:Nat}(h:j<12):(fR N)[j]?=some (bD (N j)):=by unfold fR;rw[qA,xV h];rfl
theorem jX(N:Nat->Bool){j:Nat}(h:j<12)(b:Bool):(fR N).set j (bD b)=fR λi=>if i=j then b else N i:=by
 refine xY λi=>?_;by_cases hi:i<12
 .rw[ZC _ hi];by_cases e:i=j
  .subst e;rw[xI (by rw[ZD];exact hi),if_pos rfl]
  .rw[wN (Ne.symm e),ZC _ hi,if_neg e]
 .rw[yY.2 (by rw[yR,ZD];omega),yY.2 (by rw[ZD];omega)]
def gq(n:Nat)(new o:Nat->Bool)(j:Nat):List Bool:=(List.range n).map λi=>if i<j then new i else o i
theorem vp(n:Nat)(new o:Nat->Bool):gq n new o 0=(List.range n).map o:=by unfold gq;exact List.map_congr_left λi _=>if_neg (Nat.not_lt_zero i)
theorem vq(n:Nat)(new o:Nat->Bool):gq n new o n=(List.range n).map new:=by unfold gq;exact List.map_congr_left λi h=>if_pos (xT.1 h)
theorem CD{n j:Nat}(new o:Nat->Bool)(h:j<n):(gq n new o j)[j]?=some (o j):=by unfold gq;rw[qA,xV h];simp
theorem aZ6(n:Nat)(new o:Nat->Bool)(j:Nat):(gq n new o j).length=n:=by simp[gq]
theorem CC{n j:Nat}(new o:Nat->Bool)(h:j<n):(gq n new o j).set j (new j)=gq n new o (j+1):=by
 refine xY λi=>?_;by_cases hi:i<n
 .have a:∀q,(gq n new o q)[i]?=some (if i<q then new i else o i):=λq=>by unfold gq;rw[qA,xV hi];rfl
  rw[a];by_cases e:i=j
  .subst e;rw[xI (by rw[aZ6];exact hi),if_pos (by omega)]
  .rw[wN (Ne.symm e),a];by_cases h2:i<j
   .rw[if_pos h2,if_pos (by omega)]
   .rw[if_neg h2,if_neg (by omega)]
 .rw[yY.2 (by rw[yR,aZ6];omega),yY.2 (by rw[aZ6];omega)]
theorem bf7(a b c d:Nat×aB):[d,a,b,c].Perm [a,b,c,d]:=hI
theorem aO6(a b c d:Nat×aB):[a,b,c,d].Perm [d,a,b,c]:=hI
theorem SW{A B:Prop}(k:B)(h:ar B->A:=by intro q7;(first|refine bC ?_|refine mN ?_|(refine' ah ?hc ?_;(case hc=>fail)));exact q7.1):A:=h ⟨k⟩
theorem bC2{p:Prop}(h:p:=by rw[dW];exact(zE.1 hc5).1):p:=h
theorem Ek{p:Prop}(h:p:=by
 simp only[Bool.true_or,Bool.false_or,Bool.true_and,Bool.false_and,Bool.or_self,Bool.or_false,Bool.or_true]at hnj;rw[hnj]at hw
 repeat' first|refine ao ?_|((with_reducible refine' Ot.yd ?hydn ?_);(case hydn=>(refine yx ai rfl rfl rfl rfl rfl ?_ ?_<;>omega)))|((refine' Ld.cellm (tb:=4) (cs:=cs5) ?hq1 ?hq2 ?_);(case hq1=>(simp;done));(case hq2=>(rw[dW];exact hc5)))|((refine' Ld.cellm (tb:=227) (cs:=fR N) ?hq1 ?hq2 ?_);(case hq1=>(simp;done));(case hq2=>(rw[xD,Int.toNat_natCast];exact g1)))|((refine' Ld.cellm (tb:=227) (cs:=fR E) ?hq1 ?hq2 ?_);(case hq1=>(simp;done));(case hq2=>(rw[xD,Int.toNat_natCast];exact g2)))|(refine Sv.cellm (tb:=4) (cs:=cs5) (τ:=[(b6,.cells 227 (fR N)),(b9,.cells 166 [.v (.slice (some ⟨b5,0,none⟩) n cap)]),(b7,.cells 227 (fR E))]) (aO6 _ _ _ _) bC2 rfl (by rw[dW]) ?_)
 refine⟨(j+1,_),(aj aQ),Sc.perm (bf7 _ _ _ _),⟨by simp only;omega,hw⟩,by simp only;omega⟩):p:=h
theorem vE(m n:Nat)(y:n<=12)(z:m<=2000)(N E b:Nat->Bool)(lo:Int)(b9 b7:Nat)(v:Value)(s:af)(r:ia 4 bD ((List.range n).map b) v s) :
  az prog 124 [iD m,.agg (fR N),.v (.pointer (some ⟨b9,0,none⟩)),.ro [iD lo],.v (.pointer (some ⟨b7,0,none⟩))] ((b9,.cells 166 [.v v])::(b7,.cells 227 (fR E))::s)
   (λd σ'=>∃k,d=bD true/\σ'=(b9,.cells 166 [.v v])::(b7,.cells 227 (fR E))::k/\ia 4 bD ((List.range n).map λi=>b i||(N i&&(decide (lo<=(m:Int))||E i))) v k):=by
 obtain⟨a,cap,rfl⟩:=ae.slice r;rw[zL,zL,vU]at *;obtain⟨new,w⟩:∃new:Nat->Bool,new=λi=>b i||(N i&&(decide (lo<=(m:Int))||E i)):=⟨_,rfl⟩
 rw[←w];refine cP func124 ntmps124 λC=>?_
 repeat refine SW ?_
 refine Bx.r ?_;refine cm.box (t:=227) rfl rfl (λb6=>?_)
 repeat refine ao ?_
 refine aR mixed ai (γ:=Nat×af) (λg=>[(11,iD g.1)]) (λg=>(b6,.cells 227 (fR N))::(b9,.cells 166 [.v (.slice a n cap)])::(b7,.cells 227 (fR E))::g.2) (λg=>g.1<=n/\ia 4 bD (gq n new b g.1) (.slice a n cap) g.2) (λg=>n-g.1) (0,s) (aj aQ) (Sc.refl _) ⟨zW _,by rw[vp];exact r⟩ ?_;rintro⟨j,s⟩ ⟨hj,h⟩;simp only at hj h⊢;by_cases hjn:j<n
 .have e:=CC new b hjn;have g1:=ZC N (j:=j) (by omega);have g2:=ZC E (j:=j) (by omega);obtain⟨b5,q,cs5,l,rfl,hc5,f⟩:=aW7 h (CD new b hjn);obtain⟨rfl,_,rfl⟩:=Value.slice.inj l;clear l;have hw:=f (new j);rw[e]at hw;have hnj:new j=(b j||(N j&&(decide (lo<=(m:Int))||E j))):=by rw[w]
  generalize b j=o at *;generalize N j=u at *;generalize E j=x at *
  cases o with
  |true=>exact Ek
  |false=>
   cases u with
   |false=>exact Ek
   |true=>
    by_cases hlo:lo<=(m:Int)
    .rw[yJ hlo]at hnj;exact Ek
    .rw[yE hlo]at hnj
     cases x with
     |false=>exact Ek
     |true=>exact Ek
 .obtain rfl:j=n:=by omega
  rw[vq]at h
  repeat refine ao ?_
  exact Rt.by (Vs.drop (yG _ _)) ⟨s,rfl,rfl,h⟩
end
section
open Go Go.Maps Go.MapKept
def eP(l:bX)(m i:Nat):Bool:=(jL l m).getD i false
def KS(l:bX)(m j:Nat):List Bool:=(l.mz.take j).foldl (λn q=>if(jL l m).getD q.1.toNat false then n.set q.2.toNat true else n) (List.replicate 12 false)
def ze(l:bX)(m j i:Nat):Bool:=(KS l m j).getD i false
theorem GP(l:bX)(m j:Nat):(KS l m j).length=12:=by
 unfold KS;generalize l.mz.take j=s;have:∀(s:List (Int×Int))(x:List Bool),(s.foldl (λn q=>if(jL l m).getD q.1.toNat false then n.set q.2.toNat true else n) x).length=x.length:=by
  intro s
  induction s with
  |nil=>intro x;rfl
  |cons q s i=>intro x;rw[List.foldl_cons,i];split<;>simp
 rw[this];simp
theorem mw{l:bX}{m j:Nat}{q:Int×Int}(h:l.mz[j]?=some q):KS l m (j+1)=if eP l m q.1.toNat then(KS l m j).set q.2.toNat true else KS l m j:=by
 unfold KS eP;rw[P5 h,List.foldl_append];rfl
theorem uv{l:bX}{m j:Nat}{q:Int×Int}(h:l.mz[j]?=some q)(n:eP l m q.1.toNat=true)(a:q.2.toNat<12):ze l m (j+1)=λi=>if i=q.2.toNat then true else ze l m j i:=by
 funext i
 unfold ze;rw[mw h,if_pos n,List.getD_eq_getElem?_getD,List.getD_eq_getElem?_getD];by_cases e:i=q.2.toNat
 .rw[if_pos e,e,xI (by rw[GP];exact a)];rfl
 .rw[if_neg e,wN (Ne.symm e)]
theorem At{l:bX}{m j:Nat}{q:Int×Int}(h:l.mz[j]?=some q)(n:eP l m q.1.toNat=false):ze l m (j+1)=ze l m j:=by
 funext i
 unfold ze;rw[mw h,if_neg (by rw[n];decide)]
theorem uw(l:bX)(m:Nat):ze l m l.mz.length=eP l (m+1):=by
 funext i
 unfold ze eP KS;rw[yM];rfl
def iG(l:bX)(lo:Int)(E:Nat->Bool)(m:Nat)(i:Nat):Bool:=(List.range m).any λq=>eP l q i&&(decide (lo<=(q:Int))||E i)
theorem vj(l:bX)(lo:Int)(E:Nat->Bool)(m:Nat):(λi=>iG l lo E m i||(eP l m i&&(decide (lo<=(m:Int))||E i)))=iG l lo E (m+1):=by
 funext i
 unfold iG;rw[List.range_succ,List.any_append];simp
theorem Ok(a b c:Nat×aB)(s:af):(a::b::c::s).Perm ((b::c::s)++[a]):=hI
theorem Oj(z a b c:Nat×aB)(s:af):(z::((b::c::s)++[a])).Perm (z::a::b::c::s):=hI
theorem Oi(a b:Nat×aB)(s:af):(a::b::s).Perm (b::a::s):=List.Perm.swap _ _ _
theorem Oh(a b:Nat×aB)(s:af):(b::a::s).Perm ((b::s)++[a]):=hI
theorem vy(l:bX)(D:l.mz.length<=32)(u:∀q∈l.mz,(0<=q.1/\q.1<12)/\(0<=q.2/\q.2<12))(hi:Nat)(L:hi<=1000)(n:Nat)(C:n<=12)(E:Nat->Bool)(lo:Int)(a e:Nat)(v:Value)(s:af)(y:ia 4 bD ((List.range n).map (iG l lo E 0)) v s) :
  az prog 123 [dl l,iD hi,.clo 124 [.v (.pointer (some ⟨a,0,none⟩)),.ro [iD lo],.v (.pointer (some ⟨e,0,none⟩))]] ((a,.cells 166 [.v v])::(e,.cells 227 (fR E))::s)
   (λd σ'=>∃f,d= .v (.tuple #[])/\σ'=(a,.cells 166 [.v v])::(e,.cells 227 (fR E))::f/\ia 4 bD ((List.range n).map (iG l lo E (hi+1))) v f):=by
 refine cP func123 ntmps123 λM=>?_
 repeat' first|refine ao ?_|intro b;conv=>whnf
 obtain⟨r,rfl⟩:∃r,r=b:=⟨_,rfl⟩
 refine aR mixed ai (γ:=Nat×af) (λg=>[(7,iD g.1)]) (λg=>(r,.cells 227 (fR (eP l g.1)))::(a,.cells 166 [.v v])::(e,.cells 227 (fR E))::g.2) (λg=>g.1<=hi+1/\ia 4 bD ((List.range n).map (iG l lo E g.1)) v g.2) (λg=>hi+1-g.1) (0,s) (aj aQ) (Sc.refl _) ⟨zW _,y⟩ ?_;rintro⟨m,s⟩ ⟨F,h⟩;simp only at F h⊢;by_cases hmh:m<=hi
 .have R:=vE m n C (by omega) (eP l m) E (iG l lo E m) lo a e v s h;rw[vj]at R
  repeat' first|refine ao ?_|intro b;conv=>whnf
  refine bc R (Ok _ _ _ _) (λf=>f++[_]) (λf=>zH _) ?_;rintro _ _ ⟨x,rfl,rfl,h2⟩
  repeat' first|refine ao ?_|intro b;conv=>whnf
  obtain⟨w,rfl⟩:∃w,w=b:=⟨_,rfl⟩
  refine aR mixed ai (γ:=Nat) (λj=>[(26,iD j)]) (λj=>(w,.cells 227 (fR (ze l m j)))::(r,.cells 227 (fR (eP l m)))::(a,.cells 166 [.v v])::(e,.cells 227 (fR E))::x) (λj=>j<=l.mz.length) (λj=>l.mz.length-j) 0 (aj aQ) (Sc.perm (Oj _ _ _ _ _)) (zW _) ?_;intro j hj;simp only at hj⊢;by_cases hjl:j<l.mz.length
  .obtain⟨q,o⟩:∃q,l.mz[j]?=some q:=⟨_,zD hjl⟩
   have z:l.mz[((j:Nat):Int).toNat]?=some q:=o;obtain⟨⟨K,J⟩,I,G⟩:=u q (zG o);have i:=ZC (eP l m) (j:=q.1.toNat) (by omega)
   cases k:eP l m q.1.toNat with
   |true=>
    have hs:=uv o k (by omega);have t:=jX (ze l m j) (j:=q.2.toNat) (by omega) true;rw[←hs]at t;rw[k]at i
    repeat' first|refine ao ?_|intro b;conv=>whnf|((with_reducible refine' Ot.yd ?hydn ?_);(case hydn=>(refine yx ai rfl rfl rfl rfl rfl ?_ ?_<;>omega)))|((refine' Ld.cellm (tb:=227) (cs:=fR (eP l m)) ?hq1 ?hq2 ?_);(case hq1=>(simp;done));(case hq2=>(rw[xD];exact i)))
    refine Sv.cellm (tb:=227) (cs:=fR (ze l m j)) (cs':=fR (ze l m (j+1))) (Oi _ _ _) (by rw[xD,ZD];omega) rfl (by rw[xD];exact t) ?_
    repeat' first|refine ao ?_|intro b;conv=>whnf|((with_reducible refine' Ot.yd ?hydn ?_);(case hydn=>(refine yx ai rfl rfl rfl rfl rfl ?_ ?_<;>omega)))|((refine' Ld.cellm (tb:=227) (cs:=fR (eP l m)) ?hq1 ?hq2 ?_);(case hq1=>(simp;done));(case hq2=>(rw[xD];exact i)))
    exact⟨j+1,(aj aQ),Sc.drop (Oh _ _ _),by omega,by omega⟩
   |false=>
    have hs:=At o k;rw[k]at i
    repeat' first|refine ao ?_|intro b;conv=>whnf|((with_reducible refine' Ot.yd ?hydn ?_);(case hydn=>(refine yx ai rfl rfl rfl rfl rfl ?_ ?_<;>omega)))|((refine' Ld.cellm (tb:=227) (cs:=fR (eP l m)) ?hq1 ?hq2 ?_);(case hq1=>(simp;done));(case hq2=>(rw[xD];exact i)))
    exact⟨j+1,(aj aQ),Sc.sl (by rw[hs];exact yG _ _),by omega,by omega⟩
  .obtain rfl:j=l.mz.length:=by omega
   rw[uw]
   repeat' first|refine ao ?_|intro b;conv=>whnf
   exact⟨(m+1,x),(aj av),Sc.sl (yG _ _),⟨by simp only;omega,h2⟩,by simp only;omega⟩
 .obtain rfl:m=hi+1:=by omega
  repeat' first|refine ao ?_|intro b;conv=>whnf
  exact Rt.by (Vs.drop (yG _ _)) ⟨s,rfl,rfl,h⟩
end
section
open Go Go.Maps Go.MapKept
theorem E9(e:TypeId)(d:D)(m b:Nat)(a:m<=maxLen):ae e 1 (List.replicate m [d]) (.slice (some ⟨b,0,none⟩) m m) [(b,.cells e (List.replicate m d))]:=
 ⟨λy h=>by rw[(List.mem_replicate.1 h).2];rfl,.inr ⟨b,m,[],by simp,by simp,by simp,a,by simp,λd c=>by cases c⟩⟩
def hG(l:bX)(i s:Nat):Bool:=decide (s<i)&&jS l s
theorem wo(l:bX)(i:Nat):(λs=>if s=i then jS l i else hG l i s)=hG l (i+1):=by
 funext s
 unfold hG;by_cases h:s=i
 .subst h;rw[if_pos rfl,yJ (by omega)];rfl
 .rw[if_neg h]
  congr 1
  exact decide_eq_decide.2 (by omega)
theorem uP{l:bX}{lo:Int}{i:Nat}(h:Qh l=true)(c:0<=lo)(b:lo<=(i:Int))(d:i<=1000):(List.range l.tz.length).map (iG l lo (hG l l.tz.length) (i+1))=xe l lo i:=by
 unfold xe;rw[h,yJ c,yJ b,yJ (show(i:Int)<=1000 by omega)];simp only[Bool.and_self,if_true,Int.toNat_natCast];refine List.map_congr_left λs a=>?_;unfold iG hG eP;rw[yJ (xT.1 a),Bool.true_and]
theorem Og(a b c:Nat×aB):[a,b,c].Perm ((a::c::[b])++[]):=hI
theorem Of(a b:Nat×aB)(s:af):((a::b::s)++[]).Perm (s++[a,b]):=hI
theorem iC{A B:Prop}(k:B)(h:ar B->A:=by intro q7;(first|refine bC ?_|refine aA ?_|(refine' ah ?hc ?_;(case hc=>first|exact HV|exact HM)));exact q7.1):A:=h ⟨k⟩
theorem CX(l:bX)(lo hi:Int)(h1:l.tz.length<=1000000)(h2:l.mz.length<=1000000):APure prog 75 [dl l,iD lo,iD hi] (slB (xe l lo hi)):=by
 have HV:=CW l h1 h2;have k:=OD l;by_cases hall:TK l=0/\0<=lo/\lo<=hi/\hi<=1000
 .obtain⟨c1,G,F,L⟩:=hall;rw[yJ c1]at k;rw[c1]at HV;obtain⟨n,rfl⟩:∃n:Nat,hi=n:=⟨hi.toNat,by omega⟩
  have r:=uP k.symm G F (by omega);have a:=k.symm;unfold Qh at a;simp only[zJ,zQ,yA]at a;obtain⟨⟨⟨C,z⟩,K⟩,w⟩:=a;have v:∀q∈l.mz,(0<=q.1/\q.1<12)/\(0<=q.2/\q.2<12):=λq D=>by
   have:=w q D;unfold cb cA at this;simp only[zJ,zQ]at this;omega
  have E:(l.tz.map λ(x:ByteArray)=>[sD x]).length=l.tz.length:=zL ..;refine ap func75 ntmps75 λI=>?_
  repeat' first|refine iC ?_|intro b;conv=>whnf|((with_reducible refine' Ot.yd ?hydn ?_);(case hydn=>(refine yx ai rfl rfl rfl rfl rfl ?_ ?_<;>omega)))|((with_reducible refine Br.t ?h ?_);(case h=>first|exact yJ trivial|exact wP _))|((with_reducible refine Br.f ?h ?_);(case h=>first|exact Bool.not_true|exact yE not_false))
  obtain⟨f,rfl⟩:∃f,f=b:=⟨_,rfl⟩
  refine aR mixed ai (γ:=Nat) (λi=>[(29,iD i)]) (λi=>[(f,.cells 227 (fR (hG l i)))]) (λi=>i<=l.tz.length) (λi=>l.tz.length-i) 0 (aj aQ) (Sc.refl _) (zW _) ?_;intro i hi;simp only at hi⊢;by_cases hil:i<l.tz.length
  .have HM:=CY l i (by omega);have t:=jX (hG l i) (j:=i) (by omega) (jS l i);rw[wo]at t;have o:=qq l i;rw[←o]at t
   repeat' first|refine iC ?_|intro b;conv=>whnf|((with_reducible refine' Ot.yd ?hydn ?_);(case hydn=>(refine yx ai rfl rfl rfl rfl rfl ?_ ?_<;>omega)))|((with_reducible refine Br.t ?h ?_);(case h=>first|exact yJ trivial|exact wP _))|((with_reducible refine Br.f ?h ?_);(case h=>first|exact Bool.not_true|exact yE not_false))
   refine Sv.cellm (tb:=227) (cs:=fR (hG l i)) (cs':=fR (hG l (i+1))) (τ:=[]) (zH _) (by rw[xD,ZD];omega) rfl (by rw[xD,Int.toNat_natCast,zL,←t];congr 3;exact decide_eq_decide.2 (by omega)) ?_
   repeat' first|refine iC ?_|intro b;conv=>whnf|((with_reducible refine' Ot.yd ?hydn ?_);(case hydn=>(refine yx ai rfl rfl rfl rfl rfl ?_ ?_<;>omega)))|((with_reducible refine Br.t ?h ?_);(case h=>first|exact yJ trivial|exact wP _))|((with_reducible refine Br.f ?h ?_);(case h=>first|exact Bool.not_true|exact yE not_false))
   exact⟨i+1,(aj aQ),Sc.refl _,by omega,by omega⟩
  .obtain rfl:i=l.tz.length:=by omega
   repeat' first|refine iC ?_|intro b;conv=>whnf
   refine Mk.go l.tz.length rfl rfl rfl rfl rfl (by simp) (by omega) (by omega) (λu=>?_)
   repeat' first|refine iC ?_|intro b;conv=>whnf
   have g:ia 4 bD ((List.range l.tz.length).map (iG l lo (hG l l.tz.length) 0)) (.slice (some ⟨u,0,none⟩) l.tz.length l.tz.length) [(u,.cells 4 (List.replicate l.tz.length (bD false)))]:=by
    have e:((List.range l.tz.length).map (iG l lo (hG l l.tz.length) 0)).map (λb=>[bD b])=List.replicate l.tz.length [bD false]:=by
     rw[vA,List.eq_replicate_iff];exact⟨by simp,λy hy=>by obtain⟨i,_,rfl⟩:=xM.1 hy;rfl⟩
    show ae _ _ (List.map _ _) _ _;rw[e];exact E9 _ _ _ _ (by unfold maxLen;omega)
   refine bc (vy l z v n (by omega) l.tz.length C (hG l l.tz.length) lo b f _ _ g) (Og _ _ _) (λs=>s++[]) (λs=>zH _) ?_;rintro _ _ ⟨J,rfl,rfl,h2⟩;rw[r]at h2
   repeat' first|refine iC ?_|intro b;conv=>whnf|((with_reducible refine' Ot.yd ?hydn ?_);(case hydn=>(refine yx ai rfl rfl rfl rfl rfl ?_ ?_<;>omega)))|((with_reducible refine Br.t ?h ?_);(case h=>first|exact yJ trivial|exact wP _))|((with_reducible refine Br.f ?h ?_);(case h=>first|exact Bool.not_true|exact yE not_false))
   exact Rt.vs ((Vs.row h2 (Of _ _ _)).trans (Vs.drop (yV _)))
 .have R:xe l lo hi=[]:=by
   unfold xe;rw[if_neg];intro h;simp only[zJ,zQ]at h;rw[←k,zQ]at h;omega
  rw[R];refine ap func75 ntmps75 λI=>?_
  repeat' first|refine iC ?_|intro b;conv=>whnf|((with_reducible refine' Ot.yd ?hydn ?_);(case hydn=>(refine yx ai rfl rfl rfl rfl rfl ?_ ?_<;>omega)))|((with_reducible refine Br.t ?h ?_);(case h=>first|exact yJ trivial|exact wP _))|((with_reducible refine Br.f ?h ?_);(case h=>first|exact Bool.not_true|exact yE not_false))|(refine aV ?_;constructor<;>intro hc)
  all_goals first|exact Rt.le (gw _)|(exfalso;omega)
end
end Go.Proofs.YtilnpcolgcmofaaGreatDoor
