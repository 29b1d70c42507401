/- A part of the proof: Xg Sx Xh Ra Rb Rc Re. -/
import Derived.Test.YtilnpcolgcmofaaGreatDoorS22
import Derived.StringKeys
set_option maxRecDepth 100000
set_option maxHeartbeats 20000000
set_option linter.all false
namespace Go.Proofs.YtilnpcolgcmofaaGreatDoor
open Tryz
section
open Go Go.Maps Go.MapKept
theorem Iy{α:Type}{l:List α}{i:Nat}{a:α}(h:l[i]?=some a):l.drop i=a::l.drop (i+1):=by
 obtain⟨b,rfl⟩:=zE.1 h;exact vG b
theorem C8{x:ak}{w:Wd}(h:w.length≠x.kz.length):cO x w=false:=by simp[cO,h]
theorem nx{x:ak}{w:Wd}{k:Nat}{l:List (List Int)}(a:w[k]?=some l)(h:qE x k l=false):cO x w=false:=by
 unfold cO;have:(List.range w.length).all (λk=>qE x k (w.getD k []))=false:=by
  rw[vT];exact⟨k,xT.2 (zE.1 a).1,by rw[eD a,h];simp⟩
 rw[this];simp
theorem C7{x:ak}{w:Wd}{r:Rf}(b:r∈bL x){l:List (List Int)}(c:w[r.kind]?=some l){y:List Int}(a:y∈l)(h:tr w r y=false):cO x w=false:=by
 unfold cO;have:(bL x).all (λr=>(w.getD r.kind []).all (tr w r))=false:=by
  rw[vT];refine⟨r,b,?_⟩;rw[eD c,Bool.not_eq_true,vT];exact⟨y,a,by rw[h];simp⟩
 rw[this];simp
theorem C6{x:ak}{w:Wd}(f:w.length=x.kz.length)(e:∀(k:Nat)l,w[k]?=some l->qE x k l=true)(d:∀r∈bL x,∀l,w[r.kind]?=some l->∀y∈l,tr w r y=true):cO x w=true:=by
 unfold cO;simp only[zJ,zQ,yA];refine⟨⟨f,λk c=>?_⟩,λr b y a=>?_⟩
 .obtain⟨l,h⟩:∃l,w[k]?=some l:=⟨_,zD (xT.1 c)⟩
  rw[eD h];exact e k l h
 .cases h:w[r.kind]? with
  |none=>rw[List.getD_eq_getElem?_getD,h]at a;cases a
  |some l=>rw[eD h]at a;exact d r b l h y a
theorem Qx{x:ak}{k:Nat}{l:List (List Int)}(h:qE x k l=true):l.length<=512/\∀y∈l,dA x k y=true:=by
 unfold qE at h;simp only[zJ,zQ,yA]at h;exact h
def wA:=@Bool.or_eq_false_iff
theorem PV{x:ak}{k:Nat}{kd:au}{y:List Int}(b:x.kz[k]?=some kd)(h:dA x k y=true):y.length=kd.fields.length/\∀n∈y,-1099511627776<=n/\n<=1099511627776:=by
 unfold dA sC at h;rw[b]at h;simp only[zJ,zQ,yA]at h;refine⟨h.1,λn a=>?_⟩;have:=h.2 n a;unfold fT at this;simp only[xJ,wA,xF]at this;omega
def qw(x:ak)(w:Wd)(d:D)(r l:Nat):List D:=[iD x.vz,Nb x.kz,EX x.lz,M' x.rules,lI w,d,.v (.map (some r)),.v (.map (some l)),.v (.slice none 0 0)]
theorem O4(x:ak)(w:Wd)(L:List Rf)(r l:Nat):qw x w (gd L) r l=fB x w L r l (.slice none 0 0):=rfl
def bC9(x:ak)(w:Wd)(d:D)(σ:af):Prop:=∃(c r l:Nat)(F:Value->Option Value)(s:af),d= .tup [.v (.pointer (some ⟨c,0,none⟩)),iD 0]/\σ=(c,.cells 122 (fB x w (bL x) r l (.slice none 0 0)))::(r,.obj (be prog 124 F))::(l,.mp prog 9 (jD x.lz))::s/\fH w F (bL x) s
def bD0(x:ak)(w:Wd)(d:D)(σ:af):Prop:=(cO x w=false/\d= .tup [.v (.pointer none),iD 2]/\σ=[])\/(cO x w=true/\bC9 x w d σ)
theorem Sr{A B:Prop}(k:B)(h:ar B->A:=by intro q7;(first|refine bA ?_|refine aA ?_|(refine' ah ?hc ?_;(case hc=>first|exact HC)));exact q7.1):A:=h ⟨k⟩
theorem BY(x:ak)(w:Wd)(p:fj)(s:List fj)(a:ef x=p::s)(V:APure prog 108 [ax x] (iD (fC x))):APure prog 38 [ax x,lI w] (.tup [.v (.pointer none),iD p.2.2.2]):=by
 have HC:=l0 x V;rw[a]at HC;refine ao func38 ntmps38 λe=>?_
 repeat' first|refine Sr ?_|intro b;conv=>whnf
 exact Rt.pure rfl
theorem KL(a b c d e:Nat×aE)(s:af):(a::b::c::d::e::s).Perm (s++[a,b,c,d,e]):=yT (l₁:=[a,b,c,d,e]) (l₂:=s)
theorem NY(a b c d e:Nat×aE)(s:af):(s++[a,b,c,d,e]).Perm (a::b::c::d::e::s):=(KL a b c d e s).symm
theorem wa{l:List bW}{y:List D}(h:y∈LJ l):y.length=2:=by
 obtain⟨k,a⟩:=yO h;obtain⟨j,z,_,_,rfl⟩:=aQ9 a
 rfl
theorem uZ{l:bW}(h:jS l=true):l.name.size<=1000:=by
 simp only[jS,zJ]at h;have:=h.1.1.1.1;simp only[aY,cz,zJ,zQ]at this;omega
theorem bE{A B:Prop}(k:B)(h:ar B->A:=by intro q7;(first|refine bA ?_|refine aA ?_|(refine' ah ?hc ?_;(case hc=>first|exact HC|exact QJ _ _ _ (by assumption) (by assumption)|exact HB)));exact q7.1):A:=h ⟨k⟩
theorem Sq{A B:Prop}(k:B)(h:ar B->A:=by intro q7;(first|refine bA ?_|refine mx ?_|(refine' ah ?hc ?_;(case hc=>first|exact HC|exact QJ _ _ _ (by assumption) (by assumption)|exact HB)));exact q7.1):A:=h ⟨k⟩
theorem D0{p:Prop}(h:p:=by refine iT λa=>?_;simp only[List.append_eq,List.nil_append,iS,jP,jh];omega):p:=h
theorem Xk{p:Prop}(h:p:=by
 repeat' first|refine bE ?_|intro b;conv=>whnf
 exact Rt.by (Vs.drop (yV _)) (.inl ⟨C7 hrm hl hym hbad,rfl,rfl⟩)):p:=h
def vB:=@Go.WideMaps.keyOf_string_mk
theorem N8(x:ak)(w:Wd)(hw:Ws w)(hp:ef x=[])(HV:APure prog 108 [ax x] (iD (fC x))):az prog 38 [ax x,lI w] [] (bD0 x w):=by
 have HC:=l0 x HV;rw[hp]at HC;have hS:=kb hp;have hV:=hS.vld;have hnk:=hV.nk;have Y:=hV.nf;have hwl:=hw.nk;have hl6:x.kz.length<=1000000:=by omega
 have hf6:∀k∈x.kz,k.fields.length<=1000000:=λk hk=>by have:=Y k hk;omega
 have hrl:=mE hV;refine cU func38 ntmps38 λBB=>?_
 repeat' first|refine bE ?_|intro b;conv=>whnf
 refine ci.makeMap (k:=124) rfl (λC=>?_)
 repeat' first|refine bE ?_|intro b;conv=>whnf
 refine ci.makeMapM (k:=9) rfl (λD=>?_)
 repeat' first|refine Sq ?_|intro b;conv=>whnf
 refine Bx.r ?_;refine ci.box (t:=122) rfl rfl (λc=>?_);by_cases hlen:w.length=x.kz.length
 .repeat' first|refine bE ?_|intro b;conv=>whnf
  refine xz (i:=7) (d:=.v (.pointer (some ⟨b,0,none⟩))) (d':=.ro [.v (.pointer (some ⟨c,0,none⟩))]) (τ:=[(c,.cells 122 (qw x w (.v (.slice none 0 0)) C D)),(D,.mp prog 9 λ_=>none),(C,.obj (be prog 124 λ_=>none))]) rfl (λh=>by cases h) (Vs.ptr (tb:=109) (zH _)) ?_;refine aV mixed ai (γ:=Nat×Value×af) (λg=>[(45,iD g.1)]) (λg=>(c,.cells 122 (qw x w (.v g.2.1) C D))::(D,.mp prog 9 λ_=>none)::(C,.obj (be prog 124 λ_=>none))::g.2.2) (λg=>g.1<=x.kz.length/\ae 124 3 ((ap g.1 (fS x)).map KW) g.2.1 g.2.2) (λg=>x.kz.length-g.1) (0,.slice none 0 0,[]) (aj aP) (Sc.refl _) ⟨zW _,ae.nil _ _⟩ ?_;rintro⟨k,v,s⟩ ⟨hk,o⟩;simp only at hk o⊢;by_cases T:k<x.kz.length
  .obtain⟨kd,I⟩:∃y,x.kz[k]?=some y:=⟨_,zD T⟩
   have hkd':x.kz[((k:Nat):Int).toNat]?=some kd:=I;have hfl:=Y kd (zG I);have hSK:=jU k (fS x);have hRK:fS x k=ap kd.fields.length (fc x k kd):=by unfold fS;rw[I]
   repeat' first|refine bE ?_|intro b;conv=>whnf
   refine aV mixed ai (γ:=Nat×Value×af) (λg=>[(53,iD g.1)]) (λg=>(b,.cells 78 (bv kd))::(c,.cells 122 (qw x w (.v g.2.1) C D))::(D,.mp prog 9 λ_=>none)::(C,.obj (be prog 124 λ_=>none))::g.2.2) (λg=>g.1<=kd.fields.length/\ae 124 3 ((ap k (fS x)++ap g.1 (fc x k kd)).map KW) g.2.1 g.2.2) (λg=>kd.fields.length-g.1) (0,v,s) (aj aP) (Sc.refl _) ⟨zW _,by simpa [ap]using o⟩ ?_;clear o;rintro⟨f,v,s⟩ ⟨hf,o⟩;simp only at hf o⊢;by_cases Z:f<kd.fields.length
   .obtain⟨g,hg⟩:∃y,kd.fields[f]?=some y:=⟨_,zD Z⟩
    have hg':kd.fields[((f:Nat):Int).toNat]?=some g:=hg;have L:=jU f (fc x k kd);have hlen1:=fF (λk=>mH x k (λk hk=>by have:=Y k hk;omega)) k;have hlen2:=fF (mI x k kd) f;by_cases h1:g.kind=1
    .have hRF:fc x k kd f=[⟨k,f,aI x k f,g.lo⟩]:=by unfold fc;rw[hg];simp[h1]
     rw[hRF]at L
     repeat' first|refine bE ?_|intro b;conv=>whnf
     refine Ap.go rfl rfl rfl rfl o (KL _ _ _ _ _ _) rfl (zs:=(ap k (fS x)++ap (f+1) (fc x k kd)).map KW) (by rw[L];simp only[yB,List.map_cons,List.map_nil,zV];rfl) (by rw[L];simp;omega) (by rw[L];simp;omega) (λs'=>_::_::_::_::_::s') (NY _ _ _ _ _) (λa' c' s' hr'=>?_)
     repeat' first|refine bE ?_|intro b;conv=>whnf
     exact⟨(f+1,_,s'),(aj aP),Sc.sl (yG _ _),⟨by simp only;omega,hr'⟩,by simp only;omega⟩
    .have hRF:fc x k kd f=[]:=by unfold fc;rw[hg];simp[h1]
     rw[hRF,zZ]at L
     repeat' first|refine bE ?_|intro b;conv=>whnf
     exact⟨(f+1,v,s),(aj aP),Sc.sl (yG _ _),⟨by simp only;omega,by rw[L];exact o⟩,by simp only;omega⟩
   .obtain rfl:f=kd.fields.length:=by omega
    repeat' first|refine bE ?_|intro b;conv=>whnf
    exact⟨(k+1,v,s),(aj aP),Sc.sl (yG _ _),⟨by simp only;omega,by rw[hSK,hRK];exact o⟩,by simp only;omega⟩
  .obtain rfl:k=x.kz.length:=by omega
   change ae 124 3 ((bL x).map KW) v s at o
   repeat' first|refine bE ?_|intro b;conv=>whnf
   refine Cc (τ:=(c,.cells 122 (qw x w (gd (bL x)) C D))::(D,.mp prog 9 λ_=>none)::(C,.obj (be prog 124 λ_=>none))::[]) ((Sc.perm (List.Perm.cons _ (yT (l₁:=[_,_]) (l₂:=s)))).trans (Sc.frz (j:=5) rfl o (dM.refl _))) ?_;clear o;refine aV mixed ai (γ:=Nat) (λg=>[(81,iD g)]) (λ_=>(c,.cells 122 (qw x w (gd (bL x)) C D))::(D,.mp prog 9 λ_=>none)::(C,.obj (be prog 124 λ_=>none))::[]) (λg=>g<=w.length/\∀(k:Nat)l,k<g->w[k]?=some l->qE x k l=true) (λg=>w.length-g) 0 (aj aP) (Sc.refl _) ⟨zW _,λk l h=>by omega⟩ ?_;rintro k ⟨hk,G⟩;by_cases T:k<w.length
   .obtain⟨l,hl⟩:∃l,w[k]?=some l:=⟨_,zD T⟩
    have hl':w[((k:Nat):Int).toNat]?=some l:=hl;obtain⟨kd,I⟩:∃y,x.kz[k]?=some y:=⟨_,zD (by omega)⟩
    have hll:=hw.nr l (zG hl);have hlf:=hw.nf l (zG hl);have HR:APure prog 68 [fP l,.clo 69 [.ro (uh x),.ro [iD k]]] (bD (l.any λr=>!dA x k r)):=Pv l _ (by omega) (λy hy=>N6 x k kd y I hl6 (by have:=hlf y hy;omega));have hany:(l.any λr=>!dA x k r)=!(l.all (dA x k)):=by rw[vJ];simp
    by_cases h5:512<l.length
    .have hb:qE x k l=false:=by unfold qE;rw[yE (by omega)];rfl
     repeat' first|refine bE ?_|intro b;conv=>whnf
     exact Rt.by (Vs.drop (yV _)) (.inl ⟨nx hl hb,rfl,rfl⟩)
    .repeat' first|refine bE ?_|intro b;conv=>whnf
     refine CE.pk (gK.peek (.cons (Pk.same _) (.cons (Pk.clo (.cons (Pk.same _) (.cons (Pk.ptr (j:=0) rfl (jn.refl _)) .nil))) .nil)) HR rfl) ?_;clear HR;rw[hany];have hro:qE x k l=l.all (dA x k):=by unfold qE;rw[yJ (by omega)];rfl
     cases hall:l.all (dA x k)with
     |true=>
      repeat' first|refine bE ?_|intro b;conv=>whnf
      refine⟨k+1,(aj aP),Sc.sl (yG _ _),⟨by omega,λk' l' hk' S=>?_⟩,by omega⟩;by_cases e:k'=k
      .subst e;cases hl.symm.trans S;rw[hro];exact hall
      .exact G k' l' (by omega) S
     |false=>
      repeat' first|refine bE ?_|intro b;conv=>whnf
      exact Rt.by (Vs.drop (yV _)) (.inl ⟨nx hl (hro.trans hall),rfl,rfl⟩)
   .obtain rfl:k=w.length:=by omega
    have J:∀(k:Nat)l,w[k]?=some l->qE x k l=true:=λk l h=>G k l (zE.1 h).1 h;clear G
    repeat' first|refine bE ?_|intro b;conv=>whnf
    refine aV mixed ai (γ:=Nat×(Value->Option Value)×af) (λg=>[(100,iD g.1)]) (λg=>(c,.cells 122 (qw x w (gd (bL x)) C D))::(D,.mp prog 9 λ_=>none)::(C,.obj (be prog 124 g.2.1))::g.2.2) (λg=>g.1<=(bL x).length/\fH w g.2.1 ((bL x).take g.1) g.2.2/\∀(q:Nat)r l,q<g.1->(bL x)[q]?=some r->w[r.kind]?=some l->∀y∈l,tr w r y=true) (λg=>(bL x).length-g.1) (0,(λ_=>none),[]) (aj aP) (Sc.refl _) ⟨zW _,fH.nil _ _,λq r l h=>by simp at h⟩ ?_;rintro⟨q,F,M⟩ ⟨hq,hA,G⟩;simp only at hq hA G⊢;by_cases hql:q<(bL x).length
    .obtain⟨r,hr⟩:∃r,(bL x)[q]?=some r:=⟨_,zD hql⟩
     have hr':(bL x)[((q:Nat):Int).toNat]?=some r:=hr;have hrm:=zG hr;obtain⟨u1,u2,u3⟩:=hS.up r hrm;obtain⟨l,hl⟩:∃l,w[r.kind]?=some l:=⟨_,zD (by omega)⟩
     obtain⟨E,Q⟩:∃l,w[r.up.toNat]?=some l:=⟨_,zD (by omega)⟩
     have hl':w[((r.kind:Nat):Int).toNat]?=some l:=hl;have hll:=hw.nr l (zG hl);have hlul:=hw.nr E (zG Q);obtain⟨kd,fd,I,hfd,_⟩:=aL3 hrm;have hrr:=Qx (J _ _ hl);have hadj:ly w r=gq l r.field E.length:=by unfold ly;rw[eD hl,eD Q]
     repeat' first|refine bE ?_|intro b;conv=>whnf
     refine Mk.go E.length rfl rfl rfl rfl rfl (by simp) (by omega) (by omega) (λU=>?_)
     repeat' first|refine bE ?_|intro b;conv=>whnf
     have hR0:P2 (gq (l.take 0) r.field E.length) (.slice (some ⟨U,0,none⟩) E.length E.length) [(U,.cells 22 (List.replicate E.length (.v (.slice none 0 0))))]:=by
      rw[List.take_zero,EB];exact bw.made (R:=RI) (x0:=[]) (ae.nil _ _) _ U (by unfold maxLen;omega)
     refine xz (i:=15) (d:=.v (.pointer (some ⟨b,0,none⟩))) (d':=.ro (KW r)) (τ:=(U,.cells 22 (List.replicate E.length (.v (.slice none 0 0))))::(c,.cells 122 (qw x w (gd (bL x)) C D))::(D,.mp prog 9 λ_=>none)::(C,.obj (be prog 124 F))::M) rfl (λh=>by cases h) (Vs.ptr (tb:=124) (List.Perm.swap _ _ _)) ?_;refine aV mixed ai (γ:=Nat×af) (λg=>[(117,iD g.1)]) (λg=>g.2++((c,.cells 122 (qw x w (gd (bL x)) C D))::(D,.mp prog 9 λ_=>none)::(C,.obj (be prog 124 F))::M)) (λg=>g.1<=l.length/\P2 (gq (l.take g.1) r.field E.length) (.slice (some ⟨U,0,none⟩) E.length E.length) g.2/\∀(i:Nat)y,i<g.1->l[i]?=some y->tr w r y=true) (λg=>l.length-g.1) (0,[(U,.cells 22 (List.replicate E.length (.v (.slice none 0 0))))]) (aj aP) (Sc.refl _) ⟨zW _,hR0,λi y h=>by simp at h⟩ ?_;clear hR0;rintro⟨i,sr⟩ ⟨hi,hR,P⟩;simp only at hi hR P⊢;by_cases hil:i<l.length
     .obtain⟨y,hy⟩:∃y,l[i]?=some y:=⟨_,zD hil⟩
      have hy':l[((i:Nat):Int).toNat]?=some y:=hy;have hym:=zG hy;have hyl:=(PV I (hrr.2 y hym)).1;have hyl2:=hw.nf l (zG hl) y hym;have hfl:=(zE.1 hfd).1;obtain⟨z,hz⟩:∃z,y[r.field]?=some z:=⟨_,zD (by omega)⟩
      have hz':y[((r.field:Nat):Int).toNat]?=some z:=hz;have O:tr w r y=!(decide (z<0)||decide ((E.length:Int)<=z)):=by unfold tr;rw[eD hz,eD Q]
      by_cases hz0:z<0
      .have hbad:tr w r y=false:=by rw[O,yJ hz0];rfl
       exact Xk
      .by_cases hz1:(E.length:Int)<=z
       .have hbad:tr w r y=false:=by rw[O,yJ hz1,Bool.or_true];rfl
        exact Xk
       .have hgood:tr w r y=true:=by rw[O,yE hz0,yE hz1];rfl
        obtain⟨v,rfl⟩:∃v:Nat,z=v:=⟨z.toNat,by omega⟩
        obtain⟨b0,cap0,K,u,t,τ,e0,p0,c0,hu,upo⟩:=bw.at hR (QS (f:=r.field) (l.take i) (show v<E.length by omega));rw[LU]at e0
        cases e0
        obtain⟨a1,ca1,rfl⟩:=ae.slice hu;have hil2:(cI (l.take i) r.field v).length<=1000:=by
         rw[aL5];have:=List.countP_le_length (p:=λr':List Int=>decide (r'.getD r.field 0=(v:Int))) (l:=l.take i);rw[zR]at this;omega
        repeat' first|refine bE ?_|intro b;conv=>whnf
        refine Ld.cellm (tb:=22) (cs:=K) (xK _ (p0.mem_iff.2 yN)) (by rw[eP];exact c0) ?_
        repeat' first|refine bE ?_|intro b;conv=>whnf
        refine Ap.go rfl rfl rfl rfl hu (τ:=(U,.cells 22 K)::(τ++((c,.cells 122 (qw x w (gd (bL x)) C D))::(D,.mp prog 9 λ_=>none)::(C,.obj (be prog 124 F))::M))) (by refine iT λa=>?_;have e1:=IB p0 a;simp only[List.append_eq,List.nil_append,iS,jP,jh]at e1⊢;omega) rfl (zs:=(cI (l.take i) r.field v++[(i:Int)]).map λn=>[iD n]) (by rw[yB];rfl) (by simp;omega) (by simp;omega) (λs2=>s2++((U,.cells 22 K)::(τ++((c,.cells 122 (qw x w (gd (bL x)) C D))::(D,.mp prog 9 λ_=>none)::(C,.obj (be prog 124 F))::M)))) (λs2=>zH _) (λa9 c9 s9 hr9=>?_)
        repeat' first|refine bE ?_|intro b;conv=>whnf
        refine Sv.cellm (tb:=22) (cs:=K) (cs':=K.set v (.v (.slice a9 ((cI (l.take i) r.field v++[(i:Int)]).map λn=>[iD n]).length c9))) (τ:=s9++(τ++((c,.cells 122 (qw x w (gd (bL x)) C D))::(D,.mp prog 9 λ_=>none)::(C,.obj (be prog 124 F))::M))) D0 (by rw[eP];exact(zE.1 c0).1) rfl (by rw[eP]) ?_
        repeat' first|refine bE ?_|intro b;conv=>whnf
        have h8:=upo _ _ s9 ((U,.cells 22 (K.set v (.v (.slice a9 ((cI (l.take i) r.field v++[(i:Int)]).map λn=>[iD n]).length c9))))::(s9++τ)) hr9 (zH _);have hlt:(l.take i).length=i:=by rw[zR];omega
        have hsn:=wQ (rows:=l.take i) (r:=y) (f:=r.field) (n:=E.length) (v:=v) (eD hz 0);rw[hlt,←PG hy]at hsn;rw[←hsn]at h8;refine⟨(i+1,(U,.cells 22 (K.set v (.v (.slice a9 ((cI (l.take i) r.field v++[(i:Int)]).map λn=>[iD n]).length c9))))::(s9++τ)),(aj aP),Sc.perm D0,⟨by simp only;omega,h8,λi' y' hi' hy2=>?_⟩,by simp only;omega⟩;by_cases e:i'=i
        .subst e;cases hy.symm.trans hy2;exact hgood
        .exact P i' y' (by omega) hy2
     .obtain rfl:i=l.length:=by omega
      rw[yM,←hadj]at hR;have hfl:=(zE.1 hfd).1;have Z:=Y kd (zG I);obtain⟨kl,T⟩:=qc (show(Lit.int .i64 (r.kind:Int)).wf=true from ic (by omega) (by omega)) (show(Lit.int .i64 (r.field:Int)).wf=true from ic (by omega) (by omega)) (show(Lit.int .i64 r.up).wf=true from ic (by omega) (by omega))
      repeat' first|refine bE ?_|intro b;conv=>whnf
      refine Ld.cellm (yW _ yN) rfl ?_
      repeat' first|refine bE ?_|intro b;conv=>whnf
      refine ci.mapUpdate (b:=C) (F:=F) (k:=124) (e:=70) (kv:=Ob r) (kl:=kl) (τ:=sr++((c,.cells 122 (qw x w (gd (bL x)) C D))::(D,.mp prog 9 λ_=>none)::M)) rfl rfl (pB2 _ _ _) rfl D0 aZ5 underlying119 T ?_
      repeat' first|refine bE ?_|intro b;conv=>whnf
      refine⟨(q+1,de F (Ob r) (.slice (some ⟨U,0,none⟩) E.length E.length),M++sr),(aj aP),Sc.perm D0,⟨by simp only;omega,?_,λq' r' l' X V S y hy=>?_⟩,by simp only;omega⟩
      .rw[PG hr];refine hA.push hR λr' V=>?_;obtain⟨q',X⟩:=yO V;have hq2:=(zE.1 X).1;rw[zR]at hq2;rw[yX,if_pos (by omega)]at X;exact GV X hr (by omega)
      .by_cases e:q'=q
       .subst e
        cases hr.symm.trans V
        cases hl.symm.trans S
        obtain⟨i,hi⟩:=yO hy;exact P i y (zE.1 hi).1 hi
       .exact G q' r' l' (by omega) V S y hy
    .obtain rfl:q=(bL x).length:=by omega
     rw[yM]at hA;have hfit:cO x w=true:=C6 hlen J λr hr l hl y hy=>by
      obtain⟨q,hq⟩:=yO hr;exact G q r l (zE.1 hq).1 hq hl y hy
     clear G J;have HB:=Hu x.lz;have hll:=hV.nl
     repeat' first|refine bE ?_|intro b;conv=>whnf
     refine sv (List.Perm.swap _ _ _) ?_;refine Ce mixed ai rfl (v8 x.lz (by omega)) (λy hy=>wa hy) rfl (γ:=Unit) (λm _=>(D,.mp prog 9 (jD (x.lz.drop (x.lz.length-m))))::(c,.cells 122 (qw x w (gd (bL x)) C D))::(C,.obj (be prog 124 F))::M) (λ_ _=>True) () (by rw[show jD (x.lz.drop (x.lz.length-0))=λ_=>none by rw[Nat.sub_zero,List.drop_length,H4]];exact dV) trivial ?_ ?_
     .rintro lb m _ y hy -;obtain⟨j,lf,h1,h2,rfl⟩:=aQ9 hy;have hnm:=uZ (hV.lz lf (zG h2));rw[show x.lz.length-m=j+1 by omega]
      repeat' first|refine bE ?_|intro b;conv=>whnf
      refine ci.mapUpdateM (d:=dj lf) (b:=D) (k:=9) (e:=93) (kv:=.string lf.name) (τ:=(b,.cells 93 (dT lf))::(c,.cells 122 (qw x w (gd (bL x)) C D))::(C,.obj (be prog 124 F))::M) rfl rfl (gw.v _) rfl (List.Perm.swap _ _ _) (string_keyed underlying9) underlying120 (vB underlying9 (by unfold maxLen;omega)) ?_
      repeat' first|refine bE ?_|intro b;conv=>whnf
      rw[B9,←Iy h2];exact⟨(),by rw[show x.lz.length-(m+1)=j by omega];exact List.Sublist.cons_cons _ (yG _ _),trivial⟩
     .rintro _ -;rw[show x.lz.length-(LJ x.lz).length=0 by rw[aQ8];omega,List.drop_zero]
      repeat' first|refine bE ?_|intro b;conv=>whnf
      exact Rt.by (Vs.perm (τ:=(c,.cells 122 (fB x w (bL x) C D (.slice none 0 0)))::(C,.obj (be prog 124 F))::(D,.mp prog 9 (jD x.lz))::M) (by refine iT λa=>?_;simp only[iS,O4];omega)) (.inr ⟨hfit,c,C,D,F,M,rfl,rfl,hA⟩)
 .repeat' first|refine bE ?_|intro b;conv=>whnf
  exact Rt.by (Vs.drop (yV _)) (.inl ⟨C8 hlen,rfl,rfl⟩)
end
section
open Go
theorem C2{x:ak}{k f:Nat}{kd:au}{d:am}(h:x.kz[k]?=some kd)(a:kd.fields[f]?=some d):fieldAt x k f=some d:=by
 simp[fieldAt,dv,h,a]
theorem Fe{x:ak}{k:Nat}{kd:au}(h:x.kz[k]?=some kd):dv x k=some kd:=by simp[dv,h]
theorem Gz{x:ak}(h:ef x=[]){k f:Nat}{kd:au}{d:am}(b:x.kz[k]?=some kd)(c:kd.fields[f]?=some d)(g:d.kind=4):dF d.of=true\/∃q:Nat,aZ kd d.of=q/\q<f:=by
 have a:=(Y3 h b c).2;unfold cJ at a;rw[if_neg (by omega),if_neg (by omega),if_neg (by omega),if_pos g]at a;unfold qq at a;rw[Fe b]at a;simp only at a
 cases e:dF d.of with
 |true=>exact .inl rfl
 |false=>
  rw[if_neg (by rw[e];decide)]at a;split at a
  .omega
  .exact .inr ⟨(aZ kd d.of).toNat,by omega,by omega⟩
theorem z7{x:ak}(h:ef x=[]){k f:Nat}{kd:au}{d:am}(b:x.kz[k]?=some kd)(c:kd.fields[f]?=some d)(e:d.kind=5):x.lz.any (λl=>seq l.name d.of)=true:=by
 have a:=(Y3 h b c).2;unfold cJ at a;rw[if_neg (by omega),if_neg (by omega),if_neg (by omega),if_neg (by omega),if_pos e]at a;split at a
 .assumption
 .omega
def xX:=@Int.toNat_of_nonneg
theorem z6{x:ak}{k f:Nat}{kd:au}{d:am}(c:x.kz[k]?=some kd)(m:kd.fields[f]?=some d)(n:d.kind=7\/d.kind=8)(a:0<=aI x k f):∃(u:Nat)(g:am),aZ kd d.up=u/\u<f/\kd.fields[u]?=some g/\g.kind=1/\aI x k u=aI x k f:=by
 have e:aI x k f=wk x k (QQ x k f d):=by unfold aI;rw[C2 c m];simp only;rw[if_pos n]
 rw[e]at a;have j:QQ x k f d=D' (aZ kd d.up) f (fieldAt x k (aZ kd d.up)):=by unfold QQ;rw[Fe c]
 cases h:fieldAt x k (aZ kd d.up)with
 |none=>rw[j,h]at a;simp[D',wk]at a
 |some g=>
  rw[j,h]at a;by_cases h2:aZ kd d.up<(f:Int)/\g.kind=1
  .have i:0<=aZ kd d.up:=by
    by_cases i:0<=aZ kd d.up
    .exact i
    .unfold fieldAt at h;rw[Fe c]at h;simp only at h;rw[if_neg i]at h;cases h
   obtain⟨u,b⟩:∃u:Nat,aZ kd d.up=u:=⟨_,(xX i).symm⟩
   have l:kd.fields[u]?=some g:=by rw[b]at h;unfold fieldAt at h;rw[Fe c]at h;simpa using h
   refine⟨u,g,b,by omega,l,h2.2,?_⟩;rw[e,j,h];unfold aI;rw[C2 c l];simp only[D',if_pos h2,wk];rw[if_neg (by omega),if_pos h2.2]
  .rw[D',if_neg h2]at a;simp[wk]at a
theorem GA{x:ak}(h:ef x=[]){k f:Nat}{kd:au}{d:am}(b:x.kz[k]?=some kd)(c:kd.fields[f]?=some d)(e:d.kind=7\/d.kind=8):0<=aI x k f/\Fg x k f d (aI x k f)=0:=by
 have a:=(Y3 h b c).2;unfold cJ at a;rw[if_neg (by omega),if_neg (by omega),if_neg (by omega),if_neg (by omega),if_neg (by omega),if_neg (by omega)]at a;refine⟨?_,a⟩;unfold Fg at a;split at a
 .omega
 .omega
theorem z'{x:ak}(h:ef x=[]){k f:Nat}{kd:au}{d:am}(c:x.kz[k]?=some kd)(i:kd.fields[f]?=some d)(j:d.kind=8) :
  ∃(u:Nat)(g:am)(o:Nat)(a:au)(q:Nat),aZ kd d.up=u/\u<f/\kd.fields[u]?=some g/\g.kind=1/\aI x k u=o/\x.kz[o]?=some a/\aZ a d.of=q/\q<a.fields.length:=by
 obtain⟨l,b⟩:=GA h c i (.inr j);obtain⟨u,g,t,s,r,p,n⟩:=z6 c i (.inr j) l;obtain⟨o,a,m,e⟩:=j6 x k f l;have y:¬aZ a d.of<0:=by
  intro v;unfold Fg at b;rw[if_neg (by omega),if_neg (by omega)]at b;have:cp x k f d=(-1,xa):=by
   unfold cp gL;rw[if_neg (by omega),m,Fe e];simp only;unfold fieldAt;rw[Fe e];simp only;rw[if_neg (by omega)]
  rw[this,if_pos (.inl (by decide))]at b;omega
 have w:aZ a d.of<a.fields.length:=Fk _ _;exact⟨u,g,o,a,(aZ a d.of).toNat,t,s,r,p,by rw[n,m],e,by omega,by omega⟩
theorem Gy{x:ak}(h:ef x=[]){k f:Nat}{kd:au}{d:am}(v:x.kz[k]?=some kd)(w:kd.fields[f]?=some d)(C:d.kind=6) :
  ∃(o s:Nat)(a:au)(g:am)(u:Nat)(r:am),jk x k f=((o:Int),(s:Int))/\x.kz[o]?=some a/\a.fields[s]?=some g/\aZ a g.up=u/\a.fields[u]?=some r/\r.kind=1/\aI x o u=k:=by
 have c:=(Y3 h v w).2;unfold cJ at c;rw[if_neg (by omega),if_neg (by omega),if_neg (by omega),if_neg (by omega),if_neg (by omega),if_pos C]at c;split at c
 .omega
 rename_i i;split at c
 .rename_i e;unfold ga at i e;split at i
  .simp at i
  rename_i y;rw[if_neg y]at e;simp only at i e;have B:bc x d.of<x.kz.length:=Fk _ _;obtain⟨o,t⟩:∃o:Nat,bc x d.of=o:=⟨_,(xX (by omega)).symm⟩
  obtain⟨a,b⟩:∃a,x.kz[o]?=some a:=⟨_,zD (by omega)⟩
  obtain⟨s,p⟩:=List.length_eq_one_iff.1 e;have m:s∈x6 x k d:=by rw[p];exact zN.2 rfl
  unfold x6 at m;rw[t,Fe b]at m;simp only[xM,vP,xT]at m;obtain⟨n,⟨l,q⟩,rfl⟩:=m;obtain⟨g,j⟩:∃g,a.fields[n]?=some g:=⟨_,zD l⟩
  rw[j]at q;simp only[zJ,zQ]at q;obtain⟨⟨A,H⟩,z⟩:=q;obtain⟨u,r,G,I,F,E,D⟩:=z6 b j (.inl A) (by omega);refine⟨o,n,a,g,u,r,?_,b,j,G,F,E,by rw[D,z]⟩;unfold jk;rw[C2 v w];simp only;unfold ga;rw[if_neg y,p,t]
  rfl
 .omega
theorem z8{x:ak}(h:ef x=[]){i k:Nat}{q:cF}{kd:au}(e:x.rules[i]?=some q)(j:bc x q.kind=(k:Int))(d:x.kz[k]?=some kd):(dF q.a=true\/0<=aZ kd q.a)/\(dF q.b=true\/0<=aZ kd q.b):=by
 have a:je x i q=0:=by
  have b:=h;unfold ef at b;split at b
  .simp only[vN]at b;have g:=aV5 b.2 i (zE.1 e).1;simp only[lN,e]at g;exact si g
  .cases b
 unfold je at a;rw[j,Fe d]at a;simp only at a;have y:∀nm:ByteArray,eU x kd k nm=false->dF nm=true\/0<=aZ kd nm:=λnm n=>by
  unfold eU at n
  cases l:dF nm with
  |true=>exact .inl rfl
  |false=>
   rw[l]at n;refine .inr ?_;by_cases h3:0<=aZ kd nm
   .exact h3
   .exfalso;have:g0 x k (aZ kd nm)=(xa,false):=by unfold g0 fieldAt;rw[Fe d];simp only;rw[if_neg h3]
    rw[this]at n
    cases n
 cases c:eU x kd k q.a with
 |true=>
  exfalso;rw[c,Bool.true_or]at a;generalize oi x i q=t at a
  cases t<;>simp[jg]at a
 |false=>
  cases f:eU x kd k q.b with
  |true=>
   exfalso;rw[c,f,Bool.or_true]at a;generalize oi x i q=t at a
   cases t<;>simp[jg]at a
  |false=>exact⟨y _ c,y _ f⟩
end
section
open Go Go.Maps Go.MapKept
theorem ra(w:World):(zeroValue 70).run prog w= .ok (.slice none 0 0) w:=by kernel_rfl
theorem ba5{x:ak}{w:Wd}(h:cO x w=true):w.length=x.kz.length/\(∀(k:Nat)l,w[k]?=some l->qE x k l=true)/\∀r∈bL x,∀l,w[r.kind]?=some l->∀y∈l,tr w r y=true:=by
 unfold cO at h;simp only[zJ,zQ,yA]at h;obtain⟨⟨f,e⟩,d⟩:=h;refine⟨f,λk l a=>?_,λr c l a y b=>?_⟩
 .have:=e k (xT.2 (zE.1 a).1)
  rwa [eD a]at this
 .have:=d r c y;rw[eD a]at this;exact this b
theorem nN(x:ak)(w:Wd)(r:Rf)(j:Nat):(iG x w r j).length<=1:=by unfold iG;split;exact Ej ..;simp
theorem vq{x:ak}{w:Wd}(a:Ws w)(q:Nat):(EC x w q).length<=1000:=by
 unfold EC;split
 .rename_i r b;have d:=fF (nN x w r) (w.getD r.up.toNat []).length;have c:(w.getD r.up.toNat []).length<=1000:=by
   cases h:w[r.up.toNat]? with
   |none=>rw[List.getD_eq_getElem?_getD,h];simp
   |some l=>rw[eD h];exact a.nr l (zG h)
  omega
 .simp
theorem m9(x:ak)(w:Wd)(k:Nat):(kM x w k).length<=1:=by unfold kM;split;exact Ej ..;simp
theorem ba4(x:ak)(w:Wd)(k:Nat)(kd:au)(l:List (List Int))(i:Nat)(r:List Int)(f:Nat):(ja x w k kd l i r f).length<=1:=by unfold ja;split;exact Ej ..;simp
theorem bp4{A B:Prop}(k:B)(h:ar B->A:=by intro q7;(first|refine bA ?_|refine aA ?_|(refine' ah ?hc ?_;(case hc=>first|exact E7 _ _|exact HN)));exact q7.1):A:=h ⟨k⟩
theorem KD{A B:Prop}(k:B)(h:ar B->A:=by intro q7;(first|refine zb ?_|(with_reducible refine Dr.r ?_)|refine ZN ?_);exact q7.1):A:=h ⟨k⟩
theorem bp3{A B:Prop}(k:B)(h:ar B->A:=by intro q7;(first|refine bA ?_|refine KD ?_|(refine' ah ?hc ?_;(case hc=>first|exact E7 _ _|exact HN)));exact q7.1):A:=h ⟨k⟩
end
section
open Go Go.Maps Go.MapKept
theorem Yr{p:Prop}(h:p:=by
 refine ao func225 ntmps225 λBB=>?_
 repeat refine Qg ?_
 refine fW mixed ai (γ:=Nat) (λk=>[(8,iD k)]) (λ_=>[]) (λk=>k<=l.length/\∀i y,i<k->l[i]?=some y->p y=false) (λk=>l.length-k) 0 rfl rfl ⟨by omega,by omega⟩ ?_;rintro k ⟨hk,hno⟩;by_cases hlt:k<l.length
 .obtain⟨y,hy⟩:∃y,l[(k:Int).toNat]?=some y:=⟨_,zD hlt⟩
  repeat' first|refine Qg ?_|(refine aT ?_;constructor<;>intro hc)
  .refine Rt.pure (zM iD ?_);exact(JP hy ‹_› hno).symm
  .exact⟨k+1,rfl,rfl,⟨by omega,λi z hi hz=>by
    by_cases e:i=k
    .subst e;rw[show((i:Int)).toNat=i from rfl,hz]at hy;cases hy;assumption
    .exact hno i z (by omega) hz⟩,by omega⟩
 .repeat refine Qg ?_
  refine Rt.pure (zM iD ?_);exact(Y8 λi y hy=>hno i y (by have:=(zE.1 hy).1;omega) hy).symm):p:=h
theorem Ow{f:FuncId}{c1:List D}(l:List (Int×Int))(p:Int×Int->Bool)(hl:l.length<=1000000)(hp:∀y∈l,APure prog f [.agg (dt y),.ro c1] (bD (p y))):APure prog 225 [.sl 2 (l.map dt),.clo f [.ro c1]] (iD (idx p l)):=Yr
theorem So{A B:Prop}(k:B)(h:ar B->A:=by intro q7;(first|refine bA ?_|refine aA ?_|(refine' ah ?hc ?_;(case hc=>exact Ow l p hl hp)));exact q7.1):A:=h ⟨k⟩
theorem Jv{f:FuncId}{c1:List D}(l:List (Int×Int))(p:Int×Int->Bool)(hl:l.length<=1000000)(hp:∀y∈l,APure prog f [.agg (dt y),.ro c1] (bD (p y))):APure prog 169 [.sl 2 (l.map dt),.clo f [.ro c1]] (bD (l.any p)):=by
 refine ao func169 ntmps169 λa=>?_
 repeat refine So ?_
 refine Rt.pure (zM bD ?_);exact qM p l
theorem Em{α:Type}(l:List α)(p:α->Bool):(l.any λa=>!p a)=!l.all p:=by rw[vJ,Bool.not_not]
theorem u4(n:Nat)(m:Int×Int):APure prog 170 [.agg (dt m),.ro [iD n]] (bD (!b8 n m)):=by
 refine ao func170 ntmps170 λa=>?_
 repeat' first|refine aq ?_|(refine aT ?_;constructor<;>intro hc)
 .refine Rt.pure (zM bD ?_);unfold b8 cz;simp only[Bool.true_eq,xJ,Bool.and_eq_false_iff,xF];split at hc<;>omega
 .refine Rt.pure (zM bD ?_);unfold b8 cz;rw[Bool.eq_iff_iff];simp only[zQ,xJ,Bool.and_eq_false_iff,xF];split at hc<;>split<;>omega
def S'(l:bW):Int:=if 12<l.tz.length\/32<l.mz.length then 4 else if l.tz.length=0\/l.mz.all (b8 l.tz.length)=false then 1 else 0
theorem Oa(l:bW):decide (S' l=0)=PT l:=by
 unfold S' PT;split
 .rename_i h;rw[yE (by decide)];rcases h with h|h
  .rw[yE (show ¬l.tz.length<=12 by omega)];rfl
  .rw[yE (show ¬l.mz.length<=32 by omega)];simp
 .rename_i h;split
  .rename_i a;rw[yE (by decide)];rcases a with a|a
   .rw[a];simp
   .rw[a];simp
  .rename_i a;have b:l.mz.all (b8 l.tz.length)=true:=by
    cases e:l.mz.all (b8 l.tz.length)with
    |true=>rfl
    |false=>exact absurd (.inr e) a
   rw[b,yJ (show l.tz.length<=12 by omega),yJ (show l.mz.length<=32 by omega),yJ (show l.tz.length≠0 by omega)];rfl
theorem XO{p:Prop}(h:p:=by
 repeat' first|refine aq ?_|intro b;conv=>whnf
 (refine CE.pk (gK.peek (.cons (Pk.same _) (.cons (Pk.clo (.cons (Pk.ptr (j:=0) rfl (jn.refl _)) .nil)) .nil)) HK rfl) ?_)
 repeat' first|refine aq ?_|intro b;conv=>whnf
 exact Rt.pure rfl):p:=h
theorem Cr(l:bW)(h1:l.tz.length<=1000000)(h2:l.mz.length<=1000000):APure prog 121 [dj l] (iD (S' l)):=by
 have HK:APure prog 169 [.sl 2 (l.mz.map dt),.clo 170 [.ro [iD ((l.tz.map λ(x:ByteArray)=>[sD x]).length:Nat)]]] (bD (!l.mz.all (b8 l.tz.length))):=by
  rw[zL];exact Em l.mz (b8 l.tz.length) ▸ Jv _ _ (by omega) λy _=>u4 _ y
 refine ao func121 ntmps121 λa=>?_;unfold S';by_cases h3:12<l.tz.length\/32<l.mz.length
 .rw[if_pos h3]
  repeat' first|refine aq ?_|intro b;conv=>whnf|(refine aT ?_;constructor<;>intro hc)
  all_goals first|exact Rt.pure rfl|(exfalso;omega)
 .rw[if_neg h3];by_cases h4:l.tz.length=0
  .rw[if_pos (.inl h4)]
   repeat' first|refine aq ?_|intro b;conv=>whnf
   exact Rt.pure rfl
  .cases h5:l.mz.all (b8 l.tz.length)with
   |false=>
    rw[h5]at HK;rw[if_pos (.inr rfl)];exact XO
   |true=>
    rw[h5]at HK;rw[if_neg (by simpa using h4)];exact XO
end
section
open Go Go.Maps Go.MapKept
theorem x1{P:Program}{σ:af}{ρ:Operand->D}{T:TypeId->Option TI}(g:∀t i,T t=some i->aD P t=some i){o:Oper}{t:TypeId}{x a:Operand}{b f n:Nat}{kk:IntKind}{j:Int}{k:Bool}{i:TI}(c:o.op= .indexAddr t x a)(hx:ρ x= .v (.pointer (some ⟨b,f,none⟩)))(d:ρ a= .v (.int kk j))(h:T t=some i)(e:i.arr=some (n,k,1))(l:0<=j)(m:j.toNat<n):Yd P o ρ σ (.v (.pointer (some ⟨b,f+j.toNat,none⟩))):=
 jf g c hx d h e (by omega) m rfl
def p'(l:bW)(s:Int):List Int:=(l.mz.filter λm=>decide (m.1=s)).map λm=>m.2
theorem p9(l:bW)(s:Nat):decide ((p' l s).length=0)=jH l s:=by
 unfold p' jH;rw[zL]
 cases h:l.mz.any λm=>decide (m.1=(s:Int))with
 |false=>
  rw[List.any_eq_false]at h;rw[List.filter_eq_nil_iff.2 λm a=>h m a];rfl
 |true=>
  rw[wC]at h;obtain⟨m,a,h⟩:=h;have:0<(l.mz.filter λm=>decide (m.1=(s:Int))).length:=xS.2 (List.ne_nil_of_mem (vP.2 ⟨a,h⟩));rw[yE (by omega)];rfl
theorem Cu(l:bW)(s:Int)(hl:l.mz.length<=1000):APure prog 122 [dj l,iD s] (bi (p' l s)):=by
 refine ao func122 ntmps122 λu=>?_
 repeat' first|refine aq ?_|intro b;conv=>whnf
 refine aV mixed ai (γ:=Nat×Value×af) (λg=>[(5,.v g.2.1),(11,iD g.1)]) (λg=>g.2.2) (λg=>g.1<=l.mz.length/\g8 3 iD (((l.mz.take g.1).filter λm=>decide (m.1=s)).map λm=>m.2) g.2.1 g.2.2) (λg=>l.mz.length-g.1) (0,.slice none 0 0,[]) (aj aP) (Sc.refl _) ⟨zW _,ae.nil _ _⟩ ?_;rintro⟨j,v,r⟩ ⟨hj,w⟩;simp only at hj w⊢;by_cases hjl:j<l.mz.length
 .obtain⟨m,e⟩:∃m,l.mz[j]?=some m:=⟨_,zD hjl⟩
  have o:l.mz[((j:Nat):Int).toNat]?=some m:=e;have k:=PG e;have n:((l.mz.take j).filter λm=>decide (m.1=s)).length<=1000:=xH (List.length_filter_le ..) (by rw[zR];omega);have a:((l.mz.take (j+1)).filter λm=>decide (m.1=s)).length<=1000:=xH (List.length_filter_le ..) (by rw[zR];omega);by_cases h:m.1=s
  .repeat' first|refine aq ?_|intro b;conv=>whnf|((with_reducible refine' Ot.yd ?hydn ?_);(case hydn=>(refine x1 ai rfl rfl rfl rfl rfl ?_ ?_<;>omega)))
   refine Ap.go rfl rfl rfl rfl w (JU _ _) rfl (zs:=(((l.mz.take (j+1)).filter λm=>decide (m.1=s)).map λm=>m.2).map λb=>[iD b]) (by rw[k,vZ,yB,yB];simp[h]) (by simp;omega) (by simp;omega) (λi=>_::i) (PL _) (λt q f h3=>?_)
   repeat' first|refine aq ?_|intro b;conv=>whnf|((with_reducible refine' Ot.yd ?hydn ?_);(case hydn=>(refine x1 ai rfl rfl rfl rfl rfl ?_ ?_<;>omega)))
   exact⟨(j+1,_,f),(aj aP),Sc.sl (yG _ _),⟨by simp only;omega,h3⟩,by simp only;omega⟩
  .repeat' first|refine aq ?_|intro b;conv=>whnf|((with_reducible refine' Ot.yd ?hydn ?_);(case hydn=>(refine x1 ai rfl rfl rfl rfl rfl ?_ ?_<;>omega)))
   exact⟨(j+1,v,r),(aj aP),Sc.sl (yG _ _),⟨by simp only;omega,by rw[k,vZ];simpa [h]using w⟩,by simp only;omega⟩
 .obtain rfl:j=l.mz.length:=by omega
  rw[yM]at w
  repeat' first|refine aq ?_|intro b;conv=>whnf
  exact Rt.vs (Vs.row w (by simp:r.Perm (r++[])))
def fL(N:Nat->Bool):List D:=(List.range 12).map λi=>bD (N i)
theorem YZ(N:Nat->Bool):(fL N).length=12:=by simp[fL]
theorem YY(N:Nat->Bool){j:Nat}(h:j<12):(fL N)[j]?=some (bD (N j)):=by unfold fL;rw[qA,xV h];rfl
theorem bi1(N:Nat->Bool){j:Nat}(h:j<12)(b:Bool):(fL N).set j (bD b)=fL λi=>if i=j then b else N i:=by
 refine xY λi=>?_;by_cases hi:i<12
 .rw[YY _ hi];by_cases e:i=j
  .subst e;rw[xI (by rw[YZ];exact hi),if_pos rfl]
  .rw[wN (Ne.symm e),YY _ hi,if_neg e]
 .rw[yY.2 (by rw[yR,YZ];omega),yY.2 (by rw[YZ];omega)]
def gi(n:Nat)(new o:Nat->Bool)(j:Nat):List Bool:=(List.range n).map λi=>if i<j then new i else o i
theorem uU(n:Nat)(new o:Nat->Bool):gi n new o 0=(List.range n).map o:=by unfold gi;exact List.map_congr_left λi _=>if_neg (Nat.not_lt_zero i)
theorem uV(n:Nat)(new o:Nat->Bool):gi n new o n=(List.range n).map new:=by unfold gi;exact List.map_congr_left λi h=>if_pos (xT.1 h)
theorem B6{n j:Nat}(new o:Nat->Bool)(h:j<n):(gi n new o j)[j]?=some (o j):=by unfold gi;rw[qA,xV h];simp
theorem aZ2(n:Nat)(new o:Nat->Bool)(j:Nat):(gi n new o j).length=n:=by simp[gi]
theorem B5{n j:Nat}(new o:Nat->Bool)(h:j<n):(gi n new o j).set j (new j)=gi n new o (j+1):=by
 refine xY λi=>?_;by_cases hi:i<n
 .have a:∀q,(gi n new o q)[i]?=some (if i<q then new i else o i):=λq=>by unfold gi;rw[qA,xV hi];rfl
  rw[a];by_cases e:i=j
  .subst e;rw[xI (by rw[aZ2];exact hi),if_pos (by omega)]
  .rw[wN (Ne.symm e),a];by_cases h2:i<j
   .rw[if_pos h2,if_pos (by omega)]
   .rw[if_neg h2,if_neg (by omega)]
 .rw[yY.2 (by rw[yR,aZ2];omega),yY.2 (by rw[aZ2];omega)]
theorem bf1(a b c d:Nat×aE):[d,a,b,c].Perm [a,b,c,d]:=gY
theorem aO3(a b c d:Nat×aE):[a,b,c,d].Perm [d,a,b,c]:=gY
theorem Sn{A B:Prop}(k:B)(h:ar B->A:=by intro q7;(first|refine bA ?_|refine mx ?_|(refine' ah ?hc ?_;(case hc=>fail)));exact q7.1):A:=h ⟨k⟩
theorem bB8{p:Prop}(h:p:=by rw[eP];exact(zE.1 hc5).1):p:=h
theorem DU{p:Prop}(h:p:=by
 simp only[Bool.true_or,Bool.false_or,Bool.true_and,Bool.false_and,Bool.or_self,Bool.or_false,Bool.or_true]at hnj;rw[hnj]at hw
 repeat' first|refine aq ?_|((with_reducible refine' Ot.yd ?hydn ?_);(case hydn=>(refine x1 ai rfl rfl rfl rfl rfl ?_ ?_<;>omega)))|((refine' Ld.cellm (tb:=4) (cs:=cs5) ?hq1 ?hq2 ?_);(case hq1=>(simp;done));(case hq2=>(rw[eP];exact hc5)))|((refine' Ld.cellm (tb:=227) (cs:=fL N) ?hq1 ?hq2 ?_);(case hq1=>(simp;done));(case hq2=>(rw[xD,Int.toNat_natCast];exact g1)))|((refine' Ld.cellm (tb:=227) (cs:=fL E) ?hq1 ?hq2 ?_);(case hq1=>(simp;done));(case hq2=>(rw[xD,Int.toNat_natCast];exact g2)))|(refine Sv.cellm (tb:=4) (cs:=cs5) (τ:=[(b6,.cells 227 (fL N)),(b9,.cells 166 [.v (.slice (some ⟨b5,0,none⟩) n cap)]),(b7,.cells 227 (fL E))]) (aO3 _ _ _ _) bB8 rfl (by rw[eP]) ?_)
 refine⟨(j+1,_),(aj aP),Sc.perm (bf1 _ _ _ _),⟨by simp only;omega,hw⟩,by simp only;omega⟩):p:=h
theorem u6(m n:Nat)(y:n<=12)(z:m<=2000)(N E b:Nat->Bool)(lo:Int)(b9 b7:Nat)(v:Value)(s:af)(r:g8 4 bD ((List.range n).map b) v s) :
  az prog 124 [iD m,.agg (fL N),.v (.pointer (some ⟨b9,0,none⟩)),.ro [iD lo],.v (.pointer (some ⟨b7,0,none⟩))] ((b9,.cells 166 [.v v])::(b7,.cells 227 (fL E))::s)
   (λd σ'=>∃k,d=bD true/\σ'=(b9,.cells 166 [.v v])::(b7,.cells 227 (fL E))::k/\g8 4 bD ((List.range n).map λi=>b i||(N i&&(decide (lo<=(m:Int))||E i))) v k):=by
 obtain⟨a,cap,rfl⟩:=ae.slice r;rw[zL,zL,vU]at *;obtain⟨new,w⟩:∃new:Nat->Bool,new=λi=>b i||(N i&&(decide (lo<=(m:Int))||E i)):=⟨_,rfl⟩
 rw[←w];refine cU func124 ntmps124 λC=>?_
 repeat refine Sn ?_
 refine Bx.r ?_;refine ci.box (t:=227) rfl rfl (λb6=>?_)
 repeat refine aq ?_
 refine aV mixed ai (γ:=Nat×af) (λg=>[(11,iD g.1)]) (λg=>(b6,.cells 227 (fL N))::(b9,.cells 166 [.v (.slice a n cap)])::(b7,.cells 227 (fL E))::g.2) (λg=>g.1<=n/\g8 4 bD (gi n new b g.1) (.slice a n cap) g.2) (λg=>n-g.1) (0,s) (aj aP) (Sc.refl _) ⟨zW _,by rw[uU];exact r⟩ ?_;rintro⟨j,s⟩ ⟨hj,h⟩;simp only at hj h⊢;by_cases hjn:j<n
 .have e:=B5 new b hjn;have g1:=YY N (j:=j) (by omega);have g2:=YY E (j:=j) (by omega);obtain⟨b5,q,cs5,l,rfl,hc5,f⟩:=aW2 h (B6 new b hjn);obtain⟨rfl,_,rfl⟩:=Value.slice.inj l;clear l;have hw:=f (new j);rw[e]at hw;have hnj:new j=(b j||(N j&&(decide (lo<=(m:Int))||E j))):=by rw[w]
  generalize b j=o at *;generalize N j=u at *;generalize E j=x at *
  cases o with
  |true=>exact DU
  |false=>
   cases u with
   |false=>exact DU
   |true=>
    by_cases hlo:lo<=(m:Int)
    .rw[yJ hlo]at hnj;exact DU
    .rw[yE hlo]at hnj
     cases x with
     |false=>exact DU
     |true=>exact DU
 .obtain rfl:j=n:=by omega
  rw[uV]at h
  repeat refine aq ?_
  exact Rt.by (Vs.drop (yG _ _)) ⟨s,rfl,rfl,h⟩
end
section
open Go Go.Maps Go.MapKept
def eJ(l:bW)(m i:Nat):Bool:=(jz l m).getD i false
def Kr(l:bW)(m j:Nat):List Bool:=(l.mz.take j).foldl (λn q=>if(jz l m).getD q.1.toNat false then n.set q.2.toNat true else n) (List.replicate 12 false)
def yh(l:bW)(m j i:Nat):Bool:=(Kr l m j).getD i false
theorem Gm(l:bW)(m j:Nat):(Kr l m j).length=12:=by
 unfold Kr;generalize l.mz.take j=s;have:∀(s:List (Int×Int))(x:List Bool),(s.foldl (λn q=>if(jz l m).getD q.1.toNat false then n.set q.2.toNat true else n) x).length=x.length:=by
  intro s
  induction s with
  |nil=>intro x;rfl
  |cons q s i=>intro x;rw[List.foldl_cons,i];split<;>simp
 rw[this];simp
theorem l8{l:bW}{m j:Nat}{q:Int×Int}(h:l.mz[j]?=some q):Kr l m (j+1)=if eJ l m q.1.toNat then(Kr l m j).set q.2.toNat true else Kr l m j:=by
 unfold Kr eJ;rw[PG h,List.foldl_append];rfl
theorem tY{l:bW}{m j:Nat}{q:Int×Int}(h:l.mz[j]?=some q)(n:eJ l m q.1.toNat=true)(a:q.2.toNat<12):yh l m (j+1)=λi=>if i=q.2.toNat then true else yh l m j i:=by
 funext i
 unfold yh;rw[l8 h,if_pos n,List.getD_eq_getElem?_getD,List.getD_eq_getElem?_getD];by_cases e:i=q.2.toNat
 .rw[if_pos e,e,xI (by rw[Gm];exact a)];rfl
 .rw[if_neg e,wN (Ne.symm e)]
theorem zy{l:bW}{m j:Nat}{q:Int×Int}(h:l.mz[j]?=some q)(n:eJ l m q.1.toNat=false):yh l m (j+1)=yh l m j:=by
 funext i
 unfold yh;rw[l8 h,if_neg (by rw[n];decide)]
theorem tZ(l:bW)(m:Nat):yh l m l.mz.length=eJ l (m+1):=by
 funext i
 unfold yh eJ Kr;rw[yM];rfl
def iv(l:bW)(lo:Int)(E:Nat->Bool)(m:Nat)(i:Nat):Bool:=(List.range m).any λq=>eJ l q i&&(decide (lo<=(q:Int))||E i)
theorem uP(l:bW)(lo:Int)(E:Nat->Bool)(m:Nat):(λi=>iv l lo E m i||(eJ l m i&&(decide (lo<=(m:Int))||E i)))=iv l lo E (m+1):=by
 funext i
 unfold iv;rw[List.range_succ,List.any_append];simp
theorem NX(a b c:Nat×aE)(s:af):(a::b::c::s).Perm ((b::c::s)++[a]):=gY
theorem NW(z a b c:Nat×aE)(s:af):(z::((b::c::s)++[a])).Perm (z::a::b::c::s):=gY
theorem NV(a b:Nat×aE)(s:af):(a::b::s).Perm (b::a::s):=List.Perm.swap _ _ _
theorem NU(a b:Nat×aE)(s:af):(b::a::s).Perm ((b::s)++[a]):=gY
theorem u5(l:bW)(D:l.mz.length<=32)(u:∀q∈l.mz,(0<=q.1/\q.1<12)/\(0<=q.2/\q.2<12))(hi:Nat)(L:hi<=1000)(n:Nat)(C:n<=12)(E:Nat->Bool)(lo:Int)(a e:Nat)(v:Value)(s:af)(y:g8 4 bD ((List.range n).map (iv l lo E 0)) v s) :
  az prog 123 [dj l,iD hi,.clo 124 [.v (.pointer (some ⟨a,0,none⟩)),.ro [iD lo],.v (.pointer (some ⟨e,0,none⟩))]] ((a,.cells 166 [.v v])::(e,.cells 227 (fL E))::s)
   (λd σ'=>∃f,d= .v (.tuple #[])/\σ'=(a,.cells 166 [.v v])::(e,.cells 227 (fL E))::f/\g8 4 bD ((List.range n).map (iv l lo E (hi+1))) v f):=by
 refine cU func123 ntmps123 λM=>?_
 repeat' first|refine aq ?_|intro b;conv=>whnf
 obtain⟨r,rfl⟩:∃r,r=b:=⟨_,rfl⟩
 refine aV mixed ai (γ:=Nat×af) (λg=>[(7,iD g.1)]) (λg=>(r,.cells 227 (fL (eJ l g.1)))::(a,.cells 166 [.v v])::(e,.cells 227 (fL E))::g.2) (λg=>g.1<=hi+1/\g8 4 bD ((List.range n).map (iv l lo E g.1)) v g.2) (λg=>hi+1-g.1) (0,s) (aj aP) (Sc.refl _) ⟨zW _,y⟩ ?_;rintro⟨m,s⟩ ⟨F,h⟩;simp only at F h⊢;by_cases hmh:m<=hi
 .have R:=u6 m n C (by omega) (eJ l m) E (iv l lo E m) lo a e v s h;rw[uP]at R
  repeat' first|refine aq ?_|intro b;conv=>whnf
  refine ba R (NX _ _ _ _) (λf=>f++[_]) (λf=>zH _) ?_;rintro _ _ ⟨x,rfl,rfl,h2⟩
  repeat' first|refine aq ?_|intro b;conv=>whnf
  obtain⟨w,rfl⟩:∃w,w=b:=⟨_,rfl⟩
  refine aV mixed ai (γ:=Nat) (λj=>[(26,iD j)]) (λj=>(w,.cells 227 (fL (yh l m j)))::(r,.cells 227 (fL (eJ l m)))::(a,.cells 166 [.v v])::(e,.cells 227 (fL E))::x) (λj=>j<=l.mz.length) (λj=>l.mz.length-j) 0 (aj aP) (Sc.perm (NW _ _ _ _ _)) (zW _) ?_;intro j hj;simp only at hj⊢;by_cases hjl:j<l.mz.length
  .obtain⟨q,o⟩:∃q,l.mz[j]?=some q:=⟨_,zD hjl⟩
   have z:l.mz[((j:Nat):Int).toNat]?=some q:=o;obtain⟨⟨K,J⟩,I,G⟩:=u q (zG o);have i:=YY (eJ l m) (j:=q.1.toNat) (by omega)
   cases k:eJ l m q.1.toNat with
   |true=>
    have hs:=tY o k (by omega);have t:=bi1 (yh l m j) (j:=q.2.toNat) (by omega) true;rw[←hs]at t;rw[k]at i
    repeat' first|refine aq ?_|intro b;conv=>whnf|((with_reducible refine' Ot.yd ?hydn ?_);(case hydn=>(refine x1 ai rfl rfl rfl rfl rfl ?_ ?_<;>omega)))|((refine' Ld.cellm (tb:=227) (cs:=fL (eJ l m)) ?hq1 ?hq2 ?_);(case hq1=>(simp;done));(case hq2=>(rw[xD];exact i)))
    refine Sv.cellm (tb:=227) (cs:=fL (yh l m j)) (cs':=fL (yh l m (j+1))) (NV _ _ _) (by rw[xD,YZ];omega) rfl (by rw[xD];exact t) ?_
    repeat' first|refine aq ?_|intro b;conv=>whnf|((with_reducible refine' Ot.yd ?hydn ?_);(case hydn=>(refine x1 ai rfl rfl rfl rfl rfl ?_ ?_<;>omega)))|((refine' Ld.cellm (tb:=227) (cs:=fL (eJ l m)) ?hq1 ?hq2 ?_);(case hq1=>(simp;done));(case hq2=>(rw[xD];exact i)))
    exact⟨j+1,(aj aP),Sc.drop (NU _ _ _),by omega,by omega⟩
   |false=>
    have hs:=zy o k;rw[k]at i
    repeat' first|refine aq ?_|intro b;conv=>whnf|((with_reducible refine' Ot.yd ?hydn ?_);(case hydn=>(refine x1 ai rfl rfl rfl rfl rfl ?_ ?_<;>omega)))|((refine' Ld.cellm (tb:=227) (cs:=fL (eJ l m)) ?hq1 ?hq2 ?_);(case hq1=>(simp;done));(case hq2=>(rw[xD];exact i)))
    exact⟨j+1,(aj aP),Sc.sl (by rw[hs];exact yG _ _),by omega,by omega⟩
  .obtain rfl:j=l.mz.length:=by omega
   rw[tZ]
   repeat' first|refine aq ?_|intro b;conv=>whnf
   exact⟨(m+1,x),(aj aw),Sc.sl (yG _ _),⟨by simp only;omega,h2⟩,by simp only;omega⟩
 .obtain rfl:m=hi+1:=by omega
  repeat' first|refine aq ?_|intro b;conv=>whnf
  exact Rt.by (Vs.drop (yG _ _)) ⟨s,rfl,rfl,h⟩
end
section
open Go Go.Maps Go.MapKept
theorem EM(e:TypeId)(d:D)(m b:Nat)(a:m<=maxLen):ae e 1 (List.replicate m [d]) (.slice (some ⟨b,0,none⟩) m m) [(b,.cells e (List.replicate m d))]:=
 ⟨λy h=>by rw[(List.mem_replicate.1 h).2];rfl,.inr ⟨b,m,[],by simp,by simp,by simp,a,by simp,λd c=>by cases c⟩⟩
def gW(l:bW)(i s:Nat):Bool:=decide (s<i)&&jH l s
theorem vl(l:bW)(i:Nat):(λs=>if s=i then jH l i else gW l i s)=gW l (i+1):=by
 funext s
 unfold gW;by_cases h:s=i
 .subst h;rw[if_pos rfl,yJ (by omega)];rfl
 .rw[if_neg h]
  congr 1
  exact decide_eq_decide.2 (by omega)
theorem uq{l:bW}{lo:Int}{i:Nat}(h:PT l=true)(c:0<=lo)(b:lo<=(i:Int))(d:i<=1000):(List.range l.tz.length).map (iv l lo (gW l l.tz.length) (i+1))=wi l lo i:=by
 unfold wi;rw[h,yJ c,yJ b,yJ (show(i:Int)<=1000 by omega)];simp only[Bool.and_self,if_true,Int.toNat_natCast];refine List.map_congr_left λs a=>?_;unfold iv gW eJ;rw[yJ (xT.1 a),Bool.true_and]
theorem NT(a b c:Nat×aE):[a,b,c].Perm ((a::c::[b])++[]):=gY
theorem NS(a b:Nat×aE)(s:af):((a::b::s)++[]).Perm (s++[a,b]):=gY
theorem iq{A B:Prop}(k:B)(h:ar B->A:=by intro q7;(first|refine bA ?_|refine aA ?_|(refine' ah ?hc ?_;(case hc=>first|exact HV|exact HM)));exact q7.1):A:=h ⟨k⟩
theorem Ct(l:bW)(lo hi:Int)(h1:l.tz.length<=1000000)(h2:l.mz.length<=1000000):APure prog 75 [dj l,iD lo,iD hi] (slB (wi l lo hi)):=by
 have HV:=Cr l h1 h2;have k:=Oa l;by_cases hall:S' l=0/\0<=lo/\lo<=hi/\hi<=1000
 .obtain⟨c1,G,F,L⟩:=hall;rw[yJ c1]at k;rw[c1]at HV;obtain⟨n,rfl⟩:∃n:Nat,hi=n:=⟨hi.toNat,by omega⟩
  have r:=uq k.symm G F (by omega);have a:=k.symm;unfold PT at a;simp only[zJ,zQ,yA]at a;obtain⟨⟨⟨C,z⟩,K⟩,w⟩:=a;have v:∀q∈l.mz,(0<=q.1/\q.1<12)/\(0<=q.2/\q.2<12):=λq D=>by
   have:=w q D;unfold b8 cz at this;simp only[zJ,zQ]at this;omega
  have E:(l.tz.map λ(x:ByteArray)=>[sD x]).length=l.tz.length:=zL ..;refine ao func75 ntmps75 λI=>?_
  repeat' first|refine iq ?_|intro b;conv=>whnf|((with_reducible refine' Ot.yd ?hydn ?_);(case hydn=>(refine x1 ai rfl rfl rfl rfl rfl ?_ ?_<;>omega)))|((with_reducible refine Br.t ?h ?_);(case h=>first|exact yJ trivial|exact wP _))|((with_reducible refine Br.f ?h ?_);(case h=>first|exact Bool.not_true|exact yE not_false))
  obtain⟨f,rfl⟩:∃f,f=b:=⟨_,rfl⟩
  refine aV mixed ai (γ:=Nat) (λi=>[(29,iD i)]) (λi=>[(f,.cells 227 (fL (gW l i)))]) (λi=>i<=l.tz.length) (λi=>l.tz.length-i) 0 (aj aP) (Sc.refl _) (zW _) ?_;intro i hi;simp only at hi⊢;by_cases hil:i<l.tz.length
  .have HM:=Cu l i (by omega);have t:=bi1 (gW l i) (j:=i) (by omega) (jH l i);rw[vl]at t;have o:=p9 l i;rw[←o]at t
   repeat' first|refine iq ?_|intro b;conv=>whnf|((with_reducible refine' Ot.yd ?hydn ?_);(case hydn=>(refine x1 ai rfl rfl rfl rfl rfl ?_ ?_<;>omega)))|((with_reducible refine Br.t ?h ?_);(case h=>first|exact yJ trivial|exact wP _))|((with_reducible refine Br.f ?h ?_);(case h=>first|exact Bool.not_true|exact yE not_false))
   refine Sv.cellm (tb:=227) (cs:=fL (gW l i)) (cs':=fL (gW l (i+1))) (τ:=[]) (zH _) (by rw[xD,YZ];omega) rfl (by rw[xD,Int.toNat_natCast,zL,←t];congr 3;exact decide_eq_decide.2 (by omega)) ?_
   repeat' first|refine iq ?_|intro b;conv=>whnf|((with_reducible refine' Ot.yd ?hydn ?_);(case hydn=>(refine x1 ai rfl rfl rfl rfl rfl ?_ ?_<;>omega)))|((with_reducible refine Br.t ?h ?_);(case h=>first|exact yJ trivial|exact wP _))|((with_reducible refine Br.f ?h ?_);(case h=>first|exact Bool.not_true|exact yE not_false))
   exact⟨i+1,(aj aP),Sc.refl _,by omega,by omega⟩
  .obtain rfl:i=l.tz.length:=by omega
   repeat' first|refine iq ?_|intro b;conv=>whnf
   refine Mk.go l.tz.length rfl rfl rfl rfl rfl (by simp) (by omega) (by omega) (λu=>?_)
   repeat' first|refine iq ?_|intro b;conv=>whnf
   have g:g8 4 bD ((List.range l.tz.length).map (iv l lo (gW l l.tz.length) 0)) (.slice (some ⟨u,0,none⟩) l.tz.length l.tz.length) [(u,.cells 4 (List.replicate l.tz.length (bD false)))]:=by
    have e:((List.range l.tz.length).map (iv l lo (gW l l.tz.length) 0)).map (λb=>[bD b])=List.replicate l.tz.length [bD false]:=by
     rw[vA,List.eq_replicate_iff];exact⟨by simp,λy hy=>by obtain⟨i,_,rfl⟩:=xM.1 hy;rfl⟩
    show ae _ _ (List.map _ _) _ _;rw[e];exact EM _ _ _ _ (by unfold maxLen;omega)
   refine ba (u5 l z v n (by omega) l.tz.length C (gW l l.tz.length) lo b f _ _ g) (NT _ _ _) (λs=>s++[]) (λs=>zH _) ?_;rintro _ _ ⟨J,rfl,rfl,h2⟩;rw[r]at h2
   repeat' first|refine iq ?_|intro b;conv=>whnf|((with_reducible refine' Ot.yd ?hydn ?_);(case hydn=>(refine x1 ai rfl rfl rfl rfl rfl ?_ ?_<;>omega)))|((with_reducible refine Br.t ?h ?_);(case h=>first|exact yJ trivial|exact wP _))|((with_reducible refine Br.f ?h ?_);(case h=>first|exact Bool.not_true|exact yE not_false))
   exact Rt.vs ((Vs.row h2 (NS _ _ _)).trans (Vs.drop (yV _)))
 .have R:wi l lo hi=[]:=by
   unfold wi;rw[if_neg];intro h;simp only[zJ,zQ]at h;rw[←k,zQ]at h;omega
  rw[R];refine ao func75 ntmps75 λI=>?_
  repeat' first|refine iq ?_|intro b;conv=>whnf|((with_reducible refine' Ot.yd ?hydn ?_);(case hydn=>(refine x1 ai rfl rfl rfl rfl rfl ?_ ?_<;>omega)))|((with_reducible refine Br.t ?h ?_);(case h=>first|exact yJ trivial|exact wP _))|((with_reducible refine Br.f ?h ?_);(case h=>first|exact Bool.not_true|exact yE not_false))|(refine aT ?_;constructor<;>intro hc)
  all_goals first|exact Rt.le (gp _)|(exfalso;omega)
end
end Go.Proofs.YtilnpcolgcmofaaGreatDoor
