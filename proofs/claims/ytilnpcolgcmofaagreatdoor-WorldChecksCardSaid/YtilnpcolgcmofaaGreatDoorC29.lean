/- A part of the proof. -/
import Derived.Test.YtilnpcolgcmofaaGreatDoorC28
set_option maxRecDepth 100000
set_option maxHeartbeats 20000000
set_option linter.all false
namespace Go.Proofs.YtilnpcolgcmofaaGreatDoor
open Tryz
section
open Go Go.Maps Go.MapKept
def Bg(l:List Int)(v:Int)(hl:l.length<=1000000):APure prog 125 [bv l,iD v] (iD (idx (λy=>decide (v=y)) l)):=by
 refine ap func125 ntmps125 λf=>?_
 repeat refine aV ?_
 refine gD mixed ai (γ:=Nat) (λk=>[(8,iD k)]) (λ_=>[]) (λk=>k<=l.length/\∀i y,i<k->l[i]?=some y->decide (v=y)=false) (λk=>l.length-k) 0 rfl rfl ⟨by omega,by omega⟩ ?_;rintro k ⟨b,hno⟩;by_cases hlt:k<l.length
 .obtain⟨y,hy⟩:∃y,l[(k:Int).toNat]?=some y:=⟨_,zD hlt⟩
  by_cases hv:v=y
  .repeat refine aV ?_
   refine Rt.pure (zM iD ?_);exact(K' (p:=λy=>decide (v=y)) hy (yJ hv) hno).symm
  .repeat refine aV ?_
   exact⟨k+1,rfl,rfl,⟨by omega,λi z hi a=>by
    by_cases e:i=k
    .subst e;rw[show((i:Int)).toNat=i from rfl,a]at hy;cases hy;exact yE hv
    .exact hno i z (by omega) a⟩,by omega⟩
 .repeat refine aV ?_
  exact Np
variable{A B:Prop}
def TM(k:B)(h:ar B->A:=by intro q7;(first|refine bh ?_|refine aE ?_|(refine' aj ?hc ?_;(case hc=>exact Bg l v hl)));exact q7.1):A:=h ⟨k⟩
def nJ(l:List Int)(v:Int)(hl:l.length<=1000000):APure prog 76 [bv l,iD v] (bD (l.any λy=>decide (v=y))):=by
 refine ap func76 ntmps76 λa=>?_
 repeat refine TM ?_
 refine Rt.pure (zM bD ?_);exact uK _ l
def R9(l:List Bool):List Int:=((List.range l.length).filter λi=>l.getD i false).map λ(i:Nat)=>(i:Int)
def qf(l:List Bool)(v:Int):(R9 l).any (λy=>decide (v=y))=(l.getD v.toNat false&&decide (0<=v)):=by
 rw[Bool.eq_iff_iff];simp only[wC,R9,xM,vP,xT,zQ,zJ];constructor
 .rintro⟨y,⟨i,⟨_,b⟩,rfl⟩,rfl⟩;exact⟨by rw[Int.toNat_natCast];exact b,by omega⟩
 .rintro⟨a,b⟩;refine⟨v,⟨v.toNat,⟨?_,a⟩,by omega⟩,rfl⟩;by_cases h:v.toNat<l.length
  .exact h
  .rw[List.getD_eq_getElem?_getD,yY.2 (by omega)]at a;cases a
def AI(l:List Bool)(hl:l.length<=1000):APure prog 77 [slB l] (bv (R9 l)):=by
 refine ap func77 ntmps77 λt=>?_
 repeat refine aV ?_
 refine aO mixed ai (γ:=Nat×Value×ae) (λg=>[(3,.v g.2.1),(8,iD g.1)]) (λg=>g.2.2) (λg=>g.1<=l.length/\iI 3 iD (((List.range g.1).filter λi=>l.getD i false).map λ(i:Nat)=>(i:Int)) g.2.1 g.2.2) (λg=>l.length-g.1) (0,.slice none 0 0,[]) (ah aJ) (Sc.refl _) ⟨zW _,ab.nil _ _⟩ ?_;rintro⟨j,v,r⟩ ⟨hj,w⟩;simp only at hj w⊢;by_cases hjl:j<l.length
 .obtain⟨m,a⟩:∃m,l[j]?=some m:=⟨_,zD hjl⟩
  have k:l[((j:Nat):Int).toNat]?=some m:=a;have e:((List.range (j+1)).filter λi=>l.getD i false).length<=1000:=xH (List.length_filter_le ..) (by rw[vU];omega);have n:((List.range j).filter λi=>l.getD i false).length<=1000:=xH (List.length_filter_le ..) (by rw[vU];omega)
  cases m with
  |true=>
   repeat refine aV ?_
   refine Ap.go rfl rfl rfl rfl w (by simp:r.Perm (r++[])) rfl (zs:=(((List.range (j+1)).filter λi=>l.getD i false).map λ(i:Nat)=>(i:Int)).map λb=>[iD b]) (by rw[List.range_succ,vZ,yB,yB];simp[a]) (by simp only[zL];omega) (by simp only[zL];omega) (λs=>s) (λs=>by simp) (λq o f h3=>?_)
   repeat refine aV ?_
   exact⟨(j+1,_,f),(ah aJ),Sc.refl _,⟨by simp only;omega,h3⟩,by simp only;omega⟩
  |false=>
   repeat refine aV ?_
   exact⟨(j+1,v,r),(ah aJ),Sc.refl _,⟨by simp only;omega,by rw[List.range_succ,vZ];simpa [a]using w⟩,by simp only;omega⟩
 .obtain rfl:j=l.length:=by omega
  repeat refine aV ?_
  exact Rt.vs (Vs.row w (by simp:r.Perm (r++[])))
variable{kd:aq}
def EA{nm:ByteArray}{r:List Int}(c:r.length=kd.fields.length)(h:0<=bb kd nm):∃(q:Nat)(z:Int),bb kd nm=q/\r[q]?=some z/\il r (bb kd nm)=z:=by
 have d:bb kd nm<kd.fields.length:=GU _ _;obtain⟨q,b⟩:∃q:Nat,bb kd nm=q:=⟨_,(xX h).symm⟩
 obtain⟨z,a⟩:∃z,r[q]?=some z:=⟨_,zD (by omega)⟩
 exact⟨q,z,b,a,by unfold il;rw[b,Int.toNat_natCast,cw a]⟩
def Mg(k:B)(h:ar B->A:=by intro q7;(first|refine bh ?_|refine aE ?_|(refine' aj ?hc ?_;(case hc=>exact HF)));exact q7.1):A:=h ⟨k⟩
def be5(kd:aq)(r:List Int)(nm:ByteArray)(b:r.length=kd.fields.length)(hl:kd.fields.length<=1000)(h:dz nm=true\/0<=bb kd nm):APure prog 82 [sD nm,.ro [bv r],.ro (aD kd)] (iD (da kd r nm)):=by
 have HF:=FP kd nm (by omega);unfold da
 cases e:dz nm with
 |true=>
  rw[if_pos rfl];have a:(nm.toList==(⟨#[]⟩:ByteArray).toList)=true:=by rw[pU];exact e
  refine ap func82 ntmps82 λk=>?_
  repeat refine Mg ?_
  exact Rt.pure rfl
 |false=>
  rw[if_neg (by decide)];have a:(nm.toList==(⟨#[]⟩:ByteArray).toList)=false:=by rw[pU];exact e
  rw[e]at h;obtain⟨q,z,j,i,f⟩:=EA b (h.resolve_left (by decide));have g:r[((q:Nat):Int).toNat]?=some z:=i;rw[f];rw[j]at HF;refine ap func82 ntmps82 λk=>?_
  repeat refine Mg ?_
  exact Rt.pure rfl
def TL(k:B)(h:ar B->A:=by intro q7;(first|refine bh ?_|refine aE ?_|(refine' aj ?hc ?_;(case hc=>first|exact HA|exact HB)));exact q7.1):A:=h ⟨k⟩
def AJ(kd:aq)(r:List Int)(q:cH)(a:r.length=kd.fields.length)(hl:kd.fields.length<=1000)(b:dz q.a=true\/0<=bb kd q.a)(hb:dz q.b=true\/0<=bb kd q.b)(n:cp (da kd r q.b+q.n)):APure prog 43 [fP kd,bv r,eR q] (bD (KB kd r q)):=by
 have HA:=be5 kd r q.a a hl b;have HB:=be5 kd r q.b a hl hb;refine ap func43 ntmps43 λe=>?_
 repeat refine TL ?_
 refine Rt.pure (zM bD ?_);rfl
def TK(k:B)(h:ar B->A:=by intro q7;(first|refine bh ?_|refine aE ?_|(refine' aj ?hc ?_;(case hc=>first|exact HF|exact HU)));exact q7.1):A:=h ⟨k⟩
def SB{x:ak}{w:Wd}{k u:Nat}(L:List Rf)(b l:Nat)(v:Value)(d:an)(r:List Int)(z:Int)(a:x.kz[k]?=some kd)(i:bb kd d.up=(u:Int))(g:r[u]?=some z)(n:x.kz.length<=1000000)(f:∀k∈x.kz,k.fields.length<=1000000)(j:r.length<=1000000) :
  APure prog 79 [.ro (gj x w L b l v),iD k,bv r,bT d] (.tup [iD (aG x k u),iD z]):=by
 have p:x.kz[((k:Nat):Int).toNat]?=some kd:=a;have e:r[((u:Nat):Int).toNat]?=some z:=g;have o:=(zE.1 a).1;have HF:=FP kd d.up (by have:=f kd (zG a);omega);rw[i]at HF;have HU:=R' x k u (by omega) f;refine ap func79 ntmps79 λq=>?_
 repeat refine TK ?_
 exact Rt.pure rfl
end
section
open Go Go.Maps Go.MapKept
def Ic{l:List Int}(h:∀z∈l,-1099511627776<=z/\z<=1099511627776):-1099511627776*(l.length:Int)<=l.sum/\l.sum<=1099511627776*(l.length:Int):=by
 induction l with
 |nil=>simp
 |cons a l i=>
  have d:=h a yN;have c:=i λz b=>h z (yQ _ b);simp only[List.sum_cons,List.length_cons];omega
def n6{x:ak}{q f:Nat}{kd:aq}{g:an}(h:x.kz[q]?=some kd)(a:kd.fields[f]?=some g)(b:g.kind=1):(⟨q,f,aG x q f,g.lo⟩:Rf)∈bJ x:=by
 unfold bJ;refine QJ.2 ⟨q,(zE.1 h).1,?_⟩;unfold fL;rw[h];refine QJ.2 ⟨f,(zE.1 a).1,?_⟩;unfold dL;rw[a];simp[b]
def iZ(rows:List (List Int))(s:Nat)(a:List Int):Int:=(a.map λj=>(rows.getD j.toNat []).getD s 0).sum
def bf2(rows:List (List Int))(s:Nat)(a:List Int)(j:Int):iZ rows s (a++[j])=iZ rows s a+(rows.getD j.toNat []).getD s 0:=by simp[iZ]
def sX(rows:List (List Int))(s:Nat)(c:∀r∈rows,∀n∈r,-1099511627776<=n/\n<=1099511627776)(a:List Int):-1099511627776*(a.length:Int)<=iZ rows s a/\iZ rows s a<=1099511627776*(a.length:Int):=by
 unfold iZ;have h:=Ic (l:=a.map λj=>(rows.getD j.toNat []).getD s 0) λz b=>by
  obtain⟨j,_,rfl⟩:=xM.1 b;rw[List.getD_eq_getElem?_getD,List.getD_eq_getElem?_getD]
  cases e:rows[j.toNat]? with
  |none=>simp
  |some r=>
   simp only[Option.getD_some]
   cases d:r[s]? with
   |none=>simp
   |some n=>exact c r (zG e) n (zG d)
 rw[zL]at h;exact h
def aP2(rows:List (List Int))(u s i:Nat)(b:∀r∈rows,∀n∈r,-1099511627776<=n/\n<=1099511627776)(f:rows.length<=1000):∀j,j<=rows.length->r4 (rows.take j) u s i=iZ rows s (cS (rows.take j) u i)
 |0,_=>rfl
 |j+1,h=>by
  obtain⟨r,a⟩:∃r,rows[j]?=some r:=⟨_,zD (by omega)⟩
  have c:=aP2 rows u s i b f j (by omega);have t:(rows.take j).length=j:=by rw[zR];omega
  rw[Q2 a,aR8,t];unfold r4 at c⊢;rw[List.foldl_append,c];simp only[List.foldl_cons,List.foldl_nil];by_cases h1:r.getD u 0=(i:Int)
  .rw[if_pos h1,if_pos h1,bf2,Int.toNat_natCast,cw a];have d:=sX rows s b (cS (rows.take j) u i);have k:(cS (rows.take j) u i).length<=1000:=by
    rw[aN8];have:=List.countP_le_length (p:=λe:List Int=>decide (e.getD u 0=(i:Int))) (l:=rows.take j);omega
   have g:-1099511627776<=r.getD s 0/\r.getD s 0<=1099511627776:=by
    rw[List.getD_eq_getElem?_getD]
    cases d:r[s]? with
    |none=>simp
    |some n=>exact b r (zG a) n (zG d)
   rw[IntKind.wrap_i64];omega
  .rw[if_neg h1,if_neg h1]
def D'{rows:List (List Int)}{u i:Nat}{n:Int}(h:n∈cS rows u i):∃q:Nat,n=q/\q<rows.length:=by
 unfold cS at h;obtain⟨p,a,rfl⟩:=xM.1 h;have c:=(vP.1 a).1;have b:=List.mem_zipIdx' c;exact⟨p.2,rfl,b.1⟩
def TJ{A B:Prop}(k:B)(h:ar B->A:=by intro q7;(first|refine bh ?_|refine aE ?_|(refine' aj ?hc ?_;(case hc=>first|exact HS|exact HF)));exact q7.1):A:=h ⟨k⟩
def RH{A B:Prop}(k:B)(h:ar B->A:=by intro q7;(first|refine TJ ?_|(with_reducible refine Br.t (wP _) ?_));exact q7.1):A:=h ⟨k⟩
def Ok(x:ak)(w:Wd)(hw:Ws w)(hp:dJ x=[])(X:cL x w=true)(k i f:Nat)(kd:aq)(d:an)(J:List (List Int))(hk:x.kz[k]?=some kd)(hf:kd.fields[f]?=some d)(h6:d.kind=6)(U:w[k]?=some J)(hi:i<J.length)(F:Value->Option Value)(G:ae)(hA:gp w F (bJ x) G)(c I lm:Nat)(v:Value) :
  az prog 78 [.v (.pointer (some ⟨c,0,none⟩)),iD k,iD i,iD f] ((c,.cells 122 (gj x w (bJ x) I lm v))::(I,.obj (bo prog 124 F))::G) (λd' σ'=>d'=iD (Lf x w k i f)/\σ'=(c,.cells 122 (gj x w (bJ x) I lm v))::(I,.obj (bo prog 124 F))::G):=by
 obtain⟨o,s,ko,g,u,r,e1,E,e3,e4,e5,e6,e7⟩:=sY hp hk hf h6;have hV:=(Ft hp).vld;have hnk:=hV.nk;have R:∀k∈x.kz,k.fields.length<=1000000:=λk hk=>by have:=hV.nf k hk;omega
 obtain⟨hlen,D,hrefs⟩:=GB X;have hol:=(zE.1 E).1;have hkl:=(zE.1 hk).1;have hsl:=(zE.1 e3).1;have hwl:=hw.nk;obtain⟨a,e⟩:∃l,w[o]?=some l:=⟨_,zD (by omega)⟩
 have hlo':w[((o:Nat):Int).toNat]?=some a:=e;have hko':x.kz[((o:Nat):Int).toNat]?=some ko:=E;have hgs':ko.fields[((s:Nat):Int).toNat]?=some g:=e3;have O:=uN (D _ _ e);have hkol:=R ko (zG E);have T:=hw.nr a (zG e);have hlkl:=hw.nr J (zG U);have C:∀r∈a,∀n∈r,-1099511627776<=n/\n<=1099511627776:=λr hr=>(si E (O.2 r hr)).2;have hS:Lf x w k i f=iZ a s (cS a u i):=by
  have h:=aP2 a u s i C T a.length (zT _);rw[yM]at h;rw[←h];unfold Lf;rw[e1];simp only[Int.toNat_natCast];rw[cw e];have:AO x o s=u:=by unfold AO;rw[E];simp only;rw[e3];simp only;rw[e4];rfl
  rw[this]
 rw[hS];have HS:=vw x k f (by omega) R;rw[e1]at HS;have HF:=FP ko g.up (by omega);rw[e4]at HF;have P:=n6 E e5 e6;rw[e7]at P;obtain⟨q,hq⟩:=yO P;obtain⟨va,ta,τa,hFv,Z,Q⟩:=hA.at hq;have hul:=(zE.1 e5).1;obtain⟨kl,V⟩:=rB (show(Lit.int .i64 (o:Int)).wf=true from iY (by omega) (by omega)) (show(Lit.int .i64 (u:Int)).wf=true from iY (by omega) (by omega)) (show(Lit.int .i64 (k:Int)).wf=true from iY (by omega) (by omega));have Y:mK w ⟨o,u,k,r.lo⟩=gW a u J.length:=by unfold mK;simp only[Int.toNat_natCast];rw[cw e,cw U]
 rw[Y]at Z;obtain⟨b0,cap0,cs0,v0,t0,τ0,rfl,p0,c0,M,_⟩:=aC.at Z (Sn (f:=u) a hi);rw[NN]at *;have hidl:(cS a u i).length<=1000:=by
  rw[aN8];have:=List.countP_le_length (p:=λr':List Int=>decide (r'.getD u 0=(i:Int))) (l:=a);omega
 have hid:∀n∈cS a u i,∃q:Nat,n=q/\q<a.length:=λn S=>D' S;generalize cS a u i=t at *;have m0:(b0,ax.cells 22 cs0)∈G:=Q.mem_iff.2 (xK _ (p0.mem_iff.2 yN));have mt:∀z∈t0,z∈G:=λz K=>Q.mem_iff.2 (xK _ (p0.mem_iff.2 (yQ _ (xK _ K))));obtain⟨a1,ca1,rfl⟩:=ab.slice M;rw[zL]at *;refine dB func78 ntmps78 λBB=>?_
 repeat' first|refine RH ?_|intro b;conv=>whnf
 refine Ot.yd (aH3 (kv:=PH ⟨o,u,k,r.lo⟩) (u:=.slice (some ⟨b0,0,none⟩) J.length cap0) rfl rfl (pB0 _ _ _) (yQ _ (yQ _ yN)) (λ_ h=>h) bb9 underlying119 sI V (by rw[hFv];rfl)) ?_
 repeat' first|refine RH ?_|intro b;conv=>whnf
 refine Ld.cellm (tb:=22) (cs:=cs0) (yQ _ (yQ _ (yQ _ m0))) (by rw[aR];exact c0) ?_
 repeat' first|refine RH ?_|intro b;conv=>whnf
 refine aO mixed ai (γ:=Nat) (λj=>[(12,iD (iZ a s (t.take j))),(60,iD j)]) (λ_=>(c,.cells 122 (gj x w (bJ x) I lm v))::(I,.obj (bo prog 124 F))::G) (λj=>j<=t.length) (λj=>t.length-j) 0 (ah aJ) (Sc.sl (yG _ _)) (zW _) ?_;intro j hj;simp only at hj⊢;by_cases hjl:j<t.length
 .obtain⟨n,S⟩:∃n,t[j]?=some n:=⟨_,zD hjl⟩
  obtain⟨b1,cap1,cs1,e9,rfl,hc1,_⟩:=aZ0 (g:=iD) (show iI 3 iD t _ t0 from M) S;obtain⟨rfl,_,rfl⟩:=Value.slice.inj e9;clear e9;have m1:=mt _ (zN.2 rfl);obtain⟨nn,rfl,hnl⟩:=hid n (zG S);obtain⟨y,hy⟩:∃y,a[nn]?=some y:=⟨_,zD hnl⟩
  have hy':a[((nn:Nat):Int).toNat]?=some y:=hy;have L:=zG hy;have hyr:=si E (O.2 y L);obtain⟨z,K⟩:∃z,y[s]?=some z:=⟨_,zD (by omega)⟩
  have hz':y[((s:Nat):Int).toNat]?=some z:=K;have hzb:=hyr.2 z (zG K);have hyl:=hw.nf a (zG e) y L;have hsn:iZ a s (t.take (j+1))=iZ a s (t.take j)+z:=by rw[Q2 S,bf2,Int.toNat_natCast,cw hy,cw K]
  have hsb:=sX a s C (t.take j);have hsl2:(t.take j).length<=1000:=by rw[zR];omega
  repeat' first|refine RH ?_|intro b;conv=>whnf
  refine Ld.cellm (tb:=3) (cs:=cs1) (yQ _ (yQ _ m1)) (by rw[aR];exact hc1) ?_
  repeat' first|refine RH ?_|intro b;conv=>whnf
  exact⟨j+1,by rw[hsn];exact(ah av),Sc.refl _,by omega,by omega⟩
 .obtain rfl:j=t.length:=by omega
  rw[yM]
  repeat' first|refine RH ?_|intro b;conv=>whnf
  exact Rt.same ⟨rfl,rfl⟩
end
section
open Go Go.Maps Go.MapKept
variable{kd:aq}{x:ak}{k f:Nat}{d:an}
def CU(V:LC x)(c:x.kz[k]?=some kd)(e:kd.fields[f]?=some d)(g:d.kind=3):d.words.length=d.wz.length/\1<=d.words.length/\d.words.length<=12:=by
 have h:=V.kz kd (zG c);simp only[jK,zJ,yA]at h;have b:=h.2 d (zG e);simp only[dV,zJ]at b;have a:=b.2;unfold fy at a;simp only[g]at a;simp[na,cF]at a;omega
def Jv(V:LC x)(c:x.kz[k]?=some kd)(e:kd.fields[f]?=some d)(g:d.kind=5):d.of.size<=12:=by
 have h:=V.kz kd (zG c);simp only[jK,zJ,yA]at h;have b:=h.2 d (zG e);simp only[dV,zJ]at b;have a:=b.2;unfold fy at a;simp only[g]at a;simp[bf,cF]at a;omega
def u9(w:World):(zeroValue 93).run prog w= .ok (.agg #[.string ⟨#[]⟩,.slice none 0 0,.slice none 0 0]) w:=by kernel_rfl
variable{A B:Prop}
def TH(k:B)(h:ar B->A:=by intro q7;(first|refine bh ?_|refine zw ?_|(refine' aj ?hc ?_;(case hc=>first|exact GE _ _|exact HC|exact HF|exact HW|exact HN)));exact q7.1):A:=h ⟨k⟩
def TG(k:B)(h:ar B->A:=by intro q7;(first|refine bh ?_|refine aE ?_|(refine' aj ?hc ?_;(case hc=>first|exact GE _ _|exact HC|exact HF|exact HW|exact HN)));exact q7.1):A:=h ⟨k⟩
def sq1(k:B)(h:ar B->A:=by intro q7;(first|refine TH ?_|(with_reducible refine Br.t (wP _) ?_)|(with_reducible refine Br.f Bool.not_true ?_));exact q7.1):A:=h ⟨k⟩
def pS(k:B)(h:ar B->A:=by intro q7;(first|refine TG ?_|(with_reducible refine Br.t (wP _) ?_)|(with_reducible refine Br.f Bool.not_true ?_));exact q7.1):A:=h ⟨k⟩
variable{p:Prop}
def Kb(h:p:=by
 repeat' first|refine pS ?_|intro b;conv=>whnf|refine bg.mk λy hy=>?_|fail
 refine CE.pk (iK.peek (.cons (Pk.same _) (.cons (Pk.ptr (j:=0) rfl (kf.refl _)) .nil)) HC rfl) ?_
 repeat' first|refine pS ?_|intro b;conv=>whnf|refine bg.mk λy hy=>?_|fail
 exact Rt.by (Vs.drop (yG _ _)) ⟨rfl,rfl⟩):p:=h
def uG(h:p:=by
 repeat' first|refine pS ?_|intro b;conv=>whnf|refine bg.mk λy hy=>?_|fail
 exact Rt.by (Vs.drop (yG _ _)) ⟨rfl,rfl⟩):p:=h
def yg(x:ak)(w:Wd)(T:Ws w)(Z:dJ x=[])(O:cL x w=true){i:Nat}{l:List (List Int)}{r:List Int}{n:Int}(c L D C:Nat)(v:Value)(I:List Int)(E:x.kz[k]?=some kd)(P:kd.fields[f]?=some d)(hl:w[k]?=some l)(Y:l[i]?=some r)(U:r[f]?=some n)(F:Value->Option Value)(M:ae)(hA:gp w F (bJ x) M) :
  az prog 41 [.v (.pointer (some ⟨c,0,none⟩)),iD k,iD i,iD f,.v (.map (some L))] ((c,.cells 122 (gj x w (bJ x) D C v))::(L,.obj (bo prog 3 (KF I)))::(D,.obj (bo prog 124 F))::(C,.mp prog 9 (kK x.lz))::M)
   (λdd σ'=>dd=iD (ib x w k kd r i f d I)/\σ'=(c,.cells 122 (gj x w (bJ x) D C v))::(L,.obj (bo prog 3 (KF (jT r f d I))))::(D,.obj (bo prog 124 F))::(C,.mp prog 9 (kK x.lz))::M):=by
 have hV:=(Ft Z).vld;have hnk:=hV.nk;have R:∀k∈x.kz,k.fields.length<=1000000:=λk E=>by have:=hV.nf k E;omega
 obtain⟨hlen,J,Q⟩:=GB O;have hwl:=T.nk;have hk':x.kz[((k:Nat):Int).toNat]?=some kd:=E;have hf':kd.fields[((f:Nat):Int).toNat]?=some d:=P;have hl':w[((k:Nat):Int).toNat]?=some l:=hl;have hr':l[((i:Nat):Int).toNat]?=some r:=Y;have hv':r[((f:Nat):Int).toNat]?=some n:=U;have q1:=(zE.1 E).1;have q2:=(zE.1 P).1;have q3:=(zE.1 hl).1;have q4:=(zE.1 Y).1;have q5:=(zE.1 U).1;have b1:kd.fields.length<=1000000:=R kd (zG E);have b4:=T.nr l (zG hl);have b5:=T.nf l (zG hl) r (zG Y);have V:=si E ((uN (J _ _ hl)).2 r (zG Y));have hn:=V.2 n (zG U);have hrd:r.getD f 0=n:=cw U 0;refine dB func41 ntmps41 λBB=>?_
 repeat' first|refine sq1 ?_|intro b;conv=>whnf|refine bg.mk λy hy=>?_|fail
 refine gS ?_;refine iG mixed ai rfl [0,1,2,3,5,8,9,10,12,15] 11 (hQ [4,11,18,19]) (.three 4 (.fst 6 (.fst 7 (.two 11 (.fst 13 (.fst 14 (.fst 16 (.fst 17 (.one 18 (.one 19 (.fst 20 .done))))))) 18 (.two 11 (.fst 13 (.fst 14 (.fst 16 (.fst 17 (.one 19 (.fst 20 .done)))))) 19 (.one 11 (.fst 13 (.fst 14 (.fst 16 (.fst 17 (.fst 20 .done)))))))))) 11 (.fst 13 (.fst 14 (.fst 16 (.fst 17 (.two 4 (.fst 6 (.fst 7 (.one 18 (.one 19 (.fst 20 .done))))) 18 (.one 4 (.fst 6 (.fst 7 (.one 19 (.fst 20 .done)))))))))) 18 (.two 4 (.fst 6 (.fst 7 (.two 11 (.fst 13 (.fst 14 (.fst 16 (.fst 17 (.one 19 (.fst 20 .done)))))) 19 (.one 11 (.fst 13 (.fst 14 (.fst 16 (.fst 17 (.fst 20 .done))))))))) 11 (.fst 13 (.fst 14 (.fst 16 (.fst 17 (.one 4 (.fst 6 (.fst 7 (.one 19 (.fst 20 .done))))))))))) (γ:=Nat) (λg=>[(11,.v (.pointer (some ⟨g,0,none⟩))),(12,bv r)]) (λg=>(g,.cells 78 (aD kd))::(c,.cells 122 (gj x w (bJ x) D C v))::(L,.obj (bo prog 3 (KF I)))::(D,.obj (bo prog 124 F))::(C,.mp prog 9 (kK x.lz))::M) (λ_=>True) (by decide +kernel) ?_ ?_
 .repeat' first|refine sq1 ?_|intro b;conv=>whnf|refine bg.mk λy hy=>?_|fail|(refine And.intro ?_ ?_<;>(conv=>whnf))
  all_goals exact⟨b,(ah aJ),Sc.refl _,trivial⟩
 rintro b7 -
 repeat' first|refine sq1 ?_|intro b;conv=>whnf|refine bg.mk λy hy=>?_|fail
 refine gS ?_;refine pW (i:=11) (d:=.v (.pointer (some ⟨b7,0,none⟩))) (d':=.ro (aD kd)) (τ:=(c,.cells 122 (gj x w (bJ x) D C v))::(L,.obj (bo prog 3 (KF I)))::(D,.obj (bo prog 124 F))::(C,.mp prog 9 (kK x.lz))::M) rfl (λh=>by cases h) (Vs.ptr (tb:=78) (zH _)) ?_;refine JG mixed ai ?_
 repeat' first|refine pS ?_|intro b;conv=>whnf|refine bg.mk λy hy=>?_|fail
 unfold ib jT;rw[cw U];by_cases h0:d.kind=0
 .rw[if_pos h0];by_cases s:n<d.lo
  .rw[if_pos s,if_neg (by omega)];exact uG
  .rw[if_neg s,if_pos (And.intro h0 s)]
   repeat' first|refine pS ?_|intro b;conv=>whnf|refine bg.mk λy hy=>?_|fail
   (refine ce.yd rfl (aH3 (kv:=.int .i64 n) (u:=.bool (decide (n∈I))) rfl rfl (g7.v _) (yQ _ (yQ _ yN)) (λ_ h=>h) aW8 underlying114 vb (uf (iY (by omega) (by omega))) (RA _ _)) ?_)
   repeat' first|refine pS ?_|intro b;conv=>whnf|refine bg.mk λy hy=>?_|fail
   refine ce.mapUpdate (b:=L) (F:=KF I) (k:=3) (e:=4) (kv:=.int .i64 n) (τ:=(b,.cells 81 (aA d))::(c,.cells 122 (gj x w (bJ x) D C v))::(D,.obj (bo prog 124 F))::(C,.mp prog 9 (kK x.lz))::M) rfl rfl (g7.v _) rfl (List.perm_middle (l₁:=[_,_])) aW8 underlying114 (uf (iY (by omega) (by omega))) ?_;rw[LK]
   repeat' first|refine pS ?_|intro b;conv=>whnf|refine bg.mk λy hy=>?_|fail
   exact Rt.by ((Vs.perm (List.Perm.swap _ _ _)).trans ((Vs.drop (yG _ _)).trans (Vs.perm (List.Perm.swap _ _ _)))) ⟨by simp,rfl⟩
 rw[if_neg h0,if_neg (show ¬(d.kind=0/\¬n<d.lo) from λh=>h0 h.1)];by_cases h2:d.kind=2\/d.kind=7
 .rw[if_pos h2];have HC:=rS n d;rcases h2 with h2|h2
  .exact Kb
  .exact Kb
 rw[if_neg h2];by_cases h3:d.kind=3
 .rw[if_pos h3];obtain⟨p1,p2,p3⟩:=CU hV E P h3;by_cases n0:n<0
  .rw[if_pos (.inl n0)];exact uG
  by_cases n1:(d.words.length:Int)<=n
  .rw[if_pos (.inr (.inl n1))];exact uG
  obtain⟨z,K⟩:∃z,d.wz[n.toNat]?=some z:=⟨_,zD (by omega)⟩
  rw[cw K]
  repeat' first|refine pS ?_|intro b;conv=>whnf|refine bg.mk λy hy=>?_|fail
  have hyz:y=z:=by
   have key:∀m:Int,d.wz[m.toNat]?=some y->m=n->y=z:=λm h e=>by rw[e,K]at h;exact(wK h).symm
   exact key _ hy (by simp only[zL];(repeat' split)<;>omega)
  subst hyz;refine Rt.by (Vs.drop (yG _ _)) ⟨?_,rfl⟩
  by_cases hy0:y=0<;>simp[hy0,n0,show ¬(d.words.length:Int)<=n from n1]
 rw[if_neg h3];by_cases h4:d.kind=4
 .rw[if_pos h4]
  cases he:dz d.of with
  |true=>
   have he':(d.of.toList==(⟨#[]⟩:ByteArray).toList)=true:=by rw[pU];exact he
   have hg:da kd r d.of=0:=by unfold da;rw[if_pos he]
   rw[hg,Int.sub_zero];have HC:=rS n d;exact Kb
  |false=>
   have he':(d.of.toList==(⟨#[]⟩:ByteArray).toList)=false:=by rw[pU];exact he
   obtain⟨q,hq,hqf⟩:=(sZ Z E P h4).resolve_left (by rw[he];decide);obtain⟨z,K⟩:∃z,r[q]?=some z:=⟨_,zD (by omega)⟩
   have hz':r[((q:Nat):Int).toNat]?=some z:=K;have hzb:=V.2 z (zG K);have hg:da kd r d.of=z:=by unfold da il;rw[if_neg (by rw[he];decide),hq,Int.toNat_natCast,cw K]
   rw[hg];have HC:=rS (n-z) d;have HF:=FP kd d.of (by omega);rw[hq]at HF;exact Kb
 rw[if_neg h4];by_cases h5:d.kind=5
 .rw[if_pos h5];obtain⟨G,S⟩:∃G,x.lz.find? (λl=>seq l.name d.of)=some G:=by
   have:=nF Z E P h5;rw[wC]at this;obtain⟨l,m1,m2⟩:=this;exact Option.isSome_iff_exists.1 (by rw[List.find?_isSome];exact⟨l,m1,m2⟩)
  have s:R3 x d.of=G:=by unfold R3;rw[S];rfl
  rw[s];have hlm:=List.mem_of_find?_eq_some S;have hLB:=hV.lz G hlm;simp only[jL,zJ,zQ]at hLB;have hst:G.tz.length<=12:=by have:=hLB.1.1.1.2;simp[cF]at this;omega
  have HC:=DU G d.lo d.hi (by omega) (by omega);have hrl:(m7 G d.lo d.hi).length<=12:=by unfold m7;split<;>simp<;>omega
  have HW:=AI (m7 G d.lo d.hi) (by omega);have hwl2:(R9 (m7 G d.lo d.hi)).length<=12:=by
   unfold R9;rw[zL];exact xH (List.length_filter_le _ _) (by rw[vU];omega)
  have HN:=nJ (R9 (m7 G d.lo d.hi)) n (by omega);rw[qf]at HN;have hnm:=Jv hV E P h5
  repeat' first|refine pS ?_|intro b;conv=>whnf|refine bg.mk λy hy=>?_|fail
  refine Ot.yd (qc (kv:=.string d.of) (z:=.agg #[.string ⟨#[]⟩,.slice none 0 0,.slice none 0 0]) (zd:=.any) (cZ G) rfl rfl (g7.v _) (yQ _ (yQ _ (yQ _ (yQ _ yN)))) (string_keyed underlying9) underlying120 u9 (λ_ _=>.any _) (vB underlying9 (by unfold maxLen;omega)) (by simp only[kK];rw[S];rfl)) ?_;by_cases n0:n<0
  .rw[if_neg (by simp;omega)];exact uG
  by_cases n1:((m7 G d.lo d.hi).length:Int)<=n
  .rw[if_neg (by rw[List.getD_eq_getElem?_getD,List.getElem?_eq_none (by omega)];simp)]
   repeat' first|refine pS ?_|intro b;conv=>whnf|refine bg.mk λy hy=>?_|fail
   exact Rt.by (Vs.drop (yG _ _)) ⟨rfl,rfl⟩
  repeat' first|refine pS ?_|intro b;conv=>whnf|refine bg.mk λy hy=>?_|fail
  refine Rt.by (Vs.drop (yG _ _)) ⟨?_,rfl⟩
  cases hg:(m7 G d.lo d.hi).getD n.toNat false<;>simp[n0]
 rw[if_neg h5];by_cases h6:d.kind=6
 .rw[if_pos h6];have HS:=Ok x w T Z O k i f kd d l E P h6 hl q4 F M hA c D C v
  repeat' first|refine pS ?_|intro b;conv=>whnf|refine bg.mk λy hy=>?_|fail
  refine bu (t:=[(b,.cells 81 (aA d)),(L,.obj (bo prog 3 (KF I))),(C,.mp prog 9 (kK x.lz))]) HS (show List.Perm ((b,ax.cells 81 (aA d))::(c,.cells 122 (gj x w (bJ x) D C v))::(L,.obj (bo prog 3 (KF I)))::(D,.obj (bo prog 124 F))::(C,.mp prog 9 (kK x.lz))::M) _ from by(refine cV λa=>?_;simp only[List.append_eq,List.nil_append,List.cons_append,cU,dn,de];omega)) (λs'=>s'++[(b,.cells 81 (aA d)),(L,.obj (bo prog 3 (KF I))),(C,.mp prog 9 (kK x.lz))]) (λs'=>zH _) ?_;rintro _ _ ⟨rfl,rfl⟩
  repeat' first|refine pS ?_|intro b;conv=>whnf|refine bg.mk λy hy=>?_|fail
  refine Rt.by ((Vs.perm (τ:=(b,.cells 81 (aA d))::(c,.cells 122 (gj x w (bJ x) D C v))::(L,.obj (bo prog 3 (KF I)))::(D,.obj (bo prog 124 F))::(C,.mp prog 9 (kK x.lz))::M) (by(refine cV λa=>?_;simp only[List.append_eq,List.nil_append,List.cons_append,cU,dn,de];omega))).trans (Vs.drop (yG _ _))) ⟨?_,rfl⟩
  by_cases hs:n=Lf x w k i f<;>simp[hs]
 rw[if_neg h6];by_cases h8:d.kind=8
 .rw[if_pos h8];obtain⟨u,g,o,ko,q,e1,e2,e3,e4,e5,e6,e7,e8⟩:=nH Z E P h8;obtain⟨z,K⟩:∃z,r[u]?=some z:=⟨_,zD (by omega)⟩
  have HU:=SB (w:=w) (bJ x) D C v d r z E e1 K (by omega) R (by omega);rw[e5]at HU
  repeat' first|refine pS ?_|intro b;conv=>whnf|refine bg.mk λy hy=>?_|fail
  refine CE.pk (iK.peek (.cons (Pk.ptr (j:=1) rfl (kf.refl _)) (.cons (Pk.same _) (.cons (Pk.same _) (.cons (Pk.same _) .nil)))) HU rfl) ?_;have HF:=FP ko d.of (by have:=R ko (zG e6);omega);rw[e7]at HF;have hol:=(zE.1 e6).1;obtain⟨lo,s⟩:∃l,w[o]?=some l:=⟨_,zD (by omega)⟩
  have hlo':w[((o:Nat):Int).toNat]?=some lo:=s;have hko':x.kz[((o:Nat):Int).toNat]?=some ko:=e6;have X:=n6 E e3 e4;rw[e5]at X;have hzr:=Q _ X l hl r (zG Y);simp only[p8,Int.toNat_natCast,cw K,cw s,xJ,wA,xF]at hzr;obtain⟨y,hy⟩:∃y,lo[z.toNat]?=some y:=⟨_,zD (by omega)⟩
  have hyr:=si e6 ((uN (J _ _ s)).2 y (zG hy));obtain⟨t,ht⟩:∃t,y[q]?=some t:=⟨_,zD (by omega)⟩
  have ht':y[((q:Nat):Int).toNat]?=some t:=ht;have hlol:=T.nr lo (zG s);have hyl:=T.nf lo (zG s) y (zG hy);have hcp:jx x w k kd d r=t:=by
   unfold jx;rw[e1,e5,FX e6];simp only[Int.toNat_natCast];unfold il;rw[e7,Int.toNat_natCast,Int.toNat_natCast,cw s,cw K,cw hy,cw ht]
  rw[hcp]
  repeat' first|refine pS ?_|intro b;conv=>whnf|refine bg.mk λy hy=>?_|fail
  refine Rt.by (Vs.drop (yG _ _)) ⟨?_,rfl⟩
  by_cases hs:n=t<;>simp[hs]
 rw[if_neg h8]
 repeat' first|refine pS ?_|intro b;conv=>whnf|refine bg.mk λy hy=>?_|fail
 exact Rt.by (Vs.drop (yG _ _)) ⟨rfl,rfl⟩
end
section
open Go Go.Maps Go.MapKept
def aY9(x:ak)(k:Nat)(kd:aq)(i:Nat)(r:List Int)(q:Nat):(fi x k kd i r q).length<=1:=by unfold fi;split;exact Ad ..;simp
variable{kd:aq}{x:ak}{w:Wd}
def aP8(u:x.rules.length<=16){k:Nat}{l:List (List Int)}(h:∀y∈l,dT x k y=true)(f:∀k∈x.kz,k.fields.length<=10)(d:x.kz[k]?=some kd)(i:Nat):(dX x w k kd l i).length<=26:=by
 unfold dX;split
 .rename_i r a;have g:=fa (Sq x w k kd l i r) r.length;have e:=(si d (h r (zG a))).1;have c:=f kd (zG d);have b:=fa (aY9 x k kd i r) x.rules.length;simp only[zI];omega
 .simp
def aN6(u:x.rules.length<=16)(h:∀(k:Nat)l,w[k]?=some l->r0 x k l=true)(f:∀k∈x.kz,k.fields.length<=10)(k:Nat):(l2 x w k).length<=13312:=by
 unfold l2;split
 .rename_i kd d
  cases a:w[k]? with
  |none=>rw[List.getD_eq_getElem?_getD,a];simp[am]
  |some l=>
   rw[cw a];obtain⟨c,b⟩:=uN (h k l a);have:=fa (aP8 u b f d (w:=w)) l.length;omega
 .simp
def JX{r:List Int}(h:∀n∈r,-1099511627776<=n/\n<=1099511627776)(nm:ByteArray):-1099511627776<=da kd r nm/\da kd r nm<=1099511627776:=by
 unfold da il;split
 .omega
 .rw[List.getD_eq_getElem?_getD]
  cases a:r[(bb kd nm).toNat]? with
  |none=>simp
  |some n=>exact h n (zG a)
def BQ(V:LC x){q:Nat}{u:cH}(a:x.rules[q]?=some u):-1048576<=u.n/\u.n<=1048576:=by
 have h:=V.rules u (zG a);simp only[yw,zJ,cF,zQ]at h;omega
variable{A B:Prop}
def Bz(k:B)(h:ar B->A:=by intro q7;(first|refine bh ?_|refine aE ?_|(refine' aj ?hc ?_;(case hc=>first|exact GE _ _|exact HN|exact HT|exact HK)));exact q7.1):A:=h ⟨k⟩
def TF(k:B)(h:ar B->A:=by intro q7;(first|refine bh ?_|refine zw ?_|(refine' aj ?hc ?_;(case hc=>first|exact GE _ _|exact HN|exact HT|exact HK)));exact q7.1):A:=h ⟨k⟩
def TE(k:B)(h:ar B->A:=by intro q7;(first|refine bh ?_|refine Mm ?_|(refine' aj ?hc ?_;(case hc=>first|exact GE _ _|exact HN|exact HT|exact HK)));exact q7.1):A:=h ⟨k⟩
def i6(k:B)(h:ar B->A:=by intro q7;(first|refine Bz ?_|(with_reducible refine Br.t (wP _) ?_)|(with_reducible refine Br.f Bool.not_true ?_)|(with_reducible refine Br.t (yJ trivial) ?_));exact q7.1):A:=h ⟨k⟩
def sq4(k:B)(h:ar B->A:=by intro q7;(first|refine TF ?_|(with_reducible refine Br.t (wP _) ?_)|(with_reducible refine Br.f Bool.not_true ?_)|(with_reducible refine Br.t (yJ trivial) ?_));exact q7.1):A:=h ⟨k⟩
def Gm(k:B)(h:ar B->A:=by intro q7;(first|refine TE ?_|(with_reducible refine Br.t (wP _) ?_)|(with_reducible refine Br.f Bool.not_true ?_)|(with_reducible refine Br.t (yJ trivial) ?_));exact q7.1):A:=h ⟨k⟩
variable{p:Prop}
def bj7(h:p:=by rw[hR];refine cV λa=>?_;simp only[List.append_eq,List.nil_append,List.cons_append,cU,dn,de];omega):p:=h
def Z4(h:p:=by
 repeat' first|refine Gm ?_|intro b;conv=>whnf|fail
 refine Ld.cellm (tb:=22) (cs:=cs0) (lds _) (by rw[aR];exact c0) ?_
 ((repeat'(first|refine Gm ?_|intro b;conv=>whnf|fail));(refine iG mixed ai rfl [0,1,2,3,4,5,6,7,8,9,10,11,12,13,14,15,16,17,18,19] 1 (hQ [20]) (.one 20 .done) (γ:=Value×ae) (λ_=>[]) (λg=>(c,.cells 122 (gj x w (bJ x) rm lm g.1))::(g.2++R)) (λg=>ab 108 4 ((L1++L2++L3++am (j+1) (eD x w r)).map aS) g.1 g.2) (by decide +kernel) ?_ ?_))
 .repeat' first|refine Gm ?_|intro b;conv=>whnf|fail
  (refine bu (Sl x w (bJ x) rm lm c _ _ _ _ _ _ _ hrow (by(try simp only[zI]);omega)) (zH _) (λs'=>s'++_) (λs'=>zH _) ?_;rintro _ _ ⟨v',s',rfl,rfl,hr'⟩)
  repeat' first|refine Gm ?_|intro b;conv=>whnf|fail
  exact⟨(v',s'),(ah aJ),Sc.refl _,by rw[hSJ,←zV];simpa [h2]using hr'⟩
 .rintro⟨v',s'⟩ hr'
  repeat' first|refine Gm ?_|intro b;conv=>whnf|fail
  exact⟨(j+1,v',s'),(ah aJ),Sc.refl _,⟨by simp only;omega,hr'⟩,by simp only;omega⟩):p:=h
def Qo(h:p:=by
 (refine iG mixed ai rfl [0,1,2,3,4,5,6,7,8,9,10,11,12,13,14,15,16,17,18,19,20,21] 1 (hQ [22]) (.one 22 .done) (γ:=Value×ae) (λ_=>[]) (λg=>(c,.cells 122 (gj x w (bJ x) rm lm g.1))::(g.2++((bk,.obj (bo prog 3 (KF (j6 kd l (i+1)))))::R))) (λg=>ab 108 4 ((L1++L2++L3++L4++am (q+1) (fi x k kd i r)).map aS) g.1 g.2) (by decide +kernel) ?_ ?_)
 .repeat' first|refine i6 ?_|intro b;conv=>whnf|fail
  (refine bu (Sl x w (bJ x) rm lm c _ _ _ _ _ _ _ hrow (by simp only[zI];omega)) (zH _) (λs'=>s'++_) (λs'=>zH _) ?_;rintro _ _ ⟨v',s',rfl,rfl,hr'⟩)
  repeat' first|refine i6 ?_|intro b;conv=>whnf|fail
  exact⟨(v',s'),(ah aJ),Sc.refl _,by rw[hSU,←zV];exact hr'⟩
 .rintro⟨v',s'⟩ hr'
  repeat' first|refine i6 ?_|intro b;conv=>whnf|fail
  exact⟨(q+1,v',s'),(ah aJ),Sc.refl _,⟨by simp only;omega,hr'⟩,by simp only;omega⟩):p:=h
def ZC(h:p:=by
 repeat' first|refine i6 ?_|intro b;conv=>whnf|fail
 (refine bu (Sl x w (bJ x) rm lm c _ _ _ _ _ _ _ hrow (by(try simp only[zI]);omega)) (zH _) (λs'=>s'++_) (λs'=>zH _) ?_;rintro _ _ ⟨v',s',rfl,rfl,hr'⟩)
 repeat' first|refine i6 ?_|intro b;conv=>whnf|fail
 exact⟨(k+1,v',s'),(ah aJ),Sc.refl _,⟨by simp only;omega,by rw[hSL];simpa [h2]using hr'⟩,by simp only;omega⟩):p:=h
def k9(x:ak)(w:Wd)(I:Ws w)(hp:dJ x=[])(HV:APure prog 108 [aw x] (iD (fD x))):APure prog 14 [aw x,fI w] (.sl 4 ((N1 x w).map aS)):=by
 have HN:=PD x w I hp HV;have hS:=Ft hp;have hV:=hS.vld;have hnk:=hV.nk;have E:=hV.nf;have P:=hV.nr;have hwl:=I.nk;have hl6:x.kz.length<=1000000:=by omega
 have hrl:=aM5 hV;refine ap func14 ntmps14 λBB=>?_
 repeat' first|refine Bz ?_|intro b;conv=>whnf
 refine bu HN (zH ([]++[])) (λs'=>s') (λs'=>by simp) ?_;rintro d σ (⟨o,rfl,rfl⟩|⟨o,c,rm,lm,F,sa,rfl,rfl,hA⟩)
 .repeat' first|refine Bz ?_|intro b;conv=>whnf
  exact Rt.pure (by unfold N1;rw[o];rfl)
 .obtain⟨hlen,C,hrefs⟩:=GB o;obtain⟨R,hR⟩:∃R:ae,R=(rm,.obj (bo prog 124 F))::(lm,.mp prog 9 (kK x.lz))::sa:=⟨_,rfl⟩
  rw[←hR]
  repeat' first|refine i6 ?_|intro b;conv=>whnf|fail
  refine aO mixed ai (γ:=Nat×Value×ae) (λg=>[(35,iD g.1)]) (λg=>(c,.cells 122 (gj x w (bJ x) rm lm g.2.1))::(g.2.2++R)) (λg=>g.1<=w.length/\ab 108 4 ((am g.1 (fN x w)).map aS) g.2.1 g.2.2) (λg=>w.length-g.1) (0,.slice none 0 0,[]) (ah aJ) (Sc.refl _) ⟨zW _,ab.nil _ _⟩ ?_;rintro⟨k,v,s⟩ ⟨hk,hrow⟩;simp only at hk hrow⊢;by_cases G:k<w.length
  .obtain⟨l,hl⟩:∃l,w[k]?=some l:=⟨_,zD G⟩
   have hl':w[((k:Nat):Int).toNat]?=some l:=hl;obtain⟨kd,e⟩:∃y,x.kz[k]?=some y:=⟨_,zD (by omega)⟩
   have M:x.kz[((k:Nat):Int).toNat]?=some kd:=e;have hll:=I.nr l (zG hl);have hSL:=gE k (fN x w);have hLP:fN x w k=one k (-1) (-1) (if(l.length:Int)<kd.lo\/kd.hi<(l.length:Int)then 4 else 0):=by unfold fN;rw[e,cw hl]
   have X:=fa (aF7 x w) k;rw[hLP]at hSL;by_cases h1:(l.length:Int)<kd.lo
   .rw[if_pos (.inl h1)]at hSL
    repeat' first|refine i6 ?_|intro b;conv=>whnf|fail
    (refine bu (Sl x w (bJ x) rm lm c _ _ _ _ _ _ _ hrow (by(try simp only[zI]);omega)) (zH _) (λs'=>s'++_) (λs'=>zH _) ?_;rintro _ _ ⟨v',s',rfl,rfl,hr'⟩)
    repeat' first|refine i6 ?_|intro b;conv=>whnf|fail
    exact⟨(k+1,v',s'),(ah aJ),Sc.refl _,⟨by simp only;omega,by rw[hSL];exact hr'⟩,by simp only;omega⟩
   .by_cases h2:kd.hi<(l.length:Int)
    .rw[if_pos (.inr h2)]at hSL;exact ZC
    .rw[if_neg (by omega)]at hSL;exact ZC
  .obtain rfl:k=w.length:=by omega
   have X:=fa (aF7 x w) w.length;generalize hL1:am w.length (fN x w)=L1 at *
   repeat' first|refine i6 ?_|intro b;conv=>whnf|fail
   refine aO mixed ai (γ:=Nat×Value×ae) (λg=>[(68,iD g.1)]) (λg=>(c,.cells 122 (gj x w (bJ x) rm lm g.2.1))::(g.2.2++R)) (λg=>g.1<=w.length/\ab 108 4 ((L1++am g.1 (l2 x w)).map aS) g.2.1 g.2.2) (λg=>w.length-g.1) (0,v,s) (ah aJ) (Sc.refl _) ⟨zW _,by simpa [am]using hrow⟩ ?_;clear hrow;rintro⟨k,v,s⟩ ⟨hk,hrow⟩;simp only at hk hrow⊢;by_cases G:k<w.length
   .obtain⟨l,hl⟩:∃l,w[k]?=some l:=⟨_,zD G⟩
    have hl':w[((k:Nat):Int).toNat]?=some l:=hl;obtain⟨kd,e⟩:∃y,x.kz[k]?=some y:=⟨_,zD (by omega)⟩
    have M:x.kz[((k:Nat):Int).toNat]?=some kd:=e;have hll:=I.nr l (zG hl);have hlf:=I.nf l (zG hl);have hkf:=E kd (zG e);have hSK:=gE k (l2 x w);have hKP:l2 x w k=am l.length (dX x w k kd l):=by unfold l2;rw[e,cw hl]
    rw[hKP]at hSK;have V:(am k (l2 x w)).length<=100000:=by have:=fa (aN6 P C E) k;omega
    have L:=(uN (C k l hl)).2;generalize hL2:am k (l2 x w)=L2 at *
    repeat' first|refine i6 ?_|intro b;conv=>whnf|fail
    refine ce.makeMap (k:=3) rfl (λbk=>?_)
    repeat' first|refine i6 ?_|intro b;conv=>whnf|fail
    refine aO mixed ai (γ:=Nat×Value×ae) (λg=>[(76,iD g.1)]) (λg=>(c,.cells 122 (gj x w (bJ x) rm lm g.2.1))::(g.2.2++((bk,.obj (bo prog 3 (KF (j6 kd l g.1))))::R))) (λg=>g.1<=l.length/\ab 108 4 ((L1++L2++am g.1 (dX x w k kd l)).map aS) g.2.1 g.2.2) (λg=>l.length-g.1) (0,v,s) (ah aJ) (Sc.perm (by rw[show j6 kd l 0=[] from rfl,Rz];refine cV λa=>?_;simp only[List.append_eq,List.nil_append,cU,dn,de];omega)) ⟨zW _,by simpa [am]using hrow⟩ ?_;clear hrow;rintro⟨i,v,s⟩ ⟨hi,hrow⟩;simp only at hi hrow⊢;by_cases hil:i<l.length
    .obtain⟨r,D⟩:∃r,l[i]?=some r:=⟨_,zD hil⟩
     have hr':l[((i:Nat):Int).toNat]?=some r:=D;have hrf:=hlf r (zG D);obtain⟨hrl,hrn⟩:=si e (L r (zG D));have hSR:=gE i (dX x w k kd l);have hRP:dX x w k kd l i=am r.length (fQ x w k kd l i r)++am x.rules.length (fi x k kd i r):=by unfold dX;rw[D]
     rw[hRP]at hSR;have U:(am i (dX x w k kd l)).length<=100000:=by have:=fa (aP8 P L E e (w:=w)) i;omega
     generalize hL3:am i (dX x w k kd l)=L3 at *;have hKK:j6 kd l (i+1)=jZ kd r (j6 kd l i) r.length:=by show(match l[i]? with|some r=>jZ kd r (j6 kd l i) r.length|none=>j6 kd l i)=_;rw[D]
     generalize hK0:j6 kd l i=O at *
     repeat' first|refine i6 ?_|intro b;conv=>whnf|fail
     refine aO mixed ai (γ:=Nat×Value×ae) (λg=>[(83,iD g.1)]) (λg=>(c,.cells 122 (gj x w (bJ x) rm lm g.2.1))::(g.2.2++((bk,.obj (bo prog 3 (KF (jZ kd r O g.1))))::R))) (λg=>g.1<=r.length/\ab 108 4 ((L1++L2++L3++am g.1 (fQ x w k kd l i r)).map aS) g.2.1 g.2.2) (λg=>r.length-g.1) (0,v,s) (ah aJ) (Sc.refl _) ⟨zW _,by simpa [am]using hrow⟩ ?_;clear hrow;rintro⟨f,v,s⟩ ⟨hf,hrow⟩;simp only at hf hrow⊢;by_cases hfl:f<r.length
     .obtain⟨n,hn⟩:∃n,r[f]?=some n:=⟨_,zD hfl⟩
      obtain⟨d,Y⟩:∃d,kd.fields[f]?=some d:=⟨_,zD (by omega)⟩
      have hnb:=hrn n (zG hn);have hKF:jZ kd r O (f+1)=jT r f d (jZ kd r O f):=by show(match kd.fields[f]? with|some d=>jT r f d (jZ kd r O f)|none=>jZ kd r O f)=_;rw[Y]
      have hSF:=gE f (fQ x w k kd l i r);have T:=fa (Sq x w k kd l i r) f;have hFP:fQ x w k kd l i r f=one k i f (ib x w k kd r i f d (jZ kd r O f)):=by unfold fQ;rw[Y,hK0]
      rw[hFP]at hSF;have HF:=yg x w I hp o c bk rm lm v (jZ kd r O f) e Y hl D hn F sa hA
      repeat' first|refine i6 ?_|intro b;conv=>whnf|fail
      refine bu HF (t:=s) bj7 (λs'=>s'++s) (λs'=>zH _) ?_;rintro _ _ ⟨rfl,rfl⟩
      repeat' first|refine i6 ?_|intro b;conv=>whnf|fail
      refine bu (Sl x w (bJ x) rm lm c _ _ _ _ _ _ _ hrow (by simp only[zI];omega)) (t:=(bk,.obj (bo prog 3 (KF (jT r f d (jZ kd r O f)))))::R) bj7 (λs'=>s'++_) (λs'=>zH _) ?_;rintro _ _ ⟨v',s',rfl,rfl,hr'⟩
      repeat' first|refine i6 ?_|intro b;conv=>whnf|fail
      exact⟨(f+1,v',s'),(ah aJ),by rw[hKF];exact Sc.refl _,⟨by simp only;omega,by rw[hSF,←zV];exact hr'⟩,by simp only;omega⟩
     .obtain rfl:f=r.length:=by omega
      rw[←hKK];have T:=fa (Sq x w k kd l i r) r.length;generalize hL4:am r.length (fQ x w k kd l i r)=L4 at *
      repeat' first|refine i6 ?_|intro b;conv=>whnf|fail
      refine aO mixed ai (γ:=Nat×Value×ae) (λg=>[(102,iD g.1)]) (λg=>(c,.cells 122 (gj x w (bJ x) rm lm g.2.1))::(g.2.2++((bk,.obj (bo prog 3 (KF (j6 kd l (i+1)))))::R))) (λg=>g.1<=x.rules.length/\ab 108 4 ((L1++L2++L3++L4++am g.1 (fi x k kd i r)).map aS) g.2.1 g.2.2) (λg=>x.rules.length-g.1) (0,v,s) (ah aJ) (Sc.refl _) ⟨zW _,by simpa [am]using hrow⟩ ?_;clear hrow;rintro⟨q,v,s⟩ ⟨hq,hrow⟩;simp only at hq hrow⊢;by_cases hql:q<x.rules.length
      .obtain⟨u,hu⟩:∃u,x.rules[q]?=some u:=⟨_,zD hql⟩
       have hu':x.rules[((q:Nat):Int).toNat]?=some u:=hu;have S:=fa (aY9 x k kd i r) q;have hSU:=gE q (fi x k kd i r);have hUP:fi x k kd i r q=one k i (-1) (if bi x u.kind=(k:Int)/\KB kd r u=false then 24 else 0):=by unfold fi;rw[hu]
       rw[hUP]at hSU;have HT:=NV x u.kind hl6;have hun:=BQ hV hu;have hgb:=JX (kd:=kd) hrn u.b
       repeat' first|refine sq4 ?_|intro b;conv=>whnf|fail
       (refine Dr.r ?_;refine W.mk ?_)
       refine pW (i:=16) (d:=.v (.pointer (some ⟨b,0,none⟩))) (d':=.ro (cX u)) (τ:=(c,.cells 122 (gj x w (bJ x) rm lm v))::(s++((bk,.obj (bo prog 3 (KF (j6 kd l (i+1)))))::R))) rfl (λh=>by cases h) (Vs.ptr (tb:=96) (zH _)) ?_;by_cases hku:bi x u.kind=(k:Int)
       .obtain⟨ha,hb⟩:=nG hp hu hku e;have HK:=AJ kd r u hrl (by omega) ha hb ⟨by omega,by omega⟩
        cases J:KB kd r u with
        |true=>
         rw[J]at HK;rw[J,if_neg (by simp)]at hSU;exact Qo
        |false=>
         rw[J]at HK;rw[J,if_pos ⟨hku,rfl⟩]at hSU;exact Qo
       .rw[if_neg (λh=>hku h.1)]at hSU;have HK:=HT;exact Qo
      .obtain rfl:q=x.rules.length:=by omega
       repeat' first|refine i6 ?_|intro b;conv=>whnf|fail
       exact⟨(i+1,v,s),(ah aJ),Sc.refl _,⟨by simp only;omega,by rw[hSR];simpa [zV]using hrow⟩,by simp only;omega⟩
    .obtain rfl:i=l.length:=by omega
     repeat' first|refine i6 ?_|intro b;conv=>whnf|fail
     exact⟨(k+1,v,s),(ah aJ),Sc.sl ((List.Sublist.append_left (yG _ _) s).cons_cons _),⟨by simp only;omega,by rw[hSK,←zV];exact hrow⟩,by simp only;omega⟩
   .obtain rfl:k=w.length:=by omega
    have V:(am w.length (l2 x w)).length<=100000:=by have:=fa (aN6 P C E) w.length;omega
    generalize hL2:am w.length (l2 x w)=L2 at *
    repeat' first|refine i6 ?_|intro b;conv=>whnf|fail
    refine aO mixed ai (γ:=Nat×Value×ae) (λg=>[(137,iD g.1)]) (λg=>(c,.cells 122 (gj x w (bJ x) rm lm g.2.1))::(g.2.2++R)) (λg=>g.1<=(bJ x).length/\ab 108 4 ((L1++L2++am g.1 (pm x w)).map aS) g.2.1 g.2.2) (λg=>(bJ x).length-g.1) (0,v,s) (ah aJ) (Sc.refl _) ⟨zW _,by simpa [am]using hrow⟩ ?_;clear hrow;rintro⟨q,v,s⟩ ⟨hq,hrow⟩;simp only at hq hrow⊢;by_cases hql:q<(bJ x).length
    .obtain⟨r,D⟩:∃r,(bJ x)[q]?=some r:=⟨_,zD hql⟩
     have hr':(bJ x)[((q:Nat):Int).toNat]?=some r:=D;have hrm:=zG D;obtain⟨u1,u2,u3⟩:=hS.up r hrm;obtain⟨kd,d,e,Y,_⟩:=aN5 hrm;have M:x.kz[((r.kind:Nat):Int).toNat]?=some kd:=e;have hd':kd.fields[((r.field:Nat):Int).toNat]?=some d:=Y;have hkf:=E kd (zG e);have hfl:=(zE.1 Y).1;obtain⟨K,Q⟩:∃l,w[r.up.toNat]?=some l:=⟨_,zD (by omega)⟩
     obtain⟨l,hl⟩:∃l,w[r.kind]?=some l:=⟨_,zD (by omega)⟩
     have hlul:=I.nr K (zG Q);have hll:=I.nr l (zG hl);have hadj:mK w r=gW l r.field K.length:=by unfold mK;rw[cw hl,cw Q]
     have hSQ:=gE q (pm x w);have hQP:pm x w q=am K.length (eD x w r):=by unfold pm;rw[D];show am (w.getD r.up.toNat []).length _=_;rw[cw Q]
     rw[hQP]at hSQ;have U:(am q (pm x w)).length<=6000000:=by have:=fa (kX (x:=x) I) q;omega
     generalize hL3:am q (pm x w)=L3 at *;obtain⟨kl,G⟩:=rB (show(Lit.int .i64 (r.kind:Int)).wf=true from iY (by omega) (by omega)) (show(Lit.int .i64 (r.field:Int)).wf=true from iY (by omega) (by omega)) (show(Lit.int .i64 r.up).wf=true from iY (by omega) (by omega));obtain⟨va,ta,τa,hFv,Z,hpa⟩:=hA.at D;rw[hadj]at Z;obtain⟨aa,ca,rfl⟩:=aC.slice Z;rw[NN]at *;have om:(rm,ax.obj (bo prog 124 F))∈R:=by rw[hR];exact yN
     repeat' first|refine i6 ?_|intro b;conv=>whnf|fail
     refine Ot.yd (aH3 (kv:=PH r) (u:=.slice aa K.length ca) rfl rfl (pB0 _ _ _) (yQ _ (yQ _ (yQ _ (yW _ om)))) (λ_ h=>h) bb9 underlying119 sI G (by rw[hFv];rfl)) ?_
     repeat' first|refine i6 ?_|intro b;conv=>whnf|fail
     rename_i b18;refine pW (i:=19) (d:=.v (.pointer (some ⟨b,0,none⟩))) (d':=.ro (aA d)) (τ:=(b18,.cells 124 (MI r))::(c,.cells 122 (gj x w (bJ x) rm lm v))::(s++R)) rfl (λh=>by cases h) (Vs.ptr (tb:=81) (zH _)) ?_;refine pW (i:=18) (d:=.v (.pointer (some ⟨b18,0,none⟩))) (d':=.ro (MI r)) (τ:=(c,.cells 122 (gj x w (bJ x) rm lm v))::(s++R)) rfl (λh=>by cases h) (Vs.ptr (tb:=124) (zH _)) ?_;refine aO mixed ai (γ:=Nat×Value×ae) (λg=>[(159,iD g.1)]) (λg=>(c,.cells 122 (gj x w (bJ x) rm lm g.2.1))::(g.2.2++R)) (λg=>g.1<=K.length/\ab 108 4 ((L1++L2++L3++am g.1 (eD x w r)).map aS) g.2.1 g.2.2) (λg=>K.length-g.1) (0,v,s) (ah aJ) (Sc.refl _) ⟨zW _,by simpa [am]using hrow⟩ ?_;clear hrow;rintro⟨j,v,s⟩ ⟨hj,hrow⟩;simp only at hj hrow⊢;by_cases hjl:j<K.length
     .obtain⟨b0,cap0,cs0,u,t,τ,e0,p0,c0,hu,_⟩:=aC.at Z (Sn (f:=r.field) l hjl);rw[NN]at e0
      cases e0
      obtain⟨a1,ca1,rfl⟩:=ab.slice hu;rw[zL]at c0;have S:=fa (aG6 x w r) j;have hSJ:=gE j (eD x w r);have hdeg:ES w r j=(cS l r.field j).length:=by rw[aN8];unfold ES;rw[cw hl]
      have hfa:fieldAt x r.kind r.field=some d:=by rw[K9 (by omega) (by omega) (by simpa using e)];simpa using Y
      have hJP:eD x w r j=one r.kind j r.field (if((cS l r.field j).length:Int)<d.lo\/d.hi<((cS l r.field j).length:Int)then 11 else 0):=by unfold eD;rw[hfa,hdeg]
      rw[hJP]at hSJ;generalize(cS l r.field j).length=m at *;have mo:(b0,ax.cells 22 cs0)∈R:=by rw[hR];exact yQ _ (yQ _ (hpa.mem_iff.2 (xK _ (p0.mem_iff.2 yN))))
      have lds:∀z:Nat×ax,(b0,ax.cells 22 cs0)∈z::(s++R):=λz=>yQ _ (yW _ mo);by_cases h1:(m:Int)<d.lo
      .rw[if_pos (.inl h1)]at hSJ
       repeat' first|refine Gm ?_|intro b;conv=>whnf|fail
       refine Ld.cellm (tb:=22) (cs:=cs0) (lds _) (by rw[aR];exact c0) ?_
       ((repeat'(first|refine Gm ?_|intro b;conv=>whnf|fail));(refine iG mixed ai rfl [0,1,2,3,4,5,6,7,8,9,10,11,12,13,14,15,16,17,18,19] 1 (hQ [20]) (.one 20 .done) (γ:=Value×ae) (λ_=>[]) (λg=>(c,.cells 122 (gj x w (bJ x) rm lm g.1))::(g.2++R)) (λg=>ab 108 4 ((L1++L2++L3++am (j+1) (eD x w r)).map aS) g.1 g.2) (by decide +kernel) ?_ ?_))
       .repeat' first|refine Gm ?_|intro b;conv=>whnf|fail
        (refine bu (Sl x w (bJ x) rm lm c _ _ _ _ _ _ _ hrow (by(try simp only[zI]);omega)) (zH _) (λs'=>s'++_) (λs'=>zH _) ?_;rintro _ _ ⟨v',s',rfl,rfl,hr'⟩)
        repeat' first|refine Gm ?_|intro b;conv=>whnf|fail
        exact⟨(v',s'),(ah aJ),Sc.refl _,by rw[hSJ,←zV];exact hr'⟩
       .rintro⟨v',s'⟩ hr'
        repeat' first|refine Gm ?_|intro b;conv=>whnf|fail
        exact⟨(j+1,v',s'),(ah aJ),Sc.refl _,⟨by simp only;omega,hr'⟩,by simp only;omega⟩
      .by_cases h2:d.hi<(m:Int)
       .rw[if_pos (.inr h2)]at hSJ;exact Z4
       .rw[if_neg (by omega)]at hSJ;exact Z4
     .obtain rfl:j=K.length:=by omega
      repeat' first|refine i6 ?_|intro b;conv=>whnf|fail
      exact⟨(q+1,v,s),(ah aJ),Sc.refl _,⟨by simp only;omega,by rw[hSQ,←zV];exact hrow⟩,by simp only;omega⟩
    .obtain rfl:q=(bJ x).length:=by omega
     have hC:N1 x w=L1++L2++am (bJ x).length (pm x w):=by unfold N1;rw[if_pos o,hL1,hL2]
     repeat' first|refine i6 ?_|intro b;conv=>whnf|fail
     rw[hC];exact Rt.vs (Vs.row hrow (τ:=(c,.cells 122 (gj x w (bJ x) rm lm v))::R) pa)
end
end Go.Proofs.YtilnpcolgcmofaaGreatDoor
