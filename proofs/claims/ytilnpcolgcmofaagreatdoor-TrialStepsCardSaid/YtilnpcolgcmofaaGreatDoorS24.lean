/- A part of the proof: Rf Rs Rt Ru Jk Jl. -/
import Derived.Test.YtilnpcolgcmofaaGreatDoorS23
set_option maxRecDepth 100000
set_option maxHeartbeats 20000000
set_option linter.all false
namespace Go.Proofs.YtilnpcolgcmofaaGreatDoor
open Tryz
section
open Go Go.Maps Go.MapKept
theorem Ae(l:List Int)(v:Int)(hl:l.length<=1000000):APure prog 125 [bi l,iD v] (iD (idx (λy=>decide (v=y)) l)):=by
 refine ao func125 ntmps125 λf=>?_
 repeat refine aq ?_
 refine fW mixed ai (γ:=Nat) (λk=>[(8,iD k)]) (λ_=>[]) (λk=>k<=l.length/\∀i y,i<k->l[i]?=some y->decide (v=y)=false) (λk=>l.length-k) 0 rfl rfl ⟨by omega,by omega⟩ ?_;rintro k ⟨b,hno⟩;by_cases hlt:k<l.length
 .obtain⟨y,hy⟩:∃y,l[(k:Int).toNat]?=some y:=⟨_,zD hlt⟩
  by_cases hv:v=y
  .repeat refine aq ?_
   refine Rt.pure (zM iD ?_);exact(JP (p:=λy=>decide (v=y)) hy (yJ hv) hno).symm
  .repeat refine aq ?_
   exact⟨k+1,rfl,rfl,⟨by omega,λi z hi a=>by
    by_cases e:i=k
    .subst e;rw[show((i:Int)).toNat=i from rfl,a]at hy;cases hy;exact yE hv
    .exact hno i z (by omega) a⟩,by omega⟩
 .repeat refine aq ?_
  exact DX
theorem Sm{A B:Prop}(k:B)(h:ar B->A:=by intro q7;(first|refine bA ?_|refine aA ?_|(refine' ah ?hc ?_;(case hc=>exact Ae l v hl)));exact q7.1):A:=h ⟨k⟩
theorem ma(l:List Int)(v:Int)(hl:l.length<=1000000):APure prog 76 [bi l,iD v] (bD (l.any λy=>decide (v=y))):=by
 refine ao func76 ntmps76 λa=>?_
 repeat refine Sm ?_
 refine Rt.pure (zM bD ?_);exact qM _ l
def QI(l:List Bool):List Int:=((List.range l.length).filter λi=>l.getD i false).map λ(i:Nat)=>(i:Int)
theorem oT(l:List Bool)(v:Int):(QI l).any (λy=>decide (v=y))=(l.getD v.toNat false&&decide (0<=v)):=by
 rw[Bool.eq_iff_iff];simp only[wC,QI,xM,vP,xT,zQ,zJ];constructor
 .rintro⟨y,⟨i,⟨_,b⟩,rfl⟩,rfl⟩;exact⟨by rw[Int.toNat_natCast];exact b,by omega⟩
 .rintro⟨a,b⟩;refine⟨v,⟨v.toNat,⟨?_,a⟩,by omega⟩,rfl⟩;by_cases h:v.toNat<l.length
  .exact h
  .rw[List.getD_eq_getElem?_getD,yY.2 (by omega)]at a;cases a
theorem yu(l:List Bool)(hl:l.length<=1000):APure prog 77 [slB l] (bi (QI l)):=by
 refine ao func77 ntmps77 λt=>?_
 repeat refine aq ?_
 refine aV mixed ai (γ:=Nat×Value×af) (λg=>[(3,.v g.2.1),(8,iD g.1)]) (λg=>g.2.2) (λg=>g.1<=l.length/\g8 3 iD (((List.range g.1).filter λi=>l.getD i false).map λ(i:Nat)=>(i:Int)) g.2.1 g.2.2) (λg=>l.length-g.1) (0,.slice none 0 0,[]) (aj aP) (Sc.refl _) ⟨zW _,ae.nil _ _⟩ ?_;rintro⟨j,v,r⟩ ⟨hj,w⟩;simp only at hj w⊢;by_cases hjl:j<l.length
 .obtain⟨m,a⟩:∃m,l[j]?=some m:=⟨_,zD hjl⟩
  have k:l[((j:Nat):Int).toNat]?=some m:=a;have e:((List.range (j+1)).filter λi=>l.getD i false).length<=1000:=xH (List.length_filter_le ..) (by rw[vU];omega);have n:((List.range j).filter λi=>l.getD i false).length<=1000:=xH (List.length_filter_le ..) (by rw[vU];omega)
  cases m with
  |true=>
   repeat refine aq ?_
   refine Ap.go rfl rfl rfl rfl w (by simp:r.Perm (r++[])) rfl (zs:=(((List.range (j+1)).filter λi=>l.getD i false).map λ(i:Nat)=>(i:Int)).map λb=>[iD b]) (by rw[List.range_succ,vZ,yB,yB];simp[a]) (by simp only[zL];omega) (by simp only[zL];omega) (λs=>s) (λs=>by simp) (λq o f h3=>?_)
   repeat refine aq ?_
   exact⟨(j+1,_,f),(aj aP),Sc.refl _,⟨by simp only;omega,h3⟩,by simp only;omega⟩
  |false=>
   repeat refine aq ?_
   exact⟨(j+1,v,r),(aj aP),Sc.refl _,⟨by simp only;omega,by rw[List.range_succ,vZ];simpa [a]using w⟩,by simp only;omega⟩
 .obtain rfl:j=l.length:=by omega
  repeat refine aq ?_
  exact Rt.vs (Vs.row w (by simp:r.Perm (r++[])))
theorem C1{kd:au}{nm:ByteArray}{r:List Int}(c:r.length=kd.fields.length)(h:0<=aZ kd nm):∃(q:Nat)(z:Int),aZ kd nm=q/\r[q]?=some z/\lX r (aZ kd nm)=z:=by
 have d:aZ kd nm<kd.fields.length:=Fk _ _;obtain⟨q,b⟩:∃q:Nat,aZ kd nm=q:=⟨_,(xX h).symm⟩
 obtain⟨z,a⟩:∃z,r[q]?=some z:=⟨_,zD (by omega)⟩
 exact⟨q,z,b,a,by unfold lX;rw[b,Int.toNat_natCast,eD a]⟩
theorem Kx{A B:Prop}(k:B)(h:ar B->A:=by intro q7;(first|refine bA ?_|refine aA ?_|(refine' ah ?hc ?_;(case hc=>exact HF)));exact q7.1):A:=h ⟨k⟩
theorem bc1(kd:au)(r:List Int)(nm:ByteArray)(b:r.length=kd.fields.length)(hl:kd.fields.length<=1000)(h:dF nm=true\/0<=aZ kd nm):APure prog 82 [sD nm,.ro [bi r],.ro (bv kd)] (iD (gj kd r nm)):=by
 have HF:=Ev kd nm (by omega);unfold gj
 cases e:dF nm with
 |true=>
  rw[if_pos rfl];have a:(nm.toList==(⟨#[]⟩:ByteArray).toList)=true:=by rw[oG];exact e
  refine ao func82 ntmps82 λk=>?_
  repeat refine Kx ?_
  exact Rt.pure rfl
 |false=>
  rw[if_neg (by decide)];have a:(nm.toList==(⟨#[]⟩:ByteArray).toList)=false:=by rw[oG];exact e
  rw[e]at h;obtain⟨q,z,j,i,f⟩:=C1 b (h.resolve_left (by decide));have g:r[((q:Nat):Int).toNat]?=some z:=i;rw[f];rw[j]at HF;refine ao func82 ntmps82 λk=>?_
  repeat refine Kx ?_
  exact Rt.pure rfl
theorem Sl{A B:Prop}(k:B)(h:ar B->A:=by intro q7;(first|refine bA ?_|refine aA ?_|(refine' ah ?hc ?_;(case hc=>first|exact HA|exact HB)));exact q7.1):A:=h ⟨k⟩
theorem yw(kd:au)(r:List Int)(q:cF)(a:r.length=kd.fields.length)(hl:kd.fields.length<=1000)(b:dF q.a=true\/0<=aZ kd q.a)(hb:dF q.b=true\/0<=aZ kd q.b)(n:cA (gj kd r q.b+q.n)):APure prog 43 [fz kd,bi r,eH q] (bD (kP kd r q)):=by
 have HA:=bc1 kd r q.a a hl b;have HB:=bc1 kd r q.b a hl hb;refine ao func43 ntmps43 λe=>?_
 repeat refine Sl ?_
 refine Rt.pure (zM bD ?_);rfl
theorem Sk{A B:Prop}(k:B)(h:ar B->A:=by intro q7;(first|refine bA ?_|refine aA ?_|(refine' ah ?hc ?_;(case hc=>first|exact HF|exact HU)));exact q7.1):A:=h ⟨k⟩
theorem Q1{x:ak}{w:Wd}{k u:Nat}{kd:au}(L:List Rf)(b l:Nat)(v:Value)(d:am)(r:List Int)(z:Int)(a:x.kz[k]?=some kd)(i:aZ kd d.up=(u:Int))(g:r[u]?=some z)(n:x.kz.length<=1000000)(f:∀k∈x.kz,k.fields.length<=1000000)(j:r.length<=1000000) :
  APure prog 79 [.ro (fB x w L b l v),iD k,bi r,bM d] (.tup [iD (aI x k u),iD z]):=by
 have p:x.kz[((k:Nat):Int).toNat]?=some kd:=a;have e:r[((u:Nat):Int).toNat]?=some z:=g;have o:=(zE.1 a).1;have HF:=Ev kd d.up (by have:=f kd (zG a);omega);rw[i]at HF;have HU:=QJ x k u (by omega) f;refine ao func79 ntmps79 λq=>?_
 repeat refine Sk ?_
 exact Rt.pure rfl
end
section
open Go Go.Maps Go.MapKept
theorem Gj{l:List Int}(h:∀z∈l,-1099511627776<=z/\z<=1099511627776):-1099511627776*(l.length:Int)<=l.sum/\l.sum<=1099511627776*(l.length:Int):=by
 induction l with
 |nil=>simp
 |cons a l i=>
  have d:=h a yN;have c:=i λz b=>h z (yQ _ b);simp only[List.sum_cons,List.length_cons];omega
theorem mF{x:ak}{q f:Nat}{kd:au}{g:am}(h:x.kz[q]?=some kd)(a:kd.fields[f]?=some g)(b:g.kind=1):(⟨q,f,aI x q f,g.lo⟩:Rf)∈bL x:=by
 unfold bL;refine x5.2 ⟨q,(zE.1 h).1,?_⟩;unfold fS;rw[h];refine x5.2 ⟨f,(zE.1 a).1,?_⟩;unfold fc;rw[a];simp[b]
def ie(rows:List (List Int))(s:Nat)(a:List Int):Int:=(a.map λj=>(rows.getD j.toNat []).getD s 0).sum
theorem bc8(rows:List (List Int))(s:Nat)(a:List Int)(j:Int):ie rows s (a++[j])=ie rows s a+(rows.getD j.toNat []).getD s 0:=by simp[ie]
theorem rB(rows:List (List Int))(s:Nat)(c:∀r∈rows,∀n∈r,-1099511627776<=n/\n<=1099511627776)(a:List Int):-1099511627776*(a.length:Int)<=ie rows s a/\ie rows s a<=1099511627776*(a.length:Int):=by
 unfold ie;have h:=Gj (l:=a.map λj=>(rows.getD j.toNat []).getD s 0) λz b=>by
  obtain⟨j,_,rfl⟩:=xM.1 b;rw[List.getD_eq_getElem?_getD,List.getD_eq_getElem?_getD]
  cases e:rows[j.toNat]? with
  |none=>simp
  |some r=>
   simp only[Option.getD_some]
   cases d:r[s]? with
   |none=>simp
   |some n=>exact c r (zG e) n (zG d)
 rw[zL]at h;exact h
theorem aM9(rows:List (List Int))(u s i:Nat)(b:∀r∈rows,∀n∈r,-1099511627776<=n/\n<=1099511627776)(f:rows.length<=1000):∀j,j<=rows.length->o3 (rows.take j) u s i=ie rows s (cI (rows.take j) u i)
 |0,_=>rfl
 |j+1,h=>by
  obtain⟨r,a⟩:∃r,rows[j]?=some r:=⟨_,zD (by omega)⟩
  have c:=aM9 rows u s i b f j (by omega);have t:(rows.take j).length=j:=by rw[zR];omega
  rw[PG a,aP4,t];unfold o3 at c⊢;rw[List.foldl_append,c];simp only[List.foldl_cons,List.foldl_nil];by_cases h1:r.getD u 0=(i:Int)
  .rw[if_pos h1,if_pos h1,bc8,Int.toNat_natCast,eD a];have d:=rB rows s b (cI (rows.take j) u i);have k:(cI (rows.take j) u i).length<=1000:=by
    rw[aL5];have:=List.countP_le_length (p:=λe:List Int=>decide (e.getD u 0=(i:Int))) (l:=rows.take j);omega
   have g:-1099511627776<=r.getD s 0/\r.getD s 0<=1099511627776:=by
    rw[List.getD_eq_getElem?_getD]
    cases d:r[s]? with
    |none=>simp
    |some n=>exact b r (zG a) n (zG d)
   rw[IntKind.wrap_i64];omega
  .rw[if_neg h1,if_neg h1]
theorem CM{rows:List (List Int)}{u i:Nat}{n:Int}(h:n∈cI rows u i):∃q:Nat,n=q/\q<rows.length:=by
 unfold cI at h;obtain⟨p,a,rfl⟩:=xM.1 h;have c:=(vP.1 a).1;have b:=List.mem_zipIdx' c;exact⟨p.2,rfl,b.1⟩
theorem Sj{A B:Prop}(k:B)(h:ar B->A:=by intro q7;(first|refine bA ?_|refine aA ?_|(refine' ah ?hc ?_;(case hc=>first|exact HS|exact HF)));exact q7.1):A:=h ⟨k⟩
theorem Qf{A B:Prop}(k:B)(h:ar B->A:=by intro q7;(first|refine Sj ?_|(with_reducible refine Br.t (wP _) ?_));exact q7.1):A:=h ⟨k⟩
theorem MK(x:ak)(w:Wd)(hw:Ws w)(hp:ef x=[])(X:cO x w=true)(k i f:Nat)(kd:au)(d:am)(J:List (List Int))(hk:x.kz[k]?=some kd)(hf:kd.fields[f]?=some d)(h6:d.kind=6)(U:w[k]?=some J)(hi:i<J.length)(F:Value->Option Value)(G:af)(hA:fH w F (bL x) G)(c I lm:Nat)(v:Value) :
  az prog 78 [.v (.pointer (some ⟨c,0,none⟩)),iD k,iD i,iD f] ((c,.cells 122 (fB x w (bL x) I lm v))::(I,.obj (be prog 124 F))::G) (λd' σ'=>d'=iD (l7 x w k i f)/\σ'=(c,.cells 122 (fB x w (bL x) I lm v))::(I,.obj (be prog 124 F))::G):=by
 obtain⟨o,s,ko,g,u,r,e1,E,e3,e4,e5,e6,e7⟩:=Gy hp hk hf h6;have hV:=(kb hp).vld;have hnk:=hV.nk;have R:∀k∈x.kz,k.fields.length<=1000000:=λk hk=>by have:=hV.nf k hk;omega
 obtain⟨hlen,D,hrefs⟩:=ba5 X;have hol:=(zE.1 E).1;have hkl:=(zE.1 hk).1;have hsl:=(zE.1 e3).1;have hwl:=hw.nk;obtain⟨a,e⟩:∃l,w[o]?=some l:=⟨_,zD (by omega)⟩
 have hlo':w[((o:Nat):Int).toNat]?=some a:=e;have hko':x.kz[((o:Nat):Int).toNat]?=some ko:=E;have hgs':ko.fields[((s:Nat):Int).toNat]?=some g:=e3;have O:=Qx (D _ _ e);have hkol:=R ko (zG E);have T:=hw.nr a (zG e);have hlkl:=hw.nr J (zG U);have C:∀r∈a,∀n∈r,-1099511627776<=n/\n<=1099511627776:=λr hr=>(PV E (O.2 r hr)).2;have hS:l7 x w k i f=ie a s (cI a u i):=by
  have h:=aM9 a u s i C T a.length (zT _);rw[yM]at h;rw[←h];unfold l7;rw[e1];simp only[Int.toNat_natCast];rw[eD e];have:MS x o s=u:=by unfold MS;rw[E];simp only;rw[e3];simp only;rw[e4];rfl
  rw[this]
 rw[hS];have HS:=tV x k f (by omega) R;rw[e1]at HS;have HF:=Ev ko g.up (by omega);rw[e4]at HF;have P:=mF E e5 e6;rw[e7]at P;obtain⟨q,hq⟩:=yO P;obtain⟨va,ta,τa,hFv,Z,Q⟩:=hA.at hq;have hul:=(zE.1 e5).1;obtain⟨kl,V⟩:=qc (show(Lit.int .i64 (o:Int)).wf=true from ic (by omega) (by omega)) (show(Lit.int .i64 (u:Int)).wf=true from ic (by omega) (by omega)) (show(Lit.int .i64 (k:Int)).wf=true from ic (by omega) (by omega));have Y:ly w ⟨o,u,k,r.lo⟩=gq a u J.length:=by unfold ly;simp only[Int.toNat_natCast];rw[eD e,eD U]
 rw[Y]at Z;obtain⟨b0,cap0,cs0,v0,t0,τ0,rfl,p0,c0,M,_⟩:=bw.at Z (QS (f:=u) a hi);rw[LU]at *;have hidl:(cI a u i).length<=1000:=by
  rw[aL5];have:=List.countP_le_length (p:=λr':List Int=>decide (r'.getD u 0=(i:Int))) (l:=a);omega
 have hid:∀n∈cI a u i,∃q:Nat,n=q/\q<a.length:=λn S=>CM S;generalize cI a u i=t at *;have m0:(b0,aE.cells 22 cs0)∈G:=Q.mem_iff.2 (xK _ (p0.mem_iff.2 yN));have mt:∀z∈t0,z∈G:=λz K=>Q.mem_iff.2 (xK _ (p0.mem_iff.2 (yQ _ (xK _ K))));obtain⟨a1,ca1,rfl⟩:=ae.slice M;rw[zL]at *;refine cU func78 ntmps78 λBB=>?_
 repeat' first|refine Qf ?_|intro b;conv=>whnf
 refine Ot.yd (aF8 (kv:=Ob ⟨o,u,k,r.lo⟩) (u:=.slice (some ⟨b0,0,none⟩) J.length cap0) rfl rfl (pB2 _ _ _) (yQ _ (yQ _ yN)) (λ_ h=>h) aZ5 underlying119 ra V (by rw[hFv];rfl)) ?_
 repeat' first|refine Qf ?_|intro b;conv=>whnf
 refine Ld.cellm (tb:=22) (cs:=cs0) (yQ _ (yQ _ (yQ _ m0))) (by rw[eP];exact c0) ?_
 repeat' first|refine Qf ?_|intro b;conv=>whnf
 refine aV mixed ai (γ:=Nat) (λj=>[(12,iD (ie a s (t.take j))),(60,iD j)]) (λ_=>(c,.cells 122 (fB x w (bL x) I lm v))::(I,.obj (be prog 124 F))::G) (λj=>j<=t.length) (λj=>t.length-j) 0 (aj aP) (Sc.sl (yG _ _)) (zW _) ?_;intro j hj;simp only at hj⊢;by_cases hjl:j<t.length
 .obtain⟨n,S⟩:∃n,t[j]?=some n:=⟨_,zD hjl⟩
  obtain⟨b1,cap1,cs1,e9,rfl,hc1,_⟩:=aW2 (g:=iD) (show g8 3 iD t _ t0 from M) S;obtain⟨rfl,_,rfl⟩:=Value.slice.inj e9;clear e9;have m1:=mt _ (zN.2 rfl);obtain⟨nn,rfl,hnl⟩:=hid n (zG S);obtain⟨y,hy⟩:∃y,a[nn]?=some y:=⟨_,zD hnl⟩
  have hy':a[((nn:Nat):Int).toNat]?=some y:=hy;have L:=zG hy;have hyr:=PV E (O.2 y L);obtain⟨z,K⟩:∃z,y[s]?=some z:=⟨_,zD (by omega)⟩
  have hz':y[((s:Nat):Int).toNat]?=some z:=K;have hzb:=hyr.2 z (zG K);have hyl:=hw.nf a (zG e) y L;have hsn:ie a s (t.take (j+1))=ie a s (t.take j)+z:=by rw[PG S,bc8,Int.toNat_natCast,eD hy,eD K]
  have hsb:=rB a s C (t.take j);have hsl2:(t.take j).length<=1000:=by rw[zR];omega
  repeat' first|refine Qf ?_|intro b;conv=>whnf
  refine Ld.cellm (tb:=3) (cs:=cs1) (yQ _ (yQ _ m1)) (by rw[eP];exact hc1) ?_
  repeat' first|refine Qf ?_|intro b;conv=>whnf
  exact⟨j+1,by rw[hsn];exact(aj aw),Sc.refl _,by omega,by omega⟩
 .obtain rfl:j=t.length:=by omega
  rw[yM]
  repeat' first|refine Qf ?_|intro b;conv=>whnf
  exact Rt.same ⟨rfl,rfl⟩
end
section
open Go Go.Maps Go.MapKept
theorem BN{x:ak}(V:Ms x){k f:Nat}{kd:au}{d:am}(c:x.kz[k]?=some kd)(e:kd.fields[f]?=some d)(g:d.kind=3):d.words.length=d.wz.length/\1<=d.words.length/\d.words.length<=12:=by
 have h:=V.kz kd (zG c);simp only[ji,zJ,yA]at h;have b:=h.2 d (zG e);simp only[dE,zJ]at b;have a:=b.2;unfold fJ at a;simp only[g]at a;simp[oc,cz]at a;omega
theorem Hv{x:ak}(V:Ms x){k f:Nat}{kd:au}{d:am}(c:x.kz[k]?=some kd)(e:kd.fields[f]?=some d)(g:d.kind=5):d.of.size<=12:=by
 have h:=V.kz kd (zG c);simp only[ji,zJ,yA]at h;have b:=h.2 d (zG e);simp only[dE,zJ]at b;have a:=b.2;unfold fJ at a;simp only[g]at a;simp[aY,cz]at a;omega
theorem tE(w:World):(zeroValue 93).run prog w= .ok (.agg #[.string ⟨#[]⟩,.slice none 0 0,.slice none 0 0]) w:=by kernel_rfl
theorem Si{A B:Prop}(k:B)(h:ar B->A:=by intro q7;(first|refine bA ?_|refine ir ?_|(refine' ah ?hc ?_;(case hc=>first|exact E7 _ _|exact HC|exact HF|exact HW|exact HN)));exact q7.1):A:=h ⟨k⟩
theorem Sh{A B:Prop}(k:B)(h:ar B->A:=by intro q7;(first|refine bA ?_|refine aA ?_|(refine' ah ?hc ?_;(case hc=>first|exact E7 _ _|exact HC|exact HF|exact HW|exact HN)));exact q7.1):A:=h ⟨k⟩
theorem sq1{A B:Prop}(k:B)(h:ar B->A:=by intro q7;(first|refine Si ?_|(with_reducible refine Br.t (wP _) ?_)|(with_reducible refine Br.f Bool.not_true ?_));exact q7.1):A:=h ⟨k⟩
theorem oC{A B:Prop}(k:B)(h:ar B->A:=by intro q7;(first|refine Sh ?_|(with_reducible refine Br.t (wP _) ?_)|(with_reducible refine Br.f Bool.not_true ?_));exact q7.1):A:=h ⟨k⟩
theorem IG{p:Prop}(h:p:=by
 repeat' first|refine oC ?_|intro b;conv=>whnf|refine a7.mk λy hy=>?_|fail
 refine CE.pk (gK.peek (.cons (Pk.same _) (.cons (Pk.ptr (j:=0) rfl (jn.refl _)) .nil)) HC rfl) ?_
 repeat' first|refine oC ?_|intro b;conv=>whnf|refine a7.mk λy hy=>?_|fail
 exact Rt.by (Vs.drop (yG _ _)) ⟨rfl,rfl⟩):p:=h
theorem ID{p:Prop}(h:p:=by
 repeat' first|refine oC ?_|intro b;conv=>whnf|refine a7.mk λy hy=>?_|fail
 exact Rt.by (Vs.drop (yG _ _)) ⟨rfl,rfl⟩):p:=h
theorem vw(x:ak)(w:Wd)(T:Ws w)(Z:ef x=[])(O:cO x w=true){k i f:Nat}{kd:au}{d:am}{l:List (List Int)}{r:List Int}{n:Int}(c L D C:Nat)(v:Value)(I:List Int)(E:x.kz[k]?=some kd)(P:kd.fields[f]?=some d)(hl:w[k]?=some l)(Y:l[i]?=some r)(U:r[f]?=some n)(F:Value->Option Value)(M:af)(hA:fH w F (bL x) M) :
  az prog 41 [.v (.pointer (some ⟨c,0,none⟩)),iD k,iD i,iD f,.v (.map (some L))] ((c,.cells 122 (fB x w (bL x) D C v))::(L,.obj (be prog 3 (KF I)))::(D,.obj (be prog 124 F))::(C,.mp prog 9 (jD x.lz))::M)
   (λdd σ'=>dd=iD (s4 x w k kd r i f d I)/\σ'=(c,.cells 122 (fB x w (bL x) D C v))::(L,.obj (be prog 3 (KF (u' r f d I))))::(D,.obj (be prog 124 F))::(C,.mp prog 9 (jD x.lz))::M):=by
 have hV:=(kb Z).vld;have hnk:=hV.nk;have R:∀k∈x.kz,k.fields.length<=1000000:=λk E=>by have:=hV.nf k E;omega
 obtain⟨hlen,J,Q⟩:=ba5 O;have hwl:=T.nk;have hk':x.kz[((k:Nat):Int).toNat]?=some kd:=E;have hf':kd.fields[((f:Nat):Int).toNat]?=some d:=P;have hl':w[((k:Nat):Int).toNat]?=some l:=hl;have hr':l[((i:Nat):Int).toNat]?=some r:=Y;have hv':r[((f:Nat):Int).toNat]?=some n:=U;have q1:=(zE.1 E).1;have q2:=(zE.1 P).1;have q3:=(zE.1 hl).1;have q4:=(zE.1 Y).1;have q5:=(zE.1 U).1;have b1:kd.fields.length<=1000000:=R kd (zG E);have b4:=T.nr l (zG hl);have b5:=T.nf l (zG hl) r (zG Y);have V:=PV E ((Qx (J _ _ hl)).2 r (zG Y));have hn:=V.2 n (zG U);have hrd:r.getD f 0=n:=eD U 0;refine cU func41 ntmps41 λBB=>?_
 repeat' first|refine sq1 ?_|intro b;conv=>whnf|refine a7.mk λy hy=>?_|fail
 refine jI ?_;refine lu mixed ai rfl [0,1,2,3,5,8,9,10,12,15] 11 (jE [4,11,18,19]) (.three 4 (.fst 6 (.fst 7 (.two 11 (.fst 13 (.fst 14 (.fst 16 (.fst 17 (.one 18 (.one 19 (.fst 20 .done))))))) 18 (.two 11 (.fst 13 (.fst 14 (.fst 16 (.fst 17 (.one 19 (.fst 20 .done)))))) 19 (.one 11 (.fst 13 (.fst 14 (.fst 16 (.fst 17 (.fst 20 .done)))))))))) 11 (.fst 13 (.fst 14 (.fst 16 (.fst 17 (.two 4 (.fst 6 (.fst 7 (.one 18 (.one 19 (.fst 20 .done))))) 18 (.one 4 (.fst 6 (.fst 7 (.one 19 (.fst 20 .done)))))))))) 18 (.two 4 (.fst 6 (.fst 7 (.two 11 (.fst 13 (.fst 14 (.fst 16 (.fst 17 (.one 19 (.fst 20 .done)))))) 19 (.one 11 (.fst 13 (.fst 14 (.fst 16 (.fst 17 (.fst 20 .done))))))))) 11 (.fst 13 (.fst 14 (.fst 16 (.fst 17 (.one 4 (.fst 6 (.fst 7 (.one 19 (.fst 20 .done))))))))))) (γ:=Nat) (λg=>[(11,.v (.pointer (some ⟨g,0,none⟩))),(12,bi r)]) (λg=>(g,.cells 78 (bv kd))::(c,.cells 122 (fB x w (bL x) D C v))::(L,.obj (be prog 3 (KF I)))::(D,.obj (be prog 124 F))::(C,.mp prog 9 (jD x.lz))::M) (λ_=>True) (by decide +kernel) ?_ ?_
 .repeat' first|refine sq1 ?_|intro b;conv=>whnf|refine a7.mk λy hy=>?_|fail|(refine And.intro ?_ ?_<;>(conv=>whnf))
  all_goals exact⟨b,(aj aP),Sc.refl _,trivial⟩
 rintro b7 -
 repeat' first|refine sq1 ?_|intro b;conv=>whnf|refine a7.mk λy hy=>?_|fail
 refine jI ?_;refine xz (i:=11) (d:=.v (.pointer (some ⟨b7,0,none⟩))) (d':=.ro (bv kd)) (τ:=(c,.cells 122 (fB x w (bL x) D C v))::(L,.obj (be prog 3 (KF I)))::(D,.obj (be prog 124 F))::(C,.mp prog 9 (jD x.lz))::M) rfl (λh=>by cases h) (Vs.ptr (tb:=78) (zH _)) ?_;refine H6 mixed ai ?_
 repeat' first|refine oC ?_|intro b;conv=>whnf|refine a7.mk λy hy=>?_|fail
 unfold s4 u';rw[eD U];by_cases h0:d.kind=0
 .rw[if_pos h0];by_cases s:n<d.lo
  .rw[if_pos s,if_neg (by omega)];exact ID
  .rw[if_neg s,if_pos (And.intro h0 s)]
   repeat' first|refine oC ?_|intro b;conv=>whnf|refine a7.mk λy hy=>?_|fail
   (refine ci.yd rfl (aF8 (kv:=.int .i64 n) (u:=.bool (decide (n∈I))) rfl rfl (gw.v _) (yQ _ (yQ _ yN)) (λ_ h=>h) aU2 underlying114 tF (sF (ic (by omega) (by omega))) (P7 _ _)) ?_)
   repeat' first|refine oC ?_|intro b;conv=>whnf|refine a7.mk λy hy=>?_|fail
   refine ci.mapUpdate (b:=L) (F:=KF I) (k:=3) (e:=4) (kv:=.int .i64 n) (τ:=(b,.cells 81 (aH d))::(c,.cells 122 (fB x w (bL x) D C v))::(D,.obj (be prog 124 F))::(C,.mp prog 9 (jD x.lz))::M) rfl rfl (gw.v _) rfl (List.perm_middle (l₁:=[_,_])) aU2 underlying114 (sF (ic (by omega) (by omega))) ?_;rw[Kf]
   repeat' first|refine oC ?_|intro b;conv=>whnf|refine a7.mk λy hy=>?_|fail
   exact Rt.by ((Vs.perm (List.Perm.swap _ _ _)).trans ((Vs.drop (yG _ _)).trans (Vs.perm (List.Perm.swap _ _ _)))) ⟨by simp,rfl⟩
 rw[if_neg h0,if_neg (show ¬(d.kind=0/\¬n<d.lo) from λh=>h0 h.1)];by_cases h2:d.kind=2\/d.kind=7
 .rw[if_pos h2];have HC:=qv n d;rcases h2 with h2|h2
  .exact IG
  .exact IG
 rw[if_neg h2];by_cases h3:d.kind=3
 .rw[if_pos h3];obtain⟨p1,p2,p3⟩:=BN hV E P h3;by_cases n0:n<0
  .rw[if_pos (.inl n0)];exact ID
  by_cases n1:(d.words.length:Int)<=n
  .rw[if_pos (.inr (.inl n1))];exact ID
  obtain⟨z,K⟩:∃z,d.wz[n.toNat]?=some z:=⟨_,zD (by omega)⟩
  rw[eD K]
  repeat' first|refine oC ?_|intro b;conv=>whnf|refine a7.mk λy hy=>?_|fail
  have hyz:y=z:=by
   have key:∀m:Int,d.wz[m.toNat]?=some y->m=n->y=z:=λm h e=>by rw[e,K]at h;exact(wK h).symm
   exact key _ hy (by simp only[zL];(repeat' split)<;>omega)
  subst hyz;refine Rt.by (Vs.drop (yG _ _)) ⟨?_,rfl⟩
  by_cases hy0:y=0<;>simp[hy0,n0,show ¬(d.words.length:Int)<=n from n1]
 rw[if_neg h3];by_cases h4:d.kind=4
 .rw[if_pos h4]
  cases he:dF d.of with
  |true=>
   have he':(d.of.toList==(⟨#[]⟩:ByteArray).toList)=true:=by rw[oG];exact he
   have hg:gj kd r d.of=0:=by unfold gj;rw[if_pos he]
   rw[hg,Int.sub_zero];have HC:=qv n d;exact IG
  |false=>
   have he':(d.of.toList==(⟨#[]⟩:ByteArray).toList)=false:=by rw[oG];exact he
   obtain⟨q,hq,hqf⟩:=(Gz Z E P h4).resolve_left (by rw[he];decide);obtain⟨z,K⟩:∃z,r[q]?=some z:=⟨_,zD (by omega)⟩
   have hz':r[((q:Nat):Int).toNat]?=some z:=K;have hzb:=V.2 z (zG K);have hg:gj kd r d.of=z:=by unfold gj lX;rw[if_neg (by rw[he];decide),hq,Int.toNat_natCast,eD K]
   rw[hg];have HC:=qv (n-z) d;have HF:=Ev kd d.of (by omega);rw[hq]at HF;exact IG
 rw[if_neg h4];by_cases h5:d.kind=5
 .rw[if_pos h5];obtain⟨G,S⟩:∃G,x.lz.find? (λl=>seq l.name d.of)=some G:=by
   have:=z7 Z E P h5;rw[wC]at this;obtain⟨l,m1,m2⟩:=this;exact Option.isSome_iff_exists.1 (by rw[List.find?_isSome];exact⟨l,m1,m2⟩)
  have s:qe x d.of=G:=by unfold qe;rw[S];rfl
  rw[s];have hlm:=List.mem_of_find?_eq_some S;have hLB:=hV.lz G hlm;simp only[jS,zJ,zQ]at hLB;have hst:G.tz.length<=12:=by have:=hLB.1.1.1.2;simp[cz]at this;omega
  have HC:=Ct G d.lo d.hi (by omega) (by omega);have hrl:(wi G d.lo d.hi).length<=12:=by unfold wi;split<;>simp<;>omega
  have HW:=yu (wi G d.lo d.hi) (by omega);have hwl2:(QI (wi G d.lo d.hi)).length<=12:=by
   unfold QI;rw[zL];exact xH (List.length_filter_le _ _) (by rw[vU];omega)
  have HN:=ma (QI (wi G d.lo d.hi)) n (by omega);rw[oT]at HN;have hnm:=Hv hV E P h5
  repeat' first|refine oC ?_|intro b;conv=>whnf|refine a7.mk λy hy=>?_|fail
  refine Ot.yd (oR (kv:=.string d.of) (z:=.agg #[.string ⟨#[]⟩,.slice none 0 0,.slice none 0 0]) (zd:=.any) (dj G) rfl rfl (gw.v _) (yQ _ (yQ _ (yQ _ (yQ _ yN)))) (string_keyed underlying9) underlying120 tE (λ_ _=>.any _) (vB underlying9 (by unfold maxLen;omega)) (by simp only[jD];rw[S];rfl)) ?_;by_cases n0:n<0
  .rw[if_neg (by simp;omega)];exact ID
  by_cases n1:((wi G d.lo d.hi).length:Int)<=n
  .rw[if_neg (by rw[List.getD_eq_getElem?_getD,List.getElem?_eq_none (by omega)];simp)]
   repeat' first|refine oC ?_|intro b;conv=>whnf|refine a7.mk λy hy=>?_|fail
   exact Rt.by (Vs.drop (yG _ _)) ⟨rfl,rfl⟩
  repeat' first|refine oC ?_|intro b;conv=>whnf|refine a7.mk λy hy=>?_|fail
  refine Rt.by (Vs.drop (yG _ _)) ⟨?_,rfl⟩
  cases hg:(wi G d.lo d.hi).getD n.toNat false<;>simp[n0]
 rw[if_neg h5];by_cases h6:d.kind=6
 .rw[if_pos h6];have HS:=MK x w T Z O k i f kd d l E P h6 hl q4 F M hA c D C v
  repeat' first|refine oC ?_|intro b;conv=>whnf|refine a7.mk λy hy=>?_|fail
  refine ba (t:=[(b,.cells 81 (aH d)),(L,.obj (be prog 3 (KF I))),(C,.mp prog 9 (jD x.lz))]) HS (show List.Perm ((b,aE.cells 81 (aH d))::(c,.cells 122 (fB x w (bL x) D C v))::(L,.obj (be prog 3 (KF I)))::(D,.obj (be prog 124 F))::(C,.mp prog 9 (jD x.lz))::M) _ from by(refine iT λa=>?_;simp only[List.append_eq,List.nil_append,List.cons_append,iS,jP,jh];omega)) (λs'=>s'++[(b,.cells 81 (aH d)),(L,.obj (be prog 3 (KF I))),(C,.mp prog 9 (jD x.lz))]) (λs'=>zH _) ?_;rintro _ _ ⟨rfl,rfl⟩
  repeat' first|refine oC ?_|intro b;conv=>whnf|refine a7.mk λy hy=>?_|fail
  refine Rt.by ((Vs.perm (τ:=(b,.cells 81 (aH d))::(c,.cells 122 (fB x w (bL x) D C v))::(L,.obj (be prog 3 (KF I)))::(D,.obj (be prog 124 F))::(C,.mp prog 9 (jD x.lz))::M) (by(refine iT λa=>?_;simp only[List.append_eq,List.nil_append,List.cons_append,iS,jP,jh];omega))).trans (Vs.drop (yG _ _))) ⟨?_,rfl⟩
  by_cases hs:n=l7 x w k i f<;>simp[hs]
 rw[if_neg h6];by_cases h8:d.kind=8
 .rw[if_pos h8];obtain⟨u,g,o,ko,q,e1,e2,e3,e4,e5,e6,e7,e8⟩:=z' Z E P h8;obtain⟨z,K⟩:∃z,r[u]?=some z:=⟨_,zD (by omega)⟩
  have HU:=Q1 (w:=w) (bL x) D C v d r z E e1 K (by omega) R (by omega);rw[e5]at HU
  repeat' first|refine oC ?_|intro b;conv=>whnf|refine a7.mk λy hy=>?_|fail
  refine CE.pk (gK.peek (.cons (Pk.ptr (j:=1) rfl (jn.refl _)) (.cons (Pk.same _) (.cons (Pk.same _) (.cons (Pk.same _) .nil)))) HU rfl) ?_;have HF:=Ev ko d.of (by have:=R ko (zG e6);omega);rw[e7]at HF;have hol:=(zE.1 e6).1;obtain⟨lo,s⟩:∃l,w[o]?=some l:=⟨_,zD (by omega)⟩
  have hlo':w[((o:Nat):Int).toNat]?=some lo:=s;have hko':x.kz[((o:Nat):Int).toNat]?=some ko:=e6;have X:=mF E e3 e4;rw[e5]at X;have hzr:=Q _ X l hl r (zG Y);simp only[tr,Int.toNat_natCast,eD K,eD s,xJ,wA,xF]at hzr;obtain⟨y,hy⟩:∃y,lo[z.toNat]?=some y:=⟨_,zD (by omega)⟩
  have hyr:=PV e6 ((Qx (J _ _ s)).2 y (zG hy));obtain⟨t,ht⟩:∃t,y[q]?=some t:=⟨_,zD (by omega)⟩
  have ht':y[((q:Nat):Int).toNat]?=some t:=ht;have hlol:=T.nr lo (zG s);have hyl:=T.nf lo (zG s) y (zG hy);have hcp:qr x w k kd d r=t:=by
   unfold qr;rw[e1,e5,Fe e6];simp only[Int.toNat_natCast];unfold lX;rw[e7,Int.toNat_natCast,Int.toNat_natCast,eD s,eD K,eD hy,eD ht]
  rw[hcp]
  repeat' first|refine oC ?_|intro b;conv=>whnf|refine a7.mk λy hy=>?_|fail
  refine Rt.by (Vs.drop (yG _ _)) ⟨?_,rfl⟩
  by_cases hs:n=t<;>simp[hs]
 rw[if_neg h8]
 repeat' first|refine oC ?_|intro b;conv=>whnf|refine a7.mk λy hy=>?_|fail
 exact Rt.by (Vs.drop (yG _ _)) ⟨rfl,rfl⟩
end
section
open Go Go.Maps Go.MapKept
theorem mB(x:ak)(k:Nat)(kd:au)(i:Nat)(r:List Int)(q:Nat):(iX x k kd i r q).length<=1:=by unfold iX;split;exact Ej ..;simp
theorem bd9{x:ak}(u:x.rules.length<=16){w:Wd}{k:Nat}{kd:au}{l:List (List Int)}(h:∀y∈l,dA x k y=true)(f:∀k∈x.kz,k.fields.length<=10)(d:x.kz[k]?=some kd)(i:Nat):(iu x w k kd l i).length<=26:=by
 unfold iu;split
 .rename_i r a;have g:=fF (ba4 x w k kd l i r) r.length;have e:=(PV d (h r (zG a))).1;have c:=f kd (zG d);have b:=fF (mB x k kd i r) x.rules.length;simp only[zI];omega
 .simp
theorem nd{x:ak}(u:x.rules.length<=16){w:Wd}(h:∀(k:Nat)l,w[k]?=some l->qE x k l=true)(f:∀k∈x.kz,k.fields.length<=10)(k:Nat):(xq x w k).length<=13312:=by
 unfold xq;split
 .rename_i kd d
  cases a:w[k]? with
  |none=>rw[List.getD_eq_getElem?_getD,a];simp[ap]
  |some l=>
   rw[eD a];obtain⟨c,b⟩:=Qx (h k l a);have:=fF (bd9 u b f d (w:=w)) l.length;omega
 .simp
theorem In{kd:au}{r:List Int}(h:∀n∈r,-1099511627776<=n/\n<=1099511627776)(nm:ByteArray):-1099511627776<=gj kd r nm/\gj kd r nm<=1099511627776:=by
 unfold gj lX;split
 .omega
 .rw[List.getD_eq_getElem?_getD]
  cases a:r[(aZ kd nm).toNat]? with
  |none=>simp
  |some n=>exact h n (zG a)
theorem Nx{x:ak}(V:Ms x){q:Nat}{u:cF}(a:x.rules[q]?=some u):-1048576<=u.n/\u.n<=1048576:=by
 have h:=V.rules u (zG a);simp only[wn,zJ,cz,zQ]at h;omega
theorem Ax{A B:Prop}(k:B)(h:ar B->A:=by intro q7;(first|refine bA ?_|refine aA ?_|(refine' ah ?hc ?_;(case hc=>first|exact E7 _ _|exact HN|exact HT|exact HK)));exact q7.1):A:=h ⟨k⟩
theorem Sg{A B:Prop}(k:B)(h:ar B->A:=by intro q7;(first|refine bA ?_|refine ir ?_|(refine' ah ?hc ?_;(case hc=>first|exact E7 _ _|exact HN|exact HT|exact HK)));exact q7.1):A:=h ⟨k⟩
theorem Sf{A B:Prop}(k:B)(h:ar B->A:=by intro q7;(first|refine bA ?_|refine KD ?_|(refine' ah ?hc ?_;(case hc=>first|exact E7 _ _|exact HN|exact HT|exact HK)));exact q7.1):A:=h ⟨k⟩
theorem ig{A B:Prop}(k:B)(h:ar B->A:=by intro q7;(first|refine Ax ?_|(with_reducible refine Br.t (wP _) ?_)|(with_reducible refine Br.f Bool.not_true ?_)|(with_reducible refine Br.t (yJ trivial) ?_));exact q7.1):A:=h ⟨k⟩
theorem sq4{A B:Prop}(k:B)(h:ar B->A:=by intro q7;(first|refine Sg ?_|(with_reducible refine Br.t (wP _) ?_)|(with_reducible refine Br.f Bool.not_true ?_)|(with_reducible refine Br.t (yJ trivial) ?_));exact q7.1):A:=h ⟨k⟩
theorem EV{A B:Prop}(k:B)(h:ar B->A:=by intro q7;(first|refine Sf ?_|(with_reducible refine Br.t (wP _) ?_)|(with_reducible refine Br.f Bool.not_true ?_)|(with_reducible refine Br.t (yJ trivial) ?_));exact q7.1):A:=h ⟨k⟩
theorem YE{p:Prop}(h:p:=by rw[hR];refine iT λa=>?_;simp only[List.append_eq,List.nil_append,List.cons_append,iS,jP,jh];omega):p:=h
theorem cq7{p:Prop}(h:p:=by
 repeat' first|refine EV ?_|intro b;conv=>whnf|fail
 refine Ld.cellm (tb:=22) (cs:=cs0) (lds _) (by rw[eP];exact c0) ?_
 ((repeat'(first|refine EV ?_|intro b;conv=>whnf|fail));(refine lu mixed ai rfl [0,1,2,3,4,5,6,7,8,9,10,11,12,13,14,15,16,17,18,19] 1 (jE [20]) (.one 20 .done) (γ:=Value×af) (λ_=>[]) (λg=>(c,.cells 122 (fB x w (bL x) rm lm g.1))::(g.2++R)) (λg=>ae 108 4 ((L1++L2++L3++ap (j+1) (iG x w r)).map bp) g.1 g.2) (by decide +kernel) ?_ ?_))
 .repeat' first|refine EV ?_|intro b;conv=>whnf|fail
  (refine ba (QR x w (bL x) rm lm c _ _ _ _ _ _ _ hrow (by(try simp only[zI]);omega)) (zH _) (λs'=>s'++_) (λs'=>zH _) ?_;rintro _ _ ⟨v',s',rfl,rfl,hr'⟩)
  repeat' first|refine EV ?_|intro b;conv=>whnf|fail
  exact⟨(v',s'),(aj aP),Sc.refl _,by rw[hSJ,←zV];simpa [h2]using hr'⟩
 .rintro⟨v',s'⟩ hr'
  repeat' first|refine EV ?_|intro b;conv=>whnf|fail
  exact⟨(j+1,v',s'),(aj aP),Sc.refl _,⟨by simp only;omega,hr'⟩,by simp only;omega⟩):p:=h
theorem OX{p:Prop}(h:p:=by
 (refine lu mixed ai rfl [0,1,2,3,4,5,6,7,8,9,10,11,12,13,14,15,16,17,18,19,20,21] 1 (jE [22]) (.one 22 .done) (γ:=Value×af) (λ_=>[]) (λg=>(c,.cells 122 (fB x w (bL x) rm lm g.1))::(g.2++((bk,.obj (be prog 3 (KF (xb kd l (i+1)))))::R))) (λg=>ae 108 4 ((L1++L2++L3++L4++ap (q+1) (iX x k kd i r)).map bp) g.1 g.2) (by decide +kernel) ?_ ?_)
 .repeat' first|refine ig ?_|intro b;conv=>whnf|fail
  (refine ba (QR x w (bL x) rm lm c _ _ _ _ _ _ _ hrow (by simp only[zI];omega)) (zH _) (λs'=>s'++_) (λs'=>zH _) ?_;rintro _ _ ⟨v',s',rfl,rfl,hr'⟩)
  repeat' first|refine ig ?_|intro b;conv=>whnf|fail
  exact⟨(v',s'),(aj aP),Sc.refl _,by rw[hSU,←zV];exact hr'⟩
 .rintro⟨v',s'⟩ hr'
  repeat' first|refine ig ?_|intro b;conv=>whnf|fail
  exact⟨(q+1,v',s'),(aj aP),Sc.refl _,⟨by simp only;omega,hr'⟩,by simp only;omega⟩):p:=h
theorem X1{p:Prop}(h:p:=by
 repeat' first|refine ig ?_|intro b;conv=>whnf|fail
 (refine ba (QR x w (bL x) rm lm c _ _ _ _ _ _ _ hrow (by(try simp only[zI]);omega)) (zH _) (λs'=>s'++_) (λs'=>zH _) ?_;rintro _ _ ⟨v',s',rfl,rfl,hr'⟩)
 repeat' first|refine ig ?_|intro b;conv=>whnf|fail
 exact⟨(k+1,v',s'),(aj aP),Sc.refl _,⟨by simp only;omega,by rw[hSL];simpa [h2]using hr'⟩,by simp only;omega⟩):p:=h
theorem vx(x:ak)(w:Wd)(I:Ws w)(hp:ef x=[])(HV:APure prog 108 [ax x] (iD (fC x))):APure prog 14 [ax x,lI w] (.sl 4 ((J3 x w).map bp)):=by
 have HN:=N8 x w I hp HV;have hS:=kb hp;have hV:=hS.vld;have hnk:=hV.nk;have E:=hV.nf;have P:=hV.nr;have hwl:=I.nk;have hl6:x.kz.length<=1000000:=by omega
 have hrl:=mE hV;refine ao func14 ntmps14 λBB=>?_
 repeat' first|refine Ax ?_|intro b;conv=>whnf
 refine ba HN (zH ([]++[])) (λs'=>s') (λs'=>by simp) ?_;rintro d σ (⟨o,rfl,rfl⟩|⟨o,c,rm,lm,F,sa,rfl,rfl,hA⟩)
 .repeat' first|refine Ax ?_|intro b;conv=>whnf
  exact Rt.pure (by unfold J3;rw[o];rfl)
 .obtain⟨hlen,C,hrefs⟩:=ba5 o;obtain⟨R,hR⟩:∃R:af,R=(rm,.obj (be prog 124 F))::(lm,.mp prog 9 (jD x.lz))::sa:=⟨_,rfl⟩
  rw[←hR]
  repeat' first|refine ig ?_|intro b;conv=>whnf|fail
  refine aV mixed ai (γ:=Nat×Value×af) (λg=>[(35,iD g.1)]) (λg=>(c,.cells 122 (fB x w (bL x) rm lm g.2.1))::(g.2.2++R)) (λg=>g.1<=w.length/\ae 108 4 ((ap g.1 (kM x w)).map bp) g.2.1 g.2.2) (λg=>w.length-g.1) (0,.slice none 0 0,[]) (aj aP) (Sc.refl _) ⟨zW _,ae.nil _ _⟩ ?_;rintro⟨k,v,s⟩ ⟨hk,hrow⟩;simp only at hk hrow⊢;by_cases G:k<w.length
  .obtain⟨l,hl⟩:∃l,w[k]?=some l:=⟨_,zD G⟩
   have hl':w[((k:Nat):Int).toNat]?=some l:=hl;obtain⟨kd,e⟩:∃y,x.kz[k]?=some y:=⟨_,zD (by omega)⟩
   have M:x.kz[((k:Nat):Int).toNat]?=some kd:=e;have hll:=I.nr l (zG hl);have hSL:=jU k (kM x w);have hLP:kM x w k=one k (-1) (-1) (if(l.length:Int)<kd.lo\/kd.hi<(l.length:Int)then 4 else 0):=by unfold kM;rw[e,eD hl]
   have X:=fF (m9 x w) k;rw[hLP]at hSL;by_cases h1:(l.length:Int)<kd.lo
   .rw[if_pos (.inl h1)]at hSL
    repeat' first|refine ig ?_|intro b;conv=>whnf|fail
    (refine ba (QR x w (bL x) rm lm c _ _ _ _ _ _ _ hrow (by(try simp only[zI]);omega)) (zH _) (λs'=>s'++_) (λs'=>zH _) ?_;rintro _ _ ⟨v',s',rfl,rfl,hr'⟩)
    repeat' first|refine ig ?_|intro b;conv=>whnf|fail
    exact⟨(k+1,v',s'),(aj aP),Sc.refl _,⟨by simp only;omega,by rw[hSL];exact hr'⟩,by simp only;omega⟩
   .by_cases h2:kd.hi<(l.length:Int)
    .rw[if_pos (.inr h2)]at hSL;exact X1
    .rw[if_neg (by omega)]at hSL;exact X1
  .obtain rfl:k=w.length:=by omega
   have X:=fF (m9 x w) w.length;generalize hL1:ap w.length (kM x w)=L1 at *
   repeat' first|refine ig ?_|intro b;conv=>whnf|fail
   refine aV mixed ai (γ:=Nat×Value×af) (λg=>[(68,iD g.1)]) (λg=>(c,.cells 122 (fB x w (bL x) rm lm g.2.1))::(g.2.2++R)) (λg=>g.1<=w.length/\ae 108 4 ((L1++ap g.1 (xq x w)).map bp) g.2.1 g.2.2) (λg=>w.length-g.1) (0,v,s) (aj aP) (Sc.refl _) ⟨zW _,by simpa [ap]using hrow⟩ ?_;clear hrow;rintro⟨k,v,s⟩ ⟨hk,hrow⟩;simp only at hk hrow⊢;by_cases G:k<w.length
   .obtain⟨l,hl⟩:∃l,w[k]?=some l:=⟨_,zD G⟩
    have hl':w[((k:Nat):Int).toNat]?=some l:=hl;obtain⟨kd,e⟩:∃y,x.kz[k]?=some y:=⟨_,zD (by omega)⟩
    have M:x.kz[((k:Nat):Int).toNat]?=some kd:=e;have hll:=I.nr l (zG hl);have hlf:=I.nf l (zG hl);have hkf:=E kd (zG e);have hSK:=jU k (xq x w);have hKP:xq x w k=ap l.length (iu x w k kd l):=by unfold xq;rw[e,eD hl]
    rw[hKP]at hSK;have V:(ap k (xq x w)).length<=100000:=by have:=fF (nd P C E) k;omega
    have L:=(Qx (C k l hl)).2;generalize hL2:ap k (xq x w)=L2 at *
    repeat' first|refine ig ?_|intro b;conv=>whnf|fail
    refine ci.makeMap (k:=3) rfl (λbk=>?_)
    repeat' first|refine ig ?_|intro b;conv=>whnf|fail
    refine aV mixed ai (γ:=Nat×Value×af) (λg=>[(76,iD g.1)]) (λg=>(c,.cells 122 (fB x w (bL x) rm lm g.2.1))::(g.2.2++((bk,.obj (be prog 3 (KF (xb kd l g.1))))::R))) (λg=>g.1<=l.length/\ae 108 4 ((L1++L2++ap g.1 (iu x w k kd l)).map bp) g.2.1 g.2.2) (λg=>l.length-g.1) (0,v,s) (aj aP) (Sc.perm (by rw[show xb kd l 0=[] from rfl,P6];refine iT λa=>?_;simp only[List.append_eq,List.nil_append,iS,jP,jh];omega)) ⟨zW _,by simpa [ap]using hrow⟩ ?_;clear hrow;rintro⟨i,v,s⟩ ⟨hi,hrow⟩;simp only at hi hrow⊢;by_cases hil:i<l.length
    .obtain⟨r,D⟩:∃r,l[i]?=some r:=⟨_,zD hil⟩
     have hr':l[((i:Nat):Int).toNat]?=some r:=D;have hrf:=hlf r (zG D);obtain⟨hrl,hrn⟩:=PV e (L r (zG D));have hSR:=jU i (iu x w k kd l);have hRP:iu x w k kd l i=ap r.length (ja x w k kd l i r)++ap x.rules.length (iX x k kd i r):=by unfold iu;rw[D]
     rw[hRP]at hSR;have U:(ap i (iu x w k kd l)).length<=100000:=by have:=fF (bd9 P L E e (w:=w)) i;omega
     generalize hL3:ap i (iu x w k kd l)=L3 at *;have hKK:xb kd l (i+1)=tn kd r (xb kd l i) r.length:=by show(match l[i]? with|some r=>tn kd r (xb kd l i) r.length|none=>xb kd l i)=_;rw[D]
     generalize hK0:xb kd l i=O at *
     repeat' first|refine ig ?_|intro b;conv=>whnf|fail
     refine aV mixed ai (γ:=Nat×Value×af) (λg=>[(83,iD g.1)]) (λg=>(c,.cells 122 (fB x w (bL x) rm lm g.2.1))::(g.2.2++((bk,.obj (be prog 3 (KF (tn kd r O g.1))))::R))) (λg=>g.1<=r.length/\ae 108 4 ((L1++L2++L3++ap g.1 (ja x w k kd l i r)).map bp) g.2.1 g.2.2) (λg=>r.length-g.1) (0,v,s) (aj aP) (Sc.refl _) ⟨zW _,by simpa [ap]using hrow⟩ ?_;clear hrow;rintro⟨f,v,s⟩ ⟨hf,hrow⟩;simp only at hf hrow⊢;by_cases hfl:f<r.length
     .obtain⟨n,hn⟩:∃n,r[f]?=some n:=⟨_,zD hfl⟩
      obtain⟨d,Y⟩:∃d,kd.fields[f]?=some d:=⟨_,zD (by omega)⟩
      have hnb:=hrn n (zG hn);have hKF:tn kd r O (f+1)=u' r f d (tn kd r O f):=by show(match kd.fields[f]? with|some d=>u' r f d (tn kd r O f)|none=>tn kd r O f)=_;rw[Y]
      have hSF:=jU f (ja x w k kd l i r);have T:=fF (ba4 x w k kd l i r) f;have hFP:ja x w k kd l i r f=one k i f (s4 x w k kd r i f d (tn kd r O f)):=by unfold ja;rw[Y,hK0]
      rw[hFP]at hSF;have HF:=vw x w I hp o c bk rm lm v (tn kd r O f) e Y hl D hn F sa hA
      repeat' first|refine ig ?_|intro b;conv=>whnf|fail
      refine ba HF (t:=s) YE (λs'=>s'++s) (λs'=>zH _) ?_;rintro _ _ ⟨rfl,rfl⟩
      repeat' first|refine ig ?_|intro b;conv=>whnf|fail
      refine ba (QR x w (bL x) rm lm c _ _ _ _ _ _ _ hrow (by simp only[zI];omega)) (t:=(bk,.obj (be prog 3 (KF (u' r f d (tn kd r O f)))))::R) YE (λs'=>s'++_) (λs'=>zH _) ?_;rintro _ _ ⟨v',s',rfl,rfl,hr'⟩
      repeat' first|refine ig ?_|intro b;conv=>whnf|fail
      exact⟨(f+1,v',s'),(aj aP),by rw[hKF];exact Sc.refl _,⟨by simp only;omega,by rw[hSF,←zV];exact hr'⟩,by simp only;omega⟩
     .obtain rfl:f=r.length:=by omega
      rw[←hKK];have T:=fF (ba4 x w k kd l i r) r.length;generalize hL4:ap r.length (ja x w k kd l i r)=L4 at *
      repeat' first|refine ig ?_|intro b;conv=>whnf|fail
      refine aV mixed ai (γ:=Nat×Value×af) (λg=>[(102,iD g.1)]) (λg=>(c,.cells 122 (fB x w (bL x) rm lm g.2.1))::(g.2.2++((bk,.obj (be prog 3 (KF (xb kd l (i+1)))))::R))) (λg=>g.1<=x.rules.length/\ae 108 4 ((L1++L2++L3++L4++ap g.1 (iX x k kd i r)).map bp) g.2.1 g.2.2) (λg=>x.rules.length-g.1) (0,v,s) (aj aP) (Sc.refl _) ⟨zW _,by simpa [ap]using hrow⟩ ?_;clear hrow;rintro⟨q,v,s⟩ ⟨hq,hrow⟩;simp only at hq hrow⊢;by_cases hql:q<x.rules.length
      .obtain⟨u,hu⟩:∃u,x.rules[q]?=some u:=⟨_,zD hql⟩
       have hu':x.rules[((q:Nat):Int).toNat]?=some u:=hu;have S:=fF (mB x k kd i r) q;have hSU:=jU q (iX x k kd i r);have hUP:iX x k kd i r q=one k i (-1) (if bc x u.kind=(k:Int)/\kP kd r u=false then 24 else 0):=by unfold iX;rw[hu]
       rw[hUP]at hSU;have HT:=L9 x u.kind hl6;have hun:=Nx hV hu;have hgb:=In (kd:=kd) hrn u.b
       repeat' first|refine sq4 ?_|intro b;conv=>whnf|fail
       (refine Dr.r ?_;refine W.mk ?_)
       refine xz (i:=16) (d:=.v (.pointer (some ⟨b,0,none⟩))) (d':=.ro (dG u)) (τ:=(c,.cells 122 (fB x w (bL x) rm lm v))::(s++((bk,.obj (be prog 3 (KF (xb kd l (i+1)))))::R))) rfl (λh=>by cases h) (Vs.ptr (tb:=96) (zH _)) ?_;by_cases hku:bc x u.kind=(k:Int)
       .obtain⟨ha,hb⟩:=z8 hp hu hku e;have HK:=yw kd r u hrl (by omega) ha hb ⟨by omega,by omega⟩
        cases J:kP kd r u with
        |true=>
         rw[J]at HK;rw[J,if_neg (by simp)]at hSU;exact OX
        |false=>
         rw[J]at HK;rw[J,if_pos ⟨hku,rfl⟩]at hSU;exact OX
       .rw[if_neg (λh=>hku h.1)]at hSU;have HK:=HT;exact OX
      .obtain rfl:q=x.rules.length:=by omega
       repeat' first|refine ig ?_|intro b;conv=>whnf|fail
       exact⟨(i+1,v,s),(aj aP),Sc.refl _,⟨by simp only;omega,by rw[hSR];simpa [zV]using hrow⟩,by simp only;omega⟩
    .obtain rfl:i=l.length:=by omega
     repeat' first|refine ig ?_|intro b;conv=>whnf|fail
     exact⟨(k+1,v,s),(aj aP),Sc.sl ((List.Sublist.append_left (yG _ _) s).cons_cons _),⟨by simp only;omega,by rw[hSK,←zV];exact hrow⟩,by simp only;omega⟩
   .obtain rfl:k=w.length:=by omega
    have V:(ap w.length (xq x w)).length<=100000:=by have:=fF (nd P C E) w.length;omega
    generalize hL2:ap w.length (xq x w)=L2 at *
    repeat' first|refine ig ?_|intro b;conv=>whnf|fail
    refine aV mixed ai (γ:=Nat×Value×af) (λg=>[(137,iD g.1)]) (λg=>(c,.cells 122 (fB x w (bL x) rm lm g.2.1))::(g.2.2++R)) (λg=>g.1<=(bL x).length/\ae 108 4 ((L1++L2++ap g.1 (EC x w)).map bp) g.2.1 g.2.2) (λg=>(bL x).length-g.1) (0,v,s) (aj aP) (Sc.refl _) ⟨zW _,by simpa [ap]using hrow⟩ ?_;clear hrow;rintro⟨q,v,s⟩ ⟨hq,hrow⟩;simp only at hq hrow⊢;by_cases hql:q<(bL x).length
    .obtain⟨r,D⟩:∃r,(bL x)[q]?=some r:=⟨_,zD hql⟩
     have hr':(bL x)[((q:Nat):Int).toNat]?=some r:=D;have hrm:=zG D;obtain⟨u1,u2,u3⟩:=hS.up r hrm;obtain⟨kd,d,e,Y,_⟩:=aL3 hrm;have M:x.kz[((r.kind:Nat):Int).toNat]?=some kd:=e;have hd':kd.fields[((r.field:Nat):Int).toNat]?=some d:=Y;have hkf:=E kd (zG e);have hfl:=(zE.1 Y).1;obtain⟨K,Q⟩:∃l,w[r.up.toNat]?=some l:=⟨_,zD (by omega)⟩
     obtain⟨l,hl⟩:∃l,w[r.kind]?=some l:=⟨_,zD (by omega)⟩
     have hlul:=I.nr K (zG Q);have hll:=I.nr l (zG hl);have hadj:ly w r=gq l r.field K.length:=by unfold ly;rw[eD hl,eD Q]
     have hSQ:=jU q (EC x w);have hQP:EC x w q=ap K.length (iG x w r):=by unfold EC;rw[D];show ap (w.getD r.up.toNat []).length _=_;rw[eD Q]
     rw[hQP]at hSQ;have U:(ap q (EC x w)).length<=6000000:=by have:=fF (vq (x:=x) I) q;omega
     generalize hL3:ap q (EC x w)=L3 at *;obtain⟨kl,G⟩:=qc (show(Lit.int .i64 (r.kind:Int)).wf=true from ic (by omega) (by omega)) (show(Lit.int .i64 (r.field:Int)).wf=true from ic (by omega) (by omega)) (show(Lit.int .i64 r.up).wf=true from ic (by omega) (by omega));obtain⟨va,ta,τa,hFv,Z,hpa⟩:=hA.at D;rw[hadj]at Z;obtain⟨aa,ca,rfl⟩:=bw.slice Z;rw[LU]at *;have om:(rm,aE.obj (be prog 124 F))∈R:=by rw[hR];exact yN
     repeat' first|refine ig ?_|intro b;conv=>whnf|fail
     refine Ot.yd (aF8 (kv:=Ob r) (u:=.slice aa K.length ca) rfl rfl (pB2 _ _ _) (yQ _ (yQ _ (yQ _ (yW _ om)))) (λ_ h=>h) aZ5 underlying119 ra G (by rw[hFv];rfl)) ?_
     repeat' first|refine ig ?_|intro b;conv=>whnf|fail
     rename_i b18;refine xz (i:=19) (d:=.v (.pointer (some ⟨b,0,none⟩))) (d':=.ro (aH d)) (τ:=(b18,.cells 124 (KW r))::(c,.cells 122 (fB x w (bL x) rm lm v))::(s++R)) rfl (λh=>by cases h) (Vs.ptr (tb:=81) (zH _)) ?_;refine xz (i:=18) (d:=.v (.pointer (some ⟨b18,0,none⟩))) (d':=.ro (KW r)) (τ:=(c,.cells 122 (fB x w (bL x) rm lm v))::(s++R)) rfl (λh=>by cases h) (Vs.ptr (tb:=124) (zH _)) ?_;refine aV mixed ai (γ:=Nat×Value×af) (λg=>[(159,iD g.1)]) (λg=>(c,.cells 122 (fB x w (bL x) rm lm g.2.1))::(g.2.2++R)) (λg=>g.1<=K.length/\ae 108 4 ((L1++L2++L3++ap g.1 (iG x w r)).map bp) g.2.1 g.2.2) (λg=>K.length-g.1) (0,v,s) (aj aP) (Sc.refl _) ⟨zW _,by simpa [ap]using hrow⟩ ?_;clear hrow;rintro⟨j,v,s⟩ ⟨hj,hrow⟩;simp only at hj hrow⊢;by_cases hjl:j<K.length
     .obtain⟨b0,cap0,cs0,u,t,τ,e0,p0,c0,hu,_⟩:=bw.at Z (QS (f:=r.field) l hjl);rw[LU]at e0
      cases e0
      obtain⟨a1,ca1,rfl⟩:=ae.slice hu;rw[zL]at c0;have S:=fF (nN x w r) j;have hSJ:=jU j (iG x w r);have hdeg:IA w r j=(cI l r.field j).length:=by rw[aL5];unfold IA;rw[eD hl]
      have hfa:fieldAt x r.kind r.field=some d:=by rw[JO (by omega) (by omega) (by simpa using e)];simpa using Y
      have hJP:iG x w r j=one r.kind j r.field (if((cI l r.field j).length:Int)<d.lo\/d.hi<((cI l r.field j).length:Int)then 11 else 0):=by unfold iG;rw[hfa,hdeg]
      rw[hJP]at hSJ;generalize(cI l r.field j).length=m at *;have mo:(b0,aE.cells 22 cs0)∈R:=by rw[hR];exact yQ _ (yQ _ (hpa.mem_iff.2 (xK _ (p0.mem_iff.2 yN))))
      have lds:∀z:Nat×aE,(b0,aE.cells 22 cs0)∈z::(s++R):=λz=>yQ _ (yW _ mo);by_cases h1:(m:Int)<d.lo
      .rw[if_pos (.inl h1)]at hSJ
       repeat' first|refine EV ?_|intro b;conv=>whnf|fail
       refine Ld.cellm (tb:=22) (cs:=cs0) (lds _) (by rw[eP];exact c0) ?_
       ((repeat'(first|refine EV ?_|intro b;conv=>whnf|fail));(refine lu mixed ai rfl [0,1,2,3,4,5,6,7,8,9,10,11,12,13,14,15,16,17,18,19] 1 (jE [20]) (.one 20 .done) (γ:=Value×af) (λ_=>[]) (λg=>(c,.cells 122 (fB x w (bL x) rm lm g.1))::(g.2++R)) (λg=>ae 108 4 ((L1++L2++L3++ap (j+1) (iG x w r)).map bp) g.1 g.2) (by decide +kernel) ?_ ?_))
       .repeat' first|refine EV ?_|intro b;conv=>whnf|fail
        (refine ba (QR x w (bL x) rm lm c _ _ _ _ _ _ _ hrow (by(try simp only[zI]);omega)) (zH _) (λs'=>s'++_) (λs'=>zH _) ?_;rintro _ _ ⟨v',s',rfl,rfl,hr'⟩)
        repeat' first|refine EV ?_|intro b;conv=>whnf|fail
        exact⟨(v',s'),(aj aP),Sc.refl _,by rw[hSJ,←zV];exact hr'⟩
       .rintro⟨v',s'⟩ hr'
        repeat' first|refine EV ?_|intro b;conv=>whnf|fail
        exact⟨(j+1,v',s'),(aj aP),Sc.refl _,⟨by simp only;omega,hr'⟩,by simp only;omega⟩
      .by_cases h2:d.hi<(m:Int)
       .rw[if_pos (.inr h2)]at hSJ;exact cq7
       .rw[if_neg (by omega)]at hSJ;exact cq7
     .obtain rfl:j=K.length:=by omega
      repeat' first|refine ig ?_|intro b;conv=>whnf|fail
      exact⟨(q+1,v,s),(aj aP),Sc.refl _,⟨by simp only;omega,by rw[hSQ,←zV];exact hrow⟩,by simp only;omega⟩
    .obtain rfl:q=(bL x).length:=by omega
     have hC:J3 x w=L1++L2++ap (bL x).length (EC x w):=by unfold J3;rw[if_pos o,hL1,hL2]
     repeat' first|refine ig ?_|intro b;conv=>whnf|fail
     rw[hC];exact Rt.vs (Vs.row hrow (τ:=(c,.cells 122 (fB x w (bL x) rm lm v))::R) D0)
end
section
open Go
theorem Lr{p:Prop}(h:p:=by
 refine ao func46 ntmps46 λBB=>?_
 repeat refine aN ?_
 refine Rt.pure (zM bD ?_);simp[h1,h2]):p:=h
theorem aS4(n lo hi:Int):APure prog 46 [iD n,iD lo,iD hi] (bD (decide (lo<=n)&&decide (n<=hi))):=by
 by_cases h1:lo<=n
 .by_cases h2:n<=hi
  .exact Lr
  .exact Lr
 .refine ao func46 ntmps46 λBB=>?_
  repeat refine aN ?_
  refine Rt.pure (zM bD ?_);simp[h1]
theorem jw{A B:Prop}(k:B)(h:ar B->A:=by intro q7;(first|refine bQ ?_|refine aA ?_|(refine' ah ?hc ?_;(case hc=>first|exact HA|exact HB)));exact q7.1):A:=h ⟨k⟩
theorem bp2{A B:Prop}(k:B)(h:ar B->A:=by intro q7;(first|refine bQ ?_|refine aA ?_|(refine' ah ?hc ?_;(case hc=>first|exact HF|exact HU)));exact q7.1):A:=h ⟨k⟩
end
section
open Go
theorem bp1{A B:Prop}(k:B)(h:ar B->A:=by intro q7;(first|refine bQ ?_|refine aA ?_|(refine' ah ?hc ?_;(case hc=>first|exact HS|exact HT)));exact q7.1):A:=h ⟨k⟩
end
end Go.Proofs.YtilnpcolgcmofaaGreatDoor
