/- A part of the proof. -/
import Derived.Test.YtilnpcolgcmofaaGreatDoorC32
import Derived.Test.YtilnpcolgcmofaaGreatDoorC34
import Derived.Test.YtilnpcolgcmofaaGreatDoorRows
import Derived.LaidMore
import Derived.OpenShut
import Derived.LaidHandle
import Derived.LaidSub
import Derived.Lib.LaidU8
import Derived.WideKeyElems2
import Derived.Maps.RangeWalk
import Derived.Maps.Keyed
import Derived.ProofKit
import Derived.ChangeSlices
import Derived.ChangeCalls
import Derived.Deep.Onto
import Derived.Stop.Joined
set_option maxRecDepth 100000
set_option maxHeartbeats 20000000
set_option linter.all false
namespace Go.Proofs.YtilnpcolgcmofaaGreatDoor
open Go.Proofs.Tryz
section
open Go
variable{x:ak}
def Ho(h:iS x=true):fD x=0:=by unfold fD;rw[if_pos h]
def Rn(h:iS x=false):fD x=1:=by unfold fD;rw[h];rfl
def eI{A B:Prop}(k:B)(h:ar B->A:=by intro q7;(first|refine bh ?_|refine aE ?_|(refine' aj ?hc ?_;(case hc=>first|exact R2 _ _ _|exact HK|exact HL|exact aV6 _)));exact q7.1):A:=h ⟨k⟩
def bh7(x:ak)(g:zr x):APure prog 83 [aw x] (iD (fD x)):=by
 refine ap func83 ntmps83 λv=>?_
 cases h1:cF x.vz 0 1048576
 .have E:fD x=1:=Rn (by simp[iS,h1])
  repeat' first|refine eI ?_|(refine aZ ?_;constructor<;>intro hc)
  all_goals(refine Rt.pure (zM iD ?_);exact E.symm)
 by_cases h2:x.kz.length<=6
 case neg=>
  have E:fD x=1:=Rn (by simp[iS,h2])
  repeat' first|refine eI ?_|(refine aZ ?_;constructor<;>intro hc)
  all_goals(refine Rt.pure (zM iD ?_);exact E.symm)
 by_cases h3:x.lz.length<=6
 case neg=>
  have E:fD x=1:=Rn (by simp[iS,h3])
  repeat' first|refine eI ?_|(refine aZ ?_;constructor<;>intro hc)
  all_goals(refine Rt.pure (zM iD ?_);exact E.symm)
 by_cases h4:x.rules.length<=16
 case neg=>
  have E:fD x=1:=Rn (by simp[iS,h4])
  repeat' first|refine eI ?_|(refine aZ ?_;constructor<;>intro hc)
  all_goals(refine Rt.pure (zM iD ?_);exact E.symm)
 repeat refine eI ?_
 refine gD mixed ai (γ:=Nat) (λq=>[(3,iD q)]) (λ_=>[]) (λq=>q<=x.kz.length/\∀(m:Nat)y,m<q->x.kz[m]?=some y->jK y=true) (λq=>x.kz.length-q) 0 rfl rfl ⟨by omega,λm y p=>by omega⟩ ?_;rintro q ⟨r,o⟩;by_cases hlt:q<x.kz.length
 .obtain⟨k,b⟩:∃k,x.kz[(q:Int).toNat]?=some k:=⟨_,zD hlt⟩
  have i:=zG b;have a:=g.sm.kz k i;have HK:=qX k (λf t=>⟨(a.fields f t).nwords,(a.fields f t).nweights⟩) a.nfields
  repeat' first|refine eI ?_|(refine aZ ?_;constructor<;>intro hc)
  .exact⟨q+1,rfl,rfl,⟨by omega,KP o b (by assumption)⟩,by omega⟩
  .refine Rt.pure (zM iD ?_);exact(Rn (by simp only[iS,K8 b (by assumption:jK k=false)];simp)).symm
 have n:x.kz.all jK=true:=K5 (λm y p hy=>o m y (by omega) hy);clear o
 repeat refine eI ?_
 refine gD mixed ai (γ:=Nat) (λq=>[(4,iD q)]) (λ_=>[]) (λq=>q<=x.lz.length/\∀(m:Nat)y,m<q->x.lz[m]?=some y->jL y=true) (λq=>x.lz.length-q) 0 rfl rfl ⟨by omega,λm y p=>by omega⟩ ?_;clear r hlt;rintro q ⟨r,o⟩;by_cases hlt:q<x.lz.length
 .obtain⟨k,b⟩:∃k,x.lz[(q:Int).toNat]?=some k:=⟨_,zD hlt⟩
  have i:=zG b;have a:=g.sm.lz k i;have HL:=qW k a.nstates a.nmoves
  repeat' first|refine eI ?_|(refine aZ ?_;constructor<;>intro hc)
  .exact⟨q+1,rfl,rfl,⟨by omega,KP o b (by assumption)⟩,by omega⟩
  .refine Rt.pure (zM iD ?_);exact(Rn (by simp only[iS,K8 b (by assumption:jL k=false)];simp)).symm
 have l:x.lz.all jL=true:=K5 (λm y p hy=>o m y (by omega) hy);clear o
 repeat refine eI ?_
 refine gD mixed ai (γ:=Nat) (λq=>[(5,iD q)]) (λ_=>[]) (λq=>q<=x.rules.length/\∀(m:Nat)y,m<q->x.rules[m]?=some y->yw y=true) (λq=>x.rules.length-q) 0 rfl rfl ⟨by omega,λm y p=>by omega⟩ ?_;clear r hlt;rintro q ⟨r,o⟩;by_cases hlt:q<x.rules.length
 .obtain⟨k,b⟩:∃k,x.rules[(q:Int).toNat]?=some k:=⟨_,zD hlt⟩
  repeat' first|refine eI ?_|(refine aZ ?_;constructor<;>intro hc)
  .exact⟨q+1,rfl,rfl,⟨by omega,KP o b (by assumption)⟩,by omega⟩
  .refine Rt.pure (zM iD ?_);exact(Rn (by simp only[iS,K8 b (by assumption:yw k=false)];simp)).symm
 have j:x.rules.all yw=true:=K5 (λm y p hy=>o m y (by omega) hy);have e:iS x=true:=by simp only[iS,h1,n,l,j];simp;omega
 have E:=Ho e;have S:=qL x (A7 e g);have u:=g.src e
 repeat refine eI ?_
 refine CE.some S ?_;rintro _ ⟨s,rfl,hs⟩
 repeat refine eI ?_
 refine Rt.pure (zM iD ?_);exact E.symm
end
section
open Go
variable{w:Wd}
def iW.ws{a b c:Nat}(h:iW a b c w)(i:a<=1000)(g:b<=1000)(f:c<=1000):Ws w:=⟨xH h.k i,λl d=>xH (h.n l d) g,λl d r e=>xH (h.f l d r e) f⟩
def iW.le{a b c f e c':Nat}(h:iW a b c w)(k:a<=f)(j:b<=e)(i:c<=c'):iW f e c' w:=⟨xH h.k k,λl d=>xH (h.n l d) j,λl d r g=>xH (h.f l d r g) i,h.v⟩
def iW.kl{a b c:Nat}(h:iW a b c w)(k:Nat):(w.getD k []).length<=b/\∀r∈w.getD k [],r.length<=c:=by
 rw[List.getD_eq_getElem?_getD]
 cases e:w[k]? with
 |none=>exact⟨zW _,λr d=>by cases d⟩
 |some l=>exact⟨h.n l (zG e),λr d=>h.f l (zG e) r d⟩
def uH(x:ak)(w:Wd)(a:iW 12 12 52 w)(m:x.rules.length<=1000):(pf x w).length<=1000000:=by
 unfold pf
 cases d:dJ x with
 |cons p s=>simp
 |nil=>
  have l:=aM5 (Ft d).vld;simp only;unfold N1;split
  .have h:=a.k;have o:=fa (aF7 x w) w.length;have f:∀k,(l2 x w k).length<=12*1052:=λk=>by
    obtain⟨j,g⟩:=a.kl k;unfold l2;split
    .rename_i kd _;refine pz (λi=>?_) _ j;unfold dX;split
     .rename_i r b;have e:=fa (Sq x w k kd (w.getD k []) i r) r.length;have c:=fa (aY9 x k kd i r) x.rules.length;have:=g r (zG b);rw[zI];omega
     .simp
    .simp
   have e:=pz f w.length h;have c:∀q,(pm x w q).length<=12*1:=λq=>by
    unfold pm;split
    .exact pz (aG6 x w _) _ (a.kl _).1
    .simp
   have n:=pz c _ l;rw[zI,zI];omega
  .simp
def Cp.le{P:Program}{g:FuncId}{args a:List D}{σ:ae}{K:D->Prop}{d:D}(l:gH args a)(h:APure P g a d)(k:W (K d)):Cp P g args σ K:=⟨d,iK.le l h,k.h⟩
def I0(a b:Nat×ax)(s:ae):(s++[a,b]).Perm (b::(s++[a])):=by
 rw[show s++[a,b]=(s++[a])++[b] by simp];exact yT (l₂:=[b])
variable{A B:Prop}
def kC(k:B)(h:ar B->A:=by intro q7;(first|refine Hu ?_|(with_reducible refine Uz trivial ?_)|(with_reducible refine Br.t (wP _) ?_)|refine Hv ?_|((with_reducible refine Sd.go ?qs7 ?_);(case qs7=>first|trivial|(constructor<;>omega)|omega|assumption|((try simp only[zL,zR,zI,List.length_cons,List.length_nil,zY,Nat.reduceAdd]at *);first|(constructor<;>omega)|omega)))|refine sN ?_|refine Gl ?_|refine AP ?_);exact q7.1):A:=h ⟨k⟩
def Bq(k:B)(h:ar B->A:=by intro q7;(first|refine kC ?_|refine aE ?_|(refine' aj ?hc ?_;(case hc=>fail)));exact q7.1):A:=h ⟨k⟩
def td(k:B)(h:ar B->A:=by intro q7;(first|refine kC ?_|refine zw ?_|(refine' aj ?hc ?_;(case hc=>fail)));exact q7.1):A:=h ⟨k⟩
def L0(k:B)(h:ar B->A:=by intro q7;(first|refine kC ?_|refine zw ?_|(refine' aj ?hc ?_;(case hc=>exact HL)));exact q7.1):A:=h ⟨k⟩
def To(k:B)(h:ar B->A:=by intro q7;(first|refine kC ?_|refine aE ?_|(refine' aj ?hc ?_;(case hc=>first|exact H1|exact H2|exact H3|exact H4)));exact q7.1):A:=h ⟨k⟩
def LZ(k:B)(h:ar B->A:=by intro q7;(first|refine kC ?_|refine aE ?_|(refine' aj ?hc ?_;(case hc=>first|exact H3|exact H4)));exact q7.1):A:=h ⟨k⟩
def Tm(k:B)(h:ar B->A:=by intro q7;(first|refine kC ?_|refine aE ?_|(refine' aj ?hc ?_;(case hc=>exact HL)));exact q7.1):A:=h ⟨k⟩
def l20_checks(l m:List Int)(at_ n r:Int)(t:List Int)(hl:eH l)(hm:eH m)(K:dP at_)(f:dP n)(J:dP r)(E:eH t):APure prog 3 [bv l,bv m,iD at_,iD n,iD r,bv t] (bD true):=by
 refine ap func3 ntmps3 λBB=>?_
 repeat' first|refine Bq ?_|intro b;conv=>whnf
 refine CE.some (bH.of_call ((qM l hl).imp λd σ⟨x,e,_,h⟩=>⟨x,e,h⟩):bH prog 7 [bv l] (λd=>∃x,d=aw x/\cg x)) ?_;rintro _ ⟨x,rfl,a⟩;have hp:=a.probs0;have hnk:=a.nk;have HV:=aP5 x a.cls.good;have HR:=bh7 x a.cls.good;have HC:=bh3 x HR;rw[hp]at HC;have X:∀k∈x.kz,k.fields.length<=50:=λk Y=>by have:=(a.ks.ck a.nk.2 k Y).ck.nf;omega
 repeat' first|refine Bq ?_|intro b;conv=>whnf
 obtain⟨bx,rfl⟩:∃bx,bx=b:=⟨_,rfl⟩
 refine bu (s:=[]) (B9 x a HC m hm) (zH ([]++_)) (λu=>u++_) (λu=>zH _) ?_;rintro _ _ ⟨p,w,is,rfl,rfl,hw,-⟩
 repeat' first|refine Bq ?_|intro b;conv=>whnf
 refine bu (s:=[]) (od w hw.sz (by decide) (by decide) (by decide) (by decide) at_ n r K f J) (zH ([]++_)) (λu=>u++_) (λu=>zH _) ?_;rintro _ s1 ⟨w1,rfl,Q⟩
 repeat' first|refine td ?_|intro b;conv=>whnf
 (refine Dr.r ?_;refine W.mk ?_)
 obtain⟨bp,rfl⟩:∃c,c=b:=⟨_,rfl⟩
 refine pW (i:=13) (d':=.ro (du x)) (τ:=s1++[(bp,.cells 31 (CJ p))]) rfl (λh=>by cases h) (Vs.ptr (tb:=27) (cs:=du x) (b:=bx) (by exact I0 _ _ _)) ?_;refine iG mixed ai rfl [0,1,2,3,4,5,6,8,9,11,12] 5 (hQ [7,10,13]) (.one 7 (.one 10 (.one 13 (.fst 14 (.fst 15 .done))))) (γ:=List Wd) (λg=>[(18,.sl 1 (g.map (λw=>[fI w])++[[.v (.slice none 0 0)]]))]) (λ_=>[]) (λg=>g.length=5/\∀w∈g,iW 12 12 52 w) (by decide +kernel) ?_ ?_
 .repeat' first|refine td ?_|intro b;conv=>whnf|(refine And.intro ?_ ?_<;>(conv=>whnf))|(refine Sd.go ⟨by decide,(Aj f 6 (by decide)).1,(Aj f 6 (by decide)).2⟩ ?_)|(refine CE.some (wy x (by omega) X t E) ?_;(rintro _ ⟨w3,rfl,hw3⟩))|(refine CE.some (qE x (by omega) X t E) ?_;(rintro _ ⟨w4,rfl,hw4⟩))|(refine bu (s:=[]) (od w1 Q (by decide) (by decide) (by decide) (by decide) r (n.tdiv 6) at_ J (Aj f 6 (by decide)) K) (zH ([]++_)) (λu=>u++_) (λu=>zH _) ?_;(rintro _ s2 ⟨w2,rfl,hw2⟩))|fail
  exact⟨[w,w1,w2,w3,w4],(ah aJ),Sc.sl (yV _),⟨rfl,λz P=>by
   simp only[zU,yF,xE]at P;rcases P with rfl|rfl|rfl|rfl|rfl
   .exact hw.sz.le (by decide) (by decide) (by decide)
   .exact Q.le (by decide) (by decide) (by decide)
   .exact hw2
   .exact hw3.sz.le (by decide) (by decide) (by decide)
   .exact hw4.sz.le (by decide) (by decide) (by decide)⟩⟩
 rintro G ⟨Z,hG⟩;simp only at Z hG⊢
 repeat' first|refine td ?_|intro b;conv=>whnf
 (refine Dr.r ?_;refine W.mk ?_)
 refine iG mixed ai rfl [0,1,2,3,4] 3 (hQ [5]) (.one 5 (.fst 6 (.fst 7 .done))) (γ:=ak) (λy=>[(19,.sl 4 [du x,du y])]) (λ_=>[]) (λy=>RD y) (by decide +kernel) ?_ ?_
 .repeat' first|refine td ?_|intro b;conv=>whnf|(refine And.intro ?_ ?_<;>(conv=>whnf))|(refine CE.some (qK x a.cls at_ n r K f J) ?_;(rintro _ ⟨y,rfl,hy⟩))|fail
  exact⟨y,(ah aJ),Sc.refl _,hy⟩
 intro y hy;have HVy:=aP5 y hy.good;have HRy:=bh7 y hy.good;have HL:=Hl;have T:y.kz.length<=1000000:=by have:=hy.nk;omega
 have U:=λk Y=>(hy.good.sm.kz k Y).nfields;have V:=λk Y=>(a.cls.good.sm.kz k Y).nfields;have S:x.rules.length<=1000:=by have:=a.cls.nr;omega
 have R:y.rules.length<=1000:=by have:=hy.nr;omega
 repeat' first|refine L0 ?_|intro b;conv=>whnf
 refine aO mixed ai (γ:=Nat) (λi=>[(20,iD i)]) (λ_=>[]) (λi=>i<=6) (λi=>6-i) 0 (ah aJ) (Sc.refl _) (zW _) ?_;rintro i hi;by_cases hi6:i<6
 .have hGi:(∃w,(G.map (λw=>[fI w])++[[D.v (.slice none 0 0)]])[((i:Nat):Int).toNat]?=some [fI w]/\iW 12 12 52 w)\/(G.map (λw=>[fI w])++[[D.v (.slice none 0 0)]])[((i:Nat):Int).toNat]?=some [.v (.slice none 0 0)]:=by
   rw[Int.toNat_natCast];by_cases h5:i<5
   .refine .inl ⟨G[i]'(by omega),?_,hG _ (wE _)⟩;rw[yP (by rw[zL];omega),qA,zD (by omega)];rfl
   .obtain rfl:i=5:=by omega
    exact .inr (by rw[yK (by rw[zL];omega),zL,Z];rfl)
  repeat' first|refine L0 ?_|intro b;conv=>whnf
  refine aO mixed ai (γ:=Nat) (λj=>[(21,iD j)]) (λ_=>[]) (λj=>j<=2) (λj=>2-j) 0 (ah aJ) (Sc.refl _) (zW _) ?_;rintro j hj;by_cases hj2:j<2
  .obtain⟨z,P,HV2,HR2,M,O,L⟩:∃z,[du x,du y][((j:Nat):Int).toNat]?=some (du z)/\APure prog 108 [aw z] (iD (fD z))/\APure prog 83 [aw z] (iD (fD z))/\z.kz.length<=1000000/\(∀k∈z.kz,k.fields.length<=1000000)/\z.rules.length<=1000:=by
    rcases(by omega:j=0\/j=1)with rfl|rfl
    .exact⟨x,rfl,HV,HR,by omega,V,S⟩
    .exact⟨y,rfl,HVy,HRy,T,U,R⟩
   rcases hGi with⟨wi,I,F⟩|I
   .have q:=uH z wi F L;have H1:=Fh z HV2 wi (F.ws (by decide) (by decide) (by decide));have H2:=bg5 z HR2 wi (F.ws (by decide) (by decide) (by decide)) M O;have H3:=aY0 _ q;have H4:=aN0 _ q;generalize pf z wi=C at *
    repeat' first|refine To ?_|intro b;conv=>whnf|(refine Ix.at I (by omega) ?_)|(refine Ix.at P (by omega) ?_)|fail
    exact⟨j+1,(ah aJ),Sc.refl _,by omega,by omega⟩
   .have o:iW 12 12 52 []:=⟨by simp,by simp,by simp,by simp⟩
    have q:=uH z [] o L;have H1:=Fh z HV2 [] (o.ws (by decide) (by decide) (by decide));have H2:=bg5 z HR2 [] (o.ws (by decide) (by decide) (by decide)) M O;have H3:=aY0 _ q;have H4:=aN0 _ q;generalize pf z []=C at *
    repeat' first|refine LZ ?_|intro b;conv=>whnf|(refine Ix.at I (by omega) ?_)|(refine Ix.at P (by omega) ?_)|(refine Cp.le (.cons (Le.refl _) (.cons (gC _) .nil)) H1 ?_)|(refine Cp.le (.cons (Le.refl _) (.cons (gC _) .nil)) H2 ?_)|fail
    exact⟨j+1,(ah aJ),Sc.refl _,by omega,by omega⟩
  .obtain rfl:j=2:=by omega
   repeat' first|refine LZ ?_|intro b;conv=>whnf
   exact⟨i+1,(ah aJ),Sc.refl _,by omega,by omega⟩
 .obtain rfl:i=6:=by omega
  repeat' first|refine Tm ?_|intro b;conv=>whnf
  exact Rt.pure rfl
end
section
open Go Go.Maps Go.MapKept Go.WideElems Go.ChangeShapes Go.WideShapes
set_option maxRecDepth 100000
abbrev laidL:List (String×DataW Unit):=[("diorama/dioramaref02.constants",Rows.laid_diorama_dioramaref02_constants),("math/bits.deBruijn32tab",Rows.laid_math_bits_deBruijn32tab),("math/bits.deBruijn64tab",Rows.laid_math_bits_deBruijn64tab),("internal/strconv.uint64pow10",Rows.laid_internal_strconv_uint64pow10),("diorama/schema.words",Rows.laid_diorama_schema_words),("diorama/typing.checks",Rows.laid_diorama_typing_checks)]
def QB:prog.cellsOf 9=1:=by kernel_rfl
def at2:prog.cellsOf 367=1:=by kernel_rfl
def bi3:prog.cellsOf 379=20:=by kernel_rfl
def bk3:prog.cellsOf 212=1:=by kernel_rfl
def bi5:prog.cellsOf 213=1:=by kernel_rfl
def YC:prog.globalNamed "internal/strconv.uint64pow10" =some 3:=by kernel_rfl
def uh:prog.globalNamed "diorama/schema.words" =some 1:=by kernel_rfl
def YD:prog.globalNamed "diorama/typing.checks" =some 0:=by kernel_rfl
def S3:(prog.globals[3]?).map (·.type)=some 379:=by kernel_rfl
def H9:(prog.globals[1]?).map (·.type)=some 346:=by kernel_rfl
def S4:(prog.globals[0]?).map (·.type)=some 215:=by kernel_rfl
def CI:(Rows.laid_internal_strconv_uint64pow10:DataW Unit)=Lib.tabData .u64 Lib.pow10Tab:=by rfl
variable{d:DataW Unit}
def aA6{W:World}(h:laidMetH prog laidL W){n:String}(m:(n,d)∈laidL.filter λx=>x.2.handleName?.isNone):Lib.VarReads prog W n d:=Lib.laidMet.reads (laidMetH_iff.1 h).1 m
def C6:(Rows.laid_internal_strconv_uint64pow10:DataW Unit).handleName?.isNone=true:=rfl
def rp:(Rows.laid_diorama_schema_words:DataW Unit).handleName?.isNone=true:=rfl
def DZ{W:World}(h:laidMetH prog laidL W):lv W:=by
 obtain⟨g,t,s,f,p,c,b,v,a⟩:=aA6 h (n:= "internal/strconv.uint64pow10") (d:=Rows.laid_internal_strconv_uint64pow10) (vP.2 ⟨by simp[laidL],C6⟩)
 obtain rfl:=wK (YC.symm.trans c);obtain rfl:=wK (S3.symm.trans b);rw[CI]at a;unfold lv Lib.TabIs;rw[v,←Lib.cells_of_tab underlying379 underlying367 at2 bi3 a]
def rE{W:World}(h:laidMetH prog laidL W):mN W:=by
 obtain⟨g,t,H,u,p,B,z,w,C⟩:=aA6 h (n:= "diorama/schema.words") (d:=Rows.laid_diorama_schema_words) (vP.2 ⟨by simp[laidL],rp⟩)
 obtain rfl:=wK (uh.symm.trans B);obtain rfl:=wK (H9.symm.trans z);obtain⟨x,I,rfl,e,q,A,l⟩:=DataW.trod_array underlying346 C;intro i s j;have f:i<9:=(zE.1 j).1;have E:=l i f;obtain⟨y,o⟩:∃y,x[i]?=some y:=⟨x[i]'(by omega),zD (by omega)⟩
 rw[o,QB]at E;obtain⟨c,G,F,_⟩:=DataW.trod_string underlying9 E;have r:=World.var?_cell uh w i;have D:H[i]?=some (.string c):=by
  have:=zM (·[0]?) G
  simpa [yX,xR]using this
 rw[D]at r;rw[r];have m:(x.map (·.1))[i]?=some (.lit (.string c.data.toList)):=by rw[qA,o,F];rfl
 have v:=zM Prod.fst e;simp only[Rows.laid_diorama_schema_words,DataW.agg.injEq]at v;rw[←v]at m;have k:c.data.toList=s.data.toList:=by
  have:i=0\/i=1\/i=2\/i=3\/i=4\/i=5\/i=6\/i=7\/i=8:=by omega
  rcases this with rfl|rfl|rfl|rfl|rfl|rfl|rfl|rfl|rfl<;>(simp at j m;subst j;rw[←m])
 have:c=s:=by
  obtain⟨a⟩:=c;obtain⟨b⟩:=s
  congr 1
  exact Array.toList_inj.1 k
 rw[this]
abbrev oB(d:UInt8):List UInt8:=[100,105,111,114,97,109,97,47,116,121,112,105,110,103,46,99,104,101,99,107,115,36,d]
abbrev Ao:List (Lit×DataW (List UInt8)):=[(.int .i64 0,.agg [.held (oB 49)]),(.int .i64 1,.agg [.held (oB 50)]),(.int .i64 4,.agg [.held (oB 51)]),(.int .i64 5,.agg [.held (oB 52)]),(.int .i64 6,.agg [.held (oB 53)]),(.int .i64 7,.agg [.held (oB 54)]),(.int .i64 8,.agg [.held (oB 55)])]
def P7{W:World}{n:Nat}{v:Value}{z:DataW (List UInt8)×List MemPlace}{d:UInt8}{f0:FuncId}(h:elemAt (funcToken prog) prog W 0 (λ_=>true) true n 213 v=some z)(i:z.1= .agg [.held (oB d)])
  (b:((List.range prog.funcs.size).filter λf=>(prog.funcs[f]?).any (·.name.toUTF8.data.toList==oB d))=[f0]):v= .agg #[pd f0]:=by
 unfold elemAt at h;split at h
 .rename_i j;obtain⟨x,m,rfl,hx,p,q,k⟩:=DataW.trod_struct underlying213 h;rw[bi5]at p;have g:=k 0 _ rfl;obtain⟨y,o⟩:∃y,x[0]?=some y:=⟨x[0]'(by rw[q];decide),zD _⟩
  simp only[o,bk3,List.drop_zero]at g;rw[hx]at i;simp only[DataW.agg.injEq]at i;have a:y.1= .held (oB d):=by
   have:(x.map (·.1))[0]?=some y.1:=by rw[qA,o];rfl
   rw[i]at this
   simpa using this.symm
  match hc:v.cells.toList,p with
  |[c],_=>
   rw[hc]at g;simp only[List.getElem_toArray,List.getElem_cons_zero,List.drop_zero,bk3,List.take_succ_cons,List.take_zero]at g;obtain⟨t,r⟩:=y;simp only at a;subst a;have e:=func_of_trod underlying212 b g;subst e;unfold Value.formed at j;rw[underlying213]at j
   cases v with
   |agg s=>
    simp only[Value.cells]at hc;obtain⟨l⟩:=s;simp only at hc;rw[hc];rfl
   |_=>simp at j
 .cases h
def oI{W:World}(h:laidMetH prog laidL W):∃r,W.cell? ⟨0,0,none⟩=some (.map (some r))/\cb prog 3 W r 7 (sv iB):=by
 obtain⟨g,t,M,u,p,G,I,H,K⟩:=h.funcs (n:= "diorama/typing.checks") (by unfold laidL Rows.laid_diorama_typing_checks;simp only[zU];exact .inr (.inr (.inr (.inr (.inr (.inl rfl))))))
 obtain rfl:=wK (YD.symm.trans G);obtain rfl:=wK (S4.symm.trans I);have C:DataW.trod (funcToken prog) prog W 0 (λ_=>true) true u 215 M.toList=some (.map Ao,p):=K;rcases open_map underlying215 C with⟨_,hx⟩|⟨N,s,c,m,rfl,D,L,_,F,hx⟩
 .simp at hx
 simp only[vY,DataW.map.injEq]at hx;have B:=hx.1 ▸ sorted_perm (s.toList.map (rg prog 3 (elemAt (funcToken prog) prog W 0 (λ_=>true) true m 213)));have l:=World.var?_cell G H 0;rw[Array.eq_one_of_toList D]at l;have J:s.size=7:=by have:=B.length_eq;simpa using this.symm
 have one:∀e∈s.toList,sv iB e.key=some e.val:=λe b=>by
  obtain⟨y,f⟩:=F.reads e b;have i:y∈Ao:=B.mem_iff.2 (xM.2 ⟨e,b,rg_of f⟩);have k:=rd_key f;obtain⟨z,A,x⟩:=rd_val f;obtain⟨q,j,w,_⟩:=keyOf_int_inv underlying3 k;simp only[Ao,zU,yF,xE]at i;rcases i with rfl|rfl|rfl|rfl|rfl|rfl|rfl<;>(cases w;rw[j,P7 A x.symm (by kernel_rfl)];rfl)
 refine⟨N,by simpa using l,s,c,L,⟨by omega,F.stamped,F.keys,one,λo v a=>?_⟩⟩;have back:∀(n:Int)d,(Lit.int .i64 n,d)∈Ao->∃e∈s.toList,e.key= .int .i64 n:=λn d i=>by
  obtain⟨e,b,E⟩:=xM.1 (B.mem_iff.1 i);obtain⟨y,f⟩:=F.reads e b;rw[rg_of f]at E;have k:=rd_key f;rw[E]at k;obtain⟨q,j,w,_⟩:=keyOf_int_inv underlying3 k;simp only at w
  cases w
  exact⟨e,b,j⟩
 have fin:∀(n:Int)d,(Lit.int .i64 n,d)∈Ao->o= .int .i64 n->∃e∈s.toList,e.key=o/\e.val=v:=λn d i k=>by
  obtain⟨e,b,j⟩:=back n d i;have:=one e b;rw[j,←k,a]at this;exact⟨e,b,by rw[j,k],(wK this).symm⟩
 unfold sv iB at a;split at a
 .exact fin 0 (.agg [.held (oB 49)]) (by simp[Ao]) rfl
 .exact fin 1 (.agg [.held (oB 50)]) (by simp[Ao]) rfl
 .exact fin 4 (.agg [.held (oB 51)]) (by simp[Ao]) rfl
 .exact fin 5 (.agg [.held (oB 52)]) (by simp[Ao]) rfl
 .exact fin 6 (.agg [.held (oB 53)]) (by simp[Ao]) rfl
 .exact fin 7 (.agg [.held (oB 54)]) (by simp[Ao]) rfl
 .exact fin 8 (.agg [.held (oB 55)]) (by simp[Ao]) rfl
 .cases a
def Ov{W:World}{n:String}{g:Nat}{cs:Array Value}(a:prog.globalNamed n=some g)(h:W.var? prog n=some cs):g<W.heap.size:=by
 unfold World.var? at h;rw[a]at h;simp only[Option.bind_some]at h
 cases b:W.heap[g]? with
 |none=>rw[b]at h;simp at h
 |some o=>exact(zX.1 b).1
def bi2:prog.cellsOf 372=1:=by kernel_rfl
def bi4:prog.cellsOf 375=64:=by kernel_rfl
def OD{W:World}{n:String}{f:Nat}(o:d=Lib.tabData .u32 (eU.map λn:Nat=>(n:Int)))(c:prog.globalNamed n=some f)(b:(prog.globals[f]?).map (·.type)=some 375)(h:Lib.VarReads prog W n d):Ga f W:=by
 obtain⟨g,t,s,l,p,j,k,v,a⟩:=h;obtain rfl:=wK (c.symm.trans j);obtain rfl:=wK (b.symm.trans k);rw[o]at a;have e:=Lib.cells_of_tab underlying375 underlying372 bi2 bi4 a;intro i n m;have q:=World.var?_cell j v i;rw[q,←Array.getElem?_toList,e,qA,qA,m]
 rfl
def qx:(Rows.laid_diorama_dioramaref02_constants:DataW Unit)=Lib.tabData .u32 (eU.map λn:Nat=>(n:Int)):=by kernel_rfl
def rq:(Rows.laid_diorama_dioramaref02_constants:DataW Unit).handleName?.isNone=true:=rfl
def JQ{W:World}(h:laidMetH prog laidL W):Ga 2 W:=
 OD (n:= "diorama/dioramaref02.constants") qx (by kernel_rfl) (by kernel_rfl) (aA6 h (vP.2 ⟨by simp[laidL],rq⟩))
def D1{W:World}(h:laidMetH prog laidL W):sF W (λ_=>False):=by
 obtain⟨g,t,s,f,p,b,i,v,j⟩:=aA6 h (n:= "math/bits.deBruijn64tab") (d:=Rows.laid_math_bits_deBruijn64tab) (vP.2 ⟨by simp[laidL],rfl⟩)
 have a:=Ov b v;obtain rfl:=wK ((show prog.globalNamed "math/bits.deBruijn64tab" =some 5 by kernel_rfl).symm.trans b)
 obtain⟨r,e,c⟩:=oI h;exact⟨λ_ h=>h.elim,a,λ_ _ h=>h,DZ h,rE h,⟨r,e,λh=>h,c⟩,JQ h⟩
end
section
open Go Go.ChangeShapes Go.WideShapes Go.ChangeAt Go.RowKit
set_option maxRecDepth 100000
def NF:prog.cellsOf 3=1:=by kernel_rfl
def bi7:prog.bytesOf 3=8:=by kernel_rfl
inductive pR:TypeId->D->Prop
 |int (n:Int) (h:dP n):pR 3 (iD n)
 |ints (l:List Int) (h:eH l):pR 22 (bv l)
inductive ArgsD:List TypeId->List D->Prop
 |nil:ArgsD [] []
 |cons {t:TypeId} {d:D} {ts:List TypeId} {ds:List D} (h:pR t d) (k:ArgsD ts ds):ArgsD (t::ts) (d::ds)
variable{d:D}
def pR.int_inv(h:pR 3 d):∃n,dP n/\d=iD n:=by
 generalize a:3=q at h
 cases h with
 |int n h=>exact⟨n,h,rfl⟩
 |ints l h=>exact absurd a (by decide)
def pR.ints_inv(h:pR 22 d):∃l,eH l/\d=bv l:=by
 generalize a:22=q at h
 cases h with
 |int n h=>exact absurd a (by decide)
 |ints l h=>exact⟨l,h,rfl⟩
def ArgsD.nil_inv{d:List D}(h:ArgsD [] d):d=[]:=by cases h;rfl
variable{ts:List TypeId}{s:List D}
def ArgsD.int_inv(h:ArgsD (3::ts) s):∃n d,dP n/\s=iD n::d/\ArgsD ts d:=by
 cases h with
 |cons h k=>obtain⟨n,a,rfl⟩:=h.int_inv;exact⟨n,_,a,rfl,k⟩
def ArgsD.ints_inv(h:ArgsD (22::ts) s):∃l d,eH l/\s=bv l::d/\ArgsD ts d:=by
 cases h with
 |cons h k=>obtain⟨n,a,rfl⟩:=h.ints_inv;exact⟨n,_,a,rfl,k⟩
def Ef{n:Int}(h:(Lit.int .i64 n).wf=true):dP n:=by
 simp only[Lit.wf,zJ,zQ]at h;exact⟨h.1,h.2⟩
section
variable {H:Type} {enc:TypeId×Value->H} {W:World}
def FE{t:TypeId}{v:Value}{d:DataW H}{ps:List MemPlace}{q:Nat}(Q:t=3\/t=22)(L:Value.okWide prog W .any q t v)
  (h:DataW.Trod enc prog W 0 (λ_=>true) true t v d ps) (P:∀n∈d.weights prog t,n<=reachBytes) :
  (∃x,pR t x/\Rd W (λ_=>False) x v)/\∀r,Ex W r->∀sp:Nat->Bool,(∀p∈ps,sp p.block=true)->DataW.Trod enc prog r 0 sp true t v d ps:=by
 rcases Q with rfl|rfl
 .obtain⟨n,rfl,rfl,rfl,c⟩:=open_int underlying3 L h;exact⟨⟨_,.int n (Ef c),.v _⟩,λr _ sp _=>shut_int underlying3 c⟩
 .obtain⟨a,len,e,rfl⟩:=okWide_slice underlying22 L;obtain⟨N,T⟩:=h;rcases open_ints underlying22 underlying3 NF T with⟨o,V⟩|⟨f,K,O,z,o,U,C,S,w,hx,l,k⟩
  .simp only[Value.cells,List.cons.injEq,Value.slice.injEq,and_true]at o;obtain⟨rfl,rfl,rfl⟩:=o
   cases V
   refine⟨⟨_,.ints [] ⟨by simp,by simp⟩,?_⟩,λr _ sp _=>⟨1,?_⟩⟩
   .exact .sl 1 [] none 0 (λ_ _=>undef) (zT _) (by simp) (by simp) (by simp)
   .rw[DataW.trod_step];unfold DataW.trodStep;simp only[underlying22,Value.cells]
  .simp only[Value.cells,List.cons.injEq,Value.slice.injEq,and_true]at o;obtain⟨rfl,rfl,rfl⟩:=o;simp only[if_true]at w
   cases hx
   have M:len<=17592186044416:=by
    have:=P ((len+(e-len))*8) (by
     unfold DataW.weights;rw[underlying22];simp only[zL,zR,List.length_drop,lits,bi7,w,vH C];exact yN)
    unfold reachBytes at this;omega
   refine⟨⟨_,.ints (z.take len) ⟨λn c=>Ef (k n (xG c)),by rw[zR];omega⟩,?_⟩,λr F sp B=>?_⟩
   .have I:∀(i:Nat)n,(z.take len)[i]?=some n->W.cell? (f.add i)=some (.int .i64 n):=λi n c=>by
     rw[yX]at c;split at c
     .have E:=(zE.1 c).1;rw[l i E];simp[List.getD_eq_getElem?_getD,c]
     .cases c
    have m:len=((z.take len).map λn=>[iD n]).length:=by rw[zL,zR];omega
    have:Rd W (λ_=>False) (.sl 1 ((z.take len).map λn=>[iD n])) (.slice (some f) ((z.take len).map λn=>[iD n]).length e):=by
     refine .sl 1 _ (some f) e (λi _=>.int .i64 ((z.take len).getD i 0)) (by rw[←m];exact C) (λy g=>by obtain⟨n,_,rfl⟩:=xM.1 g;rfl) (λi y g=>?_) (λi y g j d G=>?_)
     .rw[qA,xN]at g;obtain⟨n,c,rfl⟩:=g;have J:=I i n c;obtain⟨b,u,s⟩:=f;have R:s=none:=by
       have D:=(zE.1 c).1;rw[zR]at D;have:=World.cell?_spot (l 0 (by omega))
       simpa [Addr.add]using this
      subst R;refine⟨b,u,rfl,λh=>h,by have:=World.block_lt_of_cell? W _ J;simp only[Addr.add]at this;split at this<;>simpa using this,λj Y=>?_⟩;obtain rfl:j=0:=by omega
      rw[add_plain]at J;rw[Nat.mul_one,Nat.add_zero,J];simp[List.getD_eq_getElem?_getD,c]
     .rw[qA,xN]at g;obtain⟨n,c,rfl⟩:=g
      cases j with
      |succ j=>simp at G
      |zero=>
       simp at G;subst G;have:(z.take len).getD i 0=n:=by rw[List.getD_eq_getElem?_getD,c];rfl
       rw[this];exact .v _
    rw[←m]at this;exact this
   .have A:z.length=if sp f.block=true then e else len:=by
     rcases uA e with X|X
     .split<;>omega
     .rw[if_pos (show sp f.block=true from B (.cell f.block f.off) (MemPlace.mem_row.2 ⟨0,by omega,by simp⟩))];exact w
    exact⟨2,shut_ints 0 underlying22 underlying3 NF U C S A (λi E=>F.cell (l i E)) k⟩
def li{f:Nat}:∀{s:List TypeId}{vs:List Value}{e:List (DataW H)}{a:List MemPlace},(∀t∈s,t=3\/t=22)->(∀(j:Nat)t v,s[j]?=some t->vs[j]?=some v->Value.okWide prog W .any f t v) ->
  DataW.TrodAll enc prog W 0 (λ_=>true) true s vs e a->(∀n∈DataW.weightsEach prog s e,n<=reachBytes) ->
  (∃i,ArgsD s i/\bj W (λ_=>False) i vs)/\(∀g,Ex W g->∀sp:Nat->Bool,(∀p∈a,sp p.block=true)->DataW.TrodAll enc prog g 0 sp true s vs e a)
 |[],vs,e,a,_,_,h,_=>by
  obtain⟨rfl,rfl,rfl⟩:=trodAll_nil h;exact⟨⟨[],.nil,.nil⟩,λ_ _ _ _=>trodAll_mk0⟩
 |t::s,vs,e,a,r,q,h,w=>by
  obtain⟨z,y,d0,d,M,L,rfl,rfl,rfl,G,A⟩:=trodAll_cons h;have k:DataW.weightsEach prog (t::s) (d0::d)=d0.weights prog t++DataW.weightsEach prog s d:=rfl;rw[k]at w;obtain⟨⟨x,D,C⟩,B⟩:=FE (r t (by simp)) (q 0 t z rfl rfl) G (λn o=>w n (xK _ o));obtain⟨⟨i,K,J⟩,I⟩:=li (λu E=>r u (by simp[E])) (λj u v F l=>q (j+1) u v (by simpa using F) (by simpa using l)) A (λn o=>w n (yW _ o));exact⟨⟨x::i,.cons D K,.cons C J⟩,λg c sp b=>trodAll_cons_mk (B g c sp (λp m=>b p (xK _ m))) (I g c sp (λp m=>b p (yW _ m)))⟩
def JR{a:World}(h:Ex W a)(may:MemPlace->Prop):W.keptBut a may:=by
 refine World.keptBut_mono (may:=λ_=>False) (λ_ f=>f.elim) (World.keptBut.congr (World.keptBut_refl W _) ?_ ?_ (λi b=>h.block i b))
 .exact ba.os h
 .exact ba.output h
def law_contract{f:FuncId}{c:Func}{s:ChangeSpec}(K:∀t∈c.params.toList,t=3\/t=22)(a:s.vars=[])(k:c.resultTypes= #[4])
  (hs:∀d:List (DataW H),d.length=c.params.size->s.fn H d={ results:=[.lit (.bool true)],args:=d }) (hP:∀G,ArgsD c.params.toList G->APure prog f G (bD true))
  (F:Nat) (args:Array Value) (d R:List (DataW H)) (g:List MemPlace)
  (y:∀(j:Nat)t v,c.params[j]?=some t->args[j]?=some v->Value.okWide prog W .any F t v)
  (P:DataW.Whole enc prog c.params.toList s.vars false W args.toList d R g)
  (z:(DataW.weightsEach prog (c.params.toList++s.plain.varTypes prog) (d++R)).all (·<=reachBytes)=true) (hL:laidMetH prog laidL W) :
  Calls prog f args W λe r=>∃v,e= .returned v/\s.post enc prog c false true false false W args v r:=by
 have o:=P;obtain⟨p,q,Q,V,rfl,M,hnd⟩:=P;rw[a]at V;obtain⟨rfl,rfl⟩:=trodVars_none V;have N:d.length=c.params.size:=by have:=(trodAll_length Q).2;simpa using this
 have X:∀n∈DataW.weightsEach prog c.params.toList d,n<=reachBytes:=λn hn=>by
  have I:s.plain.varTypes prog=[]:=by simp[DataSpec.varTypes,ChangeSpec.plain,a]
  rw[I,zZ,zZ]at z;exact wY (yA.1 z n hn)
 obtain⟨⟨G,U,T⟩,S⟩:=li K (λj t v hj Y=>y j t v (by simpa using hj) (by simpa using Y)) Q X;have i:=(hP G U).run W (λ_=>False) args.toList T (D1 hL);rw[Array.toArray_toList]at i;refine i.mono λe r⟨u,he,Z,m⟩=>?_;have J:=Z.val rfl;subst J;refine⟨_,he,?_⟩;have l:=hs d N;have C:∀x∈p,(λb=>decide (b<W.heap.size)) x.block=true:=λx hx=>by have:=o.lt x (by simpa using hx);simpa using this
 have A:∀(b:Nat)(sp:Nat->Bool)(O:Bool),DataW.TrodAll enc prog r b sp O c.resultTypes.toList ((Value.bool true).resultList c.resultTypes.size) (s.fn H (d++[])).results []:=λb sp O=>by
  rw[zZ,l,k];exact trodAll_cons_mk (shut_bool underlying4 _) trodAll_mk0
 have E:∀sp:Nat->Bool,(∀x∈p,sp x.block=true)->DataW.TrodAll enc prog r 0 sp true c.params.toList args.toList (s.fn H (d++[])).args p:=λsp L=>by
  rw[zZ,l];exact S r m _ L
 have D:∀sp:Nat->Bool,DataW.TrodVars enc prog r sp s.vars (s.fn H (d++[])).vars []:=λsp=>by
  rw[a,zZ,l];rfl
 refine⟨d,[],p++[],[],p,[],o,A _ _ _,E _ C,D _,JR m _,λ_=>?_⟩
 .refine⟨ok_one k rfl (okWide_bool_mk underlying4 _),_,_,([]++p)++[],⟨[]++p,[],trodAll_append (E _ (λ_ _=>rfl)) (A _ _ _),D _,rfl,?_,λh=>by cases h⟩,λx hx _=>by simpa using hx⟩;intro b w hp;have B:MemPlace.cell b w∈p++[]:=by simpa using hp
  rw[m.frozen (o.lt _ B)];exact M b w B
end
def door_met(o:Os)(args:Array Value):laidMetH prog laidL ((World.doorLaid prog 76 o).forCall (λ_ _=>0) ⟨#[],args,[]⟩).memory:=
 laidMetH_of_parts3 (fuel:=8) (laidMet_of_run' 8 (by kernel_rfl) (by kernel_rfl)) (by kernel_rfl) (by kernel_rfl)
def own:ownKnob prog.godebug=none:=by kernel_rfl
end
end Go.Proofs.YtilnpcolgcmofaaGreatDoor
