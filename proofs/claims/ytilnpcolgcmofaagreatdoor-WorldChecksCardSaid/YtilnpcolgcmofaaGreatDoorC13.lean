/- A part of the proof. -/
import Derived.Test.YtilnpcolgcmofaaGreatDoorC12
set_option maxRecDepth 100000
set_option maxHeartbeats 20000000
set_option linter.all false
namespace Go.Proofs.YtilnpcolgcmofaaGreatDoor
open Tryz
section
open Go
variable{p:Prop}
def No(h:p:=by
 have hl:j.toNat<l.length:=by omega
 rw[qA,zD hl];simp[List.getD_eq_getElem?_getD,hl]):p:=h
variable{j:Int}
def Yx(l:List Int)(h:0<=j/\j<l.length):(l.map λz=>[iD z])[j.toNat]?=some [iD (l.getD j.toNat 0)]:=No
def GM(l:List ByteArray)(h:0<=j/\j<l.length)(e:ByteArray):(l.map λz=>[sD z])[j.toNat]?=some [sD (l.getD j.toNat e)]:=No
def hJ(l:List Int)(h:0<=j/\j<l.length):∃z∈l,(l.map λz=>[iD z])[j.toNat]?=some [iD z]:=by
 have a:j.toNat<l.length:=by omega
 exact⟨l[j.toNat],wE a,by rw[qA,zD a];rfl⟩
abbrev dU(b:Nat)(nm:ByteArray)(lo h:Int)(f:Value):Nat×ax:=(b,.cells 78 [sD nm,iD lo,iD h,.v f])
abbrev zK:List D:=[.v (zv ZV.str),.v (zv (ZV.int IntKind.i64)),.v (zv (ZV.int IntKind.i64)),.v (zv ZV.sl)]
structure KSt where
 pos:Int
 fv:Value
 rs:List (List D)
 sf:ae
 ks:List aq
 sk:ae
abbrev kS(b:Nat)(xs:List Int)(a c:Nat)(nm:ByteArray)(lo h:Int)(g:KSt):ae:=aF b xs g.pos::dU a nm lo h g.fv::(c,.cells 78 zK)::(g.sf++g.sk)
structure KI(a:Option Addr)(n c:Nat)(fs:List an)(g:KSt):Prop where
 row:ab 81 8 g.rs g.fv g.sf
 le:ec g.rs (fs.map aA)
 kr:ab 78 4 (g.ks.map aD) (.slice a n c) g.sk
 kl:g.ks.length=n
def CZ(l:List an):((l.map aA).all λy=>y.all cY)=true:=by rw[yA];intro y h;obtain⟨f,_,rfl⟩:=xM.1 h;rfl
def pB3{P:Program}{o:Oper}{ρ:Operand->D}{σ:ae}{b f k:Nat}{K:D->Prop}{tb:TypeId}{cs x:List D}(e:(b,ax.cells tb cs)∈σ)(hx:x.length=k)(g:0<k)(c:∀j,j<k->cs[f+j]?=x[j]?)(h:W (K (.agg x))):Ld P o ρ σ b f true k K:=by
 obtain⟨j,d⟩:=yO e;have l:f+k<=cs.length:=by
  have:=c (k-1) (by omega);rw[zD (by omega:k-1<x.length)]at this;have:=(zE.1 this).1;omega
 refine⟨.inl ⟨j,tb,cs,d,l,?_⟩⟩;have:(cs.drop f).take k=x:=by
  apply xY;intro i;rw[yX];split
  .rename_i a;rw[xR];exact c i a
  .rename_i a;rw[yY.2 (by omega)]
 rw[this];exact h.h
def gZ.name0{s k:List aq}{nm:ByteArray}{f1:List an}(h:gZ s nm f1 k){y:aq}(c:k[0]?=some y):∃z,s[0]?=some z/\z.name=y.name:=by
 cases h with
 |none h=>subst h;simp at c
 |of=>exact⟨y,c,rfl⟩
 |part t z l i a b sm d=>
  rw[xP]at c;split at c
  .rename_i e;subst e;split at c
   .cases c;exact⟨z,d,rfl⟩
   .cases c
  .exact⟨y,c,rfl⟩
def aM.two{f:List an}(h:aM f):f.length<=2:=by cases h<;>simp
def bs6{A B:Prop}(k:B)(h:ar B->A:=by intro q7;(first|fail|(with_reducible refine Bx.l ?_)|fail|((with_reducible refine Cb.go ?h ?_);(case h=>decide +kernel)));exact q7.1):A:=h ⟨k⟩
def aI{A B:Prop}(k:B)(h:ar B->A:=by intro q7;(first|refine bh ?_|refine bs6 ?_|(refine' aj ?hc ?_;(case hc=>fail)));exact q7.1):A:=h ⟨k⟩
def eE(h:p:=by first|exact Sc.sl (.cons_cons _ (.cons_cons _ (.cons_cons _ (yG _ _))))|exact Sc.perm (zH _)|exact Sc.perm (List.Perm.swap _ _ _)|exact Sc.perm (List.Perm.cons _ (List.Perm.swap _ _ _))|exact Sc.perm ((List.Perm.swap _ _ _).trans (List.Perm.cons _ (List.Perm.swap _ _ _)))|exact Sc.perm ((List.Perm.cons _ (List.Perm.swap _ _ _)).trans (List.Perm.swap _ _ _))):p:=h
def gT(h:p:=by(refine cV λa=>?_;simp only[dU,aF,List.append_eq,List.nil_append,cU,dn,de,sD,iD,bD];omega)):p:=h
def rR(h:p:=by(refine cV λa=>?_;simp only[dU,aF,List.append_eq,List.nil_append,cU,dn,de,sD,iD,bD];omega)):p:=h
def Qt(h:p:=by rw[show 0+((tw0:Nat):Int).toNat*4+3=tw0*4+3 by simp];exact hc3):p:=h
def bD5(h:p:=by first|exact zH _|(refine cV λa=>?_;simp only[dU,aF,List.append_eq,List.nil_append,cU,dn,de,sD,iD,bD];omega)):p:=h
def bD4(h:p:=by first|omega|(simp only[zI,zL,List.length_cons,List.length_nil];omega)):p:=h
def bD3(h:p:=by rw[show 0+((tw0:Nat):Int).toNat*4+3=tw0*4+3 by simp];exact(zE.1 hc3).1):p:=h
def cq0(h:p:=by
 rintro⟨p3,fv3,rs3,sf3,sm⟩ ⟨⟨hp3,hp3'⟩,hr4,hle4,hsm⟩;simp only at hp3 hp3' hr4 hle4 hsm⊢;have hsl:sm.length<=1:=by rcases hsm with rfl|⟨_,_,_,rfl⟩<;>simp
 repeat' first|refine aI ?_|intro b;conv=>whnf
 refine Ld.cellm (tb:=78) (cs:=cs2) (by simp) Qt ?_
 repeat' first|refine aI ?_|intro b;conv=>whnf
 refine CE.pure HT ?_;by_cases ht:ii y.fields pX<0
 .have h8:=ek xs p3 3;have h8':=h8.2 (by omega)
  repeat' first|refine aI ?_|intro b;conv=>whnf
  ((refine bu (eP xs hx bm _ _ ⟨by omega,by omega⟩) (zH ([aF bm xs _]++_)) (λs'=>s'++_) (λs'=>zH _) ?_);(rintro _ _ ⟨rfl,rfl⟩))
  repeat' first|refine aI ?_|intro b;conv=>whnf
  refine Bc.l ?_;by_cases hz8:aB xs p3 3=0
  .have h9:=ek xs (p3+1) 3;have h9':=h9.2 (by omega);have h10:=ek xs (p3+1+1) 8;have h10':=h10.2 (by omega);have hrl:rs3.length<=3:=by have:=hle4.len;simp at this;omega
   repeat' first|refine aI ?_|intro b;conv=>whnf
   ((refine bu (eP xs hx bm _ _ ⟨by omega,by omega⟩) (zH ([aF bm xs _]++_)) (λs'=>s'++_) (λs'=>zH _) ?_);(rintro _ _ ⟨rfl,rfl⟩))
   repeat' first|refine aI ?_|intro b;conv=>whnf
   refine gS ?_;refine iG mixed ai rfl [0,2,3,4] 8 (hQ [1,5,9,10,11]) (.two 1 (.one 5 (.fst 6 (.fst 7 (.fst 8 (.one 9 (.one 10 (.one 11 .done))))))) 5 (.fst 6 (.fst 7 (.fst 8 (.one 1 (.one 9 (.one 10 (.one 11 .done)))))))) (γ:=Value×ae) (λ_=>[]) (λg=>aF bm xs (p3+1+1+1)::dU b7 (bA ks.length) lo (lo+aB xs (pos+1) 5) g.1::(b4,.cells 78 zK)::(g.2++[(b2,.cells 78 cs2)])) (λg=>ab 81 8 (rs3++[bQ (fY (aB xs (p3+1) 3) (aB xs (p3+1+1) 8)) aU aU]) g.1 g.2) (by decide +kernel) ?_ ?_
   .repeat' first|refine aI ?_|intro b;conv=>whnf|(refine And.intro ?_ ?_<;>(conv=>whnf))|((refine bu (eP xs hx bm _ _ ⟨by omega,by omega⟩) (zH ([aF bm xs _]++_)) (λs'=>s'++_) (λs'=>zH _) ?_);(rintro _ _ ⟨rfl,rfl⟩))|((refine bu (eP xs hx bm _ _ ⟨by omega,by omega⟩) (show List.Perm (_::aF bm xs _::_) ([aF bm xs _]++(_::_)) from List.Perm.swap _ _ _) (λs'=>s'++(_::_)) (λs'=>zH _) ?_);(rintro _ _ ⟨rfl,rfl⟩))|(refine Ap.go rfl rfl rfl rfl hr4 (τ:=aF bm xs (p3+1+1+1)::dU b7 (bA ks.length) lo (lo+aB xs (pos+1) 5) fv3::(b4,.cells 78 zK)::[(b2,.cells 78 cs2)]) gT rfl (zs:=rs3++[bQ (fY (aB xs (p3+1) 3) (aB xs (p3+1+1) 8)) aU aU]) rfl (by simp;omega) (by simp;omega) (λs'=>aF bm xs (p3+1+1+1)::dU b7 (bA ks.length) lo (lo+aB xs (pos+1) 5) fv3::(b4,.cells 78 zK)::(s'++[(b2,.cells 78 cs2)])) (λs'=>rR) (λa6 c6 s6 hr6=>?_))
    all_goals exact⟨(_,s6),(ah aJ),eE,hr6⟩
   .rintro⟨fv6,sf6⟩ hr6;simp only at hr6⊢
    repeat' first|refine aI ?_|intro b;conv=>whnf
    refine gS ?_;refine iG mixed ai rfl [0,1,3,4,5,6,9] 10 (hQ [2,7,8,10,13,14,15,16]) (.three 2 (.two 7 (.two 8 (.one 10 (.fst 11 (.fst 12 (.one 13 (.one 14 (.one 15 (.one 16 .done))))))) 10 (.fst 11 (.fst 12 (.one 8 (.one 13 (.one 14 (.one 15 (.one 16 .done)))))))) 10 (.fst 11 (.fst 12 (.one 7 (.one 8 (.one 13 (.one 14 (.one 15 (.one 16 .done))))))))) 7 (.two 2 (.two 8 (.one 10 (.fst 11 (.fst 12 (.one 13 (.one 14 (.one 15 (.one 16 .done))))))) 10 (.fst 11 (.fst 12 (.one 8 (.one 13 (.one 14 (.one 15 (.one 16 .done)))))))) 10 (.fst 11 (.fst 12 (.one 2 (.one 8 (.one 13 (.one 14 (.one 15 (.one 16 .done))))))))) 10 (.fst 11 (.fst 12 (.two 2 (.one 7 (.one 8 (.one 13 (.one 14 (.one 15 (.one 16 .done)))))) 7 (.one 2 (.one 8 (.one 13 (.one 14 (.one 15 (.one 16 .done)))))))))) (γ:=Option Addr×Nat×ae) (λ_=>[]) (λg=>aF bm xs (p3+1+1+1)::dU b7 (bA ks.length) lo (lo+aB xs (pos+1) 5) fv6::(b4,.cells 78 zK)::(sf6++((b2,.cells 78 (cs2.set (tw0*4+3) (.v (.slice g.1 (y.fields.map aA++[bQ (br (bA ks.length)) aU aU]).length g.2.1))))::g.2.2))) (λg=>ab 81 8 (y.fields.map aA++[bQ (br (bA ks.length)) aU aU]) (.slice g.1 (y.fields.map aA++[bQ (br (bA ks.length)) aU aU]).length g.2.1) g.2.2) (by decide +kernel) ?_ ?_
    .repeat' first|refine aI ?_|intro b;conv=>whnf|(refine And.intro ?_ ?_<;>(conv=>whnf))|(refine Ld.cellm (tb:=78) (cs:=cs2) (by simp) Qt ?_)|(refine Ld.cellm (tb:=78) (cs:=[sD (bA ks.length),iD lo,iD (lo+aB xs (pos+1) 5),.v fv6]) (by simp) rfl ?_)|(refine Ap.go rfl rfl rfl rfl hr8 (τ:=aF bm xs (p3+1+1+1)::dU b7 (bA ks.length) lo (lo+aB xs (pos+1) 5) fv6::(b4,.cells 78 zK)::(sf6++[(b2,.cells 78 cs2)])) bD5 rfl (zs:=y.fields.map aA++[bQ (br (bA ks.length)) aU aU]) rfl (by simp only[zI,zL,List.length_cons,List.length_nil];omega) bD4 (λs'=>aF bm xs (p3+1+1+1)::dU b7 (bA ks.length) lo (lo+aB xs (pos+1) 5) fv6::(b4,.cells 78 zK)::(sf6++((b2,.cells 78 cs2)::s'))) (λs'=>rR) (λa9 c9 s9 hr9=>?_))|(refine Ap.go rfl rfl rfl rfl (ab.e0 81 8 (some ⟨b,0,none⟩)) (zH ([]++_)) (CZ y.fields) (zs:=y.fields.map aA) rfl (by rw[zL];omega) (by rw[zL];omega) (λs'=>s'++_) (λs'=>zH _) (λa8 c8 s8 hr8=>?_))|(refine Sv.cellm (tb:=78) (cs:=cs2) (cs':=cs2.set (tw0*4+3) (.v (.slice a9 (y.fields.map aA++[bQ (br (bA ks.length)) aU aU]).length c9))) (τ:=aF bm xs (p3+1+1+1)::dU b7 (bA ks.length) lo (lo+aB xs (pos+1) 5) fv6::(b4,.cells 78 zK)::(sf6++s9)) gT bD3 rfl (by rw[show 0+((tw0:Nat):Int).toNat*4+3=tw0*4+3 by simp]) ?_)
     all_goals exact⟨(a9,c9,s9),(ah aJ),Sc.perm gT,hr9⟩
    .rintro⟨a9,c9,s9⟩ hr9;simp only at hr9⊢;have hidx:=(zE.1 hc3).1;have hkr:=Mx (d:=mV (y.fields++[br (bA ks.length)])) hrow (show(ks.map aD)[tw0]?=some (aD y) by rw[qA,hy];rfl) (show 3<4 by omega);have hls:(ks.map aD).set tw0 ((aD y).set 3 (mV (y.fields++[br (bA ks.length)])))=(ks.set tw0 ⟨y.name,y.lo,y.hi,y.fields++[br (bA ks.length)]⟩).map aD:=by rw[wL];rfl
     rw[hls]at hkr;have le9:ec (y.fields.map aA++[bQ (br (bA ks.length)) aU aU]) ((y.fields++[br (bA ks.length)]).map aA):=by rw[yB];exact(ec.refl _).append (.cons (.cons (Le.refl _) (.cons (Le.refl _) (.cons (Le.refl _) (.cons (Le.refl _) (.cons (Le.refl _) (.cons (Le.refl _) (.cons (gC 1) (.cons (gC 1) .nil)))))))) .nil)
     have hfz:=Sc.frz (b:=b2) (t:=78) (τ:=aF bm xs (p3+1+1+1)::dU b7 (bA ks.length) lo (lo+aB xs (pos+1) 5) fv6::(b4,.cells 78 zK)::sf6) (xI (a:=D.v (.slice a9 (y.fields.map aA++[bQ (br (bA ks.length)) aU aU]).length c9)) hidx) hr9 le9;rw[List.set_set]at hfz;change Sc _ ((b2,.cells 78 (cs2.set (tw0*4+3) (mV (y.fields++[br (bA ks.length)]))))::_)at hfz;have hle6:ec (rs3++[bQ (fY (aB xs (p3+1) 3) (aB xs (p3+1+1) 8)) aU aU]) ((dm idl::iN y l9 hi::(sm++[fY (aB xs (p3+1) 3) (aB xs (p3+1+1) 8)])).map aA):=by
      have:=hle4.append (ec.cons (x:=bQ (fY (aB xs (p3+1) 3) (aB xs (p3+1+1) 8)) aU aU) (y:=aA (fY (aB xs (p3+1) 3) (aB xs (p3+1+1) 8))) (.cons (Le.refl _) (.cons (Le.refl _) (.cons (Le.refl _) (.cons (Le.refl _) (.cons (Le.refl _) (.cons (Le.refl _) (.cons (gC 1) (.cons (gC 1) .nil)))))))) .nil)
      simpa using this
     repeat' first|refine aI ?_|intro b;conv=>whnf
     exact⟨(⟨p3+1+1+1,fv6,_,sf6,ks.set tw0 ⟨y.name,y.lo,y.hi,y.fields++[br (bA ks.length)]⟩,[(b2,.cells 78 (cs2.set (tw0*4+3) (mV (y.fields++[br (bA ks.length)]))))]⟩,iN y l9 hi::(sm++[fY (aB xs (p3+1) 3) (aB xs (p3+1+1) 8)])),(ah aJ),(Sc.perm gT).trans (hfz.trans (Sc.perm gT)),⟨by simp only;omega,by simp only;omega⟩,⟨hr6,hle6,hkr,by simp⟩,gZ.part tw0 y l9 hi _ _ sm hy hl9 hhi hsm ht ⟨h9.1,h9'⟩ ⟨h10.1,h10'⟩,by simp;omega⟩
  .repeat' first|refine aI ?_|intro b;conv=>whnf
   exact⟨(⟨p3+1,fv3,rs3,sf3,ks,[(b2,.cells 78 cs2)]⟩,iN y l9 hi::sm),(ah aJ),eE,⟨by simp only;omega,by simp only;omega⟩,⟨hr4,hle4,hrow,rfl⟩,gZ.of tw0 y l9 hi sm hy hl9 hhi hsm,by simp;omega⟩
 .repeat' first|refine aI ?_|intro b;conv=>whnf
  refine Bc.l ?_
  repeat' first|refine aI ?_|intro b;conv=>whnf
  exact⟨(⟨p3,fv3,rs3,sf3,ks,[(b2,.cells 78 cs2)]⟩,iN y l9 hi::sm),(ah aJ),eE,⟨by simp only;omega,by simp only;omega⟩,⟨hr4,hle4,hrow,rfl⟩,gZ.of tw0 y l9 hi sm hy hl9 hhi hsm,by simp;omega⟩):p:=h
def cq2(h:p:=by
 rintro⟨p4,fv4,rs4,sf4,f2⟩ ⟨⟨hp4,hp4'⟩,hr4,hle4,hf2⟩;simp only at hp4 hp4' hr4 hle4 hf2⊢;have hl2:f2.length<=1:=by rcases hf2 with rfl|⟨_,_,_,rfl⟩<;>simp
 have hl4:rs4.length<=10:=by have:=hle4.len;simp at this;omega
 repeat' first|refine aI ?_|intro b;conv=>whnf
 refine bu (aF0 xs hx bm _ ⟨by omega,by omega⟩) (zH ([aF bm xs _]++_)) (λs'=>s'++_) (λs'=>zH _) ?_;rintro _ _ ⟨p5,fs1,⟨hp5,hp5'⟩,rfl,rfl,hP1⟩;have hn1:=hP1.two
 repeat' first|refine aI ?_|intro b;conv=>whnf
 refine Ap.go rfl rfl rfl rfl hr4 (τ:=aF bm xs p5::dU b7 (bA ks.length) lo (lo+aB xs (pos+1) 5) fv4::(b4,.cells 78 zK)::sk1) gT (CZ fs1) (zs:=rs4++fs1.map aA) rfl (by rw[zI,zL];omega) (by rw[zI,zL];omega) (λs'=>aF bm xs p5::dU b7 (bA ks.length) lo (lo+aB xs (pos+1) 5) fv4::(b4,.cells 78 zK)::(s'++sk1)) (λs'=>rR) (λa14 c14 s14 hr14=>?_);have le14:ec (rs4++fs1.map aA) ((dm idl::(f1++(f2++fs1))).map aA):=by
  have:=hle4.append (ec.refl (fs1.map aA))
  simpa using this
 have hl14:(rs4++fs1.map aA).length<=12:=by rw[zI,zL];omega
 have h15:=ek xs p5 2
 repeat' first|refine aI ?_|intro b;conv=>whnf
 ((refine bu (eP xs hx bm _ _ ⟨by omega,by omega⟩) (zH ([aF bm xs _]++_)) (λs'=>s'++_) (λs'=>zH _) ?_);(rintro _ _ ⟨rfl,rfl⟩))
 generalize rs4++fs1.map aA=rs14 at *
 repeat' first|refine aI ?_|intro b;conv=>whnf
 refine Bc.j ?_;refine KH mixed ai (γ:=Int×Value×List (List D)×ae×List an) (λ_=>[]) (λg=>aF bm xs g.1::dU b7 (bA ks.length) lo (lo+aB xs (pos+1) 5) g.2.1::(b4,.cells 78 zK)::(g.2.2.2.1++sk1)) (λg=>(pos+3<=g.1/\g.1<=pos+80)/\ab 81 8 g.2.2.1 g.2.1 g.2.2.2.1/\ec g.2.2.1 ((dm idl::(f1++(f2++(fs1++g.2.2.2.2)))).map aA)/\aM g.2.2.2.2/\(g.2.2.2.2=[]\/∃h hs,g.2.2.2.2=h::hs/\ii (dm idl::(f1++(f2++fs1))) h.name<0)) ?_ ?_
 ·(((with_reducible refine W.mk ?_);(conv=>whnf)))
  refine Bc.l ?_;by_cases hz15:aB xs p5 2=0
  .repeat' first|refine aI ?_|intro b;conv=>whnf
   refine bu (aF0 xs hx bm _ ⟨by omega,by omega⟩) (zH ([aF bm xs _]++_)) (λs'=>s'++_) (λs'=>zH _) ?_;rintro _ _ ⟨p6,fs2,⟨hp6,hp6'⟩,rfl,rfl,hP2⟩;have hn2:=hP2.two
   cases fs2 with
   |nil=>
    repeat' first|refine aI ?_|intro b;conv=>whnf
    refine Dr.l (by decide +kernel) ?_
    repeat' first|refine aI ?_|intro b;conv=>whnf
    refine Bc.l ?_
    repeat' first|refine aI ?_|intro b;conv=>whnf
    exact⟨(p6,_,_,s14,[]),(ah aJ),eE,⟨by simp only;omega,by simp only;omega⟩,hr14,by simpa using le14,aM.none,.inl rfl⟩
   |cons h2 fs2=>
    have HH:=aQ8 (dm idl::(f1++(f2++fs1))) h2.name (by simp only[List.length_cons,zI];omega);have h20:(h2::fs2)[Int.toNat 0]?=some h2:=rfl
    repeat' first|refine aI ?_|intro b;conv=>whnf
    refine Dr.l (by decide +kernel) ?_
    repeat' first|refine aI ?_|intro b;conv=>whnf
    refine Cp.pk (iK.peek (.cons (Pk.rowLe (τ:=aF bm xs p6::dU b7 (bA ks.length) lo (lo+aB xs (pos+1) 5) (.slice a14 rs14.length c14)::(b4,.cells 78 zK)::sk1) hr14 le14 gT) (.cons (Pk.same _) .nil)) HH rfl) ?_;by_cases hx2:ii (dm idl::(f1++(f2++fs1))) h2.name<0
    .repeat' first|refine aI ?_|intro b;conv=>whnf
     refine Bc.l ?_
     repeat' first|refine aI ?_|intro b;conv=>whnf
     refine Ap.go rfl rfl rfl rfl hr14 (τ:=aF bm xs p6::dU b7 (bA ks.length) lo (lo+aB xs (pos+1) 5) (.slice a14 rs14.length c14)::(b4,.cells 78 zK)::sk1) gT (CZ (h2::fs2)) (zs:=rs14++(h2::fs2).map aA) rfl (by rw[zI,zL];omega) (by rw[zI,zL];omega) (λs'=>aF bm xs p6::dU b7 (bA ks.length) lo (lo+aB xs (pos+1) 5) (.slice a14 rs14.length c14)::(b4,.cells 78 zK)::(s'++sk1)) (λs'=>rR) (λa16 c16 s16 hr16=>?_)
     repeat' first|refine aI ?_|intro b;conv=>whnf
     exact⟨(p6,_,_,s16,h2::fs2),(ah aJ),eE,⟨by simp only;omega,by simp only;omega⟩,hr16,by have:=le14.append (ec.refl ((h2::fs2).map aA));simpa using this,hP2,.inr ⟨h2,fs2,rfl,hx2⟩⟩
    .repeat' first|refine aI ?_|intro b;conv=>whnf
     refine Bc.l ?_
     repeat' first|refine aI ?_|intro b;conv=>whnf
     exact⟨(p6,_,_,s14,[]),(ah aJ),eE,⟨by simp only;omega,by simp only;omega⟩,hr14,by simpa using le14,aM.none,.inl rfl⟩
  .repeat' first|refine aI ?_|intro b;conv=>whnf
   exact⟨(p5+1,_,_,s14,[]),(ah aJ),eE,⟨by simp only;omega,by simp only;omega⟩,hr14,by simpa using le14,aM.none,.inl rfl⟩
 .rintro⟨p7,fv7,rs7,sf7,p2⟩ ⟨⟨hp7,hp7'⟩,hr7,hle7,hP2,hp2⟩;simp only at hp7 hp7' hr7 hle7 hP2 hp2⊢;obtain⟨a17,c17,rfl⟩:=hr7.slice
  repeat' first|refine aI ?_|intro b;conv=>whnf
  refine Rs.c ai (m:=2) rfl rfl rfl rfl rfl rfl ?_
  repeat' first|refine aI ?_|intro b;conv=>whnf
  have hs1:∀z,z∈aT (aF bm xs p7::sk1)->z∈aT (aF bm xs p7::dU b7 (bA ks.length) lo (lo+aB xs (pos+1) 5) (.slice a17 rs7.length c17)::dU b4 (bA ks.length) lo (lo+aB xs (pos+1) 5) (.slice a17 rs7.length c17)::(sf7++sk1)):=by
   intro z hz;simp only[aT,List.map_cons,yB,zU,zO]at hz⊢;rcases hz with hz|hz<;>simp[hz]
  have hs2:∀z,z∈aT (aF bm xs p7::sk1)->z∈aT (aF bm xs p7::dU b7 (bA ks.length) lo (lo+aB xs (pos+1) 5) (.slice a17 rs7.length c17)::dU b4 (bA ks.length) lo (lo+aB xs (pos+1) 5) (.slice a17 rs7.length c17)::sk1):=by
   intro z hz;simp only[aT,List.map_cons,yB,zU,zO]at hz⊢;rcases hz with hz|hz<;>simp[hz]
  refine Rt.by (σ':=aF bm xs p7::sk1) (d':=fP ⟨bA ks.length,lo,lo+aB xs (pos+1) 5,dm idl::(f1++(f2++(fs1++p2)))⟩) (Vs.vd ⟨dU b7 (bA ks.length) lo (lo+aB xs (pos+1) 5) (.slice a17 rs7.length c17)::dU b4 (bA ks.length) lo (lo+aB xs (pos+1) 5) (.slice a17 rs7.length c17)::sf7,by(refine cV λa=>?_;simp only[dU,aF,List.append_eq,List.nil_append,cU,dn,de,sD,iD,bD];omega)⟩ (Vd.agg (.cons (Vd.same hs1 _) (.cons (Vd.same hs1 _) (.cons (Vd.same hs1 _) (.cons (Vd.rowLe (ρ:=aF bm xs p7::dU b7 (bA ks.length) lo (lo+aB xs (pos+1) 5) (.slice a17 rs7.length c17)::dU b4 (bA ks.length) lo (lo+aB xs (pos+1) 5) (.slice a17 rs7.length c17)::sk1) hr7 hle7 gT hs2) .nil)))))) ?_
  exact⟨p7,_,ks1,sk1,⟨by omega,by omega⟩,rfl,rfl,hkr1,⟨lo,aB xs (pos+1) 5,idl,f1,f2,fs1,p2,hlo,⟨h2.1,h2'⟩,hid,rfl,hRef,hf2,hP1,hP2,hp2⟩⟩):p:=h
def CC(xs:List Int)(hx:eH xs)(bm:Nat)(pos:Int)(hp:0<=pos/\pos<=10000000)(ks:List aq)(hks:ks.length<=2)(hfl:∀k∈ks,k.fields.length<=1000)(a:Option Addr)(c:Nat)(I:ae)(hrow:ab 78 4 (ks.map aD) (.slice a ks.length c) I) :
  az prog 31 [ptr bm,.v (.slice a ks.length c)] (aF bm xs pos::I) (λd σ=>∃i k M J,(pos<=i/\i<=pos+100)/\d=fP k/\σ=aF bm xs i::J/\ab 78 4 (M.map aD) (.slice a ks.length c) J/\jG ks k M):=by
 have h1:=ek xs pos 6;have h1':=h1.2 (by omega);have h2:=ek xs (pos+1) 5;have h2':=h2.2 (by omega);obtain⟨lo,hlo,hlx⟩:=hJ [0,1,2,4,1,2] (j:=aB xs pos 6) ⟨by omega,by simp;omega⟩;have hlob:0<=lo/\lo<=4:=by simp at hlo;omega
 refine dB func31 ntmps31 λBB=>?_
 repeat' first|refine aI ?_|intro b;conv=>whnf
 generalize b=b4
 ((refine bu (eP xs hx bm _ _ ⟨by omega,by omega⟩) (show List.Perm (_::aF bm xs _::_) ([aF bm xs _]++(_::_)) from List.Perm.swap _ _ _) (λs'=>s'++(_::_)) (λs'=>zH _) ?_);(rintro _ _ ⟨rfl,rfl⟩))
 repeat' first|refine aI ?_|intro b;conv=>whnf
 refine Ix.at hlx (by omega) ?_
 repeat' first|refine aI ?_|intro b;conv=>whnf
 refine Dr.r ?_
 (((with_reducible refine W.mk ?_);(conv=>whnf)))
 refine Dm.r ?_;refine W.mk ?_;refine tV mixed ai rfl [0,1,2,3,4,5,6] 5 (.two 7 (.two 8 (.two 9 (.one 10 (.one 11 .done)) 10 (.one 9 (.one 11 .done))) 10 (.one 8 (.one 9 (.one 11 .done)))) 10 (.one 7 (.one 8 (.one 9 (.one 11 .done))))) (γ:=Nat) (λg=>[(7,.v (.pointer (some ⟨g,0,none⟩)))]) (λg=>aF bm xs (pos+1+1)::dU g (bA ks.length) lo (lo+aB xs (pos+1) 5) (.slice none 0 0)::(b4,.cells 78 zK)::I) (λ_=>True) (by decide +kernel) ?_ ?_
 .repeat' first|refine aI ?_|intro b;conv=>whnf|(refine And.intro ?_ ?_<;>(conv=>whnf))|((refine bu (eP xs hx bm _ _ ⟨by omega,by omega⟩) (zH ([aF bm xs _]++_)) (λs'=>s'++_) (λs'=>zH _) ?_);(rintro _ _ ⟨rfl,rfl⟩))|((refine bu (eP xs hx bm _ _ ⟨by omega,by omega⟩) (show List.Perm (_::aF bm xs _::_) ([aF bm xs _]++(_::_)) from List.Perm.swap _ _ _) (λs'=>s'++(_::_)) (λs'=>zH _) ?_);(rintro _ _ ⟨rfl,rfl⟩))|(refine Ix.at (GM [tS,Q5,MD] ⟨by omega,by simp;omega⟩ nE) (by omega) ?_)
  all_goals exact⟨b,(ah aJ),eE,trivial⟩
 .rintro b7 -;have h3:=ek xs (pos+1+1) 4;have h3':=h3.2 (by omega);obtain⟨idl,hid,hidx⟩:=hJ [0,1,100,-3] (j:=aB xs (pos+1+1) 4) ⟨by omega,by simp;omega⟩
  repeat' first|refine aI ?_|intro b;conv=>whnf
  refine gS ?_;refine iG mixed ai rfl [0,2,3] 9 (hQ [1,4,9,10,11]) (.two 1 (.one 4 (.fst 5 (.fst 6 (.fst 7 (.fst 8 (.one 9 (.one 10 (.one 11 .done)))))))) 4 (.fst 5 (.fst 6 (.fst 7 (.fst 8 (.one 1 (.one 9 (.one 10 (.one 11 .done))))))))) (γ:=Value×ae) (λ_=>[]) (λg=>aF bm xs (pos+1+1+1)::dU b7 (bA ks.length) lo (lo+aB xs (pos+1) 5) g.1::(b4,.cells 78 zK)::(g.2++I)) (λg=>ab 81 8 [bQ (dm idl) aU aU] g.1 g.2) (by decide +kernel) ?_ ?_
  .repeat' first|refine aI ?_|intro b;conv=>whnf|(refine And.intro ?_ ?_<;>(conv=>whnf))|((refine bu (eP xs hx bm _ _ ⟨by omega,by omega⟩) (zH ([aF bm xs _]++_)) (λs'=>s'++_) (λs'=>zH _) ?_);(rintro _ _ ⟨rfl,rfl⟩))|((refine bu (eP xs hx bm _ _ ⟨by omega,by omega⟩) (show List.Perm (_::aF bm xs _::_) ([aF bm xs _]++(_::_)) from List.Perm.swap _ _ _) (λs'=>s'++(_::_)) (λs'=>zH _) ?_);(rintro _ _ ⟨rfl,rfl⟩))|(refine Ix.at hidx (by omega) ?_)|(refine Ap.go rfl rfl rfl rfl (ab.nil 81 8) (zH ([]++_)) rfl (zs:=[bQ (dm idl) aU aU]) rfl (by simp) (by simp) (λs'=>s'++_) (λs'=>zH _) (λa2 c2 s2 hr2=>?_))|(refine Sv.cellm (tb:=78) (cs:=[sD (bA ks.length),iD lo,iD (lo+aB xs (pos+1) 5),.v (.slice .none 0 0)]) (cs':=[sD (bA ks.length),iD lo,iD (lo+aB xs (pos+1) 5),.v (.slice a2 [bQ (dm idl) aU aU].length c2)]) (τ:=aF bm xs (pos+1+1+1)::(b4,.cells 78 zK)::(s2++I)) gT (by simp) rfl rfl ?_)
   all_goals exact⟨(_,s2),(ah aJ),eE,hr2⟩
  .rintro⟨U,Y⟩ u;simp only at u⊢
   repeat' first|refine aI ?_|intro b;conv=>whnf
   refine Bc.j ?_;refine KH mixed ai (γ:=KSt×List an) (λ_=>[]) (λg=>kS bm xs b7 b4 (bA ks.length) lo (lo+aB xs (pos+1) 5) g.1) (λg=>(pos+3<=g.1.pos/\g.1.pos<=pos+30)/\KI a ks.length c (dm idl::g.2) g.1/\gZ ks (bA ks.length) g.2 g.1.ks/\g.2.length<=3) ?_ ?_
   ·(((with_reducible refine W.mk ?_);(conv=>whnf)))
    refine Bc.l ?_;by_cases hn0:0<ks.length
    .have h4:=ek xs (pos+1+1+1) ks.length;have h4':=h4.2 (by omega)
     repeat' first|refine aI ?_|intro b;conv=>whnf
     ((refine bu (eP xs hx bm _ _ ⟨by omega,by omega⟩) (zH ([aF bm xs _]++_)) (λs'=>s'++_) (λs'=>zH _) ?_);(rintro _ _ ⟨rfl,rfl⟩))
     repeat' first|refine aI ?_|intro b;conv=>whnf
     obtain⟨tw0,P⟩:∃tw0:Nat,aB xs (pos+1+1+1) ks.length=tw0:=⟨(aB xs (pos+1+1+1) ks.length).toNat,by omega⟩
     obtain⟨y,hy⟩:∃y,ks[tw0]?=some y:=⟨_,zD (by omega)⟩
     obtain⟨b2,cap2,cs2,e2,rfl,E⟩:=ab.get hrow (show(ks.map aD)[tw0]?=some (aD y) by rw[qA,hy];rfl);rw[zL]at e2
     cases e2
     have hc0:cs2[tw0*4+0]?=some (sD y.name):=E 0 (by omega);have hc3:cs2[tw0*4+3]?=some (mV y.fields):=E 3 (by omega);have h5:=ek xs (pos+1+1+1+1) 4;have h5':=h5.2 (by omega);obtain⟨hi,hhi,S⟩:=hJ [4,3,8,2] (j:=aB xs (pos+1+1+1+1) 4) ⟨by omega,by simp;omega⟩;refine gS ?_;refine iG mixed ai rfl [0,1,2,3,5,6] 7 (hQ [4,7,11,12]) (.three 4 (.two 7 (.fst 8 (.fst 9 (.fst 10 (.one 11 (.one 12 .done))))) 11 (.one 7 (.fst 8 (.fst 9 (.fst 10 (.one 12 .done)))))) 7 (.fst 8 (.fst 9 (.two 4 (.fst 10 (.one 11 (.one 12 .done))) 11 (.one 4 (.fst 10 (.one 12 .done)))))) 11 (.two 4 (.one 7 (.fst 8 (.fst 9 (.fst 10 (.one 12 .done))))) 7 (.fst 8 (.fst 9 (.one 4 (.fst 10 (.one 12 .done))))))) (γ:=Nat) (λg=>[(9,.v (.pointer (some ⟨g,0,none⟩)))]) (λg=>aF bm xs (pos+1+1+1+1+1)::(g,.cells 81 (bQ (iN y 0 hi) aU aU))::dU b7 (bA ks.length) lo (lo+aB xs (pos+1) 5) U::(b4,.cells 78 zK)::(Y++[(b2,.cells 78 cs2)])) (λ_=>True) (by decide +kernel) ?_ ?_
     .repeat' first|refine aI ?_|intro b;conv=>whnf|(refine And.intro ?_ ?_<;>(conv=>whnf))|((refine bu (eP xs hx bm _ _ ⟨by omega,by omega⟩) (zH ([aF bm xs _]++_)) (λs'=>s'++_) (λs'=>zH _) ?_);(rintro _ _ ⟨rfl,rfl⟩))|((refine bu (eP xs hx bm _ _ ⟨by omega,by omega⟩) (show List.Perm (_::aF bm xs _::_) ([aF bm xs _]++(_::_)) from List.Perm.swap _ _ _) (λs'=>s'++(_::_)) (λs'=>zH _) ?_);(rintro _ _ ⟨rfl,rfl⟩))|(refine Ix.at S (by omega) ?_)|(refine Ld.cellm (tb:=78) (cs:=cs2) (by simp) (by rw[P,show 0+((tw0:Nat):Int).toNat*4+0=tw0*4+0 by simp];exact hc0) ?_)
      all_goals exact⟨b,(ah aJ),eE,trivial⟩
     .rintro V -;rw[P];have h6:=ek xs (pos+1+1+1+1+1) 5;have h6':=h6.2 (by omega)
      repeat' first|refine aI ?_|intro b;conv=>whnf
      ((refine bu (eP xs hx bm _ _ ⟨by omega,by omega⟩) (zH ([aF bm xs _]++_)) (λs'=>s'++_) (λs'=>zH _) ?_);(rintro _ _ ⟨rfl,rfl⟩))
      repeat' first|refine aI ?_|intro b;conv=>whnf
      refine Bc.j ?_;refine KH mixed ai (γ:=Int) (λ_=>[]) (λg=>aF bm xs (pos+6)::(V,.cells 81 (bQ (iN y g hi) aU aU))::dU b7 (bA ks.length) lo (lo+aB xs (pos+1) 5) U::(b4,.cells 78 zK)::(Y++[(b2,.cells 78 cs2)])) (λg=>g=0\/g=1) ?_ ?_
      ·(((with_reducible refine W.mk ?_);(conv=>whnf)))
       refine Bc.l ?_;have e6:pos+1+1+1+1+1+1=pos+6:=by omega
       rw[e6];by_cases hz6:aB xs (pos+1+1+1+1+1) 5=0
       .repeat' first|refine aI ?_|intro b;conv=>whnf
        exact⟨1,(ah aJ),eE,.inr rfl⟩
       .repeat' first|refine aI ?_|intro b;conv=>whnf
        exact⟨0,(ah aJ),eE,.inl rfl⟩
      .rintro l9 hl9
       repeat' first|refine aI ?_|intro b;conv=>whnf
       refine Ap.go rfl rfl rfl rfl u (τ:=aF bm xs (pos+6)::(V,.cells 81 (bQ (iN y l9 hi) aU aU))::dU b7 (bA ks.length) lo (lo+aB xs (pos+1) 5) U::(b4,.cells 78 zK)::[(b2,.cells 78 cs2)]) gT rfl (zs:=[bQ (dm idl) aU aU,bQ (iN y l9 hi) aU aU]) rfl (by simp) (by simp) (λs'=>aF bm xs (pos+6)::dU b7 (bA ks.length) lo (lo+aB xs (pos+1) 5) U::(b4,.cells 78 zK)::(V,.cells 81 (bQ (iN y l9 hi) aU aU))::(s'++[(b2,.cells 78 cs2)])) (λs'=>rR) (λa3 c3 s3 s=>?_)
       repeat' first|refine aI ?_|intro b;conv=>whnf
       refine pB3 (tb:=78) (cs:=cs2) (x:=aD y) (by simp) rfl (by decide) (λj hj=>by rw[show 0+((tw0:Nat):Int).toNat*4+j=tw0*4+j by simp];exact E j hj) ?_;have hyl:=hfl y (zG hy);have HC:=qY y (by omega);have HT:=aQ8 y.fields pX (by omega)
       repeat' first|refine aI ?_|intro b;conv=>whnf
       refine CE.pure HC ?_;have L:ec [bQ (dm idl) aU aU,bQ (iN y l9 hi) aU aU] ([dm idl,iN y l9 hi].map aA):=.cons (.cons (Le.refl _) (.cons (Le.refl _) (.cons (Le.refl _) (.cons (Le.refl _) (.cons (Le.refl _) (.cons (Le.refl _) (.cons (gC 1) (.cons (gC 1) .nil)))))))) (.cons (.cons (Le.refl _) (.cons (Le.refl _) (.cons (Le.refl _) (.cons (Le.refl _) (.cons (Le.refl _) (.cons (Le.refl _) (.cons (gC 1) (.cons (gC 1) .nil)))))))) .nil);by_cases hcp:0<=pV y
       .have h7:=ek xs (pos+6) 2;have h7':=h7.2 (by omega);have hlt7:pV y<y.fields.length:=GU _ _;obtain⟨w,hg7⟩:∃h,y.fields[(pV y).toNat]?=some h:=⟨_,zD (by omega)⟩
        repeat' first|refine aI ?_|intro b;conv=>whnf
        ((refine bu (eP xs hx bm _ _ ⟨by omega,by omega⟩) (zH ([aF bm xs _]++_)) (λs'=>s'++_) (λs'=>zH _) ?_);(rintro _ _ ⟨rfl,rfl⟩))
        repeat' first|refine aI ?_|intro b;conv=>whnf
        refine Bc.j ?_;refine KH mixed ai (γ:=Int×Value×List (List D)×ae×List an) (λ_=>[]) (λg=>aF bm xs g.1::dU b7 (bA ks.length) lo (lo+aB xs (pos+1) 5) g.2.1::(b4,.cells 78 zK)::(g.2.2.2.1++[(b2,.cells 78 cs2)])) (λg=>(pos+6<=g.1/\g.1<=pos+10)/\ab 81 8 g.2.2.1 g.2.1 g.2.2.2.1/\ec g.2.2.1 ((dm idl::iN y l9 hi::g.2.2.2.2).map aA)/\(g.2.2.2.2=[]\/∃h,0<=pV y/\y.fields[(pV y).toNat]?=some h/\g.2.2.2.2=[iP h.name])) ?_ ?_
        ·(((with_reducible refine W.mk ?_);(conv=>whnf)))
         refine Bc.l ?_;by_cases hz7:aB xs (pos+6) 2=0
         .repeat' first|refine aI ?_|intro b;conv=>whnf
          refine Dr.l (by decide +kernel) ?_
          repeat' first|refine aI ?_|intro b;conv=>whnf
          refine Ld.cellm (tb:=78) (cs:=cs2) (by simp) Qt ?_
          repeat' first|refine aI ?_|intro b;conv=>whnf
          refine Ap.go rfl rfl rfl rfl s (τ:=aF bm xs (pos+6+1)::(V,.cells 81 (bQ (iN y l9 hi) aU aU))::dU b7 (bA ks.length) lo (lo+aB xs (pos+1) 5) (.slice a3 2 c3)::(b4,.cells 78 zK)::[(b2,.cells 78 cs2)]) gT rfl (zs:=[bQ (dm idl) aU aU,bQ (iN y l9 hi) aU aU,bQ (iP w.name) aU aU]) rfl (by simp) (by simp) (λs'=>aF bm xs (pos+6+1)::dU b7 (bA ks.length) lo (lo+aB xs (pos+1) 5) (.slice a3 2 c3)::(b4,.cells 78 zK)::(V,.cells 81 (bQ (iN y l9 hi) aU aU))::(s'++[(b2,.cells 78 cs2)])) (λs'=>rR) (λa5 c5 s5 hr5=>?_)
          repeat' first|refine aI ?_|intro b;conv=>whnf
          exact⟨(pos+6+1,_,_,s5,[iP w.name]),(ah aJ),eE,⟨by simp only;omega,by simp only;omega⟩,hr5,.cons (.cons (Le.refl _) (.cons (Le.refl _) (.cons (Le.refl _) (.cons (Le.refl _) (.cons (Le.refl _) (.cons (Le.refl _) (.cons (gC 1) (.cons (gC 1) .nil)))))))) (.cons (.cons (Le.refl _) (.cons (Le.refl _) (.cons (Le.refl _) (.cons (Le.refl _) (.cons (Le.refl _) (.cons (Le.refl _) (.cons (gC 1) (.cons (gC 1) .nil)))))))) (.cons (.cons (Le.refl _) (.cons (Le.refl _) (.cons (Le.refl _) (.cons (Le.refl _) (.cons (Le.refl _) (.cons (Le.refl _) (.cons (gC 1) (.cons (gC 1) .nil)))))))) .nil)),.inr ⟨w,hcp,hg7,rfl⟩⟩
         .repeat' first|refine aI ?_|intro b;conv=>whnf
          exact⟨(pos+6+1,_,_,s3,[]),(ah aJ),eE,⟨by simp only;omega,by simp only;omega⟩,s,L,.inl rfl⟩
        .exact cq0
       .repeat' first|refine aI ?_|intro b;conv=>whnf
        refine Bc.j ?_;refine KH mixed ai (γ:=Int×Value×List (List D)×ae×List an) (λ_=>[]) (λg=>aF bm xs g.1::dU b7 (bA ks.length) lo (lo+aB xs (pos+1) 5) g.2.1::(b4,.cells 78 zK)::(g.2.2.2.1++[(b2,.cells 78 cs2)])) (λg=>(pos+6<=g.1/\g.1<=pos+10)/\ab 81 8 g.2.2.1 g.2.1 g.2.2.2.1/\ec g.2.2.1 ((dm idl::iN y l9 hi::g.2.2.2.2).map aA)/\(g.2.2.2.2=[]\/∃h,0<=pV y/\y.fields[(pV y).toNat]?=some h/\g.2.2.2.2=[iP h.name])) ?_ ?_
        ·(((with_reducible refine W.mk ?_);(conv=>whnf)))
         refine Bc.l ?_
         repeat' first|refine aI ?_|intro b;conv=>whnf
         exact⟨(pos+6,_,_,s3,[]),(ah aJ),eE,⟨by simp only;omega,by simp only;omega⟩,s,L,.inl rfl⟩
        .exact cq0
    .repeat' first|refine aI ?_|intro b;conv=>whnf
     exact⟨(⟨pos+1+1+1,U,_,Y,ks,I⟩,[]),(ah aJ),eE,⟨by simp only;omega,by simp only;omega⟩,⟨u,.cons (.cons (Le.refl _) (.cons (Le.refl _) (.cons (Le.refl _) (.cons (Le.refl _) (.cons (Le.refl _) (.cons (Le.refl _) (.cons (gC 1) (.cons (gC 1) .nil)))))))) .nil,hrow,rfl⟩,gZ.none (wX.1 (by omega)),by simp⟩
   .rintro⟨⟨q,n,r,K,ks1,sk1⟩,f1⟩ ⟨⟨hp1,R⟩,⟨l,e,hkr1,o⟩,hRef,hf1⟩;simp only[kS]at hp1 R l e hkr1 o hRef hf1⊢;have hl1:r.length<=4:=by have:=e.len;simp at this;omega
    by_cases hn1:1<ks.length
    .have h11:=ek xs q 3
     repeat' first|refine aI ?_|intro b;conv=>whnf
     ((refine bu (eP xs hx bm _ _ ⟨by omega,by omega⟩) (zH ([aF bm xs _]++_)) (λs'=>s'++_) (λs'=>zH _) ?_);(rintro _ _ ⟨rfl,rfl⟩))
     repeat' first|refine aI ?_|intro b;conv=>whnf
     refine Bc.j ?_;refine KH mixed ai (γ:=Int×Value×List (List D)×ae×List an) (λ_=>[]) (λg=>aF bm xs g.1::dU b7 (bA ks.length) lo (lo+aB xs (pos+1) 5) g.2.1::(b4,.cells 78 zK)::(g.2.2.2.1++sk1)) (λg=>(pos+3<=g.1/\g.1<=pos+35)/\ab 81 8 g.2.2.1 g.2.1 g.2.2.2.1/\ec g.2.2.1 ((dm idl::(f1++g.2.2.2.2)).map aA)/\(g.2.2.2.2=[]\/∃y,ks[0]?=some y/\1<ks.length/\g.2.2.2.2=[Kp y])) ?_ ?_
     ·(((with_reducible refine W.mk ?_);(conv=>whnf)))
      refine Bc.l ?_;by_cases hz11:aB xs q 3=0
      .obtain⟨G,O⟩:∃y,ks1[0]?=some y:=⟨_,zD (by omega)⟩
       obtain⟨X,cap12,f,F,rfl,C⟩:=ab.get hkr1 (show(ks1.map aD)[0]?=some (aD G) by rw[qA,O];rfl);rw[zL]at F;have T:f[0]?=some (sD G.name):=C 0 (by omega);obtain⟨y0,hy0,hny⟩:=hRef.name0 O;rw[o]at F
       cases F
       repeat' first|refine aI ?_|intro b;conv=>whnf
       refine Dr.l (by decide +kernel) ?_
       repeat' first|refine aI ?_|intro b;conv=>whnf
       refine Ld.cellm (tb:=78) (cs:=f) (by simp) T ?_
       repeat' first|refine aI ?_|intro b;conv=>whnf
       refine Ap.go rfl rfl rfl rfl l (τ:=aF bm xs (q+1)::dU b7 (bA ks.length) lo (lo+aB xs (pos+1) 5) n::(b4,.cells 78 zK)::[(X,.cells 78 f)]) gT rfl (zs:=r++[bQ (Kp G) aU aU]) rfl (by simp;omega) (by simp;omega) (λs'=>aF bm xs (q+1)::dU b7 (bA ks.length) lo (lo+aB xs (pos+1) 5) n::(b4,.cells 78 zK)::(s'++[(X,.cells 78 f)])) (λs'=>rR) (λa13 c13 Z Q=>?_)
       repeat' first|refine aI ?_|intro b;conv=>whnf
       exact⟨(q+1,_,_,Z,[Kp G]),(ah aJ),eE,⟨by simp only;omega,by simp only;omega⟩,Q,by simpa using e.append (ec.cons (x:=bQ (Kp G) aU aU) (y:=aA (Kp G)) (.cons (Le.refl _) (.cons (Le.refl _) (.cons (Le.refl _) (.cons (Le.refl _) (.cons (Le.refl _) (.cons (Le.refl _) (.cons (gC 1) (.cons (gC 1) .nil)))))))) .nil),.inr ⟨y0,hy0,hn1,by simp[Kp,hny]⟩⟩
      .repeat' first|refine aI ?_|intro b;conv=>whnf
       exact⟨(q+1,n,r,K,[]),(ah aJ),eE,⟨by simp only;omega,by simp only;omega⟩,l,by simpa using e,.inl rfl⟩
     .exact cq2
    .repeat' first|refine aI ?_|intro b;conv=>whnf
     refine Bc.j ?_;refine KH mixed ai (γ:=Int×Value×List (List D)×ae×List an) (λ_=>[]) (λg=>aF bm xs g.1::dU b7 (bA ks.length) lo (lo+aB xs (pos+1) 5) g.2.1::(b4,.cells 78 zK)::(g.2.2.2.1++sk1)) (λg=>(pos+3<=g.1/\g.1<=pos+35)/\ab 81 8 g.2.2.1 g.2.1 g.2.2.2.1/\ec g.2.2.1 ((dm idl::(f1++g.2.2.2.2)).map aA)/\(g.2.2.2.2=[]\/∃y,ks[0]?=some y/\1<ks.length/\g.2.2.2.2=[Kp y])) ?_ ?_
     ·(((with_reducible refine W.mk ?_);(conv=>whnf)))
      refine Bc.l ?_
      repeat' first|refine aI ?_|intro b;conv=>whnf
      exact⟨(q,n,r,K,[]),(ah aJ),eE,⟨by simp only;omega,by simp only;omega⟩,l,by simpa using e,.inl rfl⟩
     .exact cq2
end
section
open Go
variable{p:Prop}
def YL(h:p:=by
 repeat' first|refine aV ?_|(refine aZ ?_;constructor<;>intro hc)
 all_goals(refine Rt.pure (zM bD ?_);first|(simp[cF, *];done)|(simp[cF];omega))):p:=h
def R2(n a b:Int):APure prog 127 [iD n,iD a,iD b] (bD (cF n a b)):=by
 refine ap func127 ntmps127 λe=>?_;exact YL
def YM(h:p:=by
 repeat' first|refine aV ?_|(refine aZ ?_;constructor<;>intro hc)
 all_goals(refine Rt.pure (zM bD ?_);first|(simp[lg, *];done)|(simp[lg];omega))):p:=h
def aA5(lo hi a b:Int):APure prog 173 [iD lo,iD hi,iD a,iD b] (bD (lg lo hi a b)):=by
 refine ap func173 ntmps173 λe=>?_;exact YM
def YN(h:p:=by
 repeat' first|refine aV ?_|(refine aZ ?_;constructor<;>intro hc)
 all_goals(refine Rt.pure (zM bD ?_);first|(simp[KC, *];done)|(simp[KC];omega))):p:=h
def aV5(c:UInt8):APure prog 226 [.v (.int .u8 c.toNat)] (bD (KC c)):=by
 refine ap func226 ntmps226 λa=>?_;exact YN
def YP(h:p:=by
 repeat' first|refine aV ?_|(refine aZ ?_;constructor<;>intro hc)
 all_goals(refine Rt.pure (zM bD ?_);first|(simp[o5, *];done)|(simp[o5];omega))):p:=h
def bh8(c:UInt8):APure prog 227 [.v (.int .u8 c.toNat)] (bD (o5 c)):=by
 refine ap func227 ntmps227 λa=>?_;exact YP
def vT:=@List.all_eq_false
variable{α:Type}{q:Nat}{l:List α}{y:α}
def K8{p:α->Bool}(a:l[q]?=some y)(h:p y=false):l.all p=false:=by
 rw[vT];exact⟨y,zG a,by simp[h]⟩
def K5{p:α->Bool}(h:∀(m:Nat)y,m<l.length->l[m]?=some y->p y=true):l.all p=true:=by
 rw[yA];intro y b;obtain⟨m,a⟩:=yO b;exact h m y (zE.1 a).1 a
def KP{p:α->Bool}(o:∀(m:Nat)y,m<q->l[m]?=some y->p y=true)(b:l[q]?=some y)(h:p y=true):∀(m:Nat)y,m<q+1->l[m]?=some y->p y=true:=by
 intro m z c a;by_cases e:m=q
 .subst e;rw[b]at a;cases a;exact h
 .exact o m z (by omega) a
def aw5(s:ByteArray):(bytes s).length=s.size:=by unfold bytes;simp
variable{A B:Prop}
def Bw(k:B)(h:ar B->A:=by intro q7;(first|refine bh ?_|refine aE ?_|(refine' aj ?hc ?_;(case hc=>first|exact aV5 _|exact bh8 _|exact R2 _ _ _|exact aA5 _ _ _ _)));exact q7.1):A:=h ⟨k⟩
def YQ(h:p:=by
 unfold bf;rw[hw];have hc1:(bytes s)[0]?=some c:=hc0
 cases hb:bytes s with
 |nil=>rw[hb]at h0;simp at h0
 |cons d r=>rw[hb]at hc1;simp at hc1;subst hc1;simp):p:=h
def wW:=@Bool.and_false
def ao6(s:ByteArray):APure prog 172 [sD s] (bD (bf s)):=by
 refine ap func172 ntmps172 λi=>?_;by_cases hs:1<=s.size/\s.size<=12
 .have hw:cF s.size 1 12=true:=by simp[cF];omega
  have h0:0<(bytes s).length:=by rw[aw5];omega
  obtain⟨c,hc0⟩:∃c,(bytes s)[(0:Int).toNat]?=some c:=⟨_,zD h0⟩
  have b:bf s=(KC c&&(bytes s).all fw):=YQ
  cases t:KC c with
  |false=>
   repeat' first|refine Bw ?_|(refine aZ ?_;constructor<;>intro hc)
   all_goals(refine Rt.pure (zM bD ?_);rw[b,t];rfl)
  |true=>
   repeat' first|refine Bw ?_|(refine aZ ?_;constructor<;>intro hc)
   refine gD mixed ai (γ:=Nat) (λg=>[(3,iD g)]) (λ_=>[]) (λq=>q<=s.size/\∀(m:Nat)y,m<q->(bytes s)[m]?=some y->fw y=true) (λq=>s.size-q) 0 rfl rfl ⟨by omega,λm y e=>by omega⟩ ?_;rintro q ⟨f,o⟩;by_cases hlt:q<s.size
   .obtain⟨y,hy⟩:∃y,(bytes s)[(q:Int).toNat]?=some y:=⟨_,zD (by rw[aw5];simpa using hlt)⟩
    have a:(bytes s)[q]?=some y:=hy
    repeat' first|refine Bw ?_|(refine aZ ?_;constructor<;>intro hc)
    all_goals first
     |exact⟨q+1,rfl,rfl,⟨by omega,KP o a (by simp[fw, *])⟩,by omega⟩
     |(refine Rt.pure (zM bD ?_);rw[b,K8 a (by simp[fw, *]),wW])
   .repeat' first|refine Bw ?_|(refine aZ ?_;constructor<;>intro hc)
    refine Rt.pure (zM bD ?_);rw[b,t,K5 (λm y e hy=>o m y (by rw[aw5]at e;omega) hy)];rfl
 .have b:bf s=false:=by
   have hw:cF s.size 1 12=false:=by simp[cF];omega
   unfold bf;rw[hw];simp
  repeat' first|refine Bw ?_|(refine aZ ?_;constructor<;>intro hc)
  all_goals first|(exfalso;omega)|(refine Rt.pure (zM bD ?_);exact b.symm)
def Iu(k:B)(h:ar B->A:=by intro q7;(first|refine bh ?_|refine aE ?_|(refine' aj ?hc ?_;(case hc=>exact ao6 _)));exact q7.1):A:=h ⟨k⟩
def aF1(l:List ByteArray)(hl:l.length<=1000000):APure prog 175 [gr l] (bD (l.all bf)):=by
 refine ap func175 ntmps175 λe=>?_
 repeat' first|refine Iu ?_|refine bg.mk λy hy=>?_
 refine gD mixed ai (γ:=Nat) (λg=>[(3,iD g)]) (λ_=>[]) (λq=>q<=l.length/\∀(m:Nat)y,m<q->l[m]?=some y->bf y=true) (λq=>l.length-q) 0 rfl rfl ⟨by omega,λm y a=>by omega⟩ ?_;rintro q ⟨b,o⟩
 repeat' first|refine Iu ?_|refine bg.mk λy hy=>?_|(refine aZ ?_;constructor<;>intro hc)
 .exact⟨q+1,rfl,rfl,⟨by omega,KP o hy (by assumption)⟩,by omega⟩
 .refine Rt.pure (zM bD ?_);rw[K8 hy (by assumption)]
 .refine Rt.pure (zM bD ?_);rw[K5 (λm y a hy=>o m y (by omega) hy)]
def AM(k:Int):D:=.tup [bD (iU k),bD (iV k),bD (jC k),bD (iT k),bD (eO k)]
def mI(k:Int):APure prog 228 [iD k] (AM k):=by
 refine ap func228 ntmps228 λo=>?_;by_cases h:k=0\/k=1\/k=2\/k=3\/k=4\/k=5\/k=6\/k=7\/k=8
 .rcases h with h|h|h|h|h|h|h|h|h
  all_goals
   repeat refine Iu ?_
   refine Rt.pure ?_;subst h;rfl
 .have l:¬k=0:=by omega
  have j:¬k=1:=by omega
  have i:¬k=2:=by omega
  have g:¬k=3:=by omega
  have f:¬k=4:=by omega
  have e:¬k=5:=by omega
  have b:¬k=6:=by omega
  have a:¬k=7:=by omega
  have n:¬k=8:=by omega
  repeat refine Iu ?_
  refine Rt.pure ?_
  show D.tup [bD (decide (k=8)),bD (decide (k=8)),bD (decide (k=0)),bD (decide (k=7)),bD (decide (k=3))]=_;simp[AM,iU,iV,jC,iT,eO,l,j,i,g,f,e,b,a,n]
def wh(k:B)(h:ar B->A:=by intro q7;(first|refine bh ?_|refine aE ?_|(refine' aj ?hc ?_;(case hc=>first|exact R2 _ _ _|exact aF1 _ (by assumption))));exact q7.1):A:=h ⟨k⟩
def aV7(f:an)(w:f.words.length<=1000000)(t:f.wz.length<=1000000):APure prog 229 [bT f] (bD (na f.words f.wz)):=by
 refine ap func229 ntmps229 λv=>?_
 repeat refine wh ?_
 refine gD mixed ai (γ:=Nat×Int) (λg=>[(3,iD g.2),(4,iD g.1)]) (λ_=>[]) (λg=>g.1<=f.wz.length/\g.2=(f.wz.take g.1).sum/\(∀(m:Nat)y,m<g.1->f.wz[m]?=some y->cF y 0 1048576=true)/\0<=g.2/\g.2<=1048576*g.1) (λg=>f.wz.length-g.1) (0,0) rfl rfl ⟨by omega,by simp,λm y s=>by omega,by simp,by simp⟩ ?_;rintro⟨q,u⟩ ⟨k,i,o,b,a⟩;simp only at k i o b a⊢;by_cases hlt:q<f.wz.length
 .obtain⟨y,hy⟩:∃y,f.wz[q]?=some y:=⟨_,zD hlt⟩
  have j:(f.wz.take (q+1)).sum=(f.wz.take q).sum+y:=by
   rw[xC,hy];simp
  cases h1:cF y 0 1048576 with
  |true=>
   have r:0<=y/\y<=1048576:=by simpa [cF]using h1
   repeat' first|refine wh ?_|(refine aZ ?_;constructor<;>intro hc)
   exact⟨(q+1,u+y),rfl,rfl,⟨by simp only;omega,by simp only;omega,KP o hy h1,by simp only;omega,by simp only;omega⟩,by simp only;omega⟩
  |false=>
   repeat' first|refine wh ?_|(refine aZ ?_;constructor<;>intro hc)
   all_goals(refine Rt.pure (zM bD ?_);simp only[na,K8 (p:=λn=>cF n 0 1048576) hy h1];simp)
 .obtain rfl:q=f.wz.length:=by omega
  have l:f.wz.all (λn=>cF n 0 1048576)=true:=K5 o;rw[yM]at i;have e:na f.words f.wz=(cF f.words.length 1 12&&decide (f.words.length=f.wz.length)&&decide (0<f.wz.sum)&&f.words.all bf):=by simp[na,l]
  rw[←i]at e;clear i o b a l k hlt;by_cases e2:f.words.length=f.wz.length
  .by_cases e3:0<u
   .repeat' first|refine wh ?_|(refine aZ ?_;constructor<;>intro hc)
    all_goals(refine Rt.pure (zM bD ?_);rw[e];simp_all)
   .rw[yE e3]at e
    repeat' first|refine wh ?_|(refine aZ ?_;constructor<;>intro hc)
    all_goals(refine Rt.pure (zM bD ?_);rw[e];simp)
  .repeat' first|refine wh ?_|(refine aZ ?_;constructor<;>intro hc)
   all_goals(refine Rt.pure (zM bD ?_);rw[e,yE e2];simp)
end
section
open Go
def aG0:Le (.agg [sD ⟨#[]⟩,sD ⟨#[]⟩,sD ⟨#[]⟩,iD 0,iD 0,iD 0,.v (.slice none 0 0),.v (.slice none 0 0)]) (bT zf):=
 DX (gH.cons (Le.refl _) (gH.cons (Le.refl _) (gH.cons (Le.refl _) (gH.cons (Le.refl _) (gH.cons (Le.refl _) (gH.cons (Le.refl _) (gH.cons (gC _) (gH.cons (gC _) gH.nil))))))))
variable{f:an}{x:ak}
def sO{i j:Int}(h:aG x i j<0):im x i j f=none:=by simp[im,h]
def sP{i j:Int}{k:aq}(h:¬aG x i j<0)(a:x.kz[(aG x i j).toNat]?=some k):im x i j f=fieldAt x (aG x i j) (bb k f.of):=by
 have:dN x (aG x i j)=some k:=by unfold dN;rw[if_pos (by omega)];exact a
 simp only[im,this];rw[if_neg h]
def sL(x:ak)(i j:Int):aG x i j<x.kz.length:=by
 by_cases h:0<=aG x i j
 .obtain⟨o,k,b,a⟩:=sM x i j h;have:=(zE.1 a).1;omega
 .omega
def Tp{A B:Prop}(k:B)(h:ar B->A:=by intro q7;(first|refine bh ?_|refine aE ?_|(refine' aj ?hc ?_;(case hc=>first|exact An _ _ (by assumption)|exact nd _ _ (by assumption)|exact FA _ _ _ (by assumption) (by assumption))));exact q7.1):A:=h ⟨k⟩
def bh5(x:ak)(i j:Int)(f:an)(hl:x.kz.length<=1000000)(r:∀k∈x.kz,k.fields.length<=1000000)(g:fieldAt x i j=some f):APure prog 179 [aw x,iD i,iD j] (.tup [iD (cz x i j f).1,bT (cz x i j f).2]):=by
 refine ap func179 ntmps179 λt=>?_;obtain⟨h0,h1,k,s,n⟩:=GH g;have l:=sL x i j;by_cases hu:aG x i j<0
 .have ht:cz x i j f=(-1,zf):=by simp[cz,sO hu]
  repeat' first|refine Tp ?_|intro b;conv=>whnf|refine bg.mk λy hy=>?_|(refine aZ ?_;constructor<;>intro hc)
  rw[ht];exact Rt.vs (Vs.tup (fF.cons (Vs.refl _ _) (fF.cons (Vs.le aG0) (fF.nil _))))
 .obtain⟨a,o⟩:∃a,x.kz[(aG x i j).toNat]?=some a:=⟨_,zD (by omega)⟩
  have q:=r a (zG o);have e:=sP (f:=f) hu o;have p:=KW a f.of
  repeat' first|refine Tp ?_|intro b;conv=>whnf|refine bg.mk λy hy=>?_|(refine aZ ?_;constructor<;>intro hc)
  .have ht:cz x i j f=(-1,zf):=by simp only[cz,e,am8 (x:=x) (i:=aG x i j) (j:=bb a f.of) (by omega)]
   rw[ht];exact Rt.vs (Vs.tup (fF.cons (Vs.refl _ _) (fF.cons (Vs.le aG0) (fF.nil _))))
  .have ht:cz x i j f=(y.kind,y):=by simp only[cz,e,K9 (x:=x) (i:=aG x i j) (j:=bb a f.of) (by omega) (by omega) o,hy]
   rw[ht];exact Rt.vs (Vs.refl _ _)
end
section
open Go
def bq3{A B:Prop}(k:B)(h:ar B->A:=by intro q7;(first|refine bh ?_|refine aE ?_|(refine' aj ?hc ?_;(case hc=>first|exact An _ _ (by assumption)|exact bh5 _ _ _ _ (by assumption) (by assumption) (by assumption))));exact q7.1):A:=h ⟨k⟩
def bh4(x:ak)(i j up:Int)(f:an)(hl:x.kz.length<=1000000)(l:∀k∈x.kz,k.fields.length<=1000000)(a:fieldAt x i j=some f):APure prog 133 [aw x,iD i,iD j,iD up] (iD (GQ x i j f up)):=by
 refine ap func133 ntmps133 λn=>?_;obtain⟨h0,h1,k,g,e⟩:=GH a
 repeat' first|refine bq3 ?_|intro b;conv=>whnf|(refine aZ ?_;constructor<;>intro hc)
 all_goals(refine Rt.pure (zM iD ?_);unfold GQ;(repeat' split)<;>first|rfl|omega)
def pU(s:ByteArray):(s.toList==(⟨#[]⟩:ByteArray).toList)=dz s:=by
 unfold dz;have:(⟨#[]⟩:ByteArray).toList=[]:=by rw[ByteArray.toList_eq]
 rw[this]
 cases s.toList<;>rfl
def Tl{A B:Prop}(k:B)(h:ar B->A:=by intro q7;(first|refine bh ?_|refine aE ?_|(refine' aj ?hc ?_;(case hc=>first|exact nd _ _ (by assumption)|exact FA _ _ _ (by assumption) (by assumption)|exact aZ8 _ _ _ _ (by assumption) (by assumption) (by assumption)|exact bh4 _ _ _ _ _ (by assumption) (by assumption) (by assumption))));exact q7.1):A:=h ⟨k⟩
def Y2{p:Prop}(h:p:=by
 exact⟨q+1,rfl,rfl,⟨by omega,λm z hm hz=>by
  by_cases e:m=q
  .subst e;rw[show((m:Int)).toNat=m from rfl,hz]at hy;cases hy;assumption
  .exact hno m z (by omega) hz⟩,by omega⟩):p:=h
def bh1(x:ak)(i j:Int)(f:an)(hl:x.kz.length<=1000000)(u:∀k∈x.kz,k.fields.length<=1000000)(o:x.lz.length<=1000000)(g:fieldAt x i j=some f):APure prog 86 [aw x,iD i,iD j] (iD (cP x i j f)):=by
 refine ap func86 ntmps86 λw=>?_;obtain⟨h0,h1,k,n,r⟩:=GH g;have t:=u k (zG n);have a:dN x i=some k:=by simp[dN,h0,n]
 have s:=KW k f.of
 repeat' first|refine Tl ?_|intro b;conv=>whnf|refine bg.mk λy hy=>?_|(refine aZ ?_;constructor<;>intro hc)
 all_goals try
  (refine Rt.pure (zM iD ?_);(try simp only[pU,zL,zR,zI,List.length_cons,List.length_nil,zY,Nat.reduceAdd]at *);unfold cP;(repeat' split)<;>first|rfl|omega|(unfold rN;rw[a];(repeat' split)<;>first|rfl|omega|(simp_all;done)|(simp_all;omega)))
 have U:cP x i j f=if x.lz.any (λl=>seq l.name f.of)then 0 else 12:=by
  unfold cP;rw[if_neg (by omega),if_neg (by omega),if_neg (by omega),if_neg (by omega),if_pos (by omega)]
 rw[U];refine gD mixed ai (γ:=Nat) (λq=>[(10,iD q)]) (λ_=>[(b,.cells 81 (aA f))]) (λq=>q<=x.lz.length/\∀m y,m<q->x.lz[m]?=some y->seq y.name f.of=false) (λq=>x.lz.length-q) 0 rfl rfl ⟨by omega,by omega⟩ ?_;rintro q ⟨v,hno⟩
 repeat' first|refine Tl ?_|intro b;conv=>whnf|refine bg.mk λy hy=>?_|(refine aZ ?_;constructor<;>intro hc)
 .refine Rt.pure (zM iD ?_);rw[if_pos (wC.2 ⟨y,zG hy,by assumption⟩)]
 .exact Y2
 .refine Rt.pure (zM iD ?_);rw[if_neg];rw[wC];rintro⟨y,hy,hs⟩;obtain⟨m,hm⟩:=yO hy;have:=hno m y (by have:=(zE.1 hm).1;omega) hm;rw[this]at hs;cases hs
end
section
open Go
def neE(s:ByteArray):(!(s.toList==(⟨#[]⟩:ByteArray).toList))=!dz s:=by rw[pU]
def bD0(a:List ByteArray)(b:List Int):(a.isEmpty&&b.isEmpty)=decide (¬(0<(a.length:Int)+b.length)):=by
 cases a<;>cases b<;>simp<;>omega
def Tk{A B:Prop}(k:B)(h:ar B->A:=by intro q7;(first|refine bh ?_|refine aE ?_|(refine' aj ?hc ?_;(case hc=>first|exact HU|exact ao6 _|exact R2 _ _ _|exact aA5 _ _ _ _|exact aV7 _ (by assumption) (by assumption))));exact q7.1):A:=h ⟨k⟩
def mj{p:Prop}(h:p:=by
 repeat' first|refine Tk ?_|(refine aZ ?_;constructor<;>intro hc)
 all_goals(refine Rt.pure (zM bD ?_);(try simp only[neE,pU]at *);simp[dV,m9,fy,iU,iV,jC,iT,eO,bD0, *])):p:=h
def ba8(f:an)(w:f.words.length<=1000000)(g:f.wz.length<=1000000)(k:f.kind=0):APure prog 174 [bT f] (bD (dV f)):=by
 refine ap func174 ntmps174 λa=>?_;have HU:APure prog 228 [iD f.kind] (.tup [bD false,bD false,bD true,bD false,bD false]):=by rw[k];exact mI 0
 exact mj
def ba7(f:an)(w:f.words.length<=1000000)(g:f.wz.length<=1000000)(k:f.kind=1):APure prog 174 [bT f] (bD (dV f)):=by
 refine ap func174 ntmps174 λa=>?_;have HU:APure prog 228 [iD f.kind] (.tup [bD true,bD false,bD true,bD true,bD false]):=by rw[k];exact mI 1
 exact mj
def ba6(f:an)(w:f.words.length<=1000000)(g:f.wz.length<=1000000)(k:f.kind=2):APure prog 174 [bT f] (bD (dV f)):=by
 refine ap func174 ntmps174 λa=>?_;have HU:APure prog 228 [iD f.kind] (.tup [bD false,bD false,bD true,bD true,bD false]):=by rw[k];exact mI 2
 exact mj
def ba5(f:an)(w:f.words.length<=1000000)(g:f.wz.length<=1000000)(k:f.kind=3):APure prog 174 [bT f] (bD (dV f)):=by
 refine ap func174 ntmps174 λa=>?_;have HU:APure prog 228 [iD f.kind] (.tup [bD false,bD false,bD false,bD false,bD true]):=by rw[k];exact mI 3
 exact mj
def ba4(f:an)(w:f.words.length<=1000000)(g:f.wz.length<=1000000)(k:f.kind=4):APure prog 174 [bT f] (bD (dV f)):=by
 refine ap func174 ntmps174 λa=>?_;have HU:APure prog 228 [iD f.kind] (.tup [bD true,bD false,bD true,bD true,bD false]):=by rw[k];exact mI 4
 exact mj
def ba3(f:an)(w:f.words.length<=1000000)(g:f.wz.length<=1000000)(k:f.kind=5):APure prog 174 [bT f] (bD (dV f)):=by
 refine ap func174 ntmps174 λa=>?_;have HU:APure prog 228 [iD f.kind] (.tup [bD true,bD false,bD true,bD true,bD false]):=by rw[k];exact mI 5
 exact mj
def ba2(f:an)(w:f.words.length<=1000000)(g:f.wz.length<=1000000)(k:f.kind=6):APure prog 174 [bT f] (bD (dV f)):=by
 refine ap func174 ntmps174 λa=>?_;have HU:APure prog 228 [iD f.kind] (.tup [bD true,bD false,bD false,bD false,bD false]):=by rw[k];exact mI 6
 exact mj
def ba1(f:an)(w:f.words.length<=1000000)(g:f.wz.length<=1000000)(k:f.kind=7):APure prog 174 [bT f] (bD (dV f)):=by
 refine ap func174 ntmps174 λa=>?_;have HU:APure prog 228 [iD f.kind] (.tup [bD true,bD true,bD true,bD true,bD false]):=by rw[k];exact mI 7
 exact mj
def ba0(f:an)(w:f.words.length<=1000000)(g:f.wz.length<=1000000)(k:f.kind=8):APure prog 174 [bT f] (bD (dV f)):=by
 refine ap func174 ntmps174 λa=>?_;have HU:APure prog 228 [iD f.kind] (.tup [bD true,bD true,bD false,bD false,bD false]):=by rw[k];exact mI 8
 exact mj
def aZ9(f:an)(w:f.words.length<=1000000)(g:f.wz.length<=1000000)(k:f.kind<0\/8<f.kind):APure prog 174 [bT f] (bD (dV f)):=by
 refine ap func174 ntmps174 λa=>?_;have HU:=mI f.kind;unfold AM at HU;have:dV f=false:=by
  have:fy f=false:=by unfold fy;repeat(rw[if_neg (by omega)])
  simp[dV,this]
 rw[this]
 repeat' first|refine Tk ?_|(refine aZ ?_;constructor<;>intro hc)
 all_goals(refine Rt.pure (zM bD ?_);rfl)
def aQ7(f:an)(w:f.words.length<=1000000)(g:f.wz.length<=1000000):APure prog 174 [bT f] (bD (dV f)):=by
 by_cases hn:f.kind<0\/8<f.kind
 .exact aZ9 f w g hn
 .have:f.kind=0\/f.kind=1\/f.kind=2\/f.kind=3\/f.kind=4\/f.kind=5\/f.kind=6\/f.kind=7\/f.kind=8:=by omega
  rcases this with h|h|h|h|h|h|h|h|h
  .exact ba8 f w g h
  .exact ba7 f w g h
  .exact ba6 f w g h
  .exact ba5 f w g h
  .exact ba4 f w g h
  .exact ba3 f w g h
  .exact ba2 f w g h
  .exact ba1 f w g h
  .exact ba0 f w g h
end
end Go.Proofs.YtilnpcolgcmofaaGreatDoor
