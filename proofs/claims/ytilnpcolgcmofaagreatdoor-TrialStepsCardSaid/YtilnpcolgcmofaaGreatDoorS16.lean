/- A part of the proof: He Cv SrcP R09d. -/
import Derived.Test.YtilnpcolgcmofaaGreatDoorS15
set_option maxRecDepth 100000
set_option maxHeartbeats 20000000
set_option linter.all false
namespace Go.Proofs.YtilnpcolgcmofaaGreatDoor
open Tryz
section
open Go
theorem LB{p:Prop}(h:p:=by
 have hl:j.toNat<l.length:=by omega
 rw[qA,zD hl];simp[List.getD_eq_getElem?_getD,hl]):p:=h
theorem bB4(l:List Int){j:Int}(h:0<=j/\j<l.length):(l.map λz=>[iD z])[j.toNat]?=some [iD (l.getD j.toNat 0)]:=LB
theorem WY(l:List ByteArray){j:Int}(h:0<=j/\j<l.length)(e:ByteArray):(l.map λz=>[sD z])[j.toNat]?=some [sD (l.getD j.toNat e)]:=LB
theorem Cn(l:List Int){j:Int}(h:0<=j/\j<l.length):∃z∈l,(l.map λz=>[iD z])[j.toNat]?=some [iD z]:=by
 have a:j.toNat<l.length:=by omega
 exact⟨l[j.toNat],wE a,by rw[qA,zD a];rfl⟩
abbrev dB(b:Nat)(nm:ByteArray)(lo h:Int)(f:Value):Nat×aE:=(b,.cells 78 [sD nm,iD lo,iD h,.v f])
abbrev zK:List D:=[.v (zv ZV.str),.v (zv (ZV.int IntKind.i64)),.v (zv (ZV.int IntKind.i64)),.v (zv ZV.sl)]
structure KSt where
 pos:Int
 fv:Value
 rs:List (List D)
 sf:af
 ks:List au
 sk:af
abbrev kS(b:Nat)(xs:List Int)(a c:Nat)(nm:ByteArray)(lo h:Int)(g:KSt):af:=aB b xs g.pos::dB a nm lo h g.fv::(c,.cells 78 zK)::(g.sf++g.sk)
structure KI(a:Option Addr)(n c:Nat)(fs:List am)(g:KSt):Prop where
 row:ae 81 8 g.rs g.fv g.sf
 le:dM g.rs (fs.map aH)
 kr:ae 78 4 (g.ks.map bv) (.slice a n c) g.sk
 kl:g.ks.length=n
theorem BQ(l:List am):((l.map aH).all λy=>y.all dH)=true:=by rw[yA];intro y h;obtain⟨f,_,rfl⟩:=xM.1 h;rfl
theorem Ld.rowm{P:Program}{o:Oper}{ρ:Operand->D}{σ:af}{b f k:Nat}{K:D->Prop}{tb:TypeId}{cs x:List D}(e:(b,aE.cells tb cs)∈σ)(hx:x.length=k)(g:0<k)(c:∀j,j<k->cs[f+j]?=x[j]?)(h:W (K (.agg x))):Ld P o ρ σ b f true k K:=by
 obtain⟨j,d⟩:=yO e;have l:f+k<=cs.length:=by
  have:=c (k-1) (by omega);rw[zD (by omega:k-1<x.length)]at this;have:=(zE.1 this).1;omega
 refine⟨.inl ⟨j,tb,cs,d,l,?_⟩⟩;have:(cs.drop f).take k=x:=by
  apply xY;intro i;rw[yX];split
  .rename_i a;rw[xR];exact c i a
  .rename_i a;rw[yY.2 (by omega)]
 rw[this];exact h.h
theorem gt.name0{s k:List au}{nm:ByteArray}{f1:List am}(h:gt s nm f1 k){y:au}(c:k[0]?=some y):∃z,s[0]?=some z/\z.name=y.name:=by
 cases h with
 |none h=>subst h;simp at c
 |of=>exact⟨y,c,rfl⟩
 |part t z l i a b sm d=>
  rw[xP]at c;split at c
  .rename_i e;subst e;split at c
   .cases c;exact⟨z,d,rfl⟩
   .cases c
  .exact⟨y,c,rfl⟩
theorem aG.two{f:List am}(h:aG f):f.length<=2:=by cases h<;>simp
theorem bq4{A B:Prop}(k:B)(h:ar B->A:=by intro q7;(first|fail|(with_reducible refine Bx.l ?_)|fail|((with_reducible refine Cb.go ?h ?_);(case h=>decide +kernel)));exact q7.1):A:=h ⟨k⟩
theorem aC{A B:Prop}(k:B)(h:ar B->A:=by intro q7;(first|refine bA ?_|refine bq4 ?_|(refine' ah ?hc ?_;(case hc=>fail)));exact q7.1):A:=h ⟨k⟩
theorem dW{p:Prop}(h:p:=by first|exact Sc.sl (.cons_cons _ (.cons_cons _ (.cons_cons _ (yG _ _))))|exact Sc.perm (zH _)|exact Sc.perm (List.Perm.swap _ _ _)|exact Sc.perm (List.Perm.cons _ (List.Perm.swap _ _ _))|exact Sc.perm ((List.Perm.swap _ _ _).trans (List.Perm.cons _ (List.Perm.swap _ _ _)))|exact Sc.perm ((List.Perm.cons _ (List.Perm.swap _ _ _)).trans (List.Perm.swap _ _ _))):p:=h
theorem gk{p:Prop}(h:p:=by(refine iT λa=>?_;simp only[dB,aB,List.append_eq,List.nil_append,iS,jP,jh,sD,iD,bD];omega)):p:=h
theorem qu{p:Prop}(h:p:=by(refine iT λa=>?_;simp only[dB,aB,List.append_eq,List.nil_append,iS,jP,jh,sD,iD,bD];omega)):p:=h
theorem O3{p:Prop}(h:p:=by rw[show 0+((tw0:Nat):Int).toNat*4+3=tw0*4+3 by simp];exact hc3):p:=h
theorem bC1{p:Prop}(h:p:=by first|exact zH _|(refine iT λa=>?_;simp only[dB,aB,List.append_eq,List.nil_append,iS,jP,jh,sD,iD,bD];omega)):p:=h
theorem bC0{p:Prop}(h:p:=by first|omega|(simp only[zI,zL,List.length_cons,List.length_nil];omega)):p:=h
theorem bB9{p:Prop}(h:p:=by rw[show 0+((tw0:Nat):Int).toNat*4+3=tw0*4+3 by simp];exact(zE.1 hc3).1):p:=h
theorem cq0{p:Prop}(h:p:=by
 rintro⟨p3,fv3,rs3,sf3,sm⟩ ⟨⟨hp3,hp3'⟩,hr4,hle4,hsm⟩;simp only at hp3 hp3' hr4 hle4 hsm⊢;have hsl:sm.length<=1:=by rcases hsm with rfl|⟨_,_,_,rfl⟩<;>simp
 repeat' first|refine aC ?_|intro b;conv=>whnf
 refine Ld.cellm (tb:=78) (cs:=cs2) (by simp) O3 ?_
 repeat' first|refine aC ?_|intro b;conv=>whnf
 refine CE.pure HT ?_;by_cases ht:gE y.fields oJ<0
 .have h8:=dl xs p3 3;have h8':=h8.2 (by omega)
  repeat' first|refine aC ?_|intro b;conv=>whnf
  ((refine ba (ek xs hx bm _ _ ⟨by omega,by omega⟩) (zH ([aB bm xs _]++_)) (λs'=>s'++_) (λs'=>zH _) ?_);(rintro _ _ ⟨rfl,rfl⟩))
  repeat' first|refine aC ?_|intro b;conv=>whnf
  refine Bc.l ?_;by_cases hz8:av xs p3 3=0
  .have h9:=dl xs (p3+1) 3;have h9':=h9.2 (by omega);have h10:=dl xs (p3+1+1) 8;have h10':=h10.2 (by omega);have hrl:rs3.length<=3:=by have:=hle4.len;simp at this;omega
   repeat' first|refine aC ?_|intro b;conv=>whnf
   ((refine ba (ek xs hx bm _ _ ⟨by omega,by omega⟩) (zH ([aB bm xs _]++_)) (λs'=>s'++_) (λs'=>zH _) ?_);(rintro _ _ ⟨rfl,rfl⟩))
   repeat' first|refine aC ?_|intro b;conv=>whnf
   refine jI ?_;refine lu mixed ai rfl [0,2,3,4] 8 (jE [1,5,9,10,11]) (.two 1 (.one 5 (.fst 6 (.fst 7 (.fst 8 (.one 9 (.one 10 (.one 11 .done))))))) 5 (.fst 6 (.fst 7 (.fst 8 (.one 1 (.one 9 (.one 10 (.one 11 .done)))))))) (γ:=Value×af) (λ_=>[]) (λg=>aB bm xs (p3+1+1+1)::dB b7 (br ks.length) lo (lo+av xs (pos+1) 5) g.1::(b4,.cells 78 zK)::(g.2++[(b2,.cells 78 cs2)])) (λg=>ae 81 8 (rs3++[bI (fp (av xs (p3+1) 3) (av xs (p3+1+1) 8)) aO aO]) g.1 g.2) (by decide +kernel) ?_ ?_
   .repeat' first|refine aC ?_|intro b;conv=>whnf|(refine And.intro ?_ ?_<;>(conv=>whnf))|((refine ba (ek xs hx bm _ _ ⟨by omega,by omega⟩) (zH ([aB bm xs _]++_)) (λs'=>s'++_) (λs'=>zH _) ?_);(rintro _ _ ⟨rfl,rfl⟩))|((refine ba (ek xs hx bm _ _ ⟨by omega,by omega⟩) (show List.Perm (_::aB bm xs _::_) ([aB bm xs _]++(_::_)) from List.Perm.swap _ _ _) (λs'=>s'++(_::_)) (λs'=>zH _) ?_);(rintro _ _ ⟨rfl,rfl⟩))|(refine Ap.go rfl rfl rfl rfl hr4 (τ:=aB bm xs (p3+1+1+1)::dB b7 (br ks.length) lo (lo+av xs (pos+1) 5) fv3::(b4,.cells 78 zK)::[(b2,.cells 78 cs2)]) gk rfl (zs:=rs3++[bI (fp (av xs (p3+1) 3) (av xs (p3+1+1) 8)) aO aO]) rfl (by simp;omega) (by simp;omega) (λs'=>aB bm xs (p3+1+1+1)::dB b7 (br ks.length) lo (lo+av xs (pos+1) 5) fv3::(b4,.cells 78 zK)::(s'++[(b2,.cells 78 cs2)])) (λs'=>qu) (λa6 c6 s6 hr6=>?_))
    all_goals exact⟨(_,s6),(aj aP),dW,hr6⟩
   .rintro⟨fv6,sf6⟩ hr6;simp only at hr6⊢
    repeat' first|refine aC ?_|intro b;conv=>whnf
    refine jI ?_;refine lu mixed ai rfl [0,1,3,4,5,6,9] 10 (jE [2,7,8,10,13,14,15,16]) (.three 2 (.two 7 (.two 8 (.one 10 (.fst 11 (.fst 12 (.one 13 (.one 14 (.one 15 (.one 16 .done))))))) 10 (.fst 11 (.fst 12 (.one 8 (.one 13 (.one 14 (.one 15 (.one 16 .done)))))))) 10 (.fst 11 (.fst 12 (.one 7 (.one 8 (.one 13 (.one 14 (.one 15 (.one 16 .done))))))))) 7 (.two 2 (.two 8 (.one 10 (.fst 11 (.fst 12 (.one 13 (.one 14 (.one 15 (.one 16 .done))))))) 10 (.fst 11 (.fst 12 (.one 8 (.one 13 (.one 14 (.one 15 (.one 16 .done)))))))) 10 (.fst 11 (.fst 12 (.one 2 (.one 8 (.one 13 (.one 14 (.one 15 (.one 16 .done))))))))) 10 (.fst 11 (.fst 12 (.two 2 (.one 7 (.one 8 (.one 13 (.one 14 (.one 15 (.one 16 .done)))))) 7 (.one 2 (.one 8 (.one 13 (.one 14 (.one 15 (.one 16 .done)))))))))) (γ:=Option Addr×Nat×af) (λ_=>[]) (λg=>aB bm xs (p3+1+1+1)::dB b7 (br ks.length) lo (lo+av xs (pos+1) 5) fv6::(b4,.cells 78 zK)::(sf6++((b2,.cells 78 (cs2.set (tw0*4+3) (.v (.slice g.1 (y.fields.map aH++[bI (bf (br ks.length)) aO aO]).length g.2.1))))::g.2.2))) (λg=>ae 81 8 (y.fields.map aH++[bI (bf (br ks.length)) aO aO]) (.slice g.1 (y.fields.map aH++[bI (bf (br ks.length)) aO aO]).length g.2.1) g.2.2) (by decide +kernel) ?_ ?_
    .repeat' first|refine aC ?_|intro b;conv=>whnf|(refine And.intro ?_ ?_<;>(conv=>whnf))|(refine Ld.cellm (tb:=78) (cs:=cs2) (by simp) O3 ?_)|(refine Ld.cellm (tb:=78) (cs:=[sD (br ks.length),iD lo,iD (lo+av xs (pos+1) 5),.v fv6]) (by simp) rfl ?_)|(refine Ap.go rfl rfl rfl rfl hr8 (τ:=aB bm xs (p3+1+1+1)::dB b7 (br ks.length) lo (lo+av xs (pos+1) 5) fv6::(b4,.cells 78 zK)::(sf6++[(b2,.cells 78 cs2)])) bC1 rfl (zs:=y.fields.map aH++[bI (bf (br ks.length)) aO aO]) rfl (by simp only[zI,zL,List.length_cons,List.length_nil];omega) bC0 (λs'=>aB bm xs (p3+1+1+1)::dB b7 (br ks.length) lo (lo+av xs (pos+1) 5) fv6::(b4,.cells 78 zK)::(sf6++((b2,.cells 78 cs2)::s'))) (λs'=>qu) (λa9 c9 s9 hr9=>?_))|(refine Ap.go rfl rfl rfl rfl (ae.e0 81 8 (some ⟨b,0,none⟩)) (zH ([]++_)) (BQ y.fields) (zs:=y.fields.map aH) rfl (by rw[zL];omega) (by rw[zL];omega) (λs'=>s'++_) (λs'=>zH _) (λa8 c8 s8 hr8=>?_))|(refine Sv.cellm (tb:=78) (cs:=cs2) (cs':=cs2.set (tw0*4+3) (.v (.slice a9 (y.fields.map aH++[bI (bf (br ks.length)) aO aO]).length c9))) (τ:=aB bm xs (p3+1+1+1)::dB b7 (br ks.length) lo (lo+av xs (pos+1) 5) fv6::(b4,.cells 78 zK)::(sf6++s9)) gk bB9 rfl (by rw[show 0+((tw0:Nat):Int).toNat*4+3=tw0*4+3 by simp]) ?_)
     all_goals exact⟨(a9,c9,s9),(aj aP),Sc.perm gk,hr9⟩
    .rintro⟨a9,c9,s9⟩ hr9;simp only at hr9⊢;have hidx:=(zE.1 hc3).1;have hkr:=pB1 (d:=xn (y.fields++[bf (br ks.length)])) hrow (show(ks.map bv)[tw0]?=some (bv y) by rw[qA,hy];rfl) (show 3<4 by omega);have hls:(ks.map bv).set tw0 ((bv y).set 3 (xn (y.fields++[bf (br ks.length)])))=(ks.set tw0 ⟨y.name,y.lo,y.hi,y.fields++[bf (br ks.length)]⟩).map bv:=by rw[wL];rfl
     rw[hls]at hkr;have le9:dM (y.fields.map aH++[bI (bf (br ks.length)) aO aO]) ((y.fields++[bf (br ks.length)]).map aH):=by rw[yB];exact(dM.refl _).append (.cons (.cons (Le.refl _) (.cons (Le.refl _) (.cons (Le.refl _) (.cons (Le.refl _) (.cons (Le.refl _) (.cons (Le.refl _) (.cons (gp 1) (.cons (gp 1) .nil)))))))) .nil)
     have hfz:=Sc.frz (b:=b2) (t:=78) (τ:=aB bm xs (p3+1+1+1)::dB b7 (br ks.length) lo (lo+av xs (pos+1) 5) fv6::(b4,.cells 78 zK)::sf6) (xI (a:=D.v (.slice a9 (y.fields.map aH++[bI (bf (br ks.length)) aO aO]).length c9)) hidx) hr9 le9;rw[List.set_set]at hfz;change Sc _ ((b2,.cells 78 (cs2.set (tw0*4+3) (xn (y.fields++[bf (br ks.length)]))))::_)at hfz;have hle6:dM (rs3++[bI (fp (av xs (p3+1) 3) (av xs (p3+1+1) 8)) aO aO]) ((cT idl::hG y l9 hi::(sm++[fp (av xs (p3+1) 3) (av xs (p3+1+1) 8)])).map aH):=by
      have:=hle4.append (dM.cons (x:=bI (fp (av xs (p3+1) 3) (av xs (p3+1+1) 8)) aO aO) (y:=aH (fp (av xs (p3+1) 3) (av xs (p3+1+1) 8))) (.cons (Le.refl _) (.cons (Le.refl _) (.cons (Le.refl _) (.cons (Le.refl _) (.cons (Le.refl _) (.cons (Le.refl _) (.cons (gp 1) (.cons (gp 1) .nil)))))))) .nil)
      simpa using this
     repeat' first|refine aC ?_|intro b;conv=>whnf
     exact⟨(⟨p3+1+1+1,fv6,_,sf6,ks.set tw0 ⟨y.name,y.lo,y.hi,y.fields++[bf (br ks.length)]⟩,[(b2,.cells 78 (cs2.set (tw0*4+3) (xn (y.fields++[bf (br ks.length)]))))]⟩,hG y l9 hi::(sm++[fp (av xs (p3+1) 3) (av xs (p3+1+1) 8)])),(aj aP),(Sc.perm gk).trans (hfz.trans (Sc.perm gk)),⟨by simp only;omega,by simp only;omega⟩,⟨hr6,hle6,hkr,by simp⟩,gt.part tw0 y l9 hi _ _ sm hy hl9 hhi hsm ht ⟨h9.1,h9'⟩ ⟨h10.1,h10'⟩,by simp;omega⟩
  .repeat' first|refine aC ?_|intro b;conv=>whnf
   exact⟨(⟨p3+1,fv3,rs3,sf3,ks,[(b2,.cells 78 cs2)]⟩,hG y l9 hi::sm),(aj aP),dW,⟨by simp only;omega,by simp only;omega⟩,⟨hr4,hle4,hrow,rfl⟩,gt.of tw0 y l9 hi sm hy hl9 hhi hsm,by simp;omega⟩
 .repeat' first|refine aC ?_|intro b;conv=>whnf
  refine Bc.l ?_
  repeat' first|refine aC ?_|intro b;conv=>whnf
  exact⟨(⟨p3,fv3,rs3,sf3,ks,[(b2,.cells 78 cs2)]⟩,hG y l9 hi::sm),(aj aP),dW,⟨by simp only;omega,by simp only;omega⟩,⟨hr4,hle4,hrow,rfl⟩,gt.of tw0 y l9 hi sm hy hl9 hhi hsm,by simp;omega⟩):p:=h
theorem cq1{p:Prop}(h:p:=by
 rintro⟨p4,fv4,rs4,sf4,f2⟩ ⟨⟨hp4,hp4'⟩,hr4,hle4,hf2⟩;simp only at hp4 hp4' hr4 hle4 hf2⊢;have hl2:f2.length<=1:=by rcases hf2 with rfl|⟨_,_,_,rfl⟩<;>simp
 have hl4:rs4.length<=10:=by have:=hle4.len;simp at this;omega
 repeat' first|refine aC ?_|intro b;conv=>whnf
 refine ba (aD6 xs hx bm _ ⟨by omega,by omega⟩) (zH ([aB bm xs _]++_)) (λs'=>s'++_) (λs'=>zH _) ?_;rintro _ _ ⟨p5,fs1,⟨hp5,hp5'⟩,rfl,rfl,hP1⟩;have hn1:=hP1.two
 repeat' first|refine aC ?_|intro b;conv=>whnf
 refine Ap.go rfl rfl rfl rfl hr4 (τ:=aB bm xs p5::dB b7 (br ks.length) lo (lo+av xs (pos+1) 5) fv4::(b4,.cells 78 zK)::sk1) gk (BQ fs1) (zs:=rs4++fs1.map aH) rfl (by rw[zI,zL];omega) (by rw[zI,zL];omega) (λs'=>aB bm xs p5::dB b7 (br ks.length) lo (lo+av xs (pos+1) 5) fv4::(b4,.cells 78 zK)::(s'++sk1)) (λs'=>qu) (λa14 c14 s14 hr14=>?_);have le14:dM (rs4++fs1.map aH) ((cT idl::(f1++(f2++fs1))).map aH):=by
  have:=hle4.append (dM.refl (fs1.map aH))
  simpa using this
 have hl14:(rs4++fs1.map aH).length<=12:=by rw[zI,zL];omega
 have h15:=dl xs p5 2
 repeat' first|refine aC ?_|intro b;conv=>whnf
 ((refine ba (ek xs hx bm _ _ ⟨by omega,by omega⟩) (zH ([aB bm xs _]++_)) (λs'=>s'++_) (λs'=>zH _) ?_);(rintro _ _ ⟨rfl,rfl⟩))
 generalize rs4++fs1.map aH=rs14 at *
 repeat' first|refine aC ?_|intro b;conv=>whnf
 refine Bc.j ?_;refine I7 mixed ai (γ:=Int×Value×List (List D)×af×List am) (λ_=>[]) (λg=>aB bm xs g.1::dB b7 (br ks.length) lo (lo+av xs (pos+1) 5) g.2.1::(b4,.cells 78 zK)::(g.2.2.2.1++sk1)) (λg=>(pos+3<=g.1/\g.1<=pos+80)/\ae 81 8 g.2.2.1 g.2.1 g.2.2.2.1/\dM g.2.2.1 ((cT idl::(f1++(f2++(fs1++g.2.2.2.2)))).map aH)/\aG g.2.2.2.2/\(g.2.2.2.2=[]\/∃h hs,g.2.2.2.2=h::hs/\gE (cT idl::(f1++(f2++fs1))) h.name<0)) ?_ ?_
 ·(((with_reducible refine W.mk ?_);(conv=>whnf)))
  refine Bc.l ?_;by_cases hz15:av xs p5 2=0
  .repeat' first|refine aC ?_|intro b;conv=>whnf
   refine ba (aD6 xs hx bm _ ⟨by omega,by omega⟩) (zH ([aB bm xs _]++_)) (λs'=>s'++_) (λs'=>zH _) ?_;rintro _ _ ⟨p6,fs2,⟨hp6,hp6'⟩,rfl,rfl,hP2⟩;have hn2:=hP2.two
   cases fs2 with
   |nil=>
    repeat' first|refine aC ?_|intro b;conv=>whnf
    refine Dr.l (by decide +kernel) ?_
    repeat' first|refine aC ?_|intro b;conv=>whnf
    refine Bc.l ?_
    repeat' first|refine aC ?_|intro b;conv=>whnf
    exact⟨(p6,_,_,s14,[]),(aj aP),dW,⟨by simp only;omega,by simp only;omega⟩,hr14,by simpa using le14,aG.none,.inl rfl⟩
   |cons h2 fs2=>
    have HH:=aO1 (cT idl::(f1++(f2++fs1))) h2.name (by simp only[List.length_cons,zI];omega);have h20:(h2::fs2)[Int.toNat 0]?=some h2:=rfl
    repeat' first|refine aC ?_|intro b;conv=>whnf
    refine Dr.l (by decide +kernel) ?_
    repeat' first|refine aC ?_|intro b;conv=>whnf
    refine Cp.pk (gK.peek (.cons (Pk.rowLe (τ:=aB bm xs p6::dB b7 (br ks.length) lo (lo+av xs (pos+1) 5) (.slice a14 rs14.length c14)::(b4,.cells 78 zK)::sk1) hr14 le14 gk) (.cons (Pk.same _) .nil)) HH rfl) ?_;by_cases hx2:gE (cT idl::(f1++(f2++fs1))) h2.name<0
    .repeat' first|refine aC ?_|intro b;conv=>whnf
     refine Bc.l ?_
     repeat' first|refine aC ?_|intro b;conv=>whnf
     refine Ap.go rfl rfl rfl rfl hr14 (τ:=aB bm xs p6::dB b7 (br ks.length) lo (lo+av xs (pos+1) 5) (.slice a14 rs14.length c14)::(b4,.cells 78 zK)::sk1) gk (BQ (h2::fs2)) (zs:=rs14++(h2::fs2).map aH) rfl (by rw[zI,zL];omega) (by rw[zI,zL];omega) (λs'=>aB bm xs p6::dB b7 (br ks.length) lo (lo+av xs (pos+1) 5) (.slice a14 rs14.length c14)::(b4,.cells 78 zK)::(s'++sk1)) (λs'=>qu) (λa16 c16 s16 hr16=>?_)
     repeat' first|refine aC ?_|intro b;conv=>whnf
     exact⟨(p6,_,_,s16,h2::fs2),(aj aP),dW,⟨by simp only;omega,by simp only;omega⟩,hr16,by have:=le14.append (dM.refl ((h2::fs2).map aH));simpa using this,hP2,.inr ⟨h2,fs2,rfl,hx2⟩⟩
    .repeat' first|refine aC ?_|intro b;conv=>whnf
     refine Bc.l ?_
     repeat' first|refine aC ?_|intro b;conv=>whnf
     exact⟨(p6,_,_,s14,[]),(aj aP),dW,⟨by simp only;omega,by simp only;omega⟩,hr14,by simpa using le14,aG.none,.inl rfl⟩
  .repeat' first|refine aC ?_|intro b;conv=>whnf
   exact⟨(p5+1,_,_,s14,[]),(aj aP),dW,⟨by simp only;omega,by simp only;omega⟩,hr14,by simpa using le14,aG.none,.inl rfl⟩
 .rintro⟨p7,fv7,rs7,sf7,p2⟩ ⟨⟨hp7,hp7'⟩,hr7,hle7,hP2,hp2⟩;simp only at hp7 hp7' hr7 hle7 hP2 hp2⊢;obtain⟨a17,c17,rfl⟩:=hr7.slice
  repeat' first|refine aC ?_|intro b;conv=>whnf
  refine Rs.c ai (m:=2) rfl rfl rfl rfl rfl rfl ?_
  repeat' first|refine aC ?_|intro b;conv=>whnf
  have hs1:∀z,z∈aQ (aB bm xs p7::sk1)->z∈aQ (aB bm xs p7::dB b7 (br ks.length) lo (lo+av xs (pos+1) 5) (.slice a17 rs7.length c17)::dB b4 (br ks.length) lo (lo+av xs (pos+1) 5) (.slice a17 rs7.length c17)::(sf7++sk1)):=by
   intro z hz;simp only[aQ,List.map_cons,yB,zU,zO]at hz⊢;rcases hz with hz|hz<;>simp[hz]
  have hs2:∀z,z∈aQ (aB bm xs p7::sk1)->z∈aQ (aB bm xs p7::dB b7 (br ks.length) lo (lo+av xs (pos+1) 5) (.slice a17 rs7.length c17)::dB b4 (br ks.length) lo (lo+av xs (pos+1) 5) (.slice a17 rs7.length c17)::sk1):=by
   intro z hz;simp only[aQ,List.map_cons,yB,zU,zO]at hz⊢;rcases hz with hz|hz<;>simp[hz]
  refine Rt.by (σ':=aB bm xs p7::sk1) (d':=fz ⟨br ks.length,lo,lo+av xs (pos+1) 5,cT idl::(f1++(f2++(fs1++p2)))⟩) (Vs.vd ⟨dB b7 (br ks.length) lo (lo+av xs (pos+1) 5) (.slice a17 rs7.length c17)::dB b4 (br ks.length) lo (lo+av xs (pos+1) 5) (.slice a17 rs7.length c17)::sf7,by(refine iT λa=>?_;simp only[dB,aB,List.append_eq,List.nil_append,iS,jP,jh,sD,iD,bD];omega)⟩ (Vd.agg (.cons (Vd.same hs1 _) (.cons (Vd.same hs1 _) (.cons (Vd.same hs1 _) (.cons (Vd.rowLe (ρ:=aB bm xs p7::dB b7 (br ks.length) lo (lo+av xs (pos+1) 5) (.slice a17 rs7.length c17)::dB b4 (br ks.length) lo (lo+av xs (pos+1) 5) (.slice a17 rs7.length c17)::sk1) hr7 hle7 gk hs2) .nil)))))) ?_
  exact⟨p7,_,ks1,sk1,⟨by omega,by omega⟩,rfl,rfl,hkr1,⟨lo,av xs (pos+1) 5,idl,f1,f2,fs1,p2,hlo,⟨h2.1,h2'⟩,hid,rfl,hRef,hf2,hP1,hP2,hp2⟩⟩):p:=h
theorem BA(xs:List Int)(hx:eB xs)(bm:Nat)(pos:Int)(hp:0<=pos/\pos<=10000000)(ks:List au)(hks:ks.length<=2)(hfl:∀k∈ks,k.fields.length<=1000)(a:Option Addr)(c:Nat)(I:af)(hrow:ae 78 4 (ks.map bv) (.slice a ks.length c) I) :
  az prog 31 [ptr bm,.v (.slice a ks.length c)] (aB bm xs pos::I) (λd σ=>∃i k M J,(pos<=i/\i<=pos+100)/\d=fz k/\σ=aB bm xs i::J/\ae 78 4 (M.map bv) (.slice a ks.length c) J/\iO ks k M):=by
 have h1:=dl xs pos 6;have h1':=h1.2 (by omega);have h2:=dl xs (pos+1) 5;have h2':=h2.2 (by omega);obtain⟨lo,hlo,hlx⟩:=Cn [0,1,2,4,1,2] (j:=av xs pos 6) ⟨by omega,by simp;omega⟩;have hlob:0<=lo/\lo<=4:=by simp at hlo;omega
 refine cU func31 ntmps31 λBB=>?_
 repeat' first|refine aC ?_|intro b;conv=>whnf
 generalize b=b4
 ((refine ba (ek xs hx bm _ _ ⟨by omega,by omega⟩) (show List.Perm (_::aB bm xs _::_) ([aB bm xs _]++(_::_)) from List.Perm.swap _ _ _) (λs'=>s'++(_::_)) (λs'=>zH _) ?_);(rintro _ _ ⟨rfl,rfl⟩))
 repeat' first|refine aC ?_|intro b;conv=>whnf
 refine Ix.at hlx (by omega) ?_
 repeat' first|refine aC ?_|intro b;conv=>whnf
 refine Dr.r ?_
 (((with_reducible refine W.mk ?_);(conv=>whnf)))
 refine Dm.r ?_;refine W.mk ?_;refine sw mixed ai rfl [0,1,2,3,4,5,6] 5 (.two 7 (.two 8 (.two 9 (.one 10 (.one 11 .done)) 10 (.one 9 (.one 11 .done))) 10 (.one 8 (.one 9 (.one 11 .done)))) 10 (.one 7 (.one 8 (.one 9 (.one 11 .done))))) (γ:=Nat) (λg=>[(7,.v (.pointer (some ⟨g,0,none⟩)))]) (λg=>aB bm xs (pos+1+1)::dB g (br ks.length) lo (lo+av xs (pos+1) 5) (.slice none 0 0)::(b4,.cells 78 zK)::I) (λ_=>True) (by decide +kernel) ?_ ?_
 .repeat' first|refine aC ?_|intro b;conv=>whnf|(refine And.intro ?_ ?_<;>(conv=>whnf))|((refine ba (ek xs hx bm _ _ ⟨by omega,by omega⟩) (zH ([aB bm xs _]++_)) (λs'=>s'++_) (λs'=>zH _) ?_);(rintro _ _ ⟨rfl,rfl⟩))|((refine ba (ek xs hx bm _ _ ⟨by omega,by omega⟩) (show List.Perm (_::aB bm xs _::_) ([aB bm xs _]++(_::_)) from List.Perm.swap _ _ _) (λs'=>s'++(_::_)) (λs'=>zH _) ?_);(rintro _ _ ⟨rfl,rfl⟩))|(refine Ix.at (WY [sq,PJ,KS] ⟨by omega,by simp;omega⟩ nE) (by omega) ?_)
  all_goals exact⟨b,(aj aP),dW,trivial⟩
 .rintro b7 -;have h3:=dl xs (pos+1+1) 4;have h3':=h3.2 (by omega);obtain⟨idl,hid,hidx⟩:=Cn [0,1,100,-3] (j:=av xs (pos+1+1) 4) ⟨by omega,by simp;omega⟩
  repeat' first|refine aC ?_|intro b;conv=>whnf
  refine jI ?_;refine lu mixed ai rfl [0,2,3] 9 (jE [1,4,9,10,11]) (.two 1 (.one 4 (.fst 5 (.fst 6 (.fst 7 (.fst 8 (.one 9 (.one 10 (.one 11 .done)))))))) 4 (.fst 5 (.fst 6 (.fst 7 (.fst 8 (.one 1 (.one 9 (.one 10 (.one 11 .done))))))))) (γ:=Value×af) (λ_=>[]) (λg=>aB bm xs (pos+1+1+1)::dB b7 (br ks.length) lo (lo+av xs (pos+1) 5) g.1::(b4,.cells 78 zK)::(g.2++I)) (λg=>ae 81 8 [bI (cT idl) aO aO] g.1 g.2) (by decide +kernel) ?_ ?_
  .repeat' first|refine aC ?_|intro b;conv=>whnf|(refine And.intro ?_ ?_<;>(conv=>whnf))|((refine ba (ek xs hx bm _ _ ⟨by omega,by omega⟩) (zH ([aB bm xs _]++_)) (λs'=>s'++_) (λs'=>zH _) ?_);(rintro _ _ ⟨rfl,rfl⟩))|((refine ba (ek xs hx bm _ _ ⟨by omega,by omega⟩) (show List.Perm (_::aB bm xs _::_) ([aB bm xs _]++(_::_)) from List.Perm.swap _ _ _) (λs'=>s'++(_::_)) (λs'=>zH _) ?_);(rintro _ _ ⟨rfl,rfl⟩))|(refine Ix.at hidx (by omega) ?_)|(refine Ap.go rfl rfl rfl rfl (ae.nil 81 8) (zH ([]++_)) rfl (zs:=[bI (cT idl) aO aO]) rfl (by simp) (by simp) (λs'=>s'++_) (λs'=>zH _) (λa2 c2 s2 hr2=>?_))|(refine Sv.cellm (tb:=78) (cs:=[sD (br ks.length),iD lo,iD (lo+av xs (pos+1) 5),.v (.slice .none 0 0)]) (cs':=[sD (br ks.length),iD lo,iD (lo+av xs (pos+1) 5),.v (.slice a2 [bI (cT idl) aO aO].length c2)]) (τ:=aB bm xs (pos+1+1+1)::(b4,.cells 78 zK)::(s2++I)) gk (by simp) rfl rfl ?_)
   all_goals exact⟨(_,s2),(aj aP),dW,hr2⟩
  .rintro⟨U,Y⟩ u;simp only at u⊢
   repeat' first|refine aC ?_|intro b;conv=>whnf
   refine Bc.j ?_;refine I7 mixed ai (γ:=KSt×List am) (λ_=>[]) (λg=>kS bm xs b7 b4 (br ks.length) lo (lo+av xs (pos+1) 5) g.1) (λg=>(pos+3<=g.1.pos/\g.1.pos<=pos+30)/\KI a ks.length c (cT idl::g.2) g.1/\gt ks (br ks.length) g.2 g.1.ks/\g.2.length<=3) ?_ ?_
   ·(((with_reducible refine W.mk ?_);(conv=>whnf)))
    refine Bc.l ?_;by_cases hn0:0<ks.length
    .have h4:=dl xs (pos+1+1+1) ks.length;have h4':=h4.2 (by omega)
     repeat' first|refine aC ?_|intro b;conv=>whnf
     ((refine ba (ek xs hx bm _ _ ⟨by omega,by omega⟩) (zH ([aB bm xs _]++_)) (λs'=>s'++_) (λs'=>zH _) ?_);(rintro _ _ ⟨rfl,rfl⟩))
     repeat' first|refine aC ?_|intro b;conv=>whnf
     obtain⟨tw0,P⟩:∃tw0:Nat,av xs (pos+1+1+1) ks.length=tw0:=⟨(av xs (pos+1+1+1) ks.length).toNat,by omega⟩
     obtain⟨y,hy⟩:∃y,ks[tw0]?=some y:=⟨_,zD (by omega)⟩
     obtain⟨b2,cap2,cs2,e2,rfl,E⟩:=ae.get hrow (show(ks.map bv)[tw0]?=some (bv y) by rw[qA,hy];rfl);rw[zL]at e2
     cases e2
     have hc0:cs2[tw0*4+0]?=some (sD y.name):=E 0 (by omega);have hc3:cs2[tw0*4+3]?=some (xn y.fields):=E 3 (by omega);have h5:=dl xs (pos+1+1+1+1) 4;have h5':=h5.2 (by omega);obtain⟨hi,hhi,S⟩:=Cn [4,3,8,2] (j:=av xs (pos+1+1+1+1) 4) ⟨by omega,by simp;omega⟩;refine jI ?_;refine lu mixed ai rfl [0,1,2,3,5,6] 7 (jE [4,7,11,12]) (.three 4 (.two 7 (.fst 8 (.fst 9 (.fst 10 (.one 11 (.one 12 .done))))) 11 (.one 7 (.fst 8 (.fst 9 (.fst 10 (.one 12 .done)))))) 7 (.fst 8 (.fst 9 (.two 4 (.fst 10 (.one 11 (.one 12 .done))) 11 (.one 4 (.fst 10 (.one 12 .done)))))) 11 (.two 4 (.one 7 (.fst 8 (.fst 9 (.fst 10 (.one 12 .done))))) 7 (.fst 8 (.fst 9 (.one 4 (.fst 10 (.one 12 .done))))))) (γ:=Nat) (λg=>[(9,.v (.pointer (some ⟨g,0,none⟩)))]) (λg=>aB bm xs (pos+1+1+1+1+1)::(g,.cells 81 (bI (hG y 0 hi) aO aO))::dB b7 (br ks.length) lo (lo+av xs (pos+1) 5) U::(b4,.cells 78 zK)::(Y++[(b2,.cells 78 cs2)])) (λ_=>True) (by decide +kernel) ?_ ?_
     .repeat' first|refine aC ?_|intro b;conv=>whnf|(refine And.intro ?_ ?_<;>(conv=>whnf))|((refine ba (ek xs hx bm _ _ ⟨by omega,by omega⟩) (zH ([aB bm xs _]++_)) (λs'=>s'++_) (λs'=>zH _) ?_);(rintro _ _ ⟨rfl,rfl⟩))|((refine ba (ek xs hx bm _ _ ⟨by omega,by omega⟩) (show List.Perm (_::aB bm xs _::_) ([aB bm xs _]++(_::_)) from List.Perm.swap _ _ _) (λs'=>s'++(_::_)) (λs'=>zH _) ?_);(rintro _ _ ⟨rfl,rfl⟩))|(refine Ix.at S (by omega) ?_)|(refine Ld.cellm (tb:=78) (cs:=cs2) (by simp) (by rw[P,show 0+((tw0:Nat):Int).toNat*4+0=tw0*4+0 by simp];exact hc0) ?_)
      all_goals exact⟨b,(aj aP),dW,trivial⟩
     .rintro V -;rw[P];have h6:=dl xs (pos+1+1+1+1+1) 5;have h6':=h6.2 (by omega)
      repeat' first|refine aC ?_|intro b;conv=>whnf
      ((refine ba (ek xs hx bm _ _ ⟨by omega,by omega⟩) (zH ([aB bm xs _]++_)) (λs'=>s'++_) (λs'=>zH _) ?_);(rintro _ _ ⟨rfl,rfl⟩))
      repeat' first|refine aC ?_|intro b;conv=>whnf
      refine Bc.j ?_;refine I7 mixed ai (γ:=Int) (λ_=>[]) (λg=>aB bm xs (pos+6)::(V,.cells 81 (bI (hG y g hi) aO aO))::dB b7 (br ks.length) lo (lo+av xs (pos+1) 5) U::(b4,.cells 78 zK)::(Y++[(b2,.cells 78 cs2)])) (λg=>g=0\/g=1) ?_ ?_
      ·(((with_reducible refine W.mk ?_);(conv=>whnf)))
       refine Bc.l ?_;have e6:pos+1+1+1+1+1+1=pos+6:=by omega
       rw[e6];by_cases hz6:av xs (pos+1+1+1+1+1) 5=0
       .repeat' first|refine aC ?_|intro b;conv=>whnf
        exact⟨1,(aj aP),dW,.inr rfl⟩
       .repeat' first|refine aC ?_|intro b;conv=>whnf
        exact⟨0,(aj aP),dW,.inl rfl⟩
      .rintro l9 hl9
       repeat' first|refine aC ?_|intro b;conv=>whnf
       refine Ap.go rfl rfl rfl rfl u (τ:=aB bm xs (pos+6)::(V,.cells 81 (bI (hG y l9 hi) aO aO))::dB b7 (br ks.length) lo (lo+av xs (pos+1) 5) U::(b4,.cells 78 zK)::[(b2,.cells 78 cs2)]) gk rfl (zs:=[bI (cT idl) aO aO,bI (hG y l9 hi) aO aO]) rfl (by simp) (by simp) (λs'=>aB bm xs (pos+6)::dB b7 (br ks.length) lo (lo+av xs (pos+1) 5) U::(b4,.cells 78 zK)::(V,.cells 81 (bI (hG y l9 hi) aO aO))::(s'++[(b2,.cells 78 cs2)])) (λs'=>qu) (λa3 c3 s3 s=>?_)
       repeat' first|refine aC ?_|intro b;conv=>whnf
       refine Ld.rowm (tb:=78) (cs:=cs2) (x:=bv y) (by simp) rfl (by decide) (λj hj=>by rw[show 0+((tw0:Nat):Int).toNat*4+j=tw0*4+j by simp];exact E j hj) ?_;have hyl:=hfl y (zG hy);have HC:=pP y (by omega);have HT:=aO1 y.fields oJ (by omega)
       repeat' first|refine aC ?_|intro b;conv=>whnf
       refine CE.pure HC ?_;have L:dM [bI (cT idl) aO aO,bI (hG y l9 hi) aO aO] ([cT idl,hG y l9 hi].map aH):=.cons (.cons (Le.refl _) (.cons (Le.refl _) (.cons (Le.refl _) (.cons (Le.refl _) (.cons (Le.refl _) (.cons (Le.refl _) (.cons (gp 1) (.cons (gp 1) .nil)))))))) (.cons (.cons (Le.refl _) (.cons (Le.refl _) (.cons (Le.refl _) (.cons (Le.refl _) (.cons (Le.refl _) (.cons (Le.refl _) (.cons (gp 1) (.cons (gp 1) .nil)))))))) .nil);by_cases hcp:0<=oH y
       .have h7:=dl xs (pos+6) 2;have h7':=h7.2 (by omega);have hlt7:oH y<y.fields.length:=Fk _ _;obtain⟨w,hg7⟩:∃h,y.fields[(oH y).toNat]?=some h:=⟨_,zD (by omega)⟩
        repeat' first|refine aC ?_|intro b;conv=>whnf
        ((refine ba (ek xs hx bm _ _ ⟨by omega,by omega⟩) (zH ([aB bm xs _]++_)) (λs'=>s'++_) (λs'=>zH _) ?_);(rintro _ _ ⟨rfl,rfl⟩))
        repeat' first|refine aC ?_|intro b;conv=>whnf
        refine Bc.j ?_;refine I7 mixed ai (γ:=Int×Value×List (List D)×af×List am) (λ_=>[]) (λg=>aB bm xs g.1::dB b7 (br ks.length) lo (lo+av xs (pos+1) 5) g.2.1::(b4,.cells 78 zK)::(g.2.2.2.1++[(b2,.cells 78 cs2)])) (λg=>(pos+6<=g.1/\g.1<=pos+10)/\ae 81 8 g.2.2.1 g.2.1 g.2.2.2.1/\dM g.2.2.1 ((cT idl::hG y l9 hi::g.2.2.2.2).map aH)/\(g.2.2.2.2=[]\/∃h,0<=oH y/\y.fields[(oH y).toNat]?=some h/\g.2.2.2.2=[hI h.name])) ?_ ?_
        ·(((with_reducible refine W.mk ?_);(conv=>whnf)))
         refine Bc.l ?_;by_cases hz7:av xs (pos+6) 2=0
         .repeat' first|refine aC ?_|intro b;conv=>whnf
          refine Dr.l (by decide +kernel) ?_
          repeat' first|refine aC ?_|intro b;conv=>whnf
          refine Ld.cellm (tb:=78) (cs:=cs2) (by simp) O3 ?_
          repeat' first|refine aC ?_|intro b;conv=>whnf
          refine Ap.go rfl rfl rfl rfl s (τ:=aB bm xs (pos+6+1)::(V,.cells 81 (bI (hG y l9 hi) aO aO))::dB b7 (br ks.length) lo (lo+av xs (pos+1) 5) (.slice a3 2 c3)::(b4,.cells 78 zK)::[(b2,.cells 78 cs2)]) gk rfl (zs:=[bI (cT idl) aO aO,bI (hG y l9 hi) aO aO,bI (hI w.name) aO aO]) rfl (by simp) (by simp) (λs'=>aB bm xs (pos+6+1)::dB b7 (br ks.length) lo (lo+av xs (pos+1) 5) (.slice a3 2 c3)::(b4,.cells 78 zK)::(V,.cells 81 (bI (hG y l9 hi) aO aO))::(s'++[(b2,.cells 78 cs2)])) (λs'=>qu) (λa5 c5 s5 hr5=>?_)
          repeat' first|refine aC ?_|intro b;conv=>whnf
          exact⟨(pos+6+1,_,_,s5,[hI w.name]),(aj aP),dW,⟨by simp only;omega,by simp only;omega⟩,hr5,.cons (.cons (Le.refl _) (.cons (Le.refl _) (.cons (Le.refl _) (.cons (Le.refl _) (.cons (Le.refl _) (.cons (Le.refl _) (.cons (gp 1) (.cons (gp 1) .nil)))))))) (.cons (.cons (Le.refl _) (.cons (Le.refl _) (.cons (Le.refl _) (.cons (Le.refl _) (.cons (Le.refl _) (.cons (Le.refl _) (.cons (gp 1) (.cons (gp 1) .nil)))))))) (.cons (.cons (Le.refl _) (.cons (Le.refl _) (.cons (Le.refl _) (.cons (Le.refl _) (.cons (Le.refl _) (.cons (Le.refl _) (.cons (gp 1) (.cons (gp 1) .nil)))))))) .nil)),.inr ⟨w,hcp,hg7,rfl⟩⟩
         .repeat' first|refine aC ?_|intro b;conv=>whnf
          exact⟨(pos+6+1,_,_,s3,[]),(aj aP),dW,⟨by simp only;omega,by simp only;omega⟩,s,L,.inl rfl⟩
        .exact cq0
       .repeat' first|refine aC ?_|intro b;conv=>whnf
        refine Bc.j ?_;refine I7 mixed ai (γ:=Int×Value×List (List D)×af×List am) (λ_=>[]) (λg=>aB bm xs g.1::dB b7 (br ks.length) lo (lo+av xs (pos+1) 5) g.2.1::(b4,.cells 78 zK)::(g.2.2.2.1++[(b2,.cells 78 cs2)])) (λg=>(pos+6<=g.1/\g.1<=pos+10)/\ae 81 8 g.2.2.1 g.2.1 g.2.2.2.1/\dM g.2.2.1 ((cT idl::hG y l9 hi::g.2.2.2.2).map aH)/\(g.2.2.2.2=[]\/∃h,0<=oH y/\y.fields[(oH y).toNat]?=some h/\g.2.2.2.2=[hI h.name])) ?_ ?_
        ·(((with_reducible refine W.mk ?_);(conv=>whnf)))
         refine Bc.l ?_
         repeat' first|refine aC ?_|intro b;conv=>whnf
         exact⟨(pos+6,_,_,s3,[]),(aj aP),dW,⟨by simp only;omega,by simp only;omega⟩,s,L,.inl rfl⟩
        .exact cq0
    .repeat' first|refine aC ?_|intro b;conv=>whnf
     exact⟨(⟨pos+1+1+1,U,_,Y,ks,I⟩,[]),(aj aP),dW,⟨by simp only;omega,by simp only;omega⟩,⟨u,.cons (.cons (Le.refl _) (.cons (Le.refl _) (.cons (Le.refl _) (.cons (Le.refl _) (.cons (Le.refl _) (.cons (Le.refl _) (.cons (gp 1) (.cons (gp 1) .nil)))))))) .nil,hrow,rfl⟩,gt.none (wX.1 (by omega)),by simp⟩
   .rintro⟨⟨q,n,r,K,ks1,sk1⟩,f1⟩ ⟨⟨hp1,R⟩,⟨l,e,hkr1,o⟩,hRef,hf1⟩;simp only[kS]at hp1 R l e hkr1 o hRef hf1⊢;have hl1:r.length<=4:=by have:=e.len;simp at this;omega
    by_cases hn1:1<ks.length
    .have h11:=dl xs q 3
     repeat' first|refine aC ?_|intro b;conv=>whnf
     ((refine ba (ek xs hx bm _ _ ⟨by omega,by omega⟩) (zH ([aB bm xs _]++_)) (λs'=>s'++_) (λs'=>zH _) ?_);(rintro _ _ ⟨rfl,rfl⟩))
     repeat' first|refine aC ?_|intro b;conv=>whnf
     refine Bc.j ?_;refine I7 mixed ai (γ:=Int×Value×List (List D)×af×List am) (λ_=>[]) (λg=>aB bm xs g.1::dB b7 (br ks.length) lo (lo+av xs (pos+1) 5) g.2.1::(b4,.cells 78 zK)::(g.2.2.2.1++sk1)) (λg=>(pos+3<=g.1/\g.1<=pos+35)/\ae 81 8 g.2.2.1 g.2.1 g.2.2.2.1/\dM g.2.2.1 ((cT idl::(f1++g.2.2.2.2)).map aH)/\(g.2.2.2.2=[]\/∃y,ks[0]?=some y/\1<ks.length/\g.2.2.2.2=[IU y])) ?_ ?_
     ·(((with_reducible refine W.mk ?_);(conv=>whnf)))
      refine Bc.l ?_;by_cases hz11:av xs q 3=0
      .obtain⟨G,O⟩:∃y,ks1[0]?=some y:=⟨_,zD (by omega)⟩
       obtain⟨X,cap12,f,F,rfl,C⟩:=ae.get hkr1 (show(ks1.map bv)[0]?=some (bv G) by rw[qA,O];rfl);rw[zL]at F;have T:f[0]?=some (sD G.name):=C 0 (by omega);obtain⟨y0,hy0,hny⟩:=hRef.name0 O;rw[o]at F
       cases F
       repeat' first|refine aC ?_|intro b;conv=>whnf
       refine Dr.l (by decide +kernel) ?_
       repeat' first|refine aC ?_|intro b;conv=>whnf
       refine Ld.cellm (tb:=78) (cs:=f) (by simp) T ?_
       repeat' first|refine aC ?_|intro b;conv=>whnf
       refine Ap.go rfl rfl rfl rfl l (τ:=aB bm xs (q+1)::dB b7 (br ks.length) lo (lo+av xs (pos+1) 5) n::(b4,.cells 78 zK)::[(X,.cells 78 f)]) gk rfl (zs:=r++[bI (IU G) aO aO]) rfl (by simp;omega) (by simp;omega) (λs'=>aB bm xs (q+1)::dB b7 (br ks.length) lo (lo+av xs (pos+1) 5) n::(b4,.cells 78 zK)::(s'++[(X,.cells 78 f)])) (λs'=>qu) (λa13 c13 Z Q=>?_)
       repeat' first|refine aC ?_|intro b;conv=>whnf
       exact⟨(q+1,_,_,Z,[IU G]),(aj aP),dW,⟨by simp only;omega,by simp only;omega⟩,Q,by simpa using e.append (dM.cons (x:=bI (IU G) aO aO) (y:=aH (IU G)) (.cons (Le.refl _) (.cons (Le.refl _) (.cons (Le.refl _) (.cons (Le.refl _) (.cons (Le.refl _) (.cons (Le.refl _) (.cons (gp 1) (.cons (gp 1) .nil)))))))) .nil),.inr ⟨y0,hy0,hn1,by simp[IU,hny]⟩⟩
      .repeat' first|refine aC ?_|intro b;conv=>whnf
       exact⟨(q+1,n,r,K,[]),(aj aP),dW,⟨by simp only;omega,by simp only;omega⟩,l,by simpa using e,.inl rfl⟩
     .exact cq1
    .repeat' first|refine aC ?_|intro b;conv=>whnf
     refine Bc.j ?_;refine I7 mixed ai (γ:=Int×Value×List (List D)×af×List am) (λ_=>[]) (λg=>aB bm xs g.1::dB b7 (br ks.length) lo (lo+av xs (pos+1) 5) g.2.1::(b4,.cells 78 zK)::(g.2.2.2.1++sk1)) (λg=>(pos+3<=g.1/\g.1<=pos+35)/\ae 81 8 g.2.2.1 g.2.1 g.2.2.2.1/\dM g.2.2.1 ((cT idl::(f1++g.2.2.2.2)).map aH)/\(g.2.2.2.2=[]\/∃y,ks[0]?=some y/\1<ks.length/\g.2.2.2.2=[IU y])) ?_ ?_
     ·(((with_reducible refine W.mk ?_);(conv=>whnf)))
      refine Bc.l ?_
      repeat' first|refine aC ?_|intro b;conv=>whnf
      exact⟨(q,n,r,K,[]),(aj aP),dW,⟨by simp only;omega,by simp only;omega⟩,l,by simpa using e,.inl rfl⟩
     .exact cq1
end
section
open Go Go.RowKit Go.Shelf
section
variable {P:Program} {σ:af} {ρ:Operand->D}
theorem MF{o:Oper}{s d:TypeId}{x:Operand}{k:IntKind}{n:Int}(b:o.op= .convert s d x)(hx:ρ x= .v (.int k n)){c:TypeDesc}(l:P.underlying s=some c)(j:P.underlying d=some (.int .u8))(q:0<=n/\n<256) :
  Yd P o ρ σ (.v (.int .u8 (UInt8.ofNat n.toNat).toNat)):=by
 intro w X η a t;obtain⟨dst,p,y,pos,m,g⟩:=o;simp only at b;subst b;have h:=(a x (by simp[Op.operands])).val hx;refine dC (s:=convert s d (η x)) (u:=.int .u8 (UInt8.ofNat n.toNat).toNat) ?_ (Ex.refl w) (.v _);rw[h];have e:IntKind.u8.wrap n=((UInt8.ofNat n.toNat).toNat:Int):=by
  have i:(UInt8.ofNat n.toNat).toNat=n.toNat%256:=by simp
  rw[i];have f:IntKind.u8.wrap n=n:=by
   simp only[IntKind.wrap]
   first|omega|(simp[IntKind.bits,IntKind.signed];omega)
  rw[f];omega
 cases c<;>simp[convert,run_underlying l,run_underlying j,Conv.intToInt,e]
theorem Fu{o:Oper}{s d e:TypeId}{x:Operand}{c:UInt8}(k:o.op= .convert s d x)(hx:ρ x= .sl 1 [[.v (.int .u8 c.toNat)]])(D:P.underlying s=some (.slice e))(C:P.underlying e=some (.int .u8))(B:P.underlying d=some .string) :
  Yd P o ρ σ (.v (.string ⟨#[c]⟩)):=by
 intro w X η i t;obtain⟨dst,G,F,pos,E,g⟩:=o;simp only at k;subst k;have h:=i x (by simp[Op.operands]);rw[hx]at h;obtain⟨a,p,vs,m,n,H,y,r⟩:=h.sl_inv;obtain⟨b,f,rfl,_,_,l⟩:=y 0 _ rfl;have A:=l 0 (by omega);have z:=(r 0 _ rfl 0 _ rfl).val rfl;refine dC (s:=convert s d (η x)) (u:=.string ⟨#[c]⟩) ?_ (Ex.refl w) (.v _);rw[m];have:=run_convert_bytes_back (P:=P) w s d e ⟨b,f,none⟩ p [c] D C B (λj q=>by
  have:j=0:=by simpa using q
  subst this
  simpa [Addr.add,z]using A)
 simpa using this
end
end
section
open Go
def bu(n:Int):Nat:=if -9999999<=n/\n<=9999999 then 8 else 21
theorem aP0(u:Nat)(h:u<=9999999):Lib.nDigits u<=7:=by
 have step:∀v:Nat,Lib.nDigits v<=Lib.nDigits (v/10)+1:=λv=>by
  rw[Lib.nDigits];split
  .omega
  .exact zT _
 have g:=step u;have f:=step (u/10);have e:=step (u/10/10);have d:=step (u/10/10/10);have c:=step (u/10/10/10/10);have b:=step (u/10/10/10/10/10);have a:Lib.nDigits (u/10/10/10/10/10/10)=1:=Lib.nDigits_small (by omega);omega
theorem aZ9(n:Int):bu n<=21:=by unfold bu;split<;>omega
def fM(f:am):Nat:=16+f.name.size+f.of.size+f.up.size+bu f.lo+bu f.hi+bu f.words.length+(f.words.map λs=>1+s.size).sum+(f.wz.map λn=>1+bu n).sum
def aX{α:Type}(f:α->Nat)(l:List α):Nat:=(l.map f).sum
theorem Eu{α:Type}(f:α->Nat)(l:List α)(j:Nat)(x:α)(h:l[j]?=some x):aX f (l.take (j+1))=aX f (l.take j)+f x:=by
 simp[aX,xC,h,vO]
theorem iI{α:Type}(f:α->Nat)(l:List α):∀j,aX f (l.take j)<=aX f l:=by
 induction l with
 |nil=>intro j;simp[aX]
 |cons x l i=>
  intro j
  cases j with
  |zero=>simp[aX]
  |succ j=>have:=i j;simp only[aX,List.take_succ_cons,List.map_cons,List.sum_cons]at *;omega
def dk(k:au):Nat:=8+k.name.size+bu k.lo+bu k.hi+aX fM k.fields
def fw(m:Int×Int):Nat:=7+bu m.1+bu m.2
def dJ(x:bW):Nat:=7+x.name.size+bu x.tz.length+aX (λs=>1+s.size) x.tz+aX fw x.mz
def fu(r:cF):Nat:=12+r.name.size+r.kind.size+r.a.size+r.b.size+bu r.n
def e'(x:ak):Nat:=29+aX dk x.kz+aX dJ x.lz+aX fu x.rules
def jb(m:Nat):ByteArray:=if m<10 then⟨#[UInt8.ofNat (48+m)]⟩else jb (m/10)++⟨#[UInt8.ofNat (48+m%10)]⟩
termination_by m
decreasing_by omega
theorem aH8{m:Nat}(h:m<10):jb m=⟨#[UInt8.ofNat (48+m)]⟩:=by rw[jb,if_pos h]
theorem aU7{m:Nat}(h:¬m<10):jb m=jb (m/10)++⟨#[UInt8.ofNat (48+m%10)]⟩:=by rw[jb,if_neg h]
def yU:=@ByteArray.size_append
theorem Po:∀(c m:Nat),m<10 ^ (c+1)->(jb m).size<=c+1
 |0,m,h=>by rw[aH8 (by omega)];exact zT 1
 |c+1,m,h=>by
  by_cases hm:m<10
  .rw[aH8 hm];show 1<=_;omega
  .rw[aU7 hm,yU];have:=Po c (m/10) (by rw[Nat.pow_succ]at h;omega)
   show _+1<=_;omega
def vr(n:Int):ByteArray:=if n<0 then(⟨#[45]⟩:ByteArray)++jb (-n).toNat else jb n.toNat
theorem bh5{n:Int}(h:-9223372036854775807<=n/\n<=9223372036854775807):(vr n).size<=bu n:=by
 have one:(⟨#[45]⟩:ByteArray).size=1:=rfl;unfold vr bu;split
 .rw[yU,one];split
  .have:=Po 6 (-n).toNat (by omega);omega
  .have:=Po 18 (-n).toNat (by omega);omega
 .split
  .have:=Po 6 n.toNat (by omega);omega
  .have:=Po 18 n.toNat (by omega);omega
def cP(s:ByteArray)(n:Int):ByteArray:=s++(⟨#[32]⟩:ByteArray)++vr n
theorem x9{s:ByteArray}{n:Int}(h:-9223372036854775807<=n/\n<=9223372036854775807):(cP s n).size<=s.size+1+bu n:=by
 unfold cP;rw[yU,yU];have:=bh5 h;have:(⟨#[32]⟩:ByteArray).size=1:=rfl;omega
def wh(s:ByteArray):ByteArray:=if dF s then⟨#[45]⟩else s
theorem CH{s:ByteArray}(h:dF s=true):s.size=0:=by
 unfold dF at h;rw[ByteArray.toList_eq]at h;have:s.data.toList=[]:=by simpa using h
 have a:=zM List.length this
 simpa using a
theorem Z6(s:ByteArray):(wh s).size<=s.size+1:=by
 unfold wh;split
 .show 1<=_;omega
 .omega
end
section
open Go
theorem zt(m:Nat):((m:Int).tdiv 10)=((m/10:Nat):Int):=rfl
theorem MX(m:Nat):((m:Int).tmod 10)=((m%10:Nat):Int):=rfl
theorem Nw{A B:Prop}(k:B)(h:ar B->A:=by intro q7;(first|refine u7x ?_|((with_reducible refine' Ot.yd ?hyd ?_);(case hyd=>first|(refine MF rfl rfl underlying3 underlying5 ?_;omega)|exact Fu rfl rfl underlying147 underlying5 underlying9))|refine u1x ?_);exact q7.1):A:=h ⟨k⟩
theorem Nd{A B:Prop}(k:B)(h:ar B->A:=by intro q7;(first|refine Nw ?_|refine aA ?_|(refine' ah ?hc ?_;(case hc=>exact IH)));exact q7.1):A:=h ⟨k⟩
theorem mP:∀m:Nat,m<=9223372036854775807->APure prog 230 [iD m] (sD (jb m)):=by
 intro m
 induction m using Nat.strongRecOn with
 |ind m i=>
 intro a;refine ao func230 ntmps230 λb=>?_;by_cases h:m<10
 .repeat refine Nd ?_
  refine Rt.pure (zM sD ?_);rw[aH8 h];rfl
 .have IH:=i (m/10) (by omega) (by omega);rw[←zt]at IH;have h1:((m:Int).tmod 10)=((m%10:Nat):Int):=MX m;have z:=Po 18 (m/10) (by omega);have one:(⟨#[UInt8.ofNat (48+(m:Int).tmod 10).toNat]⟩:ByteArray).size=1:=rfl
  repeat refine Nd ?_
  refine Sd.go ⟨by decide,by rw[zt];constructor<;>omega⟩ ?_
  repeat refine Nd ?_
  refine Rt.pure (zM sD ?_);rw[aU7 h];rfl
theorem bm8{A B:Prop}(k:B)(h:ar B->A:=by intro q7;(first|refine Nw ?_|refine aA ?_|(refine' ah ?hc ?_;(case hc=>exact HN)));exact q7.1):A:=h ⟨k⟩
theorem G4(n:Int)(h:-9223372036854775807<=n/\n<=9223372036854775807):APure prog 230 [iD n] (sD (vr n)):=by
 by_cases h0:n<0
 .have HN:=mP (-n).toNat (by omega);rw[show(((-n).toNat:Nat):Int)= -n by omega]at HN;have z:=Po 18 (-n).toNat (by omega);have one:(⟨#[45]⟩:ByteArray).size=1:=rfl;refine ao func230 ntmps230 λa=>?_
  repeat refine bm8 ?_
  refine Rt.pure (zM sD ?_);unfold vr;rw[if_pos h0]
 .have:=mP n.toNat (by omega);rw[show((n.toNat:Nat):Int)=n by omega]at this;unfold vr;rw[if_neg h0];exact this
theorem Nc{A B:Prop}(k:B)(h:ar B->A:=by intro q7;(first|refine Nw ?_|refine aA ?_|(refine' ah ?hc ?_;(case hc=>exact G4 _ (by assumption))));exact q7.1):A:=h ⟨k⟩
theorem aY0(s:ByteArray)(n:Int)(hs:s.size<=1000000000)(h:-9223372036854775807<=n/\n<=9223372036854775807):APure prog 176 [sD s,iD n] (sD (cP s n)):=by
 have h1:=bh5 h;have h2:=aZ9 n;have one:(⟨#[32]⟩:ByteArray).size=1:=rfl;have h3:(s++(⟨#[32]⟩:ByteArray)).size=s.size+1:=by rw[yU,one]
 refine ao func176 ntmps176 λa=>?_
 repeat refine Nc ?_
 exact Rt.pure rfl
theorem aD8(s:ByteArray):APure prog 178 [sD s] (sD (wh s)):=by
 refine ao func178 ntmps178 λa=>?_
 repeat' first|refine Nc ?_|(refine aT ?_;constructor<;>intro hc)
 .refine Rt.pure (zM sD ?_);unfold wh;rw[←oG,if_pos (by assumption)]
 .refine Rt.pure (zM sD ?_);unfold wh;rw[←oG,hc];rfl
def wj:List ByteArray:=[⟨#[107,101,121]⟩,⟨#[114,101,102]⟩,⟨#[110,117,109]⟩,⟨#[112,105,99,107]⟩,⟨#[100,97,121]⟩,⟨#[115,116,101,112]⟩,⟨#[115,117,109]⟩,⟨#[115,104,97,114,101]⟩,⟨#[99,111,112,121]⟩]
theorem be7:APure prog 231 [] (gA wj):=by
 refine ao func231 ntmps231 λa=>?_
 repeat refine Nc ?_
 exact Rt.pure rfl
end
end Go.Proofs.YtilnpcolgcmofaaGreatDoor
