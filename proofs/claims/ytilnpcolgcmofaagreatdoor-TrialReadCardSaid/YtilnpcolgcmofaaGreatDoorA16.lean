/- A part of the proof: He Cv SrcP R09d. -/
import Derived.Test.YtilnpcolgcmofaaGreatDoorA15
set_option maxRecDepth 100000
set_option maxHeartbeats 20000000
set_option linter.all false
namespace Go.Proofs.YtilnpcolgcmofaaGreatDoor
open Tryz
section
open Go
theorem L6{p:Prop}(h:p:=by
 have hl:j.toNat<l.length:=by omega
 rw[qA,zD hl];simp[List.getD_eq_getElem?_getD,hl]):p:=h
theorem bB9(l:List Int){j:Int}(h:0<=j/\j<l.length):(l.map λz=>[iD z])[j.toNat]?=some [iD (l.getD j.toNat 0)]:=L6
theorem XB(l:List ByteArray){j:Int}(h:0<=j/\j<l.length)(e:ByteArray):(l.map λz=>[sD z])[j.toNat]?=some [sD (l.getD j.toNat e)]:=L6
theorem CT(l:List Int){j:Int}(h:0<=j/\j<l.length):∃z∈l,(l.map λz=>[iD z])[j.toNat]?=some [iD z]:=by
 have a:j.toNat<l.length:=by omega
 exact⟨l[j.toNat],wE a,by rw[qA,zD a];rfl⟩
abbrev dC(b:Nat)(nm:ByteArray)(lo h:Int)(f:Value):Nat×aB:=(b,.cells 78 [sD nm,iD lo,iD h,.v f])
abbrev zK:List D:=[.v (zv ZV.str),.v (zv (ZV.int IntKind.i64)),.v (zv (ZV.int IntKind.i64)),.v (zv ZV.sl)]
structure KSt where
 pos:Int
 fv:Value
 rs:List (List D)
 sf:af
 ks:List au
 sk:af
abbrev kS(b:Nat)(xs:List Int)(a c:Nat)(nm:ByteArray)(lo h:Int)(g:KSt):af:=aC b xs g.pos::dC a nm lo h g.fv::(c,.cells 78 zK)::(g.sf++g.sk)
structure KI(a:Option Addr)(n c:Nat)(fs:List am)(g:KSt):Prop where
 row:ae 81 8 g.rs g.fv g.sf
 le:dO g.rs (fs.map aH)
 kr:ae 78 4 (g.ks.map bA) (.slice a n c) g.sk
 kl:g.ks.length=n
theorem Cf(l:List am):((l.map aH).all λy=>y.all dJ)=true:=by rw[yA];intro y h;obtain⟨f,_,rfl⟩:=xM.1 h;rfl
theorem Ld.rowm{P:Program}{o:Oper}{ρ:Operand->D}{σ:af}{b f k:Nat}{K:D->Prop}{tb:TypeId}{cs x:List D}(e:(b,aB.cells tb cs)∈σ)(hx:x.length=k)(g:0<k)(c:∀j,j<k->cs[f+j]?=x[j]?)(h:W (K (.agg x))):Ld P o ρ σ b f true k K:=by
 obtain⟨j,d⟩:=yO e;have l:f+k<=cs.length:=by
  have:=c (k-1) (by omega);rw[zD (by omega:k-1<x.length)]at this;have:=(zE.1 this).1;omega
 refine⟨.inl ⟨j,tb,cs,d,l,?_⟩⟩;have:(cs.drop f).take k=x:=by
  apply xY;intro i;rw[yX];split
  .rename_i a;rw[xR];exact c i a
  .rename_i a;rw[yY.2 (by omega)]
 rw[this];exact h.h
theorem gC.name0{s k:List au}{nm:ByteArray}{f1:List am}(h:gC s nm f1 k){y:au}(c:k[0]?=some y):∃z,s[0]?=some z/\z.name=y.name:=by
 cases h with
 |none h=>subst h;simp at c
 |of=>exact⟨y,c,rfl⟩
 |part t z l i a b sm d=>
  rw[xP]at c;split at c
  .rename_i e;subst e;split at c
   .cases c;exact⟨z,d,rfl⟩
   .cases c
  .exact⟨y,c,rfl⟩
theorem aG.two{f:List am}(h:aG f):f.length<=2:=by cases h<;>simp
theorem bq8{A B:Prop}(k:B)(h:ar B->A:=by intro q7;(first|fail|(with_reducible refine Bx.l ?_)|fail|((with_reducible refine Cb.go ?h ?_);(case h=>decide +kernel)));exact q7.1):A:=h ⟨k⟩
theorem aD{A B:Prop}(k:B)(h:ar B->A:=by intro q7;(first|refine bC ?_|refine bq8 ?_|(refine' ah ?hc ?_;(case hc=>fail)));exact q7.1):A:=h ⟨k⟩
theorem dZ{p:Prop}(h:p:=by first|exact Sc.sl (.cons_cons _ (.cons_cons _ (.cons_cons _ (yG _ _))))|exact Sc.perm (zH _)|exact Sc.perm (List.Perm.swap _ _ _)|exact Sc.perm (List.Perm.cons _ (List.Perm.swap _ _ _))|exact Sc.perm ((List.Perm.swap _ _ _).trans (List.Perm.cons _ (List.Perm.swap _ _ _)))|exact Sc.perm ((List.Perm.cons _ (List.Perm.swap _ _ _)).trans (List.Perm.swap _ _ _))):p:=h
theorem gt{p:Prop}(h:p:=by(refine gz λa=>?_;simp only[dC,aC,List.append_eq,List.nil_append,gy,hY,gO,sD,iD,bD];omega)):p:=h
theorem qN{p:Prop}(h:p:=by(refine gz λa=>?_;simp only[dC,aC,List.append_eq,List.nil_append,gy,hY,gO,sD,iD,bD];omega)):p:=h
theorem Pt{p:Prop}(h:p:=by rw[show 0+((tw0:Nat):Int).toNat*4+3=tw0*4+3 by simp];exact hc3):p:=h
theorem bC5{p:Prop}(h:p:=by first|exact zH _|(refine gz λa=>?_;simp only[dC,aC,List.append_eq,List.nil_append,gy,hY,gO,sD,iD,bD];omega)):p:=h
theorem bC4{p:Prop}(h:p:=by first|omega|(simp only[zI,zL,List.length_cons,List.length_nil];omega)):p:=h
theorem bC3{p:Prop}(h:p:=by rw[show 0+((tw0:Nat):Int).toNat*4+3=tw0*4+3 by simp];exact(zE.1 hc3).1):p:=h
theorem cq0{p:Prop}(h:p:=by
 rintro⟨p3,fv3,rs3,sf3,sm⟩ ⟨⟨hp3,hp3'⟩,hr4,hle4,hsm⟩;simp only at hp3 hp3' hr4 hle4 hsm⊢;have hsl:sm.length<=1:=by rcases hsm with rfl|⟨_,_,_,rfl⟩<;>simp
 repeat' first|refine aD ?_|intro b;conv=>whnf
 refine Ld.cellm (tb:=78) (cs:=cs2) (by simp) Pt ?_
 repeat' first|refine aD ?_|intro b;conv=>whnf
 refine CE.pure HT ?_;by_cases ht:gN y.fields oZ<0
 .have h8:=de xs p3 3;have h8':=h8.2 (by omega)
  repeat' first|refine aD ?_|intro b;conv=>whnf
  ((refine bc (ev xs hx bm _ _ ⟨by omega,by omega⟩) (zH ([aC bm xs _]++_)) (λs'=>s'++_) (λs'=>zH _) ?_);(rintro _ _ ⟨rfl,rfl⟩))
  repeat' first|refine aD ?_|intro b;conv=>whnf
  refine Bc.l ?_;by_cases hz8:aw xs p3 3=0
  .have h9:=de xs (p3+1) 3;have h9':=h9.2 (by omega);have h10:=de xs (p3+1+1) 8;have h10':=h10.2 (by omega);have hrl:rs3.length<=3:=by have:=hle4.len;simp at this;omega
   repeat' first|refine aD ?_|intro b;conv=>whnf
   ((refine bc (ev xs hx bm _ _ ⟨by omega,by omega⟩) (zH ([aC bm xs _]++_)) (λs'=>s'++_) (λs'=>zH _) ?_);(rintro _ _ ⟨rfl,rfl⟩))
   repeat' first|refine aD ?_|intro b;conv=>whnf
   refine ja ?_;refine jt mixed ai rfl [0,2,3,4] 8 (i8 [1,5,9,10,11]) (.two 1 (.one 5 (.fst 6 (.fst 7 (.fst 8 (.one 9 (.one 10 (.one 11 .done))))))) 5 (.fst 6 (.fst 7 (.fst 8 (.one 1 (.one 9 (.one 10 (.one 11 .done)))))))) (γ:=Value×af) (λ_=>[]) (λg=>aC bm xs (p3+1+1+1)::dC b7 (bu ks.length) lo (lo+aw xs (pos+1) 5) g.1::(b4,.cells 78 zK)::(g.2++[(b2,.cells 78 cs2)])) (λg=>ae 81 8 (rs3++[bK (fu (aw xs (p3+1) 3) (aw xs (p3+1+1) 8)) aP aP]) g.1 g.2) (by decide +kernel) ?_ ?_
   .repeat' first|refine aD ?_|intro b;conv=>whnf|(refine And.intro ?_ ?_<;>(conv=>whnf))|((refine bc (ev xs hx bm _ _ ⟨by omega,by omega⟩) (zH ([aC bm xs _]++_)) (λs'=>s'++_) (λs'=>zH _) ?_);(rintro _ _ ⟨rfl,rfl⟩))|((refine bc (ev xs hx bm _ _ ⟨by omega,by omega⟩) (show List.Perm (_::aC bm xs _::_) ([aC bm xs _]++(_::_)) from List.Perm.swap _ _ _) (λs'=>s'++(_::_)) (λs'=>zH _) ?_);(rintro _ _ ⟨rfl,rfl⟩))|(refine Ap.go rfl rfl rfl rfl hr4 (τ:=aC bm xs (p3+1+1+1)::dC b7 (bu ks.length) lo (lo+aw xs (pos+1) 5) fv3::(b4,.cells 78 zK)::[(b2,.cells 78 cs2)]) gt rfl (zs:=rs3++[bK (fu (aw xs (p3+1) 3) (aw xs (p3+1+1) 8)) aP aP]) rfl (by simp;omega) (by simp;omega) (λs'=>aC bm xs (p3+1+1+1)::dC b7 (bu ks.length) lo (lo+aw xs (pos+1) 5) fv3::(b4,.cells 78 zK)::(s'++[(b2,.cells 78 cs2)])) (λs'=>qN) (λa6 c6 s6 hr6=>?_))
    all_goals exact⟨(_,s6),(aj aQ),dZ,hr6⟩
   .rintro⟨fv6,sf6⟩ hr6;simp only at hr6⊢
    repeat' first|refine aD ?_|intro b;conv=>whnf
    refine ja ?_;refine jt mixed ai rfl [0,1,3,4,5,6,9] 10 (i8 [2,7,8,10,13,14,15,16]) (.three 2 (.two 7 (.two 8 (.one 10 (.fst 11 (.fst 12 (.one 13 (.one 14 (.one 15 (.one 16 .done))))))) 10 (.fst 11 (.fst 12 (.one 8 (.one 13 (.one 14 (.one 15 (.one 16 .done)))))))) 10 (.fst 11 (.fst 12 (.one 7 (.one 8 (.one 13 (.one 14 (.one 15 (.one 16 .done))))))))) 7 (.two 2 (.two 8 (.one 10 (.fst 11 (.fst 12 (.one 13 (.one 14 (.one 15 (.one 16 .done))))))) 10 (.fst 11 (.fst 12 (.one 8 (.one 13 (.one 14 (.one 15 (.one 16 .done)))))))) 10 (.fst 11 (.fst 12 (.one 2 (.one 8 (.one 13 (.one 14 (.one 15 (.one 16 .done))))))))) 10 (.fst 11 (.fst 12 (.two 2 (.one 7 (.one 8 (.one 13 (.one 14 (.one 15 (.one 16 .done)))))) 7 (.one 2 (.one 8 (.one 13 (.one 14 (.one 15 (.one 16 .done)))))))))) (γ:=Option Addr×Nat×af) (λ_=>[]) (λg=>aC bm xs (p3+1+1+1)::dC b7 (bu ks.length) lo (lo+aw xs (pos+1) 5) fv6::(b4,.cells 78 zK)::(sf6++((b2,.cells 78 (cs2.set (tw0*4+3) (.v (.slice g.1 (y.fields.map aH++[bK (bi (bu ks.length)) aP aP]).length g.2.1))))::g.2.2))) (λg=>ae 81 8 (y.fields.map aH++[bK (bi (bu ks.length)) aP aP]) (.slice g.1 (y.fields.map aH++[bK (bi (bu ks.length)) aP aP]).length g.2.1) g.2.2) (by decide +kernel) ?_ ?_
    .repeat' first|refine aD ?_|intro b;conv=>whnf|(refine And.intro ?_ ?_<;>(conv=>whnf))|(refine Ld.cellm (tb:=78) (cs:=cs2) (by simp) Pt ?_)|(refine Ld.cellm (tb:=78) (cs:=[sD (bu ks.length),iD lo,iD (lo+aw xs (pos+1) 5),.v fv6]) (by simp) rfl ?_)|(refine Ap.go rfl rfl rfl rfl hr8 (τ:=aC bm xs (p3+1+1+1)::dC b7 (bu ks.length) lo (lo+aw xs (pos+1) 5) fv6::(b4,.cells 78 zK)::(sf6++[(b2,.cells 78 cs2)])) bC5 rfl (zs:=y.fields.map aH++[bK (bi (bu ks.length)) aP aP]) rfl (by simp only[zI,zL,List.length_cons,List.length_nil];omega) bC4 (λs'=>aC bm xs (p3+1+1+1)::dC b7 (bu ks.length) lo (lo+aw xs (pos+1) 5) fv6::(b4,.cells 78 zK)::(sf6++((b2,.cells 78 cs2)::s'))) (λs'=>qN) (λa9 c9 s9 hr9=>?_))|(refine Ap.go rfl rfl rfl rfl (ae.e0 81 8 (some ⟨b,0,none⟩)) (zH ([]++_)) (Cf y.fields) (zs:=y.fields.map aH) rfl (by rw[zL];omega) (by rw[zL];omega) (λs'=>s'++_) (λs'=>zH _) (λa8 c8 s8 hr8=>?_))|(refine Sv.cellm (tb:=78) (cs:=cs2) (cs':=cs2.set (tw0*4+3) (.v (.slice a9 (y.fields.map aH++[bK (bi (bu ks.length)) aP aP]).length c9))) (τ:=aC bm xs (p3+1+1+1)::dC b7 (bu ks.length) lo (lo+aw xs (pos+1) 5) fv6::(b4,.cells 78 zK)::(sf6++s9)) gt bC3 rfl (by rw[show 0+((tw0:Nat):Int).toNat*4+3=tw0*4+3 by simp]) ?_)
     all_goals exact⟨(a9,c9,s9),(aj aQ),Sc.perm gt,hr9⟩
    .rintro⟨a9,c9,s9⟩ hr9;simp only at hr9⊢;have hidx:=(zE.1 hc3).1;have hkr:=pB1 (d:=yj (y.fields++[bi (bu ks.length)])) hrow (show(ks.map bA)[tw0]?=some (bA y) by rw[qA,hy];rfl) (show 3<4 by omega);have hls:(ks.map bA).set tw0 ((bA y).set 3 (yj (y.fields++[bi (bu ks.length)])))=(ks.set tw0 ⟨y.name,y.lo,y.hi,y.fields++[bi (bu ks.length)]⟩).map bA:=by rw[wL];rfl
     rw[hls]at hkr;have le9:dO (y.fields.map aH++[bK (bi (bu ks.length)) aP aP]) ((y.fields++[bi (bu ks.length)]).map aH):=by rw[yB];exact(dO.refl _).append (.cons (.cons (Le.refl _) (.cons (Le.refl _) (.cons (Le.refl _) (.cons (Le.refl _) (.cons (Le.refl _) (.cons (Le.refl _) (.cons (gw 1) (.cons (gw 1) .nil)))))))) .nil)
     have hfz:=Sc.frz (b:=b2) (t:=78) (τ:=aC bm xs (p3+1+1+1)::dC b7 (bu ks.length) lo (lo+aw xs (pos+1) 5) fv6::(b4,.cells 78 zK)::sf6) (xI (a:=D.v (.slice a9 (y.fields.map aH++[bK (bi (bu ks.length)) aP aP]).length c9)) hidx) hr9 le9;rw[List.set_set]at hfz;change Sc _ ((b2,.cells 78 (cs2.set (tw0*4+3) (yj (y.fields++[bi (bu ks.length)]))))::_)at hfz;have hle6:dO (rs3++[bK (fu (aw xs (p3+1) 3) (aw xs (p3+1+1) 8)) aP aP]) ((cV idl::ic y l9 hi::(sm++[fu (aw xs (p3+1) 3) (aw xs (p3+1+1) 8)])).map aH):=by
      have:=hle4.append (dO.cons (x:=bK (fu (aw xs (p3+1) 3) (aw xs (p3+1+1) 8)) aP aP) (y:=aH (fu (aw xs (p3+1) 3) (aw xs (p3+1+1) 8))) (.cons (Le.refl _) (.cons (Le.refl _) (.cons (Le.refl _) (.cons (Le.refl _) (.cons (Le.refl _) (.cons (Le.refl _) (.cons (gw 1) (.cons (gw 1) .nil)))))))) .nil)
      simpa using this
     repeat' first|refine aD ?_|intro b;conv=>whnf
     exact⟨(⟨p3+1+1+1,fv6,_,sf6,ks.set tw0 ⟨y.name,y.lo,y.hi,y.fields++[bi (bu ks.length)]⟩,[(b2,.cells 78 (cs2.set (tw0*4+3) (yj (y.fields++[bi (bu ks.length)]))))]⟩,ic y l9 hi::(sm++[fu (aw xs (p3+1) 3) (aw xs (p3+1+1) 8)])),(aj aQ),(Sc.perm gt).trans (hfz.trans (Sc.perm gt)),⟨by simp only;omega,by simp only;omega⟩,⟨hr6,hle6,hkr,by simp⟩,gC.part tw0 y l9 hi _ _ sm hy hl9 hhi hsm ht ⟨h9.1,h9'⟩ ⟨h10.1,h10'⟩,by simp;omega⟩
  .repeat' first|refine aD ?_|intro b;conv=>whnf
   exact⟨(⟨p3+1,fv3,rs3,sf3,ks,[(b2,.cells 78 cs2)]⟩,ic y l9 hi::sm),(aj aQ),dZ,⟨by simp only;omega,by simp only;omega⟩,⟨hr4,hle4,hrow,rfl⟩,gC.of tw0 y l9 hi sm hy hl9 hhi hsm,by simp;omega⟩
 .repeat' first|refine aD ?_|intro b;conv=>whnf
  refine Bc.l ?_
  repeat' first|refine aD ?_|intro b;conv=>whnf
  exact⟨(⟨p3,fv3,rs3,sf3,ks,[(b2,.cells 78 cs2)]⟩,ic y l9 hi::sm),(aj aQ),dZ,⟨by simp only;omega,by simp only;omega⟩,⟨hr4,hle4,hrow,rfl⟩,gC.of tw0 y l9 hi sm hy hl9 hhi hsm,by simp;omega⟩):p:=h
theorem cq1{p:Prop}(h:p:=by
 rintro⟨p4,fv4,rs4,sf4,f2⟩ ⟨⟨hp4,hp4'⟩,hr4,hle4,hf2⟩;simp only at hp4 hp4' hr4 hle4 hf2⊢;have hl2:f2.length<=1:=by rcases hf2 with rfl|⟨_,_,_,rfl⟩<;>simp
 have hl4:rs4.length<=10:=by have:=hle4.len;simp at this;omega
 repeat' first|refine aD ?_|intro b;conv=>whnf
 refine bc (aD9 xs hx bm _ ⟨by omega,by omega⟩) (zH ([aC bm xs _]++_)) (λs'=>s'++_) (λs'=>zH _) ?_;rintro _ _ ⟨p5,fs1,⟨hp5,hp5'⟩,rfl,rfl,hP1⟩;have hn1:=hP1.two
 repeat' first|refine aD ?_|intro b;conv=>whnf
 refine Ap.go rfl rfl rfl rfl hr4 (τ:=aC bm xs p5::dC b7 (bu ks.length) lo (lo+aw xs (pos+1) 5) fv4::(b4,.cells 78 zK)::sk1) gt (Cf fs1) (zs:=rs4++fs1.map aH) rfl (by rw[zI,zL];omega) (by rw[zI,zL];omega) (λs'=>aC bm xs p5::dC b7 (bu ks.length) lo (lo+aw xs (pos+1) 5) fv4::(b4,.cells 78 zK)::(s'++sk1)) (λs'=>qN) (λa14 c14 s14 hr14=>?_);have le14:dO (rs4++fs1.map aH) ((cV idl::(f1++(f2++fs1))).map aH):=by
  have:=hle4.append (dO.refl (fs1.map aH))
  simpa using this
 have hl14:(rs4++fs1.map aH).length<=12:=by rw[zI,zL];omega
 have h15:=de xs p5 2
 repeat' first|refine aD ?_|intro b;conv=>whnf
 ((refine bc (ev xs hx bm _ _ ⟨by omega,by omega⟩) (zH ([aC bm xs _]++_)) (λs'=>s'++_) (λs'=>zH _) ?_);(rintro _ _ ⟨rfl,rfl⟩))
 generalize rs4++fs1.map aH=rs14 at *
 repeat' first|refine aD ?_|intro b;conv=>whnf
 refine Bc.j ?_;refine JK mixed ai (γ:=Int×Value×List (List D)×af×List am) (λ_=>[]) (λg=>aC bm xs g.1::dC b7 (bu ks.length) lo (lo+aw xs (pos+1) 5) g.2.1::(b4,.cells 78 zK)::(g.2.2.2.1++sk1)) (λg=>(pos+3<=g.1/\g.1<=pos+80)/\ae 81 8 g.2.2.1 g.2.1 g.2.2.2.1/\dO g.2.2.1 ((cV idl::(f1++(f2++(fs1++g.2.2.2.2)))).map aH)/\aG g.2.2.2.2/\(g.2.2.2.2=[]\/∃h hs,g.2.2.2.2=h::hs/\gN (cV idl::(f1++(f2++fs1))) h.name<0)) ?_ ?_
 ·(((with_reducible refine W.mk ?_);(conv=>whnf)))
  refine Bc.l ?_;by_cases hz15:aw xs p5 2=0
  .repeat' first|refine aD ?_|intro b;conv=>whnf
   refine bc (aD9 xs hx bm _ ⟨by omega,by omega⟩) (zH ([aC bm xs _]++_)) (λs'=>s'++_) (λs'=>zH _) ?_;rintro _ _ ⟨p6,fs2,⟨hp6,hp6'⟩,rfl,rfl,hP2⟩;have hn2:=hP2.two
   cases fs2 with
   |nil=>
    repeat' first|refine aD ?_|intro b;conv=>whnf
    refine Dr.l (by decide +kernel) ?_
    repeat' first|refine aD ?_|intro b;conv=>whnf
    refine Bc.l ?_
    repeat' first|refine aD ?_|intro b;conv=>whnf
    exact⟨(p6,_,_,s14,[]),(aj aQ),dZ,⟨by simp only;omega,by simp only;omega⟩,hr14,by simpa using le14,aG.none,.inl rfl⟩
   |cons h2 fs2=>
    have HH:=aO4 (cV idl::(f1++(f2++fs1))) h2.name (by simp only[List.length_cons,zI];omega);have h20:(h2::fs2)[Int.toNat 0]?=some h2:=rfl
    repeat' first|refine aD ?_|intro b;conv=>whnf
    refine Dr.l (by decide +kernel) ?_
    repeat' first|refine aD ?_|intro b;conv=>whnf
    refine Cp.pk (gT.peek (.cons (Pk.rowLe (τ:=aC bm xs p6::dC b7 (bu ks.length) lo (lo+aw xs (pos+1) 5) (.slice a14 rs14.length c14)::(b4,.cells 78 zK)::sk1) hr14 le14 gt) (.cons (Pk.same _) .nil)) HH rfl) ?_;by_cases hx2:gN (cV idl::(f1++(f2++fs1))) h2.name<0
    .repeat' first|refine aD ?_|intro b;conv=>whnf
     refine Bc.l ?_
     repeat' first|refine aD ?_|intro b;conv=>whnf
     refine Ap.go rfl rfl rfl rfl hr14 (τ:=aC bm xs p6::dC b7 (bu ks.length) lo (lo+aw xs (pos+1) 5) (.slice a14 rs14.length c14)::(b4,.cells 78 zK)::sk1) gt (Cf (h2::fs2)) (zs:=rs14++(h2::fs2).map aH) rfl (by rw[zI,zL];omega) (by rw[zI,zL];omega) (λs'=>aC bm xs p6::dC b7 (bu ks.length) lo (lo+aw xs (pos+1) 5) (.slice a14 rs14.length c14)::(b4,.cells 78 zK)::(s'++sk1)) (λs'=>qN) (λa16 c16 s16 hr16=>?_)
     repeat' first|refine aD ?_|intro b;conv=>whnf
     exact⟨(p6,_,_,s16,h2::fs2),(aj aQ),dZ,⟨by simp only;omega,by simp only;omega⟩,hr16,by have:=le14.append (dO.refl ((h2::fs2).map aH));simpa using this,hP2,.inr ⟨h2,fs2,rfl,hx2⟩⟩
    .repeat' first|refine aD ?_|intro b;conv=>whnf
     refine Bc.l ?_
     repeat' first|refine aD ?_|intro b;conv=>whnf
     exact⟨(p6,_,_,s14,[]),(aj aQ),dZ,⟨by simp only;omega,by simp only;omega⟩,hr14,by simpa using le14,aG.none,.inl rfl⟩
  .repeat' first|refine aD ?_|intro b;conv=>whnf
   exact⟨(p5+1,_,_,s14,[]),(aj aQ),dZ,⟨by simp only;omega,by simp only;omega⟩,hr14,by simpa using le14,aG.none,.inl rfl⟩
 .rintro⟨p7,fv7,rs7,sf7,p2⟩ ⟨⟨hp7,hp7'⟩,hr7,hle7,hP2,hp2⟩;simp only at hp7 hp7' hr7 hle7 hP2 hp2⊢;obtain⟨a17,c17,rfl⟩:=hr7.slice
  repeat' first|refine aD ?_|intro b;conv=>whnf
  refine Rs.c ai (m:=2) rfl rfl rfl rfl rfl rfl ?_
  repeat' first|refine aD ?_|intro b;conv=>whnf
  have hs1:∀z,z∈aS (aC bm xs p7::sk1)->z∈aS (aC bm xs p7::dC b7 (bu ks.length) lo (lo+aw xs (pos+1) 5) (.slice a17 rs7.length c17)::dC b4 (bu ks.length) lo (lo+aw xs (pos+1) 5) (.slice a17 rs7.length c17)::(sf7++sk1)):=by
   intro z hz;simp only[aS,List.map_cons,yB,zU,zO]at hz⊢;rcases hz with hz|hz<;>simp[hz]
  have hs2:∀z,z∈aS (aC bm xs p7::sk1)->z∈aS (aC bm xs p7::dC b7 (bu ks.length) lo (lo+aw xs (pos+1) 5) (.slice a17 rs7.length c17)::dC b4 (bu ks.length) lo (lo+aw xs (pos+1) 5) (.slice a17 rs7.length c17)::sk1):=by
   intro z hz;simp only[aS,List.map_cons,yB,zU,zO]at hz⊢;rcases hz with hz|hz<;>simp[hz]
  refine Rt.by (σ':=aC bm xs p7::sk1) (d':=fF ⟨bu ks.length,lo,lo+aw xs (pos+1) 5,cV idl::(f1++(f2++(fs1++p2)))⟩) (Vs.vd ⟨dC b7 (bu ks.length) lo (lo+aw xs (pos+1) 5) (.slice a17 rs7.length c17)::dC b4 (bu ks.length) lo (lo+aw xs (pos+1) 5) (.slice a17 rs7.length c17)::sf7,by(refine gz λa=>?_;simp only[dC,aC,List.append_eq,List.nil_append,gy,hY,gO,sD,iD,bD];omega)⟩ (Vd.agg (.cons (Vd.same hs1 _) (.cons (Vd.same hs1 _) (.cons (Vd.same hs1 _) (.cons (Vd.rowLe (ρ:=aC bm xs p7::dC b7 (bu ks.length) lo (lo+aw xs (pos+1) 5) (.slice a17 rs7.length c17)::dC b4 (bu ks.length) lo (lo+aw xs (pos+1) 5) (.slice a17 rs7.length c17)::sk1) hr7 hle7 gt hs2) .nil)))))) ?_
  exact⟨p7,_,ks1,sk1,⟨by omega,by omega⟩,rfl,rfl,hkr1,⟨lo,aw xs (pos+1) 5,idl,f1,f2,fs1,p2,hlo,⟨h2.1,h2'⟩,hid,rfl,hRef,hf2,hP1,hP2,hp2⟩⟩):p:=h
theorem BY(xs:List Int)(hx:ef xs)(bm:Nat)(pos:Int)(hp:0<=pos/\pos<=10000000)(ks:List au)(hks:ks.length<=2)(hfl:∀k∈ks,k.fields.length<=1000)(a:Option Addr)(c:Nat)(I:af)(hrow:ae 78 4 (ks.map bA) (.slice a ks.length c) I) :
  az prog 31 [ptr bm,.v (.slice a ks.length c)] (aC bm xs pos::I) (λd σ=>∃i k M J,(pos<=i/\i<=pos+100)/\d=fF k/\σ=aC bm xs i::J/\ae 78 4 (M.map bA) (.slice a ks.length c) J/\iZ ks k M):=by
 have h1:=de xs pos 6;have h1':=h1.2 (by omega);have h2:=de xs (pos+1) 5;have h2':=h2.2 (by omega);obtain⟨lo,hlo,hlx⟩:=CT [0,1,2,4,1,2] (j:=aw xs pos 6) ⟨by omega,by simp;omega⟩;have hlob:0<=lo/\lo<=4:=by simp at hlo;omega
 refine cP func31 ntmps31 λBB=>?_
 repeat' first|refine aD ?_|intro b;conv=>whnf
 generalize b=b4
 ((refine bc (ev xs hx bm _ _ ⟨by omega,by omega⟩) (show List.Perm (_::aC bm xs _::_) ([aC bm xs _]++(_::_)) from List.Perm.swap _ _ _) (λs'=>s'++(_::_)) (λs'=>zH _) ?_);(rintro _ _ ⟨rfl,rfl⟩))
 repeat' first|refine aD ?_|intro b;conv=>whnf
 refine Ix.at hlx (by omega) ?_
 repeat' first|refine aD ?_|intro b;conv=>whnf
 refine Dr.r ?_
 (((with_reducible refine W.mk ?_);(conv=>whnf)))
 refine Dm.r ?_;refine W.mk ?_;refine sP mixed ai rfl [0,1,2,3,4,5,6] 5 (.two 7 (.two 8 (.two 9 (.one 10 (.one 11 .done)) 10 (.one 9 (.one 11 .done))) 10 (.one 8 (.one 9 (.one 11 .done)))) 10 (.one 7 (.one 8 (.one 9 (.one 11 .done))))) (γ:=Nat) (λg=>[(7,.v (.pointer (some ⟨g,0,none⟩)))]) (λg=>aC bm xs (pos+1+1)::dC g (bu ks.length) lo (lo+aw xs (pos+1) 5) (.slice none 0 0)::(b4,.cells 78 zK)::I) (λ_=>True) (by decide +kernel) ?_ ?_
 .repeat' first|refine aD ?_|intro b;conv=>whnf|(refine And.intro ?_ ?_<;>(conv=>whnf))|((refine bc (ev xs hx bm _ _ ⟨by omega,by omega⟩) (zH ([aC bm xs _]++_)) (λs'=>s'++_) (λs'=>zH _) ?_);(rintro _ _ ⟨rfl,rfl⟩))|((refine bc (ev xs hx bm _ _ ⟨by omega,by omega⟩) (show List.Perm (_::aC bm xs _::_) ([aC bm xs _]++(_::_)) from List.Perm.swap _ _ _) (λs'=>s'++(_::_)) (λs'=>zH _) ?_);(rintro _ _ ⟨rfl,rfl⟩))|(refine Ix.at (XB [sM,P9,Lr] ⟨by omega,by simp;omega⟩ nE) (by omega) ?_)
  all_goals exact⟨b,(aj aQ),dZ,trivial⟩
 .rintro b7 -;have h3:=de xs (pos+1+1) 4;have h3':=h3.2 (by omega);obtain⟨idl,hid,hidx⟩:=CT [0,1,100,-3] (j:=aw xs (pos+1+1) 4) ⟨by omega,by simp;omega⟩
  repeat' first|refine aD ?_|intro b;conv=>whnf
  refine ja ?_;refine jt mixed ai rfl [0,2,3] 9 (i8 [1,4,9,10,11]) (.two 1 (.one 4 (.fst 5 (.fst 6 (.fst 7 (.fst 8 (.one 9 (.one 10 (.one 11 .done)))))))) 4 (.fst 5 (.fst 6 (.fst 7 (.fst 8 (.one 1 (.one 9 (.one 10 (.one 11 .done))))))))) (γ:=Value×af) (λ_=>[]) (λg=>aC bm xs (pos+1+1+1)::dC b7 (bu ks.length) lo (lo+aw xs (pos+1) 5) g.1::(b4,.cells 78 zK)::(g.2++I)) (λg=>ae 81 8 [bK (cV idl) aP aP] g.1 g.2) (by decide +kernel) ?_ ?_
  .repeat' first|refine aD ?_|intro b;conv=>whnf|(refine And.intro ?_ ?_<;>(conv=>whnf))|((refine bc (ev xs hx bm _ _ ⟨by omega,by omega⟩) (zH ([aC bm xs _]++_)) (λs'=>s'++_) (λs'=>zH _) ?_);(rintro _ _ ⟨rfl,rfl⟩))|((refine bc (ev xs hx bm _ _ ⟨by omega,by omega⟩) (show List.Perm (_::aC bm xs _::_) ([aC bm xs _]++(_::_)) from List.Perm.swap _ _ _) (λs'=>s'++(_::_)) (λs'=>zH _) ?_);(rintro _ _ ⟨rfl,rfl⟩))|(refine Ix.at hidx (by omega) ?_)|(refine Ap.go rfl rfl rfl rfl (ae.nil 81 8) (zH ([]++_)) rfl (zs:=[bK (cV idl) aP aP]) rfl (by simp) (by simp) (λs'=>s'++_) (λs'=>zH _) (λa2 c2 s2 hr2=>?_))|(refine Sv.cellm (tb:=78) (cs:=[sD (bu ks.length),iD lo,iD (lo+aw xs (pos+1) 5),.v (.slice .none 0 0)]) (cs':=[sD (bu ks.length),iD lo,iD (lo+aw xs (pos+1) 5),.v (.slice a2 [bK (cV idl) aP aP].length c2)]) (τ:=aC bm xs (pos+1+1+1)::(b4,.cells 78 zK)::(s2++I)) gt (by simp) rfl rfl ?_)
   all_goals exact⟨(_,s2),(aj aQ),dZ,hr2⟩
  .rintro⟨U,Y⟩ u;simp only at u⊢
   repeat' first|refine aD ?_|intro b;conv=>whnf
   refine Bc.j ?_;refine JK mixed ai (γ:=KSt×List am) (λ_=>[]) (λg=>kS bm xs b7 b4 (bu ks.length) lo (lo+aw xs (pos+1) 5) g.1) (λg=>(pos+3<=g.1.pos/\g.1.pos<=pos+30)/\KI a ks.length c (cV idl::g.2) g.1/\gC ks (bu ks.length) g.2 g.1.ks/\g.2.length<=3) ?_ ?_
   ·(((with_reducible refine W.mk ?_);(conv=>whnf)))
    refine Bc.l ?_;by_cases hn0:0<ks.length
    .have h4:=de xs (pos+1+1+1) ks.length;have h4':=h4.2 (by omega)
     repeat' first|refine aD ?_|intro b;conv=>whnf
     ((refine bc (ev xs hx bm _ _ ⟨by omega,by omega⟩) (zH ([aC bm xs _]++_)) (λs'=>s'++_) (λs'=>zH _) ?_);(rintro _ _ ⟨rfl,rfl⟩))
     repeat' first|refine aD ?_|intro b;conv=>whnf
     obtain⟨tw0,P⟩:∃tw0:Nat,aw xs (pos+1+1+1) ks.length=tw0:=⟨(aw xs (pos+1+1+1) ks.length).toNat,by omega⟩
     obtain⟨y,hy⟩:∃y,ks[tw0]?=some y:=⟨_,zD (by omega)⟩
     obtain⟨b2,cap2,cs2,e2,rfl,E⟩:=ae.get hrow (show(ks.map bA)[tw0]?=some (bA y) by rw[qA,hy];rfl);rw[zL]at e2
     cases e2
     have hc0:cs2[tw0*4+0]?=some (sD y.name):=E 0 (by omega);have hc3:cs2[tw0*4+3]?=some (yj y.fields):=E 3 (by omega);have h5:=de xs (pos+1+1+1+1) 4;have h5':=h5.2 (by omega);obtain⟨hi,hhi,S⟩:=CT [4,3,8,2] (j:=aw xs (pos+1+1+1+1) 4) ⟨by omega,by simp;omega⟩;refine ja ?_;refine jt mixed ai rfl [0,1,2,3,5,6] 7 (i8 [4,7,11,12]) (.three 4 (.two 7 (.fst 8 (.fst 9 (.fst 10 (.one 11 (.one 12 .done))))) 11 (.one 7 (.fst 8 (.fst 9 (.fst 10 (.one 12 .done)))))) 7 (.fst 8 (.fst 9 (.two 4 (.fst 10 (.one 11 (.one 12 .done))) 11 (.one 4 (.fst 10 (.one 12 .done)))))) 11 (.two 4 (.one 7 (.fst 8 (.fst 9 (.fst 10 (.one 12 .done))))) 7 (.fst 8 (.fst 9 (.one 4 (.fst 10 (.one 12 .done))))))) (γ:=Nat) (λg=>[(9,.v (.pointer (some ⟨g,0,none⟩)))]) (λg=>aC bm xs (pos+1+1+1+1+1)::(g,.cells 81 (bK (ic y 0 hi) aP aP))::dC b7 (bu ks.length) lo (lo+aw xs (pos+1) 5) U::(b4,.cells 78 zK)::(Y++[(b2,.cells 78 cs2)])) (λ_=>True) (by decide +kernel) ?_ ?_
     .repeat' first|refine aD ?_|intro b;conv=>whnf|(refine And.intro ?_ ?_<;>(conv=>whnf))|((refine bc (ev xs hx bm _ _ ⟨by omega,by omega⟩) (zH ([aC bm xs _]++_)) (λs'=>s'++_) (λs'=>zH _) ?_);(rintro _ _ ⟨rfl,rfl⟩))|((refine bc (ev xs hx bm _ _ ⟨by omega,by omega⟩) (show List.Perm (_::aC bm xs _::_) ([aC bm xs _]++(_::_)) from List.Perm.swap _ _ _) (λs'=>s'++(_::_)) (λs'=>zH _) ?_);(rintro _ _ ⟨rfl,rfl⟩))|(refine Ix.at S (by omega) ?_)|(refine Ld.cellm (tb:=78) (cs:=cs2) (by simp) (by rw[P,show 0+((tw0:Nat):Int).toNat*4+0=tw0*4+0 by simp];exact hc0) ?_)
      all_goals exact⟨b,(aj aQ),dZ,trivial⟩
     .rintro V -;rw[P];have h6:=de xs (pos+1+1+1+1+1) 5;have h6':=h6.2 (by omega)
      repeat' first|refine aD ?_|intro b;conv=>whnf
      ((refine bc (ev xs hx bm _ _ ⟨by omega,by omega⟩) (zH ([aC bm xs _]++_)) (λs'=>s'++_) (λs'=>zH _) ?_);(rintro _ _ ⟨rfl,rfl⟩))
      repeat' first|refine aD ?_|intro b;conv=>whnf
      refine Bc.j ?_;refine JK mixed ai (γ:=Int) (λ_=>[]) (λg=>aC bm xs (pos+6)::(V,.cells 81 (bK (ic y g hi) aP aP))::dC b7 (bu ks.length) lo (lo+aw xs (pos+1) 5) U::(b4,.cells 78 zK)::(Y++[(b2,.cells 78 cs2)])) (λg=>g=0\/g=1) ?_ ?_
      ·(((with_reducible refine W.mk ?_);(conv=>whnf)))
       refine Bc.l ?_;have e6:pos+1+1+1+1+1+1=pos+6:=by omega
       rw[e6];by_cases hz6:aw xs (pos+1+1+1+1+1) 5=0
       .repeat' first|refine aD ?_|intro b;conv=>whnf
        exact⟨1,(aj aQ),dZ,.inr rfl⟩
       .repeat' first|refine aD ?_|intro b;conv=>whnf
        exact⟨0,(aj aQ),dZ,.inl rfl⟩
      .rintro l9 hl9
       repeat' first|refine aD ?_|intro b;conv=>whnf
       refine Ap.go rfl rfl rfl rfl u (τ:=aC bm xs (pos+6)::(V,.cells 81 (bK (ic y l9 hi) aP aP))::dC b7 (bu ks.length) lo (lo+aw xs (pos+1) 5) U::(b4,.cells 78 zK)::[(b2,.cells 78 cs2)]) gt rfl (zs:=[bK (cV idl) aP aP,bK (ic y l9 hi) aP aP]) rfl (by simp) (by simp) (λs'=>aC bm xs (pos+6)::dC b7 (bu ks.length) lo (lo+aw xs (pos+1) 5) U::(b4,.cells 78 zK)::(V,.cells 81 (bK (ic y l9 hi) aP aP))::(s'++[(b2,.cells 78 cs2)])) (λs'=>qN) (λa3 c3 s3 s=>?_)
       repeat' first|refine aD ?_|intro b;conv=>whnf
       refine Ld.rowm (tb:=78) (cs:=cs2) (x:=bA y) (by simp) rfl (by decide) (λj hj=>by rw[show 0+((tw0:Nat):Int).toNat*4+j=tw0*4+j by simp];exact E j hj) ?_;have hyl:=hfl y (zG hy);have HC:=qd y (by omega);have HT:=aO4 y.fields oZ (by omega)
       repeat' first|refine aD ?_|intro b;conv=>whnf
       refine CE.pure HC ?_;have L:dO [bK (cV idl) aP aP,bK (ic y l9 hi) aP aP] ([cV idl,ic y l9 hi].map aH):=.cons (.cons (Le.refl _) (.cons (Le.refl _) (.cons (Le.refl _) (.cons (Le.refl _) (.cons (Le.refl _) (.cons (Le.refl _) (.cons (gw 1) (.cons (gw 1) .nil)))))))) (.cons (.cons (Le.refl _) (.cons (Le.refl _) (.cons (Le.refl _) (.cons (Le.refl _) (.cons (Le.refl _) (.cons (Le.refl _) (.cons (gw 1) (.cons (gw 1) .nil)))))))) .nil);by_cases hcp:0<=oX y
       .have h7:=de xs (pos+6) 2;have h7':=h7.2 (by omega);have hlt7:oX y<y.fields.length:=FK _ _;obtain⟨w,hg7⟩:∃h,y.fields[(oX y).toNat]?=some h:=⟨_,zD (by omega)⟩
        repeat' first|refine aD ?_|intro b;conv=>whnf
        ((refine bc (ev xs hx bm _ _ ⟨by omega,by omega⟩) (zH ([aC bm xs _]++_)) (λs'=>s'++_) (λs'=>zH _) ?_);(rintro _ _ ⟨rfl,rfl⟩))
        repeat' first|refine aD ?_|intro b;conv=>whnf
        refine Bc.j ?_;refine JK mixed ai (γ:=Int×Value×List (List D)×af×List am) (λ_=>[]) (λg=>aC bm xs g.1::dC b7 (bu ks.length) lo (lo+aw xs (pos+1) 5) g.2.1::(b4,.cells 78 zK)::(g.2.2.2.1++[(b2,.cells 78 cs2)])) (λg=>(pos+6<=g.1/\g.1<=pos+10)/\ae 81 8 g.2.2.1 g.2.1 g.2.2.2.1/\dO g.2.2.1 ((cV idl::ic y l9 hi::g.2.2.2.2).map aH)/\(g.2.2.2.2=[]\/∃h,0<=oX y/\y.fields[(oX y).toNat]?=some h/\g.2.2.2.2=[ig h.name])) ?_ ?_
        ·(((with_reducible refine W.mk ?_);(conv=>whnf)))
         refine Bc.l ?_;by_cases hz7:aw xs (pos+6) 2=0
         .repeat' first|refine aD ?_|intro b;conv=>whnf
          refine Dr.l (by decide +kernel) ?_
          repeat' first|refine aD ?_|intro b;conv=>whnf
          refine Ld.cellm (tb:=78) (cs:=cs2) (by simp) Pt ?_
          repeat' first|refine aD ?_|intro b;conv=>whnf
          refine Ap.go rfl rfl rfl rfl s (τ:=aC bm xs (pos+6+1)::(V,.cells 81 (bK (ic y l9 hi) aP aP))::dC b7 (bu ks.length) lo (lo+aw xs (pos+1) 5) (.slice a3 2 c3)::(b4,.cells 78 zK)::[(b2,.cells 78 cs2)]) gt rfl (zs:=[bK (cV idl) aP aP,bK (ic y l9 hi) aP aP,bK (ig w.name) aP aP]) rfl (by simp) (by simp) (λs'=>aC bm xs (pos+6+1)::dC b7 (bu ks.length) lo (lo+aw xs (pos+1) 5) (.slice a3 2 c3)::(b4,.cells 78 zK)::(V,.cells 81 (bK (ic y l9 hi) aP aP))::(s'++[(b2,.cells 78 cs2)])) (λs'=>qN) (λa5 c5 s5 hr5=>?_)
          repeat' first|refine aD ?_|intro b;conv=>whnf
          exact⟨(pos+6+1,_,_,s5,[ig w.name]),(aj aQ),dZ,⟨by simp only;omega,by simp only;omega⟩,hr5,.cons (.cons (Le.refl _) (.cons (Le.refl _) (.cons (Le.refl _) (.cons (Le.refl _) (.cons (Le.refl _) (.cons (Le.refl _) (.cons (gw 1) (.cons (gw 1) .nil)))))))) (.cons (.cons (Le.refl _) (.cons (Le.refl _) (.cons (Le.refl _) (.cons (Le.refl _) (.cons (Le.refl _) (.cons (Le.refl _) (.cons (gw 1) (.cons (gw 1) .nil)))))))) (.cons (.cons (Le.refl _) (.cons (Le.refl _) (.cons (Le.refl _) (.cons (Le.refl _) (.cons (Le.refl _) (.cons (Le.refl _) (.cons (gw 1) (.cons (gw 1) .nil)))))))) .nil)),.inr ⟨w,hcp,hg7,rfl⟩⟩
         .repeat' first|refine aD ?_|intro b;conv=>whnf
          exact⟨(pos+6+1,_,_,s3,[]),(aj aQ),dZ,⟨by simp only;omega,by simp only;omega⟩,s,L,.inl rfl⟩
        .exact cq0
       .repeat' first|refine aD ?_|intro b;conv=>whnf
        refine Bc.j ?_;refine JK mixed ai (γ:=Int×Value×List (List D)×af×List am) (λ_=>[]) (λg=>aC bm xs g.1::dC b7 (bu ks.length) lo (lo+aw xs (pos+1) 5) g.2.1::(b4,.cells 78 zK)::(g.2.2.2.1++[(b2,.cells 78 cs2)])) (λg=>(pos+6<=g.1/\g.1<=pos+10)/\ae 81 8 g.2.2.1 g.2.1 g.2.2.2.1/\dO g.2.2.1 ((cV idl::ic y l9 hi::g.2.2.2.2).map aH)/\(g.2.2.2.2=[]\/∃h,0<=oX y/\y.fields[(oX y).toNat]?=some h/\g.2.2.2.2=[ig h.name])) ?_ ?_
        ·(((with_reducible refine W.mk ?_);(conv=>whnf)))
         refine Bc.l ?_
         repeat' first|refine aD ?_|intro b;conv=>whnf
         exact⟨(pos+6,_,_,s3,[]),(aj aQ),dZ,⟨by simp only;omega,by simp only;omega⟩,s,L,.inl rfl⟩
        .exact cq0
    .repeat' first|refine aD ?_|intro b;conv=>whnf
     exact⟨(⟨pos+1+1+1,U,_,Y,ks,I⟩,[]),(aj aQ),dZ,⟨by simp only;omega,by simp only;omega⟩,⟨u,.cons (.cons (Le.refl _) (.cons (Le.refl _) (.cons (Le.refl _) (.cons (Le.refl _) (.cons (Le.refl _) (.cons (Le.refl _) (.cons (gw 1) (.cons (gw 1) .nil)))))))) .nil,hrow,rfl⟩,gC.none (wX.1 (by omega)),by simp⟩
   .rintro⟨⟨q,n,r,K,ks1,sk1⟩,f1⟩ ⟨⟨hp1,R⟩,⟨l,e,hkr1,o⟩,hRef,hf1⟩;simp only[kS]at hp1 R l e hkr1 o hRef hf1⊢;have hl1:r.length<=4:=by have:=e.len;simp at this;omega
    by_cases hn1:1<ks.length
    .have h11:=de xs q 3
     repeat' first|refine aD ?_|intro b;conv=>whnf
     ((refine bc (ev xs hx bm _ _ ⟨by omega,by omega⟩) (zH ([aC bm xs _]++_)) (λs'=>s'++_) (λs'=>zH _) ?_);(rintro _ _ ⟨rfl,rfl⟩))
     repeat' first|refine aD ?_|intro b;conv=>whnf
     refine Bc.j ?_;refine JK mixed ai (γ:=Int×Value×List (List D)×af×List am) (λ_=>[]) (λg=>aC bm xs g.1::dC b7 (bu ks.length) lo (lo+aw xs (pos+1) 5) g.2.1::(b4,.cells 78 zK)::(g.2.2.2.1++sk1)) (λg=>(pos+3<=g.1/\g.1<=pos+35)/\ae 81 8 g.2.2.1 g.2.1 g.2.2.2.1/\dO g.2.2.1 ((cV idl::(f1++g.2.2.2.2)).map aH)/\(g.2.2.2.2=[]\/∃y,ks[0]?=some y/\1<ks.length/\g.2.2.2.2=[Jw y])) ?_ ?_
     ·(((with_reducible refine W.mk ?_);(conv=>whnf)))
      refine Bc.l ?_;by_cases hz11:aw xs q 3=0
      .obtain⟨G,O⟩:∃y,ks1[0]?=some y:=⟨_,zD (by omega)⟩
       obtain⟨X,cap12,f,F,rfl,C⟩:=ae.get hkr1 (show(ks1.map bA)[0]?=some (bA G) by rw[qA,O];rfl);rw[zL]at F;have T:f[0]?=some (sD G.name):=C 0 (by omega);obtain⟨y0,hy0,hny⟩:=hRef.name0 O;rw[o]at F
       cases F
       repeat' first|refine aD ?_|intro b;conv=>whnf
       refine Dr.l (by decide +kernel) ?_
       repeat' first|refine aD ?_|intro b;conv=>whnf
       refine Ld.cellm (tb:=78) (cs:=f) (by simp) T ?_
       repeat' first|refine aD ?_|intro b;conv=>whnf
       refine Ap.go rfl rfl rfl rfl l (τ:=aC bm xs (q+1)::dC b7 (bu ks.length) lo (lo+aw xs (pos+1) 5) n::(b4,.cells 78 zK)::[(X,.cells 78 f)]) gt rfl (zs:=r++[bK (Jw G) aP aP]) rfl (by simp;omega) (by simp;omega) (λs'=>aC bm xs (q+1)::dC b7 (bu ks.length) lo (lo+aw xs (pos+1) 5) n::(b4,.cells 78 zK)::(s'++[(X,.cells 78 f)])) (λs'=>qN) (λa13 c13 Z Q=>?_)
       repeat' first|refine aD ?_|intro b;conv=>whnf
       exact⟨(q+1,_,_,Z,[Jw G]),(aj aQ),dZ,⟨by simp only;omega,by simp only;omega⟩,Q,by simpa using e.append (dO.cons (x:=bK (Jw G) aP aP) (y:=aH (Jw G)) (.cons (Le.refl _) (.cons (Le.refl _) (.cons (Le.refl _) (.cons (Le.refl _) (.cons (Le.refl _) (.cons (Le.refl _) (.cons (gw 1) (.cons (gw 1) .nil)))))))) .nil),.inr ⟨y0,hy0,hn1,by simp[Jw,hny]⟩⟩
      .repeat' first|refine aD ?_|intro b;conv=>whnf
       exact⟨(q+1,n,r,K,[]),(aj aQ),dZ,⟨by simp only;omega,by simp only;omega⟩,l,by simpa using e,.inl rfl⟩
     .exact cq1
    .repeat' first|refine aD ?_|intro b;conv=>whnf
     refine Bc.j ?_;refine JK mixed ai (γ:=Int×Value×List (List D)×af×List am) (λ_=>[]) (λg=>aC bm xs g.1::dC b7 (bu ks.length) lo (lo+aw xs (pos+1) 5) g.2.1::(b4,.cells 78 zK)::(g.2.2.2.1++sk1)) (λg=>(pos+3<=g.1/\g.1<=pos+35)/\ae 81 8 g.2.2.1 g.2.1 g.2.2.2.1/\dO g.2.2.1 ((cV idl::(f1++g.2.2.2.2)).map aH)/\(g.2.2.2.2=[]\/∃y,ks[0]?=some y/\1<ks.length/\g.2.2.2.2=[Jw y])) ?_ ?_
     ·(((with_reducible refine W.mk ?_);(conv=>whnf)))
      refine Bc.l ?_
      repeat' first|refine aD ?_|intro b;conv=>whnf
      exact⟨(q,n,r,K,[]),(aj aQ),dZ,⟨by simp only;omega,by simp only;omega⟩,l,by simpa using e,.inl rfl⟩
     .exact cq1
end
section
open Go Go.RowKit Go.Shelf
section
variable {P:Program} {σ:af} {ρ:Operand->D}
theorem M3{o:Oper}{s d:TypeId}{x:Operand}{k:IntKind}{n:Int}(b:o.op= .convert s d x)(hx:ρ x= .v (.int k n)){c:TypeDesc}(l:P.underlying s=some c)(j:P.underlying d=some (.int .u8))(q:0<=n/\n<256) :
  Yd P o ρ σ (.v (.int .u8 (UInt8.ofNat n.toNat).toNat)):=by
 intro w X η a t;obtain⟨dst,p,y,pos,m,g⟩:=o;simp only at b;subst b;have h:=(a x (by simp[Op.operands])).val hx;refine dE (s:=convert s d (η x)) (u:=.int .u8 (UInt8.ofNat n.toNat).toNat) ?_ (Ex.refl w) (.v _);rw[h];have e:IntKind.u8.wrap n=((UInt8.ofNat n.toNat).toNat:Int):=by
  have i:(UInt8.ofNat n.toNat).toNat=n.toNat%256:=by simp
  rw[i];have f:IntKind.u8.wrap n=n:=by
   simp only[IntKind.wrap]
   first|omega|(simp[IntKind.bits,IntKind.signed];omega)
  rw[f];omega
 cases c<;>simp[convert,run_underlying l,run_underlying j,Conv.intToInt,e]
theorem FV{o:Oper}{s d e:TypeId}{x:Operand}{c:UInt8}(k:o.op= .convert s d x)(hx:ρ x= .sl 1 [[.v (.int .u8 c.toNat)]])(D:P.underlying s=some (.slice e))(C:P.underlying e=some (.int .u8))(B:P.underlying d=some .string) :
  Yd P o ρ σ (.v (.string ⟨#[c]⟩)):=by
 intro w X η i t;obtain⟨dst,G,F,pos,E,g⟩:=o;simp only at k;subst k;have h:=i x (by simp[Op.operands]);rw[hx]at h;obtain⟨a,p,vs,m,n,H,y,r⟩:=h.sl_inv;obtain⟨b,f,rfl,_,_,l⟩:=y 0 _ rfl;have A:=l 0 (by omega);have z:=(r 0 _ rfl 0 _ rfl).val rfl;refine dE (s:=convert s d (η x)) (u:=.string ⟨#[c]⟩) ?_ (Ex.refl w) (.v _);rw[m];have:=run_convert_bytes_back (P:=P) w s d e ⟨b,f,none⟩ p [c] D C B (λj q=>by
  have:j=0:=by simpa using q
  subst this
  simpa [Addr.add,z]using A)
 simpa using this
end
end
section
open Go
def bw(n:Int):Nat:=if -9999999<=n/\n<=9999999 then 8 else 21
theorem aP3(u:Nat)(h:u<=9999999):Lib.nDigits u<=7:=by
 have step:∀v:Nat,Lib.nDigits v<=Lib.nDigits (v/10)+1:=λv=>by
  rw[Lib.nDigits];split
  .omega
  .exact zT _
 have g:=step u;have f:=step (u/10);have e:=step (u/10/10);have d:=step (u/10/10/10);have c:=step (u/10/10/10/10);have b:=step (u/10/10/10/10/10);have a:Lib.nDigits (u/10/10/10/10/10/10)=1:=Lib.nDigits_small (by omega);omega
theorem ba4(n:Int):bw n<=21:=by unfold bw;split<;>omega
def fS(f:am):Nat:=16+f.name.size+f.of.size+f.up.size+bw f.lo+bw f.hi+bw f.words.length+(f.words.map λs=>1+s.size).sum+(f.wz.map λn=>1+bw n).sum
def aY{α:Type}(f:α->Nat)(l:List α):Nat:=(l.map f).sum
theorem EV{α:Type}(f:α->Nat)(l:List α)(j:Nat)(x:α)(h:l[j]?=some x):aY f (l.take (j+1))=aY f (l.take j)+f x:=by
 simp[aY,xC,h,vO]
theorem iT{α:Type}(f:α->Nat)(l:List α):∀j,aY f (l.take j)<=aY f l:=by
 induction l with
 |nil=>intro j;simp[aY]
 |cons x l i=>
  intro j
  cases j with
  |zero=>simp[aY]
  |succ j=>have:=i j;simp only[aY,List.take_succ_cons,List.map_cons,List.sum_cons]at *;omega
def dm(k:au):Nat:=8+k.name.size+bw k.lo+bw k.hi+aY fS k.fields
def fC(m:Int×Int):Nat:=7+bw m.1+bw m.2
def dL(x:bX):Nat:=7+x.name.size+bw x.tz.length+aY (λs=>1+s.size) x.tz+aY fC x.mz
def fA(r:cI):Nat:=12+r.name.size+r.kind.size+r.a.size+r.b.size+bw r.n
def fg(x:ak):Nat:=29+aY dm x.kz+aY dL x.lz+aY fA x.rules
def jn(m:Nat):ByteArray:=if m<10 then⟨#[UInt8.ofNat (48+m)]⟩else jn (m/10)++⟨#[UInt8.ofNat (48+m%10)]⟩
termination_by m
decreasing_by omega
theorem aI2{m:Nat}(h:m<10):jn m=⟨#[UInt8.ofNat (48+m)]⟩:=by rw[jn,if_pos h]
theorem aV1{m:Nat}(h:¬m<10):jn m=jn (m/10)++⟨#[UInt8.ofNat (48+m%10)]⟩:=by rw[jn,if_neg h]
def yU:=@ByteArray.size_append
theorem PO:∀(c m:Nat),m<10 ^ (c+1)->(jn m).size<=c+1
 |0,m,h=>by rw[aI2 (by omega)];exact zT 1
 |c+1,m,h=>by
  by_cases hm:m<10
  .rw[aI2 hm];show 1<=_;omega
  .rw[aV1 hm,yU];have:=PO c (m/10) (by rw[Nat.pow_succ]at h;omega)
   show _+1<=_;omega
def wv(n:Int):ByteArray:=if n<0 then(⟨#[45]⟩:ByteArray)++jn (-n).toNat else jn n.toNat
theorem bi1{n:Int}(h:-9223372036854775807<=n/\n<=9223372036854775807):(wv n).size<=bw n:=by
 have one:(⟨#[45]⟩:ByteArray).size=1:=rfl;unfold wv bw;split
 .rw[yU,one];split
  .have:=PO 6 (-n).toNat (by omega);omega
  .have:=PO 18 (-n).toNat (by omega);omega
 .split
  .have:=PO 6 n.toNat (by omega);omega
  .have:=PO 18 n.toNat (by omega);omega
def cQ(s:ByteArray)(n:Int):ByteArray:=s++(⟨#[32]⟩:ByteArray)++wv n
theorem y7{s:ByteArray}{n:Int}(h:-9223372036854775807<=n/\n<=9223372036854775807):(cQ s n).size<=s.size+1+bw n:=by
 unfold cQ;rw[yU,yU];have:=bi1 h;have:(⟨#[32]⟩:ByteArray).size=1:=rfl;omega
def xd(s:ByteArray):ByteArray:=if dG s then⟨#[45]⟩else s
theorem C8{s:ByteArray}(h:dG s=true):s.size=0:=by
 unfold dG at h;rw[ByteArray.toList_eq]at h;have:s.data.toList=[]:=by simpa using h
 have a:=zM List.length this
 simpa using a
theorem ax0(s:ByteArray):(xd s).size<=s.size+1:=by
 unfold xd;split
 .show 1<=_;omega
 .omega
end
section
open Go
theorem An(m:Nat):((m:Int).tdiv 10)=((m/10:Nat):Int):=rfl
theorem Nl(m:Nat):((m:Int).tmod 10)=((m%10:Nat):Int):=rfl
theorem NU{A B:Prop}(k:B)(h:ar B->A:=by intro q7;(first|refine u7x ?_|((with_reducible refine' Ot.yd ?hyd ?_);(case hyd=>first|(refine M3 rfl rfl underlying3 underlying5 ?_;omega)|exact FV rfl rfl underlying147 underlying5 underlying9))|refine u1x ?_);exact q7.1):A:=h ⟨k⟩
theorem NE{A B:Prop}(k:B)(h:ar B->A:=by intro q7;(first|refine NU ?_|refine aA ?_|(refine' ah ?hc ?_;(case hc=>exact IH)));exact q7.1):A:=h ⟨k⟩
theorem m9:∀m:Nat,m<=9223372036854775807->APure prog 230 [iD m] (sD (jn m)):=by
 intro m
 induction m using Nat.strongRecOn with
 |ind m i=>
 intro a;refine ap func230 ntmps230 λb=>?_;by_cases h:m<10
 .repeat refine NE ?_
  refine Rt.pure (zM sD ?_);rw[aI2 h];rfl
 .have IH:=i (m/10) (by omega) (by omega);rw[←An]at IH;have h1:((m:Int).tmod 10)=((m%10:Nat):Int):=Nl m;have z:=PO 18 (m/10) (by omega);have one:(⟨#[UInt8.ofNat (48+(m:Int).tmod 10).toNat]⟩:ByteArray).size=1:=rfl
  repeat refine NE ?_
  refine Sd.go ⟨by decide,by rw[An];constructor<;>omega⟩ ?_
  repeat refine NE ?_
  refine Rt.pure (zM sD ?_);rw[aV1 h];rfl
theorem bn3{A B:Prop}(k:B)(h:ar B->A:=by intro q7;(first|refine NU ?_|refine aA ?_|(refine' ah ?hc ?_;(case hc=>exact HN)));exact q7.1):A:=h ⟨k⟩
theorem Hv(n:Int)(h:-9223372036854775807<=n/\n<=9223372036854775807):APure prog 230 [iD n] (sD (wv n)):=by
 by_cases h0:n<0
 .have HN:=m9 (-n).toNat (by omega);rw[show(((-n).toNat:Nat):Int)= -n by omega]at HN;have z:=PO 18 (-n).toNat (by omega);have one:(⟨#[45]⟩:ByteArray).size=1:=rfl;refine ap func230 ntmps230 λa=>?_
  repeat refine bn3 ?_
  refine Rt.pure (zM sD ?_);unfold wv;rw[if_pos h0]
 .have:=m9 n.toNat (by omega);rw[show((n.toNat:Nat):Int)=n by omega]at this;unfold wv;rw[if_neg h0];exact this
theorem ND{A B:Prop}(k:B)(h:ar B->A:=by intro q7;(first|refine NU ?_|refine aA ?_|(refine' ah ?hc ?_;(case hc=>exact Hv _ (by assumption))));exact q7.1):A:=h ⟨k⟩
theorem aY5(s:ByteArray)(n:Int)(hs:s.size<=1000000000)(h:-9223372036854775807<=n/\n<=9223372036854775807):APure prog 176 [sD s,iD n] (sD (cQ s n)):=by
 have h1:=bi1 h;have h2:=ba4 n;have one:(⟨#[32]⟩:ByteArray).size=1:=rfl;have h3:(s++(⟨#[32]⟩:ByteArray)).size=s.size+1:=by rw[yU,one]
 refine ap func176 ntmps176 λa=>?_
 repeat refine ND ?_
 exact Rt.pure rfl
theorem aE1(s:ByteArray):APure prog 178 [sD s] (sD (xd s)):=by
 refine ap func178 ntmps178 λa=>?_
 repeat' first|refine ND ?_|(refine aV ?_;constructor<;>intro hc)
 .refine Rt.pure (zM sD ?_);unfold xd;rw[←oW,if_pos (by assumption)]
 .refine Rt.pure (zM sD ?_);unfold xd;rw[←oW,hc];rfl
def xf:List ByteArray:=[⟨#[107,101,121]⟩,⟨#[114,101,102]⟩,⟨#[110,117,109]⟩,⟨#[112,105,99,107]⟩,⟨#[100,97,121]⟩,⟨#[115,116,101,112]⟩,⟨#[115,117,109]⟩,⟨#[115,104,97,114,101]⟩,⟨#[99,111,112,121]⟩]
theorem bf4:APure prog 231 [] (gI xf):=by
 refine ap func231 ntmps231 λa=>?_
 repeat refine ND ?_
 exact Rt.pure rfl
end
end Go.Proofs.YtilnpcolgcmofaaGreatDoor
