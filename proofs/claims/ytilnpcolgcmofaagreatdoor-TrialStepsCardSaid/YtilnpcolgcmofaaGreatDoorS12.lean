/- A part of the proof: Zg Zh Zi Zj Yh Yi Zl Zm Zn Ln. -/
import Derived.Test.YtilnpcolgcmofaaGreatDoorS11
set_option maxRecDepth 100000
set_option maxHeartbeats 20000000
set_option linter.all false
namespace Go.Proofs.YtilnpcolgcmofaaGreatDoor
open Tryz
section
open Go
def fO(l:List Nat):List D:=l.map yD++List.replicate (32-l.length) (yD 0)
theorem MJ{l:List Nat}(h:l.length<=32):(fO l).length=32:=by unfold fO;simp;omega
theorem Fx{l:List Nat}(h:l.length<32)(x:Nat):(fO l).set l.length (yD x)=fO (l++[x]):=by
 unfold fO;rw[show 32-l.length=(32-(l++[x]).length)+1 by simp;omega,List.replicate_succ,List.set_append_right _ _ (by simp)];simp
theorem Fz{l:List Nat}(h:l.length=32):fO l=l.map yD:=by unfold fO;rw[h];simp
def tj(l:List Nat):D:=.agg ((List.range 32).map λi=>yD (l.getD i 0))
theorem qQ{l:List Nat}(h:l.length=32):(List.range 32).map (λi=>yD (l.getD i 0))=l.map yD:=XA
theorem GK(m:List Nat):(o8 m).length=32:=by unfold o8;simp
abbrev SW(s:S8):List D:=[wD s.a,wD s.b,wD s.c,wD s.d,wD s.e,wD s.f,wD s.g,wD s.h]
theorem SV(s:S8){i:Nat}(h:i<8):(SW s)[i]?=some (wD (s.list.getD i 0)):=by
 rcases i with _|_|_|_|_|_|_|_|i
 any_goals rfl
 omega
theorem Np(m:List Nat){i:Nat}(h:i<32):(o8 m)[i]?=some (jO (fa (m++cw m.length) ((m.length+(cw m.length).length)/64)) i):=by
 unfold o8;rw[qA,xV h]
 rfl
theorem aI1{α:Type}{l:List α}{j:Nat}{x:α}(h:l[j]?=some x):l.take (j+1)=l.take j++[x]:=by rw[xC,h];rfl
theorem u7x{A B:Prop}(k:B)(h:ar B->A:=by intro q7;(first|refine Kk ?_|refine Kj ?_|((with_reducible refine' Sv.at 0 ?h1 ?h2 ?h3 ?h4 ?h5 ?_);(case h1=>exact rfl);(case h2=>exact rfl);(case h3=>exact rfl);(case h4=>exact rfl);(case h5=>exact(by first|(simp only[List.set_cons_succ,List.set_cons_zero,ft,gF,m4,List.take_succ_cons,List.take_zero,List.drop_succ_cons,List.drop_zero,List.length_cons,List.length_nil,List.nil_append,List.cons_append,Nat.reduceAdd,xD,zZ,List.map_cons,List.map_nil];rfl)|rfl)))|((with_reducible refine' Sv.at 1 ?h1 ?h2 ?h3 ?h4 ?h5 ?_);(case h1=>exact rfl);(case h2=>exact rfl);(case h3=>exact rfl);(case h4=>exact rfl);(case h5=>exact(by first|(simp only[List.set_cons_succ,List.set_cons_zero,ft,gF,m4,List.take_succ_cons,List.take_zero,List.drop_succ_cons,List.drop_zero,List.length_cons,List.length_nil,List.nil_append,List.cons_append,Nat.reduceAdd,xD,zZ,List.map_cons,List.map_nil];rfl)|rfl)))|((with_reducible refine' Sv.at 2 ?h1 ?h2 ?h3 ?h4 ?h5 ?_);(case h1=>exact rfl);(case h2=>exact rfl);(case h3=>exact rfl);(case h4=>exact rfl);(case h5=>exact(by first|(simp only[List.set_cons_succ,List.set_cons_zero,ft,gF,m4,List.take_succ_cons,List.take_zero,List.drop_succ_cons,List.drop_zero,List.length_cons,List.length_nil,List.nil_append,List.cons_append,Nat.reduceAdd,xD,zZ,List.map_cons,List.map_nil];rfl)|rfl))));exact q7.1):A:=h ⟨k⟩
theorem ZO{A B:Prop}(k:B)(h:ar B->A:=by intro q7;(first|((with_reducible refine' Ot.yd ?hyd ?_);(case hyd=>first|(refine' ai0 ai rfl rfl rfl rfl rfl ?hc ?h0;(case hc=>assumption);(case h0=>omega))|(refine ah9 ai rfl rfl rfl rfl rfl ?_;first|omega|(simp only[zL,zR,zI,List.length_cons,List.length_nil,zY,Nat.reduceAdd];omega))|exact al7 rfl rfl rfl|exact al8 rfl rfl rfl|(refine bb9 ai rfl rfl rfl rfl rfl ?_ ?_<;>decide)))|refine u1x ?_);exact q7.1):A:=h ⟨k⟩
theorem bq9{A B:Prop}(k:B)(h:ar B->A:=by intro q7;(first|refine u7x ?_|refine ZO ?_);exact q7.1):A:=h ⟨k⟩
theorem RQ{A B:Prop}(k:B)(h:ar B->A:=by intro q7;(first|refine bq9 ?_|refine aA ?_|(refine' ah ?hc ?_;(case hc=>first|exact HP|exact HW|exact eV _ 6 (by decide) (by decide)|exact eV _ 11 (by decide) (by decide)|exact eV _ 25 (by decide) (by decide)|exact eV _ 2 (by decide) (by decide)|exact eV _ 13 (by decide) (by decide)|exact eV _ 22 (by decide) (by decide))));exact q7.1):A:=h ⟨k⟩
theorem bq8{A B:Prop}(k:B)(h:ar B->A:=by intro q7;(first|refine Kk ?_|refine Kj ?_|fail|refine ZO ?_);exact q7.1):A:=h ⟨k⟩
theorem bn9{A B:Prop}(k:B)(h:ar B->A:=by intro q7;(first|refine bq8 ?_|refine aA ?_|(refine' ah ?hc ?_;(case hc=>first|exact HP|exact HW|exact eV _ 6 (by decide) (by decide)|exact eV _ 11 (by decide) (by decide)|exact eV _ 25 (by decide) (by decide)|exact eV _ 2 (by decide) (by decide)|exact eV _ 13 (by decide) (by decide)|exact eV _ 22 (by decide) (by decide))));exact q7.1):A:=h ⟨k⟩
theorem Q7{A B:Prop}(k:B)(h:ar B->A:=by intro q7;(first|((with_reducible refine' Sv.at 1 ?h1 ?h2 ?h3 ?h4 ?h5 ?_);(case h1=>exact rfl);(case h2=>exact rfl);(case h3=>exact rfl);(case h4=>exact rfl);(case h5=>exact(by first|(simp only[List.set_cons_succ,List.set_cons_zero,ft,gF,m4,List.take_succ_cons,List.take_zero,List.drop_succ_cons,List.drop_zero,List.length_cons,List.length_nil,List.nil_append,List.cons_append,Nat.reduceAdd,xD,zZ,List.map_cons,List.map_nil];rfl)|rfl)))|refine ZO ?_);exact q7.1):A:=h ⟨k⟩
theorem bq7{A B:Prop}(k:B)(h:ar B->A:=by intro q7;(first|refine Kk ?_|refine Kj ?_|refine Q7 ?_);exact q7.1):A:=h ⟨k⟩
theorem bC{A B:Prop}(k:B)(h:ar B->A:=by intro q7;(first|refine bq7 ?_|refine aA ?_|(refine' ah ?hc ?_;(case hc=>first|exact HP|exact HW|exact eV _ 6 (by decide) (by decide)|exact eV _ 11 (by decide) (by decide)|exact eV _ 25 (by decide) (by decide)|exact eV _ 2 (by decide) (by decide)|exact eV _ 13 (by decide) (by decide)|exact eV _ 22 (by decide) (by decide))));exact q7.1):A:=h ⟨k⟩
theorem bq6{A B:Prop}(k:B)(h:ar B->A:=by intro q7;(first|refine Kk ?_|fail|refine Q7 ?_);exact q7.1):A:=h ⟨k⟩
theorem bn8{A B:Prop}(k:B)(h:ar B->A:=by intro q7;(first|refine bq6 ?_|refine aA ?_|(refine' ah ?hc ?_;(case hc=>first|exact HP|exact HW|exact eV _ 6 (by decide) (by decide)|exact eV _ 11 (by decide) (by decide)|exact eV _ 25 (by decide) (by decide)|exact eV _ 2 (by decide) (by decide)|exact eV _ 13 (by decide) (by decide)|exact eV _ 22 (by decide) (by decide))));exact q7.1):A:=h ⟨k⟩
theorem bq5{A B:Prop}(k:B)(h:ar B->A:=by intro q7;(first|refine Kk ?_|fail|fail|refine ZO ?_);exact q7.1):A:=h ⟨k⟩
theorem RP{A B:Prop}(k:B)(h:ar B->A:=by intro q7;(first|refine bq5 ?_|refine aA ?_|(refine' ah ?hc ?_;(case hc=>first|exact HP|exact HW|exact eV _ 6 (by decide) (by decide)|exact eV _ 11 (by decide) (by decide)|exact eV _ 25 (by decide) (by decide)|exact eV _ 2 (by decide) (by decide)|exact eV _ 13 (by decide) (by decide)|exact eV _ 22 (by decide) (by decide))));exact q7.1):A:=h ⟨k⟩
theorem ZU{p:Prop}(h:p:=by(refine iT λa=>?_;simp only[List.append_eq,List.nil_append,iS,jP,jh,Nz,Pj,iD,bD];omega)):p:=h
def vR:=@List.map_take
theorem NG(y:List Nat)(hl:y.length<=1000000)(K:∀d∈y,d<256):APure prog 276 [Ah y] (tj (o8 y)):=by
 have HP:=NH y hl;have T:=G' y.length;have U:(cw y.length).length<=100:=by rw[aY3];unfold gP;omega
 obtain⟨m,D⟩:∃m,m=y++cw y.length:=⟨_,rfl⟩
 have V:m.length=y.length+(cw y.length).length:=by rw[D,zI]
 have v:∀d∈m,d<256:=λd E=>by
  rw[D]at E;rcases zO.1 E with h|h
  .exact K d h
  .exact Hf _ d h
 obtain⟨N,Y⟩:∃N,N=(y.length+(cw y.length).length)/64:=⟨_,rfl⟩
 have X:m.length=64*N:=by omega
 have C:=λ{i:Nat}(h:i<32)=>Np y h;have o:=GK y;rw[←D,←Y]at C;rw[←D]at HP;generalize o8 y=L at *;refine ao func276 ntmps276 λZ=>?_
 repeat' first|refine RQ ?_|intro b;conv=>whnf
 rename_i b2;refine aV mixed ai (γ:=Nat) (λn=>[(5,iD ((64*n:Nat):Int))]) (λn=>[(b,.cells 373 (SW (fa m n))),(b2,.cells 363 (fO []))]) (λn=>n<=N) (λn=>N-n) 0 (aj aw) (Sc.refl _) (zW _) ?_;intro n O;by_cases hnN:n<N
 .skip
  have HW:=A7 ((m.drop (64*n)).take 64) (by simp;omega) (λd E=>v d (List.mem_of_mem_drop (xG E)));have z:fa m (n+1)=(fa m n).add (cY (fa m n) ((m.drop (64*n)).take 64) 64):=rfl;generalize fa m n=S at *;obtain⟨k,s⟩:∃k,k=(m.drop (64*n)).take 64:=⟨_,rfl⟩
  rw[←s]at HW z;have x:=I8 k 64;obtain⟨l,P⟩:∃l,l=bH k 64:=⟨_,rfl⟩
  rw[←P]at x HW;unfold og at HW
  repeat' first|refine RQ ?_|intro b;conv=>whnf
  refine Ot.yd (Fq ai (l:=64*n) (h:=64*n+64) (ys:=k.map yC) rfl rfl rfl rfl rfl (.inr ⟨_,_,_,rfl,rfl,rfl⟩) (.inr ⟨_,_,_,rfl,rfl,by omega⟩) (by omega) (by simp;omega) (by rw[s,List.drop_take,vR,List.map_drop];congr 1;omega)) ?_
  repeat' first|refine bn9 ?_|intro b;conv=>whnf
  rename_i F;refine Sv.perm (cs':=l.map wD) (zH _) rfl (by decide) rfl (by rw[←oe x];rfl) ?_
  repeat' first|refine bC ?_|intro b;conv=>whnf
  refine aV mixed ai (γ:=Nat) (λt=>[(15,iD t),(7,wD (cY S k t).a),(8,wD (cY S k t).b),(9,wD (cY S k t).c),(10,wD (cY S k t).d),(11,wD (cY S k t).e),(12,wD (cY S k t).f),(13,wD (cY S k t).g),(14,wD (cY S k t).h)]) (λt=>[(b,.cells 375 (l.map wD)),(F,.cells 373 (SW S)),(b2,.cells 363 (fO []))]) (λt=>t<=64) (λt=>64-t) 0 (aj aw) (Sc.refl _) (by decide) ?_;intro t ht;by_cases h64:t<64
  .have Q:(l.map wD)[t]?=some (wD (l.getD t 0)):=by rw[qA,List.getD_eq_getElem?_getD,zD (by omega)];rfl
   have O:cY S k (t+1)=SX (cY S k t) (CC t) (l.getD t 0):=by rw[cY,P]
   generalize cY S k t=R at *
   repeat' first|refine bC ?_|intro b;conv=>whnf
   refine Ot.yd (cV (r:=wV (et R.e 6 ^^^ et R.e 11)) rfl rfl rfl (λw=>xx _ _)) ?_;repeat'(first|refine bC ?_|intro b;conv=>whnf)
   refine Ot.yd (cV (r:=wV (fx R.e 6 11 25)) rfl rfl rfl (λw=>xx _ _)) ?_;repeat'(first|refine bC ?_|intro b;conv=>whnf)
   refine Ot.yd (cV (r:=wV (R.h+fx R.e 6 11 25)) rfl rfl rfl (λw=>lQ _ _)) ?_;repeat'(first|refine bC ?_|intro b;conv=>whnf)
   refine Ot.yd (cV (r:=wV (R.e &&& R.f)) rfl rfl rfl (λw=>YT _ _)) ?_;repeat'(first|refine bC ?_|intro b;conv=>whnf)
   refine Ot.yd (cV (r:=wV (R.e ^^^ BitVec.allOnes 32)) rfl rfl rfl (λw=>xx R.e (BitVec.allOnes 32))) ?_;repeat'(first|refine bC ?_|intro b;conv=>whnf)
   rw[BitVec.xor_allOnes];refine Ot.yd (cV (r:=wV (~~~R.e &&& R.g)) rfl rfl rfl (λw=>YT _ _)) ?_;repeat'(first|refine bC ?_|intro b;conv=>whnf)
   refine Ot.yd (cV (r:=wV (EZ R.e R.f R.g)) rfl rfl rfl (λw=>xx _ _)) ?_;repeat'(first|refine bC ?_|intro b;conv=>whnf)
   refine Ot.yd (cV (r:=wV (R.h+fx R.e 6 11 25+EZ R.e R.f R.g)) rfl rfl rfl (λw=>lQ _ _)) ?_;repeat'(first|refine bC ?_|intro b;conv=>whnf)
   refine Ot.yd (jf ai (m:=t) (q:=t) rfl rfl rfl rfl rfl (by omega) (by omega) (xD _)) ?_;repeat'(first|refine bC ?_|intro b;conv=>whnf)
   refine Ld.yd (QZ h64 rfl rfl) ?_
   repeat' first|refine bC ?_|intro b;conv=>whnf
   refine Ot.yd (cV (r:=wV (R.h+fx R.e 6 11 25+EZ R.e R.f R.g+CC t)) rfl rfl rfl (λw=>lQ _ _)) ?_;repeat'(first|refine bC ?_|intro b;conv=>whnf)
   refine Ot.yd (jf ai (m:=t) (q:=t) rfl rfl rfl rfl rfl (by omega) (by omega) (xD _)) ?_;repeat'(first|refine bC ?_|intro b;conv=>whnf)
   refine Ld.cellm (tb:=375) (List.Mem.head _) Q ?_
   repeat' first|refine bC ?_|intro b;conv=>whnf
   refine Ot.yd (cV (r:=wV (R.h+fx R.e 6 11 25+EZ R.e R.f R.g+CC t+l.getD t 0)) rfl rfl rfl (λw=>lQ _ _)) ?_;repeat'(first|refine bC ?_|intro b;conv=>whnf)
   refine Ot.yd (cV (r:=wV (et R.a 2 ^^^ et R.a 13)) rfl rfl rfl (λw=>xx _ _)) ?_;repeat'(first|refine bC ?_|intro b;conv=>whnf)
   refine Ot.yd (cV (r:=wV (fx R.a 2 13 22)) rfl rfl rfl (λw=>xx _ _)) ?_;repeat'(first|refine bC ?_|intro b;conv=>whnf)
   refine Ot.yd (cV (r:=wV (R.a &&& R.b)) rfl rfl rfl (λw=>YT _ _)) ?_;repeat'(first|refine bC ?_|intro b;conv=>whnf)
   refine Ot.yd (cV (r:=wV (R.a &&& R.c)) rfl rfl rfl (λw=>YT _ _)) ?_;repeat'(first|refine bC ?_|intro b;conv=>whnf)
   refine Ot.yd (cV (r:=wV ((R.a &&& R.b) ^^^ (R.a &&& R.c))) rfl rfl rfl (λw=>xx _ _)) ?_;repeat'(first|refine bC ?_|intro b;conv=>whnf)
   refine Ot.yd (cV (r:=wV (R.b &&& R.c)) rfl rfl rfl (λw=>YT _ _)) ?_;repeat'(first|refine bC ?_|intro b;conv=>whnf)
   refine Ot.yd (cV (r:=wV (uX R.a R.b R.c)) rfl rfl rfl (λw=>xx _ _)) ?_;repeat'(first|refine bC ?_|intro b;conv=>whnf)
   refine Ot.yd (cV (r:=wV (fx R.a 2 13 22+uX R.a R.b R.c)) rfl rfl rfl (λw=>lQ _ _)) ?_;repeat'(first|refine bC ?_|intro b;conv=>whnf)
   refine Ot.yd (cV (r:=wV (R.d+(R.h+fx R.e 6 11 25+EZ R.e R.f R.g+CC t+l.getD t 0))) rfl rfl rfl (λw=>lQ _ _)) ?_;repeat'(first|refine bC ?_|intro b;conv=>whnf)
   refine Ot.yd (cV (r:=wV (R.h+fx R.e 6 11 25+EZ R.e R.f R.g+CC t+l.getD t 0+(fx R.a 2 13 22+uX R.a R.b R.c))) rfl rfl rfl (λw=>lQ _ _)) ?_;repeat'(first|refine bC ?_|intro b;conv=>whnf)
   exact⟨t+1,(by simp only[O];exact(aj aw)),Sc.refl _,by omega,by omega⟩
  .obtain rfl:t=64:=by omega
   generalize cY S k 64=R at *
   repeat' first|refine bC ?_|intro b;conv=>whnf
   refine Ot.yd (cV (r:=wV (S.a+R.a)) rfl rfl rfl (λw=>lQ _ _)) ?_;repeat'(first|refine bC ?_|intro b;conv=>whnf)
   refine Ot.yd (cV (r:=wV (S.b+R.b)) rfl rfl rfl (λw=>lQ _ _)) ?_;repeat'(first|refine bC ?_|intro b;conv=>whnf)
   refine Ot.yd (cV (r:=wV (S.c+R.c)) rfl rfl rfl (λw=>lQ _ _)) ?_;repeat'(first|refine bC ?_|intro b;conv=>whnf)
   refine Ot.yd (cV (r:=wV (S.d+R.d)) rfl rfl rfl (λw=>lQ _ _)) ?_;repeat'(first|refine bC ?_|intro b;conv=>whnf)
   refine Ot.yd (cV (r:=wV (S.e+R.e)) rfl rfl rfl (λw=>lQ _ _)) ?_;repeat'(first|refine bC ?_|intro b;conv=>whnf)
   refine Ot.yd (cV (r:=wV (S.f+R.f)) rfl rfl rfl (λw=>lQ _ _)) ?_;repeat'(first|refine bC ?_|intro b;conv=>whnf)
   refine Ot.yd (cV (r:=wV (S.g+R.g)) rfl rfl rfl (λw=>lQ _ _)) ?_;repeat'(first|refine bC ?_|intro b;conv=>whnf)
   refine Ot.yd (cV (r:=wV (S.h+R.h)) rfl rfl rfl (λw=>lQ _ _)) ?_;repeat'(first|refine bC ?_|intro b;conv=>whnf)
   exact⟨n+1,(aj aw),by rw[z];exact Sc.sl (yG _ _),by omega,by omega⟩
 .obtain rfl:n=N:=by omega
  generalize fa m n=S at *
  repeat' first|refine bC ?_|intro b;conv=>whnf
  rename_i F;refine aV mixed ai (γ:=Nat) (λi=>[(19,iD i)]) (λi=>[(b,.cells 363 (fO (L.take i))),(F,.cells 373 (SW S)),(b2,.cells 363 (fO []))]) (λi=>i<=32) (λi=>32-i) 0 (aj aw) (Sc.refl _) (by decide) ?_;intro i hi;have J:(L.take i).length=i:=by rw[zR];omega
  by_cases hi32:i<32
  .have j:((i:Int)).tdiv 4=((i/4:Nat):Int):=RB i 4;have I:((i:Int)).tmod 4=((i%4:Nat):Int):=zp i 4;have M:=Fx (l:=L.take i) (by omega) (jO S i);have G:=MJ (l:=L.take i) (by omega);rw[J,←aI1 (C hi32)]at M
   repeat' first|refine bC ?_|intro b;conv=>whnf
   refine Sd.go ⟨by decide,by rw[j];exact⟨by omega,by omega⟩⟩ ?_;rw[j]
   repeat' first|refine bC ?_|intro b;conv=>whnf
   refine Ot.yd (jf ai (m:=i/4) (q:=i/4) rfl rfl rfl rfl rfl ?hq1 ?hq2 (xD _)) ?_;(case hq1=>first|exact j|omega);(case hq2=>omega);repeat'(first|refine bC ?_|intro b;conv=>whnf)
   refine Ld.cellm (tb:=373) (List.Mem.tail _ (List.Mem.head _)) (SV S (i:=i/4) (by omega)) ?_
   repeat' first|refine bC ?_|intro b;conv=>whnf
   rw[show(24:Int)-8*(i:Int).tmod 4=((24-8*(i%4):Nat):Int) by rw[I];omega];refine Ot.yd (cV (r:=.int .u32 (((S.list.getD (i/4) 0).toNat/2 ^ (24-8*(i%4)):Nat):Int)) rfl rfl rfl (λw=>kq .u32 _ .i64 (24-8*(i%4)) (by show _<=32;omega))) ?_
   repeat' first|refine bC ?_|intro b;conv=>whnf
   refine Ot.yd (wx (m:=((jO S i:Nat):Int)) rfl rfl underlying372 underlying5 (by unfold jO;simp only[IntKind.wrap_u8];omega)) ?_
   repeat' first|refine bC ?_|intro b;conv=>whnf
   refine Ot.yd (jf ai (m:=i) (q:=i) rfl rfl rfl rfl rfl ?hq1 ?hq2 (xD _)) ?_;(case hq1=>first|exact j|omega);(case hq2=>omega);repeat'(first|refine bC ?_|intro b;conv=>whnf)
   refine Sv.cellm (zH _) (by rw[G];exact hi32) rfl M ?_
   repeat' first|refine bC ?_|intro b;conv=>whnf
   exact⟨i+1,(aj aw),Sc.refl _,by omega,by omega⟩
  .obtain rfl:i=32:=by omega
   rw[yL (by omega)];have u:=Fz o
   repeat' first|refine bn8 ?_|intro b;conv=>whnf
   refine Ld.mem (tb:=363) (cs:=fO L) (d:=tj L) (List.Mem.head _) (by rw[u,zL,o];decide) (by rw[u];unfold tj;rw[qQ o];simp only[m4,List.drop_zero];rw[yL (by simp[o])];rfl) ?_;unfold tj
   repeat' first|refine RP ?_|intro b;conv=>whnf
   refine Sv.perm (tb:=363) (cs:=fO []) (τ:=[(b,.cells 363 (fO L)),(F,.cells 373 (SW S))]) (cs':=(List.range 32).map λi=>yD (L.getD i 0)) ZU rfl (by decide) rfl rfl ?_
   repeat' first|refine RP ?_|intro b;conv=>whnf
   exact Rt.pure rfl
end
section
open Go Go.RowKit Go.Shelf
section
variable {P:Program} {σ:af} {ρ:Operand->D} {T:TypeId->Option TI}
theorem Pk.part{b o n c:Nat}{tb:TypeId}{cs:List D}{xs:List (List D)}(y:(b,aE.cells tb cs)∈σ)(p:xs.length=n)(l:n<=c)(hx:∀(q:Nat)x,xs[q]?=some x->∃d,x=[d]/\cs[o+q]?=some d):Pk σ (.v (.slice (some ⟨b,o,none⟩) n c)) (.sl 1 xs):=⟨λw X u j r=>by
 have:=r.val rfl;subst this;subst p;obtain⟨_,z,e,vs,rfl,s⟩:=j.at_ b _ y;refine .sl 1 xs (some ⟨b,o,none⟩) c (λq _=>vs.getD (o+q) undef) l (λx h=>?_) (λq x a=>⟨b,o,rfl,λh=>h,(zX.1 e).1,λm A=>?_⟩) (λq x a m d i=>?_)
 .obtain⟨q,a⟩:=yO h;obtain⟨d,rfl,_⟩:=hx q x a
  rfl
 .obtain⟨d,rfl,f⟩:=hx q x a;obtain⟨u,k,g⟩:=s.get f;obtain rfl:m=0:=by omega
  have t:=(zE.1 k).1;simp[World.cell?,e,List.getD_eq_getElem?_getD,k]
 .obtain⟨B,rfl,f⟩:=hx q x a
  cases m with
  |zero=>
   cases i
   obtain⟨u,k,g⟩:=s.get f
   simpa [List.getD_eq_getElem?_getD,k]using g.stable
  |succ m=>cases i⟩
end
section
variable {P:Program} {t:TypeId} {p q:Operand} {w:World}
end
structure gr where
 S:S8
 b:List Nat
 n:Nat
def gr.cut(s:gr)(t:List Nat):Nat:=Nat.min t.length (64-s.n%64)
def gr.step(s:gr)(t:List Nat):gr:=
 ⟨if s.n%64+s.cut t=64 then Fb s.S (uL s.b (s.n%64) (t.take (s.cut t)))else s.S,uL s.b (s.n%64) (t.take (s.cut t)),s.n+s.cut t⟩
def gr.add:Nat->gr->List Nat->gr
 |0,s,_=>s
 |f+1,s,t=>if t=[]then s else gr.add f (s.step t) (t.drop (s.cut t))
end
section
open Go
end
section
open Go Go.RowKit Go.Shelf
section
variable {P:Program} {σ τ:af} {ρ:Operand->D}
end
def gr.fin(s:gr):gr:=gr.add (cw s.n).length s (cw s.n)
end
section
open Go
section
variable {P:Program} {r:Option Nat} {n:Nat} {df:Nat} {N:Nat} {σ:af} {a:List D} {f:aM} {T:TypeId->Option TI} {L:List Oper}
end
end
section
open Go
theorem EK.pre{w:List (List (List Int))}(h:EK w)(k:Nat):(bF w.length++(w.take k).flatMap vm).length<=220000:=by
 rw[zI];have g:=h.k;have j:=E6 (n:=(w.length:Int)) (qN (by omega));have e:=PR (f:=vm) (l:=w.take k) (c:=10989) (λl a=>h.kl l (xG a));rw[zR]at e;have d:Nat.min k w.length<=20:=xH (Nat.min_le_right _ _) g;have b:=xZ 10989 d;have i:min k w.length*10989<=20*10989:=b;omega
end
section
open Go
theorem Bd(l:List Nat)(hl:l.length<=1000000)(h:∀d∈l,d<256):az prog 277 [cW l] [] (λd s=>∃v,d= .v v/\RY (bF l.length++l) v s):=by
 have hs:=jT l;have g:=E6 (n:=(l.length:Int)) (qN hl);have z:(bF (l.length:Int)++l).length<=1000100:=by rw[zI];omega
 refine cU func277 ntmps277 λk=>?_
 repeat refine aq ?_
 refine ba (pq ((bx l).size:Int) (by rw[hs];exact qN hl)) (bR _) (λb=>b) cZ ?_;rintro _ f ⟨e,rfl,a⟩;rw[hs]at a
 repeat refine aq ?_
 refine Ot.yd (yk (l:=l) rfl rfl h underlying9 underlying147 underlying5) ?_
 repeat refine aq ?_
 refine Ap.go rfl rfl rfl rfl a (bR _) (sg l) (zs:=(bF (l.length:Int)++l).map yC) (by rw[yB]) (oY z (by decide)) (by rw[zL];omega) (λb=>b) cZ (λj i b r=>?_)
 repeat refine aq ?_
 exact Rt.same ⟨_,rfl,r⟩
theorem uw{l:List Nat}(a:l.length<=1000000)(h:∀d∈l,d<256):APure prog 277 [cW l] (Ah (bF l.length++l)):=ba3 (Bd l a h)
end
section
open Go
def IW(l:List Nat):D:=.agg ((List.range 16).map λi=>yD (l.getD i 0))
theorem SK{A B:Prop}(k:B)(h:ar B->A:=by intro q7;(first|refine Kk ?_|fail|refine FY ?_);exact q7.1):A:=h ⟨k⟩
theorem bD5{A B:Prop}(k:B)(h:ar B->A:=by intro q7;(first|refine SK ?_|refine aA ?_|(refine' ah ?hc ?_;(case hc=>exact HW)));exact q7.1):A:=h ⟨k⟩
theorem mx{A B:Prop}(k:B)(h:ar B->A:=by intro q7;(first|(with_reducible refine Bc.l ?_)|fail|refine MT ?_);exact q7.1):A:=h ⟨k⟩
theorem bD4{A B:Prop}(k:B)(h:ar B->A:=by intro q7;(first|refine SK ?_|refine mx ?_|(refine' ah ?hc ?_;(case hc=>exact HW)));exact q7.1):A:=h ⟨k⟩
end
section
open Go
def ib(l:List Nat):List D:=l.map yD++List.replicate (16-l.length) (yD 0)
theorem yp{l:List Nat}(h:l.length<=16):(ib l).length=16:=by unfold ib;simp;omega
theorem tH{l:List Nat}(h:l.length<16)(x:Nat):(ib l).set l.length (yD x)=ib (l++[x]):=by
 unfold ib;rw[show 16-l.length=(16-(l++[x]).length)+1 by simp;omega,List.replicate_succ,List.set_append_right _ _ (by simp)];simp
theorem il{A B:Prop}(k:B)(h:ar B->A:=by intro q7;(first|refine GR ?_|refine aA ?_|(refine' ah ?hc ?_;(case hc=>exact HS)));exact q7.1):A:=h ⟨k⟩
theorem A8(m:List Nat)(hl:m.length<=1000000)(h:∀d∈m,d<256):APure prog 272 [Ah m] (IW (o8 m)):=by
 have HS:=NG m hl h;generalize o8 m=H at *;refine ao func272 ntmps272 λr=>?_
 repeat' first|refine il ?_|intro b;conv=>whnf
 rename_i b2;refine Sv.perm (tb:=363) (cs':=((List.range 32).map λi=>yD (H.getD i 0))) (zH _) rfl (by decide) rfl rfl ?_
 repeat' first|refine il ?_|intro b;conv=>whnf
 rename_i j;refine Sv.perm (tb:=351) (cs':=ib []) (zH _) rfl (by decide) rfl rfl ?_
 repeat' first|refine il ?_|intro b;conv=>whnf
 refine aV mixed ai (γ:=Nat) (λi=>[(5,iD i)]) (λi=>[(b,.cells 351 (ib (((List.range 16).map λi=>H.getD i 0).take i))),(j,.cells 363 ((List.range 32).map λi=>yD (H.getD i 0))),(b2,.cells 351 (ib []))]) (λi=>i<=16) (λi=>16-i) 0 (aj aw) (Sc.refl _) (by decide) ?_;intro i hi;have f:(((List.range 16).map λi=>H.getD i 0).take i).length=i:=by rw[zR];simp;omega
 by_cases hi16:i<16
 .have g:=tH (l:=((List.range 16).map λi=>H.getD i 0).take i) (by omega) (H.getD i 0);have e:=yp (l:=((List.range 16).map λi=>H.getD i 0).take i) (by omega);have hx:((List.range 16).map λi=>H.getD i 0)[i]?=some (H.getD i 0):=by rw[qA,xV hi16];rfl
  have o:((List.range 32).map λi=>yD (H.getD i 0))[i]?=some (yD (H.getD i 0)):=by rw[qA,xV (by omega)];rfl
  rw[f,←aI1 hx]at g
  repeat' first|refine il ?_|intro b;conv=>whnf
  refine Ot.yd (jf ai (m:=i) (q:=i) rfl rfl rfl rfl rfl ?hq1 ?hq2 (xD _)) ?_;(case hq1=>omega);(case hq2=>omega);repeat'(first|refine il ?_|intro b;conv=>whnf)
  refine Ld.cellm (tb:=363) (List.Mem.tail _ (List.Mem.head _)) o ?_
  repeat' first|refine il ?_|intro b;conv=>whnf
  refine Ot.yd (jf ai (m:=i) (q:=i) rfl rfl rfl rfl rfl ?hq1 ?hq2 (xD _)) ?_;(case hq1=>omega);(case hq2=>omega);repeat'(first|refine il ?_|intro b;conv=>whnf)
  refine Sv.cellm (zH _) (by rw[e];exact hi16) rfl g ?_
  repeat' first|refine il ?_|intro b;conv=>whnf
  exact⟨i+1,(aj aw),Sc.refl _,by omega,by omega⟩
 .obtain rfl:i=16:=by omega
  have k:ib (((List.range 16).map λi=>H.getD i 0).take 16)=(List.range 16).map λi=>yD (H.getD i 0):=by
   rw[yL (by simp)];unfold ib;simp
  rw[k]
  repeat' first|refine il ?_|intro b;conv=>whnf
  refine Ld.mem (tb:=351) (cs:=(List.range 16).map λi=>yD (H.getD i 0)) (d:=IW H) (List.Mem.head _) (by rw[zL,vU];decide) rfl ?_;unfold IW
  repeat' first|refine il ?_|intro b;conv=>whnf
  refine Sv.perm (tb:=351) (cs:=ib []) (τ:=[(b,.cells 351 ((List.range 16).map λi=>yD (H.getD i 0))),(j,.cells 363 ((List.range 32).map λi=>yD (H.getD i 0)))]) (cs':=(List.range 16).map λi=>yD (H.getD i 0)) ZU rfl (by decide) rfl rfl ?_
  repeat' first|refine il ?_|intro b;conv=>whnf
  exact Rt.pure rfl
theorem RO{A B:Prop}(k:B)(h:ar B->A:=by intro q7;(first|refine GR ?_|refine aA ?_|(refine' ah ?hc ?_;(case hc=>first|exact HI|exact HS)));exact q7.1):A:=h ⟨k⟩
end
section
def pk:Nat->(Nat->Nat)->Nat
 |0,_=>0
 |n+1,f=>2 ^ 64*pk n (λi=>f (i+1))+f 0
theorem BK(n:Nat)(f g:Nat->Nat):pk n f+pk n g=pk n λi=>f i+g i:=by
 induction n generalizing f g with
 |zero=>rfl
 |succ n h=>simp only[pk,←h];omega
theorem PM(n c:Nat)(f:Nat->Nat):c*pk n f=pk n λi=>c*f i:=by
 induction n generalizing f with
 |zero=>rfl
 |succ n h=>simp only[pk,←h,Nat.mul_add,Nat.mul_left_comm]
theorem NO(n c:Nat)(f:Nat->Nat):pk n f <<< c=pk n λi=>f i <<< c:=by
 simp only[Nat.shiftLeft_eq,Nat.mul_comm _ (2 ^ c)];exact PM n _ f
theorem xw{n:Nat}{f:Nat->Nat}(h:∀i,f i<2 ^ 64)(j:Nat):(pk n f).testBit j=(decide (j<64*n)&&(f (j/64)).testBit (j%64)):=by
 induction n generalizing f j with
 |zero=>simp[pk]
 |succ n a=>
  rw[pk,Nat.testBit_two_pow_mul_add _ (h 0)];by_cases hj:j<64
  .rw[if_pos hj,Nat.div_eq_of_lt hj,wO hj,yJ (by omega),Bool.true_and]
  .rw[if_neg hj,a λi=>h (i+1)];have b:(j-64)/64+1=j/64:=by omega
   have e:(j-64)%64=j%64:=by omega
   rw[b,e]
   congr 1
   exact decide_eq_decide.2 (by omega)
theorem aM0{a b:Nat}(h:b<2 ^ 64):a &&& b<2 ^ 64:=Nat.and_lt_two_pow a h
theorem NN{n:Nat}{f g:Nat->Nat}(a:∀i,f i<2 ^ 64)(h:∀i,g i<2 ^ 64):pk n f ^^^ pk n g=pk n λi=>f i ^^^ g i:=by
 apply Nat.eq_of_testBit_eq;intro j;rw[Nat.testBit_xor,xw a,xw h,xw λi=>Nat.xor_lt_two_pow (a i) (h i),Nat.testBit_xor]
 cases decide (j<64*n)<;>simp
theorem BJ{n:Nat}{f g:Nat->Nat}(a:∀i,f i<2 ^ 64)(h:∀i,g i<2 ^ 64):pk n f &&& pk n g=pk n λi=>f i &&& g i:=by
 apply Nat.eq_of_testBit_eq;intro j;rw[Nat.testBit_and,xw a,xw h,xw λi=>aM0 (h i),Nat.testBit_and]
 cases decide (j<64*n)<;>simp
theorem SZ{n:Nat}{f g:Nat->Nat}(a:∀i,f i<2 ^ 64)(h:∀i,g i<2 ^ 64):pk n f |||pk n g=pk n λi=>f i |||g i:=by
 apply Nat.eq_of_testBit_eq;intro j;rw[Nat.testBit_or,xw a,xw h,xw λi=>Nat.or_lt_two_pow (a i) (h i),Nat.testBit_or]
 cases decide (j<64*n)<;>simp
def wW:=@Bool.and_false
theorem BH{n c:Nat}{f g:Nat->Nat}(b:∀i,f i<2 ^ 64)(a:∀i,g i<2 ^ (64-c)):pk n f >>> c &&& pk n g=pk n λi=>f i >>> c &&& g i:=by
 have h:∀i,g i<2 ^ 64:=λi=>yI (a i) (Nat.pow_le_pow_right (by decide) (by omega));apply Nat.eq_of_testBit_eq;intro j;rw[Nat.testBit_and,Nat.testBit_shiftRight,xw b,xw h,xw λi=>aM0 (h i),Nat.testBit_and,Nat.testBit_shiftRight];by_cases h1:j<64*n
 .rw[yJ h1];simp only[Bool.true_and];by_cases h2:c+j%64<64
  .have k:(c+j)/64=j/64:=by omega
   have d:(c+j)%64=c+j%64:=by omega
   rw[k,d,yJ (by omega),Bool.true_and]
  .have e:(g (j/64)).testBit (j%64)=false:=Nat.testBit_lt_two_pow (yI (a _) (Nat.pow_le_pow_right (by decide) (by omega)));rw[e,wW,wW]
 .rw[yE h1];simp
theorem G9{n:Nat}{f:Nat->Nat}(h:pk n f=0):∀i,i<n->f i=0:=by
 induction n generalizing f with
 |zero=>intro i b;omega
 |succ n a=>
  rw[pk]at h;intro i b
  cases i with
  |zero=>omega
  |succ i=>exact a (f:=λi=>f (i+1)) (by omega) i (by omega)
structure bK(n b:Nat)(P:Nat)(f:Nat->Nat):Prop where
 eq:P=pk n f
 lt:∀i,f i<2 ^ b
theorem bK.up{n b c P:Nat}{f:Nat->Nat}(h:bK n b P f)(a:b<=c):bK n c P f:=⟨h.eq,λi=>yI (h.lt i) (Nat.pow_le_pow_right (by decide) a)⟩
theorem bK.add{n b P Q:Nat}{f g:Nat->Nat}(h:bK n b P f)(k:bK n b Q g):bK n (b+1) (P+Q) (λi=>f i+g i):=
 ⟨by rw[h.eq,k.eq,BK],λi=>by have:=h.lt i;have:=k.lt i;rw[Nat.pow_succ];omega⟩
theorem bK.lt64{n b P:Nat}{f:Nat->Nat}(h:bK n b P f)(a:b<=64)(i:Nat):f i<2 ^ 64:=(h.up a).lt i
theorem bK.xor{n b P Q:Nat}{f g:Nat->Nat}(h:bK n b P f)(k:bK n b Q g)(a:b<=64):bK n b (P ^^^ Q) (λi=>f i ^^^ g i):=
 ⟨by rw[h.eq,k.eq,NN (h.lt64 a) (k.lt64 a)],λi=>Nat.xor_lt_two_pow (h.lt i) (k.lt i)⟩
theorem bK.and{n b c P Q:Nat}{f g:Nat->Nat}(h:bK n c P f)(k:bK n b Q g)(d:b<=64)(a:c<=64):bK n b (P &&& Q) (λi=>f i &&& g i):=
 ⟨by rw[h.eq,k.eq,BJ (h.lt64 a) (k.lt64 d)],λi=>Nat.and_lt_two_pow _ (k.lt i)⟩
def eA:Nat:=4294967295
def eu(m p n:Nat):Nat:=((p >>> n) |||(p <<< (32-n))) &&& m
theorem bK.shr{n c P Q:Nat}{f g:Nat->Nat}(h:bK n 32 P f)(k:bK n 32 Q g)(a:c<=32):bK n 32 (P >>> c &&& Q) (λi=>f i >>> c &&& g i):=
 ⟨by rw[h.eq,k.eq,BH (h.lt64 (by decide)) λi=>yI (k.lt i) (Nat.pow_le_pow_right (by decide) (by omega))],λi=>Nat.and_lt_two_pow _ (k.lt i)⟩
theorem bK.rot{n c P Q:Nat}{f g:Nat->Nat}(h:bK n 32 P f)(k:bK n 32 Q g)(a:c<=32):bK n 32 (eu Q P c) (λi=>eu (g i) (f i) c):=by
 have d:=h.shr k a;have s:∀i,f i <<< (32-c)<2 ^ 64:=λi=>by
  have b:=h.lt i;rw[Nat.shiftLeft_eq]
  calc f i*2 ^ (32-c)<2 ^ 32*2 ^ (32-c):=Nat.mul_lt_mul_of_pos_right b (Nat.pow_pos (by decide))
   _<=2 ^ 32*2 ^ 32:=Nat.mul_le_mul_left _ (Nat.pow_le_pow_right (by decide) (by omega))
   _=2 ^ 64:=by decide
 refine⟨?_,λi=>Nat.and_lt_two_pow _ (k.lt i)⟩;unfold eu;rw[Nat.and_or_distrib_right,d.eq,h.eq,k.eq,NO,BJ s (k.lt64 (by decide)),SZ (λi=>aM0 (k.lt64 (by decide) i)) (λi=>aM0 (k.lt64 (by decide) i))]
 congr 1
 funext i
 rw[Nat.and_or_distrib_right]
theorem bK.mul{n b c P:Nat}{f:Nat->Nat}(k:Nat)(h:bK n b P f)(a:k<2 ^ c):bK n (c+b) (k*P) (λi=>k*f i):=
 ⟨by rw[h.eq,PM],λi=>by rw[Nat.pow_add];exact Nat.mul_lt_mul'' a (h.lt i)⟩
structure P8 where
 a:Nat
 b:Nat
 c:Nat
 d:Nat
 e:Nat
 f:Nat
 g:Nat
 h:Nat
def ew{α:Type}(n:Nat)(k:Nat->α):α:=Nat.rec (k 0) (λm _=>k (m+1)) n
theorem J6{α:Type}(n:Nat)(k:Nat->α):ew n k=k n:=by cases n<;>rfl
def Qs(m e f g:Nat):Nat:=(e &&& f) ^^^ ((e ^^^ m) &&& g)
def qa(a b c:Nat):Nat:=(a &&& b) ^^^ (a &&& c) ^^^ (b &&& c)
def k9(m p i j k:Nat):Nat:=eu m p i ^^^ eu m p j ^^^ eu m p k
def xL(m o k w:Nat)(s:P8):Nat:=s.h+k9 m s.e 6 11 25+Qs m s.e s.f s.g+k*o+w
def aL(m x:Nat)(s:P8):Nat:=(x+k9 m s.a 2 13 22+qa s.a s.b s.c) &&& m
def S4(m w p v q:Nat):Nat:=(w+(eu m p 7 ^^^ eu m p 18 ^^^ (p >>> 3 &&& m))+v+(eu m q 17 ^^^ eu m q 19 ^^^ (q >>> 10 &&& m))) &&& m
def CU(m o:Nat):List Nat->P8->List Nat->P8
 |[],s,_=>s
 |k::l,s,w=>
  ew (w.headD 0) λb=>ew (xL m o k b s) λx=>ew (aL m x s) λa=>ew ((s.d+x) &&& m) λe=>
  ew (S4 m b (w.getD 1 0) (w.getD 9 0) (w.getD 14 0)) λn=>
  CU m o l ⟨a,s.a,s.b,s.c,e,s.e,s.f,s.g⟩ (w.tail++[n])
def ua(m o k:Nat)(s:P8)(w:List Nat):P8:=⟨aL m (xL m o k (w.headD 0) s) s,s.a,s.b,s.c,(s.d+xL m o k (w.headD 0) s) &&& m,s.e,s.f,s.g⟩
def FC(m:Nat)(w:List Nat):List Nat:=w.tail++[S4 m (w.headD 0) (w.getD 1 0) (w.getD 9 0) (w.getD 14 0)]
theorem ba0(m o k:Nat)(l:List Nat)(s:P8)(w:List Nat):CU m o (k::l) s w=CU m o l (ua m o k s w) (FC m w):=by
 simp only[CU,J6];rfl
structure ER(n:Nat)(S:P8)(F:Nat->P8):Prop where
 a:bK n 32 S.a λi=>(F i).a
 b:bK n 32 S.b λi=>(F i).b
 c:bK n 32 S.c λi=>(F i).c
 d:bK n 32 S.d λi=>(F i).d
 e:bK n 32 S.e λi=>(F i).e
 f:bK n 32 S.f λi=>(F i).f
 g:bK n 32 S.g λi=>(F i).g
 h:bK n 32 S.h λi=>(F i).h
def xk(n:Nat)(w:List Nat)(W:Nat->List Nat):Prop:=w.length=16/\(∀i,(W i).length=16)/\∀j,bK n 32 (w.getD j 0) λi=>(W i).getD j 0
theorem bK.const(n b c:Nat)(h:c<2 ^ b){o:Nat}(a:bK n 1 o λ_=>1):bK n b (c*o) λ_=>c:=
 ⟨by rw[a.eq,PM];simp,λ_=>h⟩
theorem bK.st{n m o k:Nat}{S:P8}{F:Nat->P8}{w:List Nat}{W:Nat->List Nat}(d:bK n 32 m λ_=>eA)(r:bK n 1 o λ_=>1)(s:k<2 ^ 32)(h:ER n S F)(q:xk n w W) :
  ER n (ua m o k S w) λi=>ua eA 1 k (F i) (W i):=by
 have x:bK n 32 (w.headD 0) λi=>(W i).headD 0:=by
  have:=q.2.2 0;have e:∀l:List Nat,l.headD 0=l.getD 0 0:=λl=>by cases l<;>rfl
  rw[e];simp only[e];exact this
 have v:bK n 32 (k9 m S.e 6 11 25) λi=>k9 eA (F i).e 6 11 25:=((h.e.rot d (by decide)).xor (h.e.rot d (by decide)) (by decide)).xor (h.e.rot d (by decide)) (by decide);have u:bK n 32 (Qs m S.e S.f S.g) λi=>Qs eA (F i).e (F i).f (F i).g:=(h.e.and h.f (by decide) (by decide)).xor ((h.e.xor d (by decide)).and h.g (by decide) (by decide)) (by decide);have j:bK n 32 (k*o) λ_=>k*1:=by simp only[Nat.mul_one];exact bK.const n 32 k s r
 have hx:bK n 36 (xL m o k (w.headD 0) S) λi=>xL eA 1 k ((W i).headD 0) (F i):=
  (((h.h.add v).add (u.up (by decide))).add (j.up (by decide))).add (x.up (by decide))
 have p:bK n 32 (k9 m S.a 2 13 22) λi=>k9 eA (F i).a 2 13 22:=((h.a.rot d (by decide)).xor (h.a.rot d (by decide)) (by decide)).xor (h.a.rot d (by decide)) (by decide);have t:bK n 32 (qa S.a S.b S.c) λi=>qa (F i).a (F i).b (F i).c:=((h.a.and h.b (by decide) (by decide)).xor (h.a.and h.c (by decide) (by decide)) (by decide)).xor (h.b.and h.c (by decide) (by decide)) (by decide);exact⟨((hx.add (p.up (by decide))).add (t.up (by decide))).and d (by decide) (by decide),h.a,h.b,h.c,((h.d.up (by decide)).add hx).and d (by decide) (by decide),h.e,h.f,h.g⟩
theorem bg6(l:List Nat)(x j:Nat)(h:l.length=16):(l.tail++[x]).getD j 0=if j<15 then l.getD (j+1) 0 else if j=15 then x else 0:=by
 obtain⟨a,t,rfl⟩:=List.exists_cons_of_length_eq_add_one h;have c:t.length=15:=by simpa using h
 simp only[List.tail_cons,List.getD_eq_getElem?_getD,List.getElem?_cons_succ];by_cases h1:j<15
 .rw[if_pos h1,yP (by omega)]
 .rw[if_neg h1,yK (by omega),c];by_cases b:j=15
  .subst b;rfl
  .rw[if_neg b,yY.2 (by simp;omega)];rfl
theorem bK.ws{n m:Nat}{w:List Nat}{W:Nat->List Nat}(a:bK n 32 m λ_=>eA)(k:xk n w W):xk n (FC m w) λi=>FC eA (W i):=by
 obtain⟨g,f,h⟩:=k;have e:∀l:List Nat,l.headD 0=l.getD 0 0:=λl=>by cases l<;>rfl
 refine⟨by unfold FC;simp[g],λi=>by unfold FC;simp[f i],λj=>?_⟩;unfold FC;rw[bg6 _ _ _ g];simp only[bg6 _ _ _ (f _)];by_cases hj:j<15
 .simp only[if_pos hj];exact h (j+1)
 .simp only[if_neg hj];by_cases hj2:j=15
  .simp only[if_pos hj2,e];have d:=(((h 1).rot a (c:=7) (by decide)).xor ((h 1).rot a (c:=18) (by decide)) (by decide)).xor ((h 1).shr a (c:=3) (by decide)) (by decide);have b:=(((h 14).rot a (c:=17) (by decide)).xor ((h 14).rot a (c:=19) (by decide)) (by decide)).xor ((h 14).shr a (c:=10) (by decide)) (by decide);exact((((h 0).add d).add ((h 9).up (by decide))).add (b.up (by decide))).and a (by decide) (by decide)
  .simp only[if_neg hj2];refine⟨?_,λi=>by decide⟩;have:=PM n 0 λ_=>0
   simpa using this
theorem bK.go{n m o:Nat}(a:bK n 32 m λ_=>eA)(c:bK n 1 o λ_=>1):∀(l:List Nat),(∀k∈l,k<2 ^ 32)->∀(S:P8)(F:Nat->P8)(w:List Nat)(W:Nat->List Nat),ER n S F->xk n w W->ER n (CU m o l S w) λi=>CU eA 1 l (F i) (W i)
 |[],_,_,_,_,_,h,_=>h
 |k::l,d,S,F,w,W,h,b=>by
  simp only[ba0];exact bK.go a c l (λk e=>d k (yQ _ e)) _ _ _ _ (bK.st a c (d k yN) h b) (bK.ws a b)
end
end Go.Proofs.YtilnpcolgcmofaaGreatDoor
