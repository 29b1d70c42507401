/- A part of the proof: Zg Zh Zi Zj Yh Yi Zl Zm Zn Ln. -/
import Derived.Test.YtilnpcolgcmofaaGreatDoorA11
set_option maxRecDepth 100000
set_option maxHeartbeats 20000000
set_option linter.all false
namespace Go.Proofs.YtilnpcolgcmofaaGreatDoor
open Tryz
section
open Go
def fU(l:List Nat):List D:=l.map yD++List.replicate (32-l.length) (yD 0)
theorem M6{l:List Nat}(h:l.length<=32):(fU l).length=32:=by unfold fU;simp;omega
theorem FY{l:List Nat}(h:l.length<32)(x:Nat):(fU l).set l.length (yD x)=fU (l++[x]):=by
 unfold fU;rw[show 32-l.length=(32-(l++[x]).length)+1 by simp;omega,List.replicate_succ,List.set_append_right _ _ (by simp)];simp
theorem FZ{l:List Nat}(h:l.length=32):fU l=l.map yD:=by unfold fU;rw[h];simp
def tH(l:List Nat):D:=.agg ((List.range 32).map λi=>yD (l.getD i 0))
theorem rq{l:List Nat}(h:l.length=32):(List.range 32).map (λi=>yD (l.getD i 0))=l.map yD:=X2
theorem G5(m:List Nat):(py m).length=32:=by unfold py;simp
abbrev Tx(s:S8):List D:=[wD s.a,wD s.b,wD s.c,wD s.d,wD s.e,wD s.f,wD s.g,wD s.h]
theorem Tw(s:S8){i:Nat}(h:i<8):(Tx s)[i]?=some (wD (s.list.getD i 0)):=by
 rcases i with _|_|_|_|_|_|_|_|i
 any_goals rfl
 omega
theorem NP(m:List Nat){i:Nat}(h:i<32):(py m)[i]?=some (jZ (fh (m++cx m.length) ((m.length+(cx m.length).length)/64)) i):=by
 unfold py;rw[qA,xV h]
 rfl
theorem aI6{α:Type}{l:List α}{j:Nat}{x:α}(h:l[j]?=some x):l.take (j+1)=l.take j++[x]:=by rw[xC,h];rfl
theorem u7x{A B:Prop}(k:B)(h:ar B->A:=by intro q7;(first|refine KJ ?_|refine Ng ?_|((with_reducible refine' Sv.at 0 ?h1 ?h2 ?h3 ?h4 ?h5 ?_);(case h1=>exact rfl);(case h2=>exact rfl);(case h3=>exact rfl);(case h4=>exact rfl);(case h5=>exact(by first|(simp only[List.set_cons_succ,List.set_cons_zero,fz,gP,nx,List.take_succ_cons,List.take_zero,List.drop_succ_cons,List.drop_zero,List.length_cons,List.length_nil,List.nil_append,List.cons_append,Nat.reduceAdd,xD,zZ,List.map_cons,List.map_nil];rfl)|rfl)))|((with_reducible refine' Sv.at 1 ?h1 ?h2 ?h3 ?h4 ?h5 ?_);(case h1=>exact rfl);(case h2=>exact rfl);(case h3=>exact rfl);(case h4=>exact rfl);(case h5=>exact(by first|(simp only[List.set_cons_succ,List.set_cons_zero,fz,gP,nx,List.take_succ_cons,List.take_zero,List.drop_succ_cons,List.drop_zero,List.length_cons,List.length_nil,List.nil_append,List.cons_append,Nat.reduceAdd,xD,zZ,List.map_cons,List.map_nil];rfl)|rfl)))|((with_reducible refine' Sv.at 2 ?h1 ?h2 ?h3 ?h4 ?h5 ?_);(case h1=>exact rfl);(case h2=>exact rfl);(case h3=>exact rfl);(case h4=>exact rfl);(case h5=>exact(by first|(simp only[List.set_cons_succ,List.set_cons_zero,fz,gP,nx,List.take_succ_cons,List.take_zero,List.drop_succ_cons,List.drop_zero,List.length_cons,List.length_nil,List.nil_append,List.cons_append,Nat.reduceAdd,xD,zZ,List.map_cons,List.map_nil];rfl)|rfl))));exact q7.1):A:=h ⟨k⟩
theorem u6x{A B:Prop}(k:B)(h:ar B->A:=by intro q7;(first|((with_reducible refine' Ot.yd ?hyd ?_);(case hyd=>first|(refine' ai4 ai rfl rfl rfl rfl rfl ?hc ?h0;(case hc=>assumption);(case h0=>omega))|(refine ai3 ai rfl rfl rfl rfl rfl ?_;first|omega|(simp only[zL,zR,zI,List.length_cons,List.length_nil,zY,Nat.reduceAdd];omega))|exact an4 rfl rfl rfl|exact an5 rfl rfl rfl|(refine bc6 ai rfl rfl rfl rfl rfl ?_ ?_<;>decide)))|refine u1x ?_);exact q7.1):A:=h ⟨k⟩
theorem br3{A B:Prop}(k:B)(h:ar B->A:=by intro q7;(first|refine u7x ?_|refine u6x ?_);exact q7.1):A:=h ⟨k⟩
theorem Sl{A B:Prop}(k:B)(h:ar B->A:=by intro q7;(first|refine br3 ?_|refine aA ?_|(refine' ah ?hc ?_;(case hc=>first|exact HP|exact HW|exact e' _ 6 (by decide) (by decide)|exact e' _ 11 (by decide) (by decide)|exact e' _ 25 (by decide) (by decide)|exact e' _ 2 (by decide) (by decide)|exact e' _ 13 (by decide) (by decide)|exact e' _ 22 (by decide) (by decide))));exact q7.1):A:=h ⟨k⟩
theorem br2{A B:Prop}(k:B)(h:ar B->A:=by intro q7;(first|refine KJ ?_|refine Ng ?_|fail|refine u6x ?_);exact q7.1):A:=h ⟨k⟩
theorem bo4{A B:Prop}(k:B)(h:ar B->A:=by intro q7;(first|refine br2 ?_|refine aA ?_|(refine' ah ?hc ?_;(case hc=>first|exact HP|exact HW|exact e' _ 6 (by decide) (by decide)|exact e' _ 11 (by decide) (by decide)|exact e' _ 25 (by decide) (by decide)|exact e' _ 2 (by decide) (by decide)|exact e' _ 13 (by decide) (by decide)|exact e' _ 22 (by decide) (by decide))));exact q7.1):A:=h ⟨k⟩
theorem RM{A B:Prop}(k:B)(h:ar B->A:=by intro q7;(first|((with_reducible refine' Sv.at 1 ?h1 ?h2 ?h3 ?h4 ?h5 ?_);(case h1=>exact rfl);(case h2=>exact rfl);(case h3=>exact rfl);(case h4=>exact rfl);(case h5=>exact(by first|(simp only[List.set_cons_succ,List.set_cons_zero,fz,gP,nx,List.take_succ_cons,List.take_zero,List.drop_succ_cons,List.drop_zero,List.length_cons,List.length_nil,List.nil_append,List.cons_append,Nat.reduceAdd,xD,zZ,List.map_cons,List.map_nil];rfl)|rfl)))|refine u6x ?_);exact q7.1):A:=h ⟨k⟩
theorem br1{A B:Prop}(k:B)(h:ar B->A:=by intro q7;(first|refine KJ ?_|refine Ng ?_|refine RM ?_);exact q7.1):A:=h ⟨k⟩
theorem bF{A B:Prop}(k:B)(h:ar B->A:=by intro q7;(first|refine br1 ?_|refine aA ?_|(refine' ah ?hc ?_;(case hc=>first|exact HP|exact HW|exact e' _ 6 (by decide) (by decide)|exact e' _ 11 (by decide) (by decide)|exact e' _ 25 (by decide) (by decide)|exact e' _ 2 (by decide) (by decide)|exact e' _ 13 (by decide) (by decide)|exact e' _ 22 (by decide) (by decide))));exact q7.1):A:=h ⟨k⟩
theorem br0{A B:Prop}(k:B)(h:ar B->A:=by intro q7;(first|refine KJ ?_|fail|refine RM ?_);exact q7.1):A:=h ⟨k⟩
theorem bo3{A B:Prop}(k:B)(h:ar B->A:=by intro q7;(first|refine br0 ?_|refine aA ?_|(refine' ah ?hc ?_;(case hc=>first|exact HP|exact HW|exact e' _ 6 (by decide) (by decide)|exact e' _ 11 (by decide) (by decide)|exact e' _ 25 (by decide) (by decide)|exact e' _ 2 (by decide) (by decide)|exact e' _ 13 (by decide) (by decide)|exact e' _ 22 (by decide) (by decide))));exact q7.1):A:=h ⟨k⟩
theorem bq9{A B:Prop}(k:B)(h:ar B->A:=by intro q7;(first|refine KJ ?_|fail|fail|refine u6x ?_);exact q7.1):A:=h ⟨k⟩
theorem Sk{A B:Prop}(k:B)(h:ar B->A:=by intro q7;(first|refine bq9 ?_|refine aA ?_|(refine' ah ?hc ?_;(case hc=>first|exact HP|exact HW|exact e' _ 6 (by decide) (by decide)|exact e' _ 11 (by decide) (by decide)|exact e' _ 25 (by decide) (by decide)|exact e' _ 2 (by decide) (by decide)|exact e' _ 13 (by decide) (by decide)|exact e' _ 22 (by decide) (by decide))));exact q7.1):A:=h ⟨k⟩
theorem cl6{p:Prop}(h:p:=by(refine gz λa=>?_;simp only[List.append_eq,List.nil_append,gy,hY,gO,NX,PM,iD,bD];omega)):p:=h
def vR:=@List.map_take
theorem N4(y:List Nat)(hl:y.length<=1000000)(K:∀d∈y,d<256):APure prog 276 [AH y] (tH (py y)):=by
 have HP:=N5 y hl;have T:=HY y.length;have U:(cx y.length).length<=100:=by rw[aY8];unfold gY;omega
 obtain⟨m,D⟩:∃m,m=y++cx y.length:=⟨_,rfl⟩
 have V:m.length=y.length+(cx y.length).length:=by rw[D,zI]
 have v:∀d∈m,d<256:=λd E=>by
  rw[D]at E;rcases zO.1 E with h|h
  .exact K d h
  .exact HZ _ d h
 obtain⟨N,Y⟩:∃N,N=(y.length+(cx y.length).length)/64:=⟨_,rfl⟩
 have X:m.length=64*N:=by omega
 have C:=λ{i:Nat}(h:i<32)=>NP y h;have o:=G5 y;rw[←D,←Y]at C;rw[←D]at HP;generalize py y=L at *;refine ap func276 ntmps276 λZ=>?_
 repeat' first|refine Sl ?_|intro b;conv=>whnf
 rename_i b2;refine aR mixed ai (γ:=Nat) (λn=>[(5,iD ((64*n:Nat):Int))]) (λn=>[(b,.cells 373 (Tx (fh m n))),(b2,.cells 363 (fU []))]) (λn=>n<=N) (λn=>N-n) 0 (aj av) (Sc.refl _) (zW _) ?_;intro n O;by_cases hnN:n<N
 .skip
  have HW:=BE ((m.drop (64*n)).take 64) (by simp;omega) (λd E=>v d (List.mem_of_mem_drop (xG E)));have z:fh m (n+1)=(fh m n).add (cZ (fh m n) ((m.drop (64*n)).take 64) 64):=rfl;generalize fh m n=S at *;obtain⟨k,s⟩:∃k,k=(m.drop (64*n)).take 64:=⟨_,rfl⟩
  rw[←s]at HW z;have x:=JL k 64;obtain⟨l,P⟩:∃l,l=bJ k 64:=⟨_,rfl⟩
  rw[←P]at x HW;unfold oE at HW
  repeat' first|refine Sl ?_|intro b;conv=>whnf
  refine Ot.yd (FQ ai (l:=64*n) (h:=64*n+64) (ys:=k.map yC) rfl rfl rfl rfl rfl (.inr ⟨_,_,_,rfl,rfl,rfl⟩) (.inr ⟨_,_,_,rfl,rfl,by omega⟩) (by omega) (by simp;omega) (by rw[s,List.drop_take,vR,List.map_drop];congr 1;omega)) ?_
  repeat' first|refine bo4 ?_|intro b;conv=>whnf
  rename_i F;refine Sv.perm (cs':=l.map wD) (zH _) rfl (by decide) rfl (by rw[←oD x];rfl) ?_
  repeat' first|refine bF ?_|intro b;conv=>whnf
  refine aR mixed ai (γ:=Nat) (λt=>[(15,iD t),(7,wD (cZ S k t).a),(8,wD (cZ S k t).b),(9,wD (cZ S k t).c),(10,wD (cZ S k t).d),(11,wD (cZ S k t).e),(12,wD (cZ S k t).f),(13,wD (cZ S k t).g),(14,wD (cZ S k t).h)]) (λt=>[(b,.cells 375 (l.map wD)),(F,.cells 373 (Tx S)),(b2,.cells 363 (fU []))]) (λt=>t<=64) (λt=>64-t) 0 (aj av) (Sc.refl _) (by decide) ?_;intro t ht;by_cases h64:t<64
  .have Q:(l.map wD)[t]?=some (wD (l.getD t 0)):=by rw[qA,List.getD_eq_getElem?_getD,zD (by omega)];rfl
   have O:cZ S k (t+1)=Ty (cZ S k t) (C5 t) (l.getD t 0):=by rw[cZ,P]
   generalize cZ S k t=R at *
   repeat' first|refine bF ?_|intro b;conv=>whnf
   refine Ot.yd (cW (r:=wV (ez R.e 6 ^^^ ez R.e 11)) rfl rfl rfl (λw=>yu _ _)) ?_;repeat'(first|refine bF ?_|intro b;conv=>whnf)
   refine Ot.yd (cW (r:=wV (fD R.e 6 11 25)) rfl rfl rfl (λw=>yu _ _)) ?_;repeat'(first|refine bF ?_|intro b;conv=>whnf)
   refine Ot.yd (cW (r:=wV (R.h+fD R.e 6 11 25)) rfl rfl rfl (λw=>l4 _ _)) ?_;repeat'(first|refine bF ?_|intro b;conv=>whnf)
   refine Ot.yd (cW (r:=wV (R.e &&& R.f)) rfl rfl rfl (λw=>Zy _ _)) ?_;repeat'(first|refine bF ?_|intro b;conv=>whnf)
   refine Ot.yd (cW (r:=wV (R.e ^^^ BitVec.allOnes 32)) rfl rfl rfl (λw=>yu R.e (BitVec.allOnes 32))) ?_;repeat'(first|refine bF ?_|intro b;conv=>whnf)
   rw[BitVec.xor_allOnes];refine Ot.yd (cW (r:=wV (~~~R.e &&& R.g)) rfl rfl rfl (λw=>Zy _ _)) ?_;repeat'(first|refine bF ?_|intro b;conv=>whnf)
   refine Ot.yd (cW (r:=wV (Fl R.e R.f R.g)) rfl rfl rfl (λw=>yu _ _)) ?_;repeat'(first|refine bF ?_|intro b;conv=>whnf)
   refine Ot.yd (cW (r:=wV (R.h+fD R.e 6 11 25+Fl R.e R.f R.g)) rfl rfl rfl (λw=>l4 _ _)) ?_;repeat'(first|refine bF ?_|intro b;conv=>whnf)
   refine Ot.yd (jr ai (m:=t) (q:=t) rfl rfl rfl rfl rfl (by omega) (by omega) (xD _)) ?_;repeat'(first|refine bF ?_|intro b;conv=>whnf)
   refine Ld.yd (RD h64 rfl rfl) ?_
   repeat' first|refine bF ?_|intro b;conv=>whnf
   refine Ot.yd (cW (r:=wV (R.h+fD R.e 6 11 25+Fl R.e R.f R.g+C5 t)) rfl rfl rfl (λw=>l4 _ _)) ?_;repeat'(first|refine bF ?_|intro b;conv=>whnf)
   refine Ot.yd (jr ai (m:=t) (q:=t) rfl rfl rfl rfl rfl (by omega) (by omega) (xD _)) ?_;repeat'(first|refine bF ?_|intro b;conv=>whnf)
   refine Ld.cellm (tb:=375) (List.Mem.head _) Q ?_
   repeat' first|refine bF ?_|intro b;conv=>whnf
   refine Ot.yd (cW (r:=wV (R.h+fD R.e 6 11 25+Fl R.e R.f R.g+C5 t+l.getD t 0)) rfl rfl rfl (λw=>l4 _ _)) ?_;repeat'(first|refine bF ?_|intro b;conv=>whnf)
   refine Ot.yd (cW (r:=wV (ez R.a 2 ^^^ ez R.a 13)) rfl rfl rfl (λw=>yu _ _)) ?_;repeat'(first|refine bF ?_|intro b;conv=>whnf)
   refine Ot.yd (cW (r:=wV (fD R.a 2 13 22)) rfl rfl rfl (λw=>yu _ _)) ?_;repeat'(first|refine bF ?_|intro b;conv=>whnf)
   refine Ot.yd (cW (r:=wV (R.a &&& R.b)) rfl rfl rfl (λw=>Zy _ _)) ?_;repeat'(first|refine bF ?_|intro b;conv=>whnf)
   refine Ot.yd (cW (r:=wV (R.a &&& R.c)) rfl rfl rfl (λw=>Zy _ _)) ?_;repeat'(first|refine bF ?_|intro b;conv=>whnf)
   refine Ot.yd (cW (r:=wV ((R.a &&& R.b) ^^^ (R.a &&& R.c))) rfl rfl rfl (λw=>yu _ _)) ?_;repeat'(first|refine bF ?_|intro b;conv=>whnf)
   refine Ot.yd (cW (r:=wV (R.b &&& R.c)) rfl rfl rfl (λw=>Zy _ _)) ?_;repeat'(first|refine bF ?_|intro b;conv=>whnf)
   refine Ot.yd (cW (r:=wV (vt R.a R.b R.c)) rfl rfl rfl (λw=>yu _ _)) ?_;repeat'(first|refine bF ?_|intro b;conv=>whnf)
   refine Ot.yd (cW (r:=wV (fD R.a 2 13 22+vt R.a R.b R.c)) rfl rfl rfl (λw=>l4 _ _)) ?_;repeat'(first|refine bF ?_|intro b;conv=>whnf)
   refine Ot.yd (cW (r:=wV (R.d+(R.h+fD R.e 6 11 25+Fl R.e R.f R.g+C5 t+l.getD t 0))) rfl rfl rfl (λw=>l4 _ _)) ?_;repeat'(first|refine bF ?_|intro b;conv=>whnf)
   refine Ot.yd (cW (r:=wV (R.h+fD R.e 6 11 25+Fl R.e R.f R.g+C5 t+l.getD t 0+(fD R.a 2 13 22+vt R.a R.b R.c))) rfl rfl rfl (λw=>l4 _ _)) ?_;repeat'(first|refine bF ?_|intro b;conv=>whnf)
   exact⟨t+1,(by simp only[O];exact(aj av)),Sc.refl _,by omega,by omega⟩
  .obtain rfl:t=64:=by omega
   generalize cZ S k 64=R at *
   repeat' first|refine bF ?_|intro b;conv=>whnf
   refine Ot.yd (cW (r:=wV (S.a+R.a)) rfl rfl rfl (λw=>l4 _ _)) ?_;repeat'(first|refine bF ?_|intro b;conv=>whnf)
   refine Ot.yd (cW (r:=wV (S.b+R.b)) rfl rfl rfl (λw=>l4 _ _)) ?_;repeat'(first|refine bF ?_|intro b;conv=>whnf)
   refine Ot.yd (cW (r:=wV (S.c+R.c)) rfl rfl rfl (λw=>l4 _ _)) ?_;repeat'(first|refine bF ?_|intro b;conv=>whnf)
   refine Ot.yd (cW (r:=wV (S.d+R.d)) rfl rfl rfl (λw=>l4 _ _)) ?_;repeat'(first|refine bF ?_|intro b;conv=>whnf)
   refine Ot.yd (cW (r:=wV (S.e+R.e)) rfl rfl rfl (λw=>l4 _ _)) ?_;repeat'(first|refine bF ?_|intro b;conv=>whnf)
   refine Ot.yd (cW (r:=wV (S.f+R.f)) rfl rfl rfl (λw=>l4 _ _)) ?_;repeat'(first|refine bF ?_|intro b;conv=>whnf)
   refine Ot.yd (cW (r:=wV (S.g+R.g)) rfl rfl rfl (λw=>l4 _ _)) ?_;repeat'(first|refine bF ?_|intro b;conv=>whnf)
   refine Ot.yd (cW (r:=wV (S.h+R.h)) rfl rfl rfl (λw=>l4 _ _)) ?_;repeat'(first|refine bF ?_|intro b;conv=>whnf)
   exact⟨n+1,(aj av),by rw[z];exact Sc.sl (yG _ _),by omega,by omega⟩
 .obtain rfl:n=N:=by omega
  generalize fh m n=S at *
  repeat' first|refine bF ?_|intro b;conv=>whnf
  rename_i F;refine aR mixed ai (γ:=Nat) (λi=>[(19,iD i)]) (λi=>[(b,.cells 363 (fU (L.take i))),(F,.cells 373 (Tx S)),(b2,.cells 363 (fU []))]) (λi=>i<=32) (λi=>32-i) 0 (aj av) (Sc.refl _) (by decide) ?_;intro i hi;have J:(L.take i).length=i:=by rw[zR];omega
  by_cases hi32:i<32
  .have j:((i:Int)).tdiv 4=((i/4:Nat):Int):=R6 i 4;have I:((i:Int)).tmod 4=((i%4:Nat):Int):=Ak i 4;have M:=FY (l:=L.take i) (by omega) (jZ S i);have G:=M6 (l:=L.take i) (by omega);rw[J,←aI6 (C hi32)]at M
   repeat' first|refine bF ?_|intro b;conv=>whnf
   refine Sd.go ⟨by decide,by rw[j];exact⟨by omega,by omega⟩⟩ ?_;rw[j]
   repeat' first|refine bF ?_|intro b;conv=>whnf
   refine Ot.yd (jr ai (m:=i/4) (q:=i/4) rfl rfl rfl rfl rfl ?hq1 ?hq2 (xD _)) ?_;(case hq1=>first|exact j|omega);(case hq2=>omega);repeat'(first|refine bF ?_|intro b;conv=>whnf)
   refine Ld.cellm (tb:=373) (List.Mem.tail _ (List.Mem.head _)) (Tw S (i:=i/4) (by omega)) ?_
   repeat' first|refine bF ?_|intro b;conv=>whnf
   rw[show(24:Int)-8*(i:Int).tmod 4=((24-8*(i%4):Nat):Int) by rw[I];omega];refine Ot.yd (cW (r:=.int .u32 (((S.list.getD (i/4) 0).toNat/2 ^ (24-8*(i%4)):Nat):Int)) rfl rfl rfl (λw=>kH .u32 _ .i64 (24-8*(i%4)) (by show _<=32;omega))) ?_
   repeat' first|refine bF ?_|intro b;conv=>whnf
   refine Ot.yd (xr (m:=((jZ S i:Nat):Int)) rfl rfl underlying372 underlying5 (by unfold jZ;simp only[IntKind.wrap_u8];omega)) ?_
   repeat' first|refine bF ?_|intro b;conv=>whnf
   refine Ot.yd (jr ai (m:=i) (q:=i) rfl rfl rfl rfl rfl ?hq1 ?hq2 (xD _)) ?_;(case hq1=>first|exact j|omega);(case hq2=>omega);repeat'(first|refine bF ?_|intro b;conv=>whnf)
   refine Sv.cellm (zH _) (by rw[G];exact hi32) rfl M ?_
   repeat' first|refine bF ?_|intro b;conv=>whnf
   exact⟨i+1,(aj av),Sc.refl _,by omega,by omega⟩
  .obtain rfl:i=32:=by omega
   rw[yL (by omega)];have u:=FZ o
   repeat' first|refine bo3 ?_|intro b;conv=>whnf
   refine Ld.mem (tb:=363) (cs:=fU L) (d:=tH L) (List.Mem.head _) (by rw[u,zL,o];decide) (by rw[u];unfold tH;rw[rq o];simp only[nx,List.drop_zero];rw[yL (by simp[o])];rfl) ?_;unfold tH
   repeat' first|refine Sk ?_|intro b;conv=>whnf
   refine Sv.perm (tb:=363) (cs:=fU []) (τ:=[(b,.cells 363 (fU L)),(F,.cells 373 (Tx S))]) (cs':=(List.range 32).map λi=>yD (L.getD i 0)) cl6 rfl (by decide) rfl rfl ?_
   repeat' first|refine Sk ?_|intro b;conv=>whnf
   exact Rt.pure rfl
end
section
open Go Go.RowKit Go.Shelf
section
variable {P:Program} {σ:af} {ρ:Operand->D} {T:TypeId->Option TI}
theorem Pk.part{b o n c:Nat}{tb:TypeId}{cs:List D}{xs:List (List D)}(y:(b,aB.cells tb cs)∈σ)(p:xs.length=n)(l:n<=c)(hx:∀(q:Nat)x,xs[q]?=some x->∃d,x=[d]/\cs[o+q]?=some d):Pk σ (.v (.slice (some ⟨b,o,none⟩) n c)) (.sl 1 xs):=⟨λw X u j r=>by
 have:=r.val rfl;subst this;subst p;obtain⟨_,z,e,vs,rfl,s⟩:=j.at_ b _ y;refine .sl 1 xs (some ⟨b,o,none⟩) c (λq _=>vs.getD (o+q) undef) l (λx h=>?_) (λq x a=>⟨b,o,rfl,λh=>h,(zX.1 e).1,λm A=>?_⟩) (λq x a m d i=>?_)
 .obtain⟨q,a⟩:=yO h;obtain⟨d,rfl,_⟩:=hx q x a
  rfl
 .obtain⟨d,rfl,f⟩:=hx q x a;obtain⟨u,k,g⟩:=s.get f;obtain rfl:m=0:=by omega
  have t:=(zE.1 k).1;simp[World.cell?,e,List.getD_eq_getElem?_getD,k]
 .obtain⟨B,rfl,f⟩:=hx q x a
  cases m with
  |zero=>
   cases i
   obtain⟨u,k,g⟩:=s.get f
   simpa [List.getD_eq_getElem?_getD,k]using g.stable
  |succ m=>cases i⟩
end
section
variable {P:Program} {t:TypeId} {p q:Operand} {w:World}
end
structure gB where
 S:S8
 b:List Nat
 n:Nat
def gB.cut(s:gB)(t:List Nat):Nat:=Nat.min t.length (64-s.n%64)
def gB.step(s:gB)(t:List Nat):gB:=
 ⟨if s.n%64+s.cut t=64 then FB s.S (vf s.b (s.n%64) (t.take (s.cut t)))else s.S,vf s.b (s.n%64) (t.take (s.cut t)),s.n+s.cut t⟩
def gB.add:Nat->gB->List Nat->gB
 |0,s,_=>s
 |f+1,s,t=>if t=[]then s else gB.add f (s.step t) (t.drop (s.cut t))
end
section
open Go
end
section
open Go Go.RowKit Go.Shelf
section
variable {P:Program} {σ τ:af} {ρ:Operand->D}
end
def gB.fin(s:gB):gB:=gB.add (cx s.n).length s (cx s.n)
end
section
open Go
section
variable {P:Program} {r:Option Nat} {n:Nat} {df:Nat} {N:Nat} {σ:af} {a:List D} {f:aM} {T:TypeId->Option TI} {L:List Oper}
end
theorem bn0{c k:Nat}{l:List Int}(a:l.length<=c)(h:c*k<=140737488355328):(l.map λn=>[iD n]).length*k<=140737488355328:=by rw[zL];exact xH (xZ _ a) h
end
section
open Go
theorem E7.pre{w:List (List (List Int))}(h:E7 w)(k:Nat):(bH w.length++(w.take k).flatMap wp).length<=220000:=by
 rw[zI];have g:=h.k;have j:=Ft (n:=(w.length:Int)) (ri (by omega));have e:=Qg (f:=wp) (l:=w.take k) (c:=10989) (λl a=>h.kl l (xG a));rw[zR]at e;have d:Nat.min k w.length<=20:=xH (Nat.min_le_right _ _) g;have b:=xZ 10989 d;have i:min k w.length*10989<=20*10989:=b;omega
end
section
open Go
theorem BJ(l:List Nat)(hl:l.length<=1000000)(h:∀d∈l,d<256):az prog 277 [cX l] [] (λd s=>∃v,d= .v v/\RY (bH l.length++l) v s):=by
 have hs:=j8 l;have g:=Ft (n:=(l.length:Int)) (ri hl);have z:(bH (l.length:Int)++l).length<=1000100:=by rw[zI];omega
 refine cP func277 ntmps277 λk=>?_
 repeat refine ao ?_
 refine bc (pM ((bB l).size:Int) (by rw[hs];exact ri hl)) (bS _) (λb=>b) da ?_;rintro _ f ⟨e,rfl,a⟩;rw[hs]at a
 repeat refine ao ?_
 refine Ot.yd (zh (l:=l) rfl rfl h underlying9 underlying147 underlying5) ?_
 repeat refine ao ?_
 refine Ap.go rfl rfl rfl rfl a (bS _) (sH l) (zs:=(bH (l.length:Int)++l).map yC) (by rw[yB]) (pn z (by decide)) (by rw[zL];omega) (λb=>b) da (λj i b r=>?_)
 repeat refine ao ?_
 exact Rt.same ⟨_,rfl,r⟩
theorem uV{l:List Nat}(a:l.length<=1000000)(h:∀d∈l,d<256):APure prog 277 [cX l] (AH (bH l.length++l)):=ba9 (BJ l a h)
end
section
open Go
def Jz(l:List Nat):D:=.agg ((List.range 16).map λi=>yD (l.getD i 0))
theorem Tl{A B:Prop}(k:B)(h:ar B->A:=by intro q7;(first|refine KJ ?_|fail|refine KL ?_);exact q7.1):A:=h ⟨k⟩
theorem bD9{A B:Prop}(k:B)(h:ar B->A:=by intro q7;(first|refine Tl ?_|refine aA ?_|(refine' ah ?hc ?_;(case hc=>exact HW)));exact q7.1):A:=h ⟨k⟩
theorem mN{A B:Prop}(k:B)(h:ar B->A:=by intro q7;(first|(with_reducible refine Bc.l ?_)|fail|refine Nh ?_);exact q7.1):A:=h ⟨k⟩
theorem bD8{A B:Prop}(k:B)(h:ar B->A:=by intro q7;(first|refine Tl ?_|refine mN ?_|(refine' ah ?hc ?_;(case hc=>exact HW)));exact q7.1):A:=h ⟨k⟩
end
section
open Go
def ip(l:List Nat):List D:=l.map yD++List.replicate (16-l.length) (yD 0)
theorem zl{l:List Nat}(h:l.length<=16):(ip l).length=16:=by unfold ip;simp;omega
theorem ub{l:List Nat}(h:l.length<16)(x:Nat):(ip l).set l.length (yD x)=ip (l++[x]):=by
 unfold ip;rw[show 16-l.length=(16-(l++[x]).length)+1 by simp;omega,List.replicate_succ,List.set_append_right _ _ (by simp)];simp
theorem iy{A B:Prop}(k:B)(h:ar B->A:=by intro q7;(first|refine Hg ?_|refine aA ?_|(refine' ah ?hc ?_;(case hc=>exact HS)));exact q7.1):A:=h ⟨k⟩
theorem BF(m:List Nat)(hl:m.length<=1000000)(h:∀d∈m,d<256):APure prog 272 [AH m] (Jz (py m)):=by
 have HS:=N4 m hl h;generalize py m=H at *;refine ap func272 ntmps272 λr=>?_
 repeat' first|refine iy ?_|intro b;conv=>whnf
 rename_i b2;refine Sv.perm (tb:=363) (cs':=((List.range 32).map λi=>yD (H.getD i 0))) (zH _) rfl (by decide) rfl rfl ?_
 repeat' first|refine iy ?_|intro b;conv=>whnf
 rename_i j;refine Sv.perm (tb:=351) (cs':=ip []) (zH _) rfl (by decide) rfl rfl ?_
 repeat' first|refine iy ?_|intro b;conv=>whnf
 refine aR mixed ai (γ:=Nat) (λi=>[(5,iD i)]) (λi=>[(b,.cells 351 (ip (((List.range 16).map λi=>H.getD i 0).take i))),(j,.cells 363 ((List.range 32).map λi=>yD (H.getD i 0))),(b2,.cells 351 (ip []))]) (λi=>i<=16) (λi=>16-i) 0 (aj av) (Sc.refl _) (by decide) ?_;intro i hi;have f:(((List.range 16).map λi=>H.getD i 0).take i).length=i:=by rw[zR];simp;omega
 by_cases hi16:i<16
 .have g:=ub (l:=((List.range 16).map λi=>H.getD i 0).take i) (by omega) (H.getD i 0);have e:=zl (l:=((List.range 16).map λi=>H.getD i 0).take i) (by omega);have hx:((List.range 16).map λi=>H.getD i 0)[i]?=some (H.getD i 0):=by rw[qA,xV hi16];rfl
  have o:((List.range 32).map λi=>yD (H.getD i 0))[i]?=some (yD (H.getD i 0)):=by rw[qA,xV (by omega)];rfl
  rw[f,←aI6 hx]at g
  repeat' first|refine iy ?_|intro b;conv=>whnf
  refine Ot.yd (jr ai (m:=i) (q:=i) rfl rfl rfl rfl rfl ?hq1 ?hq2 (xD _)) ?_;(case hq1=>omega);(case hq2=>omega);repeat'(first|refine iy ?_|intro b;conv=>whnf)
  refine Ld.cellm (tb:=363) (List.Mem.tail _ (List.Mem.head _)) o ?_
  repeat' first|refine iy ?_|intro b;conv=>whnf
  refine Ot.yd (jr ai (m:=i) (q:=i) rfl rfl rfl rfl rfl ?hq1 ?hq2 (xD _)) ?_;(case hq1=>omega);(case hq2=>omega);repeat'(first|refine iy ?_|intro b;conv=>whnf)
  refine Sv.cellm (zH _) (by rw[e];exact hi16) rfl g ?_
  repeat' first|refine iy ?_|intro b;conv=>whnf
  exact⟨i+1,(aj av),Sc.refl _,by omega,by omega⟩
 .obtain rfl:i=16:=by omega
  have k:ip (((List.range 16).map λi=>H.getD i 0).take 16)=(List.range 16).map λi=>yD (H.getD i 0):=by
   rw[yL (by simp)];unfold ip;simp
  rw[k]
  repeat' first|refine iy ?_|intro b;conv=>whnf
  refine Ld.mem (tb:=351) (cs:=(List.range 16).map λi=>yD (H.getD i 0)) (d:=Jz H) (List.Mem.head _) (by rw[zL,vU];decide) rfl ?_;unfold Jz
  repeat' first|refine iy ?_|intro b;conv=>whnf
  refine Sv.perm (tb:=351) (cs:=ip []) (τ:=[(b,.cells 351 ((List.range 16).map λi=>yD (H.getD i 0))),(j,.cells 363 ((List.range 32).map λi=>yD (H.getD i 0)))]) (cs':=(List.range 16).map λi=>yD (H.getD i 0)) cl6 rfl (by decide) rfl rfl ?_
  repeat' first|refine iy ?_|intro b;conv=>whnf
  exact Rt.pure rfl
theorem Sj{A B:Prop}(k:B)(h:ar B->A:=by intro q7;(first|refine Hg ?_|refine aA ?_|(refine' ah ?hc ?_;(case hc=>first|exact HI|exact HS)));exact q7.1):A:=h ⟨k⟩
end
section
def pk:Nat->(Nat->Nat)->Nat
 |0,_=>0
 |n+1,f=>2 ^ 64*pk n (λi=>f (i+1))+f 0
theorem B7(n:Nat)(f g:Nat->Nat):pk n f+pk n g=pk n λi=>f i+g i:=by
 induction n generalizing f g with
 |zero=>rfl
 |succ n h=>simp only[pk,←h];omega
theorem Qb(n c:Nat)(f:Nat->Nat):c*pk n f=pk n λi=>c*f i:=by
 induction n generalizing f with
 |zero=>rfl
 |succ n h=>simp only[pk,←h,Nat.mul_add,Nat.mul_left_comm]
theorem Ob(n c:Nat)(f:Nat->Nat):pk n f <<< c=pk n λi=>f i <<< c:=by
 simp only[Nat.shiftLeft_eq,Nat.mul_comm _ (2 ^ c)];exact Qb n _ f
theorem yt{n:Nat}{f:Nat->Nat}(h:∀i,f i<2 ^ 64)(j:Nat):(pk n f).testBit j=(decide (j<64*n)&&(f (j/64)).testBit (j%64)):=by
 induction n generalizing f j with
 |zero=>simp[pk]
 |succ n a=>
  rw[pk,Nat.testBit_two_pow_mul_add _ (h 0)];by_cases hj:j<64
  .rw[if_pos hj,Nat.div_eq_of_lt hj,wO hj,yJ (by omega),Bool.true_and]
  .rw[if_neg hj,a λi=>h (i+1)];have b:(j-64)/64+1=j/64:=by omega
   have e:(j-64)%64=j%64:=by omega
   rw[b,e]
   congr 1
   exact decide_eq_decide.2 (by omega)
theorem aM3{a b:Nat}(h:b<2 ^ 64):a &&& b<2 ^ 64:=Nat.and_lt_two_pow a h
theorem Oa{n:Nat}{f g:Nat->Nat}(a:∀i,f i<2 ^ 64)(h:∀i,g i<2 ^ 64):pk n f ^^^ pk n g=pk n λi=>f i ^^^ g i:=by
 apply Nat.eq_of_testBit_eq;intro j;rw[Nat.testBit_xor,yt a,yt h,yt λi=>Nat.xor_lt_two_pow (a i) (h i),Nat.testBit_xor]
 cases decide (j<64*n)<;>simp
theorem B6{n:Nat}{f g:Nat->Nat}(a:∀i,f i<2 ^ 64)(h:∀i,g i<2 ^ 64):pk n f &&& pk n g=pk n λi=>f i &&& g i:=by
 apply Nat.eq_of_testBit_eq;intro j;rw[Nat.testBit_and,yt a,yt h,yt λi=>aM3 (h i),Nat.testBit_and]
 cases decide (j<64*n)<;>simp
theorem TA{n:Nat}{f g:Nat->Nat}(a:∀i,f i<2 ^ 64)(h:∀i,g i<2 ^ 64):pk n f |||pk n g=pk n λi=>f i |||g i:=by
 apply Nat.eq_of_testBit_eq;intro j;rw[Nat.testBit_or,yt a,yt h,yt λi=>Nat.or_lt_two_pow (a i) (h i),Nat.testBit_or]
 cases decide (j<64*n)<;>simp
def wW:=@Bool.and_false
theorem B4{n c:Nat}{f g:Nat->Nat}(b:∀i,f i<2 ^ 64)(a:∀i,g i<2 ^ (64-c)):pk n f >>> c &&& pk n g=pk n λi=>f i >>> c &&& g i:=by
 have h:∀i,g i<2 ^ 64:=λi=>yI (a i) (Nat.pow_le_pow_right (by decide) (by omega));apply Nat.eq_of_testBit_eq;intro j;rw[Nat.testBit_and,Nat.testBit_shiftRight,yt b,yt h,yt λi=>aM3 (h i),Nat.testBit_and,Nat.testBit_shiftRight];by_cases h1:j<64*n
 .rw[yJ h1];simp only[Bool.true_and];by_cases h2:c+j%64<64
  .have k:(c+j)/64=j/64:=by omega
   have d:(c+j)%64=c+j%64:=by omega
   rw[k,d,yJ (by omega),Bool.true_and]
  .have e:(g (j/64)).testBit (j%64)=false:=Nat.testBit_lt_two_pow (yI (a _) (Nat.pow_le_pow_right (by decide) (by omega)));rw[e,wW,wW]
 .rw[yE h1];simp
theorem HQ{n:Nat}{f:Nat->Nat}(h:pk n f=0):∀i,i<n->f i=0:=by
 induction n generalizing f with
 |zero=>intro i b;omega
 |succ n a=>
  rw[pk]at h;intro i b
  cases i with
  |zero=>omega
  |succ i=>exact a (f:=λi=>f (i+1)) (by omega) i (by omega)
structure bN(n b:Nat)(P:Nat)(f:Nat->Nat):Prop where
 eq:P=pk n f
 lt:∀i,f i<2 ^ b
theorem bN.up{n b c P:Nat}{f:Nat->Nat}(h:bN n b P f)(a:b<=c):bN n c P f:=⟨h.eq,λi=>yI (h.lt i) (Nat.pow_le_pow_right (by decide) a)⟩
theorem bN.add{n b P Q:Nat}{f g:Nat->Nat}(h:bN n b P f)(k:bN n b Q g):bN n (b+1) (P+Q) (λi=>f i+g i):=
 ⟨by rw[h.eq,k.eq,B7],λi=>by have:=h.lt i;have:=k.lt i;rw[Nat.pow_succ];omega⟩
theorem bN.lt64{n b P:Nat}{f:Nat->Nat}(h:bN n b P f)(a:b<=64)(i:Nat):f i<2 ^ 64:=(h.up a).lt i
theorem bN.xor{n b P Q:Nat}{f g:Nat->Nat}(h:bN n b P f)(k:bN n b Q g)(a:b<=64):bN n b (P ^^^ Q) (λi=>f i ^^^ g i):=
 ⟨by rw[h.eq,k.eq,Oa (h.lt64 a) (k.lt64 a)],λi=>Nat.xor_lt_two_pow (h.lt i) (k.lt i)⟩
theorem bN.and{n b c P Q:Nat}{f g:Nat->Nat}(h:bN n c P f)(k:bN n b Q g)(d:b<=64)(a:c<=64):bN n b (P &&& Q) (λi=>f i &&& g i):=
 ⟨by rw[h.eq,k.eq,B6 (h.lt64 a) (k.lt64 d)],λi=>Nat.and_lt_two_pow _ (k.lt i)⟩
def eG:Nat:=4294967295
def eA(m p n:Nat):Nat:=((p >>> n) |||(p <<< (32-n))) &&& m
theorem bN.shr{n c P Q:Nat}{f g:Nat->Nat}(h:bN n 32 P f)(k:bN n 32 Q g)(a:c<=32):bN n 32 (P >>> c &&& Q) (λi=>f i >>> c &&& g i):=
 ⟨by rw[h.eq,k.eq,B4 (h.lt64 (by decide)) λi=>yI (k.lt i) (Nat.pow_le_pow_right (by decide) (by omega))],λi=>Nat.and_lt_two_pow _ (k.lt i)⟩
theorem bN.rot{n c P Q:Nat}{f g:Nat->Nat}(h:bN n 32 P f)(k:bN n 32 Q g)(a:c<=32):bN n 32 (eA Q P c) (λi=>eA (g i) (f i) c):=by
 have d:=h.shr k a;have s:∀i,f i <<< (32-c)<2 ^ 64:=λi=>by
  have b:=h.lt i;rw[Nat.shiftLeft_eq]
  calc f i*2 ^ (32-c)<2 ^ 32*2 ^ (32-c):=Nat.mul_lt_mul_of_pos_right b (Nat.pow_pos (by decide))
   _<=2 ^ 32*2 ^ 32:=Nat.mul_le_mul_left _ (Nat.pow_le_pow_right (by decide) (by omega))
   _=2 ^ 64:=by decide
 refine⟨?_,λi=>Nat.and_lt_two_pow _ (k.lt i)⟩;unfold eA;rw[Nat.and_or_distrib_right,d.eq,h.eq,k.eq,Ob,B6 s (k.lt64 (by decide)),TA (λi=>aM3 (k.lt64 (by decide) i)) (λi=>aM3 (k.lt64 (by decide) i))]
 congr 1
 funext i
 rw[Nat.and_or_distrib_right]
theorem bN.mul{n b c P:Nat}{f:Nat->Nat}(k:Nat)(h:bN n b P f)(a:k<2 ^ c):bN n (c+b) (k*P) (λi=>k*f i):=
 ⟨by rw[h.eq,Qb],λi=>by rw[Nat.pow_add];exact Nat.mul_lt_mul'' a (h.lt i)⟩
structure P8 where
 a:Nat
 b:Nat
 c:Nat
 d:Nat
 e:Nat
 f:Nat
 g:Nat
 h:Nat
def eC{α:Type}(n:Nat)(k:Nat->α):α:=Nat.rec (k 0) (λm _=>k (m+1)) n
theorem Kq{α:Type}(n:Nat)(k:Nat->α):eC n k=k n:=by cases n<;>rfl
def QQ(m e f g:Nat):Nat:=(e &&& f) ^^^ ((e ^^^ m) &&& g)
def qs(a b c:Nat):Nat:=(a &&& b) ^^^ (a &&& c) ^^^ (b &&& c)
def lu(m p i j k:Nat):Nat:=eA m p i ^^^ eA m p j ^^^ eA m p k
def xL(m o k w:Nat)(s:P8):Nat:=s.h+lu m s.e 6 11 25+QQ m s.e s.f s.g+k*o+w
def aL(m x:Nat)(s:P8):Nat:=(x+lu m s.a 2 13 22+qs s.a s.b s.c) &&& m
def TE(m w p v q:Nat):Nat:=(w+(eA m p 7 ^^^ eA m p 18 ^^^ (p >>> 3 &&& m))+v+(eA m q 17 ^^^ eA m q 19 ^^^ (q >>> 10 &&& m))) &&& m
def DH(m o:Nat):List Nat->P8->List Nat->P8
 |[],s,_=>s
 |k::l,s,w=>
  eC (w.headD 0) λb=>eC (xL m o k b s) λx=>eC (aL m x s) λa=>eC ((s.d+x) &&& m) λe=>
  eC (TE m b (w.getD 1 0) (w.getD 9 0) (w.getD 14 0)) λn=>
  DH m o l ⟨a,s.a,s.b,s.c,e,s.e,s.f,s.g⟩ (w.tail++[n])
def ux(m o k:Nat)(s:P8)(w:List Nat):P8:=⟨aL m (xL m o k (w.headD 0) s) s,s.a,s.b,s.c,(s.d+xL m o k (w.headD 0) s) &&& m,s.e,s.f,s.g⟩
def F6(m:Nat)(w:List Nat):List Nat:=w.tail++[TE m (w.headD 0) (w.getD 1 0) (w.getD 9 0) (w.getD 14 0)]
theorem ba5(m o k:Nat)(l:List Nat)(s:P8)(w:List Nat):DH m o (k::l) s w=DH m o l (ux m o k s w) (F6 m w):=by
 simp only[DH,Kq];rfl
structure Fc(n:Nat)(S:P8)(F:Nat->P8):Prop where
 a:bN n 32 S.a λi=>(F i).a
 b:bN n 32 S.b λi=>(F i).b
 c:bN n 32 S.c λi=>(F i).c
 d:bN n 32 S.d λi=>(F i).d
 e:bN n 32 S.e λi=>(F i).e
 f:bN n 32 S.f λi=>(F i).f
 g:bN n 32 S.g λi=>(F i).g
 h:bN n 32 S.h λi=>(F i).h
def yf(n:Nat)(w:List Nat)(W:Nat->List Nat):Prop:=w.length=16/\(∀i,(W i).length=16)/\∀j,bN n 32 (w.getD j 0) λi=>(W i).getD j 0
theorem bN.const(n b c:Nat)(h:c<2 ^ b){o:Nat}(a:bN n 1 o λ_=>1):bN n b (c*o) λ_=>c:=
 ⟨by rw[a.eq,Qb];simp,λ_=>h⟩
theorem bN.st{n m o k:Nat}{S:P8}{F:Nat->P8}{w:List Nat}{W:Nat->List Nat}(d:bN n 32 m λ_=>eG)(r:bN n 1 o λ_=>1)(s:k<2 ^ 32)(h:Fc n S F)(q:yf n w W) :
  Fc n (ux m o k S w) λi=>ux eG 1 k (F i) (W i):=by
 have x:bN n 32 (w.headD 0) λi=>(W i).headD 0:=by
  have:=q.2.2 0;have e:∀l:List Nat,l.headD 0=l.getD 0 0:=λl=>by cases l<;>rfl
  rw[e];simp only[e];exact this
 have v:bN n 32 (lu m S.e 6 11 25) λi=>lu eG (F i).e 6 11 25:=((h.e.rot d (by decide)).xor (h.e.rot d (by decide)) (by decide)).xor (h.e.rot d (by decide)) (by decide);have u:bN n 32 (QQ m S.e S.f S.g) λi=>QQ eG (F i).e (F i).f (F i).g:=(h.e.and h.f (by decide) (by decide)).xor ((h.e.xor d (by decide)).and h.g (by decide) (by decide)) (by decide);have j:bN n 32 (k*o) λ_=>k*1:=by simp only[Nat.mul_one];exact bN.const n 32 k s r
 have hx:bN n 36 (xL m o k (w.headD 0) S) λi=>xL eG 1 k ((W i).headD 0) (F i):=
  (((h.h.add v).add (u.up (by decide))).add (j.up (by decide))).add (x.up (by decide))
 have p:bN n 32 (lu m S.a 2 13 22) λi=>lu eG (F i).a 2 13 22:=((h.a.rot d (by decide)).xor (h.a.rot d (by decide)) (by decide)).xor (h.a.rot d (by decide)) (by decide);have t:bN n 32 (qs S.a S.b S.c) λi=>qs (F i).a (F i).b (F i).c:=((h.a.and h.b (by decide) (by decide)).xor (h.a.and h.c (by decide) (by decide)) (by decide)).xor (h.b.and h.c (by decide) (by decide)) (by decide);exact⟨((hx.add (p.up (by decide))).add (t.up (by decide))).and d (by decide) (by decide),h.a,h.b,h.c,((h.d.up (by decide)).add hx).and d (by decide) (by decide),h.e,h.f,h.g⟩
theorem bh2(l:List Nat)(x j:Nat)(h:l.length=16):(l.tail++[x]).getD j 0=if j<15 then l.getD (j+1) 0 else if j=15 then x else 0:=by
 obtain⟨a,t,rfl⟩:=List.exists_cons_of_length_eq_add_one h;have c:t.length=15:=by simpa using h
 simp only[List.tail_cons,List.getD_eq_getElem?_getD,List.getElem?_cons_succ];by_cases h1:j<15
 .rw[if_pos h1,yP (by omega)]
 .rw[if_neg h1,yK (by omega),c];by_cases b:j=15
  .subst b;rfl
  .rw[if_neg b,yY.2 (by simp;omega)];rfl
theorem bN.ws{n m:Nat}{w:List Nat}{W:Nat->List Nat}(a:bN n 32 m λ_=>eG)(k:yf n w W):yf n (F6 m w) λi=>F6 eG (W i):=by
 obtain⟨g,f,h⟩:=k;have e:∀l:List Nat,l.headD 0=l.getD 0 0:=λl=>by cases l<;>rfl
 refine⟨by unfold F6;simp[g],λi=>by unfold F6;simp[f i],λj=>?_⟩;unfold F6;rw[bh2 _ _ _ g];simp only[bh2 _ _ _ (f _)];by_cases hj:j<15
 .simp only[if_pos hj];exact h (j+1)
 .simp only[if_neg hj];by_cases hj2:j=15
  .simp only[if_pos hj2,e];have d:=(((h 1).rot a (c:=7) (by decide)).xor ((h 1).rot a (c:=18) (by decide)) (by decide)).xor ((h 1).shr a (c:=3) (by decide)) (by decide);have b:=(((h 14).rot a (c:=17) (by decide)).xor ((h 14).rot a (c:=19) (by decide)) (by decide)).xor ((h 14).shr a (c:=10) (by decide)) (by decide);exact((((h 0).add d).add ((h 9).up (by decide))).add (b.up (by decide))).and a (by decide) (by decide)
  .simp only[if_neg hj2];refine⟨?_,λi=>by decide⟩;have:=Qb n 0 λ_=>0
   simpa using this
theorem bN.go{n m o:Nat}(a:bN n 32 m λ_=>eG)(c:bN n 1 o λ_=>1):∀(l:List Nat),(∀k∈l,k<2 ^ 32)->∀(S:P8)(F:Nat->P8)(w:List Nat)(W:Nat->List Nat),Fc n S F->yf n w W->Fc n (DH m o l S w) λi=>DH eG 1 l (F i) (W i)
 |[],_,_,_,_,_,h,_=>h
 |k::l,d,S,F,w,W,h,b=>by
  simp only[ba5];exact bN.go a c l (λk e=>d k (yQ _ e)) _ _ _ _ (bN.st a c (d k yN) h b) (bN.ws a b)
end
end Go.Proofs.YtilnpcolgcmofaaGreatDoor
