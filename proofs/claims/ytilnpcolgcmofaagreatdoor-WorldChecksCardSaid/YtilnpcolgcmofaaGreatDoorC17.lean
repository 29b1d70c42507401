/- A part of the proof. -/
import Derived.Test.YtilnpcolgcmofaaGreatDoorC16
set_option maxRecDepth 100000
set_option maxHeartbeats 20000000
set_option linter.all false
namespace Go.Proofs.YtilnpcolgcmofaaGreatDoor
open Tryz
section
open Go
def gw(l:List Nat):List D:=l.map yD++List.replicate (32-l.length) (yD 0)
variable{l:List Nat}
def Oj(h:l.length<=32):(gw l).length=32:=by unfold gw;simp;omega
def G6(h:l.length<32)(x:Nat):(gw l).set l.length (yD x)=gw (l++[x]):=by
 unfold gw;rw[show 32-l.length=(32-(l++[x]).length)+1 by simp;omega,List.replicate_succ,List.set_append_right _ _ (by simp)];simp
def G7(h:l.length=32):gw l=l.map yD:=by unfold gw;rw[h];simp
def uQ(l:List Nat):D:=.agg ((List.range 32).map λi=>yD (l.getD i 0))
def su(h:l.length=32):(List.range 32).map (λi=>yD (l.getD i 0))=l.map yD:=YW
def Iv(m:List Nat):(qp m).length=32:=by unfold qp;simp
abbrev Us(s:S8):List D:=[wD s.a,wD s.b,wD s.c,wD s.d,wD s.e,wD s.f,wD s.g,wD s.h]
variable{i:Nat}
def Ur(s:S8)(h:i<8):(Us s)[i]?=some (wD (s.list.getD i 0)):=by
 rcases i with _|_|_|_|_|_|_|_|i
 any_goals rfl
 omega
def OX(m:List Nat)(h:i<32):(qp m)[i]?=some (lj (fJ (m++cJ m.length) ((m.length+(cJ m.length).length)/64)) i):=by
 unfold qp;rw[qA,xV h]
 rfl
def aJ7{α:Type}{l:List α}{j:Nat}{x:α}(h:l[j]?=some x):l.take (j+1)=l.take j++[x]:=by rw[xC,h];rfl
variable{A B:Prop}
def u7x(k:B)(h:ar B->A:=by intro q7;(first|((with_reducible refine' Ot.yd ?hyd ?_);(case hyd=>first|(refine' ai9 ai rfl rfl rfl rfl rfl ?hc ?h0;(case hc=>assumption);(case h0=>omega))|(refine ai8 ai rfl rfl rfl rfl rfl ?_;first|omega|(simp only[zL,zR,zI,List.length_cons,List.length_nil,zY,Nat.reduceAdd];omega))|exact am9 rfl rfl rfl|exact an0 rfl rfl rfl|(refine be4 ai rfl rfl rfl rfl rfl ?_ ?_<;>decide)))|refine u1x ?_);exact q7.1):A:=h ⟨k⟩
def bs2(k:B)(h:ar B->A:=by intro q7;(first|refine u8x ?_|refine u7x ?_);exact q7.1):A:=h ⟨k⟩
def Th(k:B)(h:ar B->A:=by intro q7;(first|refine bs2 ?_|refine aE ?_|(refine' aj ?hc ?_;(case hc=>first|exact HP|exact HW|exact fE _ 6 (by decide) (by decide)|exact fE _ 11 (by decide) (by decide)|exact fE _ 25 (by decide) (by decide)|exact fE _ 2 (by decide) (by decide)|exact fE _ 13 (by decide) (by decide)|exact fE _ 22 (by decide) (by decide))));exact q7.1):A:=h ⟨k⟩
def bs1(k:B)(h:ar B->A:=by intro q7;(first|refine LP ?_|refine Gl ?_|fail|refine u7x ?_);exact q7.1):A:=h ⟨k⟩
def bq1(k:B)(h:ar B->A:=by intro q7;(first|refine bs1 ?_|refine aE ?_|(refine' aj ?hc ?_;(case hc=>first|exact HP|exact HW|exact fE _ 6 (by decide) (by decide)|exact fE _ 11 (by decide) (by decide)|exact fE _ 25 (by decide) (by decide)|exact fE _ 2 (by decide) (by decide)|exact fE _ 13 (by decide) (by decide)|exact fE _ 22 (by decide) (by decide))));exact q7.1):A:=h ⟨k⟩
def SH(k:B)(h:ar B->A:=by intro q7;(first|((with_reducible refine' Sv.at 1 ?h1 ?h2 ?h3 ?h4 ?h5 ?_);(case h1=>exact rfl);(case h2=>exact rfl);(case h3=>exact rfl);(case h4=>exact rfl);(case h5=>exact(by first|(simp only[List.set_cons_succ,List.set_cons_zero,dQ,gX,oC,List.take_succ_cons,List.take_zero,List.drop_succ_cons,List.drop_zero,List.length_cons,List.length_nil,List.nil_append,List.cons_append,Nat.reduceAdd,xD,zZ,List.map_cons,List.map_nil];rfl)|rfl)))|refine u7x ?_);exact q7.1):A:=h ⟨k⟩
def br9(k:B)(h:ar B->A:=by intro q7;(first|refine LP ?_|refine Gl ?_|refine SH ?_);exact q7.1):A:=h ⟨k⟩
def bK(k:B)(h:ar B->A:=by intro q7;(first|refine br9 ?_|refine aE ?_|(refine' aj ?hc ?_;(case hc=>first|exact HP|exact HW|exact fE _ 6 (by decide) (by decide)|exact fE _ 11 (by decide) (by decide)|exact fE _ 25 (by decide) (by decide)|exact fE _ 2 (by decide) (by decide)|exact fE _ 13 (by decide) (by decide)|exact fE _ 22 (by decide) (by decide))));exact q7.1):A:=h ⟨k⟩
def br8(k:B)(h:ar B->A:=by intro q7;(first|refine LP ?_|fail|refine SH ?_);exact q7.1):A:=h ⟨k⟩
def bq0(k:B)(h:ar B->A:=by intro q7;(first|refine br8 ?_|refine aE ?_|(refine' aj ?hc ?_;(case hc=>first|exact HP|exact HW|exact fE _ 6 (by decide) (by decide)|exact fE _ 11 (by decide) (by decide)|exact fE _ 25 (by decide) (by decide)|exact fE _ 2 (by decide) (by decide)|exact fE _ 13 (by decide) (by decide)|exact fE _ 22 (by decide) (by decide))));exact q7.1):A:=h ⟨k⟩
def br6(k:B)(h:ar B->A:=by intro q7;(first|refine LP ?_|fail|fail|refine u7x ?_);exact q7.1):A:=h ⟨k⟩
def Tg(k:B)(h:ar B->A:=by intro q7;(first|refine br6 ?_|refine aE ?_|(refine' aj ?hc ?_;(case hc=>first|exact HP|exact HW|exact fE _ 6 (by decide) (by decide)|exact fE _ 11 (by decide) (by decide)|exact fE _ 25 (by decide) (by decide)|exact fE _ 2 (by decide) (by decide)|exact fE _ 13 (by decide) (by decide)|exact fE _ 22 (by decide) (by decide))));exact q7.1):A:=h ⟨k⟩
def O'(y:List Nat)(hl:y.length<=1000000)(K:∀d∈y,d<256):APure prog 276 [Bh y] (uQ (qp y)):=by
 have HP:=Pa y hl;have T:=I3 y.length;have U:(cJ y.length).length<=100:=by rw[bb1];unfold iq;omega
 obtain⟨m,D⟩:∃m,m=y++cJ y.length:=⟨_,rfl⟩
 have V:m.length=y.length+(cJ y.length).length:=by rw[D,zI]
 have v:∀d∈m,d<256:=λd E=>by
  rw[D]at E;rcases zO.1 E with h|h
  .exact K d h
  .exact I4 _ d h
 obtain⟨N,Y⟩:∃N,N=(y.length+(cJ y.length).length)/64:=⟨_,rfl⟩
 have X:m.length=64*N:=by omega
 have C:=λ{i:Nat}(h:i<32)=>OX y h;have o:=Iv y;rw[←D,←Y]at C;rw[←D]at HP;generalize qp y=L at *;refine ap func276 ntmps276 λZ=>?_
 repeat' first|refine Th ?_|intro b;conv=>whnf
 rename_i b2;refine aO mixed ai (γ:=Nat) (λn=>[(5,iD ((64*n:Nat):Int))]) (λn=>[(b,.cells 373 (Us (fJ m n))),(b2,.cells 363 (gw []))]) (λn=>n<=N) (λn=>N-n) 0 (ah av) (Sc.refl _) (zW _) ?_;intro n O;by_cases hnN:n<N
 .skip
  have HW:=B7 ((m.drop (64*n)).take 64) (by simp;omega) (λd E=>v d (List.mem_of_mem_drop (xG E)));have z:fJ m (n+1)=(fJ m n).add (dv (fJ m n) ((m.drop (64*n)).take 64) 64):=rfl;generalize fJ m n=S at *;obtain⟨k,s⟩:∃k,k=(m.drop (64*n)).take 64:=⟨_,rfl⟩
  rw[←s]at HW z;have x:=KL k 64;obtain⟨l,P⟩:∃l,l=bP k 64:=⟨_,rfl⟩
  rw[←P]at x HW;unfold pG at HW
  repeat' first|refine Th ?_|intro b;conv=>whnf
  refine Ot.yd (G1 ai (l:=64*n) (h:=64*n+64) (ys:=k.map yC) rfl rfl rfl rfl rfl (.inr ⟨_,_,_,rfl,rfl,rfl⟩) (.inr ⟨_,_,_,rfl,rfl,by omega⟩) (by omega) (by simp;omega) (by rw[s,List.drop_take,vR,List.map_drop];congr 1;omega)) ?_
  repeat' first|refine bq1 ?_|intro b;conv=>whnf
  rename_i F;refine Sv.perm (cs':=l.map wD) (zH _) rfl (by decide) rfl (by rw[←pF x];rfl) ?_
  repeat' first|refine bK ?_|intro b;conv=>whnf
  refine aO mixed ai (γ:=Nat) (λt=>[(15,iD t),(7,wD (dv S k t).a),(8,wD (dv S k t).b),(9,wD (dv S k t).c),(10,wD (dv S k t).d),(11,wD (dv S k t).e),(12,wD (dv S k t).f),(13,wD (dv S k t).g),(14,wD (dv S k t).h)]) (λt=>[(b,.cells 375 (l.map wD)),(F,.cells 373 (Us S)),(b2,.cells 363 (gw []))]) (λt=>t<=64) (λt=>64-t) 0 (ah av) (Sc.refl _) (by decide) ?_;intro t ht;by_cases h64:t<64
  .have Q:(l.map wD)[t]?=some (wD (l.getD t 0)):=by rw[qA,List.getD_eq_getElem?_getD,zD (by omega)];rfl
   have O:dv S k (t+1)=Ut (dv S k t) (D4 t) (l.getD t 0):=by rw[dv,P]
   generalize dv S k t=R at *
   repeat' first|refine bK ?_|intro b;conv=>whnf
   refine Ot.yd (dq (r:=wV (eS R.e 6 ^^^ eS R.e 11)) rfl rfl rfl (λw=>Ab _ _)) ?_;repeat'(first|refine bK ?_|intro b;conv=>whnf)
   refine Ot.yd (dq (r:=wV (ge R.e 6 11 25)) rfl rfl rfl (λw=>Ab _ _)) ?_;repeat'(first|refine bK ?_|intro b;conv=>whnf)
   refine Ot.yd (dq (r:=wV (R.h+ge R.e 6 11 25)) rfl rfl rfl (λw=>m8 _ _)) ?_;repeat'(first|refine bK ?_|intro b;conv=>whnf)
   refine Ot.yd (dq (r:=wV (R.e &&& R.f)) rfl rfl rfl (λw=>bf8 _ _)) ?_;repeat'(first|refine bK ?_|intro b;conv=>whnf)
   refine Ot.yd (dq (r:=wV (R.e ^^^ BitVec.allOnes 32)) rfl rfl rfl (λw=>Ab R.e (BitVec.allOnes 32))) ?_;repeat'(first|refine bK ?_|intro b;conv=>whnf)
   rw[BitVec.xor_allOnes];refine Ot.yd (dq (r:=wV (~~~R.e &&& R.g)) rfl rfl rfl (λw=>bf8 _ _)) ?_;repeat'(first|refine bK ?_|intro b;conv=>whnf)
   refine Ot.yd (dq (r:=wV (Gy R.e R.f R.g)) rfl rfl rfl (λw=>Ab _ _)) ?_;repeat'(first|refine bK ?_|intro b;conv=>whnf)
   refine Ot.yd (dq (r:=wV (R.h+ge R.e 6 11 25+Gy R.e R.f R.g)) rfl rfl rfl (λw=>m8 _ _)) ?_;repeat'(first|refine bK ?_|intro b;conv=>whnf)
   refine Ot.yd (iE ai (m:=t) (q:=t) rfl rfl rfl rfl rfl (by omega) (by omega) (xD _)) ?_;repeat'(first|refine bK ?_|intro b;conv=>whnf)
   refine Ld.yd (Sz h64 rfl rfl) ?_
   repeat' first|refine bK ?_|intro b;conv=>whnf
   refine Ot.yd (dq (r:=wV (R.h+ge R.e 6 11 25+Gy R.e R.f R.g+D4 t)) rfl rfl rfl (λw=>m8 _ _)) ?_;repeat'(first|refine bK ?_|intro b;conv=>whnf)
   refine Ot.yd (iE ai (m:=t) (q:=t) rfl rfl rfl rfl rfl (by omega) (by omega) (xD _)) ?_;repeat'(first|refine bK ?_|intro b;conv=>whnf)
   refine Ld.cellm (tb:=375) (List.Mem.head _) Q ?_
   repeat' first|refine bK ?_|intro b;conv=>whnf
   refine Ot.yd (dq (r:=wV (R.h+ge R.e 6 11 25+Gy R.e R.f R.g+D4 t+l.getD t 0)) rfl rfl rfl (λw=>m8 _ _)) ?_;repeat'(first|refine bK ?_|intro b;conv=>whnf)
   refine Ot.yd (dq (r:=wV (eS R.a 2 ^^^ eS R.a 13)) rfl rfl rfl (λw=>Ab _ _)) ?_;repeat'(first|refine bK ?_|intro b;conv=>whnf)
   refine Ot.yd (dq (r:=wV (ge R.a 2 13 22)) rfl rfl rfl (λw=>Ab _ _)) ?_;repeat'(first|refine bK ?_|intro b;conv=>whnf)
   refine Ot.yd (dq (r:=wV (R.a &&& R.b)) rfl rfl rfl (λw=>bf8 _ _)) ?_;repeat'(first|refine bK ?_|intro b;conv=>whnf)
   refine Ot.yd (dq (r:=wV (R.a &&& R.c)) rfl rfl rfl (λw=>bf8 _ _)) ?_;repeat'(first|refine bK ?_|intro b;conv=>whnf)
   refine Ot.yd (dq (r:=wV ((R.a &&& R.b) ^^^ (R.a &&& R.c))) rfl rfl rfl (λw=>Ab _ _)) ?_;repeat'(first|refine bK ?_|intro b;conv=>whnf)
   refine Ot.yd (dq (r:=wV (R.b &&& R.c)) rfl rfl rfl (λw=>bf8 _ _)) ?_;repeat'(first|refine bK ?_|intro b;conv=>whnf)
   refine Ot.yd (dq (r:=wV (xl R.a R.b R.c)) rfl rfl rfl (λw=>Ab _ _)) ?_;repeat'(first|refine bK ?_|intro b;conv=>whnf)
   refine Ot.yd (dq (r:=wV (ge R.a 2 13 22+xl R.a R.b R.c)) rfl rfl rfl (λw=>m8 _ _)) ?_;repeat'(first|refine bK ?_|intro b;conv=>whnf)
   refine Ot.yd (dq (r:=wV (R.d+(R.h+ge R.e 6 11 25+Gy R.e R.f R.g+D4 t+l.getD t 0))) rfl rfl rfl (λw=>m8 _ _)) ?_;repeat'(first|refine bK ?_|intro b;conv=>whnf)
   refine Ot.yd (dq (r:=wV (R.h+ge R.e 6 11 25+Gy R.e R.f R.g+D4 t+l.getD t 0+(ge R.a 2 13 22+xl R.a R.b R.c))) rfl rfl rfl (λw=>m8 _ _)) ?_;repeat'(first|refine bK ?_|intro b;conv=>whnf)
   exact⟨t+1,(by simp only[O];exact(ah av)),Sc.refl _,by omega,by omega⟩
  .obtain rfl:t=64:=by omega
   generalize dv S k 64=R at *
   repeat' first|refine bK ?_|intro b;conv=>whnf
   refine Ot.yd (dq (r:=wV (S.a+R.a)) rfl rfl rfl (λw=>m8 _ _)) ?_;repeat'(first|refine bK ?_|intro b;conv=>whnf)
   refine Ot.yd (dq (r:=wV (S.b+R.b)) rfl rfl rfl (λw=>m8 _ _)) ?_;repeat'(first|refine bK ?_|intro b;conv=>whnf)
   refine Ot.yd (dq (r:=wV (S.c+R.c)) rfl rfl rfl (λw=>m8 _ _)) ?_;repeat'(first|refine bK ?_|intro b;conv=>whnf)
   refine Ot.yd (dq (r:=wV (S.d+R.d)) rfl rfl rfl (λw=>m8 _ _)) ?_;repeat'(first|refine bK ?_|intro b;conv=>whnf)
   refine Ot.yd (dq (r:=wV (S.e+R.e)) rfl rfl rfl (λw=>m8 _ _)) ?_;repeat'(first|refine bK ?_|intro b;conv=>whnf)
   refine Ot.yd (dq (r:=wV (S.f+R.f)) rfl rfl rfl (λw=>m8 _ _)) ?_;repeat'(first|refine bK ?_|intro b;conv=>whnf)
   refine Ot.yd (dq (r:=wV (S.g+R.g)) rfl rfl rfl (λw=>m8 _ _)) ?_;repeat'(first|refine bK ?_|intro b;conv=>whnf)
   refine Ot.yd (dq (r:=wV (S.h+R.h)) rfl rfl rfl (λw=>m8 _ _)) ?_;repeat'(first|refine bK ?_|intro b;conv=>whnf)
   exact⟨n+1,(ah av),by rw[z];exact Sc.sl (yG _ _),by omega,by omega⟩
 .obtain rfl:n=N:=by omega
  generalize fJ m n=S at *
  repeat' first|refine bK ?_|intro b;conv=>whnf
  rename_i F;refine aO mixed ai (γ:=Nat) (λi=>[(19,iD i)]) (λi=>[(b,.cells 363 (gw (L.take i))),(F,.cells 373 (Us S)),(b2,.cells 363 (gw []))]) (λi=>i<=32) (λi=>32-i) 0 (ah av) (Sc.refl _) (by decide) ?_;intro i hi;have J:(L.take i).length=i:=by rw[zR];omega
  by_cases hi32:i<32
  .have j:((i:Int)).tdiv 4=((i/4:Nat):Int):=S0 i 4;have I:((i:Int)).tmod 4=((i%4:Nat):Int):=AZ i 4;have M:=G6 (l:=L.take i) (by omega) (lj S i);have G:=Oj (l:=L.take i) (by omega);rw[J,←aJ7 (C hi32)]at M
   repeat' first|refine bK ?_|intro b;conv=>whnf
   refine Sd.go ⟨by decide,by rw[j];exact⟨by omega,by omega⟩⟩ ?_;rw[j]
   repeat' first|refine bK ?_|intro b;conv=>whnf
   refine Ot.yd (iE ai (m:=i/4) (q:=i/4) rfl rfl rfl rfl rfl ?hq1 ?hq2 (xD _)) ?_;(case hq1=>first|exact j|omega);(case hq2=>omega);repeat'(first|refine bK ?_|intro b;conv=>whnf)
   refine Ld.cellm (tb:=373) (List.Mem.tail _ (List.Mem.head _)) (Ur S (i:=i/4) (by omega)) ?_
   repeat' first|refine bK ?_|intro b;conv=>whnf
   rw[show(24:Int)-8*(i:Int).tmod 4=((24-8*(i%4):Nat):Int) by rw[I];omega];refine Ot.yd (dq (r:=.int .u32 (((S.list.getD (i/4) 0).toNat/2 ^ (24-8*(i%4)):Nat):Int)) rfl rfl rfl (λw=>lJ .u32 _ .i64 (24-8*(i%4)) (by show _<=32;omega))) ?_
   repeat' first|refine bK ?_|intro b;conv=>whnf
   refine Ot.yd (y4 (m:=((lj S i:Nat):Int)) rfl rfl underlying372 underlying5 (by unfold lj;simp only[IntKind.wrap_u8];omega)) ?_
   repeat' first|refine bK ?_|intro b;conv=>whnf
   refine Ot.yd (iE ai (m:=i) (q:=i) rfl rfl rfl rfl rfl ?hq1 ?hq2 (xD _)) ?_;(case hq1=>first|exact j|omega);(case hq2=>omega);repeat'(first|refine bK ?_|intro b;conv=>whnf)
   refine Sv.cellm (zH _) (by rw[G];exact hi32) rfl M ?_
   repeat' first|refine bK ?_|intro b;conv=>whnf
   exact⟨i+1,(ah av),Sc.refl _,by omega,by omega⟩
  .obtain rfl:i=32:=by omega
   rw[yL (by omega)];have u:=G7 o
   repeat' first|refine bq0 ?_|intro b;conv=>whnf
   refine Ld.mem (tb:=363) (cs:=gw L) (d:=uQ L) (List.Mem.head _) (by rw[u,zL,o];decide) (by rw[u];unfold uQ;rw[su o];simp only[oC,List.drop_zero];rw[yL (by simp[o])];rfl) ?_;unfold uQ
   repeat' first|refine Tg ?_|intro b;conv=>whnf
   refine Sv.perm (tb:=363) (cs:=gw []) (τ:=[(b,.cells 363 (gw L)),(F,.cells 373 (Us S))]) (cs':=(List.range 32).map λi=>yD (L.getD i 0)) Kj rfl (by decide) rfl rfl ?_
   repeat' first|refine Tg ?_|intro b;conv=>whnf
   exact Rt.pure rfl
end
section
open Go Go.RowKit Go.Shelf
section
variable {P:Program} {σ:ae} {ρ:Operand->D} {T:TypeId->Option TI}
def Pk.part{b o n c:Nat}{tb:TypeId}{cs:List D}{xs:List (List D)}(y:(b,ax.cells tb cs)∈σ)(p:xs.length=n)(l:n<=c)(hx:∀(q:Nat)x,xs[q]?=some x->∃d,x=[d]/\cs[o+q]?=some d):Pk σ (.v (.slice (some ⟨b,o,none⟩) n c)) (.sl 1 xs):=⟨λw X u j r=>by
 have:=r.val rfl;subst this;subst p;obtain⟨_,z,e,vs,rfl,s⟩:=j.at_ b _ y;refine .sl 1 xs (some ⟨b,o,none⟩) c (λq _=>vs.getD (o+q) undef) l (λx h=>?_) (λq x a=>⟨b,o,rfl,λh=>h,(zX.1 e).1,λm A=>?_⟩) (λq x a m d i=>?_)
 .obtain⟨q,a⟩:=yO h;obtain⟨d,rfl,_⟩:=hx q x a
  rfl
 .obtain⟨d,rfl,f⟩:=hx q x a;obtain⟨u,k,g⟩:=s.get f;obtain rfl:m=0:=by omega
  have t:=(zE.1 k).1;simp[World.cell?,e,List.getD_eq_getElem?_getD,k]
 .obtain⟨B,rfl,f⟩:=hx q x a
  cases m with
  |zero=>
   cases i
   obtain⟨u,k,g⟩:=s.get f
   simpa [List.getD_eq_getElem?_getD,k]using g.stable
  |succ m=>cases i⟩
end
section
variable {P:Program} {t:TypeId} {p q:Operand} {w:World}
end
structure gY where
 S:S8
 b:List Nat
 n:Nat
def gY.cut(s:gY)(t:List Nat):Nat:=Nat.min t.length (64-s.n%64)
def gY.step(s:gY)(t:List Nat):gY:=
 ⟨if s.n%64+s.cut t=64 then GK s.S (xb s.b (s.n%64) (t.take (s.cut t)))else s.S,xb s.b (s.n%64) (t.take (s.cut t)),s.n+s.cut t⟩
def gY.add:Nat->gY->List Nat->gY
 |0,s,_=>s
 |f+1,s,t=>if t=[]then s else gY.add f (s.step t) (t.drop (s.cut t))
end
section
open Go
end
section
open Go Go.RowKit Go.Shelf
section
variable {P:Program} {σ τ:ae} {ρ:Operand->D}
end
def gY.fin(s:gY):gY:=gY.add (cJ s.n).length s (cJ s.n)
end
section
open Go
def Ci(l:List Nat)(hl:l.length<=1000000)(h:∀d∈l,d<256):az prog 277 [dr l] [] (λd s=>∃v,d= .v v/\RY (bN l.length++l) v s):=by
 have hs:=lq l;have g:=GD (n:=(l.length:Int)) (se hl);have z:(bN (l.length:Int)++l).length<=1000100:=by rw[zI];omega
 refine dB func277 ntmps277 λk=>?_
 repeat refine aV ?_
 refine bu (qD ((bF l).size:Int) (by rw[hs];exact se hl)) (bR _) (λb=>b) dF ?_;rintro _ f ⟨e,rfl,a⟩;rw[hs]at a
 repeat refine aV ?_
 refine Ot.yd (Az (l:=l) rfl rfl h underlying9 underlying147 underlying5) ?_
 repeat refine aV ?_
 refine Ap.go rfl rfl rfl rfl a (bR _) (tN l) (zs:=(bN (l.length:Int)++l).map yC) (by rw[yB]) (qk z (by decide)) (by rw[zL];omega) (λb=>b) dF (λj i b r=>?_)
 repeat refine aV ?_
 exact Rt.same ⟨_,rfl,r⟩
def wx{l:List Nat}(a:l.length<=1000000)(h:∀d∈l,d<256):APure prog 277 [dr l] (Bh (bN l.length++l)):=bc8 (Ci l a h)
end
section
open Go
def Kr(l:List Nat):D:=.agg ((List.range 16).map λi=>yD (l.getD i 0))
variable{A B:Prop}
def Ul(k:B)(h:ar B->A:=by intro q7;(first|refine LP ?_|fail|refine AP ?_);exact q7.1):A:=h ⟨k⟩
def bF1(k:B)(h:ar B->A:=by intro q7;(first|refine Ul ?_|refine aE ?_|(refine' aj ?hc ?_;(case hc=>exact HW)));exact q7.1):A:=h ⟨k⟩
def jh(k:B)(h:ar B->A:=by intro q7;(first|(with_reducible refine Bc.l ?_)|fail|((with_reducible refine Dr.l ?h ?_);(case h=>decide +kernel))|(with_reducible refine Dr.r ?_)|refine RF ?_);exact q7.1):A:=h ⟨k⟩
def bF0(k:B)(h:ar B->A:=by intro q7;(first|refine Ul ?_|refine jh ?_|(refine' aj ?hc ?_;(case hc=>exact HW)));exact q7.1):A:=h ⟨k⟩
end
section
open Go
def iX(l:List Nat):List D:=l.map yD++List.replicate (16-l.length) (yD 0)
variable{l:List Nat}
def AE(h:l.length<=16):(iX l).length=16:=by unfold iX;simp;omega
def vf(h:l.length<16)(x:Nat):(iX l).set l.length (yD x)=iX (l++[x]):=by
 unfold iX;rw[show 16-l.length=(16-(l++[x]).length)+1 by simp;omega,List.replicate_succ,List.set_append_right _ _ (by simp)];simp
def jb{A B:Prop}(k:B)(h:ar B->A:=by intro q7;(first|refine IB ?_|refine aE ?_|(refine' aj ?hc ?_;(case hc=>exact HS)));exact q7.1):A:=h ⟨k⟩
def B8(m:List Nat)(hl:m.length<=1000000)(h:∀d∈m,d<256):APure prog 272 [Bh m] (Kr (qp m)):=by
 have HS:=O' m hl h;generalize qp m=H at *;refine ap func272 ntmps272 λr=>?_
 repeat' first|refine jb ?_|intro b;conv=>whnf
 rename_i b2;refine Sv.perm (tb:=363) (cs':=((List.range 32).map λi=>yD (H.getD i 0))) (zH _) rfl (by decide) rfl rfl ?_
 repeat' first|refine jb ?_|intro b;conv=>whnf
 rename_i j;refine Sv.perm (tb:=351) (cs':=iX []) (zH _) rfl (by decide) rfl rfl ?_
 repeat' first|refine jb ?_|intro b;conv=>whnf
 refine aO mixed ai (γ:=Nat) (λi=>[(5,iD i)]) (λi=>[(b,.cells 351 (iX (((List.range 16).map λi=>H.getD i 0).take i))),(j,.cells 363 ((List.range 32).map λi=>yD (H.getD i 0))),(b2,.cells 351 (iX []))]) (λi=>i<=16) (λi=>16-i) 0 (ah av) (Sc.refl _) (by decide) ?_;intro i hi;have f:(((List.range 16).map λi=>H.getD i 0).take i).length=i:=by rw[zR];simp;omega
 by_cases hi16:i<16
 .have g:=vf (l:=((List.range 16).map λi=>H.getD i 0).take i) (by omega) (H.getD i 0);have e:=AE (l:=((List.range 16).map λi=>H.getD i 0).take i) (by omega);have hx:((List.range 16).map λi=>H.getD i 0)[i]?=some (H.getD i 0):=by rw[qA,xV hi16];rfl
  have o:((List.range 32).map λi=>yD (H.getD i 0))[i]?=some (yD (H.getD i 0)):=by rw[qA,xV (by omega)];rfl
  rw[f,←aJ7 hx]at g
  repeat' first|refine jb ?_|intro b;conv=>whnf
  refine Ot.yd (iE ai (m:=i) (q:=i) rfl rfl rfl rfl rfl ?hq1 ?hq2 (xD _)) ?_;(case hq1=>omega);(case hq2=>omega);repeat'(first|refine jb ?_|intro b;conv=>whnf)
  refine Ld.cellm (tb:=363) (List.Mem.tail _ (List.Mem.head _)) o ?_
  repeat' first|refine jb ?_|intro b;conv=>whnf
  refine Ot.yd (iE ai (m:=i) (q:=i) rfl rfl rfl rfl rfl ?hq1 ?hq2 (xD _)) ?_;(case hq1=>omega);(case hq2=>omega);repeat'(first|refine jb ?_|intro b;conv=>whnf)
  refine Sv.cellm (zH _) (by rw[e];exact hi16) rfl g ?_
  repeat' first|refine jb ?_|intro b;conv=>whnf
  exact⟨i+1,(ah av),Sc.refl _,by omega,by omega⟩
 .obtain rfl:i=16:=by omega
  have k:iX (((List.range 16).map λi=>H.getD i 0).take 16)=(List.range 16).map λi=>yD (H.getD i 0):=by
   rw[yL (by simp)];unfold iX;simp
  rw[k]
  repeat' first|refine jb ?_|intro b;conv=>whnf
  refine Ld.mem (tb:=351) (cs:=(List.range 16).map λi=>yD (H.getD i 0)) (d:=Kr H) (List.Mem.head _) (by rw[zL,vU];decide) rfl ?_;unfold Kr
  repeat' first|refine jb ?_|intro b;conv=>whnf
  refine Sv.perm (tb:=351) (cs:=iX []) (τ:=[(b,.cells 351 ((List.range 16).map λi=>yD (H.getD i 0))),(j,.cells 363 ((List.range 32).map λi=>yD (H.getD i 0)))]) (cs':=(List.range 16).map λi=>yD (H.getD i 0)) Kj rfl (by decide) rfl rfl ?_
  repeat' first|refine jb ?_|intro b;conv=>whnf
  exact Rt.pure rfl
def S'{A B:Prop}(k:B)(h:ar B->A:=by intro q7;(first|refine IB ?_|refine aE ?_|(refine' aj ?hc ?_;(case hc=>first|exact HI|exact HS)));exact q7.1):A:=h ⟨k⟩
end
section
def pk:Nat->(Nat->Nat)->Nat
 |0,_=>0
 |n+1,f=>2 ^ 64*pk n (λi=>f (i+1))+f 0
def CQ(n:Nat)(f g:Nat->Nat):pk n f+pk n g=pk n λi=>f i+g i:=by
 induction n generalizing f g with
 |zero=>rfl
 |succ n h=>simp only[pk,←h];omega
def Q6(n c:Nat)(f:Nat->Nat):c*pk n f=pk n λi=>c*f i:=by
 induction n generalizing f with
 |zero=>rfl
 |succ n h=>simp only[pk,←h,Nat.mul_add,Nat.mul_left_comm]
def Pf(n c:Nat)(f:Nat->Nat):pk n f <<< c=pk n λi=>f i <<< c:=by
 simp only[Nat.shiftLeft_eq,Nat.mul_comm _ (2 ^ c)];exact Q6 n _ f
variable{f:Nat->Nat}
def Aa{n:Nat}(h:∀i,f i<2 ^ 64)(j:Nat):(pk n f).testBit j=(decide (j<64*n)&&(f (j/64)).testBit (j%64)):=by
 induction n generalizing f j with
 |zero=>simp[pk]
 |succ n a=>
  rw[pk,Nat.testBit_two_pow_mul_add _ (h 0)];by_cases hj:j<64
  .rw[if_pos hj,Nat.div_eq_of_lt hj,wO hj,yJ (by omega),Bool.true_and]
  .rw[if_neg hj,a λi=>h (i+1)];have b:(j-64)/64+1=j/64:=by omega
   have e:(j-64)%64=j%64:=by omega
   rw[b,e]
   congr 1
   exact decide_eq_decide.2 (by omega)
variable{b:Nat}
def aO2{a:Nat}(h:b<2 ^ 64):a &&& b<2 ^ 64:=Nat.and_lt_two_pow a h
variable{g:Nat->Nat}
def Pe{n:Nat}(a:∀i,f i<2 ^ 64)(h:∀i,g i<2 ^ 64):pk n f ^^^ pk n g=pk n λi=>f i ^^^ g i:=by
 apply Nat.eq_of_testBit_eq;intro j;rw[Nat.testBit_xor,Aa a,Aa h,Aa λi=>Nat.xor_lt_two_pow (a i) (h i),Nat.testBit_xor]
 cases decide (j<64*n)<;>simp
def CP{n:Nat}(a:∀i,f i<2 ^ 64)(h:∀i,g i<2 ^ 64):pk n f &&& pk n g=pk n λi=>f i &&& g i:=by
 apply Nat.eq_of_testBit_eq;intro j;rw[Nat.testBit_and,Aa a,Aa h,Aa λi=>aO2 (h i),Nat.testBit_and]
 cases decide (j<64*n)<;>simp
def Uw{n:Nat}(a:∀i,f i<2 ^ 64)(h:∀i,g i<2 ^ 64):pk n f |||pk n g=pk n λi=>f i |||g i:=by
 apply Nat.eq_of_testBit_eq;intro j;rw[Nat.testBit_or,Aa a,Aa h,Aa λi=>Nat.or_lt_two_pow (a i) (h i),Nat.testBit_or]
 cases decide (j<64*n)<;>simp
variable{c:Nat}
def CN{n:Nat}(b:∀i,f i<2 ^ 64)(a:∀i,g i<2 ^ (64-c)):pk n f >>> c &&& pk n g=pk n λi=>f i >>> c &&& g i:=by
 have h:∀i,g i<2 ^ 64:=λi=>yI (a i) (Nat.pow_le_pow_right (by decide) (by omega));apply Nat.eq_of_testBit_eq;intro j;rw[Nat.testBit_and,Nat.testBit_shiftRight,Aa b,Aa h,Aa λi=>aO2 (h i),Nat.testBit_and,Nat.testBit_shiftRight];by_cases h1:j<64*n
 .rw[yJ h1];simp only[Bool.true_and];by_cases h2:c+j%64<64
  .have k:(c+j)/64=j/64:=by omega
   have d:(c+j)%64=c+j%64:=by omega
   rw[k,d,yJ (by omega),Bool.true_and]
  .have e:(g (j/64)).testBit (j%64)=false:=Nat.testBit_lt_two_pow (yI (a _) (Nat.pow_le_pow_right (by decide) (by omega)));rw[e,wW,wW]
 .rw[yE h1];simp
def I2{n:Nat}(h:pk n f=0):∀i,i<n->f i=0:=by
 induction n generalizing f with
 |zero=>intro i b;omega
 |succ n a=>
  rw[pk]at h;intro i b
  cases i with
  |zero=>omega
  |succ i=>exact a (f:=λi=>f (i+1)) (by omega) i (by omega)
structure bU(n b:Nat)(P:Nat)(f:Nat->Nat):Prop where
 eq:P=pk n f
 lt:∀i,f i<2 ^ b
def bU.up{n P:Nat}(h:bU n b P f)(a:b<=c):bU n c P f:=⟨h.eq,λi=>yI (h.lt i) (Nat.pow_le_pow_right (by decide) a)⟩
variable{Q:Nat}
def bU.add{n P:Nat}(h:bU n b P f)(k:bU n b Q g):bU n (b+1) (P+Q) (λi=>f i+g i):=
 ⟨by rw[h.eq,k.eq,CQ],λi=>by have:=h.lt i;have:=k.lt i;rw[Nat.pow_succ];omega⟩
def bU.lt64{n P:Nat}(h:bU n b P f)(a:b<=64)(i:Nat):f i<2 ^ 64:=(h.up a).lt i
def bU.xor{n P:Nat}(h:bU n b P f)(k:bU n b Q g)(a:b<=64):bU n b (P ^^^ Q) (λi=>f i ^^^ g i):=
 ⟨by rw[h.eq,k.eq,Pe (h.lt64 a) (k.lt64 a)],λi=>Nat.xor_lt_two_pow (h.lt i) (k.lt i)⟩
def bU.and{n P:Nat}(h:bU n c P f)(k:bU n b Q g)(d:b<=64)(a:c<=64):bU n b (P &&& Q) (λi=>f i &&& g i):=
 ⟨by rw[h.eq,k.eq,CP (h.lt64 a) (k.lt64 d)],λi=>Nat.and_lt_two_pow _ (k.lt i)⟩
def e':Nat:=4294967295
def eT(m p n:Nat):Nat:=((p >>> n) |||(p <<< (32-n))) &&& m
def bU.shr{n P:Nat}(h:bU n 32 P f)(k:bU n 32 Q g)(a:c<=32):bU n 32 (P >>> c &&& Q) (λi=>f i >>> c &&& g i):=
 ⟨by rw[h.eq,k.eq,CN (h.lt64 (by decide)) λi=>yI (k.lt i) (Nat.pow_le_pow_right (by decide) (by omega))],λi=>Nat.and_lt_two_pow _ (k.lt i)⟩
def bU.rot{n P:Nat}(h:bU n 32 P f)(k:bU n 32 Q g)(a:c<=32):bU n 32 (eT Q P c) (λi=>eT (g i) (f i) c):=by
 have d:=h.shr k a;have s:∀i,f i <<< (32-c)<2 ^ 64:=λi=>by
  have b:=h.lt i;rw[Nat.shiftLeft_eq]
  calc f i*2 ^ (32-c)<2 ^ 32*2 ^ (32-c):=Nat.mul_lt_mul_of_pos_right b (Nat.pow_pos (by decide))
   _<=2 ^ 32*2 ^ 32:=Nat.mul_le_mul_left _ (Nat.pow_le_pow_right (by decide) (by omega))
   _=2 ^ 64:=by decide
 refine⟨?_,λi=>Nat.and_lt_two_pow _ (k.lt i)⟩;unfold eT;rw[Nat.and_or_distrib_right,d.eq,h.eq,k.eq,Pf,CP s (k.lt64 (by decide)),Uw (λi=>aO2 (k.lt64 (by decide) i)) (λi=>aO2 (k.lt64 (by decide) i))]
 congr 1
 funext i
 rw[Nat.and_or_distrib_right]
def bU.mul{n P:Nat}(k:Nat)(h:bU n b P f)(a:k<2 ^ c):bU n (c+b) (k*P) (λi=>k*f i):=
 ⟨by rw[h.eq,Q6],λi=>by rw[Nat.pow_add];exact Nat.mul_lt_mul'' a (h.lt i)⟩
structure P8 where
 a:Nat
 b:Nat
 c:Nat
 d:Nat
 e:Nat
 f:Nat
 g:Nat
 h:Nat
variable{α:Type}
def eV(n:Nat)(k:Nat->α):α:=Nat.rec (k 0) (λm _=>k (m+1)) n
def Lx(n:Nat)(k:Nat->α):eV n k=k n:=by cases n<;>rfl
def RS(m e f g:Nat):Nat:=(e &&& f) ^^^ ((e ^^^ m) &&& g)
def ry(a b c:Nat):Nat:=(a &&& b) ^^^ (a &&& c) ^^^ (b &&& c)
def mn(m p i j k:Nat):Nat:=eT m p i ^^^ eT m p j ^^^ eT m p k
def xL(m o k w:Nat)(s:P8):Nat:=s.h+mn m s.e 6 11 25+RS m s.e s.f s.g+k*o+w
def aL(m x:Nat)(s:P8):Nat:=(x+mn m s.a 2 13 22+ry s.a s.b s.c) &&& m
def UA(m w p v q:Nat):Nat:=(w+(eT m p 7 ^^^ eT m p 18 ^^^ (p >>> 3 &&& m))+v+(eT m q 17 ^^^ eT m q 19 ^^^ (q >>> 10 &&& m))) &&& m
def Ej(m o:Nat):List Nat->P8->List Nat->P8
 |[],s,_=>s
 |k::l,s,w=>
  eV (w.headD 0) λb=>eV (xL m o k b s) λx=>eV (aL m x s) λa=>eV ((s.d+x) &&& m) λe=>
  eV (UA m b (w.getD 1 0) (w.getD 9 0) (w.getD 14 0)) λn=>
  Ej m o l ⟨a,s.a,s.b,s.c,e,s.e,s.f,s.g⟩ (w.tail++[n])
def wa(m o k:Nat)(s:P8)(w:List Nat):P8:=⟨aL m (xL m o k (w.headD 0) s) s,s.a,s.b,s.c,(s.d+xL m o k (w.headD 0) s) &&& m,s.e,s.f,s.g⟩
def G'(m:Nat)(w:List Nat):List Nat:=w.tail++[UA m (w.headD 0) (w.getD 1 0) (w.getD 9 0) (w.getD 14 0)]
def bc4(m o k:Nat)(l:List Nat)(s:P8)(w:List Nat):Ej m o (k::l) s w=Ej m o l (wa m o k s w) (G' m w):=by
 simp only[Ej,Lx];rfl
structure Gi(n:Nat)(S:P8)(F:Nat->P8):Prop where
 a:bU n 32 S.a λi=>(F i).a
 b:bU n 32 S.b λi=>(F i).b
 c:bU n 32 S.c λi=>(F i).c
 d:bU n 32 S.d λi=>(F i).d
 e:bU n 32 S.e λi=>(F i).e
 f:bU n 32 S.f λi=>(F i).f
 g:bU n 32 S.g λi=>(F i).g
 h:bU n 32 S.h λi=>(F i).h
def zq(n:Nat)(w:List Nat)(W:Nat->List Nat):Prop:=w.length=16/\(∀i,(W i).length=16)/\∀j,bU n 32 (w.getD j 0) λi=>(W i).getD j 0
def bU.const(n b c:Nat)(h:c<2 ^ b){o:Nat}(a:bU n 1 o λ_=>1):bU n b (c*o) λ_=>c:=
 ⟨by rw[a.eq,Q6];simp,λ_=>h⟩
def bU.st{n m o k:Nat}{S:P8}{F:Nat->P8}{w:List Nat}{W:Nat->List Nat}(d:bU n 32 m λ_=>e')(r:bU n 1 o λ_=>1)(s:k<2 ^ 32)(h:Gi n S F)(q:zq n w W) :
  Gi n (wa m o k S w) λi=>wa e' 1 k (F i) (W i):=by
 have x:bU n 32 (w.headD 0) λi=>(W i).headD 0:=by
  have:=q.2.2 0;have e:∀l:List Nat,l.headD 0=l.getD 0 0:=λl=>by cases l<;>rfl
  rw[e];simp only[e];exact this
 have v:bU n 32 (mn m S.e 6 11 25) λi=>mn e' (F i).e 6 11 25:=((h.e.rot d (by decide)).xor (h.e.rot d (by decide)) (by decide)).xor (h.e.rot d (by decide)) (by decide);have u:bU n 32 (RS m S.e S.f S.g) λi=>RS e' (F i).e (F i).f (F i).g:=(h.e.and h.f (by decide) (by decide)).xor ((h.e.xor d (by decide)).and h.g (by decide) (by decide)) (by decide);have j:bU n 32 (k*o) λ_=>k*1:=by simp only[Nat.mul_one];exact bU.const n 32 k s r
 have hx:bU n 36 (xL m o k (w.headD 0) S) λi=>xL e' 1 k ((W i).headD 0) (F i):=
  (((h.h.add v).add (u.up (by decide))).add (j.up (by decide))).add (x.up (by decide))
 have p:bU n 32 (mn m S.a 2 13 22) λi=>mn e' (F i).a 2 13 22:=((h.a.rot d (by decide)).xor (h.a.rot d (by decide)) (by decide)).xor (h.a.rot d (by decide)) (by decide);have t:bU n 32 (ry S.a S.b S.c) λi=>ry (F i).a (F i).b (F i).c:=((h.a.and h.b (by decide) (by decide)).xor (h.a.and h.c (by decide) (by decide)) (by decide)).xor (h.b.and h.c (by decide) (by decide)) (by decide);exact⟨((hx.add (p.up (by decide))).add (t.up (by decide))).and d (by decide) (by decide),h.a,h.b,h.c,((h.d.up (by decide)).add hx).and d (by decide) (by decide),h.e,h.f,h.g⟩
def kQ(l:List Nat)(x j:Nat)(h:l.length=16):(l.tail++[x]).getD j 0=if j<15 then l.getD (j+1) 0 else if j=15 then x else 0:=by
 obtain⟨a,t,rfl⟩:=List.exists_cons_of_length_eq_add_one h;have c:t.length=15:=by simpa using h
 simp only[List.tail_cons,List.getD_eq_getElem?_getD,List.getElem?_cons_succ];by_cases h1:j<15
 .rw[if_pos h1,yP (by omega)]
 .rw[if_neg h1,yK (by omega),c];by_cases b:j=15
  .subst b;rfl
  .rw[if_neg b,yY.2 (by simp;omega)];rfl
def bU.ws{n m:Nat}{w:List Nat}{W:Nat->List Nat}(a:bU n 32 m λ_=>e')(k:zq n w W):zq n (G' m w) λi=>G' e' (W i):=by
 obtain⟨g,f,h⟩:=k;have e:∀l:List Nat,l.headD 0=l.getD 0 0:=λl=>by cases l<;>rfl
 refine⟨by unfold G';simp[g],λi=>by unfold G';simp[f i],λj=>?_⟩;unfold G';rw[kQ _ _ _ g];simp only[kQ _ _ _ (f _)];by_cases hj:j<15
 .simp only[if_pos hj];exact h (j+1)
 .simp only[if_neg hj];by_cases hj2:j=15
  .simp only[if_pos hj2,e];have d:=(((h 1).rot a (c:=7) (by decide)).xor ((h 1).rot a (c:=18) (by decide)) (by decide)).xor ((h 1).shr a (c:=3) (by decide)) (by decide);have b:=(((h 14).rot a (c:=17) (by decide)).xor ((h 14).rot a (c:=19) (by decide)) (by decide)).xor ((h 14).shr a (c:=10) (by decide)) (by decide);exact((((h 0).add d).add ((h 9).up (by decide))).add (b.up (by decide))).and a (by decide) (by decide)
  .simp only[if_neg hj2];refine⟨?_,λi=>by decide⟩;have:=Q6 n 0 λ_=>0
   simpa using this
def bU.go{n m o:Nat}(a:bU n 32 m λ_=>e')(c:bU n 1 o λ_=>1):∀(l:List Nat),(∀k∈l,k<2 ^ 32)->∀(S:P8)(F:Nat->P8)(w:List Nat)(W:Nat->List Nat),Gi n S F->zq n w W->Gi n (Ej m o l S w) λi=>Ej e' 1 l (F i) (W i)
 |[],_,_,_,_,_,h,_=>h
 |k::l,d,S,F,w,W,h,b=>by
  simp only[bc4];exact bU.go a c l (λk e=>d k (yQ _ e)) _ _ _ _ (bU.st a c (d k yN) h b) (bU.ws a b)
end
end Go.Proofs.YtilnpcolgcmofaaGreatDoor
