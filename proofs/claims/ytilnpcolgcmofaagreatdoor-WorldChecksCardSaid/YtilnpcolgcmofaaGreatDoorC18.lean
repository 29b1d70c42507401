/- A part of the proof. -/
import Derived.Test.YtilnpcolgcmofaaGreatDoorC17
set_option maxRecDepth 100000
set_option maxHeartbeats 20000000
set_option linter.all false
namespace Go.Proofs.YtilnpcolgcmofaaGreatDoor
open Tryz
section
open Go
def HY(s:S8):P8:=⟨s.a.toNat,s.b.toNat,s.c.toNat,s.d.toNat,s.e.toNat,s.f.toNat,s.g.toNat,s.h.toNat⟩
def py(n:Nat):n &&& e'=n%2 ^ 32:=Nat.and_two_pow_sub_one_eq_mod n 32
def aC9(x:cM)(n:Nat):eT e' x.toNat n=(eS x n).toNat:=by
 unfold eT eS;rw[py,Nat.or_mod_two_pow,BitVec.toNat_or,BitVec.toNat_ushiftRight,BitVec.toNat_shiftLeft,wO (Nat.lt_of_le_of_lt (Nat.shiftRight_le _ _) x.isLt)]
def Kq(x:cM)(i j k:Nat):mn e' x.toNat i j k=(ge x i j k).toNat:=by
 unfold mn ge;rw[aC9,aC9,aC9,BitVec.toNat_xor,BitVec.toNat_xor]
def QA(e f g:cM):RS e' e.toNat f.toNat g.toNat=(Gy e f g).toNat:=by
 unfold RS Gy;have h:e.toNat ^^^ e'=(~~~e).toNat:=by
  rw[←BitVec.xor_allOnes,BitVec.toNat_xor,BitVec.toNat_allOnes];rfl
 rw[h,BitVec.toNat_xor,BitVec.toNat_and,BitVec.toNat_and]
def JC(a b c:cM):ry a.toNat b.toNat c.toNat=(xl a b c).toNat:=by
 unfold ry xl;simp only[BitVec.toNat_xor,BitVec.toNat_and]
def OI(s:S8)(k:Nat)(w:cM)(l:List Nat):wa e' 1 k (HY s) (w.toNat::l)=HY (Ut s (BitVec.ofNat 32 k) w):=by
 unfold wa HY Ut aL xL;simp only[Kq,QA,JC,py,List.headD_cons,Nat.mul_one]
 congr 1
 .simp only[BitVec.toNat_add,BitVec.toNat_ofNat];omega
 .simp only[BitVec.toNat_add,BitVec.toNat_ofNat];omega
def NA{p:Prop}(h:p:=by
 rw[aC9,aC9,py,BitVec.toNat_xor,BitVec.toNat_xor,BitVec.toNat_ushiftRight,wO (Nat.lt_of_le_of_lt (Nat.shiftRight_le _ _) p.isLt)]):p:=h
def Bd(p:cM):eT e' p.toNat 7 ^^^ eT e' p.toNat 18 ^^^ (p.toNat >>> 3 &&& e')=(i7 p).toNat:=by
 unfold i7;exact NA
def Bb(p:cM):eT e' p.toNat 17 ^^^ eT e' p.toNat 19 ^^^ (p.toNat >>> 10 &&& e')=(lE p).toNat:=by
 unfold lE;exact NA
def Pz(w p v q:cM):UA e' w.toNat p.toNat v.toNat q.toNat=(w+i7 p+v+lE q).toNat:=by
 unfold UA;rw[Bd,Bb,py];simp only[BitVec.toNat_add];omega
def dH(b:List Nat)(i:Nat):cM:=(bP b (i+1)).getD i 0
def bf6(b:List Nat){i t:Nat}(h:i<t):(bP b t).getD i 0=dH b i:=by
 unfold dH;rw[List.getD_eq_getElem?_getD,List.getD_eq_getElem?_getD,nY b h]
def Hn(b:List Nat)(t:Nat)(h:16<=t):dH b t=dH b (t-16)+i7 (dH b (t-15))+dH b (t-7)+lE (dH b (t-2)):=by
 have e:dH b t=(bP b t).getD (t-16) 0+i7 ((bP b t).getD (t-15) 0)+(bP b t).getD (t-7) 0+lE ((bP b t).getD (t-2) 0):=by
  unfold dH;rw[bP,List.getD_eq_getElem?_getD,yK (by rw[KL];exact zT _),KL,wH,if_neg (by omega)]
  rfl
 rw[e,bf6 b (by omega),bf6 b (by omega),bf6 b (by omega),bf6 b (by omega)]
def sJ(b:List Nat)(t:Nat):List Nat:=(List.range 16).map λj=>(dH b (t+j)).toNat
def Ol(b:List Nat)(t:Nat):G' e' (sJ b t)=sJ b (t+1):=by
 have e:sJ b t=[(dH b (t+0)).toNat,(dH b (t+1)).toNat,(dH b (t+2)).toNat,(dH b (t+3)).toNat,(dH b (t+4)).toNat,(dH b (t+5)).toNat,(dH b (t+6)).toNat,(dH b (t+7)).toNat,(dH b (t+8)).toNat,(dH b (t+9)).toNat,(dH b (t+10)).toNat,(dH b (t+11)).toNat,(dH b (t+12)).toNat,(dH b (t+13)).toNat,(dH b (t+14)).toNat,(dH b (t+15)).toNat]:=rfl;have a:sJ b (t+1)=[(dH b (t+1+0)).toNat,(dH b (t+1+1)).toNat,(dH b (t+1+2)).toNat,(dH b (t+1+3)).toNat,(dH b (t+1+4)).toNat,(dH b (t+1+5)).toNat,(dH b (t+1+6)).toNat,(dH b (t+1+7)).toNat,(dH b (t+1+8)).toNat,(dH b (t+1+9)).toNat,(dH b (t+1+10)).toNat,(dH b (t+1+11)).toNat,(dH b (t+1+12)).toNat,(dH b (t+1+13)).toNat,(dH b (t+1+14)).toNat,(dH b (t+1+15)).toNat]:=rfl;have h:=Hn b (t+16) (by omega);rw[show t+16-16=t by omega,show t+16-15=t+1 by omega,show t+16-7=t+9 by omega,show t+16-2=t+14 by omega]at h;rw[e,a];unfold G';simp only[List.tail_cons,List.headD_cons,List.getD_cons_succ,List.getD_cons_zero,Pz,List.cons_append,List.nil_append,Nat.add_zero,vQ,Nat.reduceAdd];rw[h]
def Eh(s:S8)(b:List Nat):∀(n t:Nat),t+n=64->Ej e' 1 (eU.drop t) (HY (dv s b t)) (sJ b t)=HY (dv s b 64)
 |0,t,h=>by
  obtain rfl:t=64:=by omega
  rfl
 |n+1,t,h=>by
  have k:eU.drop t=eU.getD t 0::eU.drop (t+1):=by
   have l:eU.length=64:=rfl;rw[vG (by omega),List.getD_eq_getElem?_getD,zD (by omega)];rfl
  have w:sJ b t=(dH b t).toNat::(sJ b t).tail:=rfl;have r:dv s b (t+1)=Ut (dv s b t) (D4 t) (dH b t):=by rw[dv,bf6 b (by omega)]
  rw[k,bc4,Ol,w,OI,←Eh s b n (t+1) (by omega),r]
  rfl
def P2(s:S8)(b:List Nat):Ej e' 1 eU (HY s) (sJ b 0)=HY (dv s b 64):=Eh s b 64 0 rfl
end
section
open Go
def CO(a b:Nat)(f:Nat->Nat):pk (a+b) f=pk a f+2 ^ (64*a)*pk b λi=>f (i+a):=by
 induction a generalizing f with
 |zero=>simp[pk]
 |succ a h=>
  rw[show a+1+b=(a+b)+1 by omega,pk,h,pk,show 64*(a+1)=64+64*a by omega,Nat.pow_add,Nat.mul_add,Nat.mul_assoc];simp only[show ∀i,i+a+1=i+(a+1) from λi=>by omega];omega
def Ph:Nat->(Nat->Nat)->Nat
 |0,f=>f 0
 |k+1,f=>eV (Ph k f) λp=>p+(Ph k λi=>f (i+2 ^ k)) <<< (64*2 ^ k)
def lQ(k:Nat)(f:Nat->Nat):Ph k f=pk (2 ^ k) f:=by
 induction k generalizing f with
 |zero=>simp[Ph,pk]
 |succ k i=>rw[Ph,Lx,i,i,Nat.pow_succ,Nat.mul_two,CO,Nat.shiftLeft_eq,Nat.mul_comm]
def jJ(i:Nat):Nat:=(97+i/256)%256
def ip(i:Nat):Nat:=i%256
def RQ(q i:Nat):Nat:=142672384+jJ (i+q)
def P'(q i:Nat):Nat:=ip (i+q)*16777216
def YB(o:Nat):P8:=⟨0x6a09e667*o,0xbb67ae85*o,0x3c6ef372*o,0xa54ff53a*o,0x510e527f*o,0x9b05688c*o,0x1f83d9ab*o,0x5be0cd19*o⟩
def AX(m o:Nat)(w:List Nat):Nat:=eV (((Ej m o eU (YB o) w).a+0x6a09e667*o) &&& m) λa=>(a+o) >>> 32 &&& o
def HQ{n m o:Nat}(e:bU n 32 m λ_=>e')(b:bU n 1 o λ_=>1){w:List Nat}{W:Nat->List Nat}(g:zq n w W)(h:AX m o w=0)(i:Nat)(l:i<n) :
  ((Ej e' 1 eU (HY As) (W i)).a+0x6a09e667)%2 ^ 32≠e':=by
 have q:Gi n (YB o) λ_=>HY As:=⟨bU.const n 32 _ (by decide) b,bU.const n 32 _ (by decide) b,bU.const n 32 _ (by decide) b,bU.const n 32 _ (by decide) b,bU.const n 32 _ (by decide) b,bU.const n 32 _ (by decide) b,bU.const n 32 _ (by decide) b,bU.const n 32 _ (by decide) b⟩
 have p:=bU.go e b eU (λk j=>(by decide:∀k∈eU,k<2 ^ 32) k j) _ _ _ _ q g
 have f:=((p.a.add (bU.const n 32 0x6a09e667 (by decide) b)).and e (by decide) (by decide)).add (b.up (c:=32) (by decide));unfold AX at h;rw[Lx,f.eq,b.eq,CN (f.lt64 (by decide)) (λi=>by show 1<2 ^ (64-32);decide)]at h;have d:=I2 h i l;simp only[py]at d;intro r;rw[r]at d;exact absurd d (by decide)
def i8(n:Nat):List Nat:=if n=0 then[128]else[129,n]
def fS(l:List Nat):List Nat:=129::(2+(l.flatMap i8).length+1)::129::(l.length+1)::(l.flatMap i8++[128])
def eN(a b:Nat)(l:List Nat):List Nat:=[8,129,2,a,b]++(fS l++cJ (5+(fS l).length))
def w4(b:List Nat)(j:Nat):Nat:=(((b.getD (4*j) 0*256+b.getD (4*j+1) 0)*256+b.getD (4*j+2) 0)*256+b.getD (4*j+3) 0)%2 ^ 32
def l0(o w0 s:Nat)(b:List Nat):List Nat:=w0::(s+w4 b 1*o)::(List.range 14).map λj=>w4 b (j+2)*o
def aO3(x:cM)(d:Nat):(sw x d).toNat=(x.toNat*256+d%256)%2 ^ 32\/¬d<256:=by
 by_cases h:d<256
 .left;unfold sw;rw[BitVec.toNat_or,BitVec.toNat_shiftLeft,BitVec.toNat_ofNat,wO (show d<2 ^ 32 by omega),wO h,Nat.shiftLeft_eq];have e:x.toNat*2 ^ 8%2 ^ 32=2 ^ 8*(x.toNat%2 ^ 24):=by omega
  rw[e,←Nat.two_pow_add_eq_or_of_lt (by omega)];omega
 .exact .inr h
def vg{a b c d:Nat}(i:a<256)(g:b<256)(f:c<256)(e:d<256):(kn a b c d).toNat=((a*256+b)*256+c)*256+d:=by
 unfold kn;rw[(aO3 _ d).resolve_right (λh=>h e),(aO3 _ c).resolve_right (λh=>h f),(aO3 _ b).resolve_right (λh=>h g),(aO3 _ a).resolve_right (λh=>h i)];have e0:(0:cM).toNat=0:=rfl;rw[e0];omega
variable{b:List Nat}
def Oo(c:∀d∈b,d<256){j:Nat}(a:j<16):(dH b j).toNat=w4 b j:=by
 have g:∀i,b.getD i 0<256:=λi=>by
  rw[List.getD_eq_getElem?_getD]
  cases h:b[i]? with
  |none=>simp
  |some d=>exact c d (zG h)
 unfold dH w4;rw[bP,List.getD_eq_getElem?_getD,yK (by rw[KL];exact zT _),KL,wH,if_pos a];simp only[List.getElem?_cons_zero,Option.getD_some];have l:=g (4*j);have k:=g (4*j+1);have f:=g (4*j+2);have e:=g (4*j+3);rw[vg l k f e];omega
def OK{n:Nat}(h:n<256):∀d∈i8 n,d<256:=by
 unfold i8;split
 .simp
 .simp;exact h
structure Gf(l:List Nat):Prop where
 lt:∀n∈l,n<256
 len:(fS l).length<=50
variable{l:List Nat}
def CV(h:Gf l):∀d∈fS l,d<256:=by
 have g:=h.len;have f:(l.flatMap i8).length+5=(fS l).length:=by simp[fS]
 have j:l.length<=(l.flatMap i8).length:=by
  clear h g f
  induction l with
  |nil=>simp
  |cons a l i=>
   rw[List.flatMap_cons,zI,List.length_cons];have:1<=(i8 a).length:=by unfold i8;split<;>simp
   omega
 intro d b;unfold fS at b;simp only[zU,zO,yF,xE]at b;rcases b with rfl|rfl|rfl|rfl|b|rfl
 .omega
 .omega
 .omega
 .omega
 .obtain⟨n,c,e⟩:=List.mem_flatMap.1 b;exact OK (h.lt n c) d e
 .omega
def aG7{a b:Nat}(h:Gf l)(f:a<256)(e:b<256):∀d∈eN a b l,d<256:=by
 intro d c;unfold eN at c;rcases zO.1 c with c|c
 .simp only[zU,yF,xE]at c;omega
 .rcases zO.1 c with c|c
  .exact CV h d c
  .unfold cJ at c;simp only[zU,zO]at c;rcases c with rfl|c|c
   .omega
   .rw[(List.mem_replicate.1 c).2];omega
   .exact mg _ _ d c
def aX5(a b:Nat)(h:Gf l):(eN a b l).length=64:=by
 have c:=h.len;unfold eN;rw[zI,zI,bb1];simp only[List.length_cons,List.length_nil];unfold iq;omega
def Qy(m o w0 s:Nat)(l:List Nat):Bool:=Nat.beq (AX m o (l0 o w0 s (eN 0 0 l))) 0
def SD(b:List Nat)(j:Nat):w4 b j<2 ^ 32:=vM _ (by decide)
def Hh(a:∀d∈b,d<256)(j:Nat)(h:j<16):(sJ b 0).getD j 0=w4 b j:=by
 rw[sJ,List.getD_eq_getElem?_getD,qA,xV h,Option.map_some,Option.getD_some,xD,Oo a h]
def Km{n q m o w0 s:Nat}(A:bU n 32 m λ_=>e')(p:bU n 1 o λ_=>1)(I:bU n 32 w0 (RQ q))(y:bU n 32 s (P' q))(r:Gf l)(h:Qy m o w0 s l=true)(i:Nat)(B:i<n) :
  (GK As (eN (jJ (i+q)) (ip (i+q)) l)).a.toNat≠e':=by
 have D:∀i,∀d∈eN (jJ (i+q)) (ip (i+q)) l,d<256:=λi=>aG7 r (by unfold jJ;omega) (by unfold ip;omega);have z:zq n (l0 o w0 s (eN 0 0 l)) λi=>sJ (eN (jJ (i+q)) (ip (i+q)) l) 0:=by
  refine⟨by simp[l0],λi=>by simp[sJ],λj=>?_⟩;by_cases hj:j<16
  .simp only[Hh (D _) j hj];rcases j with _|j
   .have e:(λi=>w4 (eN (jJ (i+q)) (ip (i+q)) l) 0)=RQ q:=by
     funext i
     have:jJ (i+q)<256:=by unfold jJ;omega
     simp only[w4,eN,RQ,Nat.mul_zero,xD,List.cons_append,List.getD_cons_zero,List.getD_cons_succ];omega
    rw[e];exact I
   rcases j with _|j
   .have t:w4 (eN 0 0 l) 1<2 ^ 24:=by
     have c:∀k,(eN 0 0 l).getD k 0<256:=λk=>by
      rw[List.getD_eq_getElem?_getD]
      cases h:(eN 0 0 l)[k]? with
      |none=>simp
      |some d=>exact aG7 r (by decide) (by decide) d (zG h)
     have J:(eN 0 0 l).getD (4*1) 0=0:=rfl;unfold w4;rw[J];have H:=c (4*1+1);have G:=c (4*1+2);have F:=c (4*1+3);omega
    have L:=y.lt;have e:(λi=>w4 (eN (jJ (i+q)) (ip (i+q)) l) (0+1))=λi=>P' q i+w4 (eN 0 0 l) 1:=by
     funext i
     have c:ip (i+q)<256:=by unfold ip;omega
     have x:w4 (eN (jJ (i+q)) (ip (i+q)) l) (0+1)=(((ip (i+q)*256+(fS l++cJ (5+(fS l).length)).getD 0 0)*256+(fS l++cJ (5+(fS l).length)).getD 1 0)*256+(fS l++cJ (5+(fS l).length)).getD 2 0)%2 ^ 32:=rfl;have w:w4 (eN 0 0 l) 1=(((0*256+(fS l++cJ (5+(fS l).length)).getD 0 0)*256+(fS l++cJ (5+(fS l).length)).getD 1 0)*256+(fS l++cJ (5+(fS l).length)).getD 2 0)%2 ^ 32:=rfl;have v:∀k,(fS l++cJ (5+(fS l).length)).getD k 0<256:=λk=>by
      have:=λd C=>aG7 r (a:=0) (b:=0) (by decide) (by decide) d (yW _ C);rw[List.getD_eq_getElem?_getD]
      cases h:(fS l++cJ (5+(fS l).length))[k]? with
      |none=>simp
      |some d=>exact this d (zG h)
     have H:=v 0;have G:=v 1;have F:=v 2;rw[x,w];unfold P';omega
    rw[e];have g:=y.add ((bU.const n 32 _ (Nat.lt_trans t (by decide)) p));refine⟨g.eq,λi=>?_⟩;have c:ip (i+q)<256:=by unfold ip;omega
    unfold P';omega
   .have e:(λi=>w4 (eN (jJ (i+q)) (ip (i+q)) l) (j+1+1))=λ_=>w4 (eN 0 0 l) (j+2):=by
     funext i
     unfold w4;have f:∀k,5<=k->(eN (jJ (i+q)) (ip (i+q)) l).getD k 0=(eN 0 0 l).getD k 0:=λk u=>by
      obtain⟨q,rfl⟩:∃q,k=q+5:=⟨k-5,by omega⟩
      rfl
     rw[f _ (by omega),f _ (by omega),f _ (by omega),f _ (by omega)]
    rw[e];have K:(l0 o w0 s (eN 0 0 l)).getD (j+1+1) 0=w4 (eN 0 0 l) (j+2)*o:=by
     unfold l0;rw[List.getD_cons_succ,List.getD_cons_succ,List.getD_eq_getElem?_getD,qA,xV (by omega)]
     rfl
    rw[K];exact bU.const n 32 _ (SD _ _) p
  .have x:(l0 o w0 s (eN 0 0 l)).getD j 0=0:=by
    rw[List.getD_eq_getElem?_getD,yY.2 (by simp[l0];omega)];rfl
   have w:∀b,(sJ b 0).getD j 0=0:=λb=>by
    rw[List.getD_eq_getElem?_getD,yY.2 (by simp[sJ];omega)];rfl
   simp only[x,w];refine⟨?_,λi=>by decide⟩;have:=Q6 n 0 λ_=>0
   simpa using this
 have u:=HQ A p z (yH h) i B;rw[P2]at u;unfold GK S8.add;rw[BitVec.toNat_add];intro E;apply u;rw[←E]
 show((dv As _ 64).a.toNat+0x6a09e667)%2 ^ 32=(0x6a09e667+(dv As _ 64).a.toNat)%2 ^ 32;rw[Nat.add_comm]
end
section
open Go
def aN1{n:Nat}{f g:Nat->Nat}(h:∀i,i<n->f i=g i):pk n f=pk n g:=by
 induction n generalizing f g with
 |zero=>rfl
 |succ n a=>rw[pk,pk,h 0 (by omega),a λi b=>h (i+1) (by omega)]
def aS9(p n:Nat)(h:n<=32):(p |||p <<< 32) >>> n=p >>> n |||p <<< (32-n):=by
 rw[Nat.shiftRight_or_distrib]
 congr 1
 have e:32=(32-n)+n:=by omega
 rw[show p <<< 32=p <<< ((32-n)+n) by rw[←e],Nat.shiftLeft_add,Nat.shiftLeft_shiftRight]
def uI(m p i j k:Nat)(b:i<=32)(a:j<=32)(h:k<=32):((p |||p <<< 32) >>> i ^^^ (p |||p <<< 32) >>> j ^^^ (p |||p <<< 32) >>> k) &&& m=mn m p i j k:=by
 rw[aS9 p i b,aS9 p j a,aS9 p k h,Nat.and_xor_distrib_right,Nat.and_xor_distrib_right];rfl
def Bf(m p i j k:Nat)(a:i<=32)(h:j<=32):((p |||p <<< 32) >>> i ^^^ (p |||p <<< 32) >>> j ^^^ p >>> k) &&& m=(eT m p i ^^^ eT m p j ^^^ (p >>> k &&& m)):=by
 rw[aS9 p i a,aS9 p j h,Nat.and_xor_distrib_right,Nat.and_xor_distrib_right];rfl
def JD(a b c:Nat):(a &&& b) ^^^ (c &&& (a ^^^ b))=ry a b c:=by
 unfold ry;rw[Nat.and_xor_distrib_left,Nat.and_comm c a,Nat.and_comm c b,Nat.xor_assoc]
noncomputable def goR (m o:Nat) (l:List Nat):Nat->Nat->Nat->Nat->Nat->Nat->Nat->Nat->Nat->Nat->Nat->Nat->Nat->Nat->Nat->Nat->Nat->Nat->Nat->Nat->Nat->Nat->Nat->Nat->Nat:=
 List.rec (motive:=λ_=>Nat->Nat->Nat->Nat->Nat->Nat->Nat->Nat->Nat->Nat->Nat->Nat->Nat->Nat->Nat->Nat->Nat->Nat->Nat->Nat->Nat->Nat->Nat->Nat->Nat) (λa _ _ _ _ _ _ _ _ _ _ _ _ _ _ _ _ _ _ _ _ _ _ _=>a)
  (λk _ J a b c d e f g h v i F E w4 D C B A u r q p n w j=>eV (Nat.lor e (Nat.shiftLeft e 32)) λs=>eV (Nat.add (Nat.add (Nat.add (Nat.add h (Nat.land (Nat.xor (Nat.xor (Nat.shiftRight s 6) (Nat.shiftRight s 11)) (Nat.shiftRight s 25)) m)) (Nat.xor (Nat.land e f) (Nat.land (Nat.xor e m) g))) (Nat.mul k o)) v) λx=>eV (Nat.lor a (Nat.shiftLeft a 32)) λt=>eV (Nat.land (Nat.add (Nat.add x (Nat.land (Nat.xor (Nat.xor (Nat.shiftRight t 2) (Nat.shiftRight t 13)) (Nat.shiftRight t 22)) m)) (Nat.xor (Nat.land a b) (Nat.land c (Nat.xor a b)))) m) λI=>eV (Nat.land (Nat.add d x) m) λH=>eV (Nat.lor i (Nat.shiftLeft i 32)) λz=>eV (Nat.lor w (Nat.shiftLeft w 32)) λy=>eV (Nat.land (Nat.add (Nat.add (Nat.add v (Nat.land (Nat.xor (Nat.xor (Nat.shiftRight z 7) (Nat.shiftRight z 18)) (Nat.shiftRight i 3)) m)) u) (Nat.land (Nat.xor (Nat.xor (Nat.shiftRight y 17) (Nat.shiftRight y 19)) (Nat.shiftRight w 10)) m)) m) λG=>J I a b c H e f g i F E w4 D C B A u r q p n w j G) l
def Ei(m o:Nat):∀(l:List Nat)(a b c d e f g h t r B A w4 z y v u s q p n j w i:Nat),goR m o l a b c d e f g h t r B A w4 z y v u s q p n j w i=(Ej m o l ⟨a,b,c,d,e,f,g,h⟩ [t,r,B,A,w4,z,y,v,u,s,q,p,n,j,w,i]).a
 |[],_,_,_,_,_,_,_,_,_,_,_,_,_,_,_,_,_,_,_,_,_,_,_,_=>rfl
 |k::l,a,b,c,d,e,f,g,h,t,r,B,A,w4,z,y,v,u,s,q,p,n,j,w,i=>by
  rw[bc4];have O:goR m o (k::l) a b c d e f g h t r B A w4 z y v u s q p n j w i=eV (Nat.lor e (Nat.shiftLeft e 32)) λC=>eV (Nat.add (Nat.add (Nat.add (Nat.add h (Nat.land (Nat.xor (Nat.xor (Nat.shiftRight C 6) (Nat.shiftRight C 11)) (Nat.shiftRight C 25)) m)) (Nat.xor (Nat.land e f) (Nat.land (Nat.xor e m) g))) (Nat.mul k o)) t) λx=>eV (Nat.lor a (Nat.shiftLeft a 32)) λD=>eV (Nat.land (Nat.add (Nat.add x (Nat.land (Nat.xor (Nat.xor (Nat.shiftRight D 2) (Nat.shiftRight D 13)) (Nat.shiftRight D 22)) m)) (Nat.xor (Nat.land a b) (Nat.land c (Nat.xor a b)))) m) λI=>eV (Nat.land (Nat.add d x) m) λH=>eV (Nat.lor r (Nat.shiftLeft r 32)) λF=>eV (Nat.lor w (Nat.shiftLeft w 32)) λE=>eV (Nat.land (Nat.add (Nat.add (Nat.add t (Nat.land (Nat.xor (Nat.xor (Nat.shiftRight F 7) (Nat.shiftRight F 18)) (Nat.shiftRight r 3)) m)) s) (Nat.land (Nat.xor (Nat.xor (Nat.shiftRight E 17) (Nat.shiftRight E 19)) (Nat.shiftRight w 10)) m)) m) λG=>goR m o l I a b c H e f g r B A w4 z y v u s q p n j w i G:=rfl;rw[O];simp only[Lx];rw[Ei m o l];have N:=uI m e 6 11 25 (by decide) (by decide) (by decide);have M:=uI m a 2 13 22 (by decide) (by decide) (by decide);have L:=Bf m r 7 18 3 (by decide) (by decide);have K:=Bf m w 17 19 10 (by decide) (by decide);have J:=JD a b c;unfold wa G' aL xL UA RS;rw[←N,←M,←J];simp only[List.getD_cons_succ,List.getD_cons_zero,List.headD_cons];rw[←L,←K]
  rfl
def wsN:Nat->List Nat->List Nat
 |n+1,a::b::c::d::l=>eV (Nat.add (Nat.mul (Nat.add (Nat.mul (Nat.add (Nat.mul a 256) b) 256) c) 256) d) λw=>w::wsN n l
 |_,_=>[]
def AG:∀(n:Nat)(l:List Nat),l.length=4*n->wsN n l=(List.range n).map λj=>((l.getD (4*j) 0*256+l.getD (4*j+1) 0)*256+l.getD (4*j+2) 0)*256+l.getD (4*j+3) 0
 |0,[],_=>rfl
 |n+1,a::b::c::d::l,h=>by
  rw[wsN,Lx,AG n l (by simp at h;omega),List.range_succ_eq_map,List.map_cons,vA]
  rfl
noncomputable def bk2 (m o w0 s:Nat):List Nat->Bool
 |[p,n,l,k,j,i,h,g,f,e,d,c,b,x]=>Nat.beq (eV (Nat.land (Nat.add (goR m o eU (Nat.mul 0x6a09e667 o) (Nat.mul 0xbb67ae85 o) (Nat.mul 0x3c6ef372 o) (Nat.mul 0xa54ff53a o) (Nat.mul 0x510e527f o) (Nat.mul 0x9b05688c o) (Nat.mul 0x1f83d9ab o) (Nat.mul 0x5be0cd19 o) w0 s (Nat.mul p o) (Nat.mul n o) (Nat.mul l o) (Nat.mul k o) (Nat.mul j o) (Nat.mul i o) (Nat.mul h o) (Nat.mul g o) (Nat.mul f o) (Nat.mul e o) (Nat.mul d o) (Nat.mul c o) (Nat.mul b o) (Nat.mul x o)) (Nat.mul 0x6a09e667 o)) m) λa=>Nat.land (Nat.shiftRight (Nat.add a o) 32) o) 0
 |_=>false
def Kk(m o w0 s:Nat):∀(l:List Nat),bk2 m o w0 s l=true->AX m o (w0::s::l.map λx=>x*o)=0
 |[t,r,q,p,n,k,j,i,g,f,e,d,c,b],h=>by
  have a:=yH h;rw[Lx,Ei]at a;unfold AX;rw[Lx];exact a
noncomputable def rU (m o w0 s:Nat):List Nat->Bool
 |a::b::c::l=>bk2 m o w0 (Nat.add s (Nat.mul (Nat.add (Nat.mul (Nat.add (Nat.mul a 256) b) 256) c) o)) (wsN 14 l)
 |_=>false
def NH(l:List Nat):List Nat:=fS l++cJ (5+(fS l).length)
variable{l:List Nat}
def Kl{m o w0 s:Nat}(f:Gf l)(h:rU m o w0 s (NH l)=true):Qy m o w0 s l=true:=by
 have e:∀d∈eN 0 0 l,d<256:=aG7 f (by decide) (by decide);have n:=aX5 0 0 f;have e0:eN 0 0 l=8::129::2::0::0::NH l:=rfl;rw[e0]at e n;unfold Qy;rw[e0];generalize NH l=r at *
 match r,h with
 |a::b::c::t,h=>
  have p:t.length=4*14:=by simp at n;omega
  unfold rU at h;have i:=Kk _ _ _ _ _ h;rw[AG 14 t p]at i;have w:a<256:=e a (by simp);have q:b<256:=e b (by simp);have v:c<256:=e c (by simp);have g:∀k,t.getD k 0<256:=λk=>by
   rw[List.getD_eq_getElem?_getD]
   cases h:t[k]? with
   |none=>simp
   |some d=>exact e d (by have:=zG h;simp[this])
  have u:l0 o w0 s (8::129::2::0::0::a::b::c::t)=w0::(s+((a*256+b)*256+c)*o)::((List.range 14).map λj=>((t.getD (4*j) 0*256+t.getD (4*j+1) 0)*256+t.getD (4*j+2) 0)*256+t.getD (4*j+3) 0).map λx=>x*o:=by
   unfold l0;rw[vA]
   congr 2
   .congr 2
    unfold w4;simp only[Nat.mul_one,Nat.reduceAdd,List.getD_cons_succ,List.getD_cons_zero];omega
   .refine List.map_congr_left λj _=>?_;have C:=g (4*j);have B:=g (4*j+1);have A:=g (4*j+2);have y:=g (4*j+3);unfold w4;rw[show 4*(j+2)=4*j+8 by omega];simp only[List.getD_cons_succ,Function.comp_apply]
    congr 1
    omega
  rw[u];exact zM (λz=>Nat.beq z 0) i
def mW(n O I h:Nat):Nat->(Nat->Nat)->Nat
 |0,_=>0
 |r+1,g=>eV (mW n O I h r λj=>g (j+1)) λp=>(g 0*O+h*I)+p <<< (64*n)
def re(n h:Nat)(c:0<n)(r:Nat)(g:Nat->Nat):mW n (pk n λ_=>1) (pk n id) h r g=pk (r*n) λi=>g (i/n)+h*(i%n):=by
 induction r generalizing g with
 |zero=>simp[mW,pk]
 |succ r b=>
  rw[mW,Lx,b,show(r+1)*n=n+r*n by rw[vC,Nat.one_mul,Nat.add_comm],CO,Nat.shiftLeft_eq,Nat.mul_comm (pk _ _) (2 ^ (64*n)),Q6,Q6,CQ];have e:(λi=>g ((i+n)/n)+h*((i+n)%n))=λi=>g (i/n+1)+h*(i%n):=by
   funext i
   rw[Nat.add_div_right _ c,Nat.add_mod_right]
  rw[e]
  congr 1
  exact aN1 λi a=>by rw[Nat.div_eq_of_lt a,wO a,Nat.mul_one];rfl
def oL:Nat:=Ph 7 λ_=>1
def iL:Nat:=Ph 7 id
def P3(c j:Nat):Nat:=142672384+(97+(j+13*c)/2)%256
def Eo(c j:Nat):Nat:=(j+13*c)%2*2147483648
noncomputable def af (ps:List (List Nat)):Bool:=eV oL λO=>eV iL λI=>eV (mW 128 O I 0 13 λ_=>1) λo=>eV (Nat.mul e' o) λm=>eV (mW 128 O I 16777216 13 (Eo 0)) λa=>eV (mW 128 O I 16777216 13 (Eo 1)) λs=>
 eV (mW 128 O I 0 13 (P3 0)) λd=>eV (mW 128 O I 0 13 (P3 1)) λc=>eV (mW 128 O I 0 13 (P3 2)) λb=>eV (mW 128 O I 0 13 (P3 3)) λu=>
 ps.all λl=>rU m o d a (NH l)&&rU m o c s (NH l)&&rU m o b a (NH l)&&rU m o u s (NH l)
def MJ(c:Nat):bU 1664 32 (mW 128 oL iL 0 13 (P3 c)) (RQ (1664*c))/\bU 1664 32 (mW 128 oL iL 16777216 13 (Eo c)) (P' (1664*c)):=by
 have a:oL=pk 128 λ_=>1:=lQ 7 _;have e:iL=pk 128 id:=lQ 7 _;rw[a,e,re 128 _ (by decide),re 128 _ (by decide)];refine⟨⟨aN1 λi _=>?_,λi=>by unfold RQ jJ;omega⟩,⟨aN1 λi _=>?_,λi=>by unfold P' ip;omega⟩⟩
 .unfold P3 RQ jJ;omega
 .unfold Eo P' ip;omega
def Kn{ps:List (List Nat)}(h:af ps=true)(n:l∈ps)(p:Gf l)(i:Nat)(v:i<6656):(GK As (eN (jJ i) (ip i) l)).a.toNat≠e':=by
 have o:bU 1664 1 (mW 128 oL iL 0 13 λ_=>1) λ_=>1:=by
  have u:oL=pk 128 λ_=>1:=lQ 7 _;have e:iL=pk 128 id:=lQ 7 _;rw[u,e,re 128 _ (by decide)];exact⟨aN1 λi _=>by omega,λi=>by decide⟩
 unfold af at h;simp only[Lx]at h;have b:=yA.1 h l n;simp only[zJ]at b;obtain⟨⟨⟨b,s⟩,f⟩,d⟩:=b;have m:=bU.const 1664 32 e' (by decide) o;have e:Eo 0=Eo 2:=by funext i;unfold Eo;omega
 have t:Eo 1=Eo 3:=by funext i;unfold Eo;omega
 have k:∀c,1664*c<=i->i<1664*c+1664->rU (Nat.mul e' (mW 128 oL iL 0 13 λ_=>1)) (mW 128 oL iL 0 13 λ_=>1) (mW 128 oL iL 0 13 (P3 c)) (mW 128 oL iL 16777216 13 (Eo c)) (NH l)=true->(GK As (eN (jJ i) (ip i) l)).a.toNat≠e':=λc j g r=>by
  have:=Km (q:=1664*c) m o (MJ c).1 (MJ c).2 p (Kl p r) (i-1664*c) (by omega);rw[Nat.sub_add_cancel j]at this;exact this
 rw[e]at f;rw[t]at d;by_cases c1:i<1664
 .exact k 0 (by omega) (by omega) b
 by_cases c2:i<3328
 .exact k 1 (by omega) (by omega) s
 by_cases c3:i<4992
 .exact k 2 (by omega) (by omega) f
 .exact k 3 (by omega) (by omega) d
end
section
open Go
def aS5{n:Nat}(h:n<256):bN (n:Int)=i8 n:=by
 have m:Av (n:Int)=n:=by unfold Av;split<;>omega
 have b:decide ((n:Int)<0)=false:=yE (by omega);unfold bN i8;rw[m,b];by_cases a:n=0
 .subst a;rw[Sb];rfl
 .rw[if_neg a,lU a,Nat.div_eq_of_lt h,Sb];simp[o7,iR,wO h]
def Ii(n:Nat):1<=(i8 n).length:=by unfold i8;split<;>simp
def EB(l:List Nat):l.length<=(l.flatMap i8).length:=by
 induction l with
 |nil=>simp
 |cons a l i=>rw[List.flatMap_cons,zI,List.length_cons];have:=Ii a;omega
def oP{α β:Type}{f g:α->List β}:∀{l:List α},(∀a∈l,f a=g a)->l.flatMap f=l.flatMap g
 |[],_=>rfl
 |a::l,h=>by rw[List.flatMap_cons,List.flatMap_cons,h a yN,oP λb c=>h b (yQ _ c)]
def SE(d:List Nat):Nat:=(d.take 6).foldl (λn b=>n*256+b) 0
def ze(s:List Nat)(path:List Int)(t:Int):Nat:=SE (FT 8 [s,eC (path++[t])])
variable{l:List Nat}
def H7(h:Gf l)(a b:Nat):(8::[[a,b],eC (l.map Int.ofNat++[0])].flatMap λp=>bN p.length++p)=[8,129,2,a,b]++fS l:=by
 have q:=h.len;have o:(l.flatMap i8).length+5=(fS l).length:=by simp[fS]
 have m:=EB l;have k:eC (l.map Int.ofNat++[0])=129::(l.length+1)::(l.flatMap i8++[128]):=by
  unfold eC;have j:((l.map Int.ofNat++[(0:Int)]).length:Int)=((l.length+1:Nat):Int):=by simp
  have i:(l.map Int.ofNat).flatMap bN=l.flatMap i8:=by
   rw[List.flatMap_map];exact oP λn c=>aS5 (h.lt n c)
  have g:bN 0=[128]:=aS5 (n:=0) (by decide);rw[j,aS5 (by omega),List.flatMap_append,i,List.flatMap_singleton,g];unfold i8;rw[if_neg (by omega)];rfl
 have f:bN (([a,b]:List Nat).length:Int)=[129,2]:=aS5 (n:=2) (by decide);rw[List.flatMap_cons,List.flatMap_singleton,f,k];have d:((129::(l.length+1)::(l.flatMap i8++[128])).length:Int)=((2+(l.flatMap i8).length+1:Nat):Int):=by
  simp only[List.length_cons,zI,List.length_nil];omega
 rw[d,aS5 (by omega)];have e:i8 (2+(l.flatMap i8).length+1)=[129,2+(l.flatMap i8).length+1]:=by unfold i8;rw[if_neg (by omega)]
 rw[e]
 rfl
def Hg(h:Gf l)(a b:Nat):ze [a,b] (l.map Int.ofNat) 0=SE ((List.range 32).map (lj (GK As (eN a b l)))):=by
 have d:=aX5 a b h;have M:([8,129,2,a,b]++fS l)++cJ ([8,129,2,a,b]++fS l).length=eN a b l:=by
  unfold eN;rw[zV,zI]
  rfl
 have c:([8,129,2,a,b]++fS l).length+(cJ ([8,129,2,a,b]++fS l).length).length=64:=by
  rw[←zI,M];exact d
 unfold ze FT;rw[H7 h,qp,M,c];have e:fJ (eN a b l) (64/64)=GK As (eN a b l):=by
  show GK (fJ (eN a b l) 0) (((eN a b l).drop (64*0)).take 64)=_;rw[Nat.mul_zero,List.drop_zero,yL (by omega)]
  rfl
 rw[e];unfold SE;rw[List.take_take]
 rfl
def Ou(s:S8):SE ((List.range 32).map (lj s))=s.a.toNat*65536+s.b.toNat/65536:=by
 have e:SE ((List.range 32).map (lj s))=((((((0*256+lj s 0)*256+lj s 1)*256+lj s 2)*256+lj s 3)*256+lj s 4)*256+lj s 5):=rfl;have f:lj s 0=s.a.toNat/16777216%256:=rfl;have d:lj s 1=s.a.toNat/65536%256:=rfl;have c:lj s 2=s.a.toNat/256%256:=rfl;have b:lj s 3=s.a.toNat/1%256:=rfl;have a:lj s 4=s.b.toNat/16777216%256:=rfl;have h:lj s 5=s.b.toNat/65536%256:=rfl;have i:=s.a.isLt;have g:=s.b.isLt;rw[e,f,d,c,b,a,h];omega
def Hf{ps:List (List Nat)}(h:af ps=true)(a:l∈ps)(p:Gf l)(i:Nat)(b:i<6656):ze [jJ i,ip i] (l.map Int.ofNat) 0<281474976645120:=by
 have c:=Kn h a p i b;rw[Hg p,Ou];generalize GK As (eN (jJ i) (ip i) l)=s at *;have e:=s.a.isLt;have d:=s.b.isLt;unfold e' at c;omega
end
section
open Go
def qi(ps:List (List Nat)):List Nat:=8::ps.flatMap λp=>bN p.length++p
structure LH(ps:List (List Nat)):Prop where
 n:ps.length<=10
 l:∀p∈ps,p.length<=1000
 b:∀p∈ps,∀d∈p,d<256
variable{ps:List (List Nat)}
def LH.one(h:LH ps):∀p∈ps,(bN p.length++p).length<=1009:=λp a=>by
 have:=h.l p a;have:=GD (n:=(p.length:Int)) (se (by omega));rw[zI];omega
def LH.len(h:LH ps)(i:Nat):(8::(ps.take i).flatMap λp=>bN p.length++p).length<=20000:=by
 have e:=NL (f:=λp:List Nat=>bN p.length++p) (l:=ps.take i) (c:=1009) (λp a=>h.one p (xG a));have d:(ps.take i).length<=ps.length:=by rw[zR];omega
 have b:=h.n;have:(ps.take i).length*1009<=10*1009:=xZ _ (by omega);rw[List.length_cons];omega
def LH.lt(h:LH ps):∀d∈qi ps,d<256:=by
 intro d a;unfold qi at a;rcases zU.1 a with rfl|a
 .decide
 .obtain⟨p,c,a⟩:=List.mem_flatMap.1 a;rcases zO.1 a with b|b
  .exact mf (n:=(p.length:Int)) (se (by have:=h.l p c;omega)) d b
  .exact h.b p c d b
variable{A B:Prop}
def Bn(k:B)(h:ar B->A:=by intro q7;(first|refine bh ?_|refine aE ?_|(refine' aj ?hc ?_;(case hc=>exact HW)));exact q7.1):A:=h ⟨k⟩
def bp9(k:B)(h:ar B->A:=by intro q7;(first|refine bh ?_|refine jh ?_|(refine' aj ?hc ?_;(case hc=>exact HW)));exact q7.1):A:=h ⟨k⟩
def uz{p:Prop}(h:p:=by
 exact⟨(i+1,_,s'),(ah av),Sc.refl _,⟨by simp only;omega,hr⟩,by simp only;omega⟩):p:=h
def wq(ps:List (List Nat))(h:LH ps):APure prog 273 [iD 8,.sl 1 (ps.map λp=>[dr p])] (Bh (qi ps)):=by
 have k:=h.n;refine ap func273 ntmps273 λt=>?_
 repeat refine Bn ?_
 refine Ot.yd (y4 (m:=((8:Nat):Int)) rfl rfl underlying3 underlying5 rfl) ?_
 repeat refine bp9 ?_
 refine Bx.r ?_;refine Uy ai rfl rfl rfl rfl rfl rfl rfl rfl rfl rfl (by decide) (λo=>?_)
 repeat refine Bn ?_
 refine aO mixed ai (γ:=Nat×Value×ae) (λg=>[(6,iD g.1),(5,.v g.2.1)]) (λg=>g.2.2) (λg=>g.1<=ps.length/\RY (8::(ps.take g.1).flatMap λp=>bN p.length++p) g.2.1 g.2.2) (λg=>ps.length-g.1) (0,.slice (some ⟨o,0,none⟩) 1 1,[(o,.cells 5 [yD 8])]) (ah av) (Sc.refl _) ⟨zW _,Rm (xs:=[yC 8]) o (by simp) (by decide)⟩ ?_;rintro⟨i,v,r⟩ ⟨hi,w⟩;simp only at hi w⊢;by_cases hil:i<ps.length
 .obtain⟨p,b⟩:∃p,ps[i]?=some p:=⟨_,zD hil⟩
  have j:ps[((i:Nat):Int).toNat]?=some p:=b;have e:=zG b;have f:=h.l p e;have HW:=wx (l:=p) (by omega) (h.b p e);have z:=h.len (i+1);have a:ab 5 1 ((8::(ps.take i).flatMap λp=>bN p.length++p).map yC) v r:=w
  repeat refine Bn ?_
  refine Ap.go rfl rfl rfl rfl a (bR _) (tN _) (zs:=(8::(ps.take (i+1)).flatMap λp=>bN p.length++p).map yC) (by rw[aG2 b];simp only[yB,List.map_cons,List.cons_append]) (qk z (by decide)) (by rw[zL];omega) (λs'=>s') dF (λs q s' hr=>?_)
  repeat refine Bn ?_
  exact uz
 .obtain rfl:i=ps.length:=by omega
  rw[yM]at w
  repeat refine Bn ?_
  exact Rt.vs (Vs.row w (bR _))
def Pb(ps:List (List Nat))(h:LH ps):APure prog 264 [iD 8,.sl 1 (ps.map λp=>[dr p])] (Kr (FT 8 ps)):=by
 have HI:=wq ps h;have z:=h.len ps.length;rw[yM]at z;have HS:=B8 (qi ps) (by unfold qi;omega) h.lt;have e:Kr (FT 8 ps)=Kr (qp (qi ps)):=by
  unfold Kr FT
  congr 1
 rw[e];generalize qp (qi ps)=H at *;unfold Kr at HS⊢;refine ap func264 ntmps264 λa=>?_
 repeat' first|refine S' ?_|intro b;conv=>whnf
 refine Sv.perm (tb:=351) (cs':=(List.range 16).map λi=>yD (H.getD i 0)) (zH _) rfl (by decide) rfl rfl ?_
 repeat' first|refine S' ?_|intro b;conv=>whnf
 exact Rt.pure rfl
def rM(m:List Nat):∀d∈qp m,d<256:=by
 intro d h;unfold qp at h;obtain⟨i,_,rfl⟩:=xM.1 h;exact vM _ (by decide)
def o6(ps:List (List Nat))(i:Nat):(FT 8 ps).getD i 0<256:=by
 rw[List.getD_eq_getElem?_getD]
 cases h:(FT 8 ps)[i]? with
 |none=>simp
 |some d=>exact rM _ d (xG (zG h))
def lA(d:List Nat)(k:Nat):Nat:=(d.take k).foldl (λn b=>n*256+b) 0
def ly(d:List Nat)(h:∀i,d.getD i 0<256):∀k,lA d k<256 ^ k
 |0=>by simp[lA]
 |k+1=>by
  have e:=ly d h k;unfold lA at *;rw[xC,List.foldl_append];have a:=h k;rw[List.getD_eq_getElem?_getD]at a
  cases c:d[k]? with
  |none=>simp only[Option.toList_none,List.foldl_nil,Nat.pow_succ];omega
  |some b=>rw[c]at a;simp only[Option.getD_some]at a;simp only[Option.toList_some,List.foldl_cons,List.foldl_nil,Nat.pow_succ];omega
def x6(ps:List (List Nat)):(FT 8 ps).length=16:=by unfold FT qp;simp
def vi{d:List Nat}{k b:Nat}(h:d[k]?=some b):lA d (k+1)=lA d k*256+b:=by
 unfold lA;rw[xC,h,List.foldl_append];rfl
structure zn(p:List Int):Prop where
 n:p.length<=20
 v:∀v∈p,cp v
structure gF(s:List Nat):Prop where
 n:s.length<=32
 v:∀d∈s,d<256
def jP(k:B)(h:ar B->A:=by intro q7;(first|refine IB ?_|refine aE ?_|(refine' aj ?hc ?_;(case hc=>first|exact HL|exact HO)));exact q7.1):A:=h ⟨k⟩
def tF(sd:List Nat)(hs:gF sd)(path:List Int)(j:zn path)(t:Int)(ht:cp t):APure prog 244 [dr sd,bv path,iD t] (iD ((ze sd path t:Nat):Int)):=by
 have r:=j.n;have f:∀v∈path++[t],cp v:=λv h=>by
  rcases zO.1 h with h|h
  .exact j.v v h
  .rw[zN]at h;subst h;exact ht
 have k:(path++[t]).length<=21:=by rw[zI,List.length_singleton];omega
 have HL:=Cf (l:=path++[t]) (by omega) f;have w:=uq f (se (by omega));have a:=J7 (se (by omega)) f;have P:LH [sd,eC (path++[t])]:=⟨by simp,λp h=>by
  simp only[zU,yF,xE]at h;rcases h with rfl|rfl
  .have:=hs.n;omega
  .omega,λp h=>by
  simp only[zU,yF,xE]at h;rcases h with rfl|rfl
  .exact hs.v
  .exact a⟩
 have HO:=Pb _ P;have o:=o6 [sd,eC (path++[t])];have x:=x6 [sd,eC (path++[t])];have e:ze sd path t=lA (FT 8 [sd,eC (path++[t])]) 6:=rfl;rw[e];clear e;generalize FT 8 [sd,eC (path++[t])]=H at *;unfold Kr at HO;refine ap func244 ntmps244 λE=>?_
 repeat' first|refine jP ?_|intro b;conv=>whnf
 refine Ap.go rfl rfl rfl rfl (ab.e0 _ _ (some ⟨b,0,none⟩)) (bR _) (FY path) (zs:=path.map λn=>[iD n]) rfl (by simp;omega) (by simp;omega) (λs=>s) dF (λD C y g=>?_)
 repeat' first|refine jP ?_|intro b;conv=>whnf
 refine Ap.frz rfl rfl rfl rfl g (bR _) rfl (zs:=(path++[t]).map λn=>[iD n]) (by rw[yB];rfl) (by simp;omega) (by simp;omega) ?_
 repeat' first|refine jP ?_|intro b;conv=>whnf
 refine Ot.yd (Ay (l:=eC (path++[t])) rfl rfl a underlying147 underlying5 underlying9) ?_
 repeat' first|refine jP ?_|intro b;conv=>whnf
 refine Sv.perm (tb:=351) (cs':=(List.range 16).map λi=>yD (H.getD i 0)) (zH _) rfl (by decide) rfl rfl ?_
 repeat' first|refine jP ?_|intro b;conv=>whnf
 refine aO mixed ai (γ:=Nat) (λi=>[(10,iD i),(9,iD ((lA H i:Nat):Int))]) (λ_=>[(b,.cells 351 ((List.range 16).map λi=>yD (H.getD i 0)))]) (λi=>i<=6) (λi=>6-i) 0 (ah av) (Sc.refl _) (by decide) ?_;intro i hi;by_cases hi6:i<6
 .have hx:H[i]?=some (H.getD i 0):=by rw[List.getD_eq_getElem?_getD,zD (by omega)];rfl
  have r:((List.range 16).map λi=>yD (H.getD i 0))[i]?=some (yD (H.getD i 0)):=by rw[qA,xV (by omega)];rfl
  have u:=vi hx;have hb:lA H i<1099511627776:=yI (ly H o i) (Nat.pow_le_pow_right (by decide) (by omega:i<=5));have z:=o i
  repeat' first|refine jP ?_|intro b;conv=>whnf
  refine Ot.yd (iE ai (m:=i) (q:=i) rfl rfl rfl rfl rfl ?hq1 ?hq2 (xD _)) ?_;(case hq1=>omega);(case hq2=>omega);repeat'(first|refine jP ?_|intro b;conv=>whnf)
  refine Ld.cellm (tb:=351) (List.Mem.head _) r ?_
  repeat' first|refine jP ?_|intro b;conv=>whnf
  refine Ot.yd (y4 (m:=((H.getD i 0:Nat):Int)) rfl rfl underlying5 underlying3 (aX9 ⟨by omega,by omega⟩)) ?_
  repeat' first|refine jP ?_|intro b;conv=>whnf
  exact⟨i+1,(ah av),Sc.refl _,by omega,by omega⟩
 .obtain rfl:i=6:=by omega
  repeat' first|refine jP ?_|intro b;conv=>whnf
  exact Rt.pure rfl
end
section
open Go
def JK(n:Int):Int:=281474976710656-(281474976710656:Int).tmod n
def pQ(sd:List Nat)(p:List Int)(n:Int):Prop:=(n≠0 /\ -1099511627776<=n/\n<=1099511627776)/\((ze sd p 0:Nat):Int)<JK n
def ej(sd:List Nat)(p:List Int)(n:Int):Int:=((ze sd p 0:Nat):Int).tmod n
def lx(sd:List Nat)(p:List Int)(t:Int):ze sd p t<281474976710656:=ly _ (o6 _) 6
def AY{a n:Int}(b:0<=a)(h:n≠0)(c:-1099511627776<=n/\n<=1099511627776):0<=a.tmod n/\a.tmod n<1099511627776:=by
 refine⟨Int.tmod_nonneg _ b,?_⟩;by_cases h1:0<n
 .have:=Int.tmod_lt_of_pos a h1;omega
 .have d:a.tmod n=a.tmod (-n):=by rw[Int.tmod_neg]
  have:=Int.tmod_lt_of_pos a (show 0 < -n by omega);omega
def Gz{sd:List Nat}{p:List Int}{n:Int}(h:0<n):0<=ej sd p n/\ej sd p n<n:=
 ⟨Int.tmod_nonneg _ (by omega),Int.tmod_lt_of_pos _ h⟩
variable{A B:Prop}
def OS(k:B)(h:ar B->A:=by intro q7;(first|refine bh ?_|refine aE ?_|(refine' aj ?hc ?_;(case hc=>exact tF sd hs p hp 0 ⟨by decide,by decide⟩)));exact q7.1):A:=h ⟨k⟩
def Ss(sd:List Nat)(hs:gF sd)(p:List Int)(hp:zn p)(n:Int)(h:pQ sd p n):APure prog 201 [dr sd,bv p,iD n] (iD (ej sd p n)):=by
 obtain⟨h0,h1⟩:=h;have w:=lx sd p 0;have ht:=AY (a:=281474976710656) (by decide) h0.1 h0.2;unfold JK at h1;refine ap func201 ntmps201 λb=>?_
 repeat refine OS ?_
 refine aO mixed ai (γ:=Unit) (λ_=>[(9,iD 0)]) (λ_=>[]) (λ_=>True) (λ_=>0) () (ah aJ) (Sc.refl _) trivial ?_;rintro - -
 repeat refine OS ?_
 refine Rt.pure (zM iD ?_)
 rfl
def oa(sd:List Nat)(hs:gF sd)(p:List Int)(hp:p.length<=8):APure prog 202 [dr sd,bv p] (bD true):=by
 have z:=lq sd;have h1:=hs.n;refine ap func202 ntmps202 λa=>?_
 repeat refine OS ?_
 refine Rt.pure (zM bD ?_);simp;omega
def gA(sd:List Nat)(p:List Int)(lo h:Int):Int:=lo+ej sd p (h-lo+1)
structure Od(a b:Int):Prop where
 lo:-1099511627776<=a
 hi:b<=1099511627776
 le:a<=b
 small:b-a<1099511627776
def bp8(k:B)(h:ar B->A:=by intro q7;(first|refine bh ?_|refine aE ?_|(refine' aj ?hc ?_;(case hc=>first|exact HV|exact HB)));exact q7.1):A:=h ⟨k⟩
def aI2(sd:List Nat)(hs:gF sd)(p:List Int)(b:p.length<=8)(i:∀v∈p,cp v)(lo hi:Int)(h:Od lo hi)(a:pQ sd p (hi-lo+1)):APure prog 156 [dr sd,bv p,iD lo,iD hi] (.tup [iD (gA sd p lo hi),iD 0]):=by
 have P:zn p:=⟨by omega,i⟩
 have h1:=h.lo;have h2:=h.hi;have h3:=h.le;have h4:=h.small;have hb:=Gz (sd:=sd) (p:=p) (n:=hi-lo+1) (by omega);have HV:=oa sd hs p (by omega);have HB:=Ss sd hs p P _ a;unfold gA;refine ap func156 ntmps156 λe=>?_
 repeat refine bp8 ?_
 exact Rt.pure rfl
def bE9(k:B)(h:ar B->A:=by intro q7;(first|refine bh ?_|refine aE ?_|(refine' aj ?hc ?_;(case hc=>exact HV)));exact q7.1):A:=h ⟨k⟩
def sn{p:Nat->Prop}{k:Nat}(h:p k):∃q,q<=k/\p q/\∀j,j<q->¬p j:=by
 induction k using Nat.strongRecOn with
 |ind k i=>
  by_cases hj:∃j,j<k/\p j
  .obtain⟨j,b,a⟩:=hj;obtain⟨q,d,c,g⟩:=i j b a;exact⟨q,by omega,c,g⟩
  .exact⟨k,zT _,h,λj b a=>hj ⟨j,b,a⟩⟩
variable{l:List Int}
def aO9{i:Nat}{y:Int}(h:l[i]?=some y):(l.take (i+1)).sum=(l.take i).sum+y:=by
 rw[xC,h];simp
def Qh{p:Prop}(h:p:=by
 induction l with
 |nil=>simp
 |cons a l ih=>
  have h1:=h a yN;have h2:=ih λw hw=>h w (yQ _ hw);rw[List.sum_cons,List.length_cons];omega):p:=h
def Ie(h:∀w∈l,0<=w/\w<=1048576):0<=l.sum/\l.sum<=1048576*(l.length:Int):=Qh
structure F8(l:List Int):Prop where
 n:l.length<=12
 v:∀w∈l,0<=w/\w<=1048576
 pos:0<l.sum
def F8.pre(h:F8 l)(i:Nat):0<=(l.take i).sum/\(l.take i).sum<=12582912:=by
 have c:=Ie (l:=l.take i) (λw a=>h.v w (xG a));have b:(l.take i).length<=l.length:=by rw[zR];omega
 have:=h.n;omega
def qz(l:List Int)(h:F8 l):APure prog 203 [bv l] (iD l.sum):=by
 have e:=h.n;have b:=h.pos;refine ap func203 ntmps203 λf=>?_
 repeat refine aV ?_
 refine aO mixed ai (γ:=Nat) (λi=>[(3,iD (l.take i).sum),(4,iD i)]) (λ_=>[]) (λi=>i<=l.length) (λi=>l.length-i) 0 (ah av) (Sc.refl _) (zW _) ?_;intro i hi;by_cases hil:i<l.length
 .obtain⟨y,a⟩:∃y,l[i]?=some y:=⟨_,zD hil⟩
  have hy:l[((i:Nat):Int).toNat]?=some y:=a;have v:=h.v y (zG a);have hb:=h.pre i;have hs:=aO9 a
  repeat refine aV ?_
  exact⟨i+1,(ah av),Sc.refl _,by omega,by omega⟩
 .obtain rfl:i=l.length:=by omega
  rw[yM]
  repeat refine aV ?_
  refine Rt.pure (zM iD ?_)
  rfl
def OR(k:B)(h:ar B->A:=by intro q7;(first|refine bh ?_|refine aE ?_|(refine' aj ?hc ?_;(case hc=>first|exact HV|exact HB|exact HW)));exact q7.1):A:=h ⟨k⟩
def IN(sd:List Nat)(hs:gF sd)(p:List Int)(r:p.length<=8)(f:∀v∈p,cp v)(l:List Int)(h:F8 l)(u:pQ sd p l.sum):∃v:Nat,v<l.length/\APure prog 152 [dr sd,bv p,bv l] (.tup [iD v,iD 0]):=by
 have z:=h.n;have s:=h.pos;have hb:=Gz (sd:=sd) (p:=p) h.pos;have HV:=oa sd hs p r;have HB:=Ss sd hs p ⟨by omega,f⟩ _ u;have HW:=qz l h;generalize ej sd p l.sum=x at *;obtain⟨v,o,(j:x<(l.take (v+1)).sum),e⟩:=sn (p:=λk=>x<(l.take (k+1)).sum) (k:=l.length-1) (by
  have h1:0<l.length:=by
   cases l with
   |nil=>simp at s
   |cons=>simp
  show x<(l.take (l.length-1+1)).sum;rw[show l.length-1+1=l.length by omega,yM];exact hb.2)
 have b:v<l.length:=by
  have h1:0<l.length:=by
   cases l with
   |nil=>simp at s
   |cons=>simp
  omega
 refine⟨v,b,?_⟩;refine ap func152 ntmps152 λC=>?_
 repeat refine OR ?_
 refine aO mixed ai (γ:=Nat) (λi=>[(10,iD (l.take i).sum),(11,iD i)]) (λ_=>[]) (λi=>i<=v) (λi=>v-i) 0 (ah av) (Sc.refl _) (zW _) ?_;intro i hi;obtain⟨y,a⟩:∃y,l[i]?=some y:=⟨_,zD (by omega)⟩
 have hy:l[((i:Nat):Int).toNat]?=some y:=a;have g:=h.v y (zG a);have w:=h.pre i;have q:=aO9 a;by_cases hiv:i<v
 .have t:=e i hiv
  repeat refine OR ?_
  exact⟨i+1,(ah av),Sc.refl _,by omega,by omega⟩
 .obtain rfl:i=v:=by omega
  repeat refine OR ?_
  exact Rt.pure rfl
end
section
def CS:∀(N:Nat)(g:Nat->Nat),(∀i,i<=N->g i<N)->∃i j,i<j/\j<=N/\g i=g j
 |0,g,h=>absurd (h 0 (zT 0)) (by omega)
 |N+1,g,h=>by
  by_cases hx:∃i,i<N+1/\g i=g (N+1)
  .obtain⟨i,d,e⟩:=hx;exact⟨i,N+1,d,zT _,e⟩
  .have c:∀i,i<N+1->g i≠g (N+1):=λi d e=>hx ⟨i,d,e⟩;have m:=h (N+1) (zT _);obtain⟨i,j,k,l,f⟩:=CS N (λi=>if g i<g (N+1)then g i else g i-1) (λi d=>by
    have k:=h i (by omega);have l:=c i (by omega)
    show(if g i<g (N+1)then g i else g i-1)<N;split<;>omega)
   refine⟨i,j,k,by omega,?_⟩;have a:=c i (by omega);have b:=c j (by omega);split at f<;>split at f<;>omega
def sy(f:Nat->Nat):Nat->Nat->Nat
 |0,x=>x
 |k+1,x=>f (sy f k x)
def xx(f:Nat->Nat)(a:Nat):∀(b x:Nat),sy f (a+b) x=sy f a (sy f b x):=by
 induction a with
 |zero=>intro b x;rw[xD];rfl
 |succ a i=>intro b x;rw[Nat.add_right_comm,sy,i];rfl
def Sr{f:Nat->Nat}{N:Nat}(h:∀x,x<N->f x<N){x:Nat}(hx:x<N):∀k,sy f k x<N
 |0=>hx
 |k+1=>h _ (Sr h hx k)
def kO{f:Nat->Nat}{N:Nat}(a:∀x,x<N->f x<N)(i:∀x y,x<N->y<N->f x=f y->x=y):∀(k:Nat){x y:Nat},x<N->y<N->sy f k x=sy f k y->x=y
 |0,x,y,_,_,h=>h
 |k+1,x,y,hx,b,h=>kO a i k hx b (i _ _ (Sr a hx k) (Sr a b k) h)
variable{x:Nat}
def rP{f:Nat->Nat}{N:Nat}(h:∀x,x<N->f x<N)(b:∀x y,x<N->y<N->f x=f y->x=y)(hx:x<N):∃k,0<k/\k<=N/\sy f k x=x:=by
 obtain⟨i,j,d,c,a⟩:=CS N (λi=>sy f i x) (λi _=>Sr h hx i);refine⟨j-i,by omega,by omega,?_⟩;have e:j=i+(j-i):=by omega
 rw[e,xx]at a;exact(kO h b i hx (Sr h hx _) a).symm
def ID(f:Nat->Nat)(p:Nat×Nat):Nat×Nat:=(p.2,p.1 ^^^ f p.2)
def BU(f:Nat->Nat){p q:Nat×Nat}(h:ID f p=ID f q):p=q:=by
 obtain⟨a,b⟩:=p;obtain⟨c,d⟩:=q;simp only[ID,vY]at h;obtain⟨rfl,h⟩:=h;have:a=c:=by
  have e:=zM (λz=>z ^^^ f b) h;simp only[Nat.xor_assoc,Nat.xor_self,Nat.xor_zero]at e;exact e
 rw[this]
def iO(F:Nat->Nat->Nat):Nat->Nat×Nat->Nat×Nat
 |0,p=>p
 |k+1,p=>ID (F k) (iO F k p)
def bg2(F:Nat->Nat->Nat):∀(k:Nat){p q:Nat×Nat},iO F k p=iO F k q->p=q
 |0,_,_,h=>h
 |k+1,_,_,h=>bg2 F k (BU _ h)
def aE5{F:Nat->Nat->Nat}{j:Nat}(d:∀k r,F k r<2 ^ j):∀(k:Nat){p:Nat×Nat},p.1<2 ^ j->p.2<2 ^ j->(iO F k p).1<2 ^ j/\(iO F k p).2<2 ^ j
 |0,_,c,h=>⟨c,h⟩
 |k+1,_,c,h=>by
  obtain⟨a,b⟩:=aE5 d k c h;exact⟨b,Nat.xor_lt_two_pow a (d _ _)⟩
def oD(F:Nat->Nat->Nat)(b x:Nat):Nat:=(iO F 4 (x/b,x%b)).1*b+(iO F 4 (x/b,x%b)).2
variable{j:Nat}{F:Nat->Nat->Nat}
def JA(a:∀k r,F k r<2 ^ j)(hx:x<2 ^ j*2 ^ j):oD F (2 ^ j) x<2 ^ j*2 ^ j:=by
 have h:0<2 ^ j:=Nat.pow_pos (by decide);obtain⟨b,c⟩:=aE5 a 4 (p:=(x/2 ^ j,x%2 ^ j)) (Nat.div_lt_of_lt_mul hx) (vM _ h);unfold oD
 calc _<(iO F 4 (x/2 ^ j,x%2 ^ j)).1*2 ^ j+2 ^ j:=by omega
  _=((iO F 4 (x/2 ^ j,x%2 ^ j)).1+1)*2 ^ j:=by rw[vC,Nat.one_mul]
  _<=2 ^ j*2 ^ j:=xZ _ b
def DG(b:∀k r,F k r<2 ^ j){y:Nat}(hx:x<2 ^ j*2 ^ j)(d:y<2 ^ j*2 ^ j)(h:oD F (2 ^ j) x=oD F (2 ^ j) y):x=y:=by
 have a:0<2 ^ j:=Nat.pow_pos (by decide);obtain⟨m,g⟩:=aE5 b 4 (p:=(x/2 ^ j,x%2 ^ j)) (Nat.div_lt_of_lt_mul hx) (vM _ a);obtain⟨l,f⟩:=aE5 b 4 (p:=(y/2 ^ j,y%2 ^ j)) (Nat.div_lt_of_lt_mul d) (vM _ a);unfold oD at h;have c:(iO F 4 (x/2 ^ j,x%2 ^ j)).2=(iO F 4 (y/2 ^ j,y%2 ^ j)).2:=by
  have:=zM (λz=>z%2 ^ j) h;simp only[Nat.mul_add_mod_self_right,wO g,wO f]at this;exact this
 have i:(iO F 4 (x/2 ^ j,x%2 ^ j)).1=(iO F 4 (y/2 ^ j,y%2 ^ j)).1:=by
  rw[c]at h;exact Nat.eq_of_mul_eq_mul_right a (Nat.add_right_cancel h)
 have e:=bg2 F 4 (Prod.ext i c);simp only[vY]at e;rw[←Nat.div_add_mod x (2 ^ j),←Nat.div_add_mod y (2 ^ j),e.1,e.2]
def G9(a b i:Nat):(a ^^^ b)%2 ^ (i+1)=(a ^^^ b)%2 ^ i+(if a/2 ^ i%2=b/2 ^ i%2 then 0 else 2 ^ i):=by
 rw[Nat.mod_pow_succ]
 congr 1
 have h:(a ^^^ b)/2 ^ i%2=(if a/2 ^ i%2=b/2 ^ i%2 then 0 else 1):=by
  have e:=Nat.testBit_xor a b i;rw[Nat.testBit_eq_decide_div_mod_eq,Nat.testBit_eq_decide_div_mod_eq,Nat.testBit_eq_decide_div_mod_eq]at e;have d:=Nat.mod_two_eq_zero_or_one ((a ^^^ b)/2 ^ i);have c:=Nat.mod_two_eq_zero_or_one (a/2 ^ i);have m:=Nat.mod_two_eq_zero_or_one (b/2 ^ i);rcases d with d|d<;>rcases c with c|c<;>rcases m with m|m<;>rw[d,c,m]at e⊢ <;> first|rfl|(simp at e)
 rw[h];split<;>simp
def G8{a b i:Nat}(d:a/2 ^ i=0)(c:b/2 ^ i=0):(a ^^^ b)%2 ^ i=a ^^^ b:=by
 have p:0<2 ^ i:=Nat.pow_pos (by decide);have f:a<2 ^ i:=by
  rcases Nat.div_eq_zero_iff.1 d with h|h
  .omega
  .exact h
 have e:b<2 ^ i:=by
  rcases Nat.div_eq_zero_iff.1 c with h|h
  .omega
  .exact h
 exact wO (Nat.xor_lt_two_pow f e)
end
end Go.Proofs.YtilnpcolgcmofaaGreatDoor
