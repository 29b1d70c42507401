/- A part of the proof: Lm Lk Lj Li Da Db Py. -/
import Derived.Test.YtilnpcolgcmofaaGreatDoorA12
set_option maxRecDepth 100000
set_option maxHeartbeats 20000000
set_option linter.all false
namespace Go.Proofs.YtilnpcolgcmofaaGreatDoor
open Tryz
section
open Go
def GE(s:S8):P8:=⟨s.a.toNat,s.b.toNat,s.c.toNat,s.d.toNat,s.e.toNat,s.f.toNat,s.g.toNat,s.h.toNat⟩
theorem oy(n:Nat):n &&& eG=n%2 ^ 32:=Nat.and_two_pow_sub_one_eq_mod n 32
theorem Z5(x:cC)(n:Nat):eA eG x.toNat n=(ez x n).toNat:=by
 unfold eA ez;rw[oy,Nat.or_mod_two_pow,BitVec.toNat_or,BitVec.toNat_ushiftRight,BitVec.toNat_shiftLeft,wO (Nat.lt_of_le_of_lt (Nat.shiftRight_le _ _) x.isLt)]
theorem Jy(x:cC)(i j k:Nat):lu eG x.toNat i j k=(fD x i j k).toNat:=by
 unfold lu fD;rw[Z5,Z5,Z5,BitVec.toNat_xor,BitVec.toNat_xor]
theorem Pz(e f g:cC):QQ eG e.toNat f.toNat g.toNat=(Fl e f g).toNat:=by
 unfold QQ Fl;have h:e.toNat ^^^ eG=(~~~e).toNat:=by
  rw[←BitVec.xor_allOnes,BitVec.toNat_xor,BitVec.toNat_allOnes];rfl
 rw[h,BitVec.toNat_xor,BitVec.toNat_and,BitVec.toNat_and]
theorem In(a b c:cC):qs a.toNat b.toNat c.toNat=(vt a b c).toNat:=by
 unfold qs vt;simp only[BitVec.toNat_xor,BitVec.toNat_and]
theorem Nu(s:S8)(k:Nat)(w:cC)(l:List Nat):ux eG 1 k (GE s) (w.toNat::l)=GE (Ty s (BitVec.ofNat 32 k) w):=by
 unfold ux GE Ty aL xL;simp only[Jy,Pz,In,oy,List.headD_cons,Nat.mul_one]
 congr 1
 .simp only[BitVec.toNat_add,BitVec.toNat_ofNat];omega
 .simp only[BitVec.toNat_add,BitVec.toNat_ofNat];omega
theorem XQ{p:Prop}(h:p:=by
 rw[Z5,Z5,oy,BitVec.toNat_xor,BitVec.toNat_xor,BitVec.toNat_ushiftRight,wO (Nat.lt_of_le_of_lt (Nat.shiftRight_le _ _) p.isLt)]):p:=h
theorem AE(p:cC):eA eG p.toNat 7 ^^^ eA eG p.toNat 18 ^^^ (p.toNat >>> 3 &&& eG)=(iu p).toNat:=by
 unfold iu;exact XQ
theorem AD(p:cC):eA eG p.toNat 17 ^^^ eA eG p.toNat 19 ^^^ (p.toNat >>> 10 &&& eG)=(kA p).toNat:=by
 unfold kA;exact XQ
theorem Ov(w p v q:cC):TE eG w.toNat p.toNat v.toNat q.toNat=(w+iu p+v+kA q).toNat:=by
 unfold TE;rw[AE,AD,oy];simp only[BitVec.toNat_add];omega
def dq(b:List Nat)(i:Nat):cC:=(bJ b (i+1)).getD i 0
theorem Zz(b:List Nat){i t:Nat}(h:i<t):(bJ b t).getD i 0=dq b i:=by
 unfold dq;rw[List.getD_eq_getElem?_getD,List.getD_eq_getElem?_getD,mM b h]
theorem Gf(b:List Nat)(t:Nat)(h:16<=t):dq b t=dq b (t-16)+iu (dq b (t-15))+dq b (t-7)+kA (dq b (t-2)):=by
 have e:dq b t=(bJ b t).getD (t-16) 0+iu ((bJ b t).getD (t-15) 0)+(bJ b t).getD (t-7) 0+kA ((bJ b t).getD (t-2) 0):=by
  unfold dq;rw[bJ,List.getD_eq_getElem?_getD,yK (by rw[JL];exact zT _),JL,wH,if_neg (by omega)]
  rfl
 rw[e,Zz b (by omega),Zz b (by omega),Zz b (by omega),Zz b (by omega)]
def rG(b:List Nat)(t:Nat):List Nat:=(List.range 16).map λj=>(dq b (t+j)).toNat
theorem M8(b:List Nat)(t:Nat):F6 eG (rG b t)=rG b (t+1):=by
 have e:rG b t=[(dq b (t+0)).toNat,(dq b (t+1)).toNat,(dq b (t+2)).toNat,(dq b (t+3)).toNat,(dq b (t+4)).toNat,(dq b (t+5)).toNat,(dq b (t+6)).toNat,(dq b (t+7)).toNat,(dq b (t+8)).toNat,(dq b (t+9)).toNat,(dq b (t+10)).toNat,(dq b (t+11)).toNat,(dq b (t+12)).toNat,(dq b (t+13)).toNat,(dq b (t+14)).toNat,(dq b (t+15)).toNat]:=rfl;have a:rG b (t+1)=[(dq b (t+1+0)).toNat,(dq b (t+1+1)).toNat,(dq b (t+1+2)).toNat,(dq b (t+1+3)).toNat,(dq b (t+1+4)).toNat,(dq b (t+1+5)).toNat,(dq b (t+1+6)).toNat,(dq b (t+1+7)).toNat,(dq b (t+1+8)).toNat,(dq b (t+1+9)).toNat,(dq b (t+1+10)).toNat,(dq b (t+1+11)).toNat,(dq b (t+1+12)).toNat,(dq b (t+1+13)).toNat,(dq b (t+1+14)).toNat,(dq b (t+1+15)).toNat]:=rfl;have h:=Gf b (t+16) (by omega);rw[show t+16-16=t by omega,show t+16-15=t+1 by omega,show t+16-7=t+9 by omega,show t+16-2=t+14 by omega]at h;rw[e,a];unfold F6;simp only[List.tail_cons,List.headD_cons,List.getD_cons_succ,List.getD_cons_zero,Ov,List.cons_append,List.nil_append,Nat.add_zero,vQ,Nat.reduceAdd];rw[h]
theorem DF(s:S8)(b:List Nat):∀(n t:Nat),t+n=64->DH eG 1 (eB.drop t) (GE (cZ s b t)) (rG b t)=GE (cZ s b 64)
 |0,t,h=>by
  obtain rfl:t=64:=by omega
  rfl
 |n+1,t,h=>by
  have k:eB.drop t=eB.getD t 0::eB.drop (t+1):=by
   have l:eB.length=64:=rfl;rw[vG (by omega),List.getD_eq_getElem?_getD,zD (by omega)];rfl
  have w:rG b t=(dq b t).toNat::(rG b t).tail:=rfl;have r:cZ s b (t+1)=Ty (cZ s b t) (C5 t) (dq b t):=by rw[cZ,Zz b (by omega)]
  rw[k,ba5,M8,w,Nu,←DF s b n (t+1) (by omega),r]
  rfl
theorem OZ(s:S8)(b:List Nat):DH eG 1 eB (GE s) (rG b 0)=GE (cZ s b 64):=DF s b 64 0 rfl
end
section
open Go
theorem B5(a b:Nat)(f:Nat->Nat):pk (a+b) f=pk a f+2 ^ (64*a)*pk b λi=>f (i+a):=by
 induction a generalizing f with
 |zero=>simp[pk]
 |succ a h=>
  rw[show a+1+b=(a+b)+1 by omega,pk,h,pk,show 64*(a+1)=64+64*a by omega,Nat.pow_add,Nat.mul_add,Nat.mul_assoc];simp only[show ∀i,i+a+1=i+(a+1) from λi=>by omega];omega
def Od:Nat->(Nat->Nat)->Nat
 |0,f=>f 0
 |k+1,f=>eC (Od k f) λp=>p+(Od k λi=>f (i+2 ^ k)) <<< (64*2 ^ k)
theorem kQ(k:Nat)(f:Nat->Nat):Od k f=pk (2 ^ k) f:=by
 induction k generalizing f with
 |zero=>simp[Od,pk]
 |succ k i=>rw[Od,Kq,i,i,Nat.pow_succ,Nat.mul_two,B5,Nat.shiftLeft_eq,Nat.mul_comm]
def i7(i:Nat):Nat:=(97+i/256)%256
def gW(i:Nat):Nat:=i%256
def QO(q i:Nat):Nat:=142672384+i7 (i+q)
def O7(q i:Nat):Nat:=gW (i+q)*16777216
def XF(o:Nat):P8:=⟨0x6a09e667*o,0xbb67ae85*o,0x3c6ef372*o,0xa54ff53a*o,0x510e527f*o,0x9b05688c*o,0x1f83d9ab*o,0x5be0cd19*o⟩
def Ai(m o:Nat)(w:List Nat):Nat:=eC (((DH m o eB (XF o) w).a+0x6a09e667*o) &&& m) λa=>(a+o) >>> 32 &&& o
theorem GD{n m o:Nat}(e:bN n 32 m λ_=>eG)(b:bN n 1 o λ_=>1){w:List Nat}{W:Nat->List Nat}(g:yf n w W)(h:Ai m o w=0)(i:Nat)(l:i<n) :
  ((DH eG 1 eB (GE y9) (W i)).a+0x6a09e667)%2 ^ 32≠eG:=by
 have q:Fc n (XF o) λ_=>GE y9:=⟨bN.const n 32 _ (by decide) b,bN.const n 32 _ (by decide) b,bN.const n 32 _ (by decide) b,bN.const n 32 _ (by decide) b,bN.const n 32 _ (by decide) b,bN.const n 32 _ (by decide) b,bN.const n 32 _ (by decide) b,bN.const n 32 _ (by decide) b⟩
 have p:=bN.go e b eB (λk j=>(by decide:∀k∈eB,k<2 ^ 32) k j) _ _ _ _ q g
 have f:=((p.a.add (bN.const n 32 0x6a09e667 (by decide) b)).and e (by decide) (by decide)).add (b.up (c:=32) (by decide));unfold Ai at h;rw[Kq,f.eq,b.eq,B4 (f.lt64 (by decide)) (λi=>by show 1<2 ^ (64-32);decide)]at h;have d:=HQ h i l;simp only[oy]at d;intro r;rw[r]at d;exact absurd d (by decide)
def iv(n:Nat):List Nat:=if n=0 then[128]else[129,n]
def fm(l:List Nat):List Nat:=129::(2+(l.flatMap iv).length+1)::129::(l.length+1)::(l.flatMap iv++[128])
def et(a b:Nat)(l:List Nat):List Nat:=[8,129,2,a,b]++(fm l++cx (5+(fm l).length))
def w4(b:List Nat)(j:Nat):Nat:=(((b.getD (4*j) 0*256+b.getD (4*j+1) 0)*256+b.getD (4*j+2) 0)*256+b.getD (4*j+3) 0)%2 ^ 32
def k6(o w0 s:Nat)(b:List Nat):List Nat:=w0::(s+w4 b 1*o)::(List.range 14).map λj=>w4 b (j+2)*o
theorem aM4(x:cC)(d:Nat):(rt x d).toNat=(x.toNat*256+d%256)%2 ^ 32\/¬d<256:=by
 by_cases h:d<256
 .left;unfold rt;rw[BitVec.toNat_or,BitVec.toNat_shiftLeft,BitVec.toNat_ofNat,wO (show d<2 ^ 32 by omega),wO h,Nat.shiftLeft_eq];have e:x.toNat*2 ^ 8%2 ^ 32=2 ^ 8*(x.toNat%2 ^ 24):=by omega
  rw[e,←Nat.two_pow_add_eq_or_of_lt (by omega)];omega
 .exact .inr h
theorem uc{a b c d:Nat}(i:a<256)(g:b<256)(f:c<256)(e:d<256):(jC a b c d).toNat=((a*256+b)*256+c)*256+d:=by
 unfold jC;rw[(aM4 _ d).resolve_right (λh=>h e),(aM4 _ c).resolve_right (λh=>h f),(aM4 _ b).resolve_right (λh=>h g),(aM4 _ a).resolve_right (λh=>h i)];have e0:(0:cC).toNat=0:=rfl;rw[e0];omega
theorem M'{b:List Nat}(c:∀d∈b,d<256){j:Nat}(a:j<16):(dq b j).toNat=w4 b j:=by
 have g:∀i,b.getD i 0<256:=λi=>by
  rw[List.getD_eq_getElem?_getD]
  cases h:b[i]? with
  |none=>simp
  |some d=>exact c d (zG h)
 unfold dq w4;rw[bJ,List.getD_eq_getElem?_getD,yK (by rw[JL];exact zT _),JL,wH,if_pos a];simp only[List.getElem?_cons_zero,Option.getD_some];have l:=g (4*j);have k:=g (4*j+1);have f:=g (4*j+2);have e:=g (4*j+3);rw[uc l k f e];omega
theorem Nz{n:Nat}(h:n<256):∀d∈iv n,d<256:=by
 unfold iv;split
 .simp
 .simp;exact h
structure E'(l:List Nat):Prop where
 lt:∀n∈l,n<256
 len:(fm l).length<=50
def yF:=@List.not_mem_nil
def xE:=@or_false
theorem Cc{l:List Nat}(h:E' l):∀d∈fm l,d<256:=by
 have g:=h.len;have f:(l.flatMap iv).length+5=(fm l).length:=by simp[fm]
 have j:l.length<=(l.flatMap iv).length:=by
  clear h g f
  induction l with
  |nil=>simp
  |cons a l i=>
   rw[List.flatMap_cons,zI,List.length_cons];have:1<=(iv a).length:=by unfold iv;split<;>simp
   omega
 intro d b;unfold fm at b;simp only[zU,zO,yF,xE]at b;rcases b with rfl|rfl|rfl|rfl|b|rfl
 .omega
 .omega
 .omega
 .omega
 .obtain⟨n,c,e⟩:=List.mem_flatMap.1 b;exact Nz (h.lt n c) d e
 .omega
theorem aF8{a b:Nat}{l:List Nat}(h:E' l)(f:a<256)(e:b<256):∀d∈et a b l,d<256:=by
 intro d c;unfold et at c;rcases zO.1 c with c|c
 .simp only[zU,yF,xE]at c;omega
 .rcases zO.1 c with c|c
  .exact Cc h d c
  .unfold cx at c;simp only[zU,zO]at c;rcases c with rfl|c|c
   .omega
   .rw[(List.mem_replicate.1 c).2];omega
   .exact lj _ _ d c
theorem aV3(a b:Nat){l:List Nat}(h:E' l):(et a b l).length=64:=by
 have c:=h.len;unfold et;rw[zI,zI,aY8];simp only[List.length_cons,List.length_nil];unfold gY;omega
def Pv(m o w0 s:Nat)(l:List Nat):Bool:=Nat.beq (Ai m o (k6 o w0 s (et 0 0 l))) 0
theorem RH(b:List Nat)(j:Nat):w4 b j<2 ^ 32:=vM _ (by decide)
theorem F9{b:List Nat}(a:∀d∈b,d<256)(j:Nat)(h:j<16):(rG b 0).getD j 0=w4 b j:=by
 rw[rG,List.getD_eq_getElem?_getD,qA,xV h,Option.map_some,Option.getD_some,xD,M' a h]
theorem Jm{n q m o w0 s:Nat}(A:bN n 32 m λ_=>eG)(p:bN n 1 o λ_=>1)(I:bN n 32 w0 (QO q))(y:bN n 32 s (O7 q)){l:List Nat}(r:E' l)(h:Pv m o w0 s l=true)(i:Nat)(B:i<n) :
  (FB y9 (et (i7 (i+q)) (gW (i+q)) l)).a.toNat≠eG:=by
 have D:∀i,∀d∈et (i7 (i+q)) (gW (i+q)) l,d<256:=λi=>aF8 r (by unfold i7;omega) (by unfold gW;omega);have z:yf n (k6 o w0 s (et 0 0 l)) λi=>rG (et (i7 (i+q)) (gW (i+q)) l) 0:=by
  refine⟨by simp[k6],λi=>by simp[rG],λj=>?_⟩;by_cases hj:j<16
  .simp only[F9 (D _) j hj];rcases j with _|j
   .have e:(λi=>w4 (et (i7 (i+q)) (gW (i+q)) l) 0)=QO q:=by
     funext i
     have:i7 (i+q)<256:=by unfold i7;omega
     simp only[w4,et,QO,Nat.mul_zero,xD,List.cons_append,List.getD_cons_zero,List.getD_cons_succ];omega
    rw[e];exact I
   rcases j with _|j
   .have t:w4 (et 0 0 l) 1<2 ^ 24:=by
     have c:∀k,(et 0 0 l).getD k 0<256:=λk=>by
      rw[List.getD_eq_getElem?_getD]
      cases h:(et 0 0 l)[k]? with
      |none=>simp
      |some d=>exact aF8 r (by decide) (by decide) d (zG h)
     have J:(et 0 0 l).getD (4*1) 0=0:=rfl;unfold w4;rw[J];have H:=c (4*1+1);have G:=c (4*1+2);have F:=c (4*1+3);omega
    have L:=y.lt;have e:(λi=>w4 (et (i7 (i+q)) (gW (i+q)) l) (0+1))=λi=>O7 q i+w4 (et 0 0 l) 1:=by
     funext i
     have c:gW (i+q)<256:=by unfold gW;omega
     have x:w4 (et (i7 (i+q)) (gW (i+q)) l) (0+1)=(((gW (i+q)*256+(fm l++cx (5+(fm l).length)).getD 0 0)*256+(fm l++cx (5+(fm l).length)).getD 1 0)*256+(fm l++cx (5+(fm l).length)).getD 2 0)%2 ^ 32:=rfl;have w:w4 (et 0 0 l) 1=(((0*256+(fm l++cx (5+(fm l).length)).getD 0 0)*256+(fm l++cx (5+(fm l).length)).getD 1 0)*256+(fm l++cx (5+(fm l).length)).getD 2 0)%2 ^ 32:=rfl;have v:∀k,(fm l++cx (5+(fm l).length)).getD k 0<256:=λk=>by
      have:=λd C=>aF8 r (a:=0) (b:=0) (by decide) (by decide) d (yW _ C);rw[List.getD_eq_getElem?_getD]
      cases h:(fm l++cx (5+(fm l).length))[k]? with
      |none=>simp
      |some d=>exact this d (zG h)
     have H:=v 0;have G:=v 1;have F:=v 2;rw[x,w];unfold O7;omega
    rw[e];have g:=y.add ((bN.const n 32 _ (Nat.lt_trans t (by decide)) p));refine⟨g.eq,λi=>?_⟩;have c:gW (i+q)<256:=by unfold gW;omega
    unfold O7;omega
   .have e:(λi=>w4 (et (i7 (i+q)) (gW (i+q)) l) (j+1+1))=λ_=>w4 (et 0 0 l) (j+2):=by
     funext i
     unfold w4;have f:∀k,5<=k->(et (i7 (i+q)) (gW (i+q)) l).getD k 0=(et 0 0 l).getD k 0:=λk u=>by
      obtain⟨q,rfl⟩:∃q,k=q+5:=⟨k-5,by omega⟩
      rfl
     rw[f _ (by omega),f _ (by omega),f _ (by omega),f _ (by omega)]
    rw[e];have K:(k6 o w0 s (et 0 0 l)).getD (j+1+1) 0=w4 (et 0 0 l) (j+2)*o:=by
     unfold k6;rw[List.getD_cons_succ,List.getD_cons_succ,List.getD_eq_getElem?_getD,qA,xV (by omega)]
     rfl
    rw[K];exact bN.const n 32 _ (RH _ _) p
  .have x:(k6 o w0 s (et 0 0 l)).getD j 0=0:=by
    rw[List.getD_eq_getElem?_getD,yY.2 (by simp[k6];omega)];rfl
   have w:∀b,(rG b 0).getD j 0=0:=λb=>by
    rw[List.getD_eq_getElem?_getD,yY.2 (by simp[rG];omega)];rfl
   simp only[x,w];refine⟨?_,λi=>by decide⟩;have:=Qb n 0 λ_=>0
   simpa using this
 have u:=GD A p z (yH h) i B;rw[OZ]at u;unfold FB S8.add;rw[BitVec.toNat_add];intro E;apply u;rw[←E]
 show((cZ y9 _ 64).a.toNat+0x6a09e667)%2 ^ 32=(0x6a09e667+(cZ y9 _ 64).a.toNat)%2 ^ 32;rw[Nat.add_comm]
end
section
open Go
theorem aL3{n:Nat}{f g:Nat->Nat}(h:∀i,i<n->f i=g i):pk n f=pk n g:=by
 induction n generalizing f g with
 |zero=>rfl
 |succ n a=>rw[pk,pk,h 0 (by omega),a λi b=>h (i+1) (by omega)]
theorem ZN(p n:Nat)(h:n<=32):(p |||p <<< 32) >>> n=p >>> n |||p <<< (32-n):=by
 rw[Nat.shiftRight_or_distrib]
 congr 1
 have e:32=(32-n)+n:=by omega
 rw[show p <<< 32=p <<< ((32-n)+n) by rw[←e],Nat.shiftLeft_add,Nat.shiftLeft_shiftRight]
theorem tA(m p i j k:Nat)(b:i<=32)(a:j<=32)(h:k<=32):((p |||p <<< 32) >>> i ^^^ (p |||p <<< 32) >>> j ^^^ (p |||p <<< 32) >>> k) &&& m=lu m p i j k:=by
 rw[ZN p i b,ZN p j a,ZN p k h,Nat.and_xor_distrib_right,Nat.and_xor_distrib_right];rfl
theorem AF(m p i j k:Nat)(a:i<=32)(h:j<=32):((p |||p <<< 32) >>> i ^^^ (p |||p <<< 32) >>> j ^^^ p >>> k) &&& m=(eA m p i ^^^ eA m p j ^^^ (p >>> k &&& m)):=by
 rw[ZN p i a,ZN p j h,Nat.and_xor_distrib_right,Nat.and_xor_distrib_right];rfl
theorem Io(a b c:Nat):(a &&& b) ^^^ (c &&& (a ^^^ b))=qs a b c:=by
 unfold qs;rw[Nat.and_xor_distrib_left,Nat.and_comm c a,Nat.and_comm c b,Nat.xor_assoc]
noncomputable def goR (m o:Nat) (l:List Nat):Nat->Nat->Nat->Nat->Nat->Nat->Nat->Nat->Nat->Nat->Nat->Nat->Nat->Nat->Nat->Nat->Nat->Nat->Nat->Nat->Nat->Nat->Nat->Nat->Nat:=
 List.rec (motive:=λ_=>Nat->Nat->Nat->Nat->Nat->Nat->Nat->Nat->Nat->Nat->Nat->Nat->Nat->Nat->Nat->Nat->Nat->Nat->Nat->Nat->Nat->Nat->Nat->Nat->Nat) (λa _ _ _ _ _ _ _ _ _ _ _ _ _ _ _ _ _ _ _ _ _ _ _=>a)
  (λk _ J a b c d e f g h v i F E w4 D C B A u r q p n w j=>eC (Nat.lor e (Nat.shiftLeft e 32)) λs=>eC (Nat.add (Nat.add (Nat.add (Nat.add h (Nat.land (Nat.xor (Nat.xor (Nat.shiftRight s 6) (Nat.shiftRight s 11)) (Nat.shiftRight s 25)) m)) (Nat.xor (Nat.land e f) (Nat.land (Nat.xor e m) g))) (Nat.mul k o)) v) λx=>eC (Nat.lor a (Nat.shiftLeft a 32)) λt=>eC (Nat.land (Nat.add (Nat.add x (Nat.land (Nat.xor (Nat.xor (Nat.shiftRight t 2) (Nat.shiftRight t 13)) (Nat.shiftRight t 22)) m)) (Nat.xor (Nat.land a b) (Nat.land c (Nat.xor a b)))) m) λI=>eC (Nat.land (Nat.add d x) m) λH=>eC (Nat.lor i (Nat.shiftLeft i 32)) λz=>eC (Nat.lor w (Nat.shiftLeft w 32)) λy=>eC (Nat.land (Nat.add (Nat.add (Nat.add v (Nat.land (Nat.xor (Nat.xor (Nat.shiftRight z 7) (Nat.shiftRight z 18)) (Nat.shiftRight i 3)) m)) u) (Nat.land (Nat.xor (Nat.xor (Nat.shiftRight y 17) (Nat.shiftRight y 19)) (Nat.shiftRight w 10)) m)) m) λG=>J I a b c H e f g i F E w4 D C B A u r q p n w j G) l
theorem DG(m o:Nat):∀(l:List Nat)(a b c d e f g h t r B A w4 z y v u s q p n j w i:Nat),goR m o l a b c d e f g h t r B A w4 z y v u s q p n j w i=(DH m o l ⟨a,b,c,d,e,f,g,h⟩ [t,r,B,A,w4,z,y,v,u,s,q,p,n,j,w,i]).a
 |[],_,_,_,_,_,_,_,_,_,_,_,_,_,_,_,_,_,_,_,_,_,_,_,_=>rfl
 |k::l,a,b,c,d,e,f,g,h,t,r,B,A,w4,z,y,v,u,s,q,p,n,j,w,i=>by
  rw[ba5];have O:goR m o (k::l) a b c d e f g h t r B A w4 z y v u s q p n j w i=eC (Nat.lor e (Nat.shiftLeft e 32)) λC=>eC (Nat.add (Nat.add (Nat.add (Nat.add h (Nat.land (Nat.xor (Nat.xor (Nat.shiftRight C 6) (Nat.shiftRight C 11)) (Nat.shiftRight C 25)) m)) (Nat.xor (Nat.land e f) (Nat.land (Nat.xor e m) g))) (Nat.mul k o)) t) λx=>eC (Nat.lor a (Nat.shiftLeft a 32)) λD=>eC (Nat.land (Nat.add (Nat.add x (Nat.land (Nat.xor (Nat.xor (Nat.shiftRight D 2) (Nat.shiftRight D 13)) (Nat.shiftRight D 22)) m)) (Nat.xor (Nat.land a b) (Nat.land c (Nat.xor a b)))) m) λI=>eC (Nat.land (Nat.add d x) m) λH=>eC (Nat.lor r (Nat.shiftLeft r 32)) λF=>eC (Nat.lor w (Nat.shiftLeft w 32)) λE=>eC (Nat.land (Nat.add (Nat.add (Nat.add t (Nat.land (Nat.xor (Nat.xor (Nat.shiftRight F 7) (Nat.shiftRight F 18)) (Nat.shiftRight r 3)) m)) s) (Nat.land (Nat.xor (Nat.xor (Nat.shiftRight E 17) (Nat.shiftRight E 19)) (Nat.shiftRight w 10)) m)) m) λG=>goR m o l I a b c H e f g r B A w4 z y v u s q p n j w i G:=rfl;rw[O];simp only[Kq];rw[DG m o l];have N:=tA m e 6 11 25 (by decide) (by decide) (by decide);have M:=tA m a 2 13 22 (by decide) (by decide) (by decide);have L:=AF m r 7 18 3 (by decide) (by decide);have K:=AF m w 17 19 10 (by decide) (by decide);have J:=Io a b c;unfold ux F6 aL xL TE QQ;rw[←N,←M,←J];simp only[List.getD_cons_succ,List.getD_cons_zero,List.headD_cons];rw[←L,←K]
  rfl
def wsN:Nat->List Nat->List Nat
 |n+1,a::b::c::d::l=>eC (Nat.add (Nat.mul (Nat.add (Nat.mul (Nat.add (Nat.mul a 256) b) 256) c) 256) d) λw=>w::wsN n l
 |_,_=>[]
theorem zo:∀(n:Nat)(l:List Nat),l.length=4*n->wsN n l=(List.range n).map λj=>((l.getD (4*j) 0*256+l.getD (4*j+1) 0)*256+l.getD (4*j+2) 0)*256+l.getD (4*j+3) 0
 |0,[],_=>rfl
 |n+1,a::b::c::d::l,h=>by
  rw[wsN,Kq,zo n l (by simp at h;omega),List.range_succ_eq_map,List.map_cons,vA]
  rfl
noncomputable def Y8 (m o w0 s:Nat):List Nat->Bool
 |[p,n,l,k,j,i,h,g,f,e,d,c,b,x]=>Nat.beq (eC (Nat.land (Nat.add (goR m o eB (Nat.mul 0x6a09e667 o) (Nat.mul 0xbb67ae85 o) (Nat.mul 0x3c6ef372 o) (Nat.mul 0xa54ff53a o) (Nat.mul 0x510e527f o) (Nat.mul 0x9b05688c o) (Nat.mul 0x1f83d9ab o) (Nat.mul 0x5be0cd19 o) w0 s (Nat.mul p o) (Nat.mul n o) (Nat.mul l o) (Nat.mul k o) (Nat.mul j o) (Nat.mul i o) (Nat.mul h o) (Nat.mul g o) (Nat.mul f o) (Nat.mul e o) (Nat.mul d o) (Nat.mul c o) (Nat.mul b o) (Nat.mul x o)) (Nat.mul 0x6a09e667 o)) m) λa=>Nat.land (Nat.shiftRight (Nat.add a o) 32) o) 0
 |_=>false
theorem Ji(m o w0 s:Nat):∀(l:List Nat),Y8 m o w0 s l=true->Ai m o (w0::s::l.map λx=>x*o)=0
 |[t,r,q,p,n,k,j,i,g,f,e,d,c,b],h=>by
  have a:=yH h;rw[Kq,DG]at a;unfold Ai;rw[Kq];exact a
noncomputable def qR (m o w0 s:Nat):List Nat->Bool
 |a::b::c::l=>Y8 m o w0 (Nat.add s (Nat.mul (Nat.add (Nat.mul (Nat.add (Nat.mul a 256) b) 256) c) o)) (wsN 14 l)
 |_=>false
def Mr(l:List Nat):List Nat:=fm l++cx (5+(fm l).length)
theorem Jj{m o w0 s:Nat}{l:List Nat}(f:E' l)(h:qR m o w0 s (Mr l)=true):Pv m o w0 s l=true:=by
 have e:∀d∈et 0 0 l,d<256:=aF8 f (by decide) (by decide);have n:=aV3 0 0 f;have e0:et 0 0 l=8::129::2::0::0::Mr l:=rfl;rw[e0]at e n;unfold Pv;rw[e0];generalize Mr l=r at *
 match r,h with
 |a::b::c::t,h=>
  have p:t.length=4*14:=by simp at n;omega
  unfold qR at h;have i:=Ji _ _ _ _ _ h;rw[zo 14 t p]at i;have w:a<256:=e a (by simp);have q:b<256:=e b (by simp);have v:c<256:=e c (by simp);have g:∀k,t.getD k 0<256:=λk=>by
   rw[List.getD_eq_getElem?_getD]
   cases h:t[k]? with
   |none=>simp
   |some d=>exact e d (by have:=zG h;simp[this])
  have u:k6 o w0 s (8::129::2::0::0::a::b::c::t)=w0::(s+((a*256+b)*256+c)*o)::((List.range 14).map λj=>((t.getD (4*j) 0*256+t.getD (4*j+1) 0)*256+t.getD (4*j+2) 0)*256+t.getD (4*j+3) 0).map λx=>x*o:=by
   unfold k6;rw[vA]
   congr 2
   .congr 2
    unfold w4;simp only[Nat.mul_one,Nat.reduceAdd,List.getD_cons_succ,List.getD_cons_zero];omega
   .refine List.map_congr_left λj _=>?_;have C:=g (4*j);have B:=g (4*j+1);have A:=g (4*j+2);have y:=g (4*j+3);unfold w4;rw[show 4*(j+2)=4*j+8 by omega];simp only[List.getD_cons_succ,Function.comp_apply]
    congr 1
    omega
  rw[u];exact zM (λz=>Nat.beq z 0) i
def lV(n O I h:Nat):Nat->(Nat->Nat)->Nat
 |0,_=>0
 |r+1,g=>eC (lV n O I h r λj=>g (j+1)) λp=>(g 0*O+h*I)+p <<< (64*n)
theorem qi(n h:Nat)(c:0<n)(r:Nat)(g:Nat->Nat):lV n (pk n λ_=>1) (pk n id) h r g=pk (r*n) λi=>g (i/n)+h*(i%n):=by
 induction r generalizing g with
 |zero=>simp[lV,pk]
 |succ r b=>
  rw[lV,Kq,b,show(r+1)*n=n+r*n by rw[vC,Nat.one_mul,Nat.add_comm],B5,Nat.shiftLeft_eq,Nat.mul_comm (pk _ _) (2 ^ (64*n)),Qb,Qb,B7];have e:(λi=>g ((i+n)/n)+h*((i+n)%n))=λi=>g (i/n+1)+h*(i%n):=by
   funext i
   rw[Nat.add_div_right _ c,Nat.add_mod_right]
  rw[e]
  congr 1
  exact aL3 λi a=>by rw[Nat.div_eq_of_lt a,wO a,Nat.mul_one];rfl
def oL:Nat:=Od 7 λ_=>1
def iL:Nat:=Od 7 id
def O0(c j:Nat):Nat:=142672384+(97+(j+13*c)/2)%256
def DK(c j:Nat):Nat:=(j+13*c)%2*2147483648
noncomputable def ab (p:List (List Nat)):Bool:=eC oL λO=>eC iL λI=>eC (lV 128 O I 0 13 λ_=>1) λo=>eC (Nat.mul eG o) λm=>eC (lV 128 O I 16777216 13 (DK 0)) λa=>eC (lV 128 O I 16777216 13 (DK 1)) λs=>
 eC (lV 128 O I 0 13 (O0 0)) λd=>eC (lV 128 O I 0 13 (O0 1)) λc=>eC (lV 128 O I 0 13 (O0 2)) λb=>eC (lV 128 O I 0 13 (O0 3)) λu=>
 p.all λl=>qR m o d a (Mr l)&&qR m o c s (Mr l)&&qR m o b a (Mr l)&&qR m o u s (Mr l)
theorem Ly(c:Nat):bN 1664 32 (lV 128 oL iL 0 13 (O0 c)) (QO (1664*c))/\bN 1664 32 (lV 128 oL iL 16777216 13 (DK c)) (O7 (1664*c)):=by
 have a:oL=pk 128 λ_=>1:=kQ 7 _;have e:iL=pk 128 id:=kQ 7 _;rw[a,e,qi 128 _ (by decide),qi 128 _ (by decide)];refine⟨⟨aL3 λi _=>?_,λi=>by unfold QO i7;omega⟩,⟨aL3 λi _=>?_,λi=>by unfold O7 gW;omega⟩⟩
 .unfold O0 QO i7;omega
 .unfold DK O7 gW;omega
theorem Ju{p:List (List Nat)}(h:ab p=true){l:List Nat}(r:l∈p)(d:E' l)(i:Nat)(w:i<6656):(FB y9 (et (i7 i) (gW i) l)).a.toNat≠eG:=by
 have o:bN 1664 1 (lV 128 oL iL 0 13 λ_=>1) λ_=>1:=by
  have v:oL=pk 128 λ_=>1:=kQ 7 _;have e:iL=pk 128 id:=kQ 7 _;rw[v,e,qi 128 _ (by decide)];exact⟨aL3 λi _=>by omega,λi=>by decide⟩
 unfold ab at h;simp only[Kq]at h;have b:=yA.1 h l r;simp only[zJ]at b;obtain⟨⟨⟨b,t⟩,g⟩,f⟩:=b;have n:=bN.const 1664 32 eG (by decide) o;have e:DK 0=DK 2:=by funext i;unfold DK;omega
 have u:DK 1=DK 3:=by funext i;unfold DK;omega
 have k:∀c,1664*c<=i->i<1664*c+1664->qR (Nat.mul eG (lV 128 oL iL 0 13 λ_=>1)) (lV 128 oL iL 0 13 λ_=>1) (lV 128 oL iL 0 13 (O0 c)) (lV 128 oL iL 16777216 13 (DK c)) (Mr l)=true->(FB y9 (et (i7 i) (gW i) l)).a.toNat≠eG:=λc m j s=>by
  have:=Jm (q:=1664*c) n o (Ly c).1 (Ly c).2 d (Jj d s) (i-1664*c) (by omega);rw[Nat.sub_add_cancel m]at this;exact this
 rw[e]at g;rw[u]at f;by_cases c1:i<1664
 .exact k 0 (by omega) (by omega) b
 by_cases c2:i<3328
 .exact k 1 (by omega) (by omega) t
 by_cases c3:i<4992
 .exact k 2 (by omega) (by omega) g
 .exact k 3 (by omega) (by omega) f
end
section
open Go
theorem ZO{n:Nat}(h:n<256):bH (n:Int)=iv n:=by
 have m:zc (n:Int)=n:=by unfold zc;split<;>omega
 have b:decide ((n:Int)<0)=false:=yE (by omega);unfold bH iv;rw[m,b];by_cases a:n=0
 .subst a;rw[Rj];rfl
 .rw[if_neg a,kV a,Nat.div_eq_of_lt h,Rj];simp[n6,ij,wO h]
theorem GX(n:Nat):1<=(iv n).length:=by unfold iv;split<;>simp
theorem DR(l:List Nat):l.length<=(l.flatMap iv).length:=by
 induction l with
 |nil=>simp
 |cons a l i=>rw[List.flatMap_cons,zI,List.length_cons];have:=GX a;omega
theorem nN{α β:Type}{f g:α->List β}:∀{l:List α},(∀a∈l,f a=g a)->l.flatMap f=l.flatMap g
 |[],_=>rfl
 |a::l,h=>by rw[List.flatMap_cons,List.flatMap_cons,h a yN,nN λb c=>h b (yQ _ c)]
def RJ(d:List Nat):Nat:=(d.take 6).foldl (λn b=>n*256+b) 0
def x1(s:List Nat)(p:List Int)(t:Int):Nat:=RJ (E0 8 [s,dX (p++[t])])
theorem GH{l:List Nat}(h:E' l)(a b:Nat):(8::[[a,b],dX (l.map Int.ofNat++[0])].flatMap λp=>bH p.length++p)=[8,129,2,a,b]++fm l:=by
 have q:=h.len;have o:(l.flatMap iv).length+5=(fm l).length:=by simp[fm]
 have m:=DR l;have k:dX (l.map Int.ofNat++[0])=129::(l.length+1)::(l.flatMap iv++[128]):=by
  unfold dX;have j:((l.map Int.ofNat++[(0:Int)]).length:Int)=((l.length+1:Nat):Int):=by simp
  have i:(l.map Int.ofNat).flatMap bH=l.flatMap iv:=by
   rw[List.flatMap_map];exact nN λn c=>ZO (h.lt n c)
  have g:bH 0=[128]:=ZO (n:=0) (by decide);rw[j,ZO (by omega),List.flatMap_append,i,List.flatMap_singleton,g];unfold iv;rw[if_neg (by omega)];rfl
 have f:bH (([a,b]:List Nat).length:Int)=[129,2]:=ZO (n:=2) (by decide);rw[List.flatMap_cons,List.flatMap_singleton,f,k];have d:((129::(l.length+1)::(l.flatMap iv++[128])).length:Int)=((2+(l.flatMap iv).length+1:Nat):Int):=by
  simp only[List.length_cons,zI,List.length_nil];omega
 rw[d,ZO (by omega)];have e:iv (2+(l.flatMap iv).length+1)=[129,2+(l.flatMap iv).length+1]:=by unfold iv;rw[if_neg (by omega)]
 rw[e]
 rfl
theorem F8{l:List Nat}(h:E' l)(a b:Nat):x1 [a,b] (l.map Int.ofNat) 0=RJ ((List.range 32).map (jZ (FB y9 (et a b l)))):=by
 have d:=aV3 a b h;have M:([8,129,2,a,b]++fm l)++cx ([8,129,2,a,b]++fm l).length=et a b l:=by
  unfold et;rw[zV,zI]
  rfl
 have c:([8,129,2,a,b]++fm l).length+(cx ([8,129,2,a,b]++fm l).length).length=64:=by
  rw[←zI,M];exact d
 unfold x1 E0;rw[GH h,py,M,c];have e:fh (et a b l) (64/64)=FB y9 (et a b l):=by
  show FB (fh (et a b l) 0) (((et a b l).drop (64*0)).take 64)=_;rw[Nat.mul_zero,List.drop_zero,yL (by omega)]
  rfl
 rw[e];unfold RJ;rw[List.take_take]
 rfl
theorem Na(s:S8):RJ ((List.range 32).map (jZ s))=s.a.toNat*65536+s.b.toNat/65536:=by
 have e:RJ ((List.range 32).map (jZ s))=((((((0*256+jZ s 0)*256+jZ s 1)*256+jZ s 2)*256+jZ s 3)*256+jZ s 4)*256+jZ s 5):=rfl;have f:jZ s 0=s.a.toNat/16777216%256:=rfl;have d:jZ s 1=s.a.toNat/65536%256:=rfl;have c:jZ s 2=s.a.toNat/256%256:=rfl;have b:jZ s 3=s.a.toNat/1%256:=rfl;have a:jZ s 4=s.b.toNat/16777216%256:=rfl;have h:jZ s 5=s.b.toNat/65536%256:=rfl;have i:=s.a.isLt;have g:=s.b.isLt;rw[e,f,d,c,b,a,h];omega
theorem F7{p:List (List Nat)}(h:ab p=true){l:List Nat}(b:l∈p)(a:E' l)(i:Nat)(c:i<6656):x1 [i7 i,gW i] (l.map Int.ofNat) 0<281474976645120:=by
 have d:=Ju h b a i c;rw[F8 a,Na];generalize FB y9 (et (i7 i) (gW i) l)=s at *;have f:=s.a.isLt;have e:=s.b.isLt;unfold eG at d;omega
end
section
open Go
def ph(s:List (List Nat)):List Nat:=8::s.flatMap λp=>bH p.length++p
structure Ky(ps:List (List Nat)):Prop where
 n:ps.length<=10
 l:∀p∈ps,p.length<=1000
 b:∀p∈ps,∀d∈p,d<256
theorem Ky.one{s:List (List Nat)}(h:Ky s):∀p∈s,(bH p.length++p).length<=1009:=λp a=>by
 have:=h.l p a;have:=Ft (n:=(p.length:Int)) (ri (by omega));rw[zI];omega
theorem Ky.len{s:List (List Nat)}(h:Ky s)(i:Nat):(8::(s.take i).flatMap λp=>bH p.length++p).length<=20000:=by
 have e:=Qg (f:=λp:List Nat=>bH p.length++p) (l:=s.take i) (c:=1009) (λp a=>h.one p (xG a));have d:(s.take i).length<=s.length:=by rw[zR];omega
 have b:=h.n;have:(s.take i).length*1009<=10*1009:=xZ _ (by omega);rw[List.length_cons];omega
theorem Ky.lt{s:List (List Nat)}(h:Ky s):∀d∈ph s,d<256:=by
 intro d a;unfold ph at a;rcases zU.1 a with rfl|a
 .decide
 .obtain⟨p,c,a⟩:=List.mem_flatMap.1 a;rcases zO.1 a with b|b
  .exact li (n:=(p.length:Int)) (ri (by have:=h.l p c;omega)) d b
  .exact h.b p c d b
theorem AO{A B:Prop}(k:B)(h:ar B->A:=by intro q7;(first|refine bC ?_|refine aA ?_|(refine' ah ?hc ?_;(case hc=>exact HW)));exact q7.1):A:=h ⟨k⟩
theorem bo2{A B:Prop}(k:B)(h:ar B->A:=by intro q7;(first|refine bC ?_|refine mN ?_|(refine' ah ?hc ?_;(case hc=>exact HW)));exact q7.1):A:=h ⟨k⟩
theorem tr{p:Prop}(h:p:=by
 exact⟨(i+1,_,s'),(aj av),Sc.refl _,⟨by simp only;omega,hr⟩,by simp only;omega⟩):p:=h
theorem uQ(s:List (List Nat))(h:Ky s):APure prog 273 [iD 8,.sl 1 (s.map λp=>[cX p])] (AH (ph s)):=by
 have k:=h.n;refine ap func273 ntmps273 λu=>?_
 repeat refine AO ?_
 refine Ot.yd (xr (m:=((8:Nat):Int)) rfl rfl underlying3 underlying5 rfl) ?_
 repeat refine bo2 ?_
 refine Bx.r ?_;refine La ai rfl rfl rfl rfl rfl rfl rfl rfl rfl rfl (by decide) (λo=>?_)
 repeat refine AO ?_
 refine aR mixed ai (γ:=Nat×Value×af) (λg=>[(6,iD g.1),(5,.v g.2.1)]) (λg=>g.2.2) (λg=>g.1<=s.length/\RY (8::(s.take g.1).flatMap λp=>bH p.length++p) g.2.1 g.2.2) (λg=>s.length-g.1) (0,.slice (some ⟨o,0,none⟩) 1 1,[(o,.cells 5 [yD 8])]) (aj av) (Sc.refl _) ⟨zW _,Ql (xs:=[yC 8]) o (by simp) (by decide)⟩ ?_;rintro⟨i,v,r⟩ ⟨hi,w⟩;simp only at hi w⊢;by_cases hil:i<s.length
 .obtain⟨p,b⟩:∃p,s[i]?=some p:=⟨_,zD hil⟩
  have j:s[((i:Nat):Int).toNat]?=some p:=b;have e:=zG b;have f:=h.l p e;have HW:=uV (l:=p) (by omega) (h.b p e);have z:=h.len (i+1);have a:ae 5 1 ((8::(s.take i).flatMap λp=>bH p.length++p).map yC) v r:=w
  repeat refine AO ?_
  refine Ap.go rfl rfl rfl rfl a (bS _) (sH _) (zs:=(8::(s.take (i+1)).flatMap λp=>bH p.length++p).map yC) (by rw[aF2 b];simp only[yB,List.map_cons,List.cons_append]) (pn z (by decide)) (by rw[zL];omega) (λs'=>s') da (λt q s' hr=>?_)
  repeat refine AO ?_
  exact tr
 .obtain rfl:i=s.length:=by omega
  rw[yM]at w
  repeat refine AO ?_
  exact Rt.vs (Vs.row w (bS _))
theorem N6(s:List (List Nat))(h:Ky s):APure prog 264 [iD 8,.sl 1 (s.map λp=>[cX p])] (Jz (E0 8 s)):=by
 have HI:=uQ s h;have z:=h.len s.length;rw[yM]at z;have HS:=BF (ph s) (by unfold ph;omega) h.lt;have e:Jz (E0 8 s)=Jz (py (ph s)):=by
  unfold Jz E0
  congr 1
 rw[e];generalize py (ph s)=H at *;unfold Jz at HS⊢;refine ap func264 ntmps264 λa=>?_
 repeat' first|refine Sj ?_|intro b;conv=>whnf
 refine Sv.perm (tb:=351) (cs':=(List.range 16).map λi=>yD (H.getD i 0)) (zH _) rfl (by decide) rfl rfl ?_
 repeat' first|refine Sj ?_|intro b;conv=>whnf
 exact Rt.pure rfl
theorem qH(m:List Nat):∀d∈py m,d<256:=by
 intro d h;unfold py at h;obtain⟨i,_,rfl⟩:=xM.1 h;exact vM _ (by decide)
theorem n5(p:List (List Nat))(i:Nat):(E0 8 p).getD i 0<256:=by
 rw[List.getD_eq_getElem?_getD]
 cases h:(E0 8 p)[i]? with
 |none=>simp
 |some d=>exact qH _ d (xG (zG h))
def kn(d:List Nat)(k:Nat):Nat:=(d.take k).foldl (λn b=>n*256+b) 0
theorem km(d:List Nat)(h:∀i,d.getD i 0<256):∀k,kn d k<256 ^ k
 |0=>by simp[kn]
 |k+1=>by
  have e:=km d h k;unfold kn at *;rw[xC,List.foldl_append];have a:=h k;rw[List.getD_eq_getElem?_getD]at a
  cases c:d[k]? with
  |none=>simp only[Option.toList_none,List.foldl_nil,Nat.pow_succ];omega
  |some b=>rw[c]at a;simp only[Option.getD_some]at a;simp only[Option.toList_some,List.foldl_cons,List.foldl_nil,Nat.pow_succ];omega
theorem wq(p:List (List Nat)):(E0 8 p).length=16:=by unfold E0 py;simp
theorem ue{d:List Nat}{k b:Nat}(h:d[k]?=some b):kn d (k+1)=kn d k*256+b:=by
 unfold kn;rw[xC,h,List.foldl_append];rfl
structure x9(p:List Int):Prop where
 n:p.length<=20
 v:∀v∈p,cB v
structure gb(s:List Nat):Prop where
 n:s.length<=32
 v:∀d∈s,d<256
theorem je{A B:Prop}(k:B)(h:ar B->A:=by intro q7;(first|refine Hg ?_|refine aA ?_|(refine' ah ?hc ?_;(case hc=>first|exact HL|exact HO)));exact q7.1):A:=h ⟨k⟩
theorem sw(sd:List Nat)(hs:gb sd)(a:List Int)(k:x9 a)(t:Int)(ht:cB t):APure prog 244 [cX sd,bj a,iD t] (iD ((x1 sd a t:Nat):Int)):=by
 have s:=k.n;have g:∀v∈a++[t],cB v:=λv h=>by
  rcases zO.1 h with h|h
  .exact k.v v h
  .rw[zN]at h;subst h;exact ht
 have o:(a++[t]).length<=21:=by rw[zI,List.length_singleton];omega
 have HL:=BI (l:=a++[t]) (by omega) g;have x:=th g (ri (by omega));have f:=IW (ri (by omega)) g;have P:Ky [sd,dX (a++[t])]:=⟨by simp,λp h=>by
  simp only[zU,yF,xE]at h;rcases h with rfl|rfl
  .have:=hs.n;omega
  .omega,λp h=>by
  simp only[zU,yF,xE]at h;rcases h with rfl|rfl
  .exact hs.v
  .exact f⟩
 have HO:=N6 _ P;have r:=n5 [sd,dX (a++[t])];have y:=wq [sd,dX (a++[t])];have e:x1 sd a t=kn (E0 8 [sd,dX (a++[t])]) 6:=rfl;rw[e];clear e;generalize E0 8 [sd,dX (a++[t])]=H at *;unfold Jz at HO;refine ap func244 ntmps244 λF=>?_
 repeat' first|refine je ?_|intro b;conv=>whnf
 refine Ap.go rfl rfl rfl rfl (ae.e0 _ _ (some ⟨b,0,none⟩)) (bS _) (FE a) (zs:=a.map λn=>[iD n]) rfl (by simp;omega) (by simp;omega) (λu=>u) da (λE D z j=>?_)
 repeat' first|refine je ?_|intro b;conv=>whnf
 refine Ap.frz rfl rfl rfl rfl j (bS _) rfl (zs:=(a++[t]).map λn=>[iD n]) (by rw[yB];rfl) (by simp;omega) (by simp;omega) ?_
 repeat' first|refine je ?_|intro b;conv=>whnf
 refine Ot.yd (zg (l:=dX (a++[t])) rfl rfl f underlying147 underlying5 underlying9) ?_
 repeat' first|refine je ?_|intro b;conv=>whnf
 refine Sv.perm (tb:=351) (cs':=(List.range 16).map λi=>yD (H.getD i 0)) (zH _) rfl (by decide) rfl rfl ?_
 repeat' first|refine je ?_|intro b;conv=>whnf
 refine aR mixed ai (γ:=Nat) (λi=>[(10,iD i),(9,iD ((kn H i:Nat):Int))]) (λ_=>[(b,.cells 351 ((List.range 16).map λi=>yD (H.getD i 0)))]) (λi=>i<=6) (λi=>6-i) 0 (aj av) (Sc.refl _) (by decide) ?_;intro i hi;by_cases hi6:i<6
 .have hx:H[i]?=some (H.getD i 0):=by rw[List.getD_eq_getElem?_getD,zD (by omega)];rfl
  have s:((List.range 16).map λi=>yD (H.getD i 0))[i]?=some (yD (H.getD i 0)):=by rw[qA,xV (by omega)];rfl
  have w:=ue hx;have hb:kn H i<1099511627776:=yI (km H r i) (Nat.pow_le_pow_right (by decide) (by omega:i<=5));have C:=r i
  repeat' first|refine je ?_|intro b;conv=>whnf
  refine Ot.yd (jr ai (m:=i) (q:=i) rfl rfl rfl rfl rfl ?hq1 ?hq2 (xD _)) ?_;(case hq1=>omega);(case hq2=>omega);repeat'(first|refine je ?_|intro b;conv=>whnf)
  refine Ld.cellm (tb:=351) (List.Mem.head _) s ?_
  repeat' first|refine je ?_|intro b;conv=>whnf
  refine Ot.yd (xr (m:=((H.getD i 0:Nat):Int)) rfl rfl underlying5 underlying3 (aV7 ⟨by omega,by omega⟩)) ?_
  repeat' first|refine je ?_|intro b;conv=>whnf
  exact⟨i+1,(aj av),Sc.refl _,by omega,by omega⟩
 .obtain rfl:i=6:=by omega
  repeat' first|refine je ?_|intro b;conv=>whnf
  exact Rt.pure rfl
end
section
open Go
def Iy(n:Int):Int:=281474976710656-(281474976710656:Int).tmod n
def oR(sd:List Nat)(p:List Int)(n:Int):Prop:=(n≠0 /\ -1099511627776<=n/\n<=1099511627776)/\((x1 sd p 0:Nat):Int)<Iy n
def dN(sd:List Nat)(p:List Int)(n:Int):Int:=((x1 sd p 0:Nat):Int).tmod n
theorem kg(sd:List Nat)(p:List Int)(t:Int):x1 sd p t<281474976710656:=km _ (n5 _) 6
theorem Aj{a n:Int}(b:0<=a)(h:n≠0)(c:-1099511627776<=n/\n<=1099511627776):0<=a.tmod n/\a.tmod n<1099511627776:=by
 refine⟨Int.tmod_nonneg _ b,?_⟩;by_cases h1:0<n
 .have:=Int.tmod_lt_of_pos a h1;omega
 .have d:a.tmod n=a.tmod (-n):=by rw[Int.tmod_neg]
  have:=Int.tmod_lt_of_pos a (show 0 < -n by omega);omega
theorem Fm{sd:List Nat}{p:List Int}{n:Int}(h:0<n):0<=dN sd p n/\dN sd p n<n:=
 ⟨Int.tmod_nonneg _ (by omega),Int.tmod_lt_of_pos _ h⟩
theorem NK{A B:Prop}(k:B)(h:ar B->A:=by intro q7;(first|refine bC ?_|refine aA ?_|(refine' ah ?hc ?_;(case hc=>exact sw sd hs p hp 0 ⟨by decide,by decide⟩)));exact q7.1):A:=h ⟨k⟩
theorem QS(sd:List Nat)(hs:gb sd)(p:List Int)(hp:x9 p)(n:Int)(h:oR sd p n):APure prog 201 [cX sd,bj p,iD n] (iD (dN sd p n)):=by
 obtain⟨h0,h1⟩:=h;have w:=kg sd p 0;have ht:=Aj (a:=281474976710656) (by decide) h0.1 h0.2;unfold Iy at h1;refine ap func201 ntmps201 λb=>?_
 repeat refine NK ?_
 refine aR mixed ai (γ:=Unit) (λ_=>[(9,iD 0)]) (λ_=>[]) (λ_=>True) (λ_=>0) () (aj aQ) (Sc.refl _) trivial ?_;rintro - -
 repeat refine NK ?_
 refine Rt.pure (zM iD ?_)
 rfl
theorem m4(sd:List Nat)(hs:gb sd)(p:List Int)(hp:p.length<=8):APure prog 202 [cX sd,bj p] (bD true):=by
 have z:=j8 sd;have h1:=hs.n;refine ap func202 ntmps202 λa=>?_
 repeat refine NK ?_
 refine Rt.pure (zM bD ?_);simp;omega
def fX(sd:List Nat)(p:List Int)(lo h:Int):Int:=lo+dN sd p (h-lo+1)
structure MY(a b:Int):Prop where
 lo:-1099511627776<=a
 hi:b<=1099511627776
 le:a<=b
 small:b-a<1099511627776
theorem bo1{A B:Prop}(k:B)(h:ar B->A:=by intro q7;(first|refine bC ?_|refine aA ?_|(refine' ah ?hc ?_;(case hc=>first|exact HV|exact HB)));exact q7.1):A:=h ⟨k⟩
theorem aH1(sd:List Nat)(hs:gb sd)(p:List Int)(b:p.length<=8)(i:∀v∈p,cB v)(lo hi:Int)(h:MY lo hi)(a:oR sd p (hi-lo+1)):APure prog 156 [cX sd,bj p,iD lo,iD hi] (.tup [iD (fX sd p lo hi),iD 0]):=by
 have P:x9 p:=⟨by omega,i⟩
 have h1:=h.lo;have h2:=h.hi;have h3:=h.le;have h4:=h.small;have hb:=Fm (sd:=sd) (p:=p) (n:=hi-lo+1) (by omega);have HV:=m4 sd hs p (by omega);have HB:=QS sd hs p P _ a;unfold fX;refine ap func156 ntmps156 λe=>?_
 repeat refine bo1 ?_
 exact Rt.pure rfl
theorem bD7{A B:Prop}(k:B)(h:ar B->A:=by intro q7;(first|refine bC ?_|refine aA ?_|(refine' ah ?hc ?_;(case hc=>exact HV)));exact q7.1):A:=h ⟨k⟩
theorem xq{p:Nat->Prop}{k:Nat}(h:p k):∃q,q<=k/\p q/\∀j,j<q->¬p j:=by
 induction k using Nat.strongRecOn with
 |ind k i=>
  by_cases hj:∃j,j<k/\p j
  .obtain⟨j,b,a⟩:=hj;obtain⟨q,d,c,g⟩:=i j b a;exact⟨q,by omega,c,g⟩
  .exact⟨k,zT _,h,λj b a=>hj ⟨j,b,a⟩⟩
theorem aN1{l:List Int}{i:Nat}{y:Int}(h:l[i]?=some y):(l.take (i+1)).sum=(l.take i).sum+y:=by
 rw[xC,h];simp
theorem Pd{p:Prop}(h:p:=by
 induction l with
 |nil=>simp
 |cons a l ih=>
  have h1:=h a yN;have h2:=ih λw hw=>h w (yQ _ hw);rw[List.sum_cons,List.length_cons];omega):p:=h
theorem GN{l:List Int}(h:∀w∈l,0<=w/\w<=1048576):0<=l.sum/\l.sum<=1048576*(l.length:Int):=Pd
structure E6(l:List Int):Prop where
 n:l.length<=12
 v:∀w∈l,0<=w/\w<=1048576
 pos:0<l.sum
theorem E6.pre{l:List Int}(h:E6 l)(i:Nat):0<=(l.take i).sum/\(l.take i).sum<=12582912:=by
 have c:=GN (l:=l.take i) (λw a=>h.v w (xG a));have b:(l.take i).length<=l.length:=by rw[zR];omega
 have:=h.n;omega
theorem pK(l:List Int)(h:E6 l):APure prog 203 [bj l] (iD l.sum):=by
 have e:=h.n;have b:=h.pos;refine ap func203 ntmps203 λf=>?_
 repeat refine ao ?_
 refine aR mixed ai (γ:=Nat) (λi=>[(3,iD (l.take i).sum),(4,iD i)]) (λ_=>[]) (λi=>i<=l.length) (λi=>l.length-i) 0 (aj av) (Sc.refl _) (zW _) ?_;intro i hi;by_cases hil:i<l.length
 .obtain⟨y,a⟩:∃y,l[i]?=some y:=⟨_,zD hil⟩
  have hy:l[((i:Nat):Int).toNat]?=some y:=a;have v:=h.v y (zG a);have hb:=h.pre i;have hs:=aN1 a
  repeat refine ao ?_
  exact⟨i+1,(aj av),Sc.refl _,by omega,by omega⟩
 .obtain rfl:i=l.length:=by omega
  rw[yM]
  repeat refine ao ?_
  refine Rt.pure (zM iD ?_)
  rfl
theorem NJ{A B:Prop}(k:B)(h:ar B->A:=by intro q7;(first|refine bC ?_|refine aA ?_|(refine' ah ?hc ?_;(case hc=>first|exact HV|exact HB|exact HW)));exact q7.1):A:=h ⟨k⟩
theorem Hq(sd:List Nat)(hs:gb sd)(p:List Int)(r:p.length<=8)(f:∀v∈p,cB v)(l:List Int)(h:E6 l)(u:oR sd p l.sum):∃v:Nat,v<l.length/\APure prog 152 [cX sd,bj p,bj l] (.tup [iD v,iD 0]):=by
 have z:=h.n;have s:=h.pos;have hb:=Fm (sd:=sd) (p:=p) h.pos;have HV:=m4 sd hs p r;have HB:=QS sd hs p ⟨by omega,f⟩ _ u;have HW:=pK l h;generalize dN sd p l.sum=x at *;obtain⟨v,o,(j:x<(l.take (v+1)).sum),e⟩:=xq (p:=λk=>x<(l.take (k+1)).sum) (k:=l.length-1) (by
  have h1:0<l.length:=by
   cases l with
   |nil=>simp at s
   |cons=>simp
  show x<(l.take (l.length-1+1)).sum;rw[show l.length-1+1=l.length by omega,yM];exact hb.2)
 have b:v<l.length:=by
  have h1:0<l.length:=by
   cases l with
   |nil=>simp at s
   |cons=>simp
  omega
 refine⟨v,b,?_⟩;refine ap func152 ntmps152 λC=>?_
 repeat refine NJ ?_
 refine aR mixed ai (γ:=Nat) (λi=>[(10,iD (l.take i).sum),(11,iD i)]) (λ_=>[]) (λi=>i<=v) (λi=>v-i) 0 (aj av) (Sc.refl _) (zW _) ?_;intro i hi;obtain⟨y,a⟩:∃y,l[i]?=some y:=⟨_,zD (by omega)⟩
 have hy:l[((i:Nat):Int).toNat]?=some y:=a;have g:=h.v y (zG a);have w:=h.pre i;have q:=aN1 a;by_cases hiv:i<v
 .have t:=e i hiv
  repeat refine NJ ?_
  exact⟨i+1,(aj av),Sc.refl _,by omega,by omega⟩
 .obtain rfl:i=v:=by omega
  repeat refine NJ ?_
  exact Rt.pure rfl
end
section
theorem B8:∀(N:Nat)(g:Nat->Nat),(∀i,i<=N->g i<N)->∃i j,i<j/\j<=N/\g i=g j
 |0,g,h=>absurd (h 0 (zT 0)) (by omega)
 |N+1,g,h=>by
  by_cases hx:∃i,i<N+1/\g i=g (N+1)
  .obtain⟨i,d,e⟩:=hx;exact⟨i,N+1,d,zT _,e⟩
  .have c:∀i,i<N+1->g i≠g (N+1):=λi d e=>hx ⟨i,d,e⟩;have m:=h (N+1) (zT _);obtain⟨i,j,k,l,f⟩:=B8 N (λi=>if g i<g (N+1)then g i else g i-1) (λi d=>by
    have k:=h i (by omega);have l:=c i (by omega)
    show(if g i<g (N+1)then g i else g i-1)<N;split<;>omega)
   refine⟨i,j,k,by omega,?_⟩;have a:=c i (by omega);have b:=c j (by omega);split at f<;>split at f<;>omega
def rx(f:Nat->Nat):Nat->Nat->Nat
 |0,x=>x
 |k+1,x=>f (rx f k x)
theorem wh(f:Nat->Nat)(a:Nat):∀(b x:Nat),rx f (a+b) x=rx f a (rx f b x):=by
 induction a with
 |zero=>intro b x;rw[xD];rfl
 |succ a i=>intro b x;rw[Nat.add_right_comm,rx,i];rfl
theorem Rx{f:Nat->Nat}{N:Nat}(h:∀x,x<N->f x<N){x:Nat}(hx:x<N):∀k,rx f k x<N
 |0=>hx
 |k+1=>h _ (Rx h hx k)
theorem bg9{f:Nat->Nat}{N:Nat}(a:∀x,x<N->f x<N)(i:∀x y,x<N->y<N->f x=f y->x=y):∀(k:Nat){x y:Nat},x<N->y<N->rx f k x=rx f k y->x=y
 |0,x,y,_,_,h=>h
 |k+1,x,y,hx,b,h=>bg9 a i k hx b (i _ _ (Rx a hx k) (Rx a b k) h)
theorem qK{f:Nat->Nat}{N:Nat}(h:∀x,x<N->f x<N)(b:∀x y,x<N->y<N->f x=f y->x=y){x:Nat}(hx:x<N):∃k,0<k/\k<=N/\rx f k x=x:=by
 obtain⟨i,j,d,c,a⟩:=B8 N (λi=>rx f i x) (λi _=>Rx h hx i);refine⟨j-i,by omega,by omega,?_⟩;have e:j=i+(j-i):=by omega
 rw[e,wh]at a;exact(bg9 h b i hx (Rx h hx _) a).symm
def Hh(f:Nat->Nat)(p:Nat×Nat):Nat×Nat:=(p.2,p.1 ^^^ f p.2)
theorem Bh(f:Nat->Nat){p q:Nat×Nat}(h:Hh f p=Hh f q):p=q:=by
 obtain⟨a,b⟩:=p;obtain⟨c,d⟩:=q;simp only[Hh,vY]at h;obtain⟨rfl,h⟩:=h;have:a=c:=by
  have e:=zM (λz=>z ^^^ f b) h;simp only[Nat.xor_assoc,Nat.xor_self,Nat.xor_zero]at e;exact e
 rw[this]
def ie(F:Nat->Nat->Nat):Nat->Nat×Nat->Nat×Nat
 |0,p=>p
 |k+1,p=>Hh (F k) (ie F k p)
theorem be4(F:Nat->Nat->Nat):∀(k:Nat){p q:Nat×Nat},ie F k p=ie F k q->p=q
 |0,_,_,h=>h
 |k+1,_,_,h=>be4 F k (Bh _ h)
theorem Z3{F:Nat->Nat->Nat}{j:Nat}(d:∀k r,F k r<2 ^ j):∀(k:Nat){p:Nat×Nat},p.1<2 ^ j->p.2<2 ^ j->(ie F k p).1<2 ^ j/\(ie F k p).2<2 ^ j
 |0,_,c,h=>⟨c,h⟩
 |k+1,_,c,h=>by
  obtain⟨a,b⟩:=Z3 d k c h;exact⟨b,Nat.xor_lt_two_pow a (d _ _)⟩
def ny(F:Nat->Nat->Nat)(b x:Nat):Nat:=(ie F 4 (x/b,x%b)).1*b+(ie F 4 (x/b,x%b)).2
theorem Il{F:Nat->Nat->Nat}{j:Nat}(a:∀k r,F k r<2 ^ j){x:Nat}(hx:x<2 ^ j*2 ^ j):ny F (2 ^ j) x<2 ^ j*2 ^ j:=by
 have h:0<2 ^ j:=Nat.pow_pos (by decide);obtain⟨b,c⟩:=Z3 a 4 (p:=(x/2 ^ j,x%2 ^ j)) (Nat.div_lt_of_lt_mul hx) (vM _ h);unfold ny
 calc _<(ie F 4 (x/2 ^ j,x%2 ^ j)).1*2 ^ j+2 ^ j:=by omega
  _=((ie F 4 (x/2 ^ j,x%2 ^ j)).1+1)*2 ^ j:=by rw[vC,Nat.one_mul]
  _<=2 ^ j*2 ^ j:=xZ _ b
theorem CG{F:Nat->Nat->Nat}{j:Nat}(b:∀k r,F k r<2 ^ j){x y:Nat}(hx:x<2 ^ j*2 ^ j)(d:y<2 ^ j*2 ^ j)(h:ny F (2 ^ j) x=ny F (2 ^ j) y):x=y:=by
 have a:0<2 ^ j:=Nat.pow_pos (by decide);obtain⟨m,g⟩:=Z3 b 4 (p:=(x/2 ^ j,x%2 ^ j)) (Nat.div_lt_of_lt_mul hx) (vM _ a);obtain⟨l,f⟩:=Z3 b 4 (p:=(y/2 ^ j,y%2 ^ j)) (Nat.div_lt_of_lt_mul d) (vM _ a);unfold ny at h;have c:(ie F 4 (x/2 ^ j,x%2 ^ j)).2=(ie F 4 (y/2 ^ j,y%2 ^ j)).2:=by
  have:=zM (λz=>z%2 ^ j) h;simp only[Nat.mul_add_mod_self_right,wO g,wO f]at this;exact this
 have i:(ie F 4 (x/2 ^ j,x%2 ^ j)).1=(ie F 4 (y/2 ^ j,y%2 ^ j)).1:=by
  rw[c]at h;exact Nat.eq_of_mul_eq_mul_right a (Nat.add_right_cancel h)
 have e:=be4 F 4 (Prod.ext i c);simp only[vY]at e;rw[←Nat.div_add_mod x (2 ^ j),←Nat.div_add_mod y (2 ^ j),e.1,e.2]
theorem F5(a b i:Nat):(a ^^^ b)%2 ^ (i+1)=(a ^^^ b)%2 ^ i+(if a/2 ^ i%2=b/2 ^ i%2 then 0 else 2 ^ i):=by
 rw[Nat.mod_pow_succ]
 congr 1
 have h:(a ^^^ b)/2 ^ i%2=(if a/2 ^ i%2=b/2 ^ i%2 then 0 else 1):=by
  have e:=Nat.testBit_xor a b i;rw[Nat.testBit_eq_decide_div_mod_eq,Nat.testBit_eq_decide_div_mod_eq,Nat.testBit_eq_decide_div_mod_eq]at e;have d:=Nat.mod_two_eq_zero_or_one ((a ^^^ b)/2 ^ i);have c:=Nat.mod_two_eq_zero_or_one (a/2 ^ i);have m:=Nat.mod_two_eq_zero_or_one (b/2 ^ i);rcases d with d|d<;>rcases c with c|c<;>rcases m with m|m<;>rw[d,c,m]at e⊢ <;> first|rfl|(simp at e)
 rw[h];split<;>simp
theorem F0{a b i:Nat}(d:a/2 ^ i=0)(c:b/2 ^ i=0):(a ^^^ b)%2 ^ i=a ^^^ b:=by
 have p:0<2 ^ i:=Nat.pow_pos (by decide);have f:a<2 ^ i:=by
  rcases Nat.div_eq_zero_iff.1 d with h|h
  .omega
  .exact h
 have e:b<2 ^ i:=by
  rcases Nat.div_eq_zero_iff.1 c with h|h
  .omega
  .exact h
 exact wO (Nat.xor_lt_two_pow f e)
end
end Go.Proofs.YtilnpcolgcmofaaGreatDoor
