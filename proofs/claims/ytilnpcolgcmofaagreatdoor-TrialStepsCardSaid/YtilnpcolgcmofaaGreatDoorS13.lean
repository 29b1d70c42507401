/- A part of the proof: Lm Lk Lj Li Da Db Py. -/
import Derived.Test.YtilnpcolgcmofaaGreatDoorS12
set_option maxRecDepth 100000
set_option maxHeartbeats 20000000
set_option linter.all false
namespace Go.Proofs.YtilnpcolgcmofaaGreatDoor
open Tryz
section
open Go
def Ga(s:S8):P8:=⟨s.a.toNat,s.b.toNat,s.c.toNat,s.d.toNat,s.e.toNat,s.f.toNat,s.g.toNat,s.h.toNat⟩
theorem n8(n:Nat):n &&& eA=n%2 ^ 32:=Nat.and_two_pow_sub_one_eq_mod n 32
theorem ZC(x:cB)(n:Nat):eu eA x.toNat n=(et x n).toNat:=by
 unfold eu et;rw[n8,Nat.or_mod_two_pow,BitVec.toNat_or,BitVec.toNat_ushiftRight,BitVec.toNat_shiftLeft,wO (Nat.lt_of_le_of_lt (Nat.shiftRight_le _ _) x.isLt)]
theorem IV(x:cB)(i j k:Nat):k9 eA x.toNat i j k=(fx x i j k).toNat:=by
 unfold k9 fx;rw[ZC,ZC,ZC,BitVec.toNat_xor,BitVec.toNat_xor]
theorem O7(e f g:cB):Qs eA e.toNat f.toNat g.toNat=(EZ e f g).toNat:=by
 unfold Qs EZ;have h:e.toNat ^^^ eA=(~~~e).toNat:=by
  rw[←BitVec.xor_allOnes,BitVec.toNat_xor,BitVec.toNat_allOnes];rfl
 rw[h,BitVec.toNat_xor,BitVec.toNat_and,BitVec.toNat_and]
theorem HY(a b c:cB):qa a.toNat b.toNat c.toNat=(uX a b c).toNat:=by
 unfold qa uX;simp only[BitVec.toNat_xor,BitVec.toNat_and]
theorem M4(s:S8)(k:Nat)(w:cB)(l:List Nat):ua eA 1 k (Ga s) (w.toNat::l)=Ga (SX s (BitVec.ofNat 32 k) w):=by
 unfold ua Ga SX aL xL;simp only[IV,O7,HY,n8,List.headD_cons,Nat.mul_one]
 congr 1
 .simp only[BitVec.toNat_add,BitVec.toNat_ofNat];omega
 .simp only[BitVec.toNat_add,BitVec.toNat_ofNat];omega
theorem Xo{p:Prop}(h:p:=by
 rw[ZC,ZC,n8,BitVec.toNat_xor,BitVec.toNat_xor,BitVec.toNat_ushiftRight,wO (Nat.lt_of_le_of_lt (Nat.shiftRight_le _ _) p.isLt)]):p:=h
theorem Ac(p:cB):eu eA p.toNat 7 ^^^ eu eA p.toNat 18 ^^^ (p.toNat >>> 3 &&& eA)=(ii p).toNat:=by
 unfold ii;exact Xo
theorem Ab(p:cB):eu eA p.toNat 17 ^^^ eu eA p.toNat 19 ^^^ (p.toNat >>> 10 &&& eA)=(kc p).toNat:=by
 unfold kc;exact Xo
theorem N4(w p v q:cB):S4 eA w.toNat p.toNat v.toNat q.toNat=(w+ii p+v+kc q).toNat:=by
 unfold S4;rw[Ac,Ab,n8];simp only[BitVec.toNat_add];omega
def dn(b:List Nat)(i:Nat):cB:=(bH b (i+1)).getD i 0
theorem YV(b:List Nat){i t:Nat}(h:i<t):(bH b t).getD i 0=dn b i:=by
 unfold dn;rw[List.getD_eq_getElem?_getD,List.getD_eq_getElem?_getD,mw b h]
theorem FJ(b:List Nat)(t:Nat)(h:16<=t):dn b t=dn b (t-16)+ii (dn b (t-15))+dn b (t-7)+kc (dn b (t-2)):=by
 have e:dn b t=(bH b t).getD (t-16) 0+ii ((bH b t).getD (t-15) 0)+(bH b t).getD (t-7) 0+kc ((bH b t).getD (t-2) 0):=by
  unfold dn;rw[bH,List.getD_eq_getElem?_getD,yK (by rw[I8];exact zT _),I8,wH,if_neg (by omega)]
  rfl
 rw[e,YV b (by omega),YV b (by omega),YV b (by omega),YV b (by omega)]
def rh(b:List Nat)(t:Nat):List Nat:=(List.range 16).map λj=>(dn b (t+j)).toNat
theorem ML(b:List Nat)(t:Nat):FC eA (rh b t)=rh b (t+1):=by
 have e:rh b t=[(dn b (t+0)).toNat,(dn b (t+1)).toNat,(dn b (t+2)).toNat,(dn b (t+3)).toNat,(dn b (t+4)).toNat,(dn b (t+5)).toNat,(dn b (t+6)).toNat,(dn b (t+7)).toNat,(dn b (t+8)).toNat,(dn b (t+9)).toNat,(dn b (t+10)).toNat,(dn b (t+11)).toNat,(dn b (t+12)).toNat,(dn b (t+13)).toNat,(dn b (t+14)).toNat,(dn b (t+15)).toNat]:=rfl;have a:rh b (t+1)=[(dn b (t+1+0)).toNat,(dn b (t+1+1)).toNat,(dn b (t+1+2)).toNat,(dn b (t+1+3)).toNat,(dn b (t+1+4)).toNat,(dn b (t+1+5)).toNat,(dn b (t+1+6)).toNat,(dn b (t+1+7)).toNat,(dn b (t+1+8)).toNat,(dn b (t+1+9)).toNat,(dn b (t+1+10)).toNat,(dn b (t+1+11)).toNat,(dn b (t+1+12)).toNat,(dn b (t+1+13)).toNat,(dn b (t+1+14)).toNat,(dn b (t+1+15)).toNat]:=rfl;have h:=FJ b (t+16) (by omega);rw[show t+16-16=t by omega,show t+16-15=t+1 by omega,show t+16-7=t+9 by omega,show t+16-2=t+14 by omega]at h;rw[e,a];unfold FC;simp only[List.tail_cons,List.headD_cons,List.getD_cons_succ,List.getD_cons_zero,N4,List.cons_append,List.nil_append,Nat.add_zero,vQ,Nat.reduceAdd];rw[h]
theorem CS(s:S8)(b:List Nat):∀(n t:Nat),t+n=64->CU eA 1 (ev.drop t) (Ga (cY s b t)) (rh b t)=Ga (cY s b 64)
 |0,t,h=>by
  obtain rfl:t=64:=by omega
  rfl
 |n+1,t,h=>by
  have k:ev.drop t=ev.getD t 0::ev.drop (t+1):=by
   have l:ev.length=64:=rfl;rw[vG (by omega),List.getD_eq_getElem?_getD,zD (by omega)];rfl
  have w:rh b t=(dn b t).toNat::(rh b t).tail:=rfl;have r:cY s b (t+1)=SX (cY s b t) (CC t) (dn b t):=by rw[cY,YV b (by omega)]
  rw[k,ba0,ML,w,M4,←CS s b n (t+1) (by omega),r]
  rfl
theorem OC(s:S8)(b:List Nat):CU eA 1 ev (Ga s) (rh b 0)=Ga (cY s b 64):=CS s b 64 0 rfl
end
section
open Go
theorem BI(a b:Nat)(f:Nat->Nat):pk (a+b) f=pk a f+2 ^ (64*a)*pk b λi=>f (i+a):=by
 induction a generalizing f with
 |zero=>simp[pk]
 |succ a h=>
  rw[show a+1+b=(a+b)+1 by omega,pk,h,pk,show 64*(a+1)=64+64*a by omega,Nat.pow_add,Nat.mul_add,Nat.mul_assoc];simp only[show ∀i,i+a+1=i+(a+1) from λi=>by omega];omega
def NQ:Nat->(Nat->Nat)->Nat
 |0,f=>f 0
 |k+1,f=>ew (NQ k f) λp=>p+(NQ k λi=>f (i+2 ^ k)) <<< (64*2 ^ k)
theorem kF(k:Nat)(f:Nat->Nat):NQ k f=pk (2 ^ k) f:=by
 induction k generalizing f with
 |zero=>simp[NQ,pk]
 |succ k i=>rw[NQ,J6,i,i,Nat.pow_succ,Nat.mul_two,BI,Nat.shiftLeft_eq,Nat.mul_comm]
def iQ(i:Nat):Nat:=(97+i/256)%256
def gN(i:Nat):Nat:=i%256
def Qq(q i:Nat):Nat:=142672384+iQ (i+q)
def OK(q i:Nat):Nat:=gN (i+q)*16777216
def W5(o:Nat):P8:=⟨0x6a09e667*o,0xbb67ae85*o,0x3c6ef372*o,0xa54ff53a*o,0x510e527f*o,0x9b05688c*o,0x1f83d9ab*o,0x5be0cd19*o⟩
def zn(m o:Nat)(w:List Nat):Nat:=ew (((CU m o ev (W5 o) w).a+0x6a09e667*o) &&& m) λa=>(a+o) >>> 32 &&& o
theorem F9{n m o:Nat}(e:bK n 32 m λ_=>eA)(b:bK n 1 o λ_=>1){w:List Nat}{W:Nat->List Nat}(g:xk n w W)(h:zn m o w=0)(i:Nat)(l:i<n) :
  ((CU eA 1 ev (Ga yb) (W i)).a+0x6a09e667)%2 ^ 32≠eA:=by
 have q:ER n (W5 o) λ_=>Ga yb:=⟨bK.const n 32 _ (by decide) b,bK.const n 32 _ (by decide) b,bK.const n 32 _ (by decide) b,bK.const n 32 _ (by decide) b,bK.const n 32 _ (by decide) b,bK.const n 32 _ (by decide) b,bK.const n 32 _ (by decide) b,bK.const n 32 _ (by decide) b⟩
 have p:=bK.go e b ev (λk j=>(by decide:∀k∈ev,k<2 ^ 32) k j) _ _ _ _ q g
 have f:=((p.a.add (bK.const n 32 0x6a09e667 (by decide) b)).and e (by decide) (by decide)).add (b.up (c:=32) (by decide));unfold zn at h;rw[J6,f.eq,b.eq,BH (f.lt64 (by decide)) (λi=>by show 1<2 ^ (64-32);decide)]at h;have d:=G9 h i l;simp only[n8]at d;intro r;rw[r]at d;exact absurd d (by decide)
def ij(n:Nat):List Nat:=if n=0 then[128]else[129,n]
def fh(l:List Nat):List Nat:=129::(2+(l.flatMap ij).length+1)::129::(l.length+1)::(l.flatMap ij++[128])
def ei(a b:Nat)(l:List Nat):List Nat:=[8,129,2,a,b]++(fh l++cw (5+(fh l).length))
def w4(b:List Nat)(j:Nat):Nat:=(((b.getD (4*j) 0*256+b.getD (4*j+1) 0)*256+b.getD (4*j+2) 0)*256+b.getD (4*j+3) 0)%2 ^ 32
def kO(o w0 s:Nat)(b:List Nat):List Nat:=w0::(s+w4 b 1*o)::(List.range 14).map λj=>w4 b (j+2)*o
theorem aM1(x:cB)(d:Nat):(qS x d).toNat=(x.toNat*256+d%256)%2 ^ 32\/¬d<256:=by
 by_cases h:d<256
 .left;unfold qS;rw[BitVec.toNat_or,BitVec.toNat_shiftLeft,BitVec.toNat_ofNat,wO (show d<2 ^ 32 by omega),wO h,Nat.shiftLeft_eq];have e:x.toNat*2 ^ 8%2 ^ 32=2 ^ 8*(x.toNat%2 ^ 24):=by omega
  rw[e,←Nat.two_pow_add_eq_or_of_lt (by omega)];omega
 .exact .inr h
theorem tI{a b c d:Nat}(i:a<256)(g:b<256)(f:c<256)(e:d<256):(jq a b c d).toNat=((a*256+b)*256+c)*256+d:=by
 unfold jq;rw[(aM1 _ d).resolve_right (λh=>h e),(aM1 _ c).resolve_right (λh=>h f),(aM1 _ b).resolve_right (λh=>h g),(aM1 _ a).resolve_right (λh=>h i)];have e0:(0:cB).toNat=0:=rfl;rw[e0];omega
theorem MN{b:List Nat}(c:∀d∈b,d<256){j:Nat}(a:j<16):(dn b j).toNat=w4 b j:=by
 have g:∀i,b.getD i 0<256:=λi=>by
  rw[List.getD_eq_getElem?_getD]
  cases h:b[i]? with
  |none=>simp
  |some d=>exact c d (zG h)
 unfold dn w4;rw[bH,List.getD_eq_getElem?_getD,yK (by rw[I8];exact zT _),I8,wH,if_pos a];simp only[List.getElem?_cons_zero,Option.getD_some];have l:=g (4*j);have k:=g (4*j+1);have f:=g (4*j+2);have e:=g (4*j+3);rw[tI l k f e];omega
theorem M9{n:Nat}(h:n<256):∀d∈ij n,d<256:=by
 unfold ij;split
 .simp
 .simp;exact h
structure EN(l:List Nat):Prop where
 lt:∀n∈l,n<256
 len:(fh l).length<=50
def yF:=@List.not_mem_nil
def xE:=@or_false
theorem BO{l:List Nat}(h:EN l):∀d∈fh l,d<256:=by
 have g:=h.len;have f:(l.flatMap ij).length+5=(fh l).length:=by simp[fh]
 have j:l.length<=(l.flatMap ij).length:=by
  clear h g f
  induction l with
  |nil=>simp
  |cons a l i=>
   rw[List.flatMap_cons,zI,List.length_cons];have:1<=(ij a).length:=by unfold ij;split<;>simp
   omega
 intro d b;unfold fh at b;simp only[zU,zO,yF,xE]at b;rcases b with rfl|rfl|rfl|rfl|b|rfl
 .omega
 .omega
 .omega
 .omega
 .obtain⟨n,c,e⟩:=List.mem_flatMap.1 b;exact M9 (h.lt n c) d e
 .omega
theorem aF3{a b:Nat}{l:List Nat}(h:EN l)(f:a<256)(e:b<256):∀d∈ei a b l,d<256:=by
 intro d c;unfold ei at c;rcases zO.1 c with c|c
 .simp only[zU,yF,xE]at c;omega
 .rcases zO.1 c with c|c
  .exact BO h d c
  .unfold cw at c;simp only[zU,zO]at c;rcases c with rfl|c|c
   .omega
   .rw[(List.mem_replicate.1 c).2];omega
   .exact kZ _ _ d c
theorem aU9(a b:Nat){l:List Nat}(h:EN l):(ei a b l).length=64:=by
 have c:=h.len;unfold ei;rw[zI,zI,aY3];simp only[List.length_cons,List.length_nil];unfold gP;omega
def O5(m o w0 s:Nat)(l:List Nat):Bool:=Nat.beq (zn m o (kO o w0 s (ei 0 0 l))) 0
theorem Q2(b:List Nat)(j:Nat):w4 b j<2 ^ 32:=vM _ (by decide)
theorem FF{b:List Nat}(a:∀d∈b,d<256)(j:Nat)(h:j<16):(rh b 0).getD j 0=w4 b j:=by
 rw[rh,List.getD_eq_getElem?_getD,qA,xV h,Option.map_some,Option.getD_some,xD,MN a h]
theorem IR{n q m o w0 s:Nat}(A:bK n 32 m λ_=>eA)(p:bK n 1 o λ_=>1)(I:bK n 32 w0 (Qq q))(y:bK n 32 s (OK q)){l:List Nat}(r:EN l)(h:O5 m o w0 s l=true)(i:Nat)(B:i<n) :
  (Fb yb (ei (iQ (i+q)) (gN (i+q)) l)).a.toNat≠eA:=by
 have D:∀i,∀d∈ei (iQ (i+q)) (gN (i+q)) l,d<256:=λi=>aF3 r (by unfold iQ;omega) (by unfold gN;omega);have z:xk n (kO o w0 s (ei 0 0 l)) λi=>rh (ei (iQ (i+q)) (gN (i+q)) l) 0:=by
  refine⟨by simp[kO],λi=>by simp[rh],λj=>?_⟩;by_cases hj:j<16
  .simp only[FF (D _) j hj];rcases j with _|j
   .have e:(λi=>w4 (ei (iQ (i+q)) (gN (i+q)) l) 0)=Qq q:=by
     funext i
     have:iQ (i+q)<256:=by unfold iQ;omega
     simp only[w4,ei,Qq,Nat.mul_zero,xD,List.cons_append,List.getD_cons_zero,List.getD_cons_succ];omega
    rw[e];exact I
   rcases j with _|j
   .have t:w4 (ei 0 0 l) 1<2 ^ 24:=by
     have c:∀k,(ei 0 0 l).getD k 0<256:=λk=>by
      rw[List.getD_eq_getElem?_getD]
      cases h:(ei 0 0 l)[k]? with
      |none=>simp
      |some d=>exact aF3 r (by decide) (by decide) d (zG h)
     have J:(ei 0 0 l).getD (4*1) 0=0:=rfl;unfold w4;rw[J];have H:=c (4*1+1);have G:=c (4*1+2);have F:=c (4*1+3);omega
    have L:=y.lt;have e:(λi=>w4 (ei (iQ (i+q)) (gN (i+q)) l) (0+1))=λi=>OK q i+w4 (ei 0 0 l) 1:=by
     funext i
     have c:gN (i+q)<256:=by unfold gN;omega
     have x:w4 (ei (iQ (i+q)) (gN (i+q)) l) (0+1)=(((gN (i+q)*256+(fh l++cw (5+(fh l).length)).getD 0 0)*256+(fh l++cw (5+(fh l).length)).getD 1 0)*256+(fh l++cw (5+(fh l).length)).getD 2 0)%2 ^ 32:=rfl;have w:w4 (ei 0 0 l) 1=(((0*256+(fh l++cw (5+(fh l).length)).getD 0 0)*256+(fh l++cw (5+(fh l).length)).getD 1 0)*256+(fh l++cw (5+(fh l).length)).getD 2 0)%2 ^ 32:=rfl;have v:∀k,(fh l++cw (5+(fh l).length)).getD k 0<256:=λk=>by
      have:=λd C=>aF3 r (a:=0) (b:=0) (by decide) (by decide) d (yW _ C);rw[List.getD_eq_getElem?_getD]
      cases h:(fh l++cw (5+(fh l).length))[k]? with
      |none=>simp
      |some d=>exact this d (zG h)
     have H:=v 0;have G:=v 1;have F:=v 2;rw[x,w];unfold OK;omega
    rw[e];have g:=y.add ((bK.const n 32 _ (Nat.lt_trans t (by decide)) p));refine⟨g.eq,λi=>?_⟩;have c:gN (i+q)<256:=by unfold gN;omega
    unfold OK;omega
   .have e:(λi=>w4 (ei (iQ (i+q)) (gN (i+q)) l) (j+1+1))=λ_=>w4 (ei 0 0 l) (j+2):=by
     funext i
     unfold w4;have f:∀k,5<=k->(ei (iQ (i+q)) (gN (i+q)) l).getD k 0=(ei 0 0 l).getD k 0:=λk u=>by
      obtain⟨q,rfl⟩:∃q,k=q+5:=⟨k-5,by omega⟩
      rfl
     rw[f _ (by omega),f _ (by omega),f _ (by omega),f _ (by omega)]
    rw[e];have K:(kO o w0 s (ei 0 0 l)).getD (j+1+1) 0=w4 (ei 0 0 l) (j+2)*o:=by
     unfold kO;rw[List.getD_cons_succ,List.getD_cons_succ,List.getD_eq_getElem?_getD,qA,xV (by omega)]
     rfl
    rw[K];exact bK.const n 32 _ (Q2 _ _) p
  .have x:(kO o w0 s (ei 0 0 l)).getD j 0=0:=by
    rw[List.getD_eq_getElem?_getD,yY.2 (by simp[kO];omega)];rfl
   have w:∀b,(rh b 0).getD j 0=0:=λb=>by
    rw[List.getD_eq_getElem?_getD,yY.2 (by simp[rh];omega)];rfl
   simp only[x,w];refine⟨?_,λi=>by decide⟩;have:=PM n 0 λ_=>0
   simpa using this
 have u:=F9 A p z (yH h) i B;rw[OC]at u;unfold Fb S8.add;rw[BitVec.toNat_add];intro E;apply u;rw[←E]
 show((cY yb _ 64).a.toNat+0x6a09e667)%2 ^ 32=(0x6a09e667+(cY yb _ 64).a.toNat)%2 ^ 32;rw[Nat.add_comm]
end
section
open Go
theorem aK9{n:Nat}{f g:Nat->Nat}(h:∀i,i<n->f i=g i):pk n f=pk n g:=by
 induction n generalizing f g with
 |zero=>rfl
 |succ n a=>rw[pk,pk,h 0 (by omega),a λi b=>h (i+1) (by omega)]
theorem Y9(p n:Nat)(h:n<=32):(p |||p <<< 32) >>> n=p >>> n |||p <<< (32-n):=by
 rw[Nat.shiftRight_or_distrib]
 congr 1
 have e:32=(32-n)+n:=by omega
 rw[show p <<< 32=p <<< ((32-n)+n) by rw[←e],Nat.shiftLeft_add,Nat.shiftLeft_shiftRight]
theorem s7(m p i j k:Nat)(b:i<=32)(a:j<=32)(h:k<=32):((p |||p <<< 32) >>> i ^^^ (p |||p <<< 32) >>> j ^^^ (p |||p <<< 32) >>> k) &&& m=k9 m p i j k:=by
 rw[Y9 p i b,Y9 p j a,Y9 p k h,Nat.and_xor_distrib_right,Nat.and_xor_distrib_right];rfl
theorem Ad(m p i j k:Nat)(a:i<=32)(h:j<=32):((p |||p <<< 32) >>> i ^^^ (p |||p <<< 32) >>> j ^^^ p >>> k) &&& m=(eu m p i ^^^ eu m p j ^^^ (p >>> k &&& m)):=by
 rw[Y9 p i a,Y9 p j h,Nat.and_xor_distrib_right,Nat.and_xor_distrib_right];rfl
theorem HZ(a b c:Nat):(a &&& b) ^^^ (c &&& (a ^^^ b))=qa a b c:=by
 unfold qa;rw[Nat.and_xor_distrib_left,Nat.and_comm c a,Nat.and_comm c b,Nat.xor_assoc]
noncomputable def ZS (m o:Nat) (l:List Nat):Nat->Nat->Nat->Nat->Nat->Nat->Nat->Nat->Nat->Nat->Nat->Nat->Nat->Nat->Nat->Nat->Nat->Nat->Nat->Nat->Nat->Nat->Nat->Nat->Nat:=
 List.rec (motive:=λ_=>Nat->Nat->Nat->Nat->Nat->Nat->Nat->Nat->Nat->Nat->Nat->Nat->Nat->Nat->Nat->Nat->Nat->Nat->Nat->Nat->Nat->Nat->Nat->Nat->Nat) (λa _ _ _ _ _ _ _ _ _ _ _ _ _ _ _ _ _ _ _ _ _ _ _=>a)
  (λk _ J a b c d e f g h v i F E w4 D C B A u r q p n w j=>ew (Nat.lor e (Nat.shiftLeft e 32)) λs=>ew (Nat.add (Nat.add (Nat.add (Nat.add h (Nat.land (Nat.xor (Nat.xor (Nat.shiftRight s 6) (Nat.shiftRight s 11)) (Nat.shiftRight s 25)) m)) (Nat.xor (Nat.land e f) (Nat.land (Nat.xor e m) g))) (Nat.mul k o)) v) λx=>ew (Nat.lor a (Nat.shiftLeft a 32)) λt=>ew (Nat.land (Nat.add (Nat.add x (Nat.land (Nat.xor (Nat.xor (Nat.shiftRight t 2) (Nat.shiftRight t 13)) (Nat.shiftRight t 22)) m)) (Nat.xor (Nat.land a b) (Nat.land c (Nat.xor a b)))) m) λI=>ew (Nat.land (Nat.add d x) m) λH=>ew (Nat.lor i (Nat.shiftLeft i 32)) λz=>ew (Nat.lor w (Nat.shiftLeft w 32)) λy=>ew (Nat.land (Nat.add (Nat.add (Nat.add v (Nat.land (Nat.xor (Nat.xor (Nat.shiftRight z 7) (Nat.shiftRight z 18)) (Nat.shiftRight i 3)) m)) u) (Nat.land (Nat.xor (Nat.xor (Nat.shiftRight y 17) (Nat.shiftRight y 19)) (Nat.shiftRight w 10)) m)) m) λG=>J I a b c H e f g i F E w4 D C B A u r q p n w j G) l
theorem CT(m o:Nat):∀(l:List Nat)(a b c d e f g h t r B A w4 z y v u s q p n j w i:Nat),ZS m o l a b c d e f g h t r B A w4 z y v u s q p n j w i=(CU m o l ⟨a,b,c,d,e,f,g,h⟩ [t,r,B,A,w4,z,y,v,u,s,q,p,n,j,w,i]).a
 |[],_,_,_,_,_,_,_,_,_,_,_,_,_,_,_,_,_,_,_,_,_,_,_,_=>rfl
 |k::l,a,b,c,d,e,f,g,h,t,r,B,A,w4,z,y,v,u,s,q,p,n,j,w,i=>by
  rw[ba0];have O:ZS m o (k::l) a b c d e f g h t r B A w4 z y v u s q p n j w i=ew (Nat.lor e (Nat.shiftLeft e 32)) λC=>ew (Nat.add (Nat.add (Nat.add (Nat.add h (Nat.land (Nat.xor (Nat.xor (Nat.shiftRight C 6) (Nat.shiftRight C 11)) (Nat.shiftRight C 25)) m)) (Nat.xor (Nat.land e f) (Nat.land (Nat.xor e m) g))) (Nat.mul k o)) t) λx=>ew (Nat.lor a (Nat.shiftLeft a 32)) λD=>ew (Nat.land (Nat.add (Nat.add x (Nat.land (Nat.xor (Nat.xor (Nat.shiftRight D 2) (Nat.shiftRight D 13)) (Nat.shiftRight D 22)) m)) (Nat.xor (Nat.land a b) (Nat.land c (Nat.xor a b)))) m) λI=>ew (Nat.land (Nat.add d x) m) λH=>ew (Nat.lor r (Nat.shiftLeft r 32)) λF=>ew (Nat.lor w (Nat.shiftLeft w 32)) λE=>ew (Nat.land (Nat.add (Nat.add (Nat.add t (Nat.land (Nat.xor (Nat.xor (Nat.shiftRight F 7) (Nat.shiftRight F 18)) (Nat.shiftRight r 3)) m)) s) (Nat.land (Nat.xor (Nat.xor (Nat.shiftRight E 17) (Nat.shiftRight E 19)) (Nat.shiftRight w 10)) m)) m) λG=>ZS m o l I a b c H e f g r B A w4 z y v u s q p n j w i G:=rfl;rw[O];simp only[J6];rw[CT m o l];have N:=s7 m e 6 11 25 (by decide) (by decide) (by decide);have M:=s7 m a 2 13 22 (by decide) (by decide) (by decide);have L:=Ad m r 7 18 3 (by decide) (by decide);have K:=Ad m w 17 19 10 (by decide) (by decide);have J:=HZ a b c;unfold ua FC aL xL S4 Qs;rw[←N,←M,←J];simp only[List.getD_cons_succ,List.getD_cons_zero,List.headD_cons];rw[←L,←K]
  rfl
def ZL:Nat->List Nat->List Nat
 |n+1,a::b::c::d::l=>ew (Nat.add (Nat.mul (Nat.add (Nat.mul (Nat.add (Nat.mul a 256) b) 256) c) 256) d) λw=>w::ZL n l
 |_,_=>[]
theorem yr:∀(n:Nat)(l:List Nat),l.length=4*n->ZL n l=(List.range n).map λj=>((l.getD (4*j) 0*256+l.getD (4*j+1) 0)*256+l.getD (4*j+2) 0)*256+l.getD (4*j+3) 0
 |0,[],_=>rfl
 |n+1,a::b::c::d::l,h=>by
  rw[ZL,J6,yr n l (by simp at h;omega),List.range_succ_eq_map,List.map_cons,vA]
  rfl
noncomputable def YF (m o w0 s:Nat):List Nat->Bool
 |[p,n,l,k,j,i,h,g,f,e,d,c,b,x]=>Nat.beq (ew (Nat.land (Nat.add (ZS m o ev (Nat.mul 0x6a09e667 o) (Nat.mul 0xbb67ae85 o) (Nat.mul 0x3c6ef372 o) (Nat.mul 0xa54ff53a o) (Nat.mul 0x510e527f o) (Nat.mul 0x9b05688c o) (Nat.mul 0x1f83d9ab o) (Nat.mul 0x5be0cd19 o) w0 s (Nat.mul p o) (Nat.mul n o) (Nat.mul l o) (Nat.mul k o) (Nat.mul j o) (Nat.mul i o) (Nat.mul h o) (Nat.mul g o) (Nat.mul f o) (Nat.mul e o) (Nat.mul d o) (Nat.mul c o) (Nat.mul b o) (Nat.mul x o)) (Nat.mul 0x6a09e667 o)) m) λa=>Nat.land (Nat.shiftRight (Nat.add a o) 32) o) 0
 |_=>false
theorem IP(m o w0 s:Nat):∀(l:List Nat),YF m o w0 s l=true->zn m o (w0::s::l.map λx=>x*o)=0
 |[t,r,q,p,n,k,j,i,g,f,e,d,c,b],h=>by
  have a:=yH h;rw[J6,CT]at a;unfold zn;rw[J6];exact a
noncomputable def qx (m o w0 s:Nat):List Nat->Bool
 |a::b::c::l=>YF m o w0 (Nat.add s (Nat.mul (Nat.add (Nat.mul (Nat.add (Nat.mul a 256) b) 256) c) o)) (ZL 14 l)
 |_=>false
def LO(l:List Nat):List Nat:=fh l++cw (5+(fh l).length)
theorem IQ{m o w0 s:Nat}{l:List Nat}(f:EN l)(h:qx m o w0 s (LO l)=true):O5 m o w0 s l=true:=by
 have e:∀d∈ei 0 0 l,d<256:=aF3 f (by decide) (by decide);have n:=aU9 0 0 f;have e0:ei 0 0 l=8::129::2::0::0::LO l:=rfl;rw[e0]at e n;unfold O5;rw[e0];generalize LO l=r at *
 match r,h with
 |a::b::c::t,h=>
  have p:t.length=4*14:=by simp at n;omega
  unfold qx at h;have i:=IP _ _ _ _ _ h;rw[yr 14 t p]at i;have w:a<256:=e a (by simp);have q:b<256:=e b (by simp);have v:c<256:=e c (by simp);have g:∀k,t.getD k 0<256:=λk=>by
   rw[List.getD_eq_getElem?_getD]
   cases h:t[k]? with
   |none=>simp
   |some d=>exact e d (by have:=zG h;simp[this])
  have u:kO o w0 s (8::129::2::0::0::a::b::c::t)=w0::(s+((a*256+b)*256+c)*o)::((List.range 14).map λj=>((t.getD (4*j) 0*256+t.getD (4*j+1) 0)*256+t.getD (4*j+2) 0)*256+t.getD (4*j+3) 0).map λx=>x*o:=by
   unfold kO;rw[vA]
   congr 2
   .congr 2
    unfold w4;simp only[Nat.mul_one,Nat.reduceAdd,List.getD_cons_succ,List.getD_cons_zero];omega
   .refine List.map_congr_left λj _=>?_;have C:=g (4*j);have B:=g (4*j+1);have A:=g (4*j+2);have y:=g (4*j+3);unfold w4;rw[show 4*(j+2)=4*j+8 by omega];simp only[List.getD_cons_succ,Function.comp_apply]
    congr 1
    omega
  rw[u];exact zM (λz=>Nat.beq z 0) i
def lJ(n O I h:Nat):Nat->(Nat->Nat)->Nat
 |0,_=>0
 |r+1,g=>ew (lJ n O I h r λj=>g (j+1)) λp=>(g 0*O+h*I)+p <<< (64*n)
theorem pT(n h:Nat)(c:0<n)(r:Nat)(g:Nat->Nat):lJ n (pk n λ_=>1) (pk n id) h r g=pk (r*n) λi=>g (i/n)+h*(i%n):=by
 induction r generalizing g with
 |zero=>simp[lJ,pk]
 |succ r b=>
  rw[lJ,J6,b,show(r+1)*n=n+r*n by rw[vC,Nat.one_mul,Nat.add_comm],BI,Nat.shiftLeft_eq,Nat.mul_comm (pk _ _) (2 ^ (64*n)),PM,PM,BK];have e:(λi=>g ((i+n)/n)+h*((i+n)%n))=λi=>g (i/n+1)+h*(i%n):=by
   funext i
   rw[Nat.add_div_right _ c,Nat.add_mod_right]
  rw[e]
  congr 1
  exact aK9 λi a=>by rw[Nat.div_eq_of_lt a,wO a,Nat.mul_one];rfl
def oL:Nat:=NQ 7 λ_=>1
def iL:Nat:=NQ 7 id
def OD(c j:Nat):Nat:=142672384+(97+(j+13*c)/2)%256
def CX(c j:Nat):Nat:=(j+13*c)%2*2147483648
noncomputable def ab (p:List (List Nat)):Bool:=ew oL λO=>ew iL λI=>ew (lJ 128 O I 0 13 λ_=>1) λo=>ew (Nat.mul eA o) λm=>ew (lJ 128 O I 16777216 13 (CX 0)) λa=>ew (lJ 128 O I 16777216 13 (CX 1)) λs=>
 ew (lJ 128 O I 0 13 (OD 0)) λd=>ew (lJ 128 O I 0 13 (OD 1)) λc=>ew (lJ 128 O I 0 13 (OD 2)) λb=>ew (lJ 128 O I 0 13 (OD 3)) λu=>
 p.all λl=>qx m o d a (LO l)&&qx m o c s (LO l)&&qx m o b a (LO l)&&qx m o u s (LO l)
theorem KX(c:Nat):bK 1664 32 (lJ 128 oL iL 0 13 (OD c)) (Qq (1664*c))/\bK 1664 32 (lJ 128 oL iL 16777216 13 (CX c)) (OK (1664*c)):=by
 have a:oL=pk 128 λ_=>1:=kF 7 _;have e:iL=pk 128 id:=kF 7 _;rw[a,e,pT 128 _ (by decide),pT 128 _ (by decide)];refine⟨⟨aK9 λi _=>?_,λi=>by unfold Qq iQ;omega⟩,⟨aK9 λi _=>?_,λi=>by unfold OK gN;omega⟩⟩
 .unfold OD Qq iQ;omega
 .unfold CX OK gN;omega
theorem IS{p:List (List Nat)}(h:ab p=true){l:List Nat}(r:l∈p)(d:EN l)(i:Nat)(w:i<6656):(Fb yb (ei (iQ i) (gN i) l)).a.toNat≠eA:=by
 have o:bK 1664 1 (lJ 128 oL iL 0 13 λ_=>1) λ_=>1:=by
  have v:oL=pk 128 λ_=>1:=kF 7 _;have e:iL=pk 128 id:=kF 7 _;rw[v,e,pT 128 _ (by decide)];exact⟨aK9 λi _=>by omega,λi=>by decide⟩
 unfold ab at h;simp only[J6]at h;have b:=yA.1 h l r;simp only[zJ]at b;obtain⟨⟨⟨b,t⟩,g⟩,f⟩:=b;have n:=bK.const 1664 32 eA (by decide) o;have e:CX 0=CX 2:=by funext i;unfold CX;omega
 have u:CX 1=CX 3:=by funext i;unfold CX;omega
 have k:∀c,1664*c<=i->i<1664*c+1664->qx (Nat.mul eA (lJ 128 oL iL 0 13 λ_=>1)) (lJ 128 oL iL 0 13 λ_=>1) (lJ 128 oL iL 0 13 (OD c)) (lJ 128 oL iL 16777216 13 (CX c)) (LO l)=true->(Fb yb (ei (iQ i) (gN i) l)).a.toNat≠eA:=λc m j s=>by
  have:=IR (q:=1664*c) n o (KX c).1 (KX c).2 d (IQ d s) (i-1664*c) (by omega);rw[Nat.sub_add_cancel m]at this;exact this
 rw[e]at g;rw[u]at f;by_cases c1:i<1664
 .exact k 0 (by omega) (by omega) b
 by_cases c2:i<3328
 .exact k 1 (by omega) (by omega) t
 by_cases c3:i<4992
 .exact k 2 (by omega) (by omega) g
 .exact k 3 (by omega) (by omega) f
end
section
open Go
theorem Y'{n:Nat}(h:n<256):bF (n:Int)=ij n:=by
 have m:yg (n:Int)=n:=by unfold yg;split<;>omega
 have b:decide ((n:Int)<0)=false:=yE (by omega);unfold bF ij;rw[m,b];by_cases a:n=0
 .subst a;rw[QM];rfl
 .rw[if_neg a,kJ a,Nat.div_eq_of_lt h,QM];simp[nM,hK,wO h]
theorem GB(n:Nat):1<=(ij n).length:=by unfold ij;split<;>simp
theorem C3(l:List Nat):l.length<=(l.flatMap ij).length:=by
 induction l with
 |nil=>simp
 |cons a l i=>rw[List.flatMap_cons,zI,List.length_cons];have:=GB a;omega
theorem nt{α β:Type}{f g:α->List β}:∀{l:List α},(∀a∈l,f a=g a)->l.flatMap f=l.flatMap g
 |[],_=>rfl
 |a::l,h=>by rw[List.flatMap_cons,List.flatMap_cons,h a yN,nt λb c=>h b (yQ _ c)]
def Q3(d:List Nat):Nat:=(d.take 6).foldl (λn b=>n*256+b) 0
def w9(s:List Nat)(p:List Int)(t:Int):Nat:=Q3 (ED 8 [s,dU (p++[t])])
theorem Ge{l:List Nat}(h:EN l)(a b:Nat):(8::[[a,b],dU (l.map Int.ofNat++[0])].flatMap λp=>bF p.length++p)=[8,129,2,a,b]++fh l:=by
 have q:=h.len;have o:(l.flatMap ij).length+5=(fh l).length:=by simp[fh]
 have m:=C3 l;have k:dU (l.map Int.ofNat++[0])=129::(l.length+1)::(l.flatMap ij++[128]):=by
  unfold dU;have j:((l.map Int.ofNat++[(0:Int)]).length:Int)=((l.length+1:Nat):Int):=by simp
  have i:(l.map Int.ofNat).flatMap bF=l.flatMap ij:=by
   rw[List.flatMap_map];exact nt λn c=>Y' (h.lt n c)
  have g:bF 0=[128]:=Y' (n:=0) (by decide);rw[j,Y' (by omega),List.flatMap_append,i,List.flatMap_singleton,g];unfold ij;rw[if_neg (by omega)];rfl
 have f:bF (([a,b]:List Nat).length:Int)=[129,2]:=Y' (n:=2) (by decide);rw[List.flatMap_cons,List.flatMap_singleton,f,k];have d:((129::(l.length+1)::(l.flatMap ij++[128])).length:Int)=((2+(l.flatMap ij).length+1:Nat):Int):=by
  simp only[List.length_cons,zI,List.length_nil];omega
 rw[d,Y' (by omega)];have e:ij (2+(l.flatMap ij).length+1)=[129,2+(l.flatMap ij).length+1]:=by unfold ij;rw[if_neg (by omega)]
 rw[e]
 rfl
theorem FE{l:List Nat}(h:EN l)(a b:Nat):w9 [a,b] (l.map Int.ofNat) 0=Q3 ((List.range 32).map (jO (Fb yb (ei a b l)))):=by
 have d:=aU9 a b h;have M:([8,129,2,a,b]++fh l)++cw ([8,129,2,a,b]++fh l).length=ei a b l:=by
  unfold ei;rw[zV,zI]
  rfl
 have c:([8,129,2,a,b]++fh l).length+(cw ([8,129,2,a,b]++fh l).length).length=64:=by
  rw[←zI,M];exact d
 unfold w9 ED;rw[Ge h,o8,M,c];have e:fa (ei a b l) (64/64)=Fb yb (ei a b l):=by
  show Fb (fa (ei a b l) 0) (((ei a b l).drop (64*0)).take 64)=_;rw[Nat.mul_zero,List.drop_zero,yL (by omega)]
  rfl
 rw[e];unfold Q3;rw[List.take_take]
 rfl
theorem MO(s:S8):Q3 ((List.range 32).map (jO s))=s.a.toNat*65536+s.b.toNat/65536:=by
 have e:Q3 ((List.range 32).map (jO s))=((((((0*256+jO s 0)*256+jO s 1)*256+jO s 2)*256+jO s 3)*256+jO s 4)*256+jO s 5):=rfl;have f:jO s 0=s.a.toNat/16777216%256:=rfl;have d:jO s 1=s.a.toNat/65536%256:=rfl;have c:jO s 2=s.a.toNat/256%256:=rfl;have b:jO s 3=s.a.toNat/1%256:=rfl;have a:jO s 4=s.b.toNat/16777216%256:=rfl;have h:jO s 5=s.b.toNat/65536%256:=rfl;have i:=s.a.isLt;have g:=s.b.isLt;rw[e,f,d,c,b,a,h];omega
theorem FD{p:List (List Nat)}(h:ab p=true){l:List Nat}(b:l∈p)(a:EN l)(i:Nat)(c:i<6656):w9 [iQ i,gN i] (l.map Int.ofNat) 0<281474976645120:=by
 have d:=IS h b a i c;rw[FE a,MO];generalize Fb yb (ei (iQ i) (gN i) l)=s at *;have f:=s.a.isLt;have e:=s.b.isLt;unfold eA at d;omega
end
section
open Go
def oW(s:List (List Nat)):List Nat:=8::s.flatMap λp=>bF p.length++p
structure Kb(ps:List (List Nat)):Prop where
 n:ps.length<=10
 l:∀p∈ps,p.length<=1000
 b:∀p∈ps,∀d∈p,d<256
theorem Kb.one{s:List (List Nat)}(h:Kb s):∀p∈s,(bF p.length++p).length<=1009:=λp a=>by
 have:=h.l p a;have:=E6 (n:=(p.length:Int)) (qN (by omega));rw[zI];omega
theorem Kb.len{s:List (List Nat)}(h:Kb s)(i:Nat):(8::(s.take i).flatMap λp=>bF p.length++p).length<=20000:=by
 have e:=PR (f:=λp:List Nat=>bF p.length++p) (l:=s.take i) (c:=1009) (λp a=>h.one p (xG a));have d:(s.take i).length<=s.length:=by rw[zR];omega
 have b:=h.n;have:(s.take i).length*1009<=10*1009:=xZ _ (by omega);rw[List.length_cons];omega
theorem Kb.lt{s:List (List Nat)}(h:Kb s):∀d∈oW s,d<256:=by
 intro d a;unfold oW at a;rcases zU.1 a with rfl|a
 .decide
 .obtain⟨p,c,a⟩:=List.mem_flatMap.1 a;rcases zO.1 a with b|b
  .exact kY (n:=(p.length:Int)) (qN (by have:=h.l p c;omega)) d b
  .exact h.b p c d b
theorem Ao{A B:Prop}(k:B)(h:ar B->A:=by intro q7;(first|refine bA ?_|refine aA ?_|(refine' ah ?hc ?_;(case hc=>exact HW)));exact q7.1):A:=h ⟨k⟩
theorem bn7{A B:Prop}(k:B)(h:ar B->A:=by intro q7;(first|refine bA ?_|refine mx ?_|(refine' ah ?hc ?_;(case hc=>exact HW)));exact q7.1):A:=h ⟨k⟩
theorem sW{p:Prop}(h:p:=by
 exact⟨(i+1,_,s'),(aj aw),Sc.refl _,⟨by simp only;omega,hr⟩,by simp only;omega⟩):p:=h
theorem ur(s:List (List Nat))(h:Kb s):APure prog 273 [iD 8,.sl 1 (s.map λp=>[cW p])] (Ah (oW s)):=by
 have k:=h.n;refine ao func273 ntmps273 λu=>?_
 repeat refine Ao ?_
 refine Ot.yd (wx (m:=((8:Nat):Int)) rfl rfl underlying3 underlying5 rfl) ?_
 repeat refine bn7 ?_
 refine Bx.r ?_;refine KN ai rfl rfl rfl rfl rfl rfl rfl rfl rfl rfl (by decide) (λo=>?_)
 repeat refine Ao ?_
 refine aV mixed ai (γ:=Nat×Value×af) (λg=>[(6,iD g.1),(5,.v g.2.1)]) (λg=>g.2.2) (λg=>g.1<=s.length/\RY (8::(s.take g.1).flatMap λp=>bF p.length++p) g.2.1 g.2.2) (λg=>s.length-g.1) (0,.slice (some ⟨o,0,none⟩) 1 1,[(o,.cells 5 [yD 8])]) (aj aw) (Sc.refl _) ⟨zW _,PW (xs:=[yC 8]) o (by simp) (by decide)⟩ ?_;rintro⟨i,v,r⟩ ⟨hi,w⟩;simp only at hi w⊢;by_cases hil:i<s.length
 .obtain⟨p,b⟩:∃p,s[i]?=some p:=⟨_,zD hil⟩
  have j:s[((i:Nat):Int).toNat]?=some p:=b;have e:=zG b;have f:=h.l p e;have HW:=uw (l:=p) (by omega) (h.b p e);have z:=h.len (i+1);have a:ae 5 1 ((8::(s.take i).flatMap λp=>bF p.length++p).map yC) v r:=w
  repeat refine Ao ?_
  refine Ap.go rfl rfl rfl rfl a (bR _) (sg _) (zs:=(8::(s.take (i+1)).flatMap λp=>bF p.length++p).map yC) (by rw[aE8 b];simp only[yB,List.map_cons,List.cons_append]) (oY z (by decide)) (by rw[zL];omega) (λs'=>s') cZ (λt q s' hr=>?_)
  repeat refine Ao ?_
  exact sW
 .obtain rfl:i=s.length:=by omega
  rw[yM]at w
  repeat refine Ao ?_
  exact Rt.vs (Vs.row w (bR _))
theorem NI(s:List (List Nat))(h:Kb s):APure prog 264 [iD 8,.sl 1 (s.map λp=>[cW p])] (IW (ED 8 s)):=by
 have HI:=ur s h;have z:=h.len s.length;rw[yM]at z;have HS:=A8 (oW s) (by unfold oW;omega) h.lt;have e:IW (ED 8 s)=IW (o8 (oW s)):=by
  unfold IW ED
  congr 1
 rw[e];generalize o8 (oW s)=H at *;unfold IW at HS⊢;refine ao func264 ntmps264 λa=>?_
 repeat' first|refine RO ?_|intro b;conv=>whnf
 refine Sv.perm (tb:=351) (cs':=(List.range 16).map λi=>yD (H.getD i 0)) (zH _) rfl (by decide) rfl rfl ?_
 repeat' first|refine RO ?_|intro b;conv=>whnf
 exact Rt.pure rfl
theorem qp(m:List Nat):∀d∈o8 m,d<256:=by
 intro d h;unfold o8 at h;obtain⟨i,_,rfl⟩:=xM.1 h;exact vM _ (by decide)
theorem nL(p:List (List Nat))(i:Nat):(ED 8 p).getD i 0<256:=by
 rw[List.getD_eq_getElem?_getD]
 cases h:(ED 8 p)[i]? with
 |none=>simp
 |some d=>exact qp _ d (xG (zG h))
def j0(d:List Nat)(k:Nat):Nat:=(d.take k).foldl (λn b=>n*256+b) 0
theorem jZ(d:List Nat)(h:∀i,d.getD i 0<256):∀k,j0 d k<256 ^ k
 |0=>by simp[j0]
 |k+1=>by
  have e:=jZ d h k;unfold j0 at *;rw[xC,List.foldl_append];have a:=h k;rw[List.getD_eq_getElem?_getD]at a
  cases c:d[k]? with
  |none=>simp only[Option.toList_none,List.foldl_nil,Nat.pow_succ];omega
  |some b=>rw[c]at a;simp only[Option.getD_some]at a;simp only[Option.toList_some,List.foldl_cons,List.foldl_nil,Nat.pow_succ];omega
theorem vo(p:List (List Nat)):(ED 8 p).length=16:=by unfold ED o8;simp
theorem tK{d:List Nat}{k b:Nat}(h:d[k]?=some b):j0 d (k+1)=j0 d k*256+b:=by
 unfold j0;rw[xC,h,List.foldl_append];rfl
structure xg(p:List Int):Prop where
 n:p.length<=20
 v:∀v∈p,cA v
structure fX(s:List Nat):Prop where
 n:s.length<=32
 v:∀d∈s,d<256
theorem iW{A B:Prop}(k:B)(h:ar B->A:=by intro q7;(first|refine GR ?_|refine aA ?_|(refine' ah ?hc ?_;(case hc=>first|exact HL|exact HO)));exact q7.1):A:=h ⟨k⟩
theorem rZ(sd:List Nat)(hs:fX sd)(a:List Int)(k:xg a)(t:Int)(ht:cA t):APure prog 244 [cW sd,bi a,iD t] (iD ((w9 sd a t:Nat):Int)):=by
 have s:=k.n;have g:∀v∈a++[t],cA v:=λv h=>by
  rcases zO.1 h with h|h
  .exact k.v v h
  .rw[zN]at h;subst h;exact ht
 have o:(a++[t]).length<=21:=by rw[zI,List.length_singleton];omega
 have HL:=Bb (l:=a++[t]) (by omega) g;have x:=sO g (qN (by omega));have f:=Iw (qN (by omega)) g;have P:Kb [sd,dU (a++[t])]:=⟨by simp,λp h=>by
  simp only[zU,yF,xE]at h;rcases h with rfl|rfl
  .have:=hs.n;omega
  .omega,λp h=>by
  simp only[zU,yF,xE]at h;rcases h with rfl|rfl
  .exact hs.v
  .exact f⟩
 have HO:=NI _ P;have r:=nL [sd,dU (a++[t])];have y:=vo [sd,dU (a++[t])];have e:w9 sd a t=j0 (ED 8 [sd,dU (a++[t])]) 6:=rfl;rw[e];clear e;generalize ED 8 [sd,dU (a++[t])]=H at *;unfold IW at HO;refine ao func244 ntmps244 λF=>?_
 repeat' first|refine iW ?_|intro b;conv=>whnf
 refine Ap.go rfl rfl rfl rfl (ae.e0 _ _ (some ⟨b,0,none⟩)) (bR _) (JS a) (zs:=a.map λn=>[iD n]) rfl (by simp;omega) (by simp;omega) (λu=>u) cZ (λE D z j=>?_)
 repeat' first|refine iW ?_|intro b;conv=>whnf
 refine Ap.frz rfl rfl rfl rfl j (bR _) rfl (zs:=(a++[t]).map λn=>[iD n]) (by rw[yB];rfl) (by simp;omega) (by simp;omega) ?_
 repeat' first|refine iW ?_|intro b;conv=>whnf
 refine Ot.yd (yj (l:=dU (a++[t])) rfl rfl f underlying147 underlying5 underlying9) ?_
 repeat' first|refine iW ?_|intro b;conv=>whnf
 refine Sv.perm (tb:=351) (cs':=(List.range 16).map λi=>yD (H.getD i 0)) (zH _) rfl (by decide) rfl rfl ?_
 repeat' first|refine iW ?_|intro b;conv=>whnf
 refine aV mixed ai (γ:=Nat) (λi=>[(10,iD i),(9,iD ((j0 H i:Nat):Int))]) (λ_=>[(b,.cells 351 ((List.range 16).map λi=>yD (H.getD i 0)))]) (λi=>i<=6) (λi=>6-i) 0 (aj aw) (Sc.refl _) (by decide) ?_;intro i hi;by_cases hi6:i<6
 .have hx:H[i]?=some (H.getD i 0):=by rw[List.getD_eq_getElem?_getD,zD (by omega)];rfl
  have s:((List.range 16).map λi=>yD (H.getD i 0))[i]?=some (yD (H.getD i 0)):=by rw[qA,xV (by omega)];rfl
  have w:=tK hx;have hb:j0 H i<1099511627776:=yI (jZ H r i) (Nat.pow_le_pow_right (by decide) (by omega:i<=5));have C:=r i
  repeat' first|refine iW ?_|intro b;conv=>whnf
  refine Ot.yd (jf ai (m:=i) (q:=i) rfl rfl rfl rfl rfl ?hq1 ?hq2 (xD _)) ?_;(case hq1=>omega);(case hq2=>omega);repeat'(first|refine iW ?_|intro b;conv=>whnf)
  refine Ld.cellm (tb:=351) (List.Mem.head _) s ?_
  repeat' first|refine iW ?_|intro b;conv=>whnf
  refine Ot.yd (wx (m:=((H.getD i 0:Nat):Int)) rfl rfl underlying5 underlying3 (aV4 ⟨by omega,by omega⟩)) ?_
  repeat' first|refine iW ?_|intro b;conv=>whnf
  exact⟨i+1,(aj aw),Sc.refl _,by omega,by omega⟩
 .obtain rfl:i=6:=by omega
  repeat' first|refine iW ?_|intro b;conv=>whnf
  exact Rt.pure rfl
end
section
open Go
def H'(n:Int):Int:=281474976710656-(281474976710656:Int).tmod n
def oA(sd:List Nat)(p:List Int)(n:Int):Prop:=(n≠0 /\ -1099511627776<=n/\n<=1099511627776)/\((w9 sd p 0:Nat):Int)<H' n
def dL(sd:List Nat)(p:List Int)(n:Int):Int:=((w9 sd p 0:Nat):Int).tmod n
theorem jY(sd:List Nat)(p:List Int)(t:Int):w9 sd p t<281474976710656:=jZ _ (nL _) 6
theorem zo{a n:Int}(b:0<=a)(h:n≠0)(c:-1099511627776<=n/\n<=1099511627776):0<=a.tmod n/\a.tmod n<1099511627776:=by
 refine⟨Int.tmod_nonneg _ b,?_⟩;by_cases h1:0<n
 .have:=Int.tmod_lt_of_pos a h1;omega
 .have d:a.tmod n=a.tmod (-n):=by rw[Int.tmod_neg]
  have:=Int.tmod_lt_of_pos a (show 0 < -n by omega);omega
theorem E0{sd:List Nat}{p:List Int}{n:Int}(h:0<n):0<=dL sd p n/\dL sd p n<n:=
 ⟨Int.tmod_nonneg _ (by omega),Int.tmod_lt_of_pos _ h⟩
theorem Nk{A B:Prop}(k:B)(h:ar B->A:=by intro q7;(first|refine bA ?_|refine aA ?_|(refine' ah ?hc ?_;(case hc=>exact rZ sd hs p hp 0 ⟨by decide,by decide⟩)));exact q7.1):A:=h ⟨k⟩
theorem Qv(sd:List Nat)(hs:fX sd)(p:List Int)(hp:xg p)(n:Int)(h:oA sd p n):APure prog 201 [cW sd,bi p,iD n] (iD (dL sd p n)):=by
 obtain⟨h0,h1⟩:=h;have w:=jY sd p 0;have ht:=zo (a:=281474976710656) (by decide) h0.1 h0.2;unfold H' at h1;refine ao func201 ntmps201 λb=>?_
 repeat refine Nk ?_
 refine aV mixed ai (γ:=Unit) (λ_=>[(9,iD 0)]) (λ_=>[]) (λ_=>True) (λ_=>0) () (aj aP) (Sc.refl _) trivial ?_;rintro - -
 repeat refine Nk ?_
 refine Rt.pure (zM iD ?_)
 rfl
theorem mK(sd:List Nat)(hs:fX sd)(p:List Int)(hp:p.length<=8):APure prog 202 [cW sd,bi p] (bD true):=by
 have z:=jT sd;have h1:=hs.n;refine ao func202 ntmps202 λa=>?_
 repeat refine Nk ?_
 refine Rt.pure (zM bD ?_);simp;omega
def fU(sd:List Nat)(p:List Int)(lo h:Int):Int:=lo+dL sd p (h-lo+1)
structure MA(a b:Int):Prop where
 lo:-1099511627776<=a
 hi:b<=1099511627776
 le:a<=b
 small:b-a<1099511627776
theorem bn6{A B:Prop}(k:B)(h:ar B->A:=by intro q7;(first|refine bA ?_|refine aA ?_|(refine' ah ?hc ?_;(case hc=>first|exact HV|exact HB)));exact q7.1):A:=h ⟨k⟩
theorem aG7(sd:List Nat)(hs:fX sd)(p:List Int)(b:p.length<=8)(i:∀v∈p,cA v)(lo hi:Int)(h:MA lo hi)(a:oA sd p (hi-lo+1)):APure prog 156 [cW sd,bi p,iD lo,iD hi] (.tup [iD (fU sd p lo hi),iD 0]):=by
 have P:xg p:=⟨by omega,i⟩
 have h1:=h.lo;have h2:=h.hi;have h3:=h.le;have h4:=h.small;have hb:=E0 (sd:=sd) (p:=p) (n:=hi-lo+1) (by omega);have HV:=mK sd hs p (by omega);have HB:=Qv sd hs p P _ a;unfold fU;refine ao func156 ntmps156 λe=>?_
 repeat refine bn6 ?_
 exact Rt.pure rfl
theorem bD3{A B:Prop}(k:B)(h:ar B->A:=by intro q7;(first|refine bA ?_|refine aA ?_|(refine' ah ?hc ?_;(case hc=>exact HV)));exact q7.1):A:=h ⟨k⟩
theorem ww{p:Nat->Prop}{k:Nat}(h:p k):∃q,q<=k/\p q/\∀j,j<q->¬p j:=by
 induction k using Nat.strongRecOn with
 |ind k i=>
  by_cases hj:∃j,j<k/\p j
  .obtain⟨j,b,a⟩:=hj;obtain⟨q,d,c,g⟩:=i j b a;exact⟨q,by omega,c,g⟩
  .exact⟨k,zT _,h,λj b a=>hj ⟨j,b,a⟩⟩
theorem aM8{l:List Int}{i:Nat}{y:Int}(h:l[i]?=some y):(l.take (i+1)).sum=(l.take i).sum+y:=by
 rw[xC,h];simp
theorem OR{p:Prop}(h:p:=by
 induction l with
 |nil=>simp
 |cons a l ih=>
  have h1:=h a yN;have h2:=ih λw hw=>h w (yQ _ hw);rw[List.sum_cons,List.length_cons];omega):p:=h
theorem Gk{l:List Int}(h:∀w∈l,0<=w/\w<=1048576):0<=l.sum/\l.sum<=1048576*(l.length:Int):=OR
structure EJ(l:List Int):Prop where
 n:l.length<=12
 v:∀w∈l,0<=w/\w<=1048576
 pos:0<l.sum
theorem EJ.pre{l:List Int}(h:EJ l)(i:Nat):0<=(l.take i).sum/\(l.take i).sum<=12582912:=by
 have c:=Gk (l:=l.take i) (λw a=>h.v w (xG a));have b:(l.take i).length<=l.length:=by rw[zR];omega
 have:=h.n;omega
theorem po(l:List Int)(h:EJ l):APure prog 203 [bi l] (iD l.sum):=by
 have e:=h.n;have b:=h.pos;refine ao func203 ntmps203 λf=>?_
 repeat refine aq ?_
 refine aV mixed ai (γ:=Nat) (λi=>[(3,iD (l.take i).sum),(4,iD i)]) (λ_=>[]) (λi=>i<=l.length) (λi=>l.length-i) 0 (aj aw) (Sc.refl _) (zW _) ?_;intro i hi;by_cases hil:i<l.length
 .obtain⟨y,a⟩:∃y,l[i]?=some y:=⟨_,zD hil⟩
  have hy:l[((i:Nat):Int).toNat]?=some y:=a;have v:=h.v y (zG a);have hb:=h.pre i;have hs:=aM8 a
  repeat refine aq ?_
  exact⟨i+1,(aj aw),Sc.refl _,by omega,by omega⟩
 .obtain rfl:i=l.length:=by omega
  rw[yM]
  repeat refine aq ?_
  refine Rt.pure (zM iD ?_)
  rfl
theorem Nj{A B:Prop}(k:B)(h:ar B->A:=by intro q7;(first|refine bA ?_|refine aA ?_|(refine' ah ?hc ?_;(case hc=>first|exact HV|exact HB|exact HW)));exact q7.1):A:=h ⟨k⟩
theorem GZ(sd:List Nat)(hs:fX sd)(p:List Int)(r:p.length<=8)(f:∀v∈p,cA v)(l:List Int)(h:EJ l)(u:oA sd p l.sum):∃v:Nat,v<l.length/\APure prog 152 [cW sd,bi p,bi l] (.tup [iD v,iD 0]):=by
 have z:=h.n;have s:=h.pos;have hb:=E0 (sd:=sd) (p:=p) h.pos;have HV:=mK sd hs p r;have HB:=Qv sd hs p ⟨by omega,f⟩ _ u;have HW:=po l h;generalize dL sd p l.sum=x at *;obtain⟨v,o,(j:x<(l.take (v+1)).sum),e⟩:=ww (p:=λk=>x<(l.take (k+1)).sum) (k:=l.length-1) (by
  have h1:0<l.length:=by
   cases l with
   |nil=>simp at s
   |cons=>simp
  show x<(l.take (l.length-1+1)).sum;rw[show l.length-1+1=l.length by omega,yM];exact hb.2)
 have b:v<l.length:=by
  have h1:0<l.length:=by
   cases l with
   |nil=>simp at s
   |cons=>simp
  omega
 refine⟨v,b,?_⟩;refine ao func152 ntmps152 λC=>?_
 repeat refine Nj ?_
 refine aV mixed ai (γ:=Nat) (λi=>[(10,iD (l.take i).sum),(11,iD i)]) (λ_=>[]) (λi=>i<=v) (λi=>v-i) 0 (aj aw) (Sc.refl _) (zW _) ?_;intro i hi;obtain⟨y,a⟩:∃y,l[i]?=some y:=⟨_,zD (by omega)⟩
 have hy:l[((i:Nat):Int).toNat]?=some y:=a;have g:=h.v y (zG a);have w:=h.pre i;have q:=aM8 a;by_cases hiv:i<v
 .have t:=e i hiv
  repeat refine Nj ?_
  exact⟨i+1,(aj aw),Sc.refl _,by omega,by omega⟩
 .obtain rfl:i=v:=by omega
  repeat refine Nj ?_
  exact Rt.pure rfl
end
section
theorem BL:∀(N:Nat)(g:Nat->Nat),(∀i,i<=N->g i<N)->∃i j,i<j/\j<=N/\g i=g j
 |0,g,h=>absurd (h 0 (zT 0)) (by omega)
 |N+1,g,h=>by
  by_cases hx:∃i,i<N+1/\g i=g (N+1)
  .obtain⟨i,d,e⟩:=hx;exact⟨i,N+1,d,zT _,e⟩
  .have c:∀i,i<N+1->g i≠g (N+1):=λi d e=>hx ⟨i,d,e⟩;have m:=h (N+1) (zT _);obtain⟨i,j,k,l,f⟩:=BL N (λi=>if g i<g (N+1)then g i else g i-1) (λi d=>by
    have k:=h i (by omega);have l:=c i (by omega)
    show(if g i<g (N+1)then g i else g i-1)<N;split<;>omega)
   refine⟨i,j,k,by omega,?_⟩;have a:=c i (by omega);have b:=c j (by omega);split at f<;>split at f<;>omega
def qU(f:Nat->Nat):Nat->Nat->Nat
 |0,x=>x
 |k+1,x=>f (qU f k x)
theorem vg(f:Nat->Nat)(a:Nat):∀(b x:Nat),qU f (a+b) x=qU f a (qU f b x):=by
 induction a with
 |zero=>intro b x;rw[xD];rfl
 |succ a i=>intro b x;rw[Nat.add_right_comm,qU,i];rfl
theorem Qt{f:Nat->Nat}{N:Nat}(h:∀x,x<N->f x<N){x:Nat}(hx:x<N):∀k,qU f k x<N
 |0=>hx
 |k+1=>h _ (Qt h hx k)
theorem bg3{f:Nat->Nat}{N:Nat}(a:∀x,x<N->f x<N)(i:∀x y,x<N->y<N->f x=f y->x=y):∀(k:Nat){x y:Nat},x<N->y<N->qU f k x=qU f k y->x=y
 |0,x,y,_,_,h=>h
 |k+1,x,y,hx,b,h=>bg3 a i k hx b (i _ _ (Qt a hx k) (Qt a b k) h)
theorem qs{f:Nat->Nat}{N:Nat}(h:∀x,x<N->f x<N)(b:∀x y,x<N->y<N->f x=f y->x=y){x:Nat}(hx:x<N):∃k,0<k/\k<=N/\qU f k x=x:=by
 obtain⟨i,j,d,c,a⟩:=BL N (λi=>qU f i x) (λi _=>Qt h hx i);refine⟨j-i,by omega,by omega,?_⟩;have e:j=i+(j-i):=by omega
 rw[e,vg]at a;exact(bg3 h b i hx (Qt h hx _) a).symm
def GS(f:Nat->Nat)(p:Nat×Nat):Nat×Nat:=(p.2,p.1 ^^^ f p.2)
theorem AT(f:Nat->Nat){p q:Nat×Nat}(h:GS f p=GS f q):p=q:=by
 obtain⟨a,b⟩:=p;obtain⟨c,d⟩:=q;simp only[GS,vY]at h;obtain⟨rfl,h⟩:=h;have:a=c:=by
  have e:=zM (λz=>z ^^^ f b) h;simp only[Nat.xor_assoc,Nat.xor_self,Nat.xor_zero]at e;exact e
 rw[this]
def hH(F:Nat->Nat->Nat):Nat->Nat×Nat->Nat×Nat
 |0,p=>p
 |k+1,p=>GS (F k) (hH F k p)
theorem bd7(F:Nat->Nat->Nat):∀(k:Nat){p q:Nat×Nat},hH F k p=hH F k q->p=q
 |0,_,_,h=>h
 |k+1,_,_,h=>bd7 F k (AT _ h)
theorem ZA{F:Nat->Nat->Nat}{j:Nat}(d:∀k r,F k r<2 ^ j):∀(k:Nat){p:Nat×Nat},p.1<2 ^ j->p.2<2 ^ j->(hH F k p).1<2 ^ j/\(hH F k p).2<2 ^ j
 |0,_,c,h=>⟨c,h⟩
 |k+1,_,c,h=>by
  obtain⟨a,b⟩:=ZA d k c h;exact⟨b,Nat.xor_lt_two_pow a (d _ _)⟩
def m5(F:Nat->Nat->Nat)(b x:Nat):Nat:=(hH F 4 (x/b,x%b)).1*b+(hH F 4 (x/b,x%b)).2
theorem Hz{F:Nat->Nat->Nat}{j:Nat}(a:∀k r,F k r<2 ^ j){x:Nat}(hx:x<2 ^ j*2 ^ j):m5 F (2 ^ j) x<2 ^ j*2 ^ j:=by
 have h:0<2 ^ j:=Nat.pow_pos (by decide);obtain⟨b,c⟩:=ZA a 4 (p:=(x/2 ^ j,x%2 ^ j)) (Nat.div_lt_of_lt_mul hx) (vM _ h);unfold m5
 calc _<(hH F 4 (x/2 ^ j,x%2 ^ j)).1*2 ^ j+2 ^ j:=by omega
  _=((hH F 4 (x/2 ^ j,x%2 ^ j)).1+1)*2 ^ j:=by rw[vC,Nat.one_mul]
  _<=2 ^ j*2 ^ j:=xZ _ b
theorem B7{F:Nat->Nat->Nat}{j:Nat}(b:∀k r,F k r<2 ^ j){x y:Nat}(hx:x<2 ^ j*2 ^ j)(d:y<2 ^ j*2 ^ j)(h:m5 F (2 ^ j) x=m5 F (2 ^ j) y):x=y:=by
 have a:0<2 ^ j:=Nat.pow_pos (by decide);obtain⟨m,g⟩:=ZA b 4 (p:=(x/2 ^ j,x%2 ^ j)) (Nat.div_lt_of_lt_mul hx) (vM _ a);obtain⟨l,f⟩:=ZA b 4 (p:=(y/2 ^ j,y%2 ^ j)) (Nat.div_lt_of_lt_mul d) (vM _ a);unfold m5 at h;have c:(hH F 4 (x/2 ^ j,x%2 ^ j)).2=(hH F 4 (y/2 ^ j,y%2 ^ j)).2:=by
  have:=zM (λz=>z%2 ^ j) h;simp only[Nat.mul_add_mod_self_right,wO g,wO f]at this;exact this
 have i:(hH F 4 (x/2 ^ j,x%2 ^ j)).1=(hH F 4 (y/2 ^ j,y%2 ^ j)).1:=by
  rw[c]at h;exact Nat.eq_of_mul_eq_mul_right a (Nat.add_right_cancel h)
 have e:=bd7 F 4 (Prod.ext i c);simp only[vY]at e;rw[←Nat.div_add_mod x (2 ^ j),←Nat.div_add_mod y (2 ^ j),e.1,e.2]
theorem FB(a b i:Nat):(a ^^^ b)%2 ^ (i+1)=(a ^^^ b)%2 ^ i+(if a/2 ^ i%2=b/2 ^ i%2 then 0 else 2 ^ i):=by
 rw[Nat.mod_pow_succ]
 congr 1
 have h:(a ^^^ b)/2 ^ i%2=(if a/2 ^ i%2=b/2 ^ i%2 then 0 else 1):=by
  have e:=Nat.testBit_xor a b i;rw[Nat.testBit_eq_decide_div_mod_eq,Nat.testBit_eq_decide_div_mod_eq,Nat.testBit_eq_decide_div_mod_eq]at e;have d:=Nat.mod_two_eq_zero_or_one ((a ^^^ b)/2 ^ i);have c:=Nat.mod_two_eq_zero_or_one (a/2 ^ i);have m:=Nat.mod_two_eq_zero_or_one (b/2 ^ i);rcases d with d|d<;>rcases c with c|c<;>rcases m with m|m<;>rw[d,c,m]at e⊢ <;> first|rfl|(simp at e)
 rw[h];split<;>simp
theorem FA{a b i:Nat}(d:a/2 ^ i=0)(c:b/2 ^ i=0):(a ^^^ b)%2 ^ i=a ^^^ b:=by
 have p:0<2 ^ i:=Nat.pow_pos (by decide);have f:a<2 ^ i:=by
  rcases Nat.div_eq_zero_iff.1 d with h|h
  .omega
  .exact h
 have e:b<2 ^ i:=by
  rcases Nat.div_eq_zero_iff.1 c with h|h
  .omega
  .exact h
 exact wO (Nat.xor_lt_two_pow f e)
end
end Go.Proofs.YtilnpcolgcmofaaGreatDoor
