/- A part of the proof. -/
import Derived.Test.YtilnpcolgcmofaaGreatDoorC13
import Derived.Laws.IdiomStrings
set_option maxRecDepth 100000
set_option maxHeartbeats 20000000
set_option linter.all false
namespace Go.Proofs.YtilnpcolgcmofaaGreatDoor
open Tryz
section
open Go
structure bD9(f:an):Prop where
 w:f.words.length<=1000000
 g:f.wz.length<=1000000
def wg{A B:Prop}(k:B)(h:ar B->A:=by intro q7;(first|refine bh ?_|refine aE ?_|(refine' aj ?hc ?_;(case hc=>first|exact ao6 _|exact R2 _ _ _|exact aA5 _ _ _ _|exact aQ7 _ (hs _ (zG hy)).w (hs _ (zG hy)).g)));exact q7.1):A:=h ⟨k⟩
def qX(k:aq)(hs:∀f∈k.fields,bD9 f)(i:k.fields.length<=1000000):APure prog 128 [fP k] (bD (jK k)):=by
 refine ap func128 ntmps128 λj=>?_
 cases h1:bf k.name
 .repeat' first|refine wg ?_|(refine aZ ?_;constructor<;>intro hc)
  all_goals(refine Rt.pure (zM bD ?_);simp[jK,h1])
 cases h2:lg k.lo k.hi 0 65536
 .repeat' first|refine wg ?_|(refine aZ ?_;constructor<;>intro hc)
  all_goals(refine Rt.pure (zM bD ?_);simp[jK,h2])
 by_cases h3:k.fields.length<=10
 .have a:jK k=k.fields.all dV:=by simp[jK,h1,h2,h3]
  repeat refine wg ?_
  refine gD mixed ai (γ:=Nat) (λg=>[(3,iD g)]) (λ_=>[]) (λq=>q<=k.fields.length/\∀(m:Nat)y,m<q->k.fields[m]?=some y->dV y=true) (λq=>k.fields.length-q) 0 rfl rfl ⟨by omega,λm y b=>by omega⟩ ?_;rintro q ⟨e,o⟩;by_cases hlt:q<k.fields.length
  .obtain⟨y,hy⟩:∃y,k.fields[(q:Int).toNat]?=some y:=⟨_,zD hlt⟩
   repeat' first|refine wg ?_|(refine aZ ?_;constructor<;>intro hc)
   .exact⟨q+1,rfl,rfl,⟨by omega,KP o hy (by assumption)⟩,by omega⟩
   .refine Rt.pure (zM bD ?_);rw[a,K8 hy (by assumption)]
  .repeat' first|refine wg ?_|(refine aZ ?_;constructor<;>intro hc)
   refine Rt.pure (zM bD ?_);rw[a,K5 (λm y b hy=>o m y (by omega) hy)]
 .repeat' first|refine wg ?_|(refine aZ ?_;constructor<;>intro hc)
  all_goals(refine Rt.pure (zM bD ?_);simp[jK,h3])
def nN{A B:Prop}(k:B)(h:ar B->A:=by intro q7;(first|refine bh ?_|refine aE ?_|(refine' aj ?hc ?_;(case hc=>first|exact ao6 _|exact R2 _ _ _|exact aF1 _ (by assumption))));exact q7.1):A:=h ⟨k⟩
def qW(x:bG)(hs:x.tz.length<=1000000)(a:x.mz.length<=1000000):APure prog 129 [cZ x] (bD (jL x)):=by
 refine ap func129 ntmps129 λf=>?_
 cases h1:bf x.name
 .repeat' first|refine nN ?_|(refine aZ ?_;constructor<;>intro hc)
  all_goals(refine Rt.pure (zM bD ?_);simp[jL,h1])
 cases h2:cF x.tz.length 1 12
 .repeat' first|refine nN ?_|(refine aZ ?_;constructor<;>intro hc)
  all_goals(refine Rt.pure (zM bD ?_);simp[jL,h2])
 cases h4:x.tz.all bf
 .repeat' first|refine nN ?_|(refine aZ ?_;constructor<;>intro hc)
  all_goals(refine Rt.pure (zM bD ?_);simp only[jL,h4];simp)
 by_cases h3:x.mz.length<=32
 .have b:jL x=x.mz.all (ch x.tz.length):=by simp only[jL,h1,h2,h4,h3];simp
  repeat refine nN ?_
  refine gD mixed ai (γ:=Nat) (λg=>[(3,iD g)]) (λ_=>[]) (λq=>q<=x.mz.length/\∀(m:Nat)y,m<q->x.mz[m]?=some y->ch x.tz.length y=true) (λq=>x.mz.length-q) 0 rfl rfl ⟨by omega,λm y a=>by omega⟩ ?_;rintro q ⟨e,o⟩;by_cases hlt:q<x.mz.length
  .obtain⟨y,hy⟩:∃y,x.mz[(q:Int).toNat]?=some y:=⟨_,zD hlt⟩
   repeat' first|refine nN ?_|(refine aZ ?_;constructor<;>intro hc)
   all_goals first
    |exact⟨q+1,rfl,rfl,⟨by omega,KP o hy (by simp[ch, *])⟩,by omega⟩
    |(refine Rt.pure (zM bD ?_);rw[b,K8 hy (by simp[ch, *])])
  .repeat' first|refine nN ?_|(refine aZ ?_;constructor<;>intro hc)
   refine Rt.pure (zM bD ?_);rw[b,K5 (λm y a hy=>o m y (by omega) hy)]
 .repeat' first|refine nN ?_|(refine aZ ?_;constructor<;>intro hc)
  all_goals(refine Rt.pure (zM bD ?_);simp[jL,h3])
def aV6(r:cH):APure prog 130 [eR r] (bD (yw r)):=by
 refine ap func130 ntmps130 λa=>?_
 repeat' first|refine nN ?_|(refine aZ ?_;constructor<;>intro hc)
 all_goals(refine Rt.pure (zM bD ?_);(try simp only[neE,pU]at *);simp[yw, *])
end
section
open Go Go.RowKit Go.Shelf
section
variable {P:Program} {σ:ae} {ρ:Operand->D}
variable{o:Oper}{x:Operand}
def Og{s d:TypeId}{k:IntKind}{n:Int}(b:o.op= .convert s d x)(hx:ρ x= .v (.int k n)){c:TypeDesc}(l:P.underlying s=some c)(j:P.underlying d=some (.int .u8))(p:0<=n/\n<256) :
  Yd P o ρ σ (.v (.int .u8 (UInt8.ofNat n.toNat).toNat)):=by
 intro w X η a t;obtain⟨dst,op,y,pos,m,g⟩:=o;simp only at b;subst b;have h:=(a x (by simp[Op.operands])).val hx;refine ev (s:=convert s d (η x)) (u:=.int .u8 (UInt8.ofNat n.toNat).toNat) ?_ (Ex.refl w) (.v _);rw[h];have e:IntKind.u8.wrap n=((UInt8.ofNat n.toNat).toNat:Int):=by
  have i:(UInt8.ofNat n.toNat).toNat=n.toNat%256:=by simp
  rw[i];have f:IntKind.u8.wrap n=n:=by
   simp only[IntKind.wrap]
   first|omega|(simp[IntKind.bits,IntKind.signed];omega)
  rw[f];omega
 cases c<;>simp[convert,run_underlying l,run_underlying j,Conv.intToInt,e]
def G4{s d e:TypeId}{c:UInt8}(k:o.op= .convert s d x)(hx:ρ x= .sl 1 [[.v (.int .u8 c.toNat)]])(D:P.underlying s=some (.slice e))(C:P.underlying e=some (.int .u8))(B:P.underlying d=some .string) :
  Yd P o ρ σ (.v (.string ⟨#[c]⟩)):=by
 intro w X η i t;obtain⟨dst,op,F,pos,E,g⟩:=o;simp only at k;subst k;have h:=i x (by simp[Op.operands]);rw[hx]at h;obtain⟨a,p,vs,m,n,G,y,r⟩:=h.sl_inv;obtain⟨b,f,rfl,_,_,l⟩:=y 0 _ rfl;have A:=l 0 (by omega);have z:=(r 0 _ rfl 0 _ rfl).val rfl;refine ev (s:=convert s d (η x)) (u:=.string ⟨#[c]⟩) ?_ (Ex.refl w) (.v _);rw[m];have:=run_convert_bytes_back (P:=P) w s d e ⟨b,f,none⟩ p [c] D C B (λj q=>by
  have:j=0:=by simpa using q
  subst this
  simpa [Addr.add,z]using A)
 simpa using this
end
end
section
open Go
def bC(n:Int):Nat:=if -9999999<=n/\n<=9999999 then 8 else 21
def aR4(u:Nat)(h:u<=9999999):Lib.nDigits u<=7:=by
 have step:∀v:Nat,Lib.nDigits v<=Lib.nDigits (v/10)+1:=λv=>by
  rw[Lib.nDigits];split
  .omega
  .exact zT _
 have g:=step u;have f:=step (u/10);have e:=step (u/10/10);have d:=step (u/10/10/10);have c:=step (u/10/10/10/10);have b:=step (u/10/10/10/10/10);have a:Lib.nDigits (u/10/10/10/10/10/10)=1:=Lib.nDigits_small (by omega);omega
def bc3(n:Int):bC n<=21:=by unfold bC;split<;>omega
def gk(f:an):Nat:=16+f.name.size+f.of.size+f.up.size+bC f.lo+bC f.hi+bC f.words.length+(f.words.map λs=>1+s.size).sum+(f.wz.map λn=>1+bC n).sum
variable{α:Type}
def be(f:α->Nat)(l:List α):Nat:=(l.map f).sum
def vO:=@List.sum_append
def FK(f:α->Nat)(l:List α)(j:Nat)(x:α)(h:l[j]?=some x):be f (l.take (j+1))=be f (l.take j)+f x:=by
 simp[be,xC,h,vO]
def jB(f:α->Nat)(l:List α):∀j,be f (l.take j)<=be f l:=by
 induction l with
 |nil=>intro j;simp[be]
 |cons x l i=>
  intro j
  cases j with
  |zero=>simp[be]
  |succ j=>have:=i j;simp only[be,List.take_succ_cons,List.map_cons,List.sum_cons]at *;omega
def dw(k:aq):Nat:=8+k.name.size+bC k.lo+bC k.hi+be gk k.fields
def gd(m:Int×Int):Nat:=7+bC m.1+bC m.2
def dY(x:bG):Nat:=7+x.name.size+bC x.tz.length+be (λs=>1+s.size) x.tz+be gd x.mz
def fK(r:cH):Nat:=12+r.name.size+r.kind.size+r.a.size+r.b.size+bC r.n
def fe(x:ak):Nat:=29+be dw x.kz+be dY x.lz+be fK x.rules
def jX(m:Nat):ByteArray:=if m<10 then⟨#[UInt8.ofNat (48+m)]⟩else jX (m/10)++⟨#[UInt8.ofNat (48+m%10)]⟩
termination_by m
decreasing_by omega
variable{m:Nat}
def aJ4(h:m<10):jX m=⟨#[UInt8.ofNat (48+m)]⟩:=by rw[jX,if_pos h]
def aX3(h:¬m<10):jX m=jX (m/10)++⟨#[UInt8.ofNat (48+m%10)]⟩:=by rw[jX,if_neg h]
def yU:=@ByteArray.size_append
def QN:∀(c m:Nat),m<10 ^ (c+1)->(jX m).size<=c+1
 |0,m,h=>by rw[aJ4 (by omega)];exact zT 1
 |c+1,m,h=>by
  by_cases hm:m<10
  .rw[aJ4 hm];show 1<=_;omega
  .rw[aX3 hm,yU];have:=QN c (m/10) (by rw[Nat.pow_succ]at h;omega)
   show _+1<=_;omega
def x9(n:Int):ByteArray:=if n<0 then(⟨#[45]⟩:ByteArray)++jX (-n).toNat else jX n.toNat
def kZ{n:Int}(h:-9223372036854775807<=n/\n<=9223372036854775807):(x9 n).size<=bC n:=by
 have one:(⟨#[45]⟩:ByteArray).size=1:=rfl;unfold x9 bC;split
 .rw[yU,one];split
  .have:=QN 6 (-n).toNat (by omega);omega
  .have:=QN 18 (-n).toNat (by omega);omega
 .split
  .have:=QN 6 n.toNat (by omega);omega
  .have:=QN 18 n.toNat (by omega);omega
def db(s:ByteArray)(n:Int):ByteArray:=s++(⟨#[32]⟩:ByteArray)++x9 n
variable{s:ByteArray}
def Am{n:Int}(h:-9223372036854775807<=n/\n<=9223372036854775807):(db s n).size<=s.size+1+bC n:=by
 unfold db;rw[yU,yU];have:=kZ h;have:(⟨#[32]⟩:ByteArray).size=1:=rfl;omega
def yq(s:ByteArray):ByteArray:=if dz s then⟨#[45]⟩else s
def D7(h:dz s=true):s.size=0:=by
 unfold dz at h;rw[ByteArray.toList_eq]at h;have:s.data.toList=[]:=by simpa using h
 have a:=zM List.length this
 simpa using a
def ax5(s:ByteArray):(yq s).size<=s.size+1:=by
 unfold yq;split
 .show 1<=_;omega
 .omega
end
section
open Go
def A3(m:Nat):((m:Int).tdiv 10)=((m/10:Nat):Int):=rfl
def OA(m:Nat):((m:Int).tmod 10)=((m%10:Nat):Int):=rfl
variable{A B:Prop}
def u8x(k:B)(h:ar B->A:=by intro q7;(first|refine LP ?_|refine Gl ?_|((with_reducible refine' Sv.at 0 ?h1 ?h2 ?h3 ?h4 ?h5 ?_);(case h1=>exact rfl);(case h2=>exact rfl);(case h3=>exact rfl);(case h4=>exact rfl);(case h5=>exact(by first|(simp only[List.set_cons_succ,List.set_cons_zero,dQ,gX,oC,List.take_succ_cons,List.take_zero,List.drop_succ_cons,List.drop_zero,List.length_cons,List.length_nil,List.nil_append,List.cons_append,Nat.reduceAdd,xD,zZ,List.map_cons,List.map_nil];rfl)|rfl)))|((with_reducible refine' Sv.at 1 ?h1 ?h2 ?h3 ?h4 ?h5 ?_);(case h1=>exact rfl);(case h2=>exact rfl);(case h3=>exact rfl);(case h4=>exact rfl);(case h5=>exact(by first|(simp only[List.set_cons_succ,List.set_cons_zero,dQ,gX,oC,List.take_succ_cons,List.take_zero,List.drop_succ_cons,List.drop_zero,List.length_cons,List.length_nil,List.nil_append,List.cons_append,Nat.reduceAdd,xD,zZ,List.map_cons,List.map_nil];rfl)|rfl)))|((with_reducible refine' Sv.at 2 ?h1 ?h2 ?h3 ?h4 ?h5 ?_);(case h1=>exact rfl);(case h2=>exact rfl);(case h3=>exact rfl);(case h4=>exact rfl);(case h5=>exact(by first|(simp only[List.set_cons_succ,List.set_cons_zero,dQ,gX,oC,List.take_succ_cons,List.take_zero,List.drop_succ_cons,List.drop_zero,List.length_cons,List.length_nil,List.nil_append,List.cons_append,Nat.reduceAdd,xD,zZ,List.map_cons,List.map_nil];rfl)|rfl))));exact q7.1):A:=h ⟨k⟩
def u1x(k:B)(h:ar B->A:=by intro q7;(first|((with_reducible refine' Rs.tc ai (m:=0) ?h ?hi ?hj ?hb ?ht ?hag ?hs ?_);(case h=>exact rfl);(case hi=>exact rfl);(case hj=>exact rfl);(case hb=>exact rfl);(case ht=>exact rfl);(case hag=>exact rfl);(case hs=>exact rfl))|((with_reducible refine' zy ai (m:=0) ?h ?hi ?hj ?hb ?ht ?hag ?hs ?_);(case h=>exact rfl);(case hi=>exact rfl);(case hj=>exact rfl);(case hb=>exact rfl);(case ht=>exact rfl);(case hag=>exact rfl);(case hs=>exact rfl))|((with_reducible refine' Rs.c ai (m:=0) ?h ?hj ?hb ?ht ?hag ?hs ?_);(case h=>exact rfl);(case hj=>exact rfl);(case hb=>exact rfl);(case ht=>exact rfl);(case hag=>exact rfl);(case hs=>exact rfl))|((with_reducible refine Uz ?h ?_);(case h=>omega))|((with_reducible refine Br.df ?h ?_);(case h=>omega))|((with_reducible refine Br.t ?h ?_);(case h=>assumption))|((with_reducible refine Br.f ?h ?_);(case h=>assumption))|((with_reducible refine Br.t ?h ?_);(case h=>(refine yJ ?_;omega)))|((with_reducible refine Br.f ?h ?_);(case h=>(refine yE ?_;omega))));exact q7.1):A:=h ⟨k⟩
def O1(k:B)(h:ar B->A:=by intro q7;(first|refine u8x ?_|((with_reducible refine' Ot.yd ?hyd ?_);(case hyd=>first|(refine Og rfl rfl underlying3 underlying5 ?_;omega)|exact G4 rfl rfl underlying147 underlying5 underlying9))|refine u1x ?_);exact q7.1):A:=h ⟨k⟩
def OU(k:B)(h:ar B->A:=by intro q7;(first|refine O1 ?_|refine aE ?_|(refine' aj ?hc ?_;(case hc=>exact IH)));exact q7.1):A:=h ⟨k⟩
def oi:∀m:Nat,m<=9223372036854775807->APure prog 230 [iD m] (sD (jX m)):=by
 intro m
 induction m using Nat.strongRecOn with
 |ind m i=>
 intro a;refine ap func230 ntmps230 λb=>?_;by_cases h:m<10
 .repeat refine OU ?_
  refine Rt.pure (zM sD ?_);rw[aJ4 h];rfl
 .have IH:=i (m/10) (by omega) (by omega);rw[←A3]at IH;have h1:((m:Int).tmod 10)=((m%10:Nat):Int):=OA m;have z:=QN 18 (m/10) (by omega);have one:(⟨#[UInt8.ofNat (48+(m:Int).tmod 10).toNat]⟩:ByteArray).size=1:=rfl
  repeat refine OU ?_
  refine Sd.go ⟨by decide,by rw[A3];constructor<;>omega⟩ ?_
  repeat refine OU ?_
  refine Rt.pure (zM sD ?_);rw[aX3 h];rfl
def bq2(k:B)(h:ar B->A:=by intro q7;(first|refine O1 ?_|refine aE ?_|(refine' aj ?hc ?_;(case hc=>exact HN)));exact q7.1):A:=h ⟨k⟩
def IW(n:Int)(h:-9223372036854775807<=n/\n<=9223372036854775807):APure prog 230 [iD n] (sD (x9 n)):=by
 by_cases h0:n<0
 .have HN:=oi (-n).toNat (by omega);rw[show(((-n).toNat:Nat):Int)= -n by omega]at HN;have z:=QN 18 (-n).toNat (by omega);have one:(⟨#[45]⟩:ByteArray).size=1:=rfl;refine ap func230 ntmps230 λa=>?_
  repeat refine bq2 ?_
  refine Rt.pure (zM sD ?_);unfold x9;rw[if_pos h0]
 .have:=oi n.toNat (by omega);rw[show((n.toNat:Nat):Int)=n by omega]at this;unfold x9;rw[if_neg h0];exact this
def OT(k:B)(h:ar B->A:=by intro q7;(first|refine O1 ?_|refine aE ?_|(refine' aj ?hc ?_;(case hc=>exact IW _ (by assumption))));exact q7.1):A:=h ⟨k⟩
def ba9(s:ByteArray)(n:Int)(hs:s.size<=1000000000)(h:-9223372036854775807<=n/\n<=9223372036854775807):APure prog 176 [sD s,iD n] (sD (db s n)):=by
 have h1:=kZ h;have h2:=bc3 n;have one:(⟨#[32]⟩:ByteArray).size=1:=rfl;have h3:(s++(⟨#[32]⟩:ByteArray)).size=s.size+1:=by rw[yU,one]
 refine ap func176 ntmps176 λa=>?_
 repeat refine OT ?_
 exact Rt.pure rfl
def aF2(s:ByteArray):APure prog 178 [sD s] (sD (yq s)):=by
 refine ap func178 ntmps178 λa=>?_
 repeat' first|refine OT ?_|(refine aZ ?_;constructor<;>intro hc)
 .refine Rt.pure (zM sD ?_);unfold yq;rw[←pU,if_pos (by assumption)]
 .refine Rt.pure (zM sD ?_);unfold yq;rw[←pU,hc];rfl
def yr:List ByteArray:=[⟨#[107,101,121]⟩,⟨#[114,101,102]⟩,⟨#[110,117,109]⟩,⟨#[112,105,99,107]⟩,⟨#[100,97,121]⟩,⟨#[115,116,101,112]⟩,⟨#[115,117,109]⟩,⟨#[115,104,97,114,101]⟩,⟨#[99,111,112,121]⟩]
def bh6:APure prog 231 [] (gr yr):=by
 refine ap func231 ntmps231 λa=>?_
 repeat refine OT ?_
 exact Rt.pure rfl
end
section
open Go
structure uT(f:an):Prop where
 lo:-9223372036854775807<=f.lo/\f.lo<=9223372036854775807
 hi:-9223372036854775807<=f.hi/\f.hi<=9223372036854775807
 ws:∀n∈f.wz,-9223372036854775807<=n/\n<=9223372036854775807
def sp:ByteArray:=⟨#[32]⟩
def Kw(out:ByteArray)(f:an):Nat->ByteArray
 |0=>db out f.words.length
 |q+1=>match f.words[q]?,f.wz[q]? with
  |some s,some n=>db (Kw out f q++sp++s) n
  |_,_=>Kw out f q
def m4(f:an):ByteArray:=
 let d:=(⟨#[10]⟩:ByteArray)++(yr[f.kind.toNat]?).getD ⟨#[]⟩++sp++f.name
 let c:=if iV f.kind then d++sp++f.up else d
 let b:=if iU f.kind then c++sp++yq f.of else c
 let a:=if jC f.kind then db b f.lo else b
 let o:=if iT f.kind then db a f.hi else a
 if eO f.kind then Kw o f f.words.length else o
def LW(c:UInt8):(⟨#[c]⟩:ByteArray).size<=1:=zT 1
def OF:(⟨#[]⟩:ByteArray).size<=0:=zT 0
variable{m:Nat}
def Ib{a b:ByteArray}{n:Nat}(h:a.size<=m)(k:b.size<=n):(a++b).size<=m+n:=by rw[yU];omega
variable{s:ByteArray}
def Lq{n:Int}(h:s.size<=m)(k:-9223372036854775807<=n/\n<=9223372036854775807):(db s n).size<=m+22:=by have:=Am (s:=s) k;have:=bc3 n;omega
def OE(h:s.size<=m):(yq s).size<=m+1:=by have:=ax5 s;omega
def Ia{M:Nat}(h:s.size<=m)(k:m<=M):s.size<=M:=xH h k
def LV{a b:ByteArray}{n M:Nat}(h:a.size<=m)(k:b.size<=n)(c:m+n<=M):a.size+b.size<=M:=by omega
variable{A B:Prop}
def Hu(k:B)(h:ar B->A:=by intro q7;(first|((with_reducible refine W.mk ?_);(conv=>whnf))|(with_reducible refine pA4 ?_)|(with_reducible refine pA5 ?_)|(with_reducible refine Br.n ?_));exact q7.1):A:=h ⟨k⟩
def Hv(k:B)(h:ar B->A:=by intro q7;(first|((with_reducible refine' Br.eq ?h ?_);(case h=>(simp only[zL,zR,zI,List.length_cons,List.length_nil,zY,Nat.reduceAdd];exact rfl))));exact q7.1):A:=h ⟨k⟩
def bs5(k:B)(h:ar B->A:=by intro q7;(first|refine Hu ?_|refine Hv ?_|((with_reducible refine Sd.go ?s ?_);(case s=>first|trivial|(constructor<;>omega)|omega|assumption|(refine' LV ?a ?b ?c;(case a=>repeat'(first|((show(_:Nat)<=_);assumption)|exact LW _|exact OF|(refine' Lq ?_ (by assumption))|refine' OE ?_|refine' Ib ?_ ?_));(case b=>repeat'(first|((show(_:Nat)<=_);assumption)|exact LW _|exact OF|(refine' Lq ?_ (by assumption))|refine' OE ?_|refine' Ib ?_ ?_));(case c=>first|decide|omega))))|refine sN ?_|refine Gl ?_|refine AP ?_);exact q7.1):A:=h ⟨k⟩
def It(k:B)(h:ar B->A:=by intro q7;(first|refine bs5 ?_|refine aE ?_|(refine' aj ?hc ?_;(case hc=>first|exact HU|exact bh6|exact aF2 _|(refine ba9 _ _ ?hs ?hn;(case hn=>first|assumption|omega|(simp only[zL,zR,zI,List.length_cons,List.length_nil,zY,Nat.reduceAdd];omega));(case hs=>(refine' Ia ?a ?c;(case a=>repeat'(first|((show(_:Nat)<=_);assumption)|exact LW _|exact OF|(refine' Lq ?_ (by assumption))|refine' OE ?_|refine' Ib ?_ ?_));(case c=>first|decide|omega)))))));exact q7.1):A:=h ⟨k⟩
def ia{p:Prop}(h:p:=by
 refine ap func177 ntmps177 λBB=>?_
 repeat refine It ?_
 refine Rt.pure (zM sD ?_);unfold m4;rw[hy];simp[hk,iV,iU,jC,iT,eO,sp]):p:=h
def qV(f:an)(hk:f.kind=0)(hs:uT f)(k:f.name.size<=100000)(j:f.of.size<=100000)(i:f.up.size<=100000)(e:∀s∈f.words,s.size<=100000)(l:f.words.length<=12)(q:eO f.kind=true->f.words.length=f.wz.length):APure prog 177 [bT f] (sD (m4 f)):=by
 have o:=hs.lo;have n:=hs.hi;have HU:APure prog 228 [iD f.kind] (.tup [bD false,bD false,bD true,bD false,bD false]):=by rw[hk];exact mI 0
 have hy:yr[f.kind.toNat]?=some ⟨#[107,101,121]⟩:=by rw[hk];rfl
 have g:(⟨#[107,101,121]⟩:ByteArray).size<=9:=by decide
 exact ia
def qU(f:an)(hk:f.kind=1)(hs:uT f)(k:f.name.size<=100000)(j:f.of.size<=100000)(i:f.up.size<=100000)(e:∀s∈f.words,s.size<=100000)(l:f.words.length<=12)(q:eO f.kind=true->f.words.length=f.wz.length):APure prog 177 [bT f] (sD (m4 f)):=by
 have o:=hs.lo;have n:=hs.hi;have HU:APure prog 228 [iD f.kind] (.tup [bD true,bD false,bD true,bD true,bD false]):=by rw[hk];exact mI 1
 have hy:yr[f.kind.toNat]?=some ⟨#[114,101,102]⟩:=by rw[hk];rfl
 have g:(⟨#[114,101,102]⟩:ByteArray).size<=9:=by decide
 exact ia
def qT(f:an)(hk:f.kind=2)(hs:uT f)(k:f.name.size<=100000)(j:f.of.size<=100000)(i:f.up.size<=100000)(e:∀s∈f.words,s.size<=100000)(l:f.words.length<=12)(q:eO f.kind=true->f.words.length=f.wz.length):APure prog 177 [bT f] (sD (m4 f)):=by
 have o:=hs.lo;have n:=hs.hi;have HU:APure prog 228 [iD f.kind] (.tup [bD false,bD false,bD true,bD true,bD false]):=by rw[hk];exact mI 2
 have hy:yr[f.kind.toNat]?=some ⟨#[110,117,109]⟩:=by rw[hk];rfl
 have g:(⟨#[110,117,109]⟩:ByteArray).size<=9:=by decide
 exact ia
def qS(f:an)(k:f.kind=3)(hs:uT f)(M:f.name.size<=100000)(L:f.of.size<=100000)(K:f.up.size<=100000)(r:∀s∈f.words,s.size<=100000)(E:f.words.length<=12)(J:eO f.kind=true->f.words.length=f.wz.length):APure prog 177 [bT f] (sD (m4 f)):=by
 have O:=hs.lo;have P:=hs.hi;have HU:APure prog 228 [iD f.kind] (.tup [bD false,bD false,bD false,bD false,bD true]):=by rw[k];exact mI 3
 have hy:yr[f.kind.toNat]?=some ⟨#[112,105,99,107]⟩:=by rw[k];rfl
 have G:(⟨#[112,105,99,107]⟩:ByteArray).size<=9:=by decide
 refine ap func177 ntmps177 λQ=>?_
 repeat refine It ?_
 have u:-9223372036854775807<=(f.words.length:Int)/\(f.words.length:Int)<=9223372036854775807:=by omega
 have F:=J (by rw[k];rfl);obtain⟨o,e⟩:∃o,o=({ data:=#[10] } ++ { data:=#[112,105,99,107] } ++ { data:=#[32] } ++ f.name:ByteArray):=⟨_,rfl⟩
 have n:o.size<=100100:=by rw[e];(refine' Ia ?a ?c;(case a=>repeat'(first|((show(_:Nat)<=_);assumption)|exact LW _|exact OF|(refine' Lq ?_ (by assumption))|refine' OE ?_|refine' Ib ?_ ?_));(case c=>first|decide|omega))
 have w:(db o f.words.length).size<=100122:=Ia (Lq n u) (by decide);simp only[zL,←e];refine gD mixed ai (γ:=Nat×ByteArray) (λg=>[(8,sD g.2),(9,iD g.1)]) (λ_=>[]) (λg=>g.1<=f.words.length/\g.2=Kw o f g.1/\g.2.size<=100122+100023*g.1) (λg=>f.words.length-g.1) (0,db o f.words.length) rfl rfl ⟨zW _,rfl,by simp only;omega⟩ ?_;rintro⟨q,t⟩ ⟨I,ht,C⟩;simp only at I ht C⊢;by_cases hlt:q<f.words.length
 .obtain⟨y,j⟩:∃y,f.words[(q:Int).toNat]?=some y:=⟨_,zD hlt⟩
  obtain⟨z,i⟩:∃z,f.wz[(q:Int).toNat]?=some z:=⟨_,zD (by simpa using(show q<f.wz.length by omega))⟩
  have D:=r y (zG j);have l:=hs.ws z (zG i);have x:t.size<=1300398:=by omega
  repeat refine It ?_
  have v:(db (t++{ data:=#[32] } ++ y) z).size<=t.size+1+y.size+22:=Lq (Ib (Ib (zT _) (LW _)) (zT _)) l;refine⟨(q+1,db (t++{ data:=#[32] } ++ y) z),(ah aJ),rfl,⟨by simp only;omega,?_,by simp only;omega⟩,by simp only;omega⟩;simp only[Kw];rw[show f.words[q]?=some y from j,show f.wz[q]?=some z from i,←ht]
  rfl
 .obtain rfl:q=f.words.length:=by omega
  repeat refine It ?_
  refine Rt.pure (zM sD ?_);unfold m4;rw[hy,ht,e];simp[k,iV,iU,jC,iT,eO,sp]
def qR(f:an)(hk:f.kind=4)(hs:uT f)(k:f.name.size<=100000)(j:f.of.size<=100000)(i:f.up.size<=100000)(e:∀s∈f.words,s.size<=100000)(l:f.words.length<=12)(q:eO f.kind=true->f.words.length=f.wz.length):APure prog 177 [bT f] (sD (m4 f)):=by
 have o:=hs.lo;have n:=hs.hi;have HU:APure prog 228 [iD f.kind] (.tup [bD true,bD false,bD true,bD true,bD false]):=by rw[hk];exact mI 4
 have hy:yr[f.kind.toNat]?=some ⟨#[100,97,121]⟩:=by rw[hk];rfl
 have g:(⟨#[100,97,121]⟩:ByteArray).size<=9:=by decide
 exact ia
def qQ(f:an)(hk:f.kind=5)(hs:uT f)(k:f.name.size<=100000)(j:f.of.size<=100000)(i:f.up.size<=100000)(e:∀s∈f.words,s.size<=100000)(l:f.words.length<=12)(q:eO f.kind=true->f.words.length=f.wz.length):APure prog 177 [bT f] (sD (m4 f)):=by
 have o:=hs.lo;have n:=hs.hi;have HU:APure prog 228 [iD f.kind] (.tup [bD true,bD false,bD true,bD true,bD false]):=by rw[hk];exact mI 5
 have hy:yr[f.kind.toNat]?=some ⟨#[115,116,101,112]⟩:=by rw[hk];rfl
 have g:(⟨#[115,116,101,112]⟩:ByteArray).size<=9:=by decide
 exact ia
def qP(f:an)(hk:f.kind=6)(hs:uT f)(k:f.name.size<=100000)(j:f.of.size<=100000)(i:f.up.size<=100000)(e:∀s∈f.words,s.size<=100000)(l:f.words.length<=12)(q:eO f.kind=true->f.words.length=f.wz.length):APure prog 177 [bT f] (sD (m4 f)):=by
 have o:=hs.lo;have n:=hs.hi;have HU:APure prog 228 [iD f.kind] (.tup [bD true,bD false,bD false,bD false,bD false]):=by rw[hk];exact mI 6
 have hy:yr[f.kind.toNat]?=some ⟨#[115,117,109]⟩:=by rw[hk];rfl
 have g:(⟨#[115,117,109]⟩:ByteArray).size<=9:=by decide
 exact ia
def qO(f:an)(hk:f.kind=7)(hs:uT f)(k:f.name.size<=100000)(j:f.of.size<=100000)(i:f.up.size<=100000)(e:∀s∈f.words,s.size<=100000)(l:f.words.length<=12)(q:eO f.kind=true->f.words.length=f.wz.length):APure prog 177 [bT f] (sD (m4 f)):=by
 have o:=hs.lo;have n:=hs.hi;have HU:APure prog 228 [iD f.kind] (.tup [bD true,bD true,bD true,bD true,bD false]):=by rw[hk];exact mI 7
 have hy:yr[f.kind.toNat]?=some ⟨#[115,104,97,114,101]⟩:=by rw[hk];rfl
 have g:(⟨#[115,104,97,114,101]⟩:ByteArray).size<=9:=by decide
 exact ia
def qN(f:an)(hk:f.kind=8)(hs:uT f)(k:f.name.size<=100000)(j:f.of.size<=100000)(i:f.up.size<=100000)(e:∀s∈f.words,s.size<=100000)(l:f.words.length<=12)(q:eO f.kind=true->f.words.length=f.wz.length):APure prog 177 [bT f] (sD (m4 f)):=by
 have o:=hs.lo;have n:=hs.hi;have HU:APure prog 228 [iD f.kind] (.tup [bD true,bD true,bD false,bD false,bD false]):=by rw[hk];exact mI 8
 have hy:yr[f.kind.toNat]?=some ⟨#[99,111,112,121]⟩:=by rw[hk];rfl
 have g:(⟨#[99,111,112,121]⟩:ByteArray).size<=9:=by decide
 exact ia
def CB(f:an)(k:0<=f.kind/\f.kind<=8)(e:uT f)(d:f.name.size<=100000)(c:f.of.size<=100000)(b:f.up.size<=100000)(a:∀s∈f.words,s.size<=100000)(l:f.words.length<=12)(p:eO f.kind=true->f.words.length=f.wz.length):APure prog 177 [bT f] (sD (m4 f)):=by
 have:f.kind=0\/f.kind=1\/f.kind=2\/f.kind=3\/f.kind=4\/f.kind=5\/f.kind=6\/f.kind=7\/f.kind=8:=by omega
 rcases this with h|h|h|h|h|h|h|h|h
 .exact qV f h e d c b a l p
 .exact qU f h e d c b a l p
 .exact qT f h e d c b a l p
 .exact qS f h e d c b a l p
 .exact qR f h e d c b a l p
 .exact qQ f h e d c b a l p
 .exact qP f h e d c b a l p
 .exact qO f h e d c b a l p
 .exact qN f h e d c b a l p
def vy(g:Int->Nat)(l:List Int)(q:Nat)(z:Int)(h:l[q]?=some z):((l.take (q+1)).map g).sum=((l.take q).map g).sum+g z:=by
 simp[xC,h,vO]
def ql(g:ByteArray->Nat)(l:List ByteArray)(q:Nat)(z:ByteArray)(h:l[q]?=some z):((l.take (q+1)).map g).sum=((l.take q).map g).sum+g z:=by
 simp[xC,h,vO]
def aV9(o:ByteArray)(f:an)(b:∀n∈f.wz,-9223372036854775807<=n/\n<=9223372036854775807)(l:f.words.length<=12):∀q,q<=f.words.length->q<=f.wz.length->(Kw o f q).size<=o.size+1+bC f.words.length+((f.words.take q).map λs=>1+s.size).sum+((f.wz.take q).map λn=>1+bC n).sum
 |0,_,_=>by
  have:=Am (s:=o) (n:=(f.words.length:Int)) (by omega)
  simpa [Kw]using this
 |q+1,e,d=>by
  have i:=aV9 o f b l q (by omega) (by omega);obtain⟨y,a⟩:∃y,f.words[q]?=some y:=⟨_,zD (by omega)⟩
  obtain⟨z,h⟩:∃z,f.wz[q]?=some z:=⟨_,zD (by omega)⟩
  rw[vy _ _ _ _ h,ql _ _ _ _ a];simp only[Kw,a,h];have c:=Am (s:=Kw o f q++sp++y) (n:=z) (b z (zG h));rw[yU,yU]at c;have:sp.size=1:=rfl;omega
def rC(f:an)(k:0<=f.kind/\f.kind<=8)(s:uT f)(l:f.words.length<=12)(p:eO f.kind=true->f.words.length=f.wz.length):(m4 f).size<=gk f:=by
 have e:sp.size=1:=rfl;have g:(⟨#[10]⟩:ByteArray).size=1:=rfl;have i:((yr[f.kind.toNat]?).getD ⟨#[]⟩).size<=5:=by
  have:f.kind=0\/f.kind=1\/f.kind=2\/f.kind=3\/f.kind=4\/f.kind=5\/f.kind=6\/f.kind=7\/f.kind=8:=by omega
  rcases this with h|h|h|h|h|h|h|h|h<;>rw[h]<;>decide
 unfold m4 gk;generalize(yr[f.kind.toNat]?).getD ⟨#[]⟩=w at *;have e0:((⟨#[10]⟩:ByteArray)++w++sp++f.name).size=2+w.size+f.name.size:=by simp only[yU];omega
 generalize((⟨#[10]⟩:ByteArray)++w++sp++f.name)=c at *;simp only;have q:(if iV f.kind=true then c++sp++f.up else c).size<=c.size+1+f.up.size:=by
  split
  .simp only[yU];omega
  .omega
 generalize(if iV f.kind=true then c++sp++f.up else c)=b at *;have n:(if iU f.kind=true then b++sp++yq f.of else b).size<=b.size+2+f.of.size:=by
  have:=ax5 f.of;split
  .simp only[yU];omega
  .omega
 generalize(if iU f.kind=true then b++sp++yq f.of else b)=a at *;have m:(if jC f.kind=true then db a f.lo else a).size<=a.size+1+bC f.lo:=by
  split
  .exact Am s.lo
  .omega
 generalize(if jC f.kind=true then db a f.lo else a)=o at *;have j:(if iT f.kind=true then db o f.hi else o).size<=o.size+1+bC f.hi:=by
  split
  .exact Am s.hi
  .omega
 generalize(if iT f.kind=true then db o f.hi else o)=d at *;split
 .rename_i u;have:=aV9 d f s.ws l f.words.length (zT _) (by have:=p u;omega);rw[yM,p u,yM,←p u]at this;omega
 .omega
end
section
open Go
structure Ob(f:an):Prop where
 kind:0<=f.kind/\f.kind<=8
 sane:uT f
 name:f.name.size<=100000
 of:f.of.size<=100000
 up:f.up.size<=100000
 ws:∀s∈f.words,s.size<=100000
 wl:f.words.length<=12
 pw:eO f.kind=true->f.words.length=f.wz.length
structure bj4(k:aq):Prop where
 name:k.name.size<=100000
 lo:-9223372036854775807<=k.lo/\k.lo<=9223372036854775807
 hi:-9223372036854775807<=k.hi/\k.hi<=9223372036854775807
 fs:∀f∈k.fields,Ob f
 fl:k.fields.length<=1000000
structure bj3(x:bG):Prop where
 name:x.name.size<=100000
 ss:∀s∈x.tz,s.size<=100000
 sl:x.tz.length<=1000000
 ms:∀m∈x.mz,(-9223372036854775807<=m.1/\m.1<=9223372036854775807)/\(-9223372036854775807<=m.2/\m.2<=9223372036854775807)
 ml:x.mz.length<=1000000
structure bj0(r:cH):Prop where
 name:r.name.size<=100000
 kind:r.kind.size<=100000
 a:r.a.size<=100000
 b:r.b.size<=100000
 n:-9223372036854775807<=r.n/\r.n<=9223372036854775807
structure N7(x:ak):Prop where
 ver:-9223372036854775807<=x.vz/\x.vz<=9223372036854775807
 kz:∀k∈x.kz,bj4 k
 lz:∀l∈x.lz,bj3 l
 rules:∀r∈x.rules,bj0 r
 kl:x.kz.length<=1000000
 ll:x.lz.length<=1000000
 rl:x.rules.length<=1000000
 src:fe x<=1000000
def bs4{A B:Prop}(k:B)(h:ar B->A:=by intro q7;(first|refine Hu ?_|refine Hv ?_|((with_reducible refine Sd.go ?qs7 ?_);(case qs7=>first|trivial|(constructor<;>omega)|omega|assumption|(refine' LV ?a ?b ?c;(case a=>repeat'(first|((show(_:Nat)<=_);assumption)|exact LW _|exact OF|(refine' Lq ?_ (by assumption))|refine' OE ?_|refine' Ib ?_ ?_));(case b=>repeat'(first|((show(_:Nat)<=_);assumption)|exact LW _|exact OF|(refine' Lq ?_ (by assumption))|refine' OE ?_|refine' Ib ?_ ?_));(case c=>first|decide|omega))))|refine sN ?_|refine Gl ?_|refine AP ?_);exact q7.1):A:=h ⟨k⟩
def io{A B:Prop}(k:B)(h:ar B->A:=by intro q7;(first|refine bs4 ?_|refine aE ?_|(refine' aj ?hc ?_;(case hc=>first|exact aF2 _|exact HLN|(refine ba9 _ _ ?hs ?hn;(case hn=>first|assumption|omega|(simp only[zL,zR,zI,List.length_cons,List.length_nil,zY,Nat.reduceAdd];omega));(case hs=>(refine' Ia ?a ?c;(case a=>repeat'(first|((show(_:Nat)<=_);assumption)|exact LW _|exact OF|(refine' Lq ?_ (by assumption))|refine' OE ?_|refine' Ib ?_ ?_));(case c=>first|decide|omega)))))));exact q7.1):A:=h ⟨k⟩
def YX{p:Prop}(h:p:=by
 rw[yM]at hu
 repeat' first|refine io ?_|intro b;conv=>whnf
 exact⟨(q+1,u),(ah aJ),bE,⟨by simp only;omega,by simp only;omega⟩,by simp only;omega⟩):p:=h
def qL(x:ak)(hx:N7 x):bH prog 131 [aw x] (λd=>∃s:ByteArray,d=sD s/\s.size<=fe x):=by
 have F:=hx.ver;have hkl:=hx.kl;have hll:=hx.ll;have hrl:=hx.rl;have r:=hx.src;have l6:(⟨#[115,99,104,101,109,97]⟩:ByteArray).size<=6:=by decide
 have lk:(⟨#[10,107,105,110,100,32]⟩:ByteArray).size<=6:=by decide
 have Y:(⟨#[10,108,105,102,101,32]⟩:ByteArray).size<=6:=by decide
 have lm:(⟨#[10,109,111,118,101]⟩:ByteArray).size<=5:=by decide
 have lr:(⟨#[10,114,117,108,101,32]⟩:ByteArray).size<=6:=by decide
 have hb0:=Am (s:=(⟨#[115,99,104,101,109,97]⟩:ByteArray)) F;have hi0:=bc3 x.vz;refine bH.of_call ?_;refine dB func131 ntmps131 λBB=>?_
 repeat' first|refine io ?_|intro b;conv=>whnf
 refine jN mixed ai (γ:=Nat×ByteArray) (λg=>[(3,sD g.2),(4,iD g.1)]) (λ_=>[]) (λg=>g.1<=x.kz.length/\g.2.size<29+be dw (x.kz.take g.1)) (λg=>x.kz.length-g.1) (0,db (⟨#[115,99,104,101,109,97]⟩:ByteArray) x.vz) (ah aJ) bE ⟨zW _,by simp only[List.take_zero,be,List.map_nil,List.sum_nil];omega⟩ ?_;rintro⟨q,t⟩ ⟨D,z⟩;simp only at D z⊢;have v:=jB dw x.kz q;have J:=jB dY x.lz 0;by_cases hlt:q<x.kz.length
 .obtain⟨k,i⟩:∃k,x.kz[(q:Int).toNat]?=some k:=⟨_,zD hlt⟩
  have e:=hx.kz k (zG i);have R:=e.name;have L:=e.lo;have M:=e.hi;have V:=e.fl;have C:t.size<=1000000:=by unfold fe at r;omega
  have I:=FK dw x.kz q k i;have w:=jB dw x.kz (q+1)
  repeat' first|refine io ?_|intro b;conv=>whnf
  have o:=Am (s:=t++{ data:=#[10,107,105,110,100,32] } ++ k.name) L;have hy2:=Am (s:=db (t++{ data:=#[10,107,105,110,100,32] } ++ k.name) k.lo) M;simp only[yU]at o;have X:dw k=8+k.name.size+bC k.lo+bC k.hi+be gk k.fields:=rfl;refine jN mixed ai (γ:=Nat×ByteArray) (λg=>[(3,sD g.2),(6,iD g.1)]) (λ_=>[(b,.cells 78 (aD k))]) (λg=>g.1<=k.fields.length/\g.2.size<29+be dw (x.kz.take q)+(8+k.name.size+bC k.lo+bC k.hi)+be gk (k.fields.take g.1)) (λg=>k.fields.length-g.1) (0,db (db (t++{ data:=#[10,107,105,110,100,32] } ++ k.name) k.lo) k.hi) (ah aJ) (xQ _) ⟨zW _,by simp only[List.take_zero,be,List.map_nil,List.sum_nil]at *;omega⟩ ?_;rintro⟨j,u⟩ ⟨hj,hu⟩;simp only at hj hu⊢;have E:=jB gk k.fields j;by_cases hjl:j<k.fields.length
  .obtain⟨f,l⟩:∃f,k.fields[(j:Int).toNat]?=some f:=⟨_,zD hjl⟩
   have n:=e.fs f (zG l);have HLN:=CB f n.kind n.sane n.name n.of n.up n.ws n.wl n.pw;have hfs:=rC f n.kind n.sane n.wl n.pw;have O:=FK gk k.fields j f l;have y:=jB gk k.fields (j+1);have G:u.size<=1000000:=by unfold fe at r;omega
   have K:(m4 f).size<=1000000:=by unfold fe at r;omega
   have Q:(u++m4 f).size=u.size+(m4 f).size:=yU
   repeat' first|refine io ?_|intro b;conv=>whnf
   exact⟨(j+1,u++m4 f),(ah aJ),(xQ _),⟨by simp only;omega,by simp only;omega⟩,by simp only;omega⟩
  .obtain rfl:j=k.fields.length:=by omega
   exact YX
 .obtain rfl:q=x.kz.length:=by omega
  rw[yM]at z
  repeat' first|refine io ?_|intro b;conv=>whnf
  refine jN mixed ai (γ:=Nat×ByteArray) (λg=>[(3,sD g.2),(7,iD g.1)]) (λ_=>[]) (λg=>g.1<=x.lz.length/\g.2.size<29+be dw x.kz+be dY (x.lz.take g.1)) (λg=>x.lz.length-g.1) (0,t) (ah aJ) bE ⟨zW _,by simp only[List.take_zero,be,List.map_nil,List.sum_nil]at *;omega⟩ ?_;clear z hlt D v J;rintro⟨q,t⟩ ⟨D,z⟩;simp only at D z⊢;have v:=jB dY x.lz q;by_cases hlt:q<x.lz.length
  .obtain⟨k,i⟩:∃k,x.lz[(q:Int).toNat]?=some k:=⟨_,zD hlt⟩
   have e:=hx.lz k (zG i);have R:=e.name;have J:=e.sl;have hml:=e.ml;have K:-9223372036854775807<=(k.tz.length:Int)/\(k.tz.length:Int)<=9223372036854775807:=by omega
   have C:t.size<=1000000:=by unfold fe at r;omega
   have I:=FK dY x.lz q k i;have w:=jB dY x.lz (q+1);have o:=Am (s:=t++{ data:=#[10,108,105,102,101,32] } ++ k.name) K;simp only[yU]at o;have X:dY k=7+k.name.size+bC k.tz.length+be (λs=>1+s.size) k.tz+be gd k.mz:=rfl
   repeat' first|refine io ?_|intro b;conv=>whnf
   simp only[zL];refine jN mixed ai (γ:=Nat×ByteArray) (λg=>[(3,sD g.2),(9,iD g.1)]) (λ_=>[(b,.cells 93 (bX k))]) (λg=>g.1<=k.tz.length/\g.2.size<29+be dw x.kz+be dY (x.lz.take q)+(7+k.name.size+bC k.tz.length)+be (λs=>1+s.size) (k.tz.take g.1)) (λg=>k.tz.length-g.1) (0,db (t++{ data:=#[10,108,105,102,101,32] } ++ k.name) k.tz.length) (ah aJ) (xQ _) ⟨zW _,by simp only[List.take_zero,be,List.map_nil,List.sum_nil]at *;omega⟩ ?_;rintro⟨j,u⟩ ⟨hj,hu⟩;simp only at hj hu⊢;have E:=jB (λs:ByteArray=>1+s.size) k.tz j;by_cases hjl:j<k.tz.length
   .obtain⟨f,l⟩:∃f,k.tz[(j:Int).toNat]?=some f:=⟨_,zD hjl⟩
    have n:=e.ss f (zG l);have O:=FK (λs:ByteArray=>1+s.size) k.tz j f l;have y:=jB (λs:ByteArray=>1+s.size) k.tz (j+1);have G:u.size<=1000000:=by unfold fe at r;omega
    have Q:(u++{ data:=#[32] } ++ f).size=u.size+1+f.size:=by rw[yU,yU];rfl
    repeat' first|refine io ?_|intro b;conv=>whnf
    exact⟨(j+1,u++{ data:=#[32] } ++ f),(ah aJ),(xQ _),⟨by simp only;omega,by simp only;omega⟩,by simp only;omega⟩
   .obtain rfl:j=k.tz.length:=by omega
    rw[yM]at hu
    repeat' first|refine io ?_|intro b;conv=>whnf
    refine jN mixed ai (γ:=Nat×ByteArray) (λg=>[(3,sD g.2),(10,iD g.1)]) (λ_=>[(b,.cells 93 (bX k))]) (λg=>g.1<=k.mz.length/\g.2.size<29+be dw x.kz+be dY (x.lz.take q)+(7+k.name.size+bC k.tz.length)+be (λs=>1+s.size) k.tz+be gd (k.mz.take g.1)) (λg=>k.mz.length-g.1) (0,u) (ah aJ) (xQ _) ⟨zW _,by simp only[List.take_zero,be,List.map_nil,List.sum_nil]at *;omega⟩ ?_;clear hj hu E hjl;rintro⟨j,u⟩ ⟨hj,hu⟩;simp only at hj hu⊢;have E:=jB gd k.mz j;by_cases hjl:j<k.mz.length
    .obtain⟨f,l⟩:∃f,k.mz[(j:Int).toNat]?=some f:=⟨_,zD hjl⟩
     have n:=e.ms f (zG l);have U:=n.1;have T:=n.2;have O:=FK gd k.mz j f l;have y:=jB gd k.mz (j+1);have G:u.size<=1000000:=by unfold fe at r;omega
     have hd2:gd f=7+bC f.1+bC f.2:=rfl
     repeat' first|refine io ?_|intro b;conv=>whnf
     have P:=Am (s:=u++{ data:=#[10,109,111,118,101] }) U;have Z:=Am (s:=db (u++{ data:=#[10,109,111,118,101] }) f.1) T;simp only[yU]at P;exact⟨(j+1,db (db (u++{ data:=#[10,109,111,118,101] }) f.1) f.2),(ah aJ),(xQ _),⟨by simp only;omega,by simp only;omega⟩,by simp only;omega⟩
    .obtain rfl:j=k.mz.length:=by omega
     exact YX
  .obtain rfl:q=x.lz.length:=by omega
   rw[yM]at z
   repeat' first|refine io ?_|intro b;conv=>whnf
   refine jN mixed ai (γ:=Nat×ByteArray) (λg=>[(3,sD g.2),(11,iD g.1)]) (λ_=>[]) (λg=>g.1<=x.rules.length/\g.2.size<29+be dw x.kz+be dY x.lz+be fK (x.rules.take g.1)) (λg=>x.rules.length-g.1) (0,t) (ah aJ) bE ⟨zW _,by simp only[List.take_zero,be,List.map_nil,List.sum_nil]at *;omega⟩ ?_;clear z hlt D v;rintro⟨q,t⟩ ⟨D,z⟩;simp only at D z⊢;have v:=jB fK x.rules q;by_cases hlt:q<x.rules.length
   .obtain⟨k,i⟩:∃k,x.rules[(q:Int).toNat]?=some k:=⟨_,zD hlt⟩
    have e:=hx.rules k (zG i);have hk1:=e.name;have hk2:=e.kind;have hk3:=e.a;have hk4:=e.b;have S:=e.n;have C:t.size<=1000000:=by unfold fe at r;omega
    have I:=FK fK x.rules q k i;have w:=jB fK x.rules (q+1);have X:fK k=12+k.name.size+k.kind.size+k.a.size+k.b.size+bC k.n:=rfl;have hn1:=ax5 k.a;have hn2:=ax5 k.b;have s1:(⟨#[32]⟩:ByteArray).size=1:=rfl;have o:=Am (s:=t++{ data:=#[10,114,117,108,101,32] } ++ k.name++{ data:=#[32] } ++ k.kind++{ data:=#[32] } ++ yq k.a++{ data:=#[32] } ++ yq k.b) S;simp only[yU]at o
    repeat' first|refine io ?_|intro b;conv=>whnf
    exact⟨(q+1,db (t++{ data:=#[10,114,117,108,101,32] } ++ k.name++{ data:=#[32] } ++ k.kind++{ data:=#[32] } ++ yq k.a++{ data:=#[32] } ++ yq k.b) k.n),(ah aJ),bE,⟨by simp only;omega,by simp only;omega⟩,by simp only;omega⟩
   .obtain rfl:q=x.rules.length:=by omega
    rw[yM]at z;have C:t.size<=1000000:=by unfold fe at r;omega
    have hl:(t++{ data:=#[10] }).size=t.size+1:=by rw[yU];rfl
    repeat' first|refine io ?_|intro b;conv=>whnf
    exact Rt.same ⟨_,rfl,by rw[hl];unfold fe;omega⟩
end
section
open Go
structure zr(x:ak):Prop where
 ver:-9223372036854775807<=x.vz/\x.vz<=9223372036854775807
 fsane:∀k∈x.kz,∀f∈k.fields,uT f/\(-9223372036854775807<=f.kind/\f.kind<=9223372036854775807)
 ksane:∀k∈x.kz,(-9223372036854775807<=k.lo/\k.lo<=9223372036854775807)/\(-9223372036854775807<=k.hi/\k.hi<=9223372036854775807)
 msane:∀l∈x.lz,∀m∈l.mz,(-9223372036854775807<=m.1/\m.1<=9223372036854775807)/\(-9223372036854775807<=m.2/\m.2<=9223372036854775807)
 rsane:∀r∈x.rules,-9223372036854775807<=r.n/\r.n<=9223372036854775807
 sm:bi9 x
 src:iS x=true->fe x<=8192
variable{s:ByteArray}
def GC(h:bf s=true):s.size<=12:=by
 simp only[bf,cF,zJ,zQ]at h;omega
def RU(h:dz s=true\/bf s=true):s.size<=100000:=by
 rcases h with h|h
 .rw[D7 h];omega
 .have:=GC h;omega
def Ev{f:an}(h:dV f=true)(i:uT f):Ob f:=by
 simp only[dV,zJ]at h;obtain⟨⟨l,g⟩,a⟩:=h;simp only[m9,zJ,xO]at g;obtain⟨⟨⟨⟨c,b⟩,_⟩,_⟩,o⟩:=g;have j:0<=f.kind/\f.kind<=8:=by
  unfold fy at a;by_cases hh:0<=f.kind/\f.kind<=8
  .exact hh
  .repeat rw[if_neg (by omega)]at a
   cases a
 have k:f.kind=3->na f.words f.wz=true:=λe=>by
  unfold fy at a;rw[if_neg (by omega),if_neg (by omega),if_neg (by omega),if_pos e]at a;exact a
 have d:f.of.size<=100000:=by
  rcases c with c|c
  .refine RU ?_;unfold fy at a;simp only[iU,xO,beq_iff_eq]at c;rcases c with((((e|e)|e)|e)|e)|e<;>rw[e]at a<;>simp at a<;>first|exact .inr a.1.1|exact .inr a.1|exact .inr a|exact a.1
  .exact RU (.inl c)
 have p:f.up.size<=100000:=by
  rcases b with b|b
  .refine RU ?_;unfold fy at a;simp only[iV,xO,beq_iff_eq]at b;rcases b with e|e<;>rw[e]at a<;>simp at a<;>first|exact .inr a.1.2|exact .inr a.2
  .exact RU (.inl b)
 refine⟨j,i,by have:=GC l;omega,d,p,?_,?_,?_⟩
 .intro s m;rcases o with o|o
  .have:=k (by simpa [eO]using o);simp only[na,zJ,yA]at this;have:=GC (this.2 s m);omega
  .simp only[zJ,List.isEmpty_iff]at o;rw[o.1]at m;cases m
 .rcases o with o|o
  .have:=k (by simpa [eO]using o);simp only[na,cF,zJ,zQ]at this;omega
  .simp only[zJ,List.isEmpty_iff]at o;rw[o.1];simp
 .intro u;have:=k (by simpa [eO]using u);simp only[na,zJ,zQ]at this;exact this.1.1.2
def A7{x:ak}(h:iS x=true)(g:zr x):N7 x:=by
 have v:=AL h;have n:=h;simp only[iS,zJ,zQ,yA]at n;refine⟨g.ver,λk d=>?_,λl i=>?_,λr e=>?_,by have:=v.nk;omega,by have:=v.nl;omega,by have:=v.nr;omega,by have:=g.src h;omega⟩
 .have c:=v.kz k d;simp only[jK,zJ,zQ,yA]at c;exact⟨by have:=GC c.1.1.1;omega,(g.ksane k d).1,(g.ksane k d).2,λf j=>Ev (c.2 f j) (g.fsane k d f j).1,by have:=v.nf k d;omega⟩
 .have b:=v.lz l i;simp only[jL,cF,zJ,zQ,yA]at b;exact⟨by have:=GC b.1.1.1.1;omega,λs m=>by have:=GC (b.1.1.2 s m);omega,by omega,g.msane l i,by omega⟩
 .have a:=v.rules r e;simp only[yw,zJ,xO]at a;exact⟨by have:=GC a.1.1.1.1.1;omega,by have:=GC a.1.1.1.1.2;omega,RU a.1.1.1.2,RU a.1.1.2,g.rsane r e⟩
end
end Go.Proofs.YtilnpcolgcmofaaGreatDoor
