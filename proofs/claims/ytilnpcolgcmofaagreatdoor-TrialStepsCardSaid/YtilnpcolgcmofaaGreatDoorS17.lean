/- A part of the proof: R09e R09f R09g Cg Ch. -/
import Derived.Test.YtilnpcolgcmofaaGreatDoorS16
set_option maxRecDepth 100000
set_option maxHeartbeats 20000000
set_option linter.all false
namespace Go.Proofs.YtilnpcolgcmofaaGreatDoor
open Tryz
section
open Go
structure tm(f:am):Prop where
 lo:-9223372036854775807<=f.lo/\f.lo<=9223372036854775807
 hi:-9223372036854775807<=f.hi/\f.hi<=9223372036854775807
 ws:∀n∈f.wz,-9223372036854775807<=n/\n<=9223372036854775807
def sp:ByteArray:=⟨#[32]⟩
def JV(out:ByteArray)(f:am):Nat->ByteArray
 |0=>cP out f.words.length
 |q+1=>match f.words[q]?,f.wz[q]? with
  |some s,some n=>cP (JV out f q++sp++s) n
  |_,_=>JV out f q
def lO(f:am):ByteArray:=
 let d:=(⟨#[10]⟩:ByteArray)++(wj[f.kind.toNat]?).getD ⟨#[]⟩++sp++f.name
 let c:=if ia f.kind then d++sp++f.up else d
 let b:=if hZ f.kind then c++sp++wh f.of else c
 let a:=if iJ f.kind then cP b f.lo else b
 let o:=if hY f.kind then cP a f.hi else a
 if ej f.kind then JV o f f.words.length else o
theorem Kq(c:UInt8):(⟨#[c]⟩:ByteArray).size<=1:=zT 1
theorem M2:(⟨#[]⟩:ByteArray).size<=0:=zT 0
theorem Gi{a b:ByteArray}{m n:Nat}(h:a.size<=m)(k:b.size<=n):(a++b).size<=m+n:=by rw[yU];omega
theorem JZ{s:ByteArray}{n:Int}{m:Nat}(h:s.size<=m)(k:-9223372036854775807<=n/\n<=9223372036854775807):(cP s n).size<=m+22:=by have:=x9 (s:=s) k;have:=aZ9 n;omega
theorem M1{s:ByteArray}{m:Nat}(h:s.size<=m):(wh s).size<=m+1:=by have:=Z6 s;omega
theorem Gh{s:ByteArray}{m M:Nat}(h:s.size<=m)(k:m<=M):s.size<=M:=xH h k
theorem Kp{a b:ByteArray}{m n M:Nat}(h:a.size<=m)(k:b.size<=n)(c:m+n<=M):a.size+b.size<=M:=by omega
theorem FV{A B:Prop}(k:B)(h:ar B->A:=by intro q7;(first|((with_reducible refine W.mk ?_);(conv=>whnf))|(with_reducible refine ZR ?_)|(with_reducible refine ZQ ?_)|(with_reducible refine Br.n ?_));exact q7.1):A:=h ⟨k⟩
theorem FX{A B:Prop}(k:B)(h:ar B->A:=by intro q7;(first|((with_reducible refine' Br.eq ?h ?_);(case h=>(simp only[zL,zR,zI,List.length_cons,List.length_nil,zY,Nat.reduceAdd];exact rfl))));exact q7.1):A:=h ⟨k⟩
theorem u8x{A B:Prop}(k:B)(h:ar B->A:=by intro q7;(first|((with_reducible refine Ck.go ?qs7 ?_);(case qs7=>kernel_rfl))|((with_reducible refine' S1 ?hy ?h0 ?_);(case hy=>assumption);(case h0=>omega))|((with_reducible refine' Ix.at ?hy ?h0 ?_);(case hy=>exact rfl);(case h0=>omega))|((with_reducible refine Ix.mapM ?h0 ?_);(case h0=>first|omega|(simp only[zL,zR,zI,List.length_cons,List.length_nil,zY,Nat.reduceAdd]at *;omega)))|refine Kj ?_|refine FY ?_);exact q7.1):A:=h ⟨k⟩
theorem bq3{A B:Prop}(k:B)(h:ar B->A:=by intro q7;(first|refine FV ?_|refine FX ?_|((with_reducible refine Sd.go ?s ?_);(case s=>first|trivial|(constructor<;>omega)|omega|assumption|(refine' Kp ?a ?b ?c;(case a=>repeat'(first|((show(_:Nat)<=_);assumption)|exact Kq _|exact M2|(refine' JZ ?_ (by assumption))|refine' M1 ?_|refine' Gi ?_ ?_));(case b=>repeat'(first|((show(_:Nat)<=_);assumption)|exact Kq _|exact M2|(refine' JZ ?_ (by assumption))|refine' M1 ?_|refine' Gi ?_ ?_));(case c=>first|decide|omega))))|refine u8x ?_);exact q7.1):A:=h ⟨k⟩
theorem GE{A B:Prop}(k:B)(h:ar B->A:=by intro q7;(first|refine bq3 ?_|refine aA ?_|(refine' ah ?hc ?_;(case hc=>first|exact HU|exact be7|exact aD8 _|(refine aY0 _ _ ?hs ?hn;(case hn=>first|assumption|omega|(simp only[zL,zR,zI,List.length_cons,List.length_nil,zY,Nat.reduceAdd];omega));(case hs=>(refine' Gh ?a ?c;(case a=>repeat'(first|((show(_:Nat)<=_);assumption)|exact Kq _|exact M2|(refine' JZ ?_ (by assumption))|refine' M1 ?_|refine' Gi ?_ ?_));(case c=>first|decide|omega)))))));exact q7.1):A:=h ⟨k⟩
theorem nO{p:Prop}(h:p:=by
 refine ao func177 ntmps177 λBB=>?_
 repeat refine GE ?_
 refine Rt.pure (zM sD ?_);unfold lO;rw[hy];simp[hk,ia,hZ,iJ,hY,ej,sp]):p:=h
theorem pM(f:am)(hk:f.kind=0)(hs:tm f)(k:f.name.size<=100000)(j:f.of.size<=100000)(i:f.up.size<=100000)(e:∀s∈f.words,s.size<=100000)(l:f.words.length<=12)(q:ej f.kind=true->f.words.length=f.wz.length):APure prog 177 [bM f] (sD (lO f)):=by
 have o:=hs.lo;have n:=hs.hi;have HU:APure prog 228 [iD f.kind] (.tup [bD false,bD false,bD true,bD false,bD false]):=by rw[hk];exact lw 0
 have hy:wj[f.kind.toNat]?=some ⟨#[107,101,121]⟩:=by rw[hk];rfl
 have g:(⟨#[107,101,121]⟩:ByteArray).size<=9:=by decide
 exact nO
theorem pL(f:am)(hk:f.kind=1)(hs:tm f)(k:f.name.size<=100000)(j:f.of.size<=100000)(i:f.up.size<=100000)(e:∀s∈f.words,s.size<=100000)(l:f.words.length<=12)(q:ej f.kind=true->f.words.length=f.wz.length):APure prog 177 [bM f] (sD (lO f)):=by
 have o:=hs.lo;have n:=hs.hi;have HU:APure prog 228 [iD f.kind] (.tup [bD true,bD false,bD true,bD true,bD false]):=by rw[hk];exact lw 1
 have hy:wj[f.kind.toNat]?=some ⟨#[114,101,102]⟩:=by rw[hk];rfl
 have g:(⟨#[114,101,102]⟩:ByteArray).size<=9:=by decide
 exact nO
theorem pK(f:am)(hk:f.kind=2)(hs:tm f)(k:f.name.size<=100000)(j:f.of.size<=100000)(i:f.up.size<=100000)(e:∀s∈f.words,s.size<=100000)(l:f.words.length<=12)(q:ej f.kind=true->f.words.length=f.wz.length):APure prog 177 [bM f] (sD (lO f)):=by
 have o:=hs.lo;have n:=hs.hi;have HU:APure prog 228 [iD f.kind] (.tup [bD false,bD false,bD true,bD true,bD false]):=by rw[hk];exact lw 2
 have hy:wj[f.kind.toNat]?=some ⟨#[110,117,109]⟩:=by rw[hk];rfl
 have g:(⟨#[110,117,109]⟩:ByteArray).size<=9:=by decide
 exact nO
theorem pJ(f:am)(k:f.kind=3)(hs:tm f)(M:f.name.size<=100000)(L:f.of.size<=100000)(K:f.up.size<=100000)(r:∀s∈f.words,s.size<=100000)(E:f.words.length<=12)(J:ej f.kind=true->f.words.length=f.wz.length):APure prog 177 [bM f] (sD (lO f)):=by
 have O:=hs.lo;have P:=hs.hi;have HU:APure prog 228 [iD f.kind] (.tup [bD false,bD false,bD false,bD false,bD true]):=by rw[k];exact lw 3
 have hy:wj[f.kind.toNat]?=some ⟨#[112,105,99,107]⟩:=by rw[k];rfl
 have G:(⟨#[112,105,99,107]⟩:ByteArray).size<=9:=by decide
 refine ao func177 ntmps177 λQ=>?_
 repeat refine GE ?_
 have u:-9223372036854775807<=(f.words.length:Int)/\(f.words.length:Int)<=9223372036854775807:=by omega
 have F:=J (by rw[k];rfl);obtain⟨o,e⟩:∃o,o=({ data:=#[10] } ++ { data:=#[112,105,99,107] } ++ { data:=#[32] } ++ f.name:ByteArray):=⟨_,rfl⟩
 have n:o.size<=100100:=by rw[e];(refine' Gh ?a ?c;(case a=>repeat'(first|((show(_:Nat)<=_);assumption)|exact Kq _|exact M2|(refine' JZ ?_ (by assumption))|refine' M1 ?_|refine' Gi ?_ ?_));(case c=>first|decide|omega))
 have w:(cP o f.words.length).size<=100122:=Gh (JZ n u) (by decide);simp only[zL,←e];refine fW mixed ai (γ:=Nat×ByteArray) (λg=>[(8,sD g.2),(9,iD g.1)]) (λ_=>[]) (λg=>g.1<=f.words.length/\g.2=JV o f g.1/\g.2.size<=100122+100023*g.1) (λg=>f.words.length-g.1) (0,cP o f.words.length) rfl rfl ⟨zW _,rfl,by simp only;omega⟩ ?_;rintro⟨q,t⟩ ⟨I,ht,C⟩;simp only at I ht C⊢;by_cases hlt:q<f.words.length
 .obtain⟨y,j⟩:∃y,f.words[(q:Int).toNat]?=some y:=⟨_,zD hlt⟩
  obtain⟨z,i⟩:∃z,f.wz[(q:Int).toNat]?=some z:=⟨_,zD (by simpa using(show q<f.wz.length by omega))⟩
  have D:=r y (zG j);have l:=hs.ws z (zG i);have x:t.size<=1300398:=by omega
  repeat refine GE ?_
  have v:(cP (t++{ data:=#[32] } ++ y) z).size<=t.size+1+y.size+22:=JZ (Gi (Gi (zT _) (Kq _)) (zT _)) l;refine⟨(q+1,cP (t++{ data:=#[32] } ++ y) z),(aj aP),rfl,⟨by simp only;omega,?_,by simp only;omega⟩,by simp only;omega⟩;simp only[JV];rw[show f.words[q]?=some y from j,show f.wz[q]?=some z from i,←ht]
  rfl
 .obtain rfl:q=f.words.length:=by omega
  repeat refine GE ?_
  refine Rt.pure (zM sD ?_);unfold lO;rw[hy,ht,e];simp[k,ia,hZ,iJ,hY,ej,sp]
theorem pI(f:am)(hk:f.kind=4)(hs:tm f)(k:f.name.size<=100000)(j:f.of.size<=100000)(i:f.up.size<=100000)(e:∀s∈f.words,s.size<=100000)(l:f.words.length<=12)(q:ej f.kind=true->f.words.length=f.wz.length):APure prog 177 [bM f] (sD (lO f)):=by
 have o:=hs.lo;have n:=hs.hi;have HU:APure prog 228 [iD f.kind] (.tup [bD true,bD false,bD true,bD true,bD false]):=by rw[hk];exact lw 4
 have hy:wj[f.kind.toNat]?=some ⟨#[100,97,121]⟩:=by rw[hk];rfl
 have g:(⟨#[100,97,121]⟩:ByteArray).size<=9:=by decide
 exact nO
theorem pH(f:am)(hk:f.kind=5)(hs:tm f)(k:f.name.size<=100000)(j:f.of.size<=100000)(i:f.up.size<=100000)(e:∀s∈f.words,s.size<=100000)(l:f.words.length<=12)(q:ej f.kind=true->f.words.length=f.wz.length):APure prog 177 [bM f] (sD (lO f)):=by
 have o:=hs.lo;have n:=hs.hi;have HU:APure prog 228 [iD f.kind] (.tup [bD true,bD false,bD true,bD true,bD false]):=by rw[hk];exact lw 5
 have hy:wj[f.kind.toNat]?=some ⟨#[115,116,101,112]⟩:=by rw[hk];rfl
 have g:(⟨#[115,116,101,112]⟩:ByteArray).size<=9:=by decide
 exact nO
theorem pG(f:am)(hk:f.kind=6)(hs:tm f)(k:f.name.size<=100000)(j:f.of.size<=100000)(i:f.up.size<=100000)(e:∀s∈f.words,s.size<=100000)(l:f.words.length<=12)(q:ej f.kind=true->f.words.length=f.wz.length):APure prog 177 [bM f] (sD (lO f)):=by
 have o:=hs.lo;have n:=hs.hi;have HU:APure prog 228 [iD f.kind] (.tup [bD true,bD false,bD false,bD false,bD false]):=by rw[hk];exact lw 6
 have hy:wj[f.kind.toNat]?=some ⟨#[115,117,109]⟩:=by rw[hk];rfl
 have g:(⟨#[115,117,109]⟩:ByteArray).size<=9:=by decide
 exact nO
theorem pF(f:am)(hk:f.kind=7)(hs:tm f)(k:f.name.size<=100000)(j:f.of.size<=100000)(i:f.up.size<=100000)(e:∀s∈f.words,s.size<=100000)(l:f.words.length<=12)(q:ej f.kind=true->f.words.length=f.wz.length):APure prog 177 [bM f] (sD (lO f)):=by
 have o:=hs.lo;have n:=hs.hi;have HU:APure prog 228 [iD f.kind] (.tup [bD true,bD true,bD true,bD true,bD false]):=by rw[hk];exact lw 7
 have hy:wj[f.kind.toNat]?=some ⟨#[115,104,97,114,101]⟩:=by rw[hk];rfl
 have g:(⟨#[115,104,97,114,101]⟩:ByteArray).size<=9:=by decide
 exact nO
theorem pE(f:am)(hk:f.kind=8)(hs:tm f)(k:f.name.size<=100000)(j:f.of.size<=100000)(i:f.up.size<=100000)(e:∀s∈f.words,s.size<=100000)(l:f.words.length<=12)(q:ej f.kind=true->f.words.length=f.wz.length):APure prog 177 [bM f] (sD (lO f)):=by
 have o:=hs.lo;have n:=hs.hi;have HU:APure prog 228 [iD f.kind] (.tup [bD true,bD true,bD false,bD false,bD false]):=by rw[hk];exact lw 8
 have hy:wj[f.kind.toNat]?=some ⟨#[99,111,112,121]⟩:=by rw[hk];rfl
 have g:(⟨#[99,111,112,121]⟩:ByteArray).size<=9:=by decide
 exact nO
theorem Bz(f:am)(k:0<=f.kind/\f.kind<=8)(e:tm f)(d:f.name.size<=100000)(c:f.of.size<=100000)(b:f.up.size<=100000)(a:∀s∈f.words,s.size<=100000)(l:f.words.length<=12)(p:ej f.kind=true->f.words.length=f.wz.length):APure prog 177 [bM f] (sD (lO f)):=by
 have:f.kind=0\/f.kind=1\/f.kind=2\/f.kind=3\/f.kind=4\/f.kind=5\/f.kind=6\/f.kind=7\/f.kind=8:=by omega
 rcases this with h|h|h|h|h|h|h|h|h
 .exact pM f h e d c b a l p
 .exact pL f h e d c b a l p
 .exact pK f h e d c b a l p
 .exact pJ f h e d c b a l p
 .exact pI f h e d c b a l p
 .exact pH f h e d c b a l p
 .exact pG f h e d c b a l p
 .exact pF f h e d c b a l p
 .exact pE f h e d c b a l p
theorem tW(g:Int->Nat)(l:List Int)(q:Nat)(z:Int)(h:l[q]?=some z):((l.take (q+1)).map g).sum=((l.take q).map g).sum+g z:=by
 simp[xC,h,vO]
theorem oZ(g:ByteArray->Nat)(l:List ByteArray)(q:Nat)(z:ByteArray)(h:l[q]?=some z):((l.take (q+1)).map g).sum=((l.take q).map g).sum+g z:=by
 simp[xC,h,vO]
theorem aT4(o:ByteArray)(f:am)(b:∀n∈f.wz,-9223372036854775807<=n/\n<=9223372036854775807)(l:f.words.length<=12):∀q,q<=f.words.length->q<=f.wz.length->(JV o f q).size<=o.size+1+bu f.words.length+((f.words.take q).map λs=>1+s.size).sum+((f.wz.take q).map λn=>1+bu n).sum
 |0,_,_=>by
  have:=x9 (s:=o) (n:=(f.words.length:Int)) (by omega)
  simpa [JV]using this
 |q+1,e,d=>by
  have i:=aT4 o f b l q (by omega) (by omega);obtain⟨y,a⟩:∃y,f.words[q]?=some y:=⟨_,zD (by omega)⟩
  obtain⟨z,h⟩:∃z,f.wz[q]?=some z:=⟨_,zD (by omega)⟩
  rw[tW _ _ _ _ h,oZ _ _ _ _ a];simp only[JV,a,h];have c:=x9 (s:=JV o f q++sp++y) (n:=z) (b z (zG h));rw[yU,yU]at c;have:sp.size=1:=rfl;omega
theorem qd(f:am)(k:0<=f.kind/\f.kind<=8)(s:tm f)(l:f.words.length<=12)(p:ej f.kind=true->f.words.length=f.wz.length):(lO f).size<=fM f:=by
 have e:sp.size=1:=rfl;have g:(⟨#[10]⟩:ByteArray).size=1:=rfl;have i:((wj[f.kind.toNat]?).getD ⟨#[]⟩).size<=5:=by
  have:f.kind=0\/f.kind=1\/f.kind=2\/f.kind=3\/f.kind=4\/f.kind=5\/f.kind=6\/f.kind=7\/f.kind=8:=by omega
  rcases this with h|h|h|h|h|h|h|h|h<;>rw[h]<;>decide
 unfold lO fM;generalize(wj[f.kind.toNat]?).getD ⟨#[]⟩=w at *;have e0:((⟨#[10]⟩:ByteArray)++w++sp++f.name).size=2+w.size+f.name.size:=by simp only[yU];omega
 generalize((⟨#[10]⟩:ByteArray)++w++sp++f.name)=c at *;simp only;have q:(if ia f.kind=true then c++sp++f.up else c).size<=c.size+1+f.up.size:=by
  split
  .simp only[yU];omega
  .omega
 generalize(if ia f.kind=true then c++sp++f.up else c)=b at *;have n:(if hZ f.kind=true then b++sp++wh f.of else b).size<=b.size+2+f.of.size:=by
  have:=Z6 f.of;split
  .simp only[yU];omega
  .omega
 generalize(if hZ f.kind=true then b++sp++wh f.of else b)=a at *;have m:(if iJ f.kind=true then cP a f.lo else a).size<=a.size+1+bu f.lo:=by
  split
  .exact x9 s.lo
  .omega
 generalize(if iJ f.kind=true then cP a f.lo else a)=o at *;have j:(if hY f.kind=true then cP o f.hi else o).size<=o.size+1+bu f.hi:=by
  split
  .exact x9 s.hi
  .omega
 generalize(if hY f.kind=true then cP o f.hi else o)=d at *;split
 .rename_i u;have:=aT4 d f s.ws l f.words.length (zT _) (by have:=p u;omega);rw[yM,p u,yM,←p u]at this;omega
 .omega
end
section
open Go
structure My(f:am):Prop where
 kind:0<=f.kind/\f.kind<=8
 sane:tm f
 name:f.name.size<=100000
 of:f.of.size<=100000
 up:f.up.size<=100000
 ws:∀s∈f.words,s.size<=100000
 wl:f.words.length<=12
 pw:ej f.kind=true->f.words.length=f.wz.length
structure ZK(k:au):Prop where
 name:k.name.size<=100000
 lo:-9223372036854775807<=k.lo/\k.lo<=9223372036854775807
 hi:-9223372036854775807<=k.hi/\k.hi<=9223372036854775807
 fs:∀f∈k.fields,My f
 fl:k.fields.length<=1000000
structure ZJ(x:bW):Prop where
 name:x.name.size<=100000
 ss:∀s∈x.tz,s.size<=100000
 sl:x.tz.length<=1000000
 ms:∀m∈x.mz,(-9223372036854775807<=m.1/\m.1<=9223372036854775807)/\(-9223372036854775807<=m.2/\m.2<=9223372036854775807)
 ml:x.mz.length<=1000000
structure ZF(r:cF):Prop where
 name:r.name.size<=100000
 kind:r.kind.size<=100000
 a:r.a.size<=100000
 b:r.b.size<=100000
 n:-9223372036854775807<=r.n/\r.n<=9223372036854775807
structure Mt(x:ak):Prop where
 ver:-9223372036854775807<=x.vz/\x.vz<=9223372036854775807
 kz:∀k∈x.kz,ZK k
 lz:∀l∈x.lz,ZJ l
 rules:∀r∈x.rules,ZF r
 kl:x.kz.length<=1000000
 ll:x.lz.length<=1000000
 rl:x.rules.length<=1000000
 src:e' x<=1000000
theorem bq2{A B:Prop}(k:B)(h:ar B->A:=by intro q7;(first|refine FV ?_|refine FX ?_|((with_reducible refine Sd.go ?qs7 ?_);(case qs7=>first|trivial|(constructor<;>omega)|omega|assumption|(refine' Kp ?a ?b ?c;(case a=>repeat'(first|((show(_:Nat)<=_);assumption)|exact Kq _|exact M2|(refine' JZ ?_ (by assumption))|refine' M1 ?_|refine' Gi ?_ ?_));(case b=>repeat'(first|((show(_:Nat)<=_);assumption)|exact Kq _|exact M2|(refine' JZ ?_ (by assumption))|refine' M1 ?_|refine' Gi ?_ ?_));(case c=>first|decide|omega))))|refine u8x ?_);exact q7.1):A:=h ⟨k⟩
theorem gM{A B:Prop}(k:B)(h:ar B->A:=by intro q7;(first|refine bq2 ?_|refine aA ?_|(refine' ah ?hc ?_;(case hc=>first|exact aD8 _|exact HLN|(refine aY0 _ _ ?hs ?hn;(case hn=>first|assumption|omega|(simp only[zL,zR,zI,List.length_cons,List.length_nil,zY,Nat.reduceAdd];omega));(case hs=>(refine' Gh ?a ?c;(case a=>repeat'(first|((show(_:Nat)<=_);assumption)|exact Kq _|exact M2|(refine' JZ ?_ (by assumption))|refine' M1 ?_|refine' Gi ?_ ?_));(case c=>first|decide|omega)))))));exact q7.1):A:=h ⟨k⟩
theorem XB{p:Prop}(h:p:=by
 rw[yM]at hu
 repeat' first|refine gM ?_|intro b;conv=>whnf
 exact⟨(q+1,u),(aj aP),dV,⟨by simp only;omega,by simp only;omega⟩,by simp only;omega⟩):p:=h
theorem pC(x:ak)(hx:Mt x):cb prog 131 [ax x] (λd=>∃s:ByteArray,d=sD s/\s.size<=e' x):=by
 have F:=hx.ver;have hkl:=hx.kl;have hll:=hx.ll;have hrl:=hx.rl;have r:=hx.src;have l6:(⟨#[115,99,104,101,109,97]⟩:ByteArray).size<=6:=by decide
 have lk:(⟨#[10,107,105,110,100,32]⟩:ByteArray).size<=6:=by decide
 have Y:(⟨#[10,108,105,102,101,32]⟩:ByteArray).size<=6:=by decide
 have lm:(⟨#[10,109,111,118,101]⟩:ByteArray).size<=5:=by decide
 have lr:(⟨#[10,114,117,108,101,32]⟩:ByteArray).size<=6:=by decide
 have hb0:=x9 (s:=(⟨#[115,99,104,101,109,97]⟩:ByteArray)) F;have hi0:=aZ9 x.vz;refine cb.of_call ?_;refine cU func131 ntmps131 λBB=>?_
 repeat' first|refine gM ?_|intro b;conv=>whnf
 refine lU mixed ai (γ:=Nat×ByteArray) (λg=>[(3,sD g.2),(4,iD g.1)]) (λ_=>[]) (λg=>g.1<=x.kz.length/\g.2.size<29+aX dk (x.kz.take g.1)) (λg=>x.kz.length-g.1) (0,cP (⟨#[115,99,104,101,109,97]⟩:ByteArray) x.vz) (aj aP) dV ⟨zW _,by simp only[List.take_zero,aX,List.map_nil,List.sum_nil];omega⟩ ?_;rintro⟨q,t⟩ ⟨D,z⟩;simp only at D z⊢;have v:=iI dk x.kz q;have J:=iI dJ x.lz 0;by_cases hlt:q<x.kz.length
 .obtain⟨k,i⟩:∃k,x.kz[(q:Int).toNat]?=some k:=⟨_,zD hlt⟩
  have e:=hx.kz k (zG i);have R:=e.name;have L:=e.lo;have M:=e.hi;have V:=e.fl;have C:t.size<=1000000:=by unfold e' at r;omega
  have I:=Eu dk x.kz q k i;have w:=iI dk x.kz (q+1)
  repeat' first|refine gM ?_|intro b;conv=>whnf
  have o:=x9 (s:=t++{ data:=#[10,107,105,110,100,32] } ++ k.name) L;have hy2:=x9 (s:=cP (t++{ data:=#[10,107,105,110,100,32] } ++ k.name) k.lo) M;simp only[yU]at o;have X:dk k=8+k.name.size+bu k.lo+bu k.hi+aX fM k.fields:=rfl;refine lU mixed ai (γ:=Nat×ByteArray) (λg=>[(3,sD g.2),(6,iD g.1)]) (λ_=>[(b,.cells 78 (bv k))]) (λg=>g.1<=k.fields.length/\g.2.size<29+aX dk (x.kz.take q)+(8+k.name.size+bu k.lo+bu k.hi)+aX fM (k.fields.take g.1)) (λg=>k.fields.length-g.1) (0,cP (cP (t++{ data:=#[10,107,105,110,100,32] } ++ k.name) k.lo) k.hi) (aj aP) (xQ _) ⟨zW _,by simp only[List.take_zero,aX,List.map_nil,List.sum_nil]at *;omega⟩ ?_;rintro⟨j,u⟩ ⟨hj,hu⟩;simp only at hj hu⊢;have E:=iI fM k.fields j;by_cases hjl:j<k.fields.length
  .obtain⟨f,l⟩:∃f,k.fields[(j:Int).toNat]?=some f:=⟨_,zD hjl⟩
   have n:=e.fs f (zG l);have HLN:=Bz f n.kind n.sane n.name n.of n.up n.ws n.wl n.pw;have hfs:=qd f n.kind n.sane n.wl n.pw;have O:=Eu fM k.fields j f l;have y:=iI fM k.fields (j+1);have G:u.size<=1000000:=by unfold e' at r;omega
   have K:(lO f).size<=1000000:=by unfold e' at r;omega
   have Q:(u++lO f).size=u.size+(lO f).size:=yU
   repeat' first|refine gM ?_|intro b;conv=>whnf
   exact⟨(j+1,u++lO f),(aj aP),(xQ _),⟨by simp only;omega,by simp only;omega⟩,by simp only;omega⟩
  .obtain rfl:j=k.fields.length:=by omega
   exact XB
 .obtain rfl:q=x.kz.length:=by omega
  rw[yM]at z
  repeat' first|refine gM ?_|intro b;conv=>whnf
  refine lU mixed ai (γ:=Nat×ByteArray) (λg=>[(3,sD g.2),(7,iD g.1)]) (λ_=>[]) (λg=>g.1<=x.lz.length/\g.2.size<29+aX dk x.kz+aX dJ (x.lz.take g.1)) (λg=>x.lz.length-g.1) (0,t) (aj aP) dV ⟨zW _,by simp only[List.take_zero,aX,List.map_nil,List.sum_nil]at *;omega⟩ ?_;clear z hlt D v J;rintro⟨q,t⟩ ⟨D,z⟩;simp only at D z⊢;have v:=iI dJ x.lz q;by_cases hlt:q<x.lz.length
  .obtain⟨k,i⟩:∃k,x.lz[(q:Int).toNat]?=some k:=⟨_,zD hlt⟩
   have e:=hx.lz k (zG i);have R:=e.name;have J:=e.sl;have hml:=e.ml;have K:-9223372036854775807<=(k.tz.length:Int)/\(k.tz.length:Int)<=9223372036854775807:=by omega
   have C:t.size<=1000000:=by unfold e' at r;omega
   have I:=Eu dJ x.lz q k i;have w:=iI dJ x.lz (q+1);have o:=x9 (s:=t++{ data:=#[10,108,105,102,101,32] } ++ k.name) K;simp only[yU]at o;have X:dJ k=7+k.name.size+bu k.tz.length+aX (λs=>1+s.size) k.tz+aX fw k.mz:=rfl
   repeat' first|refine gM ?_|intro b;conv=>whnf
   simp only[zL];refine lU mixed ai (γ:=Nat×ByteArray) (λg=>[(3,sD g.2),(9,iD g.1)]) (λ_=>[(b,.cells 93 (dT k))]) (λg=>g.1<=k.tz.length/\g.2.size<29+aX dk x.kz+aX dJ (x.lz.take q)+(7+k.name.size+bu k.tz.length)+aX (λs=>1+s.size) (k.tz.take g.1)) (λg=>k.tz.length-g.1) (0,cP (t++{ data:=#[10,108,105,102,101,32] } ++ k.name) k.tz.length) (aj aP) (xQ _) ⟨zW _,by simp only[List.take_zero,aX,List.map_nil,List.sum_nil]at *;omega⟩ ?_;rintro⟨j,u⟩ ⟨hj,hu⟩;simp only at hj hu⊢;have E:=iI (λs:ByteArray=>1+s.size) k.tz j;by_cases hjl:j<k.tz.length
   .obtain⟨f,l⟩:∃f,k.tz[(j:Int).toNat]?=some f:=⟨_,zD hjl⟩
    have n:=e.ss f (zG l);have O:=Eu (λs:ByteArray=>1+s.size) k.tz j f l;have y:=iI (λs:ByteArray=>1+s.size) k.tz (j+1);have G:u.size<=1000000:=by unfold e' at r;omega
    have Q:(u++{ data:=#[32] } ++ f).size=u.size+1+f.size:=by rw[yU,yU];rfl
    repeat' first|refine gM ?_|intro b;conv=>whnf
    exact⟨(j+1,u++{ data:=#[32] } ++ f),(aj aP),(xQ _),⟨by simp only;omega,by simp only;omega⟩,by simp only;omega⟩
   .obtain rfl:j=k.tz.length:=by omega
    rw[yM]at hu
    repeat' first|refine gM ?_|intro b;conv=>whnf
    refine lU mixed ai (γ:=Nat×ByteArray) (λg=>[(3,sD g.2),(10,iD g.1)]) (λ_=>[(b,.cells 93 (dT k))]) (λg=>g.1<=k.mz.length/\g.2.size<29+aX dk x.kz+aX dJ (x.lz.take q)+(7+k.name.size+bu k.tz.length)+aX (λs=>1+s.size) k.tz+aX fw (k.mz.take g.1)) (λg=>k.mz.length-g.1) (0,u) (aj aP) (xQ _) ⟨zW _,by simp only[List.take_zero,aX,List.map_nil,List.sum_nil]at *;omega⟩ ?_;clear hj hu E hjl;rintro⟨j,u⟩ ⟨hj,hu⟩;simp only at hj hu⊢;have E:=iI fw k.mz j;by_cases hjl:j<k.mz.length
    .obtain⟨f,l⟩:∃f,k.mz[(j:Int).toNat]?=some f:=⟨_,zD hjl⟩
     have n:=e.ms f (zG l);have U:=n.1;have T:=n.2;have O:=Eu fw k.mz j f l;have y:=iI fw k.mz (j+1);have G:u.size<=1000000:=by unfold e' at r;omega
     have hd2:fw f=7+bu f.1+bu f.2:=rfl
     repeat' first|refine gM ?_|intro b;conv=>whnf
     have P:=x9 (s:=u++{ data:=#[10,109,111,118,101] }) U;have Z:=x9 (s:=cP (u++{ data:=#[10,109,111,118,101] }) f.1) T;simp only[yU]at P;exact⟨(j+1,cP (cP (u++{ data:=#[10,109,111,118,101] }) f.1) f.2),(aj aP),(xQ _),⟨by simp only;omega,by simp only;omega⟩,by simp only;omega⟩
    .obtain rfl:j=k.mz.length:=by omega
     exact XB
  .obtain rfl:q=x.lz.length:=by omega
   rw[yM]at z
   repeat' first|refine gM ?_|intro b;conv=>whnf
   refine lU mixed ai (γ:=Nat×ByteArray) (λg=>[(3,sD g.2),(11,iD g.1)]) (λ_=>[]) (λg=>g.1<=x.rules.length/\g.2.size<29+aX dk x.kz+aX dJ x.lz+aX fu (x.rules.take g.1)) (λg=>x.rules.length-g.1) (0,t) (aj aP) dV ⟨zW _,by simp only[List.take_zero,aX,List.map_nil,List.sum_nil]at *;omega⟩ ?_;clear z hlt D v;rintro⟨q,t⟩ ⟨D,z⟩;simp only at D z⊢;have v:=iI fu x.rules q;by_cases hlt:q<x.rules.length
   .obtain⟨k,i⟩:∃k,x.rules[(q:Int).toNat]?=some k:=⟨_,zD hlt⟩
    have e:=hx.rules k (zG i);have hk1:=e.name;have hk2:=e.kind;have hk3:=e.a;have hk4:=e.b;have S:=e.n;have C:t.size<=1000000:=by unfold e' at r;omega
    have I:=Eu fu x.rules q k i;have w:=iI fu x.rules (q+1);have X:fu k=12+k.name.size+k.kind.size+k.a.size+k.b.size+bu k.n:=rfl;have hn1:=Z6 k.a;have hn2:=Z6 k.b;have s1:(⟨#[32]⟩:ByteArray).size=1:=rfl;have o:=x9 (s:=t++{ data:=#[10,114,117,108,101,32] } ++ k.name++{ data:=#[32] } ++ k.kind++{ data:=#[32] } ++ wh k.a++{ data:=#[32] } ++ wh k.b) S;simp only[yU]at o
    repeat' first|refine gM ?_|intro b;conv=>whnf
    exact⟨(q+1,cP (t++{ data:=#[10,114,117,108,101,32] } ++ k.name++{ data:=#[32] } ++ k.kind++{ data:=#[32] } ++ wh k.a++{ data:=#[32] } ++ wh k.b) k.n),(aj aP),dV,⟨by simp only;omega,by simp only;omega⟩,by simp only;omega⟩
   .obtain rfl:q=x.rules.length:=by omega
    rw[yM]at z;have C:t.size<=1000000:=by unfold e' at r;omega
    have hl:(t++{ data:=#[10] }).size=t.size+1:=by rw[yU];rfl
    repeat' first|refine gM ?_|intro b;conv=>whnf
    exact Rt.same ⟨_,rfl,by rw[hl];unfold e';omega⟩
end
section
open Go
structure ES(x:ak):Prop where
 ver:-9223372036854775807<=x.vz/\x.vz<=9223372036854775807
 fsane:∀k∈x.kz,∀f∈k.fields,tm f/\(-9223372036854775807<=f.kind/\f.kind<=9223372036854775807)
 ksane:∀k∈x.kz,(-9223372036854775807<=k.lo/\k.lo<=9223372036854775807)/\(-9223372036854775807<=k.hi/\k.hi<=9223372036854775807)
 msane:∀l∈x.lz,∀m∈l.mz,(-9223372036854775807<=m.1/\m.1<=9223372036854775807)/\(-9223372036854775807<=m.2/\m.2<=9223372036854775807)
 rsane:∀r∈x.rules,-9223372036854775807<=r.n/\r.n<=9223372036854775807
 sm:ZD x
 src:hQ x=true->e' x<=8192
theorem E5{s:ByteArray}(h:aY s=true):s.size<=12:=by
 simp only[aY,cz,zJ,zQ]at h;omega
theorem Qy{s:ByteArray}(h:dF s=true\/aY s=true):s.size<=100000:=by
 rcases h with h|h
 .rw[CH h];omega
 .have:=E5 h;omega
theorem C0{f:am}(h:dE f=true)(i:tm f):My f:=by
 simp only[dE,zJ]at h;obtain⟨⟨l,g⟩,a⟩:=h;simp only[lR,zJ,xO]at g;obtain⟨⟨⟨⟨c,b⟩,_⟩,_⟩,o⟩:=g;have j:0<=f.kind/\f.kind<=8:=by
  unfold fJ at a;by_cases hh:0<=f.kind/\f.kind<=8
  .exact hh
  .repeat rw[if_neg (by omega)]at a
   cases a
 have k:f.kind=3->oc f.words f.wz=true:=λe=>by
  unfold fJ at a;rw[if_neg (by omega),if_neg (by omega),if_neg (by omega),if_pos e]at a;exact a
 have d:f.of.size<=100000:=by
  rcases c with c|c
  .refine Qy ?_;unfold fJ at a;simp only[hZ,xO,beq_iff_eq]at c;rcases c with((((e|e)|e)|e)|e)|e<;>rw[e]at a<;>simp at a<;>first|exact .inr a.1.1|exact .inr a.1|exact .inr a|exact a.1
  .exact Qy (.inl c)
 have p:f.up.size<=100000:=by
  rcases b with b|b
  .refine Qy ?_;unfold fJ at a;simp only[ia,xO,beq_iff_eq]at b;rcases b with e|e<;>rw[e]at a<;>simp at a<;>first|exact .inr a.1.2|exact .inr a.2
  .exact Qy (.inl b)
 refine⟨j,i,by have:=E5 l;omega,d,p,?_,?_,?_⟩
 .intro s m;rcases o with o|o
  .have:=k (by simpa [ej]using o);simp only[oc,zJ,yA]at this;have:=E5 (this.2 s m);omega
  .simp only[zJ,List.isEmpty_iff]at o;rw[o.1]at m;cases m
 .rcases o with o|o
  .have:=k (by simpa [ej]using o);simp only[oc,cz,zJ,zQ]at this;omega
  .simp only[zJ,List.isEmpty_iff]at o;rw[o.1];simp
 .intro u;have:=k (by simpa [ej]using u);simp only[oc,zJ,zQ]at this;exact this.1.1.2
theorem zA{x:ak}(h:hQ x=true)(g:ES x):Mt x:=by
 have v:=y5 h;have n:=h;simp only[hQ,zJ,zQ,yA]at n;refine⟨g.ver,λk d=>?_,λl i=>?_,λr e=>?_,by have:=v.nk;omega,by have:=v.nl;omega,by have:=v.nr;omega,by have:=g.src h;omega⟩
 .have c:=v.kz k d;simp only[ji,zJ,zQ,yA]at c;exact⟨by have:=E5 c.1.1.1;omega,(g.ksane k d).1,(g.ksane k d).2,λf j=>C0 (c.2 f j) (g.fsane k d f j).1,by have:=v.nf k d;omega⟩
 .have b:=v.lz l i;simp only[jS,cz,zJ,zQ,yA]at b;exact⟨by have:=E5 b.1.1.1.1;omega,λs m=>by have:=E5 (b.1.1.2 s m);omega,by omega,g.msane l i,by omega⟩
 .have a:=v.rules r e;simp only[wn,zJ,xO]at a;exact⟨by have:=E5 a.1.1.1.1.1;omega,by have:=E5 a.1.1.1.1.2;omega,Qy a.1.1.1.2,Qy a.1.1.2,g.rsane r e⟩
end
section
open Go
structure CF(f:am):Prop where
 nm:f.name.size<=12
 of:f.of.size<=12
 up:f.up.size<=12
 nw:f.words.length<=3
 wd:∀s∈f.words,s.size<=12
 ng:f.wz.length<=3
 wt:∀n∈f.wz,-1000<=n/\n<=1000
 kd:0<=f.kind/\f.kind<=8
 lo:-1000<=f.lo/\f.lo<=1000
 hi:-1000<=f.hi/\f.hi<=1000
structure CK(k:au):Prop where
 nm:1<=k.name.size/\k.name.size<=12
 lo:-1000<=k.lo/\k.lo<=1000
 hi:-1000<=k.hi/\k.hi<=1000
 nf:k.fields.length<=10
 fs:∀f∈k.fields,CF f
structure CL(l:bW):Prop where
 nm:l.name.size<=12
 ns:l.tz.length<=4
 st:∀s∈l.tz,s.size<=12
 nv:l.mz.length<=5
 mv:∀m∈l.mz,(-1000<=m.1/\m.1<=1000)/\(-1000<=m.2/\m.2<=1000)
structure CR(r:cF):Prop where
 nm:r.name.size<=12
 kd:r.kind.size<=12
 a:r.a.size<=12
 b:r.b.size<=12
 n:-2000<=r.n/\r.n<=2000
structure QW(x:ak):Prop where
 ver:-1000<=x.vz/\x.vz<=1000
 nk:x.kz.length<=3
 ks:∀k∈x.kz,CK k
 nl:x.lz.length<=1
 ls:∀l∈x.lz,CL l
 nr:x.rules.length<=3
 rs:∀r∈x.rules,CR r
theorem I6{α:Type}{f:α->Nat}{c:Nat}:∀{l:List α},(∀x∈l,f x<=c)->aX f l<=l.length*c
 |[],_=>by simp[aX]
 |x::l,h=>by
  have d:=h x (by simp);have b:=I6 (l:=l) λy a=>h y (by simp[a]);simp only[aX,List.map_cons,List.sum_cons,List.length_cons,Nat.succ_mul]at *;omega
theorem E1{n:Int}(h:-9999999<=n/\n<=9999999):bu n=8:=by unfold bu;rw[if_pos h]
theorem CF.bd{f:am}(h:CF f):fM f<=200:=by
 have o:=E1 (n:=f.lo) (by have:=h.lo;omega);have m:=E1 (n:=f.hi) (by have:=h.hi;omega);have l:=E1 (n:=f.words.length) (by have:=h.nw;omega);have d:(f.words.map λs=>1+s.size).sum<=f.words.length*13:=I6 (f:=λs:ByteArray=>1+s.size) λs a=>by have:=h.wd s a;omega
 have c:(f.wz.map λn=>1+bu n).sum<=f.wz.length*9:=I6 (f:=λn=>1+bu n) λn b=>by have:=E1 (n:=n) (by have:=h.wt n b;omega);omega
 have k:=h.nm;have j:=h.of;have i:=h.up;have g:=h.nw;have e:=h.ng;unfold fM;omega
theorem CK.bd{k:au}(h:CK k):dk k<=2100:=by
 have g:=E1 (n:=k.lo) (by have:=h.lo;omega);have e:=E1 (n:=k.hi) (by have:=h.hi;omega);have s:=I6 (f:=fM) (c:=200) λf a=>(h.fs f a).bd;have d:=h.nm;have b:=h.nf;unfold dk;omega
theorem CL.bd{l:bW}(h:CL l):dJ l<=300:=by
 have k:=E1 (n:=l.tz.length) (by have:=h.ns;omega);have e:=I6 (f:=λs:ByteArray=>1+s.size) (c:=13) λs a=>by have:=h.st s a;show 1+s.size<=13;omega
 have d:=I6 (f:=fw) (c:=23) λm b=>by
  have:=h.mv m b;unfold fw;rw[E1 (by omega),E1 (by omega)];omega
 have j:=h.nm;have i:=h.ns;have g:=h.nv;unfold dJ;omega
theorem CR.bd{r:cF}(h:CR r):fu r<=100:=by
 have e:=E1 (n:=r.n) (by have:=h.n;omega);have d:=h.nm;have c:=h.kd;have b:=h.a;have a:=h.b;unfold fu;omega
theorem QW.src{x:ak}(h:QW x):e' x<=8192:=by
 have c:=I6 (f:=dk) λk a=>(h.ks k a).bd;have b:=I6 (f:=dJ) λk a=>(h.ls k a).bd;have s:=I6 (f:=fu) λk a=>(h.rs k a).bd;have g:=h.nk;have e:=h.nl;have d:=h.nr;unfold e';omega
theorem CF.sm{f:am}(h:CF f):SmF f:=⟨by have:=h.nm;unfold gH;omega,by have:=h.of;unfold gH;omega,by have:=h.up;unfold gH;omega,λs a=>by have:=h.wd s a;unfold gH;omega,by have:=h.nw;omega,by have:=h.ng;omega⟩
theorem QW.good{x:ak}(h:QW x):ES x where
 ver:=by have:=h.ver;omega
 fsane:=λk a f d=>by
  have:=(h.ks k a).fs f d;exact⟨⟨by have:=this.lo;omega,by have:=this.hi;omega,λn g=>by have:=this.wt n g;omega⟩,by have:=this.kd;omega⟩
 ksane:=λk a=>by have:=h.ks k a;have o:=this.lo;have j:=this.hi;omega
 msane:=λl b m i=>by have:=(h.ls l b).mv m i;omega
 rsane:=λr c=>by have:=(h.rs r c).n;omega
 sm:={
  kz:=λk a=>⟨by have:=(h.ks k a).nm;unfold gH;omega,λf d=>((h.ks k a).fs f d).sm,by have:=(h.ks k a).nf;omega⟩
  lz:=λl b=>⟨by have:=(h.ls l b).nm;unfold gH;omega,λs e=>by have:=(h.ls l b).st s e;unfold gH;omega,by have:=(h.ls l b).ns;omega,by have:=(h.ls l b).nv;omega⟩
  rules:=λr c=>by have:=h.rs r c;exact⟨by have:=this.nm;unfold gH;omega,by have:=this.kd;unfold gH;omega,by have:=this.a;unfold gH;omega,by have:=this.b;unfold gH;omega⟩
  nkinds:=by have:=h.nk;omega
  nlives:=by have:=h.nl;omega
  nrules:=by have:=h.nr;omega }
 src:=λ_=>h.src
end
section
open Go
theorem CF.e0{nm of up:ByteArray}{kd lo h:Int}(f:nm.size<=12)(e:of.size<=12)(d:up.size<=12)(c:0<=kd/\kd<=8)(b:-1000<=lo/\lo<=1000)(a:-1000<=h/\h<=1000):CF ⟨nm,of,up,kd,lo,h,[],[]⟩:=
 ⟨f,e,d,by simp,by simp,by simp,by simp,c,b,a⟩
theorem XV{p:Prop}(h:p:=by
 refine⟨by simp,λf hf=>?_⟩;simp only[zU,yF,xE]at hf;rcases hf with rfl|rfl
 .exact .e0 (by decide) (by decide) (by decide) (by omega) (by omega) (by omega)
 .exact .e0 (by decide) (by decide) (by decide) (by omega) (by omega) (by omega)):p:=h
theorem aG.cf{i:List am}(h:aG i):i.length<=2/\∀f∈i,CF f:=by
 cases h with
 |none=>exact⟨by simp,by simp⟩
 |size a b g e=>exact⟨by simp,λf hf=>by rw[zN]at hf;subst hf;exact .e0 (by decide) (by decide) (by decide) (by omega) (by omega) (by omega)⟩
 |tag n ws q w o r=>
  refine⟨by simp,λf hf=>?_⟩;rw[zN]at hf;subst hf;refine⟨show i6.size<=12 by decide,show nE.size<=12 by decide,show nE.size<=12 by decide,?_,λs k=>?_,by show ws.length<=3;omega,λz j=>?_,show(0:Int)<=3/\(3:Int)<=8 by decide,show(-1000:Int)<=0/\(0:Int)<=1000 by decide,show(-1000:Int)<=0/\(0:Int)<=1000 by decide⟩
  .show(List.take n _).length<=3;rw[zR];simp;omega
  .have:=xG k;simp only[zU,yF,xE]at this;rcases this with rfl|rfl|rfl<;>decide
  .have:=o z j;omega
 |born a b c d g e m l=>exact XV
 |state a b g e=>exact⟨by simp,λf hf=>by rw[zN]at hf;subst hf;exact .e0 (by decide) (by decide) (by decide) (by omega) (by omega) (by omega)⟩
 |low a b c d g e m l=>exact XV
structure QX(k:au):Prop where
 ck:CK k
 one:k.fields.length<=9\/0<=gE k.fields oJ
theorem On(n:Nat)(h:n<=2):1<=(br n).size/\(br n).size<=12:=by
 rcases n with _|_|_|n
 .decide
 .decide
 .decide
 .omega
theorem Xq{p:Prop}(h:p:=by
 exact⟨by simp,λf hf=>by rw[zN]at hf;subst hf;exact .e0 (by decide) (by omega) (by decide) (by decide) (by decide) (by decide)⟩):p:=h
theorem gt.cf{i d:List au}{nm:ByteArray}{f1:List am}(h:gt i nm f1 d)(x:nm.size<=12)(e:∀k∈i,QX k):(f1.length<=3/\∀f∈f1,CF f)/\d.length=i.length/\∀k∈d,QX k:=by
 have o:∀{t:Nat}{y:au}{l u:Int},i[t]?=some y->(l=0\/l=1)->u∈[(4:Int),3,8,2]->CF (hG y l u):=λc r m=>by
  have:=(e _ (zG c)).ck.nm;simp only[zU,yF,xE]at m;exact .e0 (by decide) (by omega) (by decide) (by decide) (by omega) (by omega)
 have s:∀{t:Nat}{y:au}{sm:List am},i[t]?=some y->(sm=[]\/∃g,0<=oH y/\y.fields[(oH y).toNat]?=some g/\sm=[hI g.name])->sm.length<=1/\∀f∈sm,CF f:=λc j=>by
  rcases j with rfl|⟨g,_,z,rfl⟩
  .exact⟨by simp,by simp⟩
  .have:=((e _ (zG c)).ck.fs g (zG z)).nm;exact Xq
 cases h with
 |none h=>exact⟨⟨by simp,by simp⟩,rfl,e⟩
 |of t y l u sm c r m j=>
  have w:=o c r m;have q:=s c j;exact⟨⟨by have:=q.1;simp only[List.length_cons];omega,λf hf=>by
   rcases zU.1 hf with rfl|hf
   .exact w
   .exact q.2 f hf⟩,rfl,e⟩
 |part t y l u a b sm c r m j A C B=>
  have w:=o c r m;have q:=s c j;have n:=e _ (zG c);refine⟨⟨by have:=q.1;simp only[List.length_cons,zI,List.length_nil];omega,λf hf=>?_⟩,yR ..,λk v=>?_⟩
  .rcases zU.1 hf with rfl|hf
   .exact w
   .rcases zO.1 hf with hf|hf
    .exact q.2 f hf
    .rw[zN]at hf;subst hf;exact .e0 (by decide) (by decide) (by decide) (by decide) (by omega) (by omega)
  .rcases yZ v with h|rfl
   .exact e k h
   .refine⟨⟨n.ck.nm,n.ck.lo,n.ck.hi,?_,λf hf=>?_⟩,.inr ?_⟩
    .show(y.fields++[bf nm]).length<=10;rw[zI];have:=n.one;simp only[List.length_cons,List.length_nil];omega
    .rcases zO.1 hf with hf|hf
     .exact n.ck.fs f hf
     .rw[zN]at hf;subst hf;exact .e0 (by decide) x (by decide) (by decide) (by decide) (by decide)
    .have:=qM (λf:am=>seq f.name oJ) (y.fields++[bf nm]);rw[List.any_append,show List.any [bf nm] (λf=>seq f.name oJ)=true by simp[bf,Pl],Bool.or_true]at this;exact wY this
theorem iO.cls{s a:List au}{k:au}(h:iO s k a)(v:s.length<=2)(e:∀k∈s,QX k):QX k/\a.length=s.length/\∀k∈a,QX k:=by
 obtain⟨l,r,i,f1,f2,c,b,C,E,B,rfl,A,z,x,w,_⟩:=h.ex;have d:=On s.length v;obtain⟨⟨D,t⟩,o,m⟩:=A.cf d.2 e;have j:=x.cf;have g:=w.cf;have q:f2.length<=1/\∀f∈f2,CF f:=by
  rcases z with rfl|⟨y,u,_,rfl⟩
  .exact⟨by simp,by simp⟩
  .have:=(e _ (zG u)).ck.nm;exact Xq
 have n:(cT i::(f1++(f2++(c++b)))).length<=9:=by
  simp only[List.length_cons,zI];omega
 simp only[zU,yF,xE]at C B;refine⟨⟨⟨d,by show -1000<=l/\l<=1000;omega,by show -1000<=l+r/\l+r<=1000;omega,by show List.length (cT i::(f1++(f2++(c++b))))<=10;omega,λf hf=>?_⟩,.inl n⟩,o,m⟩;rcases zU.1 hf with rfl|hf
 .exact .e0 (by decide) (by decide) (by decide) (by decide) (by omega) (by decide)
 .rcases zO.1 hf with hf|hf
  .exact t f hf
  .rcases zO.1 hf with hf|hf
   .exact q.2 f hf
   .rcases zO.1 hf with hf|hf
    .exact j.2 f hf
    .exact g.2 f hf
end
end Go.Proofs.YtilnpcolgcmofaaGreatDoor
