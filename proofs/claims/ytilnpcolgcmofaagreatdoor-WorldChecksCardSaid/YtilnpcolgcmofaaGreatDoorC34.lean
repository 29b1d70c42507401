/- A part of the proof. -/
import Derived.Test.YtilnpcolgcmofaaGreatDoorC33
import Derived.Laws.StructEq
import Derived.ChangeKeysEq
set_option maxRecDepth 100000
set_option maxHeartbeats 20000000
set_option linter.all false
namespace Go.Proofs.YtilnpcolgcmofaaGreatDoor
open Tryz
section
open Go Go.RowKit
def uU(nm:ByteArray)(s:List ByteArray)(j:Nat):List (Int⊕ByteArray):=[.inr nm,.inl (s.length:Int)]++(s.take j).map .inr
def JM(nm:ByteArray)(a:List ByteArray):ew (uU nm a a.length)=2+nm.size+bC a.length+be (λs=>1+s.size) a:=by
 unfold uU;rw[aI9,yM];have:ew (a.map Sum.inr)=be (λs=>1+s.size) a:=by simp[ew,be,ig,vA,Function.comp_def]
 rw[this];simp only[ew,ig,List.map_cons,List.map_nil,List.sum_cons,List.sum_nil,ld,List.size_toArray,List.length_cons,List.length_nil];omega
def cp.of{n:Int}(h:-9223372036854775807<=n/\n<=9223372036854775807):cp n:=⟨by omega,by omega⟩
def pc1(a:Nat×ax)(s:ae):(a::s).Perm (s++[a]):=yT (l₁:=[a])
def Ux(a:Nat×ax)(s:ae):(s++[a]).Perm (a::s):=yT (l₂:=[a])
def pc2(a b:Nat×ax)(s:ae):(a::b::s).Perm (s++[a,b]):=yT (l₁:=[a,b])
def bt5(a b:Nat×ax)(s:ae):(s++[a,b]).Perm (a::b::s):=yT (l₂:=[a,b])
variable{p:Prop}
def Z3(h:p:=by
 repeat' first|refine au ?_|intro b;conv=>whnf|((with_reducible refine' Ot.yd ?hydn ?_);(case hydn=>first|exact bZ rfl rfl underlying9 (λm h=>by cases h)|exact bZ rfl rfl underlying3 (λm h=>by cases h)))|((with_reducible refine' Ot.yd ?hydw ?_);(case hydw=>first|exact cG ai (m:=0) rfl rfl rfl rfl rfl rfl (by decide)|exact cG ai (m:=1) rfl rfl rfl rfl rfl rfl (by decide)))|fail
 (refine bu (NM b0 _ s hB t (by omega)) (pc2 _ _ _) (λs'=>_::_::s') (λs'=>bt5 _ _ _) ?_;rintro _ s1 ⟨rfl,hB1⟩)
 repeat' first|refine au ?_|intro b;conv=>whnf|((with_reducible refine' Ot.yd ?hydn ?_);(case hydn=>first|exact bZ rfl rfl underlying9 (λm h=>by cases h)|exact bZ rfl rfl underlying3 (λm h=>by cases h)))|((with_reducible refine' Ot.yd ?hydw ?_);(case hydw=>first|exact cG ai (m:=0) rfl rfl rfl rfl rfl rfl (by decide)|exact cG ai (m:=1) rfl rfl rfl rfl rfl rfl (by decide)))|fail
 exact⟨(i+1,_,s1),(ah av),Sc.sl (yG _ _),⟨by simp only;omega,by simp only;omega,hB1⟩,by simp only;omega⟩):p:=h
def ZL(h:p:=by
 rw[yM]at hn
 repeat' first|refine au ?_|intro b;conv=>whnf|((with_reducible refine' Ot.yd ?hydn ?_);(case hydn=>first|exact bZ rfl rfl underlying9 (λm h=>by cases h)|exact bZ rfl rfl underlying3 (λm h=>by cases h)))|((with_reducible refine' Ot.yd ?hydw ?_);(case hydw=>first|exact cG ai (m:=0) rfl rfl rfl rfl rfl rfl (by decide)|exact cG ai (m:=1) rfl rfl rfl rfl rfl rfl (by decide)))|fail
 exact⟨(j+1,n,s),(ah av),Sc.sl (yG _ _),⟨by simp only;omega,by simp only;omega,hB⟩,by simp only;omega⟩):p:=h
def wj(x:ak)(g:zr x)(R:iS x=true):bH prog 165 [aw x] (λd=>∃s:ByteArray,d=sD s/\s.size<=fe x):=by
 refine bH.of_call ?_;have hb:=g.src R;have hx:=g.sm;have hver:=cp.of g.ver;have hlk:=hx.nkinds;have hll:=hx.nlives;have hlr:=hx.nrules;have Q:=bc3 x.vz;simp only[iS,zJ,yA]at R;unfold fe at hb⊢;refine dB func165 ntmps165 λBB=>?_
 repeat' first|refine au ?_|intro b;conv=>whnf|((with_reducible refine' Ot.yd ?hydn ?_);(case hydn=>first|exact bZ rfl rfl underlying9 (λm h=>by cases h)|exact bZ rfl rfl underlying3 (λm h=>by cases h)))|((with_reducible refine' Ot.yd ?hydw ?_);(case hydw=>first|exact cG ai (m:=0) rfl rfl rfl rfl rfl rfl (by decide)|exact cG ai (m:=1) rfl rfl rfl rfl rfl rfl (by decide)))|fail
 (refine CE.some (Ah _ [.inl x.vz] ?hqo1 ?hqo2 ?hqo3) ?_;(case hqo1=>repeat(first|exact cn.nil|apply cn.s|refine cn.i (by assumption) ?_));(case hqo2=>simp);(case hqo3=>((simp only[ew,ig,List.map_cons,List.map_nil,List.sum_cons,List.sum_nil,ld,List.size_toArray,List.length_cons,List.length_nil]);omega));(rintro _ ⟨t,rfl,ht⟩);(simp only[ew,ig,List.map_cons,List.map_nil,List.sum_cons,List.sum_nil,ld,List.size_toArray,List.length_cons,List.length_nil]at ht))
 obtain⟨b0,rfl⟩:∃O,O=b:=⟨_,rfl⟩
 repeat' first|refine au ?_|intro b;conv=>whnf|((with_reducible refine' Ot.yd ?hydn ?_);(case hydn=>first|exact bZ rfl rfl underlying9 (λm h=>by cases h)|exact bZ rfl rfl underlying3 (λm h=>by cases h)))|((with_reducible refine' Ot.yd ?hydw ?_);(case hydw=>first|exact cG ai (m:=0) rfl rfl rfl rfl rfl rfl (by decide)|exact cG ai (m:=1) rfl rfl rfl rfl rfl rfl (by decide)))|fail
 refine bu (NM b0 0 _ (ni.new b0) t (by omega)) (bR _) (λs'=>s') dF ?_;rintro _ s ⟨rfl,hB⟩
 repeat' first|refine au ?_|intro b;conv=>whnf|((with_reducible refine' Ot.yd ?hydn ?_);(case hydn=>first|exact bZ rfl rfl underlying9 (λm h=>by cases h)|exact bZ rfl rfl underlying3 (λm h=>by cases h)))|((with_reducible refine' Ot.yd ?hydw ?_);(case hydw=>first|exact cG ai (m:=0) rfl rfl rfl rfl rfl rfl (by decide)|exact cG ai (m:=1) rfl rfl rfl rfl rfl rfl (by decide)))|fail
 refine aO mixed ai (γ:=Nat×Nat×ae) (λg=>[(26,iD g.1)]) (λg=>g.2.2) (λg=>g.1<=x.kz.length/\g.2.1<=29+be dw (x.kz.take g.1)/\ni b0 g.2.1 g.2.2) (λg=>x.kz.length-g.1) (0,_,s) (ah av) (Sc.refl _) ⟨zW _,by simp only;omega,hB⟩ ?_;clear hB ht;rintro⟨j,n,s⟩ ⟨hj,hn,hB⟩;simp only at hj hn hB⊢;have q:=jB dw x.kz j;by_cases hlt:j<x.kz.length
 .obtain⟨k,V⟩:∃y,x.kz[j]?=some y:=⟨_,zD hlt⟩
  have hk':x.kz[((j:Nat):Int).toNat]?=some k:=V;have e:=zG V;have E:=FK dw x.kz j k V;have z:=jB dw x.kz (j+1);have hkb:dw k=8+k.name.size+bC k.lo+bC k.hi+be gk k.fields:=rfl;have hklo:=cp.of (g.ksane k e).1;have hkhi:=cp.of (g.ksane k e).2;have hkf:=(hx.kz k e).nfields;have X:∀f∈k.fields,dV f=true:=by have h1:=R.1.1.2 k e;simp only[jK,zJ,yA]at h1;exact h1.2
  repeat' first|refine au ?_|intro b;conv=>whnf|((with_reducible refine' Ot.yd ?hydn ?_);(case hydn=>first|exact bZ rfl rfl underlying9 (λm h=>by cases h)|exact bZ rfl rfl underlying3 (λm h=>by cases h)))|((with_reducible refine' Ot.yd ?hydw ?_);(case hydw=>first|exact cG ai (m:=0) rfl rfl rfl rfl rfl rfl (by decide)|exact cG ai (m:=1) rfl rfl rfl rfl rfl rfl (by decide)))|fail
  (refine CE.some (Ah _ [.inr k.name,.inl k.lo,.inl k.hi] ?hqo1 ?hqo2 ?hqo3) ?_;(case hqo1=>repeat(first|exact cn.nil|apply cn.s|refine cn.i (by assumption) ?_));(case hqo2=>simp);(case hqo3=>((simp only[ew,ig,List.map_cons,List.map_nil,List.sum_cons,List.sum_nil,ld,List.size_toArray,List.length_cons,List.length_nil]);omega));(rintro _ ⟨t,rfl,ht⟩);(simp only[ew,ig,List.map_cons,List.map_nil,List.sum_cons,List.sum_nil,ld,List.size_toArray,List.length_cons,List.length_nil]at ht))
  obtain⟨b5,rfl⟩:∃O,O=b:=⟨_,rfl⟩
  repeat' first|refine au ?_|intro b;conv=>whnf|((with_reducible refine' Ot.yd ?hydn ?_);(case hydn=>first|exact bZ rfl rfl underlying9 (λm h=>by cases h)|exact bZ rfl rfl underlying3 (λm h=>by cases h)))|((with_reducible refine' Ot.yd ?hydw ?_);(case hydw=>first|exact cG ai (m:=0) rfl rfl rfl rfl rfl rfl (by decide)|exact cG ai (m:=1) rfl rfl rfl rfl rfl rfl (by decide)))|fail
  (refine bu (NM b0 _ s hB t (by omega)) (pc1 _ _) (λs'=>_::s') (λs'=>Ux _ _) ?_;rintro _ s1 ⟨rfl,hB1⟩)
  repeat' first|refine au ?_|intro b;conv=>whnf|((with_reducible refine' Ot.yd ?hydn ?_);(case hydn=>first|exact bZ rfl rfl underlying9 (λm h=>by cases h)|exact bZ rfl rfl underlying3 (λm h=>by cases h)))|((with_reducible refine' Ot.yd ?hydw ?_);(case hydw=>first|exact cG ai (m:=0) rfl rfl rfl rfl rfl rfl (by decide)|exact cG ai (m:=1) rfl rfl rfl rfl rfl rfl (by decide)))|fail
  refine aO mixed ai (γ:=Nat×Nat×ae) (λg=>[(45,iD g.1)]) (λg=>(b5,.cells 78 (aD k))::g.2.2) (λg=>g.1<=k.fields.length/\g.2.1<=29+be dw (x.kz.take j)+(8+k.name.size+bC k.lo+bC k.hi+be gk (k.fields.take g.1))/\ni b0 g.2.1 g.2.2) (λg=>k.fields.length-g.1) (0,_,s1) (ah av) (Sc.refl _) ⟨zW _,by simp only;omega,hB1⟩ ?_;clear hB hB1 ht hn;rintro⟨i,n,s⟩ ⟨hi,hn,hB⟩;simp only at hi hn hB⊢;have K:=jB gk k.fields i;by_cases u:i<k.fields.length
  .obtain⟨f,Y⟩:∃y,k.fields[i]?=some y:=⟨_,zD u⟩
   have hf':k.fields[((i:Nat):Int).toNat]?=some f:=Y;have L:=zG Y;have D:=FK gk k.fields i f Y;have J:=jB gk k.fields (i+1);have C:=(g.fsane k e f L).1
   repeat' first|refine au ?_|intro b;conv=>whnf|((with_reducible refine' Ot.yd ?hydn ?_);(case hydn=>first|exact bZ rfl rfl underlying9 (λm h=>by cases h)|exact bZ rfl rfl underlying3 (λm h=>by cases h)))|((with_reducible refine' Ot.yd ?hydw ?_);(case hydw=>first|exact cG ai (m:=0) rfl rfl rfl rfl rfl rfl (by decide)|exact cG ai (m:=1) rfl rfl rfl rfl rfl rfl (by decide)))|fail
   refine CE.some (BM f (.of C.lo) (.of C.hi) (X f L) (λn hn=>.of (C.ws n hn)) (by omega)) ?_;rintro _ ⟨t,rfl,ht⟩;exact Z3
  .obtain rfl:i=k.fields.length:=by omega
   exact ZL
 .obtain rfl:j=x.kz.length:=by omega
  rw[yM]at hn;clear q hlt
  repeat' first|refine au ?_|intro b;conv=>whnf|((with_reducible refine' Ot.yd ?hydn ?_);(case hydn=>first|exact bZ rfl rfl underlying9 (λm h=>by cases h)|exact bZ rfl rfl underlying3 (λm h=>by cases h)))|((with_reducible refine' Ot.yd ?hydw ?_);(case hydw=>first|exact cG ai (m:=0) rfl rfl rfl rfl rfl rfl (by decide)|exact cG ai (m:=1) rfl rfl rfl rfl rfl rfl (by decide)))|fail
  refine aO mixed ai (γ:=Nat×Nat×ae) (λg=>[(57,iD g.1)]) (λg=>g.2.2) (λg=>g.1<=x.lz.length/\g.2.1<=29+be dw x.kz+be dY (x.lz.take g.1)/\ni b0 g.2.1 g.2.2) (λg=>x.lz.length-g.1) (0,n,s) (ah av) (Sc.refl _) ⟨zW _,by simp only;omega,hB⟩ ?_;clear hB hn;rintro⟨j,n,s⟩ ⟨hj,hn,hB⟩;simp only at hj hn hB⊢;have q:=jB dY x.lz j;by_cases hlt:j<x.lz.length
  .obtain⟨l,hl⟩:∃y,x.lz[j]?=some y:=⟨_,zD hlt⟩
   have hl':x.lz[((j:Nat):Int).toNat]?=some l:=hl;have o:=zG hl;have E:=FK dY x.lz j l hl;have z:=jB dY x.lz (j+1);have hlb:dY l=7+l.name.size+bC l.tz.length+be (λs=>1+s.size) l.tz+be gd l.mz:=rfl;have hls:=(hx.lz l o).nstates;have hlv:=(hx.lz l o).nmoves;have u:=JM l.name l.tz
   repeat' first|refine Bu ?_|intro b;conv=>whnf|((with_reducible refine' Ot.yd ?hydn ?_);(case hydn=>first|exact bZ rfl rfl underlying9 (λm h=>by cases h)|exact bZ rfl rfl underlying3 (λm h=>by cases h)))|((with_reducible refine' Ot.yd ?hydw ?_);(case hydw=>first|exact cG ai (m:=0) rfl rfl rfl rfl rfl rfl (by decide)|exact cG ai (m:=1) rfl rfl rfl rfl rfl rfl (by decide)))|fail
   refine Bx.r ?_;refine Uy ai (out:=[.v (.iface 9 (.string l.name)),.v (.iface 3 (.int .i64 ((l.tz.map λx=>[sD x]).length:Nat)))]) rfl rfl rfl rfl rfl rfl rfl rfl rfl rfl (by decide) (λP=>?_)
   repeat' first|refine au ?_|intro b;conv=>whnf|((with_reducible refine' Ot.yd ?hydn ?_);(case hydn=>first|exact bZ rfl rfl underlying9 (λm h=>by cases h)|exact bZ rfl rfl underlying3 (λm h=>by cases h)))|((with_reducible refine' Ot.yd ?hydw ?_);(case hydw=>first|exact cG ai (m:=0) rfl rfl rfl rfl rfl rfl (by decide)|exact cG ai (m:=1) rfl rfl rfl rfl rfl rfl (by decide)))|fail
   obtain⟨b9,rfl⟩:∃O,O=b:=⟨_,rfl⟩
   have F:ab 20 1 ((uU l.name l.tz 0).map GL) (.slice (some ⟨P,0,none⟩) 2 2) [(P,.cells 20 [.v (.iface 9 (.string l.name)),.v (.iface 3 (.int .i64 ((l.tz.map λx=>[sD x]).length:Nat)))])]:=
    ⟨ue _,.inr ⟨P,2,[],by simp[uU],by simp[uU,GL],by simp[uU],by decide,by simp[uU],λd hd=>by cases hd⟩⟩
   refine aO mixed ai (γ:=Nat×Value×ae) (λg=>[(72,iD g.1),(10,.v g.2.1)]) (λg=>g.2.2++((b9,.cells 93 (bX l))::s)) (λg=>g.1<=l.tz.length/\ab 20 1 ((uU l.name l.tz g.1).map GL) g.2.1 g.2.2) (λg=>l.tz.length-g.1) (0,_,[(P,.cells 20 [.v (.iface 9 (.string l.name)),.v (.iface 3 (.int .i64 ((l.tz.map λx=>[sD x]).length:Nat)))])]) (ah av) (Sc.refl _) ⟨zW _,F⟩ ?_;clear F;rintro⟨i,v,Z⟩ ⟨hi,w⟩;simp only at hi w⊢;by_cases hii:i<l.tz.length
   .obtain⟨a,ha⟩:∃y,l.tz[i]?=some y:=⟨_,zD hii⟩
    have ha':l.tz[((i:Nat):Int).toNat]?=some a:=ha
    repeat' first|refine au ?_|intro b;conv=>whnf|((with_reducible refine' Ot.yd ?hydn ?_);(case hydn=>first|exact bZ rfl rfl underlying9 (λm h=>by cases h)|exact bZ rfl rfl underlying3 (λm h=>by cases h)))|((with_reducible refine' Ot.yd ?hydw ?_);(case hydw=>first|exact cG ai (m:=0) rfl rfl rfl rfl rfl rfl (by decide)|exact cG ai (m:=1) rfl rfl rfl rfl rfl rfl (by decide)))|fail
    have hz:(uU l.name l.tz (i+1)).length<=1000100:=by unfold uU;rw[zI,zL,zR];show 2+_<=_;omega
    refine Ap.go rfl rfl rfl rfl w (by exact zH _) rfl (zs:=(uU l.name l.tz (i+1)).map GL) (by unfold uU;rw[xC,ha,yB,yB (f:=Sum.inr),←zV,yB (l₂:=List.map _ _)];rfl) (by rw[zL];omega) (by rw[zL];omega) (λs'=>s'++_) (λs'=>zH _) (λa' c' s' G=>?_)
    repeat' first|refine au ?_|intro b;conv=>whnf|((with_reducible refine' Ot.yd ?hydn ?_);(case hydn=>first|exact bZ rfl rfl underlying9 (λm h=>by cases h)|exact bZ rfl rfl underlying3 (λm h=>by cases h)))|((with_reducible refine' Ot.yd ?hydw ?_);(case hydw=>first|exact cG ai (m:=0) rfl rfl rfl rfl rfl rfl (by decide)|exact cG ai (m:=1) rfl rfl rfl rfl rfl rfl (by decide)))|fail
    exact⟨(i+1,_,s'),(ah av),Sc.refl _,⟨by simp only;omega,G⟩,by simp only;omega⟩
   .obtain rfl:i=l.tz.length:=by omega
    repeat' first|refine au ?_|intro b;conv=>whnf|((with_reducible refine' Ot.yd ?hydn ?_);(case hydn=>first|exact bZ rfl rfl underlying9 (λm h=>by cases h)|exact bZ rfl rfl underlying3 (λm h=>by cases h)))|((with_reducible refine' Ot.yd ?hydw ?_);(case hydw=>first|exact cG ai (m:=0) rfl rfl rfl rfl rfl rfl (by decide)|exact cG ai (m:=1) rfl rfl rfl rfl rfl rfl (by decide)))|fail
    refine CE.gsome (.cons (Vs.refl _ _) (.cons (Vs.row w (zH _)) (.nil _))) (Ah _ _ (λn hn=>?_) ?_ ?_) ?_
    .unfold uU at hn;simp only[List.cons_append,List.nil_append,zU,reduceCtorEq,Sum.inl.injEq,false_or,xM,and_false,exists_false,xE]at hn;subst hn;exact⟨by omega,by omega⟩
    .unfold uU;rw[zI,zL,zR];show 2+_<=_;omega
    .rw[u];(simp only[ew,ig,List.map_cons,List.map_nil,List.sum_cons,List.sum_nil,ld,List.size_toArray,List.length_cons,List.length_nil]);omega
    rintro _ ⟨t,rfl,ht⟩;rw[u]at ht;simp only[ew,ig,List.map_cons,List.map_nil,List.sum_cons,List.sum_nil,ld,List.size_toArray,List.length_cons,List.length_nil]at ht
    repeat' first|refine au ?_|intro b;conv=>whnf|((with_reducible refine' Ot.yd ?hydn ?_);(case hydn=>first|exact bZ rfl rfl underlying9 (λm h=>by cases h)|exact bZ rfl rfl underlying3 (λm h=>by cases h)))|((with_reducible refine' Ot.yd ?hydw ?_);(case hydw=>first|exact cG ai (m:=0) rfl rfl rfl rfl rfl rfl (by decide)|exact cG ai (m:=1) rfl rfl rfl rfl rfl rfl (by decide)))|fail
    (refine bu (NM b0 _ s hB t (by omega)) (pc1 _ _) (λs'=>_::s') (λs'=>Ux _ _) ?_;rintro _ s1 ⟨rfl,hB1⟩)
    repeat' first|refine au ?_|intro b;conv=>whnf|((with_reducible refine' Ot.yd ?hydn ?_);(case hydn=>first|exact bZ rfl rfl underlying9 (λm h=>by cases h)|exact bZ rfl rfl underlying3 (λm h=>by cases h)))|((with_reducible refine' Ot.yd ?hydw ?_);(case hydw=>first|exact cG ai (m:=0) rfl rfl rfl rfl rfl rfl (by decide)|exact cG ai (m:=1) rfl rfl rfl rfl rfl rfl (by decide)))|fail
    refine aO mixed ai (γ:=Nat×Nat×ae) (λg=>[(88,iD g.1)]) (λg=>(b9,.cells 93 (bX l))::g.2.2) (λg=>g.1<=l.mz.length/\g.2.1<=29+be dw x.kz+be dY (x.lz.take j)+(7+l.name.size+bC l.tz.length+be (λs=>1+s.size) l.tz+be gd (l.mz.take g.1))/\ni b0 g.2.1 g.2.2) (λg=>l.mz.length-g.1) (0,_,s1) (ah av) (Sc.refl _) ⟨zW _,by simp only;omega,hB1⟩ ?_;clear hB hB1 ht hn w;rintro⟨i,n,s⟩ ⟨hi,hn,hB⟩;simp only at hi hn hB⊢;have K:=jB gd l.mz i;by_cases hii:i<l.mz.length
    .obtain⟨m,U⟩:∃y,l.mz[i]?=some y:=⟨_,zD hii⟩
     have hm':l.mz[((i:Nat):Int).toNat]?=some m:=U;have I:=zG U;have D:=FK gd l.mz i m U;have J:=jB gd l.mz (i+1);have hmb:gd m=7+bC m.1+bC m.2:=rfl;have hm1:=cp.of (g.msane l o m I).1;have hm2:=cp.of (g.msane l o m I).2
     repeat' first|refine au ?_|intro b;conv=>whnf|((with_reducible refine' Ot.yd ?hydn ?_);(case hydn=>first|exact bZ rfl rfl underlying9 (λm h=>by cases h)|exact bZ rfl rfl underlying3 (λm h=>by cases h)))|((with_reducible refine' Ot.yd ?hydw ?_);(case hydw=>first|exact cG ai (m:=0) rfl rfl rfl rfl rfl rfl (by decide)|exact cG ai (m:=1) rfl rfl rfl rfl rfl rfl (by decide)))|fail
     (refine CE.some (Ah _ [.inl m.1,.inl m.2] ?hqo1 ?hqo2 ?hqo3) ?_;(case hqo1=>repeat(first|exact cn.nil|apply cn.s|refine cn.i (by assumption) ?_));(case hqo2=>simp);(case hqo3=>((simp only[ew,ig,List.map_cons,List.map_nil,List.sum_cons,List.sum_nil,ld,List.size_toArray,List.length_cons,List.length_nil]);omega));(rintro _ ⟨t,rfl,ht⟩);(simp only[ew,ig,List.map_cons,List.map_nil,List.sum_cons,List.sum_nil,ld,List.size_toArray,List.length_cons,List.length_nil]at ht))
     exact Z3
    .obtain rfl:i=l.mz.length:=by omega
     exact ZL
  .obtain rfl:j=x.lz.length:=by omega
   rw[yM]at hn;clear q hlt
   repeat' first|refine au ?_|intro b;conv=>whnf|((with_reducible refine' Ot.yd ?hydn ?_);(case hydn=>first|exact bZ rfl rfl underlying9 (λm h=>by cases h)|exact bZ rfl rfl underlying3 (λm h=>by cases h)))|((with_reducible refine' Ot.yd ?hydw ?_);(case hydw=>first|exact cG ai (m:=0) rfl rfl rfl rfl rfl rfl (by decide)|exact cG ai (m:=1) rfl rfl rfl rfl rfl rfl (by decide)))|fail
   refine aO mixed ai (γ:=Nat×Nat×ae) (λg=>[(106,iD g.1)]) (λg=>g.2.2) (λg=>g.1<=x.rules.length/\g.2.1<=29+be dw x.kz+be dY x.lz+be fK (x.rules.take g.1)/\ni b0 g.2.1 g.2.2) (λg=>x.rules.length-g.1) (0,n,s) (ah av) (Sc.refl _) ⟨zW _,by simp only;omega,hB⟩ ?_;clear hB hn;rintro⟨j,n,s⟩ ⟨hj,hn,hB⟩;simp only at hj hn hB⊢;have q:=jB fK x.rules j;by_cases hlt:j<x.rules.length
   .obtain⟨r,w⟩:∃y,x.rules[j]?=some y:=⟨_,zD hlt⟩
    have G:x.rules[((j:Nat):Int).toNat]?=some r:=w;have S:=zG w;have E:=FK fK x.rules j r w;have z:=jB fK x.rules (j+1);have hrb:fK r=12+r.name.size+r.kind.size+r.a.size+r.b.size+bC r.n:=rfl;have hrn:=cp.of (g.rsane r S)
    repeat' first|refine cQ ?_|intro b;conv=>whnf|((with_reducible refine' Ot.yd ?hydn ?_);(case hydn=>first|exact bZ rfl rfl underlying9 (λm h=>by cases h)|exact bZ rfl rfl underlying3 (λm h=>by cases h)))|((with_reducible refine' Ot.yd ?hydw ?_);(case hydw=>first|exact cG ai (m:=0) rfl rfl rfl rfl rfl rfl (by decide)|exact cG ai (m:=1) rfl rfl rfl rfl rfl rfl (by decide)))|fail
    (refine Dr.r ?_;refine W.mk ?_)
    refine pW (i:=16) (d':=.ro (cX r)) (τ:=s) rfl (λh=>by cases h) (Vs.ptr (zH _)) ?_;refine iG mixed ai rfl [0,1,2,3,4,5,6,7,10,11,14,15,16] 7 (hQ [8,12,18,19]) (.one 8 (.fst 9 (.one 12 (.fst 13 (.fst 17 (.one 18 (.one 19 .done))))))) (γ:=Nat×ae) (λ_=>[]) (λg=>g.2) (λg=>g.1<=n+fK r/\ni b0 g.1 g.2) (by decide +kernel) ?_ ?_
    .repeat' first|refine cQ ?_|intro b;conv=>whnf|((with_reducible refine' Ot.yd ?hydn ?_);(case hydn=>first|exact bZ rfl rfl underlying9 (λm h=>by cases h)|exact bZ rfl rfl underlying3 (λm h=>by cases h)))|(refine And.intro ?_ ?_<;>(conv=>whnf))|(refine CE.some (aE3 r.a) ?_;(rintro _ ⟨a2,rfl,ha2⟩))|(refine CE.some (aE3 r.b) ?_;(rintro _ ⟨b2,rfl,hb2⟩))|(refine CE.some (Ah _ [.inr r.name,.inr r.kind,.inr a2,.inr b2,.inl r.n] ?hqo1 ?hqo2 ?hqo3) ?_;(case hqo1=>repeat(first|exact cn.nil|apply cn.s|refine cn.i (by assumption) ?_));(case hqo2=>simp);(case hqo3=>((simp only[ew,ig,List.map_cons,List.map_nil,List.sum_cons,List.sum_nil,ld,List.size_toArray,List.length_cons,List.length_nil]);omega));(rintro _ ⟨t,rfl,ht⟩);(simp only[ew,ig,List.map_cons,List.map_nil,List.sum_cons,List.sum_nil,ld,List.size_toArray,List.length_cons,List.length_nil]at ht))|fail
     refine bu (NM b0 _ s hB t (by omega)) (bR _) (λs'=>s') dF ?_;rintro _ s1 ⟨rfl,hB1⟩
     repeat' first|refine cQ ?_|intro b;conv=>whnf|((with_reducible refine' Ot.yd ?hydn ?_);(case hydn=>first|exact bZ rfl rfl underlying9 (λm h=>by cases h)|exact bZ rfl rfl underlying3 (λm h=>by cases h)))|((with_reducible refine' Ot.yd ?hydw ?_);(case hydw=>first|exact cG ai (m:=0) rfl rfl rfl rfl rfl rfl (by decide)|exact cG ai (m:=1) rfl rfl rfl rfl rfl rfl (by decide)))|fail
     exact⟨(_,s1),(ah aJ),Sc.refl _,by simp only;omega,hB1⟩
    .rintro⟨n2,Z⟩ ⟨T,M⟩;simp only at T M⊢
     repeat' first|refine cQ ?_|intro b;conv=>whnf|((with_reducible refine' Ot.yd ?hydn ?_);(case hydn=>first|exact bZ rfl rfl underlying9 (λm h=>by cases h)|exact bZ rfl rfl underlying3 (λm h=>by cases h)))|((with_reducible refine' Ot.yd ?hydw ?_);(case hydw=>first|exact cG ai (m:=0) rfl rfl rfl rfl rfl rfl (by decide)|exact cG ai (m:=1) rfl rfl rfl rfl rfl rfl (by decide)))|fail
     exact⟨(j+1,n2,Z),(ah av),Sc.refl _,⟨by simp only;omega,by simp only;omega,M⟩,by simp only;omega⟩
   .obtain rfl:j=x.rules.length:=by omega
    rw[yM]at hn
    repeat' first|refine cQ ?_|intro b;conv=>whnf|((with_reducible refine' Ot.yd ?hydn ?_);(case hydn=>first|exact bZ rfl rfl underlying9 (λm h=>by cases h)|exact bZ rfl rfl underlying3 (λm h=>by cases h)))|((with_reducible refine' Ot.yd ?hydw ?_);(case hydw=>first|exact cG ai (m:=0) rfl rfl rfl rfl rfl rfl (by decide)|exact cG ai (m:=1) rfl rfl rfl rfl rfl rfl (by decide)))|fail
    refine bu (lc b0 n s hB) (bR _) (λs'=>s') dF ?_;rintro _ _ ⟨t,rfl,ht,rfl⟩
    repeat' first|refine cQ ?_|intro b;conv=>whnf|((with_reducible refine' Ot.yd ?hydn ?_);(case hydn=>first|exact bZ rfl rfl underlying9 (λm h=>by cases h)|exact bZ rfl rfl underlying3 (λm h=>by cases h)))|((with_reducible refine' Ot.yd ?hydw ?_);(case hydw=>first|exact cG ai (m:=0) rfl rfl rfl rfl rfl rfl (by decide)|exact cG ai (m:=1) rfl rfl rfl rfl rfl rfl (by decide)))|fail
    exact Rt.same ⟨t,rfl,by omega⟩
end
section
open Go
def aB2{α:Type}(l:List α)(p:α->Bool):(l.any λc=>!p c)=!(l.all p):=MS
variable{f:FuncId}{cs:List D}
def PV(l:List ByteArray)(p:ByteArray->Bool)(hl:l.length<=1000000)(hp:∀y∈l,APure prog f [sD y,.ro cs] (bD (p y))):APure prog 269 [gr l,.clo f [.ro cs]] (iD (idx p l)):=ZR
def JW(l:List (Int×Int))(p:Int×Int->Bool)(hl:l.length<=1000000)(hp:∀y∈l,APure prog f [.agg (cE y),.ro cs] (bD (p y))):APure prog 225 [.sl 2 (l.map cE),.clo f [.ro cs]] (iD (idx p l)):=ZQ
variable{A B:Prop}
def Ty(k:B)(h:ar B->A:=by intro q7;(first|refine bh ?_|refine aE ?_|(refine' aj ?hc ?_;(case hc=>exact PV l p hl hp)));exact q7.1):A:=h ⟨k⟩
def KQ(l:List ByteArray)(p:ByteArray->Bool)(hl:l.length<=1000000)(hp:∀y∈l,APure prog f [sD y,.ro cs] (bD (p y))):APure prog 255 [gr l,.clo f [.ro cs]] (bD (l.any p)):=by
 refine ap func255 ntmps255 λa=>?_
 repeat refine Ty ?_
 refine Rt.pure (zM bD ?_);exact uK p l
def Tx(k:B)(h:ar B->A:=by intro q7;(first|refine bh ?_|refine aE ?_|(refine' aj ?hc ?_;(case hc=>exact JW l p hl hp)));exact q7.1):A:=h ⟨k⟩
def FH(l:List (Int×Int))(p:Int×Int->Bool)(hl:l.length<=1000000)(hp:∀y∈l,APure prog f [.agg (cE y),.ro cs] (bD (p y))):APure prog 169 [.sl 2 (l.map cE),.clo f [.ro cs]] (bD (l.any p)):=by
 refine ap func169 ntmps169 λa=>?_
 repeat refine Tx ?_
 refine Rt.pure (zM bD ?_);exact uK p l
def Tw(k:B)(h:ar B->A:=by intro q7;(first|refine bh ?_|refine aE ?_|(refine' aj ?hc ?_;(case hc=>exact D6 l p hl hp)));exact q7.1):A:=h ⟨k⟩
def KU(l:List an)(p:an->Bool)(hl:l.length<=1000000)(hp:∀y∈l,APure prog f [bT y,.ro cs] (bD (p y))):APure prog 250 [mV l,.clo f [.ro cs]] (bD (l.any p)):=by
 refine ap func250 ntmps250 λa=>?_
 repeat refine Tw ?_
 refine Rt.pure (zM bD ?_);exact uK p l
def ku(k:B)(h:ar B->A:=by intro q7;(first|refine bh ?_|refine aE ?_|(refine' aj ?hc ?_;(case hc=>exact hp)));exact q7.1):A:=h ⟨k⟩
def KZ(y:ByteArray)(b:Bool)(hp:APure prog f [sD y] (bD b)):APure prog 256 [sD y,.ro [z6 f]] (bD (!b)):=by
 refine ap func256 ntmps256 λa=>?_
 repeat refine ku ?_
 exact Rt.pure rfl
def K1(y:Int×Int)(b:Bool)(hp:APure prog f [.agg (cE y),.ro cs] (bD b)):APure prog 257 [.agg (cE y),.ro [.clo f [.ro cs]]] (bD (!b)):=by
 refine ap func257 ntmps257 λa=>?_
 repeat refine ku ?_
 exact Rt.pure rfl
def K4(y:an)(b:Bool)(hp:APure prog f [bT y] (bD b)):APure prog 251 [bT y,.ro [z6 f]] (bD (!b)):=by
 refine ap func251 ntmps251 λa=>?_
 repeat refine ku ?_
 exact Rt.pure rfl
def K3(y:aq)(b:Bool)(hp:APure prog f [fP y] (bD b)):APure prog 209 [fP y,.ro [z6 f]] (bD (!b)):=by
 refine ap func209 ntmps209 λa=>?_
 repeat refine ku ?_
 exact Rt.pure rfl
def K2(y:bG)(b:Bool)(hp:APure prog f [cZ y] (bD b)):APure prog 214 [cZ y,.ro [z6 f]] (bD (!b)):=by
 refine ap func214 ntmps214 λa=>?_
 repeat refine ku ?_
 exact Rt.pure rfl
def K0(y:cH)(b:Bool)(hp:APure prog f [eR y] (bD b)):APure prog 218 [eR y,.ro [z6 f]] (bD (!b)):=by
 refine ap func218 ntmps218 λa=>?_
 repeat refine ku ?_
 exact Rt.pure rfl
def k7{p:Prop}(h:p:=by
 rw[aB2]at HA
 repeat refine Ti ?_
 refine Rt.pure (zM bD ?_);simp):p:=h
def FO(l:List ByteArray)(p:ByteArray->Bool)(hl:l.length<=1000000)(a:∀y∈l,APure prog f [sD y] (bD (p y))):APure prog 215 [gr l,z6 f] (bD (l.all p)):=by
 refine ap func215 ntmps215 λb=>?_;have h:=λy hy=>KZ (f:=f) y (p y) (a y hy);have HA:=KQ l (λy=>!p y) hl h;exact k7
def QX(l:List (Int×Int))(p:Int×Int->Bool)(hl:l.length<=1000000)(a:∀y∈l,APure prog f [.agg (cE y),.ro cs] (bD (p y))):APure prog 216 [.sl 2 (l.map cE),.clo f [.ro cs]] (bD (l.all p)):=by
 refine ap func216 ntmps216 λb=>?_;have h:=λy hy=>K1 (f:=f) y (p y) (a y hy);have HA:=FH l (λy=>!p y) hl h;exact k7
def Q0(l:List an)(p:an->Bool)(hl:l.length<=1000000)(a:∀y∈l,APure prog f [bT y] (bD (p y))):APure prog 212 [mV l,z6 f] (bD (l.all p)):=by
 refine ap func212 ntmps212 λb=>?_;have h:=λy hy=>K4 (f:=f) y (p y) (a y hy);have HA:=KU l (λy=>!p y) hl h;exact k7
def QZ(l:List aq)(p:aq->Bool)(hl:l.length<=1000000)(a:∀y∈l,APure prog f [fP y] (bD (p y))):APure prog 159 [kq l,z6 f] (bD (l.all p)):=by
 refine ap func159 ntmps159 λb=>?_;have h:=λy hy=>K3 (f:=f) y (p y) (a y hy);have HA:=KS l (λy=>!p y) hl h;exact k7
def QY(l:List bG)(p:bG->Bool)(hl:l.length<=1000000)(a:∀y∈l,APure prog f [cZ y] (bD (p y))):APure prog 161 [iM l,z6 f] (bD (l.all p)):=by
 refine ap func161 ntmps161 λb=>?_;have h:=λy hy=>K2 (f:=f) y (p y) (a y hy);have HA:=be2 l (λy=>!p y) hl h;exact k7
def QW(l:List cH)(p:cH->Bool)(hl:l.length<=1000000)(a:∀y∈l,APure prog f [eR y] (bD (p y))):APure prog 163 [jI l,z6 f] (bD (l.all p)):=by
 refine ap func163 ntmps163 λb=>?_;have h:=λy hy=>K0 (f:=f) y (p y) (a y hy);have HA:=uM l (λy=>!p y) hl h;exact k7
end
section
open Go
variable{p:Prop}
def Zp(h:p:=by
 have hab:a=b:=xY λi=>by
  by_cases hi:i<k
  .exact hno i hi
  .rw[yY.2 (by omega),yY.2 (by omega)]
 repeat refine aV ?_
 refine Rt.pure (zM bD ?_);exact(yJ hab).symm):p:=h
def NB(h:p:=by
 repeat refine aV ?_
 refine⟨k+1,rfl,rfl,⟨by omega,λi hi=>?_⟩,by omega⟩;by_cases e:i=k
 .subst e;rw[hx',hy',he]
 .exact hno i (by omega)):p:=h
def Nq(h:p:=by
 have hne:a≠b:=λh=>hl (by rw[h])
 repeat refine aV ?_
 refine Rt.pure (zM bD ?_);exact(yE hne).symm):p:=h
def O0(a b:List Int)(g:a.length<=1000000)(hb:b.length<=1000000):APure prog 268 [bv a,bv b] (bD (decide (a=b))):=by
 refine ap func268 ntmps268 λj=>?_;by_cases hl:a.length=b.length
 .repeat refine aV ?_
  refine gD mixed ai (γ:=Nat) (λk=>[(13,iD k)]) (λ_=>[]) (λk=>k<=a.length/\∀i,i<k->a[i]?=b[i]?) (λk=>a.length-k) 0 rfl rfl ⟨zW _,λi h=>by omega⟩ ?_;rintro k ⟨f,hno⟩;by_cases hlt:k<a.length
  .obtain⟨x,hx⟩:∃x,a[((k:Nat):Int).toNat]?=some x:=⟨_,zD hlt⟩
   obtain⟨y,hy⟩:∃y,b[((k:Nat):Int).toNat]?=some y:=⟨_,zD (by show k<_;omega)⟩
   have hx':a[k]?=some x:=hx;have hy':b[k]?=some y:=hy;by_cases he:x=y
   .skip
    exact NB
   .have hne:a≠b:=λh=>he (by rw[h,hy']at hx';cases hx';rfl)
    skip
    repeat refine aV ?_
    refine Rt.pure (zM bD ?_);exact(yE hne).symm
  .exact Zp
 .exact Nq
def OZ(a b:List ByteArray)(g:a.length<=1000000)(hb:b.length<=1000000):APure prog 267 [gr a,gr b] (bD (decide (a=b))):=by
 refine ap func267 ntmps267 λj=>?_;by_cases hl:a.length=b.length
 .repeat refine aV ?_
  refine gD mixed ai (γ:=Nat) (λk=>[(13,iD k)]) (λ_=>[]) (λk=>k<=a.length/\∀i,i<k->a[i]?=b[i]?) (λk=>a.length-k) 0 rfl rfl ⟨zW _,λi h=>by omega⟩ ?_;rintro k ⟨f,hno⟩;by_cases hlt:k<a.length
  .obtain⟨x,hx⟩:∃x,a[((k:Nat):Int).toNat]?=some x:=⟨_,zD hlt⟩
   obtain⟨y,hy⟩:∃y,b[((k:Nat):Int).toNat]?=some y:=⟨_,zD (by show k<_;omega)⟩
   have hx':a[k]?=some x:=hx;have hy':b[k]?=some y:=hy;by_cases he:x=y
   ·(have hs:seq x y=true:=(FD x y).2 he)
    exact NB
   .have hne:a≠b:=λh=>he (by rw[h,hy']at hx';cases hx';rfl)
    (have hs:seq x y=false:=by cases h:seq x y with|false=>rfl|true=>exact absurd ((FD x y).1 h) he)
    repeat refine aV ?_
    refine Rt.pure (zM bD ?_);exact(yE hne).symm
  .exact Zp
 .exact Nq
def kt{A B:Prop}(k:B)(h:ar B->A:=by intro q7;(first|refine bh ?_|refine aE ?_|(refine' aj ?hc ?_;(case hc=>first|exact NZ _ _ _|exact FO _ bf hw (λy _=>Q1 y))));exact q7.1):A:=h ⟨k⟩
def bf7(ws:List ByteArray)(gs:List Int)(hw:ws.length<=1000000)(s:gs.length<=1000000):APure prog 254 [gr ws,bv gs] (bD (na ws gs)):=by
 refine ap func254 ntmps254 λt=>?_
 repeat refine kt ?_
 refine gD mixed ai (γ:=Nat×Int) (λg=>[(10,iD g.1),(5,iD g.2)]) (λ_=>[]) (λg=>g.1<=gs.length/\g.2=(gs.take g.1).sum/\(∀(m:Nat)y,m<g.1->gs[m]?=some y->cF y 0 1048576=true)/\0<=g.2/\g.2<=1048576*g.1) (λg=>gs.length-g.1) (0,0) rfl rfl ⟨by omega,by simp,λm y r=>by omega,by simp,by simp⟩ ?_;rintro⟨q,u⟩ ⟨j,f,o,b,a⟩;simp only at j f o b a⊢;by_cases hlt:q<gs.length
 .obtain⟨y,hy⟩:∃y,gs[q]?=some y:=⟨_,zD hlt⟩
  have i:(gs.take (q+1)).sum=(gs.take q).sum+y:=by
   rw[xC,hy];simp
  cases h1:cF y 0 1048576 with
  |true=>
   have k:0<=y/\y<=1048576:=by simpa [cF]using h1
   repeat' first|refine kt ?_|(refine aZ ?_;constructor<;>intro hc)
   exact⟨(q+1,u+y),rfl,rfl,⟨by simp only;omega,by simp only;omega,KP o hy h1,by simp only;omega,by simp only;omega⟩,by simp only;omega⟩
  |false=>
   repeat' first|refine kt ?_|(refine aZ ?_;constructor<;>intro hc)
   all_goals(refine Rt.pure (zM bD ?_);simp only[na,K8 (p:=λn=>cF n 0 1048576) hy h1];simp)
 .obtain rfl:q=gs.length:=by omega
  have l:gs.all (λn=>cF n 0 1048576)=true:=K5 o;rw[yM]at f;have e:na ws gs=(cF ws.length 1 12&&decide (ws.length=gs.length)&&decide (0<gs.sum)&&ws.all bf):=by simp[na,l]
  rw[←f]at e;clear f o b a l j hlt;by_cases e2:ws.length=gs.length
  .by_cases e3:0<u
   .repeat' first|refine kt ?_|(refine aZ ?_;constructor<;>intro hc)
    all_goals(refine Rt.pure (zM bD ?_);rw[e];simp_all)
   .rw[yE e3]at e
    repeat' first|refine kt ?_|(refine aZ ?_;constructor<;>intro hc)
    all_goals(refine Rt.pure (zM bD ?_);rw[e];simp)
  .repeat' first|refine kt ?_|(refine aZ ?_;constructor<;>intro hc)
   all_goals(refine Rt.pure (zM bD ?_);rw[e,yE e2];simp)
def Kv(f:an):an:=⟨f.name,if iU f.kind then f.of else⟨#[]⟩,if iV f.kind then f.up else⟨#[]⟩,f.kind,if jC f.kind then f.lo else 0,if iT f.kind then f.hi else 0,if eO f.kind then f.words else[],if eO f.kind then f.wz else[]⟩
def tt(f g:an):Bool:=seq f.name g.name&&seq f.of g.of&&seq f.up g.up&&decide (f.kind=g.kind)&&decide (f.lo=g.lo)&&decide (f.hi=g.hi)&&decide (f.words=g.words)&&decide (f.wz=g.wz)
def Tv{A B:Prop}(k:B)(h:ar B->A:=by intro q7;(first|refine bh ?_|refine aE ?_|(refine' aj ?hc ?_;(case hc=>first|exact OZ _ _ (by assumption) (by assumption)|exact O0 _ _ (by assumption) (by assumption))));exact q7.1):A:=h ⟨k⟩
def Iy(f g:an)(h1:f.words.length<=1000000)(h2:f.wz.length<=1000000)(h3:g.words.length<=1000000)(h4:g.wz.length<=1000000):APure prog 252 [bT f,bT g] (bD (tt f g)):=by
 refine ap func252 ntmps252 λa=>?_
 repeat' first|refine Tv ?_|(refine aZ ?_;constructor<;>intro hc)
 all_goals(refine Rt.pure (zM bD ?_);simp[tt,seq, *])
def fR(h:p:=by first|exact Vd.same hs0 _|exact Vd.nil _|(rw[h];exact Vd.same hs0 _)):p:=h
def Iz(f:an):APure prog 253 [bT f] (bT (Kv f)):=by
 have hs0:∀{σ:ae}(z:Nat),z∈aT ([]:ae)->z∈aT σ:=λz h=>by cases h
 refine ap func253 ntmps253 λr=>?_;by_cases h:f.kind=0\/f.kind=1\/f.kind=2\/f.kind=3\/f.kind=4\/f.kind=5\/f.kind=6\/f.kind=7\/f.kind=8
 .rcases h with h|h|h|h|h|h|h|h|h
  all_goals
   repeat' first|refine aV ?_|intro b;conv=>whnf
   refine Rs.c ai (m:=1) rfl rfl rfl rfl rfl rfl ?_
   repeat' first|refine aV ?_|intro b;conv=>whnf
   have e:Kv f=⟨f.name,if iU f.kind then f.of else⟨#[]⟩,if iV f.kind then f.up else⟨#[]⟩,f.kind,if jC f.kind then f.lo else 0,if iT f.kind then f.hi else 0,if eO f.kind then f.words else[],if eO f.kind then f.wz else[]⟩:=rfl;rw[h]at e;rw[e]
   (exact Rt.vs (Vs.vd (τ:=[]) ⟨_,xA (zZ _).symm⟩ (Vd.agg (.cons fR (.cons fR (.cons fR (.cons fR (.cons fR (.cons fR (.cons fR (.cons fR .nil))))))))))) 
 .have q:¬f.kind=0:=by omega
  have o:¬f.kind=1:=by omega
  have l:¬f.kind=2:=by omega
  have k:¬f.kind=3:=by omega
  have j:¬f.kind=4:=by omega
  have i:¬f.kind=5:=by omega
  have g:¬f.kind=6:=by omega
  have a:¬f.kind=7:=by omega
  have n:¬f.kind=8:=by omega
  repeat' first|refine aV ?_|intro b;conv=>whnf
  refine Rs.c ai (m:=1) rfl rfl rfl rfl rfl rfl ?_
  repeat' first|refine aV ?_|intro b;conv=>whnf
  have e:Kv f=⟨f.name,⟨#[]⟩,⟨#[]⟩,f.kind,0,0,[],[]⟩:=by simp[Kv,iU,iV,jC,iT,eO,q,o,l,k,j,i,g,a,n]
  rw[e]
  (exact Rt.vs (Vs.vd (τ:=[]) ⟨_,xA (zZ _).symm⟩ (Vd.agg (.cons fR (.cons fR (.cons fR (.cons fR (.cons fR (.cons fR (.cons fR (.cons fR .nil))))))))))) 
end
section
open Go
def BK(a:ByteArray):seq a ⟨#[]⟩=dz a:=by
 unfold seq dz;have e:(⟨#[]⟩:ByteArray).toList=[]:=by rw[ByteArray.toList_eq]
 rw[e]
 cases a.toList<;>rfl
def BJ(a:ByteArray):seq a a=true:=by unfold seq;simp
def qs(f:an):tt f (Kv f)=m9 f:=by
 obtain⟨n,o,u,k,a,i,ws,g⟩:=f;have s:∀(c:Bool)(x:ByteArray),seq x (if c=true then x else⟨#[]⟩)=(c||dz x):=λc x=>by cases c<;>simp[BJ,BK]
 have h:∀(c:Bool)(x:Int),decide (x=(if c=true then x else 0))=(c||x==0):=λc x=>by
  cases c
  .simp only[wG,uC,Bool.false_or];rfl
  .simp
 have l:∀(c:Bool),(decide (ws=(if c=true then ws else[]))&&decide (g=(if c=true then g else[])))=(c||(ws.isEmpty&&g.isEmpty)):=λc=>by
  cases c
  .cases ws<;>cases g<;>simp
  .simp
 simp only[tt,Kv,m9,s,h,BJ,Bool.true_and,decide_true,Bool.and_true];rw[Bool.and_assoc _ (decide (ws=_)),l]
variable{A B:Prop}
def te(k:B)(h:ar B->A:=by intro q7;(first|refine bh ?_|refine aE ?_|(refine' aj ?hc ?_;(case hc=>first|exact HN|exact HO|exact HS|exact Q1 _|exact NZ _ _ _|exact aI0 _ _ _ _|exact bf7 _ _ hw hg)));exact q7.1):A:=h ⟨k⟩
def qr(f:an)(hw:f.words.length<=1000000)(hg:f.wz.length<=1000000):APure prog 213 [bT f] (bD (dV f)):=by
 have HN:=Q1 f.name;have HO:=Iz f;have HS:=Iy f (Kv f) hw hg (by unfold Kv;simp only;split<;>simp_all) (by unfold Kv;simp only;split<;>simp_all);rw[qs]at HS;have e:dV f=(bf f.name&&(m9 f&&fy f)):=by unfold dV;rw[Bool.and_assoc]
 rw[e];refine ap func213 ntmps213 λa=>?_
 cases h1:bf f.name with
 |false=>
  rw[h1]at HN
  repeat refine te ?_
  exact Rt.pure rfl
 |true=>
  rw[h1]at HN
  cases h2:m9 f with
  |false=>
   rw[h2]at HS
   repeat refine te ?_
   exact Rt.pure rfl
  |true=>
   rw[h2]at HS;by_cases h:f.kind=0\/f.kind=1\/f.kind=2\/f.kind=3\/f.kind=4\/f.kind=5\/f.kind=6\/f.kind=7\/f.kind=8
   .rcases h with h|h|h|h|h|h|h|h|h
    all_goals
     unfold fy;simp only[h]
     repeat' first|refine te ?_|(refine aZ ?_;constructor<;>intro hc)
     all_goals(refine Rt.pure (zM bD ?_);(try simp only[←BK,seq]);(try simp only[*]);(try simp))
   .have e:fy f=false:=by unfold fy;rw[if_neg (by omega),if_neg (by omega),if_neg (by omega),if_neg (by omega),if_neg (by omega),if_neg (by omega),if_neg (by omega),if_neg (by omega),if_neg (by omega)]
    rw[e]
    repeat refine te ?_
    exact Rt.pure rfl
def FCt(f:an):Prop:=f.words.length<=1000000/\f.wz.length<=1000000
def L6(k:B)(h:ar B->A:=by intro q7;(first|refine bh ?_|refine aE ?_|(refine' aj ?hc ?_;(case hc=>first|exact Q1 _|exact NZ _ _ _|exact aI0 _ _ _ _|exact HA)));exact q7.1):A:=h ⟨k⟩
def wn(k:aq)(a:k.fields.length<=1000000)(hc:∀f∈k.fields,FCt f):APure prog 160 [fP k] (bD (jK k)):=by
 have HA:=Q0 k.fields dV a (λf h=>qr f (hc f h).1 (hc f h).2);refine ap func160 ntmps160 λb=>?_
 repeat' first|refine L6 ?_|(refine aZ ?_;constructor<;>intro hc)
 all_goals(refine Rt.pure (zM bD ?_);simp[jK, *]<;>omega)
def qq(n:Nat)(m:Int×Int)(a:n<=1000000):APure prog 217 [.agg (cE m),.ro [iD n]] (bD (ch n m)):=by
 have HA:=True.intro;refine ap func217 ntmps217 λb=>?_
 repeat' first|refine L6 ?_|(refine aZ ?_;constructor<;>intro hc)
 all_goals(refine Rt.pure (zM bD ?_);simp[ch, *])
def Tu(k:B)(h:ar B->A:=by intro q7;(first|refine bh ?_|refine aE ?_|(refine' aj ?hc ?_;(case hc=>first|exact Q1 _|exact NZ _ _ _|exact aI0 _ _ _ _|exact HA|exact HB)));exact q7.1):A:=h ⟨k⟩
def wm(l:bG)(hs:l.tz.length<=1000000)(a:l.mz.length<=1000000):APure prog 162 [cZ l] (bD (jL l)):=by
 have HA:=FO l.tz bf hs (λy _=>Q1 y);have HB:=QX (f:=217) (cs:=[iD (l.tz.map λx=>[sD x]).length]) l.mz (ch l.tz.length) a (λy _=>by rw[zL];exact qq _ y hs);refine ap func162 ntmps162 λe=>?_
 repeat' first|refine Tu ?_|intro b;conv=>whnf|(refine CE.pk (iK.peek (.cons (Pk.same _) (.cons (Pk.clo (.cons (Pk.ptr (j:=0) rfl (kf.refl _)) .nil)) .nil)) HB rfl) ?_)|(refine aZ ?_;constructor<;>intro hc)
 all_goals(refine Rt.pure (zM bD ?_);simp[jL, *]<;>omega)
def Tt(k:B)(h:ar B->A:=by intro q7;(first|refine bh ?_|refine aE ?_|(refine' aj ?hc ?_;(case hc=>first|exact Q1 _|exact NZ _ _ _)));exact q7.1):A:=h ⟨k⟩
def wk(r:cH)(h:r.a.size+r.b.size<=2000000):APure prog 164 [eR r] (bD (yw r)):=by
 have b:((r.a++r.b).toList==(⟨#[]⟩:ByteArray).toList)=((r.a.toList==(⟨#[]⟩:ByteArray).toList)&&(r.b.toList==(⟨#[]⟩:ByteArray).toList)):=by
  have e:(r.a++r.b).toList=r.a.toList++r.b.toList:=by simp[ByteArray.toList_eq]
  have e0:(⟨#[]⟩:ByteArray).toList=[]:=by rw[ByteArray.toList_eq]
  rw[e,e0]
  cases r.a.toList<;>cases r.b.toList<;>rfl
 refine ap func164 ntmps164 λg=>?_
 repeat' first|refine Tt ?_|(refine aZ ?_;constructor<;>intro hc)
 all_goals(
  refine Rt.pure (zM bD ?_);simp only[yw,←BK,seq];rw[←b];generalize((r.a++r.b).toList==(⟨#[]⟩:ByteArray).toList)=c at *;generalize(r.a.toList==(⟨#[]⟩:ByteArray).toList)=f at *;generalize(r.b.toList==(⟨#[]⟩:ByteArray).toList)=a at *;simp_all)
end
section
open Go
def Ts{A B:Prop}(k:B)(h:ar B->A:=by intro q7;(first|refine bh ?_|refine aE ?_|(refine' aj ?hc ?_;(case hc=>first|exact HW|exact HK|exact HL|exact HR)));exact q7.1):A:=h ⟨k⟩
def Tr{A B:Prop}(k:B)(h:ar B->A:=by intro q7;(first|refine bh ?_|refine aE ?_|(refine' aj ?hc ?_;(case hc=>first|exact NZ _ _ _|exact HK|exact HL|exact HR)));exact q7.1):A:=h ⟨k⟩
def aP5(x:ak)(g:zr x):APure prog 108 [aw x] (iD (fD x)):=by
 have hx:=g.sm;have n:=hx.nkinds;have j:=hx.nlives;have i:=hx.nrules;have HK:=QZ x.kz jK n (λk h=>wn k (hx.kz k h).nfields (λf o=>⟨((hx.kz k h).fields f o).nwords,((hx.kz k h).fields f o).nweights⟩));have HL:=QY x.lz jL j (λl h=>wm l (hx.lz l h).nstates (hx.lz l h).nmoves);have HR:=QW x.rules yw i (λr h=>wk r (by have h1:=(hx.rules r h).a;have h2:=(hx.rules r h).b;unfold eY at h1 h2;omega))
 cases v:iS x with
 |true=>
  have w:=g.src v;have e:fD x=0:=by unfold fD;rw[v];rfl
  have q:=v;simp only[iS,zJ,zQ]at q;obtain⟨⟨⟨⟨⟨⟨u,D⟩,C⟩,z⟩,t⟩,p⟩,q7⟩:=q;have HW:=NZ x.vz 0 1048576;rw[u]at HW;rw[t]at HK;rw[p]at HL;rw[q7]at HR;refine ap func108 ntmps108 λy=>?_
  repeat' first|refine Ts ?_|(refine CE.some (wj x g v) ?_;(rintro _ ⟨s,rfl,hs⟩))
  rw[e];exact Rt.pure rfl
 |false=>
  have e:fD x=1:=by unfold fD;rw[v];rfl
  refine ap func108 ntmps108 λy=>?_
  repeat' first|refine Tr ?_|(refine aZ ?_;constructor<;>intro hc)
  all_goals first
   |(rw[e];exact Rt.pure rfl)
   |(exfalso;simp[iS, *]at v<;>omega)
end
section
open Go Go.Maps Go.MapKept
def IY:∃f0 f1 f2 f3:Field,prog.underlying 107=some (.struct #[f0,f1,f2,f3])/\f0.name ≠ "_" /\ f1.name ≠ "_" /\ f2.name ≠ "_" /\ f3.name ≠ "_" /\ f0.type=3/\f1.type=3/\f2.type=3/\f3.type=57/\f0.offset=0/\f1.offset=1/\f2.offset=2/\f3.offset=3:=
 ⟨_,_,_,_,underlying107,by decide,by decide,by decide,by decide,rfl,rfl,rfl,rfl,rfl,rfl,rfl,rfl⟩
def rI:prog.plainKey 3=true:=by kernel_rfl
def Qe:prog.plainKey 57=true:=by kernel_rfl
def IX:prog.stoodInHeld 107=false:=by kernel_rfl
def CG:prog.eqGuardType prog.depth 107=false:=by kernel_rfl
def RK(p:eZ):Value:=.agg #[.int .i64 p.1,.int .i64 p.2.1,.int .i64 p.2.2.1,.int .i64 p.2.2.2]
def RL(p q:eZ):Bool:=(p.1==q.1)&&((p.2.1==q.2.1)&&((p.2.2.1==q.2.2.1)&&(p.2.2.2==q.2.2.2)))
def wo(w:World)(p q:eZ):(Op.equalIn 10000 107 (RK p) (RK q)).run prog w= .ok (RL p q) w:=by
 obtain⟨f0,f1,f2,f3,h,v,t,s,r,t0,t1,t2,t3,n,m,l,o⟩:=IY;obtain⟨a,b,c,d⟩:=p;obtain⟨D,C,B,A⟩:=q;unfold RK RL;have f:prog.fieldsOf 107= #[f0,f1,f2,f3]:=by simp[Program.fieldsOf,h]
 have k:∀x y z u:Int,(Go.part 3 #[.int .i64 x,.int .i64 y,.int .i64 z,.int .i64 u] 0).run prog w= .ok (.int .i64 x) w:=λx y z u=>run_part_plain w rI rfl;have j:∀x y z u:Int,(Go.part 3 #[.int .i64 x,.int .i64 y,.int .i64 z,.int .i64 u] 1).run prog w= .ok (.int .i64 y) w:=λx y z u=>run_part_plain w rI rfl;have i:∀x y z u:Int,(Go.part 3 #[.int .i64 x,.int .i64 y,.int .i64 z,.int .i64 u] 2).run prog w= .ok (.int .i64 z) w:=λx y z u=>run_part_plain w rI rfl;have g:∀x y z u:Int,(Go.part 57 #[.int .i64 x,.int .i64 y,.int .i64 z,.int .i64 u] 3).run prog w= .ok (.int .i64 u) w:=λx y z u=>run_part_plain w Qe rfl;have q:∀x y:Int,(Op.equalIn 9999 3 (.int .i64 x) (.int .i64 y)).run prog w= .ok (x==y) w:=λx y=>run_equalIn_int w 9998 _ _ _ _ _ underlying3;have e:∀x y:Int,(Op.equalIn 9999 57 (.int .i64 x) (.int .i64 y)).run prog w= .ok (x==y) w:=λx y=>run_equalIn_int w 9998 _ _ _ _ _ underlying57;rw[show(10000:Nat)=9999+1 from rfl,run_equalIn_agg w 9999 _ _ _ (by rw[f];exact h) IX,f];simp only[Op.eqFields,if_pos v,if_pos t,if_pos s,if_pos r,t0,t1,t2,t3,n,m,l,o,Sem.run_bind,Result.andThen,k,j,i,g,q,e,Sem.run_ite,Sem.run_pure]
 cases(a==D)<;>cases(b==C)<;>cases(c==B)<;>cases(d==A)<;>rfl
def B2{w:World}{O:Nat->Prop}{u:Value}{p:eZ}(h:Rd w O (.agg (aS p)) u):u=RK p:=by
 obtain⟨vs,rfl,v⟩:=h.agg_inv;have l:=v.len
 match vs,l,v with
 |[x,y,z,u],_,v=>
  rw[(v.at_ 0 _ _ rfl rfl).val rfl,(v.at_ 1 _ _ rfl rfl).val rfl,(v.at_ 2 _ _ rfl rfl).val rfl,(v.at_ 3 _ _ rfl rfl).val rfl]
  rfl
def G2{ρ:Operand->D}{σ:ae}{o:Oper}{t:TypeId}{x y:Operand}{p q:eZ}(a:o.op= .binOp .neq 107 x y t)(hx:ρ x= .agg (aS p))(d:ρ y= .agg (aS q)):Yd prog o ρ σ (.v (.bool (!RL p q))):=by
 intro w X η h f;obtain⟨dst,op,j,pos,i,g⟩:=o;simp only at a;subst a;have c:=h x (by simp[Op.operands]);have b:=h y (by simp[Op.operands]);rw[hx]at c;rw[d]at b;refine ev (s:=do eqGuard .neq 107 x y (η x) (η y);binOp .neq 107 (η x) (η y)) (u:=.bool (!RL p q)) ?_ (Ex.refl w) (.v _);rw[B2 c,B2 b];unfold RK at *;have e:=wo w p q;unfold RK at e;simp only[Sem.run_bind,run_eqGuard_agg w .neq _ _ _ _ _ CG,Result.andThen,run_neq_struct,e]
def sB(l:List UInt8):ByteArray:=⟨l.toArray⟩
def zF:an:={ name:=sB [],of:=sB [],up:=sB [],kind:=0,lo:=0,hi:=0,words:=[],wz:=[] }
def Q9:ak:={ vz:=0,kz:=[{ name:=sB [97],lo:=1,hi:=3,fields:=[{ zF with name:=sB [105,100],lo:=5 }] },{ name:=sB [98],lo:=0,hi:=9,fields:=[{ zF with name:=sB [105,100] },{ zF with name:=sB [116,111],kind:=1,of:=sB [97],hi:=2 },{ zF with name:=sB [110],kind:=2,hi:=9 }] }],lz:=[],rules:=[] }
def nI:dJ Q9=[]:=by decide +kernel
def Hj:APure prog 92 [] (aw Q9):=by
 refine ap func92 ntmps92 λa=>?_
 repeat' first|refine aV ?_|intro b;conv=>whnf
 refine Rt.le ?_
 (repeat'(first|exact Le.refl _|exact gC _|exact gH.nil|refine gH.cons ?_ ?_|refine DX ?_|refine lY ?_|refine ub ?_|exact ec.nil|refine ec.cons ?_ ?_))
def aY0(l:List eZ)(hl:l.length<=1000000):APure prog 13 [.sl 4 (l.map aS)] (.sl 4 (l.map aS)):=by
 refine ap func13 ntmps13 λi=>?_
 repeat refine aV ?_
 refine jN mixed ai (γ:=Nat×Value×ae) (λg=>[(3,.v g.2.1),(4,iD g.1)]) (λg=>g.2.2) (λg=>g.1<=l.length/\ab 107 4 ((l.take g.1).map aS) g.2.1 g.2.2) (λg=>l.length-g.1) (0,.slice none 0 0,[]) (ah aJ) bE ⟨zW _,ab.nil _ _⟩ ?_;rintro⟨j,v,s⟩ ⟨hj,w⟩;simp only at hj w⊢;by_cases hjl:j<l.length
 .obtain⟨p,f⟩:∃p,l[((j:Nat):Int).toNat]?=some p:=⟨_,zD hjl⟩
  have e:l[j]?=some p:=f
  repeat refine aV ?_
  refine Ap.go rfl rfl rfl rfl w (by simp:s.Perm (s++[])) rfl (zs:=(l.take (j+1)).map aS) (by rw[Q2 e,yB];rfl) (by simp;omega) (by simp;omega) (λb=>b) (λb=>by simp) (λa c b r=>?_)
  repeat refine aV ?_
  exact⟨(j+1,_,b),(ah aJ),bE,⟨by simp only;omega,r⟩,by simp only;omega⟩
 .obtain rfl:j=l.length:=by omega
  repeat refine aV ?_
  rw[yM]at w;exact Rt.vs (Vs.row w (τ:=[]) (by simp))
def CH(p:eZ):RL p p=true:=by simp[RL]
variable{A B:Prop}
def sq6(k:B)(h:ar B->A:=by intro q7;(first|refine aV ?_|(with_reducible refine Br.t (wP _) ?_)|(with_reducible refine Br.f Bool.not_true ?_)|(with_reducible refine Br.t (yJ trivial) ?_)|(with_reducible refine Br.t (yJ rfl) ?_));exact q7.1):A:=h ⟨k⟩
def aN0(l:List eZ)(hl:l.length<=1000000):APure prog 12 [.sl 4 (l.map aS),.sl 4 (l.map aS)] (bD true):=by
 refine ap func12 ntmps12 λb=>?_
 repeat' first|refine sq6 ?_|(with_reducible refine Br.f (yE (λh=>h rfl)) ?_)
 refine jN mixed ai (γ:=Nat) (λg=>[(5,iD g)]) (λ_=>[]) (λg=>g<=l.length) (λg=>l.length-g) 0 (ah aJ) bE (zW _) ?_;intro j hj;by_cases hjl:j<l.length
 .obtain⟨p,a⟩:∃p,l[((j:Nat):Int).toNat]?=some p:=⟨_,zD hjl⟩
  repeat refine aV ?_
  refine Ot.yd (G2 (p:=p) (q:=p) rfl rfl rfl) ?_;rw[CH]
  repeat refine aV ?_
  exact⟨j+1,(ah aJ),bE,by omega,by omega⟩
 .obtain rfl:j=l.length:=by omega
  repeat refine aV ?_
  refine Rt.pure (zM bD ?_);rfl
def LM{f:an}(g:f.name.size<=12)(e:f.of.size<=12)(i:f.up.size=0)(a:f.words=[])(h:f.wz=[])(d:0<=f.kind/\f.kind<=8)(c:-1000<=f.lo/\f.lo<=1000)(b:-1000<=f.hi/\f.hi<=1000):CF f:=
 ⟨g,e,by omega,by rw[a];decide,by rw[a];simp,by rw[h];decide,by rw[h];simp,d,c,b⟩
def we:LL Q9:=by
 refine{ ver:=by decide,nk:=by decide,ks:=λk a=>?_,nl:=by decide,ls:=λl c=>(by cases c),nr:=by decide,rs:=λr b=>(by cases b) };simp only[Q9,zU,yF,xE]at a;rcases a with rfl|rfl
 .refine⟨by decide,by decide,by decide,by decide,λf h=>?_⟩;simp only[zU,yF,xE]at h;subst h;exact LM (by decide) (by decide) rfl rfl rfl (by decide) (by decide) (by decide)
 .refine⟨by decide,by decide,by decide,by decide,λf h=>?_⟩;simp only[zU,yF,xE]at h;rcases h with rfl|rfl|rfl<;>exact LM (by decide) (by decide) rfl rfl rfl (by decide) (by decide) (by decide)
def aM4{w:Wd}(h:(decide (w.length<=1000)&&w.all λl=>decide (l.length<=1000)&&l.all λr=>decide (r.length<=1000))=true):Ws w:=by
 simp only[zJ,zQ,yA]at h;exact⟨h.1,λl a=>(h.2 l a).1,λl a r b=>(h.2 l a).2 r b⟩
def Tq(k:B)(h:ar B->A:=by intro q7;(first|refine bh ?_|refine aE ?_|(refine' aj ?hc ?_;(case hc=>first|exact Hj|exact HC|exact aY0 _ (by assumption)|exact aN0 _ (by assumption))));exact q7.1):A:=h ⟨k⟩
def aY1(w:Wd)(l:List eZ)(a:Ws w)(hl:l.length<=1000000)(h:N1 Q9 w=l):APure prog 49 [fI w,.sl 4 (l.map aS)] (bD true):=by
 have HC:=k9 Q9 w a nI (aP5 Q9 we.good);rw[h]at HC;refine ap func49 ntmps49 λb=>?_
 repeat refine Tq ?_
 refine Rt.pure (zM bD ?_);rfl
def L5(k:B)(h:ar B->A:=by intro q7;(first|refine bh ?_|refine aE ?_|(refine' aj ?hc ?_;(case hc=>first|exact F1|exact F2|exact F3|exact F4)));exact q7.1):A:=h ⟨k⟩
def Hl:APure prog 16 [] (bD true):=by
 have F1:=aY1 [[[5],[6]],[[0,1,4]]] [] (aM4 rfl) (by decide) (by decide +kernel);have F2:=aY1 [[[5],[5]],[[0,1,4]]] [(0,1,0,7)] (aM4 rfl) (by decide) (by decide +kernel);have F3:=aY1 [[[5]],[[0,1,4]]] [(-1,-1,-1,2)] (aM4 rfl) (by decide) (by decide +kernel);have F4:=aY1 [[[4]],[[0,0,10],[1,0,0],[2,0,0]]] [(0,0,0,5),(1,0,2,5),(1,0,1,11)] (aM4 rfl) (by decide) (by decide +kernel);refine ap func16 ntmps16 λa=>?_
 repeat refine L5 ?_
 refine CE.pk (iK.peek (.cons (Pk.same _) (.cons (Pk.le (gC _)) .nil)) F1 rfl) ?_
 repeat refine L5 ?_
 refine Rt.pure (zM bD ?_);rfl
end
end Go.Proofs.YtilnpcolgcmofaaGreatDoor
