/- A part of the proof: R10 R10b Ro Ls Ya Zb Zc Zd Zk Ze Yb Yc Ha Ec Ye Yf Yg Zf. -/
import Derived.Test.YtilnpcolgcmofaaGreatDoorA10
import Derived.DeepKeys5
import Derived.Scope
set_option maxRecDepth 100000
set_option maxHeartbeats 20000000
set_option linter.all false
namespace Go.Proofs.YtilnpcolgcmofaaGreatDoor
open Tryz
section
open Go
theorem ao{A B:Prop}(k:B)(h:ar B->A:=by intro q7;(first|refine bC ?_|refine aA ?_|(refine' ah ?hc ?_;(case hc=>fail)));exact q7.1):A:=h ⟨k⟩
theorem EX(x:ak)(nm:ByteArray)(hl:x.kz.length<=1000000):APure prog 65 [ax x,sD nm] (iD (bf x nm)):=by
 refine ap func65 ntmps65 λb=>?_
 repeat' first|refine ao ?_|refine ba.mk λy hy=>?_
 refine fZ mixed ai (γ:=Nat) (λk=>[(5,iD k)]) (λ_=>[]) (λk=>k<=x.kz.length/\∀i y,i<k->x.kz[i]?=some y->seq y.name nm=false) (λk=>x.kz.length-k) 0 rfl rfl ⟨by omega,by omega⟩ ?_;rintro k ⟨a,hno⟩
 repeat' first|refine ao ?_|refine ba.mk λy hy=>?_|(refine aV ?_;constructor<;>intro hc)
 .refine Rt.pure (zM iD ?_);exact(Kb hy ‹_› hno).symm
 .exact X8
 .exact En
def iK(x:ak)(i j:Int):Bool:=(fieldAt x i j).isSome
theorem al8{x:ak}{i j:Int}(h:i<0\/(x.kz.length:Int)<=i\/j<0):fieldAt x i j=none:=by
 unfold fieldAt dw;by_cases hi:0<=i
 .rw[if_pos hi]
  cases a:x.kz[i.toNat]? with
  |none=>rfl
  |some k=>
   have:=(zE.1 a).1;simp only;rw[if_neg (by omega)]
 .rw[if_neg hi]
theorem Ka{x:ak}{i j:Int}{k:au}(b:0<=i)(a:0<=j)(h:x.kz[i.toNat]?=some k):fieldAt x i j=k.fields[j.toNat]?:=by
 unfold fieldAt dw;rw[if_pos b,h];simp only;rw[if_pos a]
theorem YL{p:Prop}(h:p:=by
 rintro q ⟨hq,hno⟩
 repeat' first|refine ao ?_|refine ba.mk λy hy=>?_|(refine aV ?_;constructor<;>intro hc)
 .refine Rt.pure (zM iD ?_);exact(Kb hy ‹_› hno).symm
 .exact⟨q+1,rfl,rfl,⟨by omega,λi z hi hz=>by
   by_cases e:i=q
   .subst e;rw[show((i:Int)).toNat=i from rfl,hz]at hy;cases hy;assumption
   .exact hno i z (by omega) hz⟩,by omega⟩
 .refine Rt.pure (zM iD ?_);exact(ZM λi y hy=>hno i y (by have:=(zE.1 hy).1;omega) hy).symm):p:=h
theorem xu(k:au)(nm:ByteArray)(hl:k.fields.length<=1000000):APure prog 64 [fF k,sD nm] (iD (a7 k nm)):=by
 refine ap func64 ntmps64 λa=>?_
 repeat' first|refine ao ?_|refine ba.mk λy hy=>?_
 refine fZ mixed ai (γ:=Nat) (λq=>[(5,iD q)]) (λ_=>[]) (λq=>q<=k.fields.length/\∀i y,i<q->k.fields[i]?=some y->seq y.name nm=false) (λq=>k.fields.length-q) 0 rfl rfl ⟨by omega,by omega⟩ ?_;exact YL
theorem D8{p:Prop}(h:p:=by
 refine Rt.pure (zM bD ?_);simp[iK,al8 (x:=x) (i:=i) (j:=j) (by omega)]):p:=h
theorem aH2(x:ak)(i j:Int):APure prog 63 [ax x,iD i,iD j] (bD (iK x i j)):=by
 refine ap func63 ntmps63 λa=>?_
 repeat' first|refine ao ?_|refine ba.mk λy hy=>?_|(refine aV ?_;constructor<;>intro hc)
 .exact D8
 .exact D8
 .exact D8
 .refine Rt.pure (zM bD ?_);rw[iK,Ka (by omega) (by omega) hy];by_cases hlt:j<y.fields.length
  .rw[zD (by omega)];simpa using hlt
  .rw[List.getElem?_eq_none (by omega)];simpa using hlt
theorem Fv{x:ak}{i j:Int}{f:am}(h:fieldAt x i j=some f):0<=i/\0<=j/\∃k,x.kz[i.toNat]?=some k/\k.fields[j.toNat]?=some f:=by
 unfold fieldAt dw at h;by_cases hi:0<=i
 .rw[if_pos hi]at h
  cases a:x.kz[i.toNat]? with
  |none=>simp[a]at h
  |some k=>
   simp only[a]at h;by_cases hj:0<=j
   .rw[if_pos hj]at h;exact⟨hi,hj,k,rfl,h⟩
   .rw[if_neg hj]at h;cases h
 .rw[if_neg hi]at h;cases h
theorem ZX{x:ak}{i j:Int}{f:am}{k:au}(a:fieldAt x i j=some f)(h:dw x i=some k):aI x i j=if f.kind=7\/f.kind=8 then xh x i (ED (a7 k f.up) j (fieldAt x i (a7 k f.up)))else if f.kind=1 then refUp x i f else -1:=by
 simp only[aI,a,Rn,h]
theorem ME(k:au)(nm:ByteArray):a7 k nm<k.fields.length:=FK _ _
theorem aV0(k:au)(nm:ByteArray):-1<=a7 k nm:=DC _ _
theorem ZF(x:ak)(nm:ByteArray):bf x nm<x.kz.length:=FK _ _
theorem v6(x:ak)(nm:ByteArray):-1<=bf x nm:=DC _ _
theorem NN{A B:Prop}(k:B)(h:ar B->A:=by intro q7;(first|refine bC ?_|refine aA ?_|(refine' ah ?hc ?_;(case hc=>first|exact aH2 _ _ _|exact EX _ _ (by assumption)|exact xu _ _ (by assumption))));exact q7.1):A:=h ⟨k⟩
theorem Qn(x:ak)(i j:Int)(hl:x.kz.length<=1000000)(y:∀k∈x.kz,k.fields.length<=1000000):APure prog 36 [ax x,iD i,iD j] (iD (aI x i j)):=by
 refine ap func36 ntmps36 λz=>?_
 cases a:fieldAt x i j with
 |none=>
  have u:iK x i j=false:=by simp[iK,a]
  repeat' first|refine NN ?_|intro b;conv=>whnf
  refine Rt.pure (zM iD ?_);simp[aI,a]
 |some f=>
  have u:iK x i j=true:=by simp[iK,a]
  obtain⟨h0,h1,k,n,r⟩:=Fv a;have w:=y k (zG n);have o:dw x i=some k:=by simp[dw,h0,n]
  have t:=ME k f.up;have U:=ZX a o
  cases l:fieldAt x i (a7 k f.up)with
  |none=>
   have p:a7 k f.up<0:=by
    refine Int.not_le.1 λh=>?_;rw[Ka h0 h n,zD (by omega)]at l;cases l
   simp only[l,ED,xh]at U
   repeat' first|refine NN ?_|intro b;conv=>whnf|(refine aV ?_;constructor<;>intro hc)
   all_goals(refine Rt.pure (zM iD ?_);rw[U];unfold refUp;(repeat' split)<;>first|rfl|omega)
  |some g=>
   obtain⟨_,s,q,e,v⟩:=Fv l;obtain rfl:k=q:=by rw[n]at e;exact wK e
   simp only[l,ED]at U
   repeat' first|refine NN ?_|intro b;conv=>whnf|(refine aV ?_;constructor<;>intro hc)
   all_goals(refine Rt.pure (zM iD ?_);rw[U];unfold refUp;(repeat' split)<;>first|rfl|omega|(unfold xh;simp only;unfold refUp;(repeat' split)<;>first|rfl|omega))
end
section
open Go
def Fi(l:List Int):List (List D):=l.map λn=>[iD n]
theorem aI8{x:ak}{i:Int}{f:am}(h:f.kind≠6\/bf x f.of<=i):JM x i f=true:=by
 simp only[JM];rcases h with h|h<;>simp[h]
theorem aI9{x:ak}{i:Int}{f:am}(h:f.kind=6)(a:i<bf x f.of):JM x i f=false:=by
 simp only[JM,h];simp;omega
theorem aN3(x:ak)(i:Int)(f:am)(o:Nat)(k:au)(a:bf x f.of=o)(h:x.kz[o]?=some k):y4 x i f=tF x o i f k.fields k.fields.length:=by
 rw[←a];exact mJ x i f k (by rw[a];simp[dw,h])
theorem bc9(σ:af)(k:Nat):Vs σ (.v (.slice none 0 0)) σ (.sl k []):=Vs.le (gw k)
theorem NM{A B:Prop}(k:B)(h:ar B->A:=by intro q7;(first|refine bC ?_|refine aA ?_|(refine' ah ?hc ?_;(case hc=>first|exact aH2 _ _ _|exact EX _ _ (by assumption)|exact xu _ _ (by assumption)|exact Qn _ _ _ (by assumption) (by assumption))));exact q7.1):A:=h ⟨k⟩
theorem tv{p:Prop}(h:p:=by
 rw[hno (by omega)];exact Rt.vs (Vs.tup (fc.cons (Vs.refl _ _) (fc.cons (bc9 _ _) (fc.nil _))))):p:=h
theorem aX4(x:ak)(i j:Int)(f:am)(hl:x.kz.length<=1000000)(K:∀k∈x.kz,k.fields.length<=1000000)(C:fieldAt x i j=some f):APure prog 132 [ax x,iD i,iD j] (.tup [iD (gg x i f).1,bj (gg x i f).2]):=by
 refine ap func132 ntmps132 λO=>?_;obtain⟨h0,h1,k,M,I⟩:=Fv C;have G:=ZF x f.of;have hno:f.kind≠6\/bf x f.of<=i->gg x i f=(-1,[]):=λh=>by unfold gg;rw[aI8 h];rfl
 repeat' first|refine NM ?_|intro b;conv=>whnf|refine ba.mk λy hy=>?_|(refine aV ?_;constructor<;>intro hc)
 .exact tv
 .obtain⟨e,rfl⟩:∃e,e=y:=⟨_,rfl⟩
  have l:=hy;clear hy;have L:f.kind=6:=by omega
  have r:=aI9 (x:=x) (i:=i) L (by omega);obtain⟨o,u⟩:=Int.eq_ofNat_of_zero_le (show 0<=bf x f.of by omega);rw[u]at l;have l:x.kz[o]?=some e:=l;have S:gg x i f=((o:Int),tF x o i f e.fields e.fields.length):=by
   unfold gg;rw[r,aN3 x i f o e u l,u];rfl
  have J:=K e (zG l);rw[u];refine fZ mixed ai (γ:=Nat×Value×af) (λg=>[(10,.v g.2.1),(12,iD g.1)]) (λg=>(b,.cells 81 (aH f))::g.2.2) (λg=>g.1<=e.fields.length/\ae 3 1 (Fi (tF x o i f e.fields g.1)) g.2.1 g.2.2) (λg=>e.fields.length-g.1) (0,.slice none 0 0,[]) rfl rfl ⟨zW _,ae.nil _ _⟩ ?_;rintro⟨q,v,s⟩ ⟨F,w⟩;simp only at F w⊢
  repeat' first|refine NM ?_|intro b;conv=>whnf|refine ba.mk λy hy=>?_|(refine aV ?_;constructor<;>intro hc)
  .have n:EI x o i f y q=true:=by simp[EI,seq, *]
   have t:=as1 x o i f e.fields q y hy;rw[n,if_pos rfl]at t;have D:=aI7 x o i f e.fields (q+1);refine Ap.go rfl rfl rfl rfl w (Kf _ _) rfl (zs:=Fi (tF x o i f e.fields (q+1))) (by rw[t];simp only[Fi,yB];rfl) (by simp[Fi];omega) (by simp[Fi];omega) (λz=>_::z) (Qa _) (λa c z E=>?_)
   repeat' first|refine NM ?_|intro b;conv=>whnf|refine ba.mk λy hy=>?_
   exact⟨(q+1,_,z),rfl,rfl,⟨by simp only;omega,E⟩,by simp only;omega⟩
  iterate 3
   have n:EI x o i f y q=false:=by simp[EI,seq, *]
   have t:=as1 x o i f e.fields q y hy;rw[n,if_neg (by simp),zZ]at t;exact⟨(q+1,v,s),rfl,rfl,⟨by simp only;omega,by simp only;rw[t];exact w⟩,by simp only;omega⟩
  .obtain rfl:q=e.fields.length:=by omega
   rw[S];exact Rt.vs (Vs.tup (fc.cons (Vs.refl _ _) (fc.cons (Vs.row w (Kf _ _)) (fc.nil _))))
 .exact tv
def nc(o:Int):List Int->Int×Int
 |[n]=>(o,n)
 |_=>(-1,-1)
def jw(x:ak)(i j:Int):Int×Int:=match fieldAt x i j with
 |none=>(-1,-1)
 |some f=>nc (gg x i f).1 (gg x i f).2
theorem px{x:ak}{i j:Int}{f:am}{o:Int}{l:List Int}(h:fieldAt x i j=some f)(s:gg x i f=(o,l)):jw x i j=nc o l:=by
 simp only[jw,h,s]
theorem na{o:Int}{l:List Int}(h:l.length≠1):nc o l=(-1,-1):=by
 match l,h with
 |[],_=>rfl
 |[a],h=>exact absurd rfl h
 |a::b::r,_=>rfl
theorem NL{A B:Prop}(k:B)(h:ar B->A:=by intro q7;(first|refine bC ?_|refine aA ?_|(refine' ah ?hc ?_;(case hc=>first|exact aH2 _ _ _|exact HS)));exact q7.1):A:=h ⟨k⟩
theorem pS(x:ak)(i j:Int)(hl:x.kz.length<=1000000)(g:∀k∈x.kz,k.fields.length<=1000000):APure prog 154 [ax x,iD i,iD j] (.tup [iD (jw x i j).1,iD (jw x i j).2]):=by
 refine ap func154 ntmps154 λn=>?_
 cases a:fieldAt x i j with
 |none=>
  have e:iK x i j=false:=by simp[iK,a]
  repeat' first|refine NL ?_|(refine aV ?_;constructor<;>intro hc)
  exact Rt.pure (by simp only[jw,a])
 |some f=>
  have e:iK x i j=true:=by simp[iK,a]
  have HS:=aX4 x i j f hl g a;rcases hs:gg x i f with⟨o,l⟩
  have r:=px a hs;rw[hs]at HS;simp only at HS;by_cases hl1:l.length=1
  .obtain⟨m,rfl⟩:=List.length_eq_one_iff.1 hl1
   repeat' first|refine NL ?_|(refine aV ?_;constructor<;>intro hc)
   exact Rt.pure (by rw[r];rfl)
  .have b:jw x i j=(-1,-1):=by rw[r,na hl1]
   repeat' first|refine NL ?_|(refine aV ?_;constructor<;>intro hc)
   exact Rt.pure (by rw[b])
end
section
open Go Go.Maps Go.MapKept
abbrev RI:eF (List Int):=λl v s=>ae 3 1 (l.map λn=>[iD n]) v s
abbrev Kt:eF (List (List Int)):=aN 22 RI
abbrev RW:eF Wd:=aN 70 Kt
theorem XJ:FN RI bj:=sY _ _ _
theorem DL:FN Kt fV:=ba8 XJ
theorem XI:FN RW jD:=ba8 DL
theorem FE(l:List Int):((l.map λb=>[iD b]).all λy=>y.all dJ)=true:=by rw[yA];intro y h;obtain⟨b,_,rfl⟩:=xM.1 h;rfl
structure Snd(x:ak):Prop where
 no:eH x=[]
 vld:MR x
 up:∀r∈bM x,0<=r.up/\r.up<r.kind/\r.kind<x.kz.length
theorem z6(x:ak)(k i:Int)(h:0<=aI x k i):aI x k i<k:=by
 unfold aI at h⊢;have y:∀f,0<=refUp x k f->refUp x k f<k:=λf h=>by
  unfold refUp at h⊢;split
  .assumption
  .rename_i n;rw[if_neg n]at h;omega
 split
 .rename_i e;rw[e]at h;simp at h
 .rename_i f e;rw[e]at h;simp only at h;split
  .rename_i b;rw[if_pos b]at h
   cases u:Rn x k i f with
   |none=>rw[u]at h;simp[xh]at h
   |some g=>rw[u]at h;exact y g h
  .rename_i b;rw[if_neg b]at h;split
   .rename_i a;rw[if_pos a]at h;exact y f h
   .rename_i a;rw[if_neg a]at h;omega
theorem sI{k f r e:Int}(h:one k f r e=[]):e=0:=by
 unfold one at h;split at h
 .assumption
 .cases h
theorem aV9{α:Type}{q:Nat}{g:Nat->List α}(h:aq q g=[])(i:Nat)(a:i<q):g i=[]:=by
 unfold aq at h;rw[List.flatMap_eq_nil_iff]at h;exact h i (xT.2 a)
def vN:=@List.append_eq_nil_iff
theorem ZH{x:ak}(h:eH x=[]){k:Nat}{kd:au}{i:Nat}{f:am}(b:x.kz[k]?=some kd)(c:kd.fields[i]?=some f):¬a7 kd f.name<i/\cM x k i f=0:=by
 unfold eH at h;split at h
 .simp only[vN]at h;have e:=aV9 h.1.2 k (zE.1 b).1;simp only[dQ,b,vN]at e;have d:=aV9 e.2 i (zE.1 c).1;simp only[fo,c]at d;have a:=sI d;unfold l8 at a;split at a
  .omega
  .exact⟨by assumption,a⟩
 .cases h
theorem uz{x:ak}(h:eH x=[]):fI x=0:=by
 unfold eH at h;split at h
 .assumption
 .cases h
theorem ky{x:ak}(h:eH x=[]):Snd x:=by
 refine⟨h,kq (uz h),λr d=>?_⟩;obtain⟨kd,f,c,i,g,e,_⟩:=aZ7 d;have a:=(ZH h c i).2;have b:0<=aI x r.kind r.field:=by
  unfold cM at a;rw[if_neg (by omega),if_neg (by omega),if_pos g]at a;split at a
  .cases a
  .omega
 rw[e];exact⟨b,z6 x _ _ b,(zE.1 c).1⟩
structure Ws(w:Wd):Prop where
 nk:w.length<=1000
 nr:∀l∈w,l.length<=1000
 nf:∀l∈w,∀r∈l,r.length<=1000
theorem mU{x:ak}(h:MR x):(bM x).length<=6000:=by
 have b:=fL (λk=>mX x k (λk a=>by have:=h.nf k a;omega)) x.kz.length;have:=h.nk;unfold bM;omega
theorem C2:laidOutB prog=true:=by kernel_rfl
theorem qS:prog.cellsOf 3=1:=by kernel_rfl
theorem ba3(n:Nat){a:Int}(h:(Lit.int .i64 a).wf=true):prog.keyLits (n+1) 3 [.int .i64 a]=some [.int .i64 a]:=by
 simp only[Program.keyLits,underlying3,h];simp
theorem aU6:Keyed prog 3:=int_keyed underlying3
theorem sV{a:Int}(h:(Lit.int .i64 a).wf=true):keyOf prog 3 (.int .i64 a)=some (.int .i64 a):=keyOf_int_mk underlying3 h
theorem iq{a:Int}(b:-9223372036854775808<=a)(h:a<=9223372036854775807):(Lit.int .i64 a).wf=true:=by
 have c:IntKind.i64.min= -9223372036854775808:=rfl;have e:IntKind.i64.max=9223372036854775807:=rfl;simp[Lit.wf,c,e,b,h]
def part{α:Type}(x0:α)(xs:List α)(j:Nat):List α:=xs.take j++List.replicate (xs.length-j) x0
theorem Mk.go{T:TypeId->Option TI}{σ:af}{t e:TypeId}{i j:TI}{g:Bool}{a c:Nat}{z:ZV}{K:D->af->Prop}(m:Nat)(r:T t=some i)(q:i.sl=some (e,g,1,a))(p:T e=some j)(o:j.zero=[z])(n:j.size=1)(d:c=m)(f:a*m<=281474976710656)(l:m<=1000000000)
  (k:∀b,W (K (.v (.slice (some ⟨b,0,none⟩) m m)) ((b,.cells e (List.replicate m (.v (zv z))))::σ))):Mk T σ t (.v (.int .i64 c)) (.v (.int .i64 c)) K:=by
 subst d;exact⟨e,i,j,g,a,c,z,r,q,p,o,n,rfl,rfl,f,l,λb=>(k b).h⟩
theorem ba0:Keyed prog 124:=Keyed.of_law (deep_law_laid C2 (m:=3) (by omega) (wY (by kernel_rfl)) (by kernel_rfl) (by rw[underlying124]))
theorem CS:prog.keyType 124=true:=by kernel_rfl
def Iu(a b c:Int):Value:=.agg #[.int .i64 a,.int .i64 b,.int .i64 c]
theorem nB:prog.cellsOf 124=3:=by kernel_rfl
theorem vu(a b c:Int):(Iu a b c).formed prog 124=true:=by
 simp[Iu,Value.formed,underlying124,nB]
theorem qu{a b c:Int}(f:(Lit.int .i64 a).wf=true)(e:(Lit.int .i64 b).wf=true)(d:(Lit.int .i64 c).wf=true):∃l,keyOf prog 124 (Iu a b c)=some l:=by
 unfold keyOf;rw[underlying124];simp only[CS,vu,Bool.and_self,if_true];have:∃n,prog.types.size=n+1:=⟨prog.types.size-1,by have:0<prog.types.size:=wY (by kernel_rfl);omega⟩
 obtain⟨n,h⟩:=this;rw[h];have:prog.keyLits (n+1+1) 124 (Iu a b c).cells.toList=some [.int .i64 a,.int .i64 b,.int .i64 c]:=by
  unfold Program.keyLits;simp[Iu,Value.cells,underlying124,nB,qS,ba3 n f,ba3 n e,ba3 n d]
 rw[this];exact⟨_,rfl⟩
theorem It{a b c d e f:Int}(h:Iu a b c=Iu d e f):a=d/\b=e/\c=f:=by
 simp only[Iu,Value.agg.injEq]at h;have:=zM Array.toList h;simp at this;exact this
theorem pB2(x y z:Value):gF (.agg [.v x,.v y,.v z]) (.agg #[x,y,z]):=λw O u h=>by
 obtain⟨vs,rfl,d⟩:=h.agg_inv;have l:=d.len
 match vs,l with
 |[a,b,c],_=>
  have f:=(d.at_ 0 _ _ rfl rfl).val rfl;have e:=(d.at_ 1 _ _ rfl rfl).val rfl;have q:=(d.at_ 2 _ _ rfl rfl).val rfl;rw[f,e,q]
end
namespace Go
section
variable {P:Program} {b:Frame} {a:Act} {k:List Item} {cs:List Frame} {w:World} {F:Fence} {n:Nat} {Q:Exit->Act->World->Prop}
end
end Go
section
open Go Go.RowKit Go.Shelf
section
variable {P:Program} {r:Option Nat} {n:Nat} {df:Nat} {N:Nat} {σ:af} {f:aM} {a:List D} {T:TypeId->Option TI} {Q:gS}
end
end
section
open Go
abbrev yD(b:Nat):D:=.v (.int .u8 (b:Int))
abbrev yC(b:Nat):List D:=[yD b]
abbrev AH(l:List Nat):D:=.sl 1 (l.map yC)
abbrev RY:eF (List Nat):=λl v s=>ae 5 1 (l.map yC) v s
theorem sH(l:List Nat):((l.map yC).all λy=>y.all dJ)=true:=by rw[yA];intro y h;obtain⟨b,_,rfl⟩:=xM.1 h;rfl
section
variable {P:Program} {σ:af} {ρ:Operand->D}
theorem xr{o:Oper}{s d:TypeId}{x:Operand}{k k':IntKind}{n m:Int}(b:o.op= .convert s d x)(hx:ρ x= .v (.int k n)){c:TypeDesc}(i:P.underlying s=some c)(f:P.underlying d=some (.int k'))(e:k'.wrap n=m):Yd P o ρ σ (.v (.int k' m)):=by
 intro w X η a t;obtain⟨dst,p,y,pos,j,g⟩:=o;simp only at b;subst b;have h:=(a x (by simp[Op.operands])).val hx;refine dE (s:=convert s d (η x)) (u:=.int k' m) ?_ (Ex.refl w) (.v _);rw[h]
 cases c<;>simp[convert,run_underlying i,run_underlying f,Conv.intToInt,e]
end
theorem N9(j:Nat):2 ^ (8*j)=256 ^ j:=by rw[Nat.pow_mul]
theorem Ql{e:TypeId}{k:Nat}{xs:List (List D)}(b:Nat)(h:∀x∈xs,x.length=k)(m:xs.length<=maxLen):ae e k xs (.slice (some ⟨b,0,none⟩) xs.length xs.length) [(b,.cells e xs.flatten)]:=
 ⟨h,.inr ⟨b,xs.length,[],rfl,by simp,zT _,m,by simp,λd a=>by cases a⟩⟩
section
variable {P:Program} {t:TypeId} {p q:Operand} {w:World}
theorem x0{d:Nat}(h:d<256):(do eqGuard .xor t p q (.int .u8 (d:Int)) (.int .u8 0);binOp .xor t (.int .u8 (d:Int)) (.int .u8 0)).run P w= .ok (.int .u8 ((ij false d:Nat):Int)) w:=by
 have a:=A9 (P:=P) (t:=t) (p:=p) (q:=q) (w:=w) .u8 .xor (λx y=>x ^^^ y) (.inl ⟨rfl,rfl⟩) rfl d 0 h (by decide);rw[Nat.xor_zero]at a;exact a
end
end
section
open Go
section
variable {P:Program} {t:TypeId} {p q:Operand} {w:World}
end
theorem e'(x:cC)(n:Nat)(h0:0<n)(h:n<32):APure prog 284 [wD x,iD n] (wD (ez x n)):=by
 refine ap func284 ntmps284 λa=>?_
 repeat refine ao ?_
 refine Ot.yd (cW (r:=wV (x >>> n)) rfl rfl rfl (λw=>pD x .i64 n (by omega))) ?_
 repeat refine ao ?_
 rw[show(32:Int)-(n:Int)=((32-n:Nat):Int) by omega];refine Ot.yd (cW (r:=wV (x <<< (32-n))) rfl rfl rfl (λw=>kF x .i64 (32-n) (by omega))) ?_
 repeat refine ao ?_
 refine Ot.yd (cW (r:=wV (x >>> n |||x <<< (32-n))) rfl rfl rfl (λw=>sb _ _)) ?_
 repeat refine ao ?_
 exact Rt.pure rfl
end
section
open Go
def wc(l:List cC):List D:=l.map wD++List.replicate (64-l.length) (wD 0)
theorem zt{l:List cC}(h:l.length<=64):(wc l).length=64:=by unfold wc;simp;omega
theorem M9{l:List cC}{i:Nat}(h:i<l.length):(wc l)[i]?=some (wD (l.getD i 0)):=by
 unfold wc;rw[yP (by simpa using h),qA,List.getD_eq_getElem?_getD,zD h]
 rfl
theorem rH{l:List cC}(h:l.length<64)(x:cC):(wc l).set l.length (wD x)=wc (l++[x]):=by
 unfold wc;rw[show 64-l.length=(64-(l++[x]).length)+1 by simp;omega,List.replicate_succ,List.set_append_right _ _ (by simp)];simp
theorem Ga{l:List cC}(h:l.length=64):wc l=l.map wD:=by unfold wc;rw[h];simp
def oE(l:List cC):D:=.agg ((List.range 64).map λi=>wD (l.getD i 0))
def vU:=@List.length_range
theorem X2{p:Prop}(h:p:=by
 refine List.ext_getElem (by simp[h]) λi h1 h2=>?_;simp only[zL,vU]at h1;have h3:i<l.length:=by omega
 simp[List.getD_eq_getElem?_getD,h3]):p:=h
theorem oD{l:List cC}(h:l.length=64):(List.range 64).map (λi=>wD (l.getD i 0))=l.map wD:=X2
theorem NR{b:List Nat}{t:Nat}(h:¬t<16):bJ b (t+1)=bJ b t++[(bJ b t).getD (t-16) 0+iu ((bJ b t).getD (t-15) 0)+(bJ b t).getD (t-7) 0+kA ((bJ b t).getD (t-2) 0)]:=by
 rw[bJ,if_neg h]
theorem jr{P:Program}{σ:af}{ρ:Operand->D}{T:TypeId->Option TI}(p:∀t i,T t=some i->aE P t=some i){o:Oper}{t:TypeId}{x a:Operand}{b f n m q:Nat}{kk:IntKind}{j:Int}{r:Bool}{i:TI}(d:o.op= .indexAddr t x a)(hx:ρ x= .v (.pointer (some ⟨b,f,none⟩)))(k:ρ a= .v (.int kk j))(h:T t=some i)(l:i.arr=some (n,r,1))(g:j=(m:Int))(e:m<n)(c:f+m=q):Yd P o ρ σ (.v (.pointer (some ⟨b,q,none⟩))):=by
 subst c;have:=bQ (σ:=σ) p d hx k h l g e
 rwa [Nat.mul_one]at this
end
section
open Go
theorem ba7{l:List Nat}{i d:Nat}(h:l[i]?=some d):l.getD i 0=d:=by rw[List.getD_eq_getElem?_getD,h];rfl
theorem u1x{A B:Prop}(k:B)(h:ar B->A:=by intro q7;(first|((with_reducible refine' Rs.tc ai (m:=0) ?h ?hi ?hj ?hb ?ht ?hag ?hs ?_);(case h=>exact rfl);(case hi=>exact rfl);(case hj=>exact rfl);(case hb=>exact rfl);(case ht=>exact rfl);(case hag=>exact rfl);(case hs=>exact rfl))|((with_reducible refine' nd ai (m:=0) ?h ?hi ?hj ?hb ?ht ?hag ?hs ?_);(case h=>exact rfl);(case hi=>exact rfl);(case hj=>exact rfl);(case hb=>exact rfl);(case ht=>exact rfl);(case hag=>exact rfl);(case hs=>exact rfl))|((with_reducible refine' Rs.c ai (m:=0) ?h ?hj ?hb ?ht ?hag ?hs ?_);(case h=>exact rfl);(case hj=>exact rfl);(case hb=>exact rfl);(case ht=>exact rfl);(case hag=>exact rfl);(case hs=>exact rfl))|((with_reducible refine TD ?h ?_);(case h=>omega))|((with_reducible refine Br.df ?h ?_);(case h=>omega))|((with_reducible refine Br.t ?h ?_);(case h=>assumption))|((with_reducible refine Br.f ?h ?_);(case h=>assumption))|((with_reducible refine Br.t ?h ?_);(case h=>(refine yJ ?_;omega)))|((with_reducible refine Br.f ?h ?_);(case h=>(refine yE ?_;omega))));exact q7.1):A:=h ⟨k⟩
theorem RL{A B:Prop}(k:B)(h:ar B->A:=by intro q7;(first|fail|((with_reducible refine' Ot.yd ?hyd ?_);(case hyd=>first|(refine' ai4 ai rfl rfl rfl rfl rfl ?hc ?h0;(case hc=>assumption);(case h0=>omega))|(refine ai3 ai rfl rfl rfl rfl rfl ?_;first|omega|(simp only[zL,zR,zI,List.length_cons,List.length_nil,zY,Nat.reduceAdd];omega))|(refine aj5 ai rfl rfl rfl rfl rfl ?_;omega)|exact as7 rfl rfl rfl underlying4|exact an4 rfl rfl rfl|exact an5 rfl rfl rfl))|refine u1x ?_);exact q7.1):A:=h ⟨k⟩
theorem Hg{A B:Prop}(k:B)(h:ar B->A:=by intro q7;(first|refine KJ ?_|fail|refine RL ?_);exact q7.1):A:=h ⟨k⟩
theorem bE{A B:Prop}(k:B)(h:ar B->A:=by intro q7;(first|refine Hg ?_|refine aA ?_|(refine' ah ?hc ?_;(case hc=>first|exact e' _ 7 (by decide) (by decide)|exact e' _ 18 (by decide) (by decide)|exact e' _ 17 (by decide) (by decide)|exact e' _ 19 (by decide) (by decide))));exact q7.1):A:=h ⟨k⟩
theorem L0{p:Prop}(h:p:=by
 repeat' first|refine bE ?_|intro b;conv=>whnf
 exact⟨t+1,(aj av),by rw[hn];exact Sc.refl _,by omega,by omega⟩):p:=h
theorem BE(y:List Nat)(hb:y.length=64)(e:∀d∈y,d<256):APure prog 283 [AH y] (oE (bJ y 64)):=by
 refine ap func283 ntmps283 λF=>?_
 repeat' first|refine bE ?_|intro b;conv=>whnf
 rename_i b2;refine aR mixed ai (γ:=Nat) (λt=>[(4,iD t)]) (λt=>[(b,.cells 375 (wc (bJ y t))),(b2,.cells 375 (wc []))]) (λt=>t<=16) (λt=>16-t) 0 (aj av) (Sc.refl _) (by decide) ?_;intro t ht;have a:=JL y t;by_cases o:t<16
 .obtain⟨d0,e0⟩:∃d,y[(4*(t:Int)).toNat]?=some d:=⟨_,zD (by omega)⟩
  obtain⟨d1,v⟩:∃d,y[(4*(t:Int)+1).toNat]?=some d:=⟨_,zD (by omega)⟩
  obtain⟨d2,u⟩:∃d,y[(4*(t:Int)+2).toNat]?=some d:=⟨_,zD (by omega)⟩
  obtain⟨d3,s⟩:∃d,y[(4*(t:Int)+3).toNat]?=some d:=⟨_,zD (by omega)⟩
  have E:=e _ (zG e0);have D:=e _ (zG v);have C:=e _ (zG u);have z:=e _ (zG s);have hn:bJ y (t+1)=bJ y t++[jC d0 d1 d2 d3]:=by
   rw[bJ,if_pos o,ba7 (d:=d0) (by rw[←e0];congr 1),ba7 (d:=d1) (by rw[←v];congr 1),ba7 (d:=d2) (by rw[←u];congr 1),ba7 (d:=d3) (by rw[←s];congr 1)]
  have k:=λx=>rH (l:=bJ y t) (by omega) x;rw[a]at k;have f:=zt (l:=bJ y t) (by omega);generalize bJ y t=l at *
  repeat' first|refine bE ?_|intro b;conv=>whnf
  refine Ot.yd (xr (m:=(((BitVec.ofNat 32 d0).toNat:Nat):Int)) rfl rfl underlying5 underlying372 (by rw[IntKind.wrap_u32,BitVec.toNat_ofNat];omega)) ?_;repeat'(first|refine bE ?_|intro b;conv=>whnf)
  refine Ot.yd (cW (r:=wV (BitVec.ofNat 32 d0 <<< 24)) rfl rfl rfl (λw=>kF _ .u64 24 (by decide))) ?_;repeat'(first|refine bE ?_|intro b;conv=>whnf)
  refine Ot.yd (xr (m:=(((BitVec.ofNat 32 d1).toNat:Nat):Int)) rfl rfl underlying5 underlying372 (by rw[IntKind.wrap_u32,BitVec.toNat_ofNat];omega)) ?_;repeat'(first|refine bE ?_|intro b;conv=>whnf)
  refine Ot.yd (cW (r:=wV (BitVec.ofNat 32 d1 <<< 16)) rfl rfl rfl (λw=>kF _ .u64 16 (by decide))) ?_;repeat'(first|refine bE ?_|intro b;conv=>whnf)
  refine Ot.yd (cW (r:=wV (BitVec.ofNat 32 d0 <<< 24 |||BitVec.ofNat 32 d1 <<< 16)) rfl rfl rfl (λw=>sb _ _)) ?_;repeat'(first|refine bE ?_|intro b;conv=>whnf)
  refine Ot.yd (xr (m:=(((BitVec.ofNat 32 d2).toNat:Nat):Int)) rfl rfl underlying5 underlying372 (by rw[IntKind.wrap_u32,BitVec.toNat_ofNat];omega)) ?_;repeat'(first|refine bE ?_|intro b;conv=>whnf)
  refine Ot.yd (cW (r:=wV (BitVec.ofNat 32 d2 <<< 8)) rfl rfl rfl (λw=>kF _ .u64 8 (by decide))) ?_;repeat'(first|refine bE ?_|intro b;conv=>whnf)
  refine Ot.yd (cW (r:=wV (BitVec.ofNat 32 d0 <<< 24 |||BitVec.ofNat 32 d1 <<< 16 |||BitVec.ofNat 32 d2 <<< 8)) rfl rfl rfl (λw=>sb _ _)) ?_;repeat'(first|refine bE ?_|intro b;conv=>whnf)
  refine Ot.yd (xr (m:=(((BitVec.ofNat 32 d3).toNat:Nat):Int)) rfl rfl underlying5 underlying372 (by rw[IntKind.wrap_u32,BitVec.toNat_ofNat];omega)) ?_;repeat'(first|refine bE ?_|intro b;conv=>whnf)
  refine Ot.yd (cW (r:=wV (BitVec.ofNat 32 d0 <<< 24 |||BitVec.ofNat 32 d1 <<< 16 |||BitVec.ofNat 32 d2 <<< 8 |||BitVec.ofNat 32 d3)) rfl rfl rfl (λw=>sb _ _)) ?_;repeat'(first|refine bE ?_|intro b;conv=>whnf)
  rw[zp];refine Ot.yd (jr ai (m:=t) (q:=t) rfl rfl rfl rfl rfl (by omega) (by omega) (xD _)) ?_;repeat'(first|refine bE ?_|intro b;conv=>whnf)
  refine Sv.cellm (zH _) (by rw[f];omega) rfl (k _) ?_;exact L0
 .obtain rfl:t=16:=by omega
  clear a
  repeat' first|refine bE ?_|intro b;conv=>whnf
  refine aR mixed ai (γ:=Nat) (λt=>[(5,iD t)]) (λt=>[(b,.cells 375 (wc (bJ y t))),(b2,.cells 375 (wc []))]) (λt=>16<=t/\t<=64) (λt=>64-t) 16 (aj av) (Sc.refl _) (by decide) ?_;rintro t ⟨o,ht⟩;have a:=JL y t;by_cases h64:t<64
  .have g:∀i,i<t->(wc (bJ y t))[i]?=some (wD ((bJ y t).getD i 0)):=λi hi=>M9 (by omega);have hn:=NR (b:=y) (t:=t) (by omega);have k:=λx=>rH (l:=bJ y t) (by omega) x;rw[a]at k;have f:=zt (l:=bJ y t) (by omega);generalize bJ y t=l at *
   repeat' first|refine bE ?_|intro b;conv=>whnf
   refine Ot.yd (jr ai (m:=t-15) (q:=t-15) rfl rfl rfl rfl rfl (by omega) (by omega) (xD _)) ?_;repeat'(first|refine bE ?_|intro b;conv=>whnf)
   refine Ld.cellm (tb:=375) (List.Mem.head _) (g (t-15) (by omega)) ?_;repeat'(first|refine bE ?_|intro b;conv=>whnf)
   refine Ot.yd (jr ai (m:=t-15) (q:=t-15) rfl rfl rfl rfl rfl (by omega) (by omega) (xD _)) ?_;repeat'(first|refine bE ?_|intro b;conv=>whnf)
   refine Ld.cellm (tb:=375) (List.Mem.head _) (g (t-15) (by omega)) ?_;repeat'(first|refine bE ?_|intro b;conv=>whnf)
   refine Ot.yd (cW (r:=wV (ez (l.getD (t-15) 0) 7 ^^^ ez (l.getD (t-15) 0) 18)) rfl rfl rfl (λw=>yu _ _)) ?_;repeat'(first|refine bE ?_|intro b;conv=>whnf)
   refine Ot.yd (jr ai (m:=t-15) (q:=t-15) rfl rfl rfl rfl rfl (by omega) (by omega) (xD _)) ?_;repeat'(first|refine bE ?_|intro b;conv=>whnf)
   refine Ld.cellm (tb:=375) (List.Mem.head _) (g (t-15) (by omega)) ?_;repeat'(first|refine bE ?_|intro b;conv=>whnf)
   refine Ot.yd (cW (r:=wV (l.getD (t-15) 0 >>> 3)) rfl rfl rfl (λw=>pD _ .u64 3 (by decide))) ?_;repeat'(first|refine bE ?_|intro b;conv=>whnf)
   refine Ot.yd (cW (r:=wV (iu (l.getD (t-15) 0))) rfl rfl rfl (λw=>yu _ _)) ?_;repeat'(first|refine bE ?_|intro b;conv=>whnf)
   refine Ot.yd (jr ai (m:=t-2) (q:=t-2) rfl rfl rfl rfl rfl (by omega) (by omega) (xD _)) ?_;repeat'(first|refine bE ?_|intro b;conv=>whnf)
   refine Ld.cellm (tb:=375) (List.Mem.head _) (g (t-2) (by omega)) ?_;repeat'(first|refine bE ?_|intro b;conv=>whnf)
   refine Ot.yd (jr ai (m:=t-2) (q:=t-2) rfl rfl rfl rfl rfl (by omega) (by omega) (xD _)) ?_;repeat'(first|refine bE ?_|intro b;conv=>whnf)
   refine Ld.cellm (tb:=375) (List.Mem.head _) (g (t-2) (by omega)) ?_;repeat'(first|refine bE ?_|intro b;conv=>whnf)
   refine Ot.yd (cW (r:=wV (ez (l.getD (t-2) 0) 17 ^^^ ez (l.getD (t-2) 0) 19)) rfl rfl rfl (λw=>yu _ _)) ?_;repeat'(first|refine bE ?_|intro b;conv=>whnf)
   refine Ot.yd (jr ai (m:=t-2) (q:=t-2) rfl rfl rfl rfl rfl (by omega) (by omega) (xD _)) ?_;repeat'(first|refine bE ?_|intro b;conv=>whnf)
   refine Ld.cellm (tb:=375) (List.Mem.head _) (g (t-2) (by omega)) ?_;repeat'(first|refine bE ?_|intro b;conv=>whnf)
   refine Ot.yd (cW (r:=wV (l.getD (t-2) 0 >>> 10)) rfl rfl rfl (λw=>pD _ .u64 10 (by decide))) ?_;repeat'(first|refine bE ?_|intro b;conv=>whnf)
   refine Ot.yd (cW (r:=wV (kA (l.getD (t-2) 0))) rfl rfl rfl (λw=>yu _ _)) ?_;repeat'(first|refine bE ?_|intro b;conv=>whnf)
   refine Ot.yd (jr ai (m:=t-16) (q:=t-16) rfl rfl rfl rfl rfl (by omega) (by omega) (xD _)) ?_;repeat'(first|refine bE ?_|intro b;conv=>whnf)
   refine Ld.cellm (tb:=375) (List.Mem.head _) (g (t-16) (by omega)) ?_;repeat'(first|refine bE ?_|intro b;conv=>whnf)
   refine Ot.yd (cW (r:=wV (l.getD (t-16) 0+iu (l.getD (t-15) 0))) rfl rfl rfl (λw=>l4 _ _)) ?_;repeat'(first|refine bE ?_|intro b;conv=>whnf)
   refine Ot.yd (jr ai (m:=t-7) (q:=t-7) rfl rfl rfl rfl rfl (by omega) (by omega) (xD _)) ?_;repeat'(first|refine bE ?_|intro b;conv=>whnf)
   refine Ld.cellm (tb:=375) (List.Mem.head _) (g (t-7) (by omega)) ?_;repeat'(first|refine bE ?_|intro b;conv=>whnf)
   refine Ot.yd (cW (r:=wV (l.getD (t-16) 0+iu (l.getD (t-15) 0)+l.getD (t-7) 0)) rfl rfl rfl (λw=>l4 _ _)) ?_;repeat'(first|refine bE ?_|intro b;conv=>whnf)
   refine Ot.yd (cW (r:=wV (l.getD (t-16) 0+iu (l.getD (t-15) 0)+l.getD (t-7) 0+kA (l.getD (t-2) 0))) rfl rfl rfl (λw=>l4 _ _)) ?_;repeat'(first|refine bE ?_|intro b;conv=>whnf)
   refine Ot.yd (jr ai (m:=t) (q:=t) rfl rfl rfl rfl rfl (by omega) (by omega) (xD _)) ?_;repeat'(first|refine bE ?_|intro b;conv=>whnf)
   refine Sv.cellm (zH _) (by rw[f];exact h64) rfl (k _) ?_;exact L0
  .obtain rfl:t=64:=by omega
   have j:=Ga a;generalize bJ y 64=l at *
   repeat' first|refine bE ?_|intro b;conv=>whnf
   refine Ld.mem (tb:=375) (cs:=wc l) (d:=oE l) (List.Mem.head _) (by rw[j,zL,a];decide) (by rw[j];unfold oE;rw[oD a];simp only[nx,List.drop_zero];rw[yL (by simp[a])];rfl) ?_;unfold oE
   repeat' first|refine bE ?_|intro b;conv=>whnf
   refine Sv.perm (cs':=(List.range 64).map λi=>wD (l.getD i 0)) (List.Perm.swap _ _ _) rfl (by decide) rfl rfl ?_
   repeat' first|refine bE ?_|intro b;conv=>whnf
   exact Rt.pure rfl
end
section
open Go
theorem IG:∀n∈eB,n<4294967296:=by decide
theorem IJ{i n:Nat}(h:eB[i]?=some n):wV (C5 i)= .int .u32 (n:Int):=by
 have a:=IG n (zG h);unfold C5 wV;rw[List.getD_eq_getElem?_getD,h,Option.getD_some,BitVec.toNat_ofNat,wO a]
theorem II{i:Nat}(h:i<64):∃n,eB[i]?=some n:=⟨_,zD (by show i<64;exact h)⟩
section
variable {ρ:Operand->D} {σ:af}
theorem RD{o:Oper}{x:Operand}{j:Nat}(c:j<64)(a:o.op= .load 372 x)(hx:ρ x= .v (.pointer (some ⟨2,j,none⟩))):Yd prog o ρ σ (wD (C5 j)):=by
 intro w X η h t;obtain⟨dst,f,y,pos,e,g⟩:=o;simp only at a;subst a;have p:=(h x (by simp[Op.operands])).val hx;obtain⟨d,i⟩:=MQ (ai 372 _ rfl) w;obtain⟨n,b⟩:=II c;refine dE (s:=Instr.loadAt 372 (η x)) (u:=wV (C5 j)) ?_ (Ex.refl w) (.v _);rw[p];exact QZ d (by rw[IJ b];exact t.gok.rc j n b)
end
end
section
open Go
theorem bc6{P:Program}{σ:af}{ρ:Operand->D}{T:TypeId->Option TI}(g:∀t i,T t=some i->aE P t=some i){o:Oper}{t:TypeId}{x a:Operand}{b f n:Nat}{kk:IntKind}{j:Int}{k:Bool}{i:TI}(c:o.op= .indexAddr t x a)(hx:ρ x= .v (.pointer (some ⟨b,f,none⟩)))(d:ρ a= .v (.int kk j))(h:T t=some i)(e:i.arr=some (n,k,1))(l:0<=j)(m:j.toNat<n):Yd P o ρ σ (.v (.pointer (some ⟨b,f+j.toNat,none⟩))):=
 jr g c hx d h e (by omega) m rfl
end
section
open Go
def jg(m:Nat):List Nat:=(n6 (nb m) m).reverse
theorem aK9(m:Nat):(jg m).length=nb m:=by unfold jg;rw[List.length_reverse,yy]
def vS:=@List.getElem?_reverse
theorem aL0{m i:Nat}(h:i<nb m):(jg m)[i]?=some (m/256 ^ i%256):=by
 unfold jg;rw[vS (by rw[yy];exact h),yy,aQ6 _ _ _ (by omega)]
 congr 3
 congr 1
 omega
theorem aA4{m q:Nat}:0<m/256 ^ q↔q<nb m:=by
 rw[Nat.pos_iff_ne_zero,Ne,Cy];omega
section
variable {P:Program} {t:TypeId} {p q:Operand} {w:World}
theorem br4{d:Nat}(h:d<256):(do eqGuard .sub t p q (.int .u8 255) (.int .u8 (d:Int));binOp .sub t (.int .u8 255) (.int .u8 (d:Int))).run P w= .ok (.int .u8 ((ij true d:Nat):Int)) w:=by
 show Result.ok (Value.int .u8 (IntKind.u8.wrap _)) w=_;have e:IntKind.u8.wrap (255-(d:Int))=((ij true d:Nat):Int):=by
  rw[IntKind.wrap_u8];unfold ij;rw[if_pos rfl];omega
 rw[e]
end
theorem cl2{p:Prop}(h:p:=by rw[Nat.pow_zero,Nat.div_one];exact(aj (by repeat(first|exact o7.nil|refine o7.cons rfl ?_|(refine o7.cons (zM (λn=>some (iD n)) ?h) ?_;(case h=>(first|omega|((try simp only[zL,zR,zI,List.length_cons,List.length_nil,zY,Nat.reduceAdd]);omega)))))))):p:=h
theorem cl3{p:Prop}(h:p:=by rw[xC,hrg];simp only[Option.toList_some,yB,List.map_cons,List.map_nil]):p:=h
theorem aQ{p:Prop}(h:p:=by repeat(first|exact o7.nil|refine o7.cons rfl ?_)):p:=h
theorem cl5{p:Prop}(h:p:=by rw[xC,hd];simp only[Option.toList_some,yB,List.map_cons,List.map_nil,List.cons_append];try simp only[hfl hneg]):p:=h
theorem cq2{p:Prop}(h:p:=by
 refine aR mixed ai (γ:=Nat×Value×af) (λg=>[(3,iD ((m/256 ^ g.1:Nat):Int)),(4,.v g.2.1)]) (λg=>g.2.2) (λg=>g.1<=nb m/\RY ((jg m).take g.1) g.2.1 g.2.2) (λg=>nb m-g.1) (0,.slice none 0 0,[]) cl2 (Sc.refl _) ⟨zW _,ae.nil _ _⟩ ?_;rintro⟨j,v,s⟩ ⟨hj,hrow⟩;simp only at hj hrow⊢;have hrl:=aK9 m;by_cases hjl:j<nb m
 .have hg:=aA4.2 hjl;have hrg:=aL0 (m:=m) hjl;have hnx:m/256 ^ (j+1)=m/256 ^ j/256:=by rw[Nat.pow_succ,Nat.div_div_eq_div_mul]
  have hlt:m/256 ^ j<=m:=Nat.div_le_self _ _;have hrow2:ae 5 1 (((jg m).take j).map yC) v s:=hrow;generalize m/256 ^ j=g at *
  repeat refine ao ?_
  refine Ot.yd (xr (m:=((g%256:Nat):Int)) rfl rfl underlying3 underlying5 (by rw[IntKind.wrap_u8,Int.tmod_eq_emod_of_nonneg (by omega)];omega)) ?_
  repeat refine ao ?_
  refine Ap.go rfl rfl rfl rfl hrow2 (by simp:s.Perm (s++[])) rfl (zs:=((jg m).take (j+1)).map yC) cl3 (by simp;omega) (by simp;omega) (λs'=>s') (λs'=>by simp) (λa' c' s' hr'=>?_);have htd:((g:Int)).tdiv 256=((g/256:Nat):Int):=by rw[Int.tdiv_eq_ediv_of_nonneg (by omega)];omega
  repeat refine ao ?_
  refine Sd.go ⟨by decide,by rw[htd];exact⟨by omega,by omega⟩⟩ ?_;rw[htd]
  repeat refine ao ?_
  exact⟨(j+1,_,s'),(by simp only[hnx];exact(aj aQ)),Sc.refl _,⟨by simp only;omega,hr'⟩,by simp only;omega⟩
 .obtain rfl:j=nb m:=by omega
  have hg:¬ 0<m/256 ^ nb m:=λh=>by have:=aA4.1 h;omega
  have hg0:m/256 ^ nb m=0:=Nat.eq_zero_of_not_pos hg;rw[hg0];rw[yL (by omega)]at hrow;have hrd:ae 5 1 ((jg m).map yC) v s:=hrow;obtain⟨a0,c0,rfl⟩:=hrd.slice;rw[zL,hrl]at hrd⊢
  repeat refine ao ?_
  refine Ot.yd (xr (m:=((ij neg (128+nb m):Nat):Int)) rfl rfl underlying3 underlying5 (by rw[IntKind.wrap_u8,hneg];unfold ij;simp;omega)) ?_
  repeat refine ao ?_
  refine Ap.go rfl rfl rfl rfl (ae.nil 5 1) (τ:=s) (zH s) rfl (zs:=[yC (ij neg (128+nb m))]) rfl (by simp) (by simp) (λs'=>s'++s) (λs'=>zH _) (λa' c' so hro=>?_)
  repeat refine ao ?_
  refine xg (i:=4) (d':=AH (jg m)) (τ:=so) rfl (λh=>by cases h) (Vs.row hrd yT) ?_;refine aR mixed ai (γ:=Nat×Value×af) (λg=>[(6,.v g.2.1),(7,iD ((nb m:Int)-1-g.1))]) (λg=>g.2.2) (λg=>g.1<=nb m/\RY (ij neg (128+nb m)::((n6 (nb m) m).take g.1).map (ij neg)) g.2.1 g.2.2) (λg=>nb m-g.1) (0,_,so) (aj av) (Sc.refl _) ⟨zW _,hro⟩ ?_;clear hro hrd;rintro⟨j,v,s⟩ ⟨hj,hrow⟩;simp only at hj hrow⊢;have hdl:(n6 (nb m) m).length=nb m:=yy _ _;by_cases hjl:j<nb m
  .have hd:=aQ6 (nb m) m j hjl;obtain⟨i,hi⟩:∃i:Nat,nb m-1-j=i:=⟨_,rfl⟩
   have hi2:(nb m:Int)-1-j=(i:Int):=by omega
   rw[hi]at hd;rw[hi2];have hrg:=aL0 (m:=m) (i:=i) (by omega);have hrg':(jg m)[((i:Nat):Int).toNat]?=some (m/256 ^ i%256):=hrg;have hrl:=aK9 m;have hrow2:ae 5 1 ((ij neg (128+nb m)::((n6 (nb m) m).take j).map (ij neg)).map yC) v s:=hrow;have hlt:m/256 ^ i%256<256:=vM _ (by decide);generalize m/256 ^ i%256=d at *;have hfl:neg=false->ij neg d=d:=λh=>by rw[h];rfl
   repeat refine ao ?_
   first|(refine Ot.yd (cW (r:=.int .u8 ((ij neg d:Nat):Int)) rfl rfl rfl (λw=>by rw[hneg];exact br4 hlt)) ?_;repeat'(first|refine ao ?_))|skip
   refine Ap.go rfl rfl rfl rfl hrow2 (by simp:s.Perm (s++[])) rfl (zs:=(ij neg (128+nb m)::((n6 (nb m) m).take (j+1)).map (ij neg)).map yC) cl5 (by simp;omega) (by simp;omega) (λs'=>s') (λs'=>by simp) (λa' c' s' hr'=>?_)
   repeat refine ao ?_
   exact⟨(j+1,_,s'),(aj av),Sc.refl _,⟨by simp only;omega,hr'⟩,by simp only;omega⟩
  .obtain rfl:j=nb m:=by omega
   repeat refine ao ?_
   rw[yL (by rw[yy];exact zT _)]at hrow;exact Rt.same ⟨_,rfl,hrow⟩):p:=h
theorem pM(n:Int)(k:cB n):az prog 274 [iD n] [] (λd s=>∃v,d= .v v/\RY (bH n) v s):=by
 have h1:=k.lo;have h2:=k.hi;have l:=qt k;have f:=aZ4 l;by_cases h0:n<0
 .obtain⟨m,a⟩:∃m,m=zc n:=⟨_,rfl⟩
  rw[←a]at l f;obtain⟨neg,hneg⟩:∃b,b=true:=⟨_,rfl⟩
  have E:bH n=ij neg (128+nb m)::(n6 (nb m) m).map (ij neg):=by unfold bH;rw[a,hneg,yJ h0]
  have e:-1-n=(m:Int):=by rw[a];unfold zc;rw[if_pos h0];omega
  rw[E];refine cP func274 ntmps274 λo=>?_
  repeat refine ao ?_
  rw[e];exact cq2
 .obtain⟨m,a⟩:∃m,m=zc n:=⟨_,rfl⟩
  rw[←a]at l f;obtain⟨neg,hneg⟩:∃b,b=false:=⟨_,rfl⟩
  have E:bH n=ij neg (128+nb m)::(n6 (nb m) m).map (ij neg):=by unfold bH;rw[a,hneg,yE h0]
  have e:n=(m:Int):=by rw[a];unfold zc;rw[if_neg h0];omega
  rw[E];clear a E;subst e;refine cP func274 ntmps274 λo=>?_
  repeat refine ao ?_
  exact cq2
end
section
open Go
section
variable {P:Program} {t:TypeId} {p q:Operand} {w:World}
end
end
section
open Go
def KE(n:Int):Prop:=-9223372036854775808<=n/\n<=9223372036854775807
def Hy(a:Int):Int:=if a<0 then -(a+1)else a
def PR(a n:Int):Int:=if n<1 then 0 else(Hy a).tmod n
def aw(xs:List Int)(i n:Int):Int:=if i<0\/xs.length<=i then 0 else PR (xs.getD i.toNat 0) n
theorem EK(a n:Int):0<=PR a n/\(1<=n->PR a n<n)/\(n<1->PR a n=0):=by
 unfold PR;have p:0<=Hy a:=by unfold Hy;split<;>omega
 split
 .exact⟨by omega,λh=>by omega,λ_=>rfl⟩
 .refine⟨Int.tmod_nonneg _ p,λh=>Int.tmod_lt_of_pos _ (by omega),λh=>by omega⟩
theorem de(xs:List Int)(i n:Int):0<=aw xs i n/\(1<=n->aw xs i n<n):=by
 unfold aw;split
 .exact⟨by omega,λh=>by omega⟩
 .have:=EK (xs.getD i.toNat 0) n;exact⟨this.1,this.2.1⟩
theorem qe(a n:Int)(b:KE a):APure prog 19 [iD a,iD n] (iD (PR a n)):=by
 obtain⟨h1,h2⟩:=b;refine ap func19 ntmps19 λe=>?_
 repeat' first|refine ao ?_|(refine aV ?_;constructor<;>intro hc)
 all_goals
  refine Rt.pure (zM iD ?_);unfold PR Hy;simp[*]
def ef(xs:List Int):Prop:=(∀x∈xs,KE x)/\xs.length<=140737488355328
theorem AQ{A B:Prop}(k:B)(h:ar B->A:=by intro q7;(first|refine bC ?_|refine aA ?_|(refine' ah ?hc ?_;(case hc=>exact HA)));exact q7.1):A:=h ⟨k⟩
theorem Q6(xs:List Int)(hx:ef xs)(i n:Int):APure prog 29 [bj xs,iD i,iD n] (iD (aw xs i n)):=by
 have l:=hx.2;by_cases h0:i<0
 .have HA:=True.intro;refine ap func29 ntmps29 λe=>?_
  repeat refine AQ ?_
  refine Rt.pure (zM iD ?_);unfold aw;rw[if_pos (.inl h0)]
 .by_cases h1:i.toNat<xs.length
  .obtain⟨a,b⟩:∃a,xs[i.toNat]?=some a:=⟨_,zD h1⟩
   have HA:=qe a n (hx.1 a (zG b));refine ap func29 ntmps29 λe=>?_
   repeat refine AQ ?_
   refine Rt.pure (zM iD ?_);unfold aw;rw[if_neg (by omega)];simp[List.getD_eq_getElem?_getD,b]
  .have HA:=True.intro;refine ap func29 ntmps29 λe=>?_
   repeat refine AQ ?_
   refine Rt.pure (zM iD ?_);unfold aw;rw[if_pos (by omega)]
abbrev aC(b:Nat)(xs:List Int)(pos:Int):Nat×aB:=(b,.cells 89 [bj xs,iD pos])
abbrev ptr(b:Nat):D:=.v (.pointer (some ⟨b,0,none⟩))
theorem az.imp{P:Program}{f:FuncId}{args:List D}{σ:af}{R a:D->af->Prop}(h:az P f args σ R)(k:∀d s,R d s->a d s):az P f args σ a:=
 ⟨h.ent,λw X vs v b=>(h.run w X vs v b).mono λe j⟨u,d,s,i,c,g⟩=>⟨u,d,s,i,k d s c,g⟩⟩
theorem ev(xs:List Int)(hx:ef xs)(b:Nat)(pos n:Int)(p:0<=pos/\pos<=1000000000):az prog 30 [ptr b,iD n] [aC b xs pos] (λd σ=>d=iD (aw xs pos n)/\σ=[aC b xs (pos+1)]):=by
 have HA:=Q6 xs hx (pos+1-1) n;refine cP func30 ntmps30 λa=>?_
 repeat refine AQ ?_
 refine Rt.same ⟨?_,rfl⟩;rw[show pos+1-1=pos by omega]
theorem EN(xs:List Int)(hx:ef xs)(b:Nat)(pos n:Int)(h:0<=pos/\pos<=1000000000):az prog 30 [ptr b,iD n] [aC b xs pos] (λd σ=>∃r,d=iD r/\(0<=r/\(1<=n->r<n))/\σ=[aC b xs (pos+1)]):=
 (ev xs hx b pos n h).imp λd s⟨c,a⟩=>⟨_,c,de xs pos n,a⟩
end
section
open Go
section
variable {α β:Type}
theorem Qg{l:List α}{f:α->List β}{c:Nat}(h:∀x∈l,(f x).length<=c):(l.flatMap f).length<=l.length*c:=by
 induction l with
 |nil=>simp
 |cons x l i=>
  have d:=h x yN;have b:=i (λy a=>h y (yQ _ a));rw[List.flatMap_cons,zI,List.length_cons,vC];omega
theorem aF2{l:List α}{f:α->List β}{i:Nat}{x:α}(h:l[i]?=some x):(l.take (i+1)).flatMap f=(l.take i).flatMap f++f x:=by
 rw[xC,h];simp
end
theorem th{l:List Int}(h:∀v∈l,cB v)(n:cB l.length):(dX l).length<=9+l.length*9:=by
 unfold dX;rw[zI];have b:=Ft n;have a:=Qg (f:=bH) (l:=l) (c:=9) (λx hx=>Ft (h x hx));omega
structure E7(w:List (List (List Int))):Prop where
 k:w.length<=20
 n:∀l∈w,l.length<=20
 f:∀l∈w,∀r∈l,r.length<=60
 v:∀l∈w,∀r∈l,∀v∈r,cB v
theorem ri{n:Nat}(h:n<=1000000):cB n:=⟨by omega,by omega⟩
theorem E7.wd{w:List (List (List Int))}(h:E7 w):WdR w:=
 ⟨ri (by have:=h.k;omega),λl a=>ri (by have:=h.n l a;omega),λl a r b=>ri (by have:=h.f l a r b;omega),h.v⟩
theorem E7.l{w:List (List (List Int))}(h:E7 w){l:List (List Int)}(b:l∈w):∀r∈l,(dX r).length<=549:=λr a=>by
 have c:=h.f l b r a;have:=th (h.v l b r a) (ri (by omega));omega
theorem E7.kl{w:List (List (List Int))}(h:E7 w):∀l∈w,(wp l).length<=10989:=λl a=>by
 unfold wp;rw[zI];have e:=h.n l a;have d:=Ft (n:=(l.length:Int)) (ri (by omega));have b:=Qg (f:=dX) (l:=l) (c:=549) (h.l a);omega
theorem E7.len{w:List (List (List Int))}(h:E7 w):(XK w).length<=300000:=by
 unfold XK;rw[zI];have d:=h.k;have b:=Ft (n:=(w.length:Int)) (ri (by omega));have a:=Qg (f:=wp) (l:=w) (c:=10989) h.kl;omega
end
section
open Go
theorem ba9{P:Program}{f:FuncId}{args:List D}{l:List Nat}(h:az P f args [] (λd s=>∃v,d= .v v/\RY l v s)):APure P f args (AH l):=
 APure.of_call (az.vs (az.imp h λd s⟨v,a,r⟩=>by rw[a];exact Rt.vs (Vs.row (τ:=[]) r (by simp))))
theorem Hs{n:Int}(h:cB n):APure prog 274 [iD n] (AH (bH n)):=ba9 (pM n h)
end
section
open Go
end
section
open Go
theorem pn{c k:Nat}{l:List Nat}(a:l.length<=c)(h:c*k<=140737488355328):(l.map yC).length*k<=140737488355328:=by rw[zL];exact xH (xZ _ a) h
theorem KP{l:List Nat}(h:l.length<=1000000):(l.map yC).length<=1000000000:=by rw[zL];omega
theorem AP{A B:Prop}(k:B)(h:ar B->A:=by intro q7;(first|refine bC ?_|refine aA ?_|(refine' ah ?hc ?_;(case hc=>exact Hs HX)));exact q7.1):A:=h ⟨k⟩
theorem Hr(l:List Int)(hl:l.length<=1000)(h:∀v∈l,cB v):az prog 265 [bj l] [] (λd s=>∃v,d= .v v/\RY (dX l) v s):=by
 refine cP func265 ntmps265 λE=>?_
 repeat refine AP ?_
 refine bc (pM ((l.map λn=>[iD n]).length:Int) (ri (by simp;omega))) (bS _) (λe=>e) da ?_;rintro _ r ⟨q,rfl,b⟩;rw[zL]at b
 repeat refine AP ?_
 refine aR mixed ai (γ:=Nat×Value×af) (λg=>[(4,iD g.1),(3,.v g.2.1)]) (λg=>g.2.2) (λg=>g.1<=l.length/\RY (bH l.length++(l.take g.1).flatMap bH) g.2.1 g.2.2) (λg=>l.length-g.1) (0,q,r) (aj av) (Sc.refl _) ⟨zW _,by simpa using b⟩ ?_;clear b;rintro⟨j,v,s⟩ ⟨hj,w⟩;simp only at hj w⊢;by_cases hjl:j<l.length
 .obtain⟨x,hx⟩:∃x,l[j]?=some x:=⟨_,zD hjl⟩
  have u:l[((j:Nat):Int).toNat]?=some x:=hx;have HX:=h x (zG hx);have t:=Ft HX;have z:=Ft (n:=(l.length:Int)) (ri (by omega));have i:=Qg (f:=bH) (l:=l.take j) (c:=9) (λy hy=>Ft (h y (xG hy)));rw[zR]at i;have a:ae 5 1 ((bH l.length++(l.take j).flatMap bH).map yC) v s:=w;have k:(bH l.length++(l.take (j+1)).flatMap bH).length<=1000000:=by rw[aF2 hx];simp only[zI];omega
  repeat refine AP ?_
  refine Ap.go rfl rfl rfl rfl a (by simp:s.Perm (s++[])) (sH _) (zs:=(bH l.length++(l.take (j+1)).flatMap bH).map yC) (by rw[aF2 hx];simp only[yB,zV]) (pn k (by decide)) (KP k) (λe=>e) (λe=>by simp) (λD C e o=>?_)
  repeat refine AP ?_
  exact⟨(j+1,_,e),(aj av),Sc.refl _,⟨by simp only;omega,o⟩,by simp only;omega⟩
 .obtain rfl:j=l.length:=by omega
  repeat refine AP ?_
  rw[yM]at w;exact Rt.same ⟨_,rfl,w⟩
theorem BI{l:List Int}(a:l.length<=1000)(h:∀v∈l,cB v):APure prog 265 [bj l] (AH (dX l)):=ba9 (Hr l a h)
end
section
open Go
theorem Ak(m k:Nat):((m:Int)).tmod (k:Int)=((m%k:Nat):Int):=(Int.ofNat_tmod m k).symm
theorem R6(m k:Nat):((m:Int)).tdiv (k:Int)=((m/k:Nat):Int):=(Int.ofNat_tdiv m k).symm
section
variable {P:Program} {t:TypeId} {p q:Operand} {w:World}
theorem bs6{n:Nat}(h:n<=1000000000):(do eqGuard .mul t p q (.int .u64 8) (.int .u64 (n:Int));binOp .mul t (.int .u64 8) (.int .u64 (n:Int))).run P w= .ok (.int .u64 ((8*n:Nat):Int)) w:=by
 show Result.ok (Value.int .u64 (IntKind.u64.wrap _)) w=_;have e:IntKind.u64.wrap (8*(n:Int))=((8*n:Nat):Int):=by rw[IntKind.wrap_u64];omega
 rw[e]
end
theorem CZ{n i:Nat}(h:i<8):(qx n)[i]?=some (8*n/2 ^ (56-8*i)%256):=by
 unfold qx;rw[aQ6 _ _ _ h,show 56-8*i=8*(8-1-i) by omega,N9]
theorem ba2(n:Nat):(qx n).length=8:=yy _ _
theorem HZ(n:Nat):∀d∈cx n,d<256:=by
 intro d a;unfold cx at a;rcases zU.1 a with rfl|a
 .decide
 .rcases zO.1 a with h|h
  .rw[(List.mem_replicate.1 h).2];decide
  .exact lj _ _ _ h
theorem N5(y:List Nat)(hl:y.length<=1000000):APure prog 282 [AH y] (AH (y++cx y.length)):=by
 refine ap func282 ntmps282 λM=>?_
 repeat' first|refine ao ?_|intro b;conv=>whnf
 refine Ap.go rfl rfl rfl rfl (ae.e0 _ _ (some ⟨b,0,none⟩)) (bS _) (sH y) (zs:=y.map yC) rfl (pn (c:=1000000) hl (by decide)) (KP hl) (λf=>f) da (λL c1 I t=>?_)
 repeat' first|refine ao ?_|intro b;conv=>whnf
 refine Ap.go rfl rfl rfl rfl t (bS _) rfl (zs:=(y++[128]).map yC) (by rw[yB];rfl) (pn (c:=1000001) (by simp;omega) (by decide)) (by simp;omega) (λf=>f) da (λK J x q=>?_);clear t
 repeat' first|refine ao ?_|intro b;conv=>whnf
 refine aR mixed ai (γ:=Nat×Value×af) (λg=>[(3,.v g.2.1)]) (λg=>g.2.2) (λg=>g.1<=gY y.length/\RY (y++128::List.replicate g.1 0) g.2.1 g.2.2) (λg=>gY y.length-g.1) (0,_,x) (aj av) (Sc.refl _) ⟨zW _,q⟩ ?_;clear q;rintro⟨j,v,s⟩ ⟨hj,e⟩;simp only at hj e⊢;obtain⟨a,c,rfl⟩:=ae.slice e;have C:gY y.length=(119-y.length%64)%64:=rfl;have u:((y++128::List.replicate j 0).map yC).length=y.length+1+j:=by simp;omega
 have o:((((y++128::List.replicate j 0).map yC).length:Int)).tmod 64=(((y.length+1+j)%64:Nat):Int):=by rw[u];exact Ak _ 64
 have l:((y.length+(j+1):Nat):Int).tmod 64=(((y.length+(j+1))%64:Nat):Int):=Ak _ 64
 repeat' first|refine ao ?_|intro b;conv=>whnf
 rw[o];by_cases hjz:j<gY y.length
 .repeat' first|refine ao ?_|intro b;conv=>whnf
  refine Ap.go rfl rfl rfl rfl e (bS _) rfl (zs:=(y++128::List.replicate (j+1) 0).map yC) (by rw[List.replicate_succ'];simp) (pn (c:=1000065) (by simp;omega) (by decide)) (by simp;omega) (λf=>f) da (λF E z k=>?_)
  repeat' first|refine ao ?_|intro b;conv=>whnf
  exact⟨(j+1,_,z),(aj av),Sc.refl _,⟨by simp only;omega,k⟩,by simp only;omega⟩
 .obtain rfl:j=gY y.length:=by omega
  repeat' first|refine ao ?_|intro b;conv=>whnf
  refine Ot.yd (xr (m:=(y.length:Int)) rfl rfl underlying3 underlying367 (by simp only[IntKind.wrap_u64,zL];omega)) ?_
  repeat' first|refine ao ?_|intro b;conv=>whnf
  refine Ot.yd (cW (r:=.int .u64 ((8*y.length:Nat):Int)) rfl rfl rfl (λw=>bs6 (by omega))) ?_
  repeat' first|refine ao ?_|intro b;conv=>whnf
  refine aR mixed ai (γ:=Nat×Value×af) (λg=>[(5,iD g.1),(3,.v g.2.1)]) (λg=>g.2.2) (λg=>g.1<=8/\RY (y++128::(List.replicate (gY y.length) 0++(qx y.length).take g.1)) g.2.1 g.2.2) (λg=>8-g.1) (0,_,s) (aj av) (Sc.refl _) ⟨zW _,by simpa using e⟩ ?_;clear e o l u;rintro⟨i,G,x⟩ ⟨hi,e⟩;simp only at hi e⊢;by_cases hi8:i<8
  .have D:=CZ (n:=y.length) hi8;generalize 8*y.length=m at *
   repeat' first|refine ao ?_|intro b;conv=>whnf
   rw[show(56:Int)-8*(i:Int)=((56-8*i:Nat):Int) by omega];refine Ot.yd (cW (r:=.int .u64 ((m/2 ^ (56-8*i):Nat):Int)) rfl rfl rfl (λw=>kH .u64 m .i64 (56-8*i) (by show _<=64;omega))) ?_
   repeat' first|refine ao ?_|intro b;conv=>whnf
   refine Ot.yd (xr (m:=((m/2 ^ (56-8*i)%256:Nat):Int)) rfl rfl underlying367 underlying5 (by rw[IntKind.wrap_u8];omega)) ?_
   repeat' first|refine ao ?_|intro b;conv=>whnf
   refine Ap.go rfl rfl rfl rfl e (by simp:x.Perm (x++[])) rfl (zs:=(y++128::(List.replicate (gY y.length) 0++(qx y.length).take (i+1))).map yC) (by rw[xC,D];simp) (pn (c:=1000165) (by simp[ba2];omega) (by decide)) (by simp[ba2];omega) (λf=>f) da (λF E z k=>?_)
   repeat' first|refine ao ?_|intro b;conv=>whnf
   exact⟨(i+1,_,z),(aj av),Sc.refl _,⟨by simp only;omega,k⟩,by simp only;omega⟩
  .obtain rfl:i=8:=by omega
   rw[yL (by rw[ba2];exact zT _)]at e
   repeat' first|refine ao ?_|intro b;conv=>whnf
   exact Rt.vs (Vs.row e (bS _))
end
end Go.Proofs.YtilnpcolgcmofaaGreatDoor
