/- A part of the proof: R10 R10b Ro Ls Ya Zb Zc Zd Zk Ze Yb Yc Ha Ec Ye Yf Yg Zf. -/
import Derived.Test.YtilnpcolgcmofaaGreatDoorS10
import Derived.DeepKeys5
import Derived.Scope
set_option maxRecDepth 100000
set_option maxHeartbeats 20000000
set_option linter.all false
namespace Go.Proofs.YtilnpcolgcmofaaGreatDoor
open Tryz
section
open Go
theorem aq{A B:Prop}(k:B)(h:ar B->A:=by intro q7;(first|refine bA ?_|refine aA ?_|(refine' ah ?hc ?_;(case hc=>fail)));exact q7.1):A:=h ⟨k⟩
theorem EA(x:ak)(nm:ByteArray)(hl:x.kz.length<=1000000):APure prog 65 [ax x,sD nm] (iD (bc x nm)):=by
 refine ao func65 ntmps65 λb=>?_
 repeat' first|refine aq ?_|refine a7.mk λy hy=>?_
 refine fW mixed ai (γ:=Nat) (λk=>[(5,iD k)]) (λ_=>[]) (λk=>k<=x.kz.length/\∀i y,i<k->x.kz[i]?=some y->seq y.name nm=false) (λk=>x.kz.length-k) 0 rfl rfl ⟨by omega,by omega⟩ ?_;rintro k ⟨a,hno⟩
 repeat' first|refine aq ?_|refine a7.mk λy hy=>?_|(refine aT ?_;constructor<;>intro hc)
 .refine Rt.pure (zM iD ?_);exact(JP hy ‹_› hno).symm
 .exact XG
 .exact DX
def iA(x:ak)(i j:Int):Bool:=(fieldAt x i j).isSome
theorem al5{x:ak}{i j:Int}(h:i<0\/(x.kz.length:Int)<=i\/j<0):fieldAt x i j=none:=by
 unfold fieldAt dv;by_cases hi:0<=i
 .rw[if_pos hi]
  cases a:x.kz[i.toNat]? with
  |none=>rfl
  |some k=>
   have:=(zE.1 a).1;simp only;rw[if_neg (by omega)]
 .rw[if_neg hi]
theorem JO{x:ak}{i j:Int}{k:au}(b:0<=i)(a:0<=j)(h:x.kz[i.toNat]?=some k):fieldAt x i j=k.fields[j.toNat]?:=by
 unfold fieldAt dv;rw[if_pos b,h];simp only;rw[if_pos a]
theorem X5{p:Prop}(h:p:=by
 rintro q ⟨hq,hno⟩
 repeat' first|refine aq ?_|refine a7.mk λy hy=>?_|(refine aT ?_;constructor<;>intro hc)
 .refine Rt.pure (zM iD ?_);exact(JP hy ‹_› hno).symm
 .exact⟨q+1,rfl,rfl,⟨by omega,λi z hi hz=>by
   by_cases e:i=q
   .subst e;rw[show((i:Int)).toNat=i from rfl,hz]at hy;cases hy;assumption
   .exact hno i z (by omega) hz⟩,by omega⟩
 .refine Rt.pure (zM iD ?_);exact(Y8 λi y hy=>hno i y (by have:=(zE.1 hy).1;omega) hy).symm):p:=h
theorem wM(k:au)(nm:ByteArray)(hl:k.fields.length<=1000000):APure prog 64 [fz k,sD nm] (iD (aZ k nm)):=by
 refine ao func64 ntmps64 λa=>?_
 repeat' first|refine aq ?_|refine a7.mk λy hy=>?_
 refine fW mixed ai (γ:=Nat) (λq=>[(5,iD q)]) (λ_=>[]) (λq=>q<=k.fields.length/\∀i y,i<q->k.fields[i]?=some y->seq y.name nm=false) (λq=>k.fields.length-q) 0 rfl rfl ⟨by omega,by omega⟩ ?_;exact X5
theorem DK{p:Prop}(h:p:=by
 refine Rt.pure (zM bD ?_);simp[iA,al5 (x:=x) (i:=i) (j:=j) (by omega)]):p:=h
theorem aG8(x:ak)(i j:Int):APure prog 63 [ax x,iD i,iD j] (bD (iA x i j)):=by
 refine ao func63 ntmps63 λa=>?_
 repeat' first|refine aq ?_|refine a7.mk λy hy=>?_|(refine aT ?_;constructor<;>intro hc)
 .exact DK
 .exact DK
 .exact DK
 .refine Rt.pure (zM bD ?_);rw[iA,JO (by omega) (by omega) hy];by_cases hlt:j<y.fields.length
  .rw[zD (by omega)];simpa using hlt
  .rw[List.getElem?_eq_none (by omega)];simpa using hlt
theorem E8{x:ak}{i j:Int}{f:am}(h:fieldAt x i j=some f):0<=i/\0<=j/\∃k,x.kz[i.toNat]?=some k/\k.fields[j.toNat]?=some f:=by
 unfold fieldAt dv at h;by_cases hi:0<=i
 .rw[if_pos hi]at h
  cases a:x.kz[i.toNat]? with
  |none=>simp[a]at h
  |some k=>
   simp only[a]at h;by_cases hj:0<=j
   .rw[if_pos hj]at h;exact⟨hi,hj,k,rfl,h⟩
   .rw[if_neg hj]at h;cases h
 .rw[if_neg hi]at h;cases h
theorem Zv{x:ak}{i j:Int}{f:am}{k:au}(a:fieldAt x i j=some f)(h:dv x i=some k):aI x i j=if f.kind=7\/f.kind=8 then wk x i (D' (aZ k f.up) j (fieldAt x i (aZ k f.up)))else if f.kind=1 then refUp x i f else -1:=by
 simp only[aI,a,QQ,h]
theorem L6(k:au)(nm:ByteArray):aZ k nm<k.fields.length:=Fk _ _
theorem aU6(k:au)(nm:ByteArray):-1<=aZ k nm:=CO _ _
theorem Y1(x:ak)(nm:ByteArray):bc x nm<x.kz.length:=Fk _ _
theorem u7(x:ak)(nm:ByteArray):-1<=bc x nm:=CO _ _
theorem Nn{A B:Prop}(k:B)(h:ar B->A:=by intro q7;(first|refine bA ?_|refine aA ?_|(refine' ah ?hc ?_;(case hc=>first|exact aG8 _ _ _|exact EA _ _ (by assumption)|exact wM _ _ (by assumption))));exact q7.1):A:=h ⟨k⟩
theorem PY(x:ak)(i j:Int)(hl:x.kz.length<=1000000)(y:∀k∈x.kz,k.fields.length<=1000000):APure prog 36 [ax x,iD i,iD j] (iD (aI x i j)):=by
 refine ao func36 ntmps36 λz=>?_
 cases a:fieldAt x i j with
 |none=>
  have u:iA x i j=false:=by simp[iA,a]
  repeat' first|refine Nn ?_|intro b;conv=>whnf
  refine Rt.pure (zM iD ?_);simp[aI,a]
 |some f=>
  have u:iA x i j=true:=by simp[iA,a]
  obtain⟨h0,h1,k,n,r⟩:=E8 a;have w:=y k (zG n);have o:dv x i=some k:=by simp[dv,h0,n]
  have t:=L6 k f.up;have U:=Zv a o
  cases l:fieldAt x i (aZ k f.up)with
  |none=>
   have p:aZ k f.up<0:=by
    refine Int.not_le.1 λh=>?_;rw[JO h0 h n,zD (by omega)]at l;cases l
   simp only[l,D',wk]at U
   repeat' first|refine Nn ?_|intro b;conv=>whnf|(refine aT ?_;constructor<;>intro hc)
   all_goals(refine Rt.pure (zM iD ?_);rw[U];unfold refUp;(repeat' split)<;>first|rfl|omega)
  |some g=>
   obtain⟨_,s,q,e,v⟩:=E8 l;obtain rfl:k=q:=by rw[n]at e;exact wK e
   simp only[l,D']at U
   repeat' first|refine Nn ?_|intro b;conv=>whnf|(refine aT ?_;constructor<;>intro hc)
   all_goals(refine Rt.pure (zM iD ?_);rw[U];unfold refUp;(repeat' split)<;>first|rfl|omega|(unfold wk;simp only;unfold refUp;(repeat' split)<;>first|rfl|omega))
end
section
open Go
def EW(l:List Int):List (List D):=l.map λn=>[iD n]
theorem aI3{x:ak}{i:Int}{f:am}(h:f.kind≠6\/bc x f.of<=i):I9 x i f=true:=by
 simp only[I9];rcases h with h|h<;>simp[h]
theorem aI4{x:ak}{i:Int}{f:am}(h:f.kind=6)(a:i<bc x f.of):I9 x i f=false:=by
 simp only[I9,h];simp;omega
theorem aN0(x:ak)(i:Int)(f:am)(o:Nat)(k:au)(a:bc x f.of=o)(h:x.kz[o]?=some k):x6 x i f=tg x o i f k.fields k.fields.length:=by
 rw[←a];exact mq x i f k (by rw[a];simp[dv,h])
theorem bc2(σ:af)(k:Nat):Vs σ (.v (.slice none 0 0)) σ (.sl k []):=Vs.le (gp k)
theorem Nm{A B:Prop}(k:B)(h:ar B->A:=by intro q7;(first|refine bA ?_|refine aA ?_|(refine' ah ?hc ?_;(case hc=>first|exact aG8 _ _ _|exact EA _ _ (by assumption)|exact wM _ _ (by assumption)|exact PY _ _ _ (by assumption) (by assumption))));exact q7.1):A:=h ⟨k⟩
theorem sZ{p:Prop}(h:p:=by
 rw[hno (by omega)];exact Rt.vs (Vs.tup (eX.cons (Vs.refl _ _) (eX.cons (bc2 _ _) (eX.nil _))))):p:=h
theorem aW9(x:ak)(i j:Int)(f:am)(hl:x.kz.length<=1000000)(K:∀k∈x.kz,k.fields.length<=1000000)(C:fieldAt x i j=some f):APure prog 132 [ax x,iD i,iD j] (.tup [iD (ga x i f).1,bi (ga x i f).2]):=by
 refine ao func132 ntmps132 λO=>?_;obtain⟨h0,h1,k,M,I⟩:=E8 C;have G:=Y1 x f.of;have hno:f.kind≠6\/bc x f.of<=i->ga x i f=(-1,[]):=λh=>by unfold ga;rw[aI3 h];rfl
 repeat' first|refine Nm ?_|intro b;conv=>whnf|refine a7.mk λy hy=>?_|(refine aT ?_;constructor<;>intro hc)
 .exact sZ
 .obtain⟨e,rfl⟩:∃e,e=y:=⟨_,rfl⟩
  have l:=hy;clear hy;have L:f.kind=6:=by omega
  have r:=aI4 (x:=x) (i:=i) L (by omega);obtain⟨o,u⟩:=Int.eq_ofNat_of_zero_le (show 0<=bc x f.of by omega);rw[u]at l;have l:x.kz[o]?=some e:=l;have S:ga x i f=((o:Int),tg x o i f e.fields e.fields.length):=by
   unfold ga;rw[r,aN0 x i f o e u l,u];rfl
  have J:=K e (zG l);rw[u];refine fW mixed ai (γ:=Nat×Value×af) (λg=>[(10,.v g.2.1),(12,iD g.1)]) (λg=>(b,.cells 81 (aH f))::g.2.2) (λg=>g.1<=e.fields.length/\ae 3 1 (EW (tg x o i f e.fields g.1)) g.2.1 g.2.2) (λg=>e.fields.length-g.1) (0,.slice none 0 0,[]) rfl rfl ⟨zW _,ae.nil _ _⟩ ?_;rintro⟨q,v,s⟩ ⟨F,w⟩;simp only at F w⊢
  repeat' first|refine Nm ?_|intro b;conv=>whnf|refine a7.mk λy hy=>?_|(refine aT ?_;constructor<;>intro hc)
  .have n:Eh x o i f y q=true:=by simp[Eh,seq, *]
   have t:=as2 x o i f e.fields q y hy;rw[n,if_pos rfl]at t;have D:=aI2 x o i f e.fields (q+1);refine Ap.go rfl rfl rfl rfl w (JU _ _) rfl (zs:=EW (tg x o i f e.fields (q+1))) (by rw[t];simp only[EW,yB];rfl) (by simp[EW];omega) (by simp[EW];omega) (λz=>_::z) (PL _) (λa c z E=>?_)
   repeat' first|refine Nm ?_|intro b;conv=>whnf|refine a7.mk λy hy=>?_
   exact⟨(q+1,_,z),rfl,rfl,⟨by simp only;omega,E⟩,by simp only;omega⟩
  iterate 3
   have n:Eh x o i f y q=false:=by simp[Eh,seq, *]
   have t:=as2 x o i f e.fields q y hy;rw[n,if_neg (by simp),zZ]at t;exact⟨(q+1,v,s),rfl,rfl,⟨by simp only;omega,by simp only;rw[t];exact w⟩,by simp only;omega⟩
  .obtain rfl:q=e.fields.length:=by omega
   rw[S];exact Rt.vs (Vs.tup (eX.cons (Vs.refl _ _) (eX.cons (Vs.row w (JU _ _)) (eX.nil _))))
 .exact sZ
def mS(o:Int):List Int->Int×Int
 |[n]=>(o,n)
 |_=>(-1,-1)
def jk(x:ak)(i j:Int):Int×Int:=match fieldAt x i j with
 |none=>(-1,-1)
 |some f=>mS (ga x i f).1 (ga x i f).2
theorem o7{x:ak}{i j:Int}{f:am}{o:Int}{l:List Int}(h:fieldAt x i j=some f)(s:ga x i f=(o,l)):jk x i j=mS o l:=by
 simp only[jk,h,s]
theorem mR{o:Int}{l:List Int}(h:l.length≠1):mS o l=(-1,-1):=by
 match l,h with
 |[],_=>rfl
 |[a],h=>exact absurd rfl h
 |a::b::r,_=>rfl
theorem Nl{A B:Prop}(k:B)(h:ar B->A:=by intro q7;(first|refine bA ?_|refine aA ?_|(refine' ah ?hc ?_;(case hc=>first|exact aG8 _ _ _|exact HS)));exact q7.1):A:=h ⟨k⟩
theorem pA(x:ak)(i j:Int)(hl:x.kz.length<=1000000)(g:∀k∈x.kz,k.fields.length<=1000000):APure prog 154 [ax x,iD i,iD j] (.tup [iD (jk x i j).1,iD (jk x i j).2]):=by
 refine ao func154 ntmps154 λn=>?_
 cases a:fieldAt x i j with
 |none=>
  have e:iA x i j=false:=by simp[iA,a]
  repeat' first|refine Nl ?_|(refine aT ?_;constructor<;>intro hc)
  exact Rt.pure (by simp only[jk,a])
 |some f=>
  have e:iA x i j=true:=by simp[iA,a]
  have HS:=aW9 x i j f hl g a;rcases hs:ga x i f with⟨o,l⟩
  have r:=o7 a hs;rw[hs]at HS;simp only at HS;by_cases hl1:l.length=1
  .obtain⟨m,rfl⟩:=List.length_eq_one_iff.1 hl1
   repeat' first|refine Nl ?_|(refine aT ?_;constructor<;>intro hc)
   exact Rt.pure (by rw[r];rfl)
  .have b:jk x i j=(-1,-1):=by rw[r,mR hl1]
   repeat' first|refine Nl ?_|(refine aT ?_;constructor<;>intro hc)
   exact Rt.pure (by rw[b])
end
section
open Go Go.Maps Go.MapKept
abbrev RI:fk (List Int):=λl v s=>ae 3 1 (l.map λn=>[iD n]) v s
abbrev P2:fk (List (List Int)):=bw 22 RI
theorem W8:Kg RI bi:=sI _ _ _
theorem OE:Kg P2 fP:=nj W8
theorem JS(l:List Int):((l.map λb=>[iD b]).all λy=>y.all dH)=true:=by rw[yA];intro y h;obtain⟨b,_,rfl⟩:=xM.1 h;rfl
structure Snd(x:ak):Prop where
 no:ef x=[]
 vld:Ms x
 up:∀r∈bL x,0<=r.up/\r.up<r.kind/\r.kind<x.kz.length
theorem za(x:ak)(k i:Int)(h:0<=aI x k i):aI x k i<k:=by
 unfold aI at h⊢;have y:∀f,0<=refUp x k f->refUp x k f<k:=λf h=>by
  unfold refUp at h⊢;split
  .assumption
  .rename_i n;rw[if_neg n]at h;omega
 split
 .rename_i e;rw[e]at h;simp at h
 .rename_i f e;rw[e]at h;simp only at h;split
  .rename_i b;rw[if_pos b]at h
   cases u:QQ x k i f with
   |none=>rw[u]at h;simp[wk]at h
   |some g=>rw[u]at h;exact y g h
  .rename_i b;rw[if_neg b]at h;split
   .rename_i a;rw[if_pos a]at h;exact y f h
   .rename_i a;rw[if_neg a]at h;omega
theorem si{k f r e:Int}(h:one k f r e=[]):e=0:=by
 unfold one at h;split at h
 .assumption
 .cases h
theorem aV5{α:Type}{q:Nat}{g:Nat->List α}(h:ap q g=[])(i:Nat)(a:i<q):g i=[]:=by
 unfold ap at h;rw[List.flatMap_eq_nil_iff]at h;exact h i (xT.2 a)
def vN:=@List.append_eq_nil_iff
theorem Y3{x:ak}(h:ef x=[]){k:Nat}{kd:au}{i:Nat}{f:am}(b:x.kz[k]?=some kd)(c:kd.fields[i]?=some f):¬aZ kd f.name<i/\cJ x k i f=0:=by
 unfold ef at h;split at h
 .simp only[vN]at h;have e:=aV5 h.1.2 k (zE.1 b).1;simp only[dO,b,vN]at e;have d:=aV5 e.2 i (zE.1 c).1;simp only[fi,c]at d;have a:=si d;unfold lT at a;split at a
  .omega
  .exact⟨by assumption,a⟩
 .cases h
theorem uc{x:ak}(h:ef x=[]):fC x=0:=by
 unfold ef at h;split at h
 .assumption
 .cases h
theorem kb{x:ak}(h:ef x=[]):Snd x:=by
 refine⟨h,j5 (uc h),λr d=>?_⟩;obtain⟨kd,f,c,i,g,e,_⟩:=aL3 d;have a:=(Y3 h c i).2;have b:0<=aI x r.kind r.field:=by
  unfold cJ at a;rw[if_neg (by omega),if_neg (by omega),if_pos g]at a;split at a
  .cases a
  .omega
 rw[e];exact⟨b,za x _ _ b,(zE.1 c).1⟩
structure Ws(w:Wd):Prop where
 nk:w.length<=1000
 nr:∀l∈w,l.length<=1000
 nf:∀l∈w,∀r∈l,r.length<=1000
theorem mE{x:ak}(h:Ms x):(bL x).length<=6000:=by
 have b:=fF (λk=>mH x k (λk a=>by have:=h.nf k a;omega)) x.kz.length;have:=h.nk;unfold bL;omega
theorem Cz:laidOutB prog=true:=by kernel_rfl
theorem qy:prog.cellsOf 3=1:=by kernel_rfl
theorem aZ8(n:Nat){a:Int}(h:(Lit.int .i64 a).wf=true):prog.keyLits (n+1) 3 [.int .i64 a]=some [.int .i64 a]:=by
 simp only[Program.keyLits,underlying3,h];simp
theorem aU2:Keyed prog 3:=int_keyed underlying3
theorem sF{a:Int}(h:(Lit.int .i64 a).wf=true):keyOf prog 3 (.int .i64 a)=some (.int .i64 a):=keyOf_int_mk underlying3 h
theorem ic{a:Int}(b:-9223372036854775808<=a)(h:a<=9223372036854775807):(Lit.int .i64 a).wf=true:=by
 have c:IntKind.i64.min= -9223372036854775808:=rfl;have e:IntKind.i64.max=9223372036854775807:=rfl;simp[Lit.wf,c,e,b,h]
def part{α:Type}(x0:α)(xs:List α)(j:Nat):List α:=xs.take j++List.replicate (xs.length-j) x0
theorem Mk.go{T:TypeId->Option TI}{σ:af}{t e:TypeId}{i j:TI}{g:Bool}{a c:Nat}{z:ZV}{K:D->af->Prop}(m:Nat)(r:T t=some i)(q:i.sl=some (e,g,1,a))(p:T e=some j)(o:j.zero=[z])(n:j.size=1)(d:c=m)(f:a*m<=281474976710656)(l:m<=1000000000)
  (k:∀b,W (K (.v (.slice (some ⟨b,0,none⟩) m m)) ((b,.cells e (List.replicate m (.v (zv z))))::σ))):Mk T σ t (.v (.int .i64 c)) (.v (.int .i64 c)) K:=by
 subst d;exact⟨e,i,j,g,a,c,z,r,q,p,o,n,rfl,rfl,f,l,λb=>(k b).h⟩
theorem aZ5:Keyed prog 124:=Keyed.of_law (deep_law_laid Cz (m:=3) (by omega) (wY (by kernel_rfl)) (by kernel_rfl) (by rw[underlying124]))
theorem Cm:prog.keyType 124=true:=by kernel_rfl
def H8(a b c:Int):Value:=.agg #[.int .i64 a,.int .i64 b,.int .i64 c]
theorem m8:prog.cellsOf 124=3:=by kernel_rfl
theorem uY(a b c:Int):(H8 a b c).formed prog 124=true:=by
 simp[H8,Value.formed,underlying124,m8]
theorem qc{a b c:Int}(f:(Lit.int .i64 a).wf=true)(e:(Lit.int .i64 b).wf=true)(d:(Lit.int .i64 c).wf=true):∃l,keyOf prog 124 (H8 a b c)=some l:=by
 unfold keyOf;rw[underlying124];simp only[Cm,uY,Bool.and_self,if_true];have:∃n,prog.types.size=n+1:=⟨prog.types.size-1,by have:0<prog.types.size:=wY (by kernel_rfl);omega⟩
 obtain⟨n,h⟩:=this;rw[h];have:prog.keyLits (n+1+1) 124 (H8 a b c).cells.toList=some [.int .i64 a,.int .i64 b,.int .i64 c]:=by
  unfold Program.keyLits;simp[H8,Value.cells,underlying124,m8,qy,aZ8 n f,aZ8 n e,aZ8 n d]
 rw[this];exact⟨_,rfl⟩
theorem H7{a b c d e f:Int}(h:H8 a b c=H8 d e f):a=d/\b=e/\c=f:=by
 simp only[H8,Value.agg.injEq]at h;have:=zM Array.toList h;simp at this;exact this
theorem pB2(x y z:Value):gw (.agg [.v x,.v y,.v z]) (.agg #[x,y,z]):=λw O u h=>by
 obtain⟨vs,rfl,d⟩:=h.agg_inv;have l:=d.len
 match vs,l with
 |[a,b,c],_=>
  have f:=(d.at_ 0 _ _ rfl rfl).val rfl;have e:=(d.at_ 1 _ _ rfl rfl).val rfl;have q:=(d.at_ 2 _ _ rfl rfl).val rfl;rw[f,e,q]
end
namespace Go
section
variable {P:Program} {b:Frame} {a:Act} {k:List Item} {cs:List Frame} {w:World} {F:Fence} {n:Nat} {Q:Exit->Act->World->Prop}
end
end Go
section
open Go Go.RowKit Go.Shelf
section
variable {P:Program} {r:Option Nat} {n:Nat} {df:Nat} {N:Nat} {σ:af} {f:aM} {a:List D} {T:TypeId->Option TI} {Q:gJ}
end
end
section
open Go
abbrev yD(b:Nat):D:=.v (.int .u8 (b:Int))
abbrev yC(b:Nat):List D:=[yD b]
abbrev Ah(l:List Nat):D:=.sl 1 (l.map yC)
abbrev RY:fk (List Nat):=λl v s=>ae 5 1 (l.map yC) v s
theorem sg(l:List Nat):((l.map yC).all λy=>y.all dH)=true:=by rw[yA];intro y h;obtain⟨b,_,rfl⟩:=xM.1 h;rfl
section
variable {P:Program} {σ:af} {ρ:Operand->D}
theorem wx{o:Oper}{s d:TypeId}{x:Operand}{k k':IntKind}{n m:Int}(b:o.op= .convert s d x)(hx:ρ x= .v (.int k n)){c:TypeDesc}(i:P.underlying s=some c)(f:P.underlying d=some (.int k'))(e:k'.wrap n=m):Yd P o ρ σ (.v (.int k' m)):=by
 intro w X η a t;obtain⟨dst,p,y,pos,j,g⟩:=o;simp only at b;subst b;have h:=(a x (by simp[Op.operands])).val hx;refine dC (s:=convert s d (η x)) (u:=.int k' m) ?_ (Ex.refl w) (.v _);rw[h]
 cases c<;>simp[convert,run_underlying i,run_underlying f,Conv.intToInt,e]
end
theorem NL(j:Nat):2 ^ (8*j)=256 ^ j:=by rw[Nat.pow_mul]
theorem PW{e:TypeId}{k:Nat}{xs:List (List D)}(b:Nat)(h:∀x∈xs,x.length=k)(m:xs.length<=maxLen):ae e k xs (.slice (some ⟨b,0,none⟩) xs.length xs.length) [(b,.cells e xs.flatten)]:=
 ⟨h,.inr ⟨b,xs.length,[],rfl,by simp,zT _,m,by simp,λd a=>by cases a⟩⟩
section
variable {P:Program} {t:TypeId} {p q:Operand} {w:World}
theorem x0{d:Nat}(h:d<256):(do eqGuard .xor t p q (.int .u8 (d:Int)) (.int .u8 0);binOp .xor t (.int .u8 (d:Int)) (.int .u8 0)).run P w= .ok (.int .u8 ((hK false d:Nat):Int)) w:=by
 have a:=AM (P:=P) (t:=t) (p:=p) (q:=q) (w:=w) .u8 .xor (λx y=>x ^^^ y) (.inl ⟨rfl,rfl⟩) rfl d 0 h (by decide);rw[Nat.xor_zero]at a;exact a
end
end
section
open Go
section
variable {P:Program} {t:TypeId} {p q:Operand} {w:World}
end
theorem eV(x:cB)(n:Nat)(h0:0<n)(h:n<32):APure prog 284 [wD x,iD n] (wD (et x n)):=by
 refine ao func284 ntmps284 λa=>?_
 repeat refine aq ?_
 refine Ot.yd (cV (r:=wV (x >>> n)) rfl rfl rfl (λw=>pf x .i64 n (by omega))) ?_
 repeat refine aq ?_
 rw[show(32:Int)-(n:Int)=((32-n:Nat):Int) by omega];refine Ot.yd (cV (r:=wV (x <<< (32-n))) rfl rfl rfl (λw=>km x .i64 (32-n) (by omega))) ?_
 repeat refine aq ?_
 refine Ot.yd (cV (r:=wV (x >>> n |||x <<< (32-n))) rfl rfl rfl (λw=>rR _ _)) ?_
 repeat refine aq ?_
 exact Rt.pure rfl
end
section
open Go
def wc(l:List cB):List D:=l.map wD++List.replicate (64-l.length) (wD 0)
theorem yx{l:List cB}(h:l.length<=64):(wc l).length=64:=by unfold wc;simp;omega
theorem MM{l:List cB}{i:Nat}(h:i<l.length):(wc l)[i]?=some (wD (l.getD i 0)):=by
 unfold wc;rw[yP (by simpa using h),qA,List.getD_eq_getElem?_getD,zD h]
 rfl
theorem ri{l:List cB}(h:l.length<64)(x:cB):(wc l).set l.length (wD x)=wc (l++[x]):=by
 unfold wc;rw[show 64-l.length=(64-(l++[x]).length)+1 by simp;omega,List.replicate_succ,List.set_append_right _ _ (by simp)];simp
theorem FG{l:List cB}(h:l.length=64):wc l=l.map wD:=by unfold wc;rw[h];simp
def og(l:List cB):D:=.agg ((List.range 64).map λi=>wD (l.getD i 0))
def vU:=@List.length_range
theorem XA{p:Prop}(h:p:=by
 refine List.ext_getElem (by simp[h]) λi h1 h2=>?_;simp only[zL,vU]at h1;have h3:i<l.length:=by omega
 simp[List.getD_eq_getElem?_getD,h3]):p:=h
theorem oe{l:List cB}(h:l.length=64):(List.range 64).map (λi=>wD (l.getD i 0))=l.map wD:=XA
theorem Nr{b:List Nat}{t:Nat}(h:¬t<16):bH b (t+1)=bH b t++[(bH b t).getD (t-16) 0+ii ((bH b t).getD (t-15) 0)+(bH b t).getD (t-7) 0+kc ((bH b t).getD (t-2) 0)]:=by
 rw[bH,if_neg h]
theorem jf{P:Program}{σ:af}{ρ:Operand->D}{T:TypeId->Option TI}(p:∀t i,T t=some i->aD P t=some i){o:Oper}{t:TypeId}{x a:Operand}{b f n m q:Nat}{kk:IntKind}{j:Int}{r:Bool}{i:TI}(d:o.op= .indexAddr t x a)(hx:ρ x= .v (.pointer (some ⟨b,f,none⟩)))(k:ρ a= .v (.int kk j))(h:T t=some i)(l:i.arr=some (n,r,1))(g:j=(m:Int))(e:m<n)(c:f+m=q):Yd P o ρ σ (.v (.pointer (some ⟨b,q,none⟩))):=by
 subst c;have:=bN (σ:=σ) p d hx k h l g e
 rwa [Nat.mul_one]at this
end
section
open Go
theorem Z2{l:List Nat}{i d:Nat}(h:l[i]?=some d):l.getD i 0=d:=by rw[List.getD_eq_getElem?_getD,h];rfl
theorem u1x{A B:Prop}(k:B)(h:ar B->A:=by intro q7;(first|((with_reducible refine' Rs.tc ai (m:=0) ?h ?hi ?hj ?hb ?ht ?hag ?hs ?_);(case h=>exact rfl);(case hi=>exact rfl);(case hj=>exact rfl);(case hb=>exact rfl);(case ht=>exact rfl);(case hag=>exact rfl);(case hs=>exact rfl))|((with_reducible refine' mT ai (m:=0) ?h ?hi ?hj ?hb ?ht ?hag ?hs ?_);(case h=>exact rfl);(case hi=>exact rfl);(case hj=>exact rfl);(case hb=>exact rfl);(case ht=>exact rfl);(case hag=>exact rfl);(case hs=>exact rfl))|((with_reducible refine' Rs.c ai (m:=0) ?h ?hj ?hb ?ht ?hag ?hs ?_);(case h=>exact rfl);(case hj=>exact rfl);(case hb=>exact rfl);(case ht=>exact rfl);(case hag=>exact rfl);(case hs=>exact rfl))|((with_reducible refine S2 ?h ?_);(case h=>omega))|((with_reducible refine Br.df ?h ?_);(case h=>omega))|((with_reducible refine Br.t ?h ?_);(case h=>assumption))|((with_reducible refine Br.f ?h ?_);(case h=>assumption))|((with_reducible refine Br.t ?h ?_);(case h=>(refine yJ ?_;omega)))|((with_reducible refine Br.f ?h ?_);(case h=>(refine yE ?_;omega))));exact q7.1):A:=h ⟨k⟩
theorem Q6{A B:Prop}(k:B)(h:ar B->A:=by intro q7;(first|fail|((with_reducible refine' Ot.yd ?hyd ?_);(case hyd=>first|(refine' ai0 ai rfl rfl rfl rfl rfl ?hc ?h0;(case hc=>assumption);(case h0=>omega))|(refine ah9 ai rfl rfl rfl rfl rfl ?_;first|omega|(simp only[zL,zR,zI,List.length_cons,List.length_nil,zY,Nat.reduceAdd];omega))|(refine ai4 ai rfl rfl rfl rfl rfl ?_;omega)|exact ar9 rfl rfl rfl underlying4|exact al7 rfl rfl rfl|exact al8 rfl rfl rfl))|refine u1x ?_);exact q7.1):A:=h ⟨k⟩
theorem GR{A B:Prop}(k:B)(h:ar B->A:=by intro q7;(first|refine Kk ?_|fail|refine Q6 ?_);exact q7.1):A:=h ⟨k⟩
theorem bB{A B:Prop}(k:B)(h:ar B->A:=by intro q7;(first|refine GR ?_|refine aA ?_|(refine' ah ?hc ?_;(case hc=>first|exact eV _ 7 (by decide) (by decide)|exact eV _ 18 (by decide) (by decide)|exact eV _ 17 (by decide) (by decide)|exact eV _ 19 (by decide) (by decide))));exact q7.1):A:=h ⟨k⟩
theorem Lz{p:Prop}(h:p:=by
 repeat' first|refine bB ?_|intro b;conv=>whnf
 exact⟨t+1,(aj aw),by rw[hn];exact Sc.refl _,by omega,by omega⟩):p:=h
theorem A7(y:List Nat)(hb:y.length=64)(e:∀d∈y,d<256):APure prog 283 [Ah y] (og (bH y 64)):=by
 refine ao func283 ntmps283 λF=>?_
 repeat' first|refine bB ?_|intro b;conv=>whnf
 rename_i b2;refine aV mixed ai (γ:=Nat) (λt=>[(4,iD t)]) (λt=>[(b,.cells 375 (wc (bH y t))),(b2,.cells 375 (wc []))]) (λt=>t<=16) (λt=>16-t) 0 (aj aw) (Sc.refl _) (by decide) ?_;intro t ht;have a:=I8 y t;by_cases o:t<16
 .obtain⟨d0,e0⟩:∃d,y[(4*(t:Int)).toNat]?=some d:=⟨_,zD (by omega)⟩
  obtain⟨d1,v⟩:∃d,y[(4*(t:Int)+1).toNat]?=some d:=⟨_,zD (by omega)⟩
  obtain⟨d2,u⟩:∃d,y[(4*(t:Int)+2).toNat]?=some d:=⟨_,zD (by omega)⟩
  obtain⟨d3,s⟩:∃d,y[(4*(t:Int)+3).toNat]?=some d:=⟨_,zD (by omega)⟩
  have E:=e _ (zG e0);have D:=e _ (zG v);have C:=e _ (zG u);have z:=e _ (zG s);have hn:bH y (t+1)=bH y t++[jq d0 d1 d2 d3]:=by
   rw[bH,if_pos o,Z2 (d:=d0) (by rw[←e0];congr 1),Z2 (d:=d1) (by rw[←v];congr 1),Z2 (d:=d2) (by rw[←u];congr 1),Z2 (d:=d3) (by rw[←s];congr 1)]
  have k:=λx=>ri (l:=bH y t) (by omega) x;rw[a]at k;have f:=yx (l:=bH y t) (by omega);generalize bH y t=l at *
  repeat' first|refine bB ?_|intro b;conv=>whnf
  refine Ot.yd (wx (m:=(((BitVec.ofNat 32 d0).toNat:Nat):Int)) rfl rfl underlying5 underlying372 (by rw[IntKind.wrap_u32,BitVec.toNat_ofNat];omega)) ?_;repeat'(first|refine bB ?_|intro b;conv=>whnf)
  refine Ot.yd (cV (r:=wV (BitVec.ofNat 32 d0 <<< 24)) rfl rfl rfl (λw=>km _ .u64 24 (by decide))) ?_;repeat'(first|refine bB ?_|intro b;conv=>whnf)
  refine Ot.yd (wx (m:=(((BitVec.ofNat 32 d1).toNat:Nat):Int)) rfl rfl underlying5 underlying372 (by rw[IntKind.wrap_u32,BitVec.toNat_ofNat];omega)) ?_;repeat'(first|refine bB ?_|intro b;conv=>whnf)
  refine Ot.yd (cV (r:=wV (BitVec.ofNat 32 d1 <<< 16)) rfl rfl rfl (λw=>km _ .u64 16 (by decide))) ?_;repeat'(first|refine bB ?_|intro b;conv=>whnf)
  refine Ot.yd (cV (r:=wV (BitVec.ofNat 32 d0 <<< 24 |||BitVec.ofNat 32 d1 <<< 16)) rfl rfl rfl (λw=>rR _ _)) ?_;repeat'(first|refine bB ?_|intro b;conv=>whnf)
  refine Ot.yd (wx (m:=(((BitVec.ofNat 32 d2).toNat:Nat):Int)) rfl rfl underlying5 underlying372 (by rw[IntKind.wrap_u32,BitVec.toNat_ofNat];omega)) ?_;repeat'(first|refine bB ?_|intro b;conv=>whnf)
  refine Ot.yd (cV (r:=wV (BitVec.ofNat 32 d2 <<< 8)) rfl rfl rfl (λw=>km _ .u64 8 (by decide))) ?_;repeat'(first|refine bB ?_|intro b;conv=>whnf)
  refine Ot.yd (cV (r:=wV (BitVec.ofNat 32 d0 <<< 24 |||BitVec.ofNat 32 d1 <<< 16 |||BitVec.ofNat 32 d2 <<< 8)) rfl rfl rfl (λw=>rR _ _)) ?_;repeat'(first|refine bB ?_|intro b;conv=>whnf)
  refine Ot.yd (wx (m:=(((BitVec.ofNat 32 d3).toNat:Nat):Int)) rfl rfl underlying5 underlying372 (by rw[IntKind.wrap_u32,BitVec.toNat_ofNat];omega)) ?_;repeat'(first|refine bB ?_|intro b;conv=>whnf)
  refine Ot.yd (cV (r:=wV (BitVec.ofNat 32 d0 <<< 24 |||BitVec.ofNat 32 d1 <<< 16 |||BitVec.ofNat 32 d2 <<< 8 |||BitVec.ofNat 32 d3)) rfl rfl rfl (λw=>rR _ _)) ?_;repeat'(first|refine bB ?_|intro b;conv=>whnf)
  rw[yt];refine Ot.yd (jf ai (m:=t) (q:=t) rfl rfl rfl rfl rfl (by omega) (by omega) (xD _)) ?_;repeat'(first|refine bB ?_|intro b;conv=>whnf)
  refine Sv.cellm (zH _) (by rw[f];omega) rfl (k _) ?_;exact Lz
 .obtain rfl:t=16:=by omega
  clear a
  repeat' first|refine bB ?_|intro b;conv=>whnf
  refine aV mixed ai (γ:=Nat) (λt=>[(5,iD t)]) (λt=>[(b,.cells 375 (wc (bH y t))),(b2,.cells 375 (wc []))]) (λt=>16<=t/\t<=64) (λt=>64-t) 16 (aj aw) (Sc.refl _) (by decide) ?_;rintro t ⟨o,ht⟩;have a:=I8 y t;by_cases h64:t<64
  .have g:∀i,i<t->(wc (bH y t))[i]?=some (wD ((bH y t).getD i 0)):=λi hi=>MM (by omega);have hn:=Nr (b:=y) (t:=t) (by omega);have k:=λx=>ri (l:=bH y t) (by omega) x;rw[a]at k;have f:=yx (l:=bH y t) (by omega);generalize bH y t=l at *
   repeat' first|refine bB ?_|intro b;conv=>whnf
   refine Ot.yd (jf ai (m:=t-15) (q:=t-15) rfl rfl rfl rfl rfl (by omega) (by omega) (xD _)) ?_;repeat'(first|refine bB ?_|intro b;conv=>whnf)
   refine Ld.cellm (tb:=375) (List.Mem.head _) (g (t-15) (by omega)) ?_;repeat'(first|refine bB ?_|intro b;conv=>whnf)
   refine Ot.yd (jf ai (m:=t-15) (q:=t-15) rfl rfl rfl rfl rfl (by omega) (by omega) (xD _)) ?_;repeat'(first|refine bB ?_|intro b;conv=>whnf)
   refine Ld.cellm (tb:=375) (List.Mem.head _) (g (t-15) (by omega)) ?_;repeat'(first|refine bB ?_|intro b;conv=>whnf)
   refine Ot.yd (cV (r:=wV (et (l.getD (t-15) 0) 7 ^^^ et (l.getD (t-15) 0) 18)) rfl rfl rfl (λw=>xx _ _)) ?_;repeat'(first|refine bB ?_|intro b;conv=>whnf)
   refine Ot.yd (jf ai (m:=t-15) (q:=t-15) rfl rfl rfl rfl rfl (by omega) (by omega) (xD _)) ?_;repeat'(first|refine bB ?_|intro b;conv=>whnf)
   refine Ld.cellm (tb:=375) (List.Mem.head _) (g (t-15) (by omega)) ?_;repeat'(first|refine bB ?_|intro b;conv=>whnf)
   refine Ot.yd (cV (r:=wV (l.getD (t-15) 0 >>> 3)) rfl rfl rfl (λw=>pf _ .u64 3 (by decide))) ?_;repeat'(first|refine bB ?_|intro b;conv=>whnf)
   refine Ot.yd (cV (r:=wV (ii (l.getD (t-15) 0))) rfl rfl rfl (λw=>xx _ _)) ?_;repeat'(first|refine bB ?_|intro b;conv=>whnf)
   refine Ot.yd (jf ai (m:=t-2) (q:=t-2) rfl rfl rfl rfl rfl (by omega) (by omega) (xD _)) ?_;repeat'(first|refine bB ?_|intro b;conv=>whnf)
   refine Ld.cellm (tb:=375) (List.Mem.head _) (g (t-2) (by omega)) ?_;repeat'(first|refine bB ?_|intro b;conv=>whnf)
   refine Ot.yd (jf ai (m:=t-2) (q:=t-2) rfl rfl rfl rfl rfl (by omega) (by omega) (xD _)) ?_;repeat'(first|refine bB ?_|intro b;conv=>whnf)
   refine Ld.cellm (tb:=375) (List.Mem.head _) (g (t-2) (by omega)) ?_;repeat'(first|refine bB ?_|intro b;conv=>whnf)
   refine Ot.yd (cV (r:=wV (et (l.getD (t-2) 0) 17 ^^^ et (l.getD (t-2) 0) 19)) rfl rfl rfl (λw=>xx _ _)) ?_;repeat'(first|refine bB ?_|intro b;conv=>whnf)
   refine Ot.yd (jf ai (m:=t-2) (q:=t-2) rfl rfl rfl rfl rfl (by omega) (by omega) (xD _)) ?_;repeat'(first|refine bB ?_|intro b;conv=>whnf)
   refine Ld.cellm (tb:=375) (List.Mem.head _) (g (t-2) (by omega)) ?_;repeat'(first|refine bB ?_|intro b;conv=>whnf)
   refine Ot.yd (cV (r:=wV (l.getD (t-2) 0 >>> 10)) rfl rfl rfl (λw=>pf _ .u64 10 (by decide))) ?_;repeat'(first|refine bB ?_|intro b;conv=>whnf)
   refine Ot.yd (cV (r:=wV (kc (l.getD (t-2) 0))) rfl rfl rfl (λw=>xx _ _)) ?_;repeat'(first|refine bB ?_|intro b;conv=>whnf)
   refine Ot.yd (jf ai (m:=t-16) (q:=t-16) rfl rfl rfl rfl rfl (by omega) (by omega) (xD _)) ?_;repeat'(first|refine bB ?_|intro b;conv=>whnf)
   refine Ld.cellm (tb:=375) (List.Mem.head _) (g (t-16) (by omega)) ?_;repeat'(first|refine bB ?_|intro b;conv=>whnf)
   refine Ot.yd (cV (r:=wV (l.getD (t-16) 0+ii (l.getD (t-15) 0))) rfl rfl rfl (λw=>lQ _ _)) ?_;repeat'(first|refine bB ?_|intro b;conv=>whnf)
   refine Ot.yd (jf ai (m:=t-7) (q:=t-7) rfl rfl rfl rfl rfl (by omega) (by omega) (xD _)) ?_;repeat'(first|refine bB ?_|intro b;conv=>whnf)
   refine Ld.cellm (tb:=375) (List.Mem.head _) (g (t-7) (by omega)) ?_;repeat'(first|refine bB ?_|intro b;conv=>whnf)
   refine Ot.yd (cV (r:=wV (l.getD (t-16) 0+ii (l.getD (t-15) 0)+l.getD (t-7) 0)) rfl rfl rfl (λw=>lQ _ _)) ?_;repeat'(first|refine bB ?_|intro b;conv=>whnf)
   refine Ot.yd (cV (r:=wV (l.getD (t-16) 0+ii (l.getD (t-15) 0)+l.getD (t-7) 0+kc (l.getD (t-2) 0))) rfl rfl rfl (λw=>lQ _ _)) ?_;repeat'(first|refine bB ?_|intro b;conv=>whnf)
   refine Ot.yd (jf ai (m:=t) (q:=t) rfl rfl rfl rfl rfl (by omega) (by omega) (xD _)) ?_;repeat'(first|refine bB ?_|intro b;conv=>whnf)
   refine Sv.cellm (zH _) (by rw[f];exact h64) rfl (k _) ?_;exact Lz
  .obtain rfl:t=64:=by omega
   have j:=FG a;generalize bH y 64=l at *
   repeat' first|refine bB ?_|intro b;conv=>whnf
   refine Ld.mem (tb:=375) (cs:=wc l) (d:=og l) (List.Mem.head _) (by rw[j,zL,a];decide) (by rw[j];unfold og;rw[oe a];simp only[m4,List.drop_zero];rw[yL (by simp[a])];rfl) ?_;unfold og
   repeat' first|refine bB ?_|intro b;conv=>whnf
   refine Sv.perm (cs':=(List.range 64).map λi=>wD (l.getD i 0)) (List.Perm.swap _ _ _) rfl (by decide) rfl rfl ?_
   repeat' first|refine bB ?_|intro b;conv=>whnf
   exact Rt.pure rfl
end
section
open Go
theorem Ii:∀n∈ev,n<4294967296:=by decide
theorem Ik{i n:Nat}(h:ev[i]?=some n):wV (CC i)= .int .u32 (n:Int):=by
 have a:=Ii n (zG h);unfold CC wV;rw[List.getD_eq_getElem?_getD,h,Option.getD_some,BitVec.toNat_ofNat,wO a]
theorem Ij{i:Nat}(h:i<64):∃n,ev[i]?=some n:=⟨_,zD (by show i<64;exact h)⟩
section
variable {ρ:Operand->D} {σ:af}
theorem QZ{o:Oper}{x:Operand}{j:Nat}(c:j<64)(a:o.op= .load 372 x)(hx:ρ x= .v (.pointer (some ⟨2,j,none⟩))):Yd prog o ρ σ (wD (CC j)):=by
 intro w X η h t;obtain⟨dst,f,y,pos,e,g⟩:=o;simp only at a;subst a;have p:=(h x (by simp[Op.operands])).val hx;obtain⟨d,i⟩:=Mr (ai 372 _ rfl) w;obtain⟨n,b⟩:=Ij c;refine dC (s:=Instr.loadAt 372 (η x)) (u:=wV (CC j)) ?_ (Ex.refl w) (.v _);rw[p];exact QB d (by rw[Ik b];exact t.gok.rc j n b)
end
end
section
open Go
theorem bb9{P:Program}{σ:af}{ρ:Operand->D}{T:TypeId->Option TI}(g:∀t i,T t=some i->aD P t=some i){o:Oper}{t:TypeId}{x a:Operand}{b f n:Nat}{kk:IntKind}{j:Int}{k:Bool}{i:TI}(c:o.op= .indexAddr t x a)(hx:ρ x= .v (.pointer (some ⟨b,f,none⟩)))(d:ρ a= .v (.int kk j))(h:T t=some i)(e:i.arr=some (n,k,1))(l:0<=j)(m:j.toNat<n):Yd P o ρ σ (.v (.pointer (some ⟨b,f+j.toNat,none⟩))):=
 jf g c hx d h e (by omega) m rfl
end
section
open Go
def iY(m:Nat):List Nat:=(nM (nb m) m).reverse
theorem aK5(m:Nat):(iY m).length=nb m:=by unfold iY;rw[List.length_reverse,x2]
def vS:=@List.getElem?_reverse
theorem aK6{m i:Nat}(h:i<nb m):(iY m)[i]?=some (m/256 ^ i%256):=by
 unfold iY;rw[vS (by rw[x2];exact h),x2,aQ3 _ _ _ (by omega)]
 congr 3
 congr 1
 omega
theorem aA1{m q:Nat}:0<m/256 ^ q↔q<nb m:=by
 rw[Nat.pos_iff_ne_zero,Ne,B1];omega
section
variable {P:Program} {t:TypeId} {p q:Operand} {w:World}
theorem br0{d:Nat}(h:d<256):(do eqGuard .sub t p q (.int .u8 255) (.int .u8 (d:Int));binOp .sub t (.int .u8 255) (.int .u8 (d:Int))).run P w= .ok (.int .u8 ((hK true d:Nat):Int)) w:=by
 show Result.ok (Value.int .u8 (IntKind.u8.wrap _)) w=_;have e:IntKind.u8.wrap (255-(d:Int))=((hK true d:Nat):Int):=by
  rw[IntKind.wrap_u8];unfold hK;rw[if_pos rfl];omega
 rw[e]
end
theorem cl2{p:Prop}(h:p:=by rw[Nat.pow_zero,Nat.div_one];exact(aj (by repeat(first|exact oQ.nil|refine oQ.cons rfl ?_|(refine oQ.cons (zM (λn=>some (iD n)) ?h) ?_;(case h=>(first|omega|((try simp only[zL,zR,zI,List.length_cons,List.length_nil,zY,Nat.reduceAdd]);omega)))))))):p:=h
theorem cl3{p:Prop}(h:p:=by rw[xC,hrg];simp only[Option.toList_some,yB,List.map_cons,List.map_nil]):p:=h
theorem aP{p:Prop}(h:p:=by repeat(first|exact oQ.nil|refine oQ.cons rfl ?_)):p:=h
theorem cl5{p:Prop}(h:p:=by rw[xC,hd];simp only[Option.toList_some,yB,List.map_cons,List.map_nil,List.cons_append];try simp only[hfl hneg]):p:=h
theorem cq2{p:Prop}(h:p:=by
 refine aV mixed ai (γ:=Nat×Value×af) (λg=>[(3,iD ((m/256 ^ g.1:Nat):Int)),(4,.v g.2.1)]) (λg=>g.2.2) (λg=>g.1<=nb m/\RY ((iY m).take g.1) g.2.1 g.2.2) (λg=>nb m-g.1) (0,.slice none 0 0,[]) cl2 (Sc.refl _) ⟨zW _,ae.nil _ _⟩ ?_;rintro⟨j,v,s⟩ ⟨hj,hrow⟩;simp only at hj hrow⊢;have hrl:=aK5 m;by_cases hjl:j<nb m
 .have hg:=aA1.2 hjl;have hrg:=aK6 (m:=m) hjl;have hnx:m/256 ^ (j+1)=m/256 ^ j/256:=by rw[Nat.pow_succ,Nat.div_div_eq_div_mul]
  have hlt:m/256 ^ j<=m:=Nat.div_le_self _ _;have hrow2:ae 5 1 (((iY m).take j).map yC) v s:=hrow;generalize m/256 ^ j=g at *
  repeat refine aq ?_
  refine Ot.yd (wx (m:=((g%256:Nat):Int)) rfl rfl underlying3 underlying5 (by rw[IntKind.wrap_u8,Int.tmod_eq_emod_of_nonneg (by omega)];omega)) ?_
  repeat refine aq ?_
  refine Ap.go rfl rfl rfl rfl hrow2 (by simp:s.Perm (s++[])) rfl (zs:=((iY m).take (j+1)).map yC) cl3 (by simp;omega) (by simp;omega) (λs'=>s') (λs'=>by simp) (λa' c' s' hr'=>?_);have htd:((g:Int)).tdiv 256=((g/256:Nat):Int):=by rw[Int.tdiv_eq_ediv_of_nonneg (by omega)];omega
  repeat refine aq ?_
  refine Sd.go ⟨by decide,by rw[htd];exact⟨by omega,by omega⟩⟩ ?_;rw[htd]
  repeat refine aq ?_
  exact⟨(j+1,_,s'),(by simp only[hnx];exact(aj aP)),Sc.refl _,⟨by simp only;omega,hr'⟩,by simp only;omega⟩
 .obtain rfl:j=nb m:=by omega
  have hg:¬ 0<m/256 ^ nb m:=λh=>by have:=aA1.1 h;omega
  have hg0:m/256 ^ nb m=0:=Nat.eq_zero_of_not_pos hg;rw[hg0];rw[yL (by omega)]at hrow;have hrd:ae 5 1 ((iY m).map yC) v s:=hrow;obtain⟨a0,c0,rfl⟩:=hrd.slice;rw[zL,hrl]at hrd⊢
  repeat refine aq ?_
  refine Ot.yd (wx (m:=((hK neg (128+nb m):Nat):Int)) rfl rfl underlying3 underlying5 (by rw[IntKind.wrap_u8,hneg];unfold hK;simp;omega)) ?_
  repeat refine aq ?_
  refine Ap.go rfl rfl rfl rfl (ae.nil 5 1) (τ:=s) (zH s) rfl (zs:=[yC (hK neg (128+nb m))]) rfl (by simp) (by simp) (λs'=>s'++s) (λs'=>zH _) (λa' c' so hro=>?_)
  repeat refine aq ?_
  refine xz (i:=4) (d':=Ah (iY m)) (τ:=so) rfl (λh=>by cases h) (Vs.row hrd yT) ?_;refine aV mixed ai (γ:=Nat×Value×af) (λg=>[(6,.v g.2.1),(7,iD ((nb m:Int)-1-g.1))]) (λg=>g.2.2) (λg=>g.1<=nb m/\RY (hK neg (128+nb m)::((nM (nb m) m).take g.1).map (hK neg)) g.2.1 g.2.2) (λg=>nb m-g.1) (0,_,so) (aj aw) (Sc.refl _) ⟨zW _,hro⟩ ?_;clear hro hrd;rintro⟨j,v,s⟩ ⟨hj,hrow⟩;simp only at hj hrow⊢;have hdl:(nM (nb m) m).length=nb m:=x2 _ _;by_cases hjl:j<nb m
  .have hd:=aQ3 (nb m) m j hjl;obtain⟨i,hi⟩:∃i:Nat,nb m-1-j=i:=⟨_,rfl⟩
   have hi2:(nb m:Int)-1-j=(i:Int):=by omega
   rw[hi]at hd;rw[hi2];have hrg:=aK6 (m:=m) (i:=i) (by omega);have hrg':(iY m)[((i:Nat):Int).toNat]?=some (m/256 ^ i%256):=hrg;have hrl:=aK5 m;have hrow2:ae 5 1 ((hK neg (128+nb m)::((nM (nb m) m).take j).map (hK neg)).map yC) v s:=hrow;have hlt:m/256 ^ i%256<256:=vM _ (by decide);generalize m/256 ^ i%256=d at *;have hfl:neg=false->hK neg d=d:=λh=>by rw[h];rfl
   repeat refine aq ?_
   first|(refine Ot.yd (cV (r:=.int .u8 ((hK neg d:Nat):Int)) rfl rfl rfl (λw=>by rw[hneg];exact br0 hlt)) ?_;repeat'(first|refine aq ?_))|skip
   refine Ap.go rfl rfl rfl rfl hrow2 (by simp:s.Perm (s++[])) rfl (zs:=(hK neg (128+nb m)::((nM (nb m) m).take (j+1)).map (hK neg)).map yC) cl5 (by simp;omega) (by simp;omega) (λs'=>s') (λs'=>by simp) (λa' c' s' hr'=>?_)
   repeat refine aq ?_
   exact⟨(j+1,_,s'),(aj aw),Sc.refl _,⟨by simp only;omega,hr'⟩,by simp only;omega⟩
  .obtain rfl:j=nb m:=by omega
   repeat refine aq ?_
   rw[yL (by rw[x2];exact zT _)]at hrow;exact Rt.same ⟨_,rfl,hrow⟩):p:=h
theorem pq(n:Int)(k:cA n):az prog 274 [iD n] [] (λd s=>∃v,d= .v v/\RY (bF n) v s):=by
 have h1:=k.lo;have h2:=k.hi;have l:=qb k;have f:=aZ0 l;by_cases h0:n<0
 .obtain⟨m,a⟩:∃m,m=yg n:=⟨_,rfl⟩
  rw[←a]at l f;obtain⟨neg,hneg⟩:∃b,b=true:=⟨_,rfl⟩
  have E:bF n=hK neg (128+nb m)::(nM (nb m) m).map (hK neg):=by unfold bF;rw[a,hneg,yJ h0]
  have e:-1-n=(m:Int):=by rw[a];unfold yg;rw[if_pos h0];omega
  rw[E];refine cU func274 ntmps274 λo=>?_
  repeat refine aq ?_
  rw[e];exact cq2
 .obtain⟨m,a⟩:∃m,m=yg n:=⟨_,rfl⟩
  rw[←a]at l f;obtain⟨neg,hneg⟩:∃b,b=false:=⟨_,rfl⟩
  have E:bF n=hK neg (128+nb m)::(nM (nb m) m).map (hK neg):=by unfold bF;rw[a,hneg,yE h0]
  have e:n=(m:Int):=by rw[a];unfold yg;rw[if_neg h0];omega
  rw[E];clear a E;subst e;refine cU func274 ntmps274 λo=>?_
  repeat refine aq ?_
  exact cq2
end
section
open Go
section
variable {P:Program} {t:TypeId} {p q:Operand} {w:World}
end
end
section
open Go
def qY(n:Int):Prop:=-9223372036854775808<=n/\n<=9223372036854775807
def G7(a:Int):Int:=if a<0 then -(a+1)else a
def LX(a n:Int):Int:=if n<1 then 0 else(G7 a).tmod n
def av(xs:List Int)(i n:Int):Int:=if i<0\/xs.length<=i then 0 else LX (xs.getD i.toNat 0) n
theorem qF(a n:Int):0<=LX a n/\(1<=n->LX a n<n)/\(n<1->LX a n=0):=by
 unfold LX;have p:0<=G7 a:=by unfold G7;split<;>omega
 split
 .exact⟨by omega,λh=>by omega,λ_=>rfl⟩
 .refine⟨Int.tmod_nonneg _ p,λh=>Int.tmod_lt_of_pos _ (by omega),λh=>by omega⟩
theorem dl(xs:List Int)(i n:Int):0<=av xs i n/\(1<=n->av xs i n<n):=by
 unfold av;split
 .exact⟨by omega,λh=>by omega⟩
 .have:=qF (xs.getD i.toNat 0) n;exact⟨this.1,this.2.1⟩
theorem aT3(a n:Int)(b:qY a):APure prog 19 [iD a,iD n] (iD (LX a n)):=by
 obtain⟨h1,h2⟩:=b;refine ao func19 ntmps19 λe=>?_
 repeat' first|refine aq ?_|(refine aT ?_;constructor<;>intro hc)
 all_goals
  refine Rt.pure (zM iD ?_);unfold LX G7;simp[*]
def eB(xs:List Int):Prop:=(∀x∈xs,qY x)/\xs.length<=140737488355328
theorem As{A B:Prop}(k:B)(h:ar B->A:=by intro q7;(first|refine bA ?_|refine aA ?_|(refine' ah ?hc ?_;(case hc=>exact HA)));exact q7.1):A:=h ⟨k⟩
theorem YS(xs:List Int)(hx:eB xs)(i n:Int):APure prog 29 [bi xs,iD i,iD n] (iD (av xs i n)):=by
 have l:=hx.2;by_cases h0:i<0
 .have HA:=True.intro;refine ao func29 ntmps29 λe=>?_
  repeat refine As ?_
  refine Rt.pure (zM iD ?_);unfold av;rw[if_pos (.inl h0)]
 .by_cases h1:i.toNat<xs.length
  .obtain⟨a,b⟩:∃a,xs[i.toNat]?=some a:=⟨_,zD h1⟩
   have HA:=aT3 a n (hx.1 a (zG b));refine ao func29 ntmps29 λe=>?_
   repeat refine As ?_
   refine Rt.pure (zM iD ?_);unfold av;rw[if_neg (by omega)];simp[List.getD_eq_getElem?_getD,b]
  .have HA:=True.intro;refine ao func29 ntmps29 λe=>?_
   repeat refine As ?_
   refine Rt.pure (zM iD ?_);unfold av;rw[if_pos (by omega)]
abbrev aB(b:Nat)(xs:List Int)(pos:Int):Nat×aE:=(b,.cells 89 [bi xs,iD pos])
abbrev ptr(b:Nat):D:=.v (.pointer (some ⟨b,0,none⟩))
theorem az.imp{P:Program}{f:FuncId}{args:List D}{σ:af}{R a:D->af->Prop}(h:az P f args σ R)(k:∀d s,R d s->a d s):az P f args σ a:=
 ⟨h.ent,λw X vs v b=>(h.run w X vs v b).mono λe j⟨u,d,s,i,c,g⟩=>⟨u,d,s,i,k d s c,g⟩⟩
theorem ek(xs:List Int)(hx:eB xs)(b:Nat)(pos n:Int)(p:0<=pos/\pos<=1000000000):az prog 30 [ptr b,iD n] [aB b xs pos] (λd σ=>d=iD (av xs pos n)/\σ=[aB b xs (pos+1)]):=by
 have HA:=YS xs hx (pos+1-1) n;refine cU func30 ntmps30 λa=>?_
 repeat refine As ?_
 refine Rt.same ⟨?_,rfl⟩;rw[show pos+1-1=pos by omega]
theorem El(xs:List Int)(hx:eB xs)(b:Nat)(pos n:Int)(h:0<=pos/\pos<=1000000000):az prog 30 [ptr b,iD n] [aB b xs pos] (λd σ=>∃r,d=iD r/\(0<=r/\(1<=n->r<n))/\σ=[aB b xs (pos+1)]):=
 (ek xs hx b pos n h).imp λd s⟨c,a⟩=>⟨_,c,dl xs pos n,a⟩
end
section
open Go
section
variable {α β:Type}
theorem PR{l:List α}{f:α->List β}{c:Nat}(h:∀x∈l,(f x).length<=c):(l.flatMap f).length<=l.length*c:=by
 induction l with
 |nil=>simp
 |cons x l i=>
  have d:=h x yN;have b:=i (λy a=>h y (yQ _ a));rw[List.flatMap_cons,zI,List.length_cons,vC];omega
theorem aE8{l:List α}{f:α->List β}{i:Nat}{x:α}(h:l[i]?=some x):(l.take (i+1)).flatMap f=(l.take i).flatMap f++f x:=by
 rw[xC,h];simp
end
theorem sO{l:List Int}(h:∀v∈l,cA v)(n:cA l.length):(dU l).length<=9+l.length*9:=by
 unfold dU;rw[zI];have b:=E6 n;have a:=PR (f:=bF) (l:=l) (c:=9) (λx hx=>E6 (h x hx));omega
structure EK(w:List (List (List Int))):Prop where
 k:w.length<=20
 n:∀l∈w,l.length<=20
 f:∀l∈w,∀r∈l,r.length<=60
 v:∀l∈w,∀r∈l,∀v∈r,cA v
theorem qN{n:Nat}(h:n<=1000000):cA n:=⟨by omega,by omega⟩
theorem EK.wd{w:List (List (List Int))}(h:EK w):WdR w:=
 ⟨qN (by have:=h.k;omega),λl a=>qN (by have:=h.n l a;omega),λl a r b=>qN (by have:=h.f l a r b;omega),h.v⟩
theorem EK.l{w:List (List (List Int))}(h:EK w){l:List (List Int)}(b:l∈w):∀r∈l,(dU r).length<=549:=λr a=>by
 have c:=h.f l b r a;have:=sO (h.v l b r a) (qN (by omega));omega
theorem EK.kl{w:List (List (List Int))}(h:EK w):∀l∈w,(vm l).length<=10989:=λl a=>by
 unfold vm;rw[zI];have e:=h.n l a;have d:=E6 (n:=(l.length:Int)) (qN (by omega));have b:=PR (f:=dU) (l:=l) (c:=549) (h.l a);omega
theorem EK.len{w:List (List (List Int))}(h:EK w):(W9 w).length<=300000:=by
 unfold W9;rw[zI];have d:=h.k;have b:=E6 (n:=(w.length:Int)) (qN (by omega));have a:=PR (f:=vm) (l:=w) (c:=10989) h.kl;omega
end
section
open Go
theorem ba3{P:Program}{f:FuncId}{args:List D}{l:List Nat}(h:az P f args [] (λd s=>∃v,d= .v v/\RY l v s)):APure P f args (Ah l):=
 APure.of_call (az.vs (az.imp h λd s⟨v,a,r⟩=>by rw[a];exact Rt.vs (Vs.row (τ:=[]) r (by simp))))
theorem G1{n:Int}(h:cA n):APure prog 274 [iD n] (Ah (bF n)):=ba3 (pq n h)
end
section
open Go
end
section
open Go
theorem oY{c k:Nat}{l:List Nat}(a:l.length<=c)(h:c*k<=140737488355328):(l.map yC).length*k<=140737488355328:=by rw[zL];exact xH (xZ _ a) h
theorem Ko{l:List Nat}(h:l.length<=1000000):(l.map yC).length<=1000000000:=by rw[zL];omega
theorem Aq{A B:Prop}(k:B)(h:ar B->A:=by intro q7;(first|refine bA ?_|refine aA ?_|(refine' ah ?hc ?_;(case hc=>exact G1 HX)));exact q7.1):A:=h ⟨k⟩
theorem G0(l:List Int)(hl:l.length<=1000)(h:∀v∈l,cA v):az prog 265 [bi l] [] (λd s=>∃v,d= .v v/\RY (dU l) v s):=by
 refine cU func265 ntmps265 λE=>?_
 repeat refine Aq ?_
 refine ba (pq ((l.map λn=>[iD n]).length:Int) (qN (by simp;omega))) (bR _) (λe=>e) cZ ?_;rintro _ r ⟨q,rfl,b⟩;rw[zL]at b
 repeat refine Aq ?_
 refine aV mixed ai (γ:=Nat×Value×af) (λg=>[(4,iD g.1),(3,.v g.2.1)]) (λg=>g.2.2) (λg=>g.1<=l.length/\RY (bF l.length++(l.take g.1).flatMap bF) g.2.1 g.2.2) (λg=>l.length-g.1) (0,q,r) (aj aw) (Sc.refl _) ⟨zW _,by simpa using b⟩ ?_;clear b;rintro⟨j,v,s⟩ ⟨hj,w⟩;simp only at hj w⊢;by_cases hjl:j<l.length
 .obtain⟨x,hx⟩:∃x,l[j]?=some x:=⟨_,zD hjl⟩
  have u:l[((j:Nat):Int).toNat]?=some x:=hx;have HX:=h x (zG hx);have t:=E6 HX;have z:=E6 (n:=(l.length:Int)) (qN (by omega));have i:=PR (f:=bF) (l:=l.take j) (c:=9) (λy hy=>E6 (h y (xG hy)));rw[zR]at i;have a:ae 5 1 ((bF l.length++(l.take j).flatMap bF).map yC) v s:=w;have k:(bF l.length++(l.take (j+1)).flatMap bF).length<=1000000:=by rw[aE8 hx];simp only[zI];omega
  repeat refine Aq ?_
  refine Ap.go rfl rfl rfl rfl a (by simp:s.Perm (s++[])) (sg _) (zs:=(bF l.length++(l.take (j+1)).flatMap bF).map yC) (by rw[aE8 hx];simp only[yB,zV]) (oY k (by decide)) (Ko k) (λe=>e) (λe=>by simp) (λD C e o=>?_)
  repeat refine Aq ?_
  exact⟨(j+1,_,e),(aj aw),Sc.refl _,⟨by simp only;omega,o⟩,by simp only;omega⟩
 .obtain rfl:j=l.length:=by omega
  repeat refine Aq ?_
  rw[yM]at w;exact Rt.same ⟨_,rfl,w⟩
theorem Bb{l:List Int}(a:l.length<=1000)(h:∀v∈l,cA v):APure prog 265 [bi l] (Ah (dU l)):=ba3 (G0 l a h)
end
section
open Go
theorem zp(m k:Nat):((m:Int)).tmod (k:Int)=((m%k:Nat):Int):=(Int.ofNat_tmod m k).symm
theorem RB(m k:Nat):((m:Int)).tdiv (k:Int)=((m/k:Nat):Int):=(Int.ofNat_tdiv m k).symm
section
variable {P:Program} {t:TypeId} {p q:Operand} {w:World}
theorem bs3{n:Nat}(h:n<=1000000000):(do eqGuard .mul t p q (.int .u64 8) (.int .u64 (n:Int));binOp .mul t (.int .u64 8) (.int .u64 (n:Int))).run P w= .ok (.int .u64 ((8*n:Nat):Int)) w:=by
 show Result.ok (Value.int .u64 (IntKind.u64.wrap _)) w=_;have e:IntKind.u64.wrap (8*(n:Int))=((8*n:Nat):Int):=by rw[IntKind.wrap_u64];omega
 rw[e]
end
theorem Cw{n i:Nat}(h:i<8):(qf n)[i]?=some (8*n/2 ^ (56-8*i)%256):=by
 unfold qf;rw[aQ3 _ _ _ h,show 56-8*i=8*(8-1-i) by omega,NL]
theorem aZ7(n:Nat):(qf n).length=8:=x2 _ _
theorem Hf(n:Nat):∀d∈cw n,d<256:=by
 intro d a;unfold cw at a;rcases zU.1 a with rfl|a
 .decide
 .rcases zO.1 a with h|h
  .rw[(List.mem_replicate.1 h).2];decide
  .exact kZ _ _ _ h
theorem NH(y:List Nat)(hl:y.length<=1000000):APure prog 282 [Ah y] (Ah (y++cw y.length)):=by
 refine ao func282 ntmps282 λM=>?_
 repeat' first|refine aq ?_|intro b;conv=>whnf
 refine Ap.go rfl rfl rfl rfl (ae.e0 _ _ (some ⟨b,0,none⟩)) (bR _) (sg y) (zs:=y.map yC) rfl (oY (c:=1000000) hl (by decide)) (Ko hl) (λf=>f) cZ (λL c1 I t=>?_)
 repeat' first|refine aq ?_|intro b;conv=>whnf
 refine Ap.go rfl rfl rfl rfl t (bR _) rfl (zs:=(y++[128]).map yC) (by rw[yB];rfl) (oY (c:=1000001) (by simp;omega) (by decide)) (by simp;omega) (λf=>f) cZ (λK J x q=>?_);clear t
 repeat' first|refine aq ?_|intro b;conv=>whnf
 refine aV mixed ai (γ:=Nat×Value×af) (λg=>[(3,.v g.2.1)]) (λg=>g.2.2) (λg=>g.1<=gP y.length/\RY (y++128::List.replicate g.1 0) g.2.1 g.2.2) (λg=>gP y.length-g.1) (0,_,x) (aj aw) (Sc.refl _) ⟨zW _,q⟩ ?_;clear q;rintro⟨j,v,s⟩ ⟨hj,e⟩;simp only at hj e⊢;obtain⟨a,c,rfl⟩:=ae.slice e;have C:gP y.length=(119-y.length%64)%64:=rfl;have u:((y++128::List.replicate j 0).map yC).length=y.length+1+j:=by simp;omega
 have o:((((y++128::List.replicate j 0).map yC).length:Int)).tmod 64=(((y.length+1+j)%64:Nat):Int):=by rw[u];exact zp _ 64
 have l:((y.length+(j+1):Nat):Int).tmod 64=(((y.length+(j+1))%64:Nat):Int):=zp _ 64
 repeat' first|refine aq ?_|intro b;conv=>whnf
 rw[o];by_cases hjz:j<gP y.length
 .repeat' first|refine aq ?_|intro b;conv=>whnf
  refine Ap.go rfl rfl rfl rfl e (bR _) rfl (zs:=(y++128::List.replicate (j+1) 0).map yC) (by rw[List.replicate_succ'];simp) (oY (c:=1000065) (by simp;omega) (by decide)) (by simp;omega) (λf=>f) cZ (λF E z k=>?_)
  repeat' first|refine aq ?_|intro b;conv=>whnf
  exact⟨(j+1,_,z),(aj aw),Sc.refl _,⟨by simp only;omega,k⟩,by simp only;omega⟩
 .obtain rfl:j=gP y.length:=by omega
  repeat' first|refine aq ?_|intro b;conv=>whnf
  refine Ot.yd (wx (m:=(y.length:Int)) rfl rfl underlying3 underlying367 (by simp only[IntKind.wrap_u64,zL];omega)) ?_
  repeat' first|refine aq ?_|intro b;conv=>whnf
  refine Ot.yd (cV (r:=.int .u64 ((8*y.length:Nat):Int)) rfl rfl rfl (λw=>bs3 (by omega))) ?_
  repeat' first|refine aq ?_|intro b;conv=>whnf
  refine aV mixed ai (γ:=Nat×Value×af) (λg=>[(5,iD g.1),(3,.v g.2.1)]) (λg=>g.2.2) (λg=>g.1<=8/\RY (y++128::(List.replicate (gP y.length) 0++(qf y.length).take g.1)) g.2.1 g.2.2) (λg=>8-g.1) (0,_,s) (aj aw) (Sc.refl _) ⟨zW _,by simpa using e⟩ ?_;clear e o l u;rintro⟨i,G,x⟩ ⟨hi,e⟩;simp only at hi e⊢;by_cases hi8:i<8
  .have D:=Cw (n:=y.length) hi8;generalize 8*y.length=m at *
   repeat' first|refine aq ?_|intro b;conv=>whnf
   rw[show(56:Int)-8*(i:Int)=((56-8*i:Nat):Int) by omega];refine Ot.yd (cV (r:=.int .u64 ((m/2 ^ (56-8*i):Nat):Int)) rfl rfl rfl (λw=>kq .u64 m .i64 (56-8*i) (by show _<=64;omega))) ?_
   repeat' first|refine aq ?_|intro b;conv=>whnf
   refine Ot.yd (wx (m:=((m/2 ^ (56-8*i)%256:Nat):Int)) rfl rfl underlying367 underlying5 (by rw[IntKind.wrap_u8];omega)) ?_
   repeat' first|refine aq ?_|intro b;conv=>whnf
   refine Ap.go rfl rfl rfl rfl e (by simp:x.Perm (x++[])) rfl (zs:=(y++128::(List.replicate (gP y.length) 0++(qf y.length).take (i+1))).map yC) (by rw[xC,D];simp) (oY (c:=1000165) (by simp[aZ7];omega) (by decide)) (by simp[aZ7];omega) (λf=>f) cZ (λF E z k=>?_)
   repeat' first|refine aq ?_|intro b;conv=>whnf
   exact⟨(i+1,_,z),(aj aw),Sc.refl _,⟨by simp only;omega,k⟩,by simp only;omega⟩
  .obtain rfl:i=8:=by omega
   rw[yL (by rw[aZ7];exact zT _)]at e
   repeat' first|refine aq ?_|intro b;conv=>whnf
   exact Rt.vs (Vs.row e (bR _))
end
end Go.Proofs.YtilnpcolgcmofaaGreatDoor
