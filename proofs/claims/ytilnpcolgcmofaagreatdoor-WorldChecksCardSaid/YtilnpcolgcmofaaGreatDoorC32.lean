/- A part of the proof. -/
import Derived.Test.YtilnpcolgcmofaaGreatDoorC31
set_option maxRecDepth 100000
set_option maxHeartbeats 20000000
set_option linter.all false
namespace Go.Proofs.YtilnpcolgcmofaaGreatDoor
open Tryz
section
open Go
def MO:List ByteArray:=[⟨#[]⟩,⟨#[105,100]⟩,⟨#[111,102]⟩,⟨#[111,116,104,101,114]⟩,⟨#[85,112,112,101,114]⟩,⟨#[49,97]⟩,⟨#[116,104,105,114,116,101,101,110,98,121,116,101,115]⟩,⟨#[97,45,98]⟩]
def MN:List ByteArray:=[⟨#[]⟩,⟨#[105,100]⟩,⟨#[111,102]⟩,⟨#[112,101,114,115,111,110]⟩,⟨#[111,114,100,101,114]⟩,⟨#[108,105,102,101]⟩,⟨#[116,111,116,97,108]⟩,⟨#[98,111,114,110]⟩,⟨#[115,105,122,101]⟩]
def MM:List ByteArray:=[⟨#[]⟩,⟨#[111,102]⟩,⟨#[98,121]⟩,⟨#[105,100]⟩,⟨#[63]⟩]
def Nx{p:Prop}(h:p:=by
 have hl:j.toNat<l.length:=by omega
 simp only[List.getD_eq_getElem?_getD,zD hl,Option.getD_some];exact wE hl):p:=h
variable{j:Int}
def Ly(l:List ByteArray)(h:0<=j/\j<l.length)(e:ByteArray):l.getD j.toNat e∈l:=Nx
def P9{R:D->ae->Prop}{f:an}{σ ρ w g:ae}{ws:List ByteArray}{gs:List Int}{d c:Value}(e:ab 9 1 (ws.map λs=>[sD s]) d w)(i:ab 3 1 (gs.map λn=>[iD n]) c g)(p:σ.Perm (w++(g++ρ)))(k:R (.agg (aA ⟨f.name,f.of,f.up,f.kind,f.lo,f.hi,ws,gs⟩)) []):Rt R (.agg [sD f.name,sD f.of,sD f.up,iD f.kind,iD f.lo,iD f.hi,.v d,.v c]) σ:=
 have a:∀(z:Nat),z∈aT ([]:ae)->z∈aT σ:=λz h=>by cases h
 Rt.by (σ':=[]) (d':=.agg (aA ⟨f.name,f.of,f.up,f.kind,f.lo,f.hi,ws,gs⟩)) (Vs.vd (τ:=[]) ⟨_,xA (zZ _).symm⟩ (Vd.agg (.cons (Vd.same a _) (.cons (Vd.same a _) (.cons (Vd.same a _) (.cons (Vd.same a _) (.cons (Vd.same a _) (.cons (Vd.same a _) (.cons (Vd.row e p (λz b=>by cases b)) (.cons (Vd.row (ρ:=w++ρ) i (p.trans (by rw[←zV,←zV];exact yT.append_right _)) (λz b=>by cases b)) .nil)))))))))) k
def Si{a:Int}(h:dP a)(k:Int)(b:1<=k):dP (a.tdiv k):=Zs
def mk0(b m:Nat)(h:m<=4):ab 3 1 ((List.replicate m (0:Int)).map λn=>[iD n]) (.slice (some ⟨b,0,none⟩) m m) [(b,.cells 3 (List.replicate m (D.v (zv (.int .i64)))))]:=
 ⟨λy a=>by obtain⟨z,_,rfl⟩:=xM.1 a;rfl,.inr ⟨b,m,[],by simp,by
  have:∀m,((List.replicate m (0:Int)).map λn=>[iD n]).flatten=List.replicate m (D.v (zv (.int .i64))):=λm=>by
   induction m with
   |zero=>rfl
   |succ m i=>rw[List.replicate_succ,List.map_cons,List.flatten_cons,i];rfl
  rw[this,zZ],by simp,by unfold maxLen;omega,by simp,λd c=>by cases c⟩⟩
def pm2(x y:Nat×ax)(s t:ae):(x::y::(s++t)).Perm (t++(s++[x,y])):=by
 refine cV λa=>?_;simp only[List.cons_append,List.append_eq,List.nil_append,cU,dn,de]<;>omega
def MG:List ByteArray:=[⟨#[109,111,114,101]⟩,⟨#[114,101,100]⟩,⟨#[]⟩]
def LN:List Int:=[1,0,-1,1048576,1048577]
def PK(l:List Int)(h:0<=j/\j<l.length):l.getD j.toNat 0∈l:=Nx
variable{A B:Prop}
def tg(k:B)(h:ar B->A:=by intro q7;(first|refine bh ?_|refine jh ?_|(refine' aj ?hc ?_;(case hc=>first|exact HH|exact HB _)));exact q7.1):A:=h ⟨k⟩
def fg(k:B)(h:ar B->A:=by intro q7;(first|refine bh ?_|refine aE ?_|(refine' aj ?hc ?_;(case hc=>first|exact HH|exact HB _)));exact q7.1):A:=h ⟨k⟩
def ff(k:B)(h:ar B->A:=by intro q7;(first|refine bh ?_|refine aE ?_|(refine' aj ?hc ?_;(case hc=>first|exact HH|exact HB _|exact H5)));exact q7.1):A:=h ⟨k⟩
def Mf(k:B)(h:ar B->A:=by intro q7;(first|refine bh ?_|refine jh ?_|(refine' aj ?hc ?_;(case hc=>first|exact HH|exact HB _|exact H5)));exact q7.1):A:=h ⟨k⟩
def aQ6(f:an)(u:CF f)(w k:Int)(E:dP w)(I:dP k):bH prog 37 [.agg (aA f),iD w,iD k] (λr=>∃V,r= .agg (aA V)/\DF V):=by
 refine bH.of_call ?_;have HB:=λm=>gv k m I;have HH:=gv w 8 E;obtain⟨hh1,F,_⟩:=fA w 8;have F:=F (by decide);generalize bV w 8=h at *;have i:=u.df;have g:∀{σ:ae}(z:Nat),z∈aT ([]:ae)->z∈aT σ:=λz h=>by cases h
 refine dB func37 ntmps37 λBB=>?_
 repeat' first|refine tg ?_|intro b;conv=>whnf
 refine Bx.r (ce.box rfl rfl (λK=>?_));rcases(by omega:h=0\/h=1\/h=2\/h=3\/h=4\/h=5\/h=6\/h=7)with e|e|e|e|e|e|e|e
 .obtain⟨y,q,_⟩:=fA k 11;have q:=q (by decide)
  repeat' first|refine fg ?_|intro b;conv=>whnf
  (refine Rt.by (σ':=[]) (d':=.agg (aA ⟨f.name,f.of,f.up,bV k 11-1,f.lo,f.hi,f.words,f.wz⟩)) (Vs.vd (τ:=[]) ⟨_,xA (zZ _).symm⟩ (Vd.agg (.cons (by first|exact Vd.same g _|exact Vd.nil _) (.cons (by first|exact Vd.same g _|exact Vd.nil _) (.cons (by first|exact Vd.same g _|exact Vd.nil _) (.cons (by first|exact Vd.same g _|exact Vd.nil _) (.cons (by first|exact Vd.same g _|exact Vd.nil _) (.cons (by first|exact Vd.same g _|exact Vd.nil _) (.cons (by first|exact Vd.same g _|exact Vd.nil _) (.cons (by first|exact Vd.same g _|exact Vd.nil _) .nil)))))))))) ?_)
  exact⟨_,rfl,⟨i.nm,i.of,i.up,i.nw,i.wd,i.ng,i.wt,by simp only;omega,i.lo,i.hi⟩⟩
 .have G:=e;obtain⟨y,q,_⟩:=fA k 8;have q:=q (by decide);have l:=GM MO (j:=bV k 8) ⟨by omega,by simp only[MO,List.length_cons,List.length_nil];omega⟩ nE;have o:=Ly MO (j:=bV k 8) ⟨by omega,by simp only[MO,List.length_cons,List.length_nil];omega⟩ nE;generalize List.getD MO (bV k 8).toNat nE=z at l o
  repeat' first|refine tg ?_|intro b;conv=>whnf
  refine jy (out:=List.map sD MO) (L:=List.map (λz=>[sD z]) MO) rfl rfl rfl rfl (by kernel_rfl) (by kernel_rfl) rfl rfl ?_
  repeat' first|refine fg ?_|intro b;conv=>whnf
  refine Ix.at l (by omega) ?_
  repeat' first|refine fg ?_|intro b;conv=>whnf
  (refine Rt.by (σ':=[]) (d':=.agg (aA ⟨z,f.of,f.up,f.kind,f.lo,f.hi,f.words,f.wz⟩)) (Vs.vd (τ:=[]) ⟨_,xA (zZ _).symm⟩ (Vd.agg (.cons (by first|exact Vd.same g _|exact Vd.nil _) (.cons (by first|exact Vd.same g _|exact Vd.nil _) (.cons (by first|exact Vd.same g _|exact Vd.nil _) (.cons (by first|exact Vd.same g _|exact Vd.nil _) (.cons (by first|exact Vd.same g _|exact Vd.nil _) (.cons (by first|exact Vd.same g _|exact Vd.nil _) (.cons (by first|exact Vd.same g _|exact Vd.nil _) (.cons (by first|exact Vd.same g _|exact Vd.nil _) .nil)))))))))) ?_)
  exact⟨_,rfl,⟨by revert o;simp only[MO,zU,yF,xE];rintro(rfl|rfl|rfl|rfl|rfl|rfl|rfl|rfl)<;>decide,i.of,i.up,i.nw,i.wd,i.ng,i.wt,i.kd,i.lo,i.hi⟩⟩
 .have G:=e;obtain⟨y,q,_⟩:=fA k 9;have q:=q (by decide);have l:=GM MN (j:=bV k 9) ⟨by omega,by simp only[MN,List.length_cons,List.length_nil];omega⟩ nE;have o:=Ly MN (j:=bV k 9) ⟨by omega,by simp only[MN,List.length_cons,List.length_nil];omega⟩ nE;generalize List.getD MN (bV k 9).toNat nE=z at l o
  repeat' first|refine tg ?_|intro b;conv=>whnf
  refine jy (out:=List.map sD MN) (L:=List.map (λz=>[sD z]) MN) rfl rfl rfl rfl (by kernel_rfl) (by kernel_rfl) rfl rfl ?_
  repeat' first|refine fg ?_|intro b;conv=>whnf
  refine Ix.at l (by omega) ?_
  repeat' first|refine fg ?_|intro b;conv=>whnf
  (refine Rt.by (σ':=[]) (d':=.agg (aA ⟨f.name,z,f.up,f.kind,f.lo,f.hi,f.words,f.wz⟩)) (Vs.vd (τ:=[]) ⟨_,xA (zZ _).symm⟩ (Vd.agg (.cons (by first|exact Vd.same g _|exact Vd.nil _) (.cons (by first|exact Vd.same g _|exact Vd.nil _) (.cons (by first|exact Vd.same g _|exact Vd.nil _) (.cons (by first|exact Vd.same g _|exact Vd.nil _) (.cons (by first|exact Vd.same g _|exact Vd.nil _) (.cons (by first|exact Vd.same g _|exact Vd.nil _) (.cons (by first|exact Vd.same g _|exact Vd.nil _) (.cons (by first|exact Vd.same g _|exact Vd.nil _) .nil)))))))))) ?_)
  exact⟨_,rfl,⟨i.nm,by revert o;simp only[MN,zU,yF,xE];rintro(rfl|rfl|rfl|rfl|rfl|rfl|rfl|rfl|rfl)<;>decide,i.up,i.nw,i.wd,i.ng,i.wt,i.kd,i.lo,i.hi⟩⟩
 .have G:=e;obtain⟨y,q,_⟩:=fA k 5;have q:=q (by decide);have l:=GM MM (j:=bV k 5) ⟨by omega,by simp only[MM,List.length_cons,List.length_nil];omega⟩ nE;have o:=Ly MM (j:=bV k 5) ⟨by omega,by simp only[MM,List.length_cons,List.length_nil];omega⟩ nE;generalize List.getD MM (bV k 5).toNat nE=z at l o
  repeat' first|refine tg ?_|intro b;conv=>whnf
  refine jy (out:=List.map sD MM) (L:=List.map (λz=>[sD z]) MM) rfl rfl rfl rfl (by kernel_rfl) (by kernel_rfl) rfl rfl ?_
  repeat' first|refine fg ?_|intro b;conv=>whnf
  refine Ix.at l (by omega) ?_
  repeat' first|refine fg ?_|intro b;conv=>whnf
  (refine Rt.by (σ':=[]) (d':=.agg (aA ⟨f.name,f.of,z,f.kind,f.lo,f.hi,f.words,f.wz⟩)) (Vs.vd (τ:=[]) ⟨_,xA (zZ _).symm⟩ (Vd.agg (.cons (by first|exact Vd.same g _|exact Vd.nil _) (.cons (by first|exact Vd.same g _|exact Vd.nil _) (.cons (by first|exact Vd.same g _|exact Vd.nil _) (.cons (by first|exact Vd.same g _|exact Vd.nil _) (.cons (by first|exact Vd.same g _|exact Vd.nil _) (.cons (by first|exact Vd.same g _|exact Vd.nil _) (.cons (by first|exact Vd.same g _|exact Vd.nil _) (.cons (by first|exact Vd.same g _|exact Vd.nil _) .nil)))))))))) ?_)
  exact⟨_,rfl,⟨i.nm,i.of,by revert o;simp only[MM,zU,yF,xE];rintro(rfl|rfl|rfl|rfl|rfl)<;>decide,i.nw,i.wd,i.ng,i.wt,i.kd,i.lo,i.hi⟩⟩
 .obtain⟨y,q,_⟩:=fA k 6;have q:=q (by decide);have S:=u.lo;obtain⟨z,o,l⟩:=hJ [f.lo-1,0,5,-1048576,-1048577,33] (j:=bV k 6) ⟨by omega,by simp only[List.length_cons,List.length_nil];omega⟩
  repeat' first|refine fg ?_|intro b;conv=>whnf
  refine Ix.at l (by omega) ?_
  repeat' first|refine fg ?_|intro b;conv=>whnf
  (refine Rt.by (σ':=[]) (d':=.agg (aA ⟨f.name,f.of,f.up,f.kind,z,f.hi,f.words,f.wz⟩)) (Vs.vd (τ:=[]) ⟨_,xA (zZ _).symm⟩ (Vd.agg (.cons (by first|exact Vd.same g _|exact Vd.nil _) (.cons (by first|exact Vd.same g _|exact Vd.nil _) (.cons (by first|exact Vd.same g _|exact Vd.nil _) (.cons (by first|exact Vd.same g _|exact Vd.nil _) (.cons (by first|exact Vd.same g _|exact Vd.nil _) (.cons (by first|exact Vd.same g _|exact Vd.nil _) (.cons (by first|exact Vd.same g _|exact Vd.nil _) (.cons (by first|exact Vd.same g _|exact Vd.nil _) .nil)))))))))) ?_)
  exact⟨_,rfl,⟨i.nm,i.of,i.up,i.nw,i.wd,i.ng,i.wt,i.kd,by simp only[zU,yF,xE]at o;simp only;omega,i.hi⟩⟩
 .obtain⟨y,q,_⟩:=fA k 8;have q:=q (by decide);have S:=u.hi;obtain⟨z,o,l⟩:=hJ [f.hi+1,0,32,33,65536,65537,1048576,1048577] (j:=bV k 8) ⟨by omega,by simp only[List.length_cons,List.length_nil];omega⟩
  repeat' first|refine fg ?_|intro b;conv=>whnf
  refine Ix.at l (by omega) ?_
  repeat' first|refine fg ?_|intro b;conv=>whnf
  (refine Rt.by (σ':=[]) (d':=.agg (aA ⟨f.name,f.of,f.up,f.kind,f.lo,z,f.words,f.wz⟩)) (Vs.vd (τ:=[]) ⟨_,xA (zZ _).symm⟩ (Vd.agg (.cons (by first|exact Vd.same g _|exact Vd.nil _) (.cons (by first|exact Vd.same g _|exact Vd.nil _) (.cons (by first|exact Vd.same g _|exact Vd.nil _) (.cons (by first|exact Vd.same g _|exact Vd.nil _) (.cons (by first|exact Vd.same g _|exact Vd.nil _) (.cons (by first|exact Vd.same g _|exact Vd.nil _) (.cons (by first|exact Vd.same g _|exact Vd.nil _) (.cons (by first|exact Vd.same g _|exact Vd.nil _) .nil)))))))))) ?_)
  exact⟨_,rfl,⟨i.nm,i.of,i.up,i.nw,i.wd,i.ng,i.wt,i.kd,i.lo,by simp only[zU,yF,xE]at o;simp only;omega⟩⟩
 .have x:=Si I 3 (by omega);have H5:=gv (k.tdiv 3) 5 x;obtain⟨p1,U,_⟩:=fA k 3;have U:=U (by decide);obtain⟨y,q,_⟩:=fA (k.tdiv 3) 5;have q:=q (by decide);have R:=u.nw;have hng:=u.ng;have l:=GM MG (j:=bV k 3) ⟨by omega,by simp only[MG,List.length_cons,List.length_nil];omega⟩ nE;have o:=Ly MG (j:=bV k 3) ⟨by omega,by simp only[MG,List.length_cons,List.length_nil];omega⟩ nE;generalize List.getD MG (bV k 3).toNat nE=z at l o;have t:=Yx LN (j:=bV (k.tdiv 3) 5) ⟨by omega,by simp only[LN,List.length_cons,List.length_nil];omega⟩;have C:=PK LN (j:=bV (k.tdiv 3) 5) ⟨by omega,by simp only[LN,List.length_cons,List.length_nil];omega⟩;generalize List.getD LN (bV (k.tdiv 3) 5).toNat 0=n at t C
  repeat' first|refine ff ?_|intro b;conv=>whnf
  refine Ap.go rfl rfl rfl rfl (ab.e0 9 1 (some ⟨b,0,none⟩)) (zH ([]++_)) (Px _) (zs:=f.words.map λa=>[sD a]) rfl (by simp;omega) (by simp;omega) (λp=>p++_) (λp=>zH _) (λa5 c5 s5 Q=>?_);rename_i J
  repeat' first|refine Mf ?_|intro b;conv=>whnf
  refine jy (out:=MG.map sD) (L:=MG.map λz=>[sD z]) rfl rfl rfl rfl (by kernel_rfl) (by kernel_rfl) rfl rfl ?_
  repeat' first|refine ff ?_|intro b;conv=>whnf
  refine Ix.at l (by omega) ?_
  repeat' first|refine ff ?_|intro b;conv=>whnf
  refine Ap.go rfl rfl rfl rfl Q (τ:=[(J,.cells 81 [D.v (zv ZV.str),D.v (zv ZV.str),D.v (zv ZV.str),D.v (zv (ZV.int IntKind.i64)),D.v (zv (ZV.int IntKind.i64)),D.v (zv (ZV.int IntKind.i64)),D.v (zv ZV.sl),D.v (zv ZV.sl)]),(K,.cells 81 (aA f))]) (zH _) rfl (zs:=(f.words++[z]).map λa=>[sD a]) (by rw[yB];rfl) (by simp;omega) (by simp;omega) (λp=>(J,.cells 81 [D.v (zv ZV.str),D.v (zv ZV.str),D.v (zv ZV.str),D.v (zv (ZV.int IntKind.i64)),D.v (zv (ZV.int IntKind.i64)),D.v (zv (ZV.int IntKind.i64)),D.v (zv ZV.sl),D.v (zv ZV.sl)])::(K,.cells 81 (aA f))::p) (λp=>yT (l₂:=[_,_])) (λY X T P=>?_)
  repeat' first|refine ff ?_|intro b;conv=>whnf
  refine Ap.go rfl rfl rfl rfl (ab.e0 3 1 (some ⟨b,0,none⟩)) (zH ([]++_)) (FY f.wz) (zs:=f.wz.map λn=>[iD n]) rfl (by simp;omega) (by simp;omega) (λp=>p++_) (λp=>zH _) (λa7 c7 s7 O=>?_)
  repeat' first|refine Mf ?_|intro b;conv=>whnf
  refine jy (out:=LN.map iD) (L:=LN.map λz=>[iD z]) rfl rfl rfl rfl (by kernel_rfl) (by kernel_rfl) rfl rfl ?_
  repeat' first|refine ff ?_|intro b;conv=>whnf
  refine Sd.go ⟨by decide,⟨x.1,x.2⟩⟩ ?_
  repeat' first|refine ff ?_|intro b;conv=>whnf
  refine Ix.at t (by omega) ?_
  repeat' first|refine ff ?_|intro b;conv=>whnf
  refine Ap.go rfl rfl rfl rfl O (τ:=(J,.cells 81 [D.v (zv ZV.str),D.v (zv ZV.str),D.v (zv ZV.str),D.v (zv (ZV.int IntKind.i64)),D.v (zv (ZV.int IntKind.i64)),D.v (zv (ZV.int IntKind.i64)),D.v (zv ZV.sl),D.v (zv ZV.sl)])::(K,.cells 81 [sD f.name,sD f.of,sD f.up,iD f.kind,iD f.lo,iD f.hi,.v (.slice Y ((f.words++[z]).map λa=>[sD a]).length X),bv f.wz])::T) (zH _) rfl (zs:=(f.wz++[n]).map λa=>[iD a]) (by rw[yB];rfl) (by simp;omega) (by simp;omega) (λp=>(J,.cells 81 [D.v (zv ZV.str),D.v (zv ZV.str),D.v (zv ZV.str),D.v (zv (ZV.int IntKind.i64)),D.v (zv (ZV.int IntKind.i64)),D.v (zv (ZV.int IntKind.i64)),D.v (zv ZV.sl),D.v (zv ZV.sl)])::(K,.cells 81 [sD f.name,sD f.of,sD f.up,iD f.kind,iD f.lo,iD f.hi,.v (.slice Y ((f.words++[z]).map λa=>[sD a]).length X),bv f.wz])::(p++T)) (λp=>by refine cV λa=>?_;simp only[List.cons_append,List.append_eq,List.nil_append,cU,dn,de]<;>omega) (λa8 c8 s8 M=>?_)
  repeat' first|refine ff ?_|intro b;conv=>whnf
  refine P9 (ρ:=[_,_]) P M (pm2 _ _ _ _) ?_;exact⟨_,rfl,⟨i.nm,i.of,i.up,by simp only[zI,List.length_singleton];omega,λs hs=>by
   rcases zO.1 hs with h1|h1
   .exact u.wd s h1
   .rw[zN]at h1;subst h1;revert o;simp only[MG,zU,yF,xE];rintro(rfl|rfl|rfl)<;>decide,by simp only[zI,List.length_singleton];omega,λs hs=>by
   rcases zO.1 hs with h1|h1
   .exact i.wt s h1
   .rw[zN]at h1;subst h1;revert C;simp only[LN,zU,yF,xE];omega,i.kd,i.lo,i.hi⟩⟩
 .have R:=u.nw
  repeat' first|refine ff ?_|intro b;conv=>whnf
  refine Mk.go f.words.length rfl rfl rfl rfl rfl (by simp) (by omega) (by omega) (λb5=>?_)
  repeat' first|refine ff ?_|intro b;conv=>whnf
  refine Rs.c ai (m:=1) rfl rfl rfl rfl rfl rfl ?_
  repeat' first|refine ff ?_|intro b;conv=>whnf
  refine Rt.by (σ':=[]) (d':=.agg (aA ⟨f.name,f.of,f.up,f.kind,f.lo,f.hi,f.words,List.replicate f.words.length 0⟩)) (Vs.vd (τ:=[]) ⟨_,xA (zZ _).symm⟩ (Vd.agg (.cons (by first|exact Vd.same g _|exact Vd.nil _) (.cons (by first|exact Vd.same g _|exact Vd.nil _) (.cons (by first|exact Vd.same g _|exact Vd.nil _) (.cons (by first|exact Vd.same g _|exact Vd.nil _) (.cons (by first|exact Vd.same g _|exact Vd.nil _) (.cons (by first|exact Vd.same g _|exact Vd.nil _) (.cons (by first|exact Vd.same g _|exact Vd.nil _) (.cons (Vd.row (mk0 b5 f.words.length (by omega)) (zH _) (λz Z=>by cases Z)) .nil)))))))))) ?_
  exact⟨_,rfl,⟨i.nm,i.of,i.up,i.nw,i.wd,by simp only[zY];omega,by simp only;intro n hn;rw[List.eq_of_mem_replicate hn];omega,i.kd,i.lo,i.hi⟩⟩
end
section
open Go Go.RowKit Go.Shelf
abbrev SKn(k:List aq)(v:Value)(s:ae):Prop:=ab 78 4 (k.map aD) v s
abbrev SLf(l:List bG)(v:Value)(s:ae):Prop:=ab 93 3 (l.map bX) v s
abbrev SRl(l:List cH)(v:Value)(s:ae):Prop:=ab 96 5 (l.map cX) v s
def Sg{α:Type}(g:α->List D)(h:∀a,(g a).all cY=true)(l:List α):((l.map g).all λy=>y.all cY)=true:=by
 rw[yA];intro y b;obtain⟨f,_,rfl⟩:=xM.1 b;exact h f
variable{R:D->ae->Prop}
def zh{σ ρ s sl r:ae}{n:Int}{g:List aq}{ls:List bG}{f:List cH}{e d c:Value}(j:SKn g e s)(l:SLf ls d sl)(i:SRl f c r)(p:σ.Perm (s++(sl++(r++ρ))))(k:R (aw ⟨n,g,ls,f⟩) []):Rt R (.agg [iD n,.v e,.v d,.v c]) σ:=
 have b:∀{σ:ae}(z:Nat),z∈aT ([]:ae)->z∈aT σ:=λz h=>by cases h
 Rt.by (σ':=[]) (Vs.vd ⟨σ,by rw[zZ]⟩ (Vd.agg (.cons (Vd.same b _) (.cons (Vd.row j p b) (.cons (Vd.row (ρ:=s++(r++ρ)) l (p.trans (by rw[←zV,←zV sl];exact yT.append_right _)) b) (.cons (Vd.row (ρ:=s++(sl++ρ)) i (p.trans (by refine cV λa=>?_;simp only[List.cons_append,List.append_eq,List.nil_append,cU,dn,de]<;>omega)) b) .nil)))))) k
def RM(x y:Nat×ax)(s t u:ae):(x::y::(s++(t++u))).Perm (u++(t++(s++[x,y]))):=by refine cV λa=>?_;simp only[du,iM,jI,kq,List.take_succ_cons,List.take_zero,List.drop_succ_cons,List.drop_zero,List.cons_append,List.append_eq,List.nil_append,cU,dn,de,sD,iD]<;>omega
def Uv(x y z:Nat×ax)(s t:ae):(x::y::z::(s++t)).Perm ([x]++(t++(s++[y,z]))):=by refine cV λa=>?_;simp only[du,iM,jI,kq,List.take_succ_cons,List.take_zero,List.drop_succ_cons,List.drop_zero,List.cons_append,List.append_eq,List.nil_append,cU,dn,de,sD,iD]<;>omega
def pm6(x y:Nat×ax)(s t:ae):(x::y::(s++t)).Perm (t++([x]++(s++[y]))):=by refine cV λa=>?_;simp only[du,iM,jI,kq,List.take_succ_cons,List.take_zero,List.drop_succ_cons,List.drop_zero,List.cons_append,List.append_eq,List.nil_append,cU,dn,de,sD,iD]<;>omega
def Gn:List ByteArray:=[⟨#[109,111,114,101]⟩,⟨#[110,101,119]⟩,⟨#[63]⟩]
variable{p:Prop}
def gz(h:p:=by refine cV λa=>?_;simp only[du,iM,jI,kq,List.take_succ_cons,List.take_zero,List.drop_succ_cons,List.drop_zero,List.cons_append,List.append_eq,List.nil_append,cU,dn,de,sD,iD]<;>omega):p:=h
variable{d:D}
def YF{b:Nat}{t e:TypeId}{cs:List D}{j k:Nat}{xs:List (List D)}{v:Value}{s τ:ae}{y:Nat×ax}(f:cs[j]?=some d)(h:ab e k xs v s):Sc ((b,.cells t (cs.set j (.v v)))::y::(s++τ)) ((b,.cells t (cs.set j (.sl k xs)))::y::τ):=by
 have c:=Sc.frz (b:=b) (t:=t) (τ:=y::τ) (xI (a:=D.v v) (zE.1 f).1) h (ec.refl _);rw[List.set_set]at c;exact(Sc.perm gz).trans c
def Rt.scd{σ τ:ae}(h:Sc σ τ)(k:Rt R d τ):Rt R d σ:=by
 obtain⟨c,τ',b,a⟩:=k;exact Rt.by ((Vs.sc h d).trans b) a
def ML:List ByteArray:=[⟨#[112,101,114,115,111,110]⟩,⟨#[111,114,100,101,114]⟩,⟨#[110,111,110,101]⟩,⟨#[]⟩]
def N0:List ByteArray:=[⟨#[115,105,122,101]⟩,⟨#[108,111,119]⟩,⟨#[]⟩,⟨#[105,100]⟩,⟨#[98,111,114,110]⟩]
def NI:List ByteArray:=[⟨#[104,105,103,104]⟩,⟨#[]⟩,⟨#[115,105,122,101]⟩,⟨#[108,101,102,116]⟩,⟨#[116,97,103]⟩]
def OH(l:List ByteArray):Array (Nat×Operand):=((List.range l.length).zip (l.map λs=>Operand.const (.string s))).toArray
variable{A B:Prop}
def TB(k:B)(h:ar B->A:=by intro q7;(first|refine bh ?_|refine jh ?_|(refine' aj ?hc ?_;(case hc=>first|exact gv at_ _ hat|exact gv how _ hhow|exact gv by_ _ hby)));exact q7.1):A:=h ⟨k⟩
def By(k:B)(h:ar B->A:=by intro q7;(first|refine bh ?_|refine aE ?_|(refine' aj ?hc ?_;(case hc=>first|exact gv at_ _ hat|exact gv how _ hhow|exact gv by_ _ hby)));exact q7.1):A:=h ⟨k⟩
def cR(k:B)(h:ar B->A:=by intro q7;(first|refine bh ?_|refine aE ?_|(refine' aj ?hc ?_;(case hc=>first|exact HH|exact HA|exact gv by_ _ hby)));exact q7.1):A:=h ⟨k⟩
def L'(k:B)(h:ar B->A:=by intro q7;(first|refine bh ?_|refine BO ?_|(refine' aj ?hc ?_;(case hc=>first|exact HH|exact HA|exact gv by_ _ hby|exact H6)));exact q7.1):A:=h ⟨k⟩
def tq(k:B)(h:ar B->A:=by intro q7;(first|refine vl ?_|((with_reducible refine Dr.l ?h ?_);(case h=>decide +kernel))|(with_reducible refine Dr.r ?_)|((with_reducible refine Cb.go ?h ?_);(case h=>decide +kernel)));exact q7.1):A:=h ⟨k⟩
def tf(k:B)(h:ar B->A:=by intro q7;(first|refine bh ?_|refine tq ?_|(refine' aj ?hc ?_;(case hc=>first|exact HH|exact HA|exact gv by_ _ hby|exact H6)));exact q7.1):A:=h ⟨k⟩
def Bv(k:B)(h:ar B->A:=by intro q7;(first|refine bh ?_|refine BO ?_|(refine' aj ?hc ?_;(case hc=>first|exact HH|exact HA|exact gv by_ _ hby|exact H4|exact H20)));exact q7.1):A:=h ⟨k⟩
def L9(k:B)(h:ar B->A:=by intro q7;(first|refine bh ?_|refine tq ?_|(refine' aj ?hc ?_;(case hc=>first|exact HH|exact HA|exact gv by_ _ hby|exact H4|exact H20)));exact q7.1):A:=h ⟨k⟩
def L8(k:B)(h:ar B->A:=by intro q7;(first|refine bh ?_|refine BO ?_|(refine' aj ?hc ?_;(case hc=>first|exact HH|exact HA|exact gv by_ _ hby)));exact q7.1):A:=h ⟨k⟩
def kw(k:B)(h:ar B->A:=by intro q7;(first|refine bh ?_|refine tq ?_|(refine' aj ?hc ?_;(case hc=>first|exact HH|exact HA|exact gv by_ _ hby)));exact q7.1):A:=h ⟨k⟩
def ed(k:B)(h:ar B->A:=by intro q7;(first|refine bh ?_|refine tq ?_|(refine' aj ?hc ?_;(case hc=>first|exact HH|exact HA|exact HJ)));exact q7.1):A:=h ⟨k⟩
def bj6(h:p:=by obtain⟨q1,q2,_⟩:=fA by_ 4;have q2:=q2 (by decide);exact⟨by omega,by simp only[ML,List.length_cons,List.length_nil];omega⟩):p:=h
def Z'(h:p:=by obtain⟨q1,q2,_⟩:=fA (by_.tdiv 4) 5;have q2:=q2 (by decide);exact⟨by omega,by simp only[N0,List.length_cons,List.length_nil];omega⟩):p:=h
def Z9(h:p:=by obtain⟨q1,q2,_⟩:=fA (by_.tdiv 20) 5;have q2:=q2 (by decide);exact⟨by omega,by simp only[NI,List.length_cons,List.length_nil];omega⟩):p:=h
def Z8(h:p:=by rw[show 0+((i:Nat):Int).toNat*4+3=i*4+3 by simp];exact(zE.1 (hcs 3 (by omega))).1):p:=h
def Qj(h:p:=by
 repeat' first|refine cR ?_|intro b;conv=>whnf
 (refine Rs.c ai (m:=1) rfl rfl rfl rfl rfl rfl ?_)
 repeat' first|refine cR ?_|intro b;conv=>whnf
 refine zh (ρ:=[_,_]) hkr hlr hrr (RM _ _ _ _ _) ?_;exact⟨_,rfl,HX⟩):p:=h
def qK(x:ak)(h:LL x)(at_ how by_:Int)(hat:dP at_)(hhow:dP how)(hby:dP by_):bH prog 11 [aw x,iD at_,iD how,iD by_] (λr=>∃y,r=aw y/\RD y):=by
 refine bH.of_call ?_;have hnk:=h.nk;have hnl:=h.nl;have hnr:=h.nr;have HX:=h.dls;refine dB func11 ntmps11 λBB=>?_
 repeat' first|refine TB ?_|intro b;conv=>whnf
 refine Bx.r (ce.box rfl rfl (λb4=>?_))
 repeat' first|refine By ?_|intro b;conv=>whnf
 rename_i E;refine Ap.go rfl rfl rfl rfl (ab.e0 78 4 (some ⟨b,0,none⟩)) (zH ([]++_)) (Sg aD (λ_=>rfl) x.kz) (zs:=x.kz.map aD) rfl (by simp;omega) (by simp;omega) (λF=>(b4,.cells 27 (du x))::(E,.cells 27 [D.v (zv (ZV.int IntKind.i64)),.v (zv ZV.sl),.v (zv ZV.sl),.v (zv ZV.sl)])::F) (λF=>by refine cV λa=>?_;simp only[du,iM,jI,kq,List.take_succ_cons,List.take_zero,List.drop_succ_cons,List.drop_zero,List.cons_append,List.append_eq,List.nil_append,cU,dn,de,sD,iD]<;>omega) (λa1 c1 S hkr=>?_);obtain⟨a1,c1,e1⟩:∃a c,Value.slice a1 (x.kz.map aD).length c1=Value.slice a x.kz.length c:=⟨a1,c1,by rw[zL]⟩
 rw[e1]at hkr⊢
 repeat' first|refine By ?_|intro b;conv=>whnf
 refine Ap.go rfl rfl rfl rfl (ab.e0 93 3 (some ⟨b,0,none⟩)) (zH ([]++_)) (Sg bX (λ_=>rfl) x.lz) (zs:=x.lz.map bX) rfl (by simp;omega) (by simp;omega) (λF=>(b4,.cells 27 [iD x.vz,.v (.slice a1 x.kz.length c1),iM x.lz,jI x.rules])::(E,.cells 27 [D.v (zv (ZV.int IntKind.i64)),.v (zv ZV.sl),.v (zv ZV.sl),.v (zv ZV.sl)])::(F++S)) (λF=>by refine cV λa=>?_;simp only[du,iM,jI,kq,List.take_succ_cons,List.take_zero,List.drop_succ_cons,List.drop_zero,List.cons_append,List.append_eq,List.nil_append,cU,dn,de,sD,iD]<;>omega) (λR J sl hlr=>?_);obtain⟨R,J,e2⟩:∃a c,Value.slice R (x.lz.map bX).length J=Value.slice a x.lz.length c:=⟨R,J,by rw[zL]⟩
 rw[e2]at hlr⊢
 repeat' first|refine By ?_|intro b;conv=>whnf
 refine Ap.go rfl rfl rfl rfl (ab.e0 96 5 (some ⟨b,0,none⟩)) (zH ([]++_)) (Sg cX (λ_=>rfl) x.rules) (zs:=x.rules.map cX) rfl (by simp;omega) (by simp;omega) (λF=>(b4,.cells 27 [iD x.vz,.v (.slice a1 x.kz.length c1),.v (.slice R x.lz.length J),jI x.rules])::(E,.cells 27 [D.v (zv (ZV.int IntKind.i64)),.v (zv ZV.sl),.v (zv ZV.sl),.v (zv ZV.sl)])::(F++(sl++S))) (λF=>by refine cV λa=>?_;simp only[du,iM,jI,kq,List.take_succ_cons,List.take_zero,List.drop_succ_cons,List.drop_zero,List.cons_append,List.append_eq,List.nil_append,cU,dn,de,sD,iD]<;>omega) (λQ P I hrr=>?_);obtain⟨Q,P,e3⟩:∃a c,Value.slice Q (x.rules.map cX).length P=Value.slice a x.rules.length c:=⟨Q,P,by rw[zL]⟩
 rw[e3]at hrr⊢;have ha:=fA at_ x.kz.length;have hh:=fA how 8;obtain⟨i,hi⟩:∃i:Nat,bV at_ x.kz.length=i:=⟨(bV at_ x.kz.length).toNat,by omega⟩
 obtain⟨hh1,hh2,_⟩:=hh;have hh2:=hh2 (by decide);have HH:=gv how 8 hhow;generalize bV how 8=hw at *;have HA:=gv at_ x.kz.length hat;rw[hi]at HA;rcases(by omega:hw=0\/hw=1\/hw=2\/hw=3\/hw=4\/hw=5\/hw=6\/hw=7)with e|e|e|e|e|e|e|e
 .have hver:=h.ver;obtain⟨q1,q2,_⟩:=fA by_ 4;have q2:=q2 (by decide);obtain⟨z,hm,G⟩:=hJ [x.vz+1,-1,1048576,1048577] (j:=bV by_ 4) ⟨by omega,by simp only[List.length_cons,List.length_nil];omega⟩;simp only[zU,yF,xE]at hm
  repeat' first|refine cR ?_|intro b;conv=>whnf
  refine Ix.at G (by omega) ?_
  repeat' first|refine cR ?_|intro b;conv=>whnf
  (refine Rs.c ai (m:=1) rfl rfl rfl rfl rfl rfl ?_)
  repeat' first|refine cR ?_|intro b;conv=>whnf
  refine zh (ρ:=[_,_]) hkr hlr hrr (RM _ _ _ _ _) ?_;exact⟨_,rfl,⟨by simp only;omega,HX.nk,HX.ks,HX.nl,HX.ls,HX.nr,HX.rs⟩⟩
 .by_cases hin:i<x.kz.length
  .obtain⟨k,U⟩:∃k,x.kz[i]?=some k:=⟨_,zD hin⟩
   have C:=h.ks k (zG U);obtain⟨b2,cap2,o,e4,rfl,hcs⟩:=ab.get hkr (show(x.kz.map aD)[i]?=some (aD k) by rw[qA,U];rfl);rw[zL]at e4
   cases e4
   obtain⟨q1,q2,_⟩:=fA by_ 4;have q2:=q2 (by decide);have G:=GM [⟨#[112,101,114,115,111,110]⟩,⟨#[]⟩,⟨#[111,116,104,101,114]⟩,⟨#[97,32,98]⟩] (j:=bV by_ 4) ⟨by omega,by simp only[List.length_cons,List.length_nil];omega⟩ nE;have hm:=Ly [⟨#[112,101,114,115,111,110]⟩,⟨#[]⟩,⟨#[111,116,104,101,114]⟩,⟨#[97,32,98]⟩] (j:=bV by_ 4) ⟨by omega,by simp only[List.length_cons,List.length_nil];omega⟩ nE;generalize List.getD [⟨#[112,101,114,115,111,110]⟩,⟨#[]⟩,⟨#[111,116,104,101,114]⟩,⟨#[97,32,98]⟩] (bV by_ 4).toNat nE=z at G hm
   repeat' first|refine cR ?_|intro b;conv=>whnf
   refine Ix.at G (by omega) ?_
   repeat' first|refine cR ?_|intro b;conv=>whnf
   have w:(x.kz.map aD).set i ((aD k).set 0 (sD z))=(x.kz.set i ⟨z,k.lo,k.hi,k.fields⟩).map aD:=by rw[wL];rfl
   have l:=Mx (d:=(sD z)) hkr (show(x.kz.map aD)[i]?=some (aD k) by rw[qA,U];rfl) (show 0<4 by omega);rw[w]at l;refine Sv.cellm (tb:=78) (cs:=o) (cs':=o.set (i*4+0) (sD z)) (τ:=(b4,ax.cells 27 [iD x.vz,D.v (Value.slice (some ⟨b2,0,none⟩) x.kz.length c1),D.v (Value.slice R x.lz.length J),D.v (Value.slice Q x.rules.length P)])::(E,.cells 27 [D.v (zv (ZV.int IntKind.i64)),.v (zv ZV.sl),.v (zv ZV.sl),.v (zv ZV.sl)])::(I++sl)) gz (by rw[show 0+((i:Nat):Int).toNat*4+0=i*4+0 by simp];exact(zE.1 (hcs 0 (by omega))).1) rfl (by rw[show 0+((i:Nat):Int).toNat*4+0=i*4+0 by simp]) ?_
   repeat' first|refine cR ?_|intro b;conv=>whnf
   (refine Rs.c ai (m:=2) rfl rfl rfl rfl rfl rfl ?_)
   repeat' first|refine cR ?_|intro b;conv=>whnf
   refine zh (ρ:=[_,_]) l hlr hrr (Uv _ _ _ _ _) ?_;refine⟨_,rfl,⟨HX.ver,by simp only[yR];exact hnk,λk' M=>?_,HX.nl,HX.ls,HX.nr,HX.rs⟩⟩;rcases yZ M with h'|rfl
   .exact HX.ks k' h'
   .have:=C.dk;exact⟨by revert hm;simp only[zU,yF,xE];rintro(rfl|rfl|rfl|rfl)<;>decide,this.lo,this.hi,this.nf,this.fs⟩
  .exact Qj
 .by_cases hin:i<x.kz.length
  .obtain⟨k,U⟩:∃k,x.kz[i]?=some k:=⟨_,zD hin⟩
   have C:=h.ks k (zG U);obtain⟨b2,cap2,o,e4,rfl,hcs⟩:=ab.get hkr (show(x.kz.map aD)[i]?=some (aD k) by rw[qA,U];rfl);rw[zL]at e4
   cases e4
   obtain⟨q1,q2,_⟩:=fA by_ 4;have q2:=q2 (by decide);obtain⟨z,hm,G⟩:=hJ [0,5,-1,65537] (j:=bV by_ 4) ⟨by omega,by simp only[List.length_cons,List.length_nil];omega⟩;simp only[zU,yF,xE]at hm
   repeat' first|refine cR ?_|intro b;conv=>whnf
   refine Ix.at G (by omega) ?_
   repeat' first|refine cR ?_|intro b;conv=>whnf
   have w:(x.kz.map aD).set i ((aD k).set 1 (iD z))=(x.kz.set i ⟨k.name,z,k.hi,k.fields⟩).map aD:=by rw[wL];rfl
   have l:=Mx (d:=(iD z)) hkr (show(x.kz.map aD)[i]?=some (aD k) by rw[qA,U];rfl) (show 1<4 by omega);rw[w]at l;refine Sv.cellm (tb:=78) (cs:=o) (cs':=o.set (i*4+1) (iD z)) (τ:=(b4,ax.cells 27 [iD x.vz,D.v (Value.slice (some ⟨b2,0,none⟩) x.kz.length c1),D.v (Value.slice R x.lz.length J),D.v (Value.slice Q x.rules.length P)])::(E,.cells 27 [D.v (zv (ZV.int IntKind.i64)),.v (zv ZV.sl),.v (zv ZV.sl),.v (zv ZV.sl)])::(I++sl)) gz (by rw[show 0+((i:Nat):Int).toNat*4+1=i*4+1 by simp];exact(zE.1 (hcs 1 (by omega))).1) rfl (by rw[show 0+((i:Nat):Int).toNat*4+1=i*4+1 by simp]) ?_
   repeat' first|refine cR ?_|intro b;conv=>whnf
   (refine Rs.c ai (m:=2) rfl rfl rfl rfl rfl rfl ?_)
   repeat' first|refine cR ?_|intro b;conv=>whnf
   refine zh (ρ:=[_,_]) l hlr hrr (Uv _ _ _ _ _) ?_;refine⟨_,rfl,⟨HX.ver,by simp only[yR];exact hnk,λk' M=>?_,HX.nl,HX.ls,HX.nr,HX.rs⟩⟩;rcases yZ M with h'|rfl
   .exact HX.ks k' h'
   .have:=C.dk;exact⟨this.nm,by simp only;omega,this.hi,this.nf,this.fs⟩
  .exact Qj
 .by_cases hin:i<x.kz.length
  .obtain⟨k,U⟩:∃k,x.kz[i]?=some k:=⟨_,zD hin⟩
   have C:=h.ks k (zG U);obtain⟨b2,cap2,o,e4,rfl,hcs⟩:=ab.get hkr (show(x.kz.map aD)[i]?=some (aD k) by rw[qA,U];rfl);rw[zL]at e4
   cases e4
   obtain⟨q1,q2,_⟩:=fA by_ 4;have q2:=q2 (by decide);obtain⟨z,hm,G⟩:=hJ [0,5,65536,65537] (j:=bV by_ 4) ⟨by omega,by simp only[List.length_cons,List.length_nil];omega⟩;simp only[zU,yF,xE]at hm
   repeat' first|refine cR ?_|intro b;conv=>whnf
   refine Ix.at G (by omega) ?_
   repeat' first|refine cR ?_|intro b;conv=>whnf
   have w:(x.kz.map aD).set i ((aD k).set 2 (iD z))=(x.kz.set i ⟨k.name,k.lo,z,k.fields⟩).map aD:=by rw[wL];rfl
   have l:=Mx (d:=(iD z)) hkr (show(x.kz.map aD)[i]?=some (aD k) by rw[qA,U];rfl) (show 2<4 by omega);rw[w]at l;refine Sv.cellm (tb:=78) (cs:=o) (cs':=o.set (i*4+2) (iD z)) (τ:=(b4,ax.cells 27 [iD x.vz,D.v (Value.slice (some ⟨b2,0,none⟩) x.kz.length c1),D.v (Value.slice R x.lz.length J),D.v (Value.slice Q x.rules.length P)])::(E,.cells 27 [D.v (zv (ZV.int IntKind.i64)),.v (zv ZV.sl),.v (zv ZV.sl),.v (zv ZV.sl)])::(I++sl)) gz (by rw[show 0+((i:Nat):Int).toNat*4+2=i*4+2 by simp];exact(zE.1 (hcs 2 (by omega))).1) rfl (by rw[show 0+((i:Nat):Int).toNat*4+2=i*4+2 by simp]) ?_
   repeat' first|refine cR ?_|intro b;conv=>whnf
   (refine Rs.c ai (m:=2) rfl rfl rfl rfl rfl rfl ?_)
   repeat' first|refine cR ?_|intro b;conv=>whnf
   refine zh (ρ:=[_,_]) l hlr hrr (Uv _ _ _ _ _) ?_;refine⟨_,rfl,⟨HX.ver,by simp only[yR];exact hnk,λk' M=>?_,HX.nl,HX.ls,HX.nr,HX.rs⟩⟩;rcases yZ M with h'|rfl
   .exact HX.ks k' h'
   .have:=C.dk;exact⟨this.nm,this.lo,by simp only;omega,this.nf,this.fs⟩
  .exact Qj
 .by_cases hll:0<x.lz.length
  .obtain⟨u,X⟩:∃k,x.lz[0]?=some k:=⟨_,zD hll⟩
   have Z:=h.ls u (zG X);have hlns:=Z.ns;have hlnv:=Z.nv;have O:=Z.dl;obtain⟨b5,cap5,n,e5,rfl,hcs⟩:=ab.get hlr (show(x.lz.map bX)[0]?=some (bX u) by rw[qA,X];rfl);rw[zL]at e5
   cases e5
   have V:n[2]?=some (.sl 2 (u.mz.map cE)):=hcs 2 (by omega);obtain⟨q1,q2,_⟩:=fA by_ 6;have q2:=q2 (by decide);have h6i:=Si hby 6 (by omega);obtain⟨q3,q4,_⟩:=fA (by_.tdiv 6) 6;have q4:=q4 (by decide);have H6:=gv (by_.tdiv 6) 6 h6i
   repeat' first|refine L' ?_|intro b;conv=>whnf
   refine gS ?_;refine pW (i:=4) (d':=.ro [iD x.vz,D.v (Value.slice a1 x.kz.length c1),D.v (Value.slice (some ⟨b5,0,none⟩) x.lz.length J),D.v (Value.slice Q x.rules.length P)]) (τ:=(E,ax.cells 27 [D.v (zv (ZV.int IntKind.i64)),.v (zv ZV.sl),.v (zv ZV.sl),.v (zv ZV.sl)])::(I++([(b5,.cells 93 n)]++S))) rfl (λh=>by cases h) (Vs.ptr (tb:=27) (zH _)) ?_;refine iG mixed ai rfl [0,1,3,4,5,6,9,12,13] 13 (hQ [2,7,8,18,21]) (.two 2 (.one 7 (.one 8 (.fst 10 (.fst 11 (.fst 14 (.fst 15 (.fst 16 (.fst 17 (.one 18 (.fst 19 (.fst 20 (.one 21 .done)))))))))))) 7 (.one 2 (.one 8 (.fst 10 (.fst 11 (.fst 14 (.fst 15 (.fst 16 (.fst 17 (.one 18 (.fst 19 (.fst 20 (.one 21 .done))))))))))))) (γ:=Unit) (λ_=>[]) (λ_=>(b5,.cells 93 (n.set 2 (.sl 2 ((u.mz++[(bV by_ 6-1,bV (by_.tdiv 6) 6-1)]).map cE))))::(E,ax.cells 27 [D.v (zv (ZV.int IntKind.i64)),.v (zv ZV.sl),.v (zv ZV.sl),.v (zv ZV.sl)])::(I++S)) (λ_=>True) (by decide +kernel) ?_ ?_
   .repeat' first|(refine Cb.go (by decide +kernel) (nj (out:=Gn.map sD) (L:=Gn.map λz=>[sD z]) rfl rfl rfl rfl (by kernel_rfl) (by kernel_rfl) rfl rfl ?_))|refine L' ?_|intro b;conv=>whnf|(refine And.intro ?_ ?_<;>(conv=>whnf))|(refine Ix.at G (by omega) ?_)|(refine Sd.go ⟨by decide,⟨h6i.1,h6i.2⟩⟩ ?_)|(refine Ld.cellm (tb:=93) (cs:=n) (by simp) V ?_)|(refine Ap.go rfl rfl rfl rfl hr6 (τ:=(E,ax.cells 27 [D.v (zv (ZV.int IntKind.i64)),.v (zv ZV.sl),.v (zv ZV.sl),.v (zv ZV.sl)])::(I++([(b5,.cells 93 n)]++S))) gz rfl (zs:=(u.mz++[(bV by_ 6-1,bV (by_.tdiv 6) 6-1)]).map cE) (by rw[yB];rfl) (by simp;omega) (by simp;omega) (λF=>(E,ax.cells 27 [D.v (zv (ZV.int IntKind.i64)),.v (zv ZV.sl),.v (zv ZV.sl),.v (zv ZV.sl)])::(F++(I++([(b5,.cells 93 n)]++S)))) (λF=>by refine cV λa=>?_;simp only[du,iM,jI,kq,List.take_succ_cons,List.take_zero,List.drop_succ_cons,List.drop_zero,List.cons_append,List.append_eq,List.nil_append,cU,dn,de,sD,iD]<;>omega) (λa7 c7 s7 K=>?_))|(refine Ap.go rfl rfl rfl rfl (ab.e0 94 2 (some ⟨b,0,none⟩)) (zH ([]++_)) (Sg cE (λ_=>rfl) u.mz) (zs:=(u.mz).map cE) rfl (by simp;omega) (by simp;omega) (λF=>(E,ax.cells 27 [D.v (zv (ZV.int IntKind.i64)),.v (zv ZV.sl),.v (zv ZV.sl),.v (zv ZV.sl)])::(F++(I++([(b5,.cells 93 n)]++S)))) (λF=>by refine cV λa=>?_;simp only[du,iM,jI,kq,List.take_succ_cons,List.take_zero,List.drop_succ_cons,List.drop_zero,List.cons_append,List.append_eq,List.nil_append,cU,dn,de,sD,iD]<;>omega) (λa6 c6 s6 hr6=>?_))|(refine Sv.cellm (tb:=93) (cs:=n) (cs':=n.set 2 (.v (.slice a7 ((u.mz++[(bV by_ 6-1,bV (by_.tdiv 6) 6-1)]).map cE).length c7))) (τ:=(E,ax.cells 27 [D.v (zv (ZV.int IntKind.i64)),.v (zv ZV.sl),.v (zv ZV.sl),.v (zv ZV.sl)])::(s7++(I++S))) gz (zE.1 V).1 rfl rfl ?_)
    all_goals exact⟨(),(ah aJ),YF V K,trivial⟩
   .rintro -;have w:(x.lz.map bX).set 0 ((bX u).set 2 (.sl 2 ((u.mz++[(bV by_ 6-1,bV (by_.tdiv 6) 6-1)]).map cE)))=(x.lz.set 0 ⟨u.name,u.tz,u.mz++[(bV by_ 6-1,bV (by_.tdiv 6) 6-1)]⟩).map bX:=by rw[wL];rfl
    have T:=Mx (d:=.sl 2 ((u.mz++[(bV by_ 6-1,bV (by_.tdiv 6) 6-1)]).map cE)) hlr (show(x.lz.map bX)[0]?=some (bX u) by rw[qA,X];rfl) (show 2<3 by omega);rw[w]at T
    repeat' first|refine tf ?_|intro b;conv=>whnf
    (refine Rs.c ai (m:=1) rfl rfl rfl rfl rfl rfl ?_)
    repeat' first|refine tf ?_|intro b;conv=>whnf
    refine zh (ρ:=[_]) hkr T hrr (pm6 _ _ _ _) ?_;refine⟨_,rfl,⟨HX.ver,HX.nk,HX.ks,by simp only[yR];exact hnl,λl' hl'=>?_,HX.nr,HX.rs⟩⟩;rcases yZ hl' with h'|rfl
    .exact HX.ls l' h'
    .refine⟨O.nm,O.ns,O.st,by simp only[zI,List.length_singleton];omega,λm hm=>(zO.1 hm).elim (O.mv m) λh1=>by rw[zN]at h1;subst h1;simp only;omega⟩
  .repeat' first|refine tf ?_|intro b;conv=>whnf
   (refine Rs.c ai (m:=1) rfl rfl rfl rfl rfl rfl ?_)
   repeat' first|refine tf ?_|intro b;conv=>whnf
   refine zh (ρ:=[_,_]) hkr hlr hrr (RM _ _ _ _ _) ?_;exact⟨_,rfl,HX⟩
 .have h4i:=Si hby 4 (by omega);have h20i:=Si hby 20 (by omega);have hlA:=GM ML (j:=bV by_ 4) bj6 nE;have hmA:=Ly ML (j:=bV by_ 4) bj6 nE;have hlB:=GM N0 (j:=bV (by_.tdiv 4) 5) Z' nE;have hmB:=Ly N0 (j:=bV (by_.tdiv 4) 5) Z' nE;have hlC:=GM NI (j:=bV (by_.tdiv 20) 5) Z9 nE;have hmC:=Ly NI (j:=bV (by_.tdiv 20) 5) Z9 nE;generalize List.getD ML (bV by_ 4).toNat nE=zA at hlA hmA;generalize List.getD N0 (bV (by_.tdiv 4) 5).toNat nE=zB at hlB hmB;generalize List.getD NI (bV (by_.tdiv 20) 5).toNat nE=zC at hlC hmC;obtain⟨q1,q2,_⟩:=fA by_ 50;have q2:=q2 (by decide);obtain⟨p1,p2,_⟩:=fA by_ 4;have p2:=p2 (by decide);obtain⟨s1,s2,_⟩:=fA (by_.tdiv 4) 5;have s2:=s2 (by decide);obtain⟨t1,t2,_⟩:=fA (by_.tdiv 20) 5;have t2:=t2 (by decide);have H4:=gv (by_.tdiv 4) 5 h4i;have H20:=gv (by_.tdiv 20) 5 h20i
  repeat' first|refine Bv ?_|intro b;conv=>whnf
  refine gS ?_;refine iG mixed ai rfl [0,2,3,4,5,6,7,8,9,10,11,12,13,14,15,16,17,18,19,20,21,22,23] 4 (hQ [1,24,26]) (.one 1 (.one 24 (.fst 25 (.one 26 .done)))) (γ:=Value×ae) (λ_=>[]) (λg=>(b4,ax.cells 27 [iD x.vz,D.v (Value.slice a1 x.kz.length c1),D.v (Value.slice R x.lz.length J),D.v g.1])::(E,ax.cells 27 [D.v (zv (ZV.int IntKind.i64)),.v (zv ZV.sl),.v (zv ZV.sl),.v (zv ZV.sl)])::(g.2++(sl++S))) (λg=>SRl (x.rules++[⟨⟨#[102,117,114,116,104,101,114]⟩,zA,zB,zC,bV by_ 50-20⟩]) g.1 g.2) (by decide +kernel) ?_ ?_
  .repeat' first|(refine Cb.go (by decide +kernel) (nj (ps:=OH ML) (out:=ML.map sD) (L:=ML.map λz=>[sD z]) rfl rfl rfl rfl (by kernel_rfl) (by kernel_rfl) rfl rfl ?_))|(refine Cb.go (by decide +kernel) (nj (ps:=OH N0) (out:=N0.map sD) (L:=N0.map λz=>[sD z]) rfl rfl rfl rfl (by kernel_rfl) (by kernel_rfl) rfl rfl ?_))|(refine Cb.go (by decide +kernel) (nj (ps:=OH NI) (out:=NI.map sD) (L:=NI.map λz=>[sD z]) rfl rfl rfl rfl (by kernel_rfl) (by kernel_rfl) rfl rfl ?_))|refine Bv ?_|intro b;conv=>whnf|(refine And.intro ?_ ?_<;>(conv=>whnf))|(refine Ix.at hlA (by omega) ?_)|(refine Ix.at hlB (by omega) ?_)|(refine Ix.at hlC (by omega) ?_)|(refine Sd.go ⟨by decide,⟨h4i.1,h4i.2⟩⟩ ?_)|(refine Sd.go ⟨by decide,⟨h20i.1,h20i.2⟩⟩ ?_)
   refine Ap.go rfl rfl rfl rfl hrr (τ:=(b4,ax.cells 27 [iD x.vz,D.v (Value.slice a1 x.kz.length c1),D.v (Value.slice R x.lz.length J),D.v (Value.slice Q x.rules.length P)])::(E,ax.cells 27 [D.v (zv (ZV.int IntKind.i64)),.v (zv ZV.sl),.v (zv ZV.sl),.v (zv ZV.sl)])::(sl++S)) gz rfl (zs:=(x.rules++[(⟨⟨#[102,117,114,116,104,101,114]⟩,zA,zB,zC,bV by_ 50-20⟩:cH)]).map cX) (by rw[yB];rfl) (by simp;omega) (by simp;omega) (λF=>(b4,ax.cells 27 [iD x.vz,D.v (Value.slice a1 x.kz.length c1),D.v (Value.slice R x.lz.length J),D.v (Value.slice Q x.rules.length P)])::(E,ax.cells 27 [D.v (zv (ZV.int IntKind.i64)),.v (zv ZV.sl),.v (zv ZV.sl),.v (zv ZV.sl)])::(F++(sl++S))) (λF=>by refine cV λa=>?_;simp only[du,iM,jI,kq,List.take_succ_cons,List.take_zero,List.drop_succ_cons,List.drop_zero,List.cons_append,List.append_eq,List.nil_append,cU,dn,de,sD,iD]<;>omega) (λa7 c7 s7 K=>?_)
   repeat' first|refine Bv ?_|intro b;conv=>whnf
   exact⟨(_,s7),(ah aJ),Sc.refl _,K⟩
  .rintro⟨v7,s7⟩ K;simp only at K⊢;obtain⟨a4,c4,rfl⟩:=ab.slice K
   repeat' first|refine L9 ?_|intro b;conv=>whnf
   (refine Rs.c ai (m:=1) rfl rfl rfl rfl rfl rfl ?_)
   repeat' first|refine L9 ?_|intro b;conv=>whnf
   refine zh (ρ:=[_,_]) hkr hlr K (RM _ _ _ _ _) ?_;refine⟨_,rfl,⟨HX.ver,HX.nk,HX.ks,HX.nl,HX.ls,by simp only[zI,List.length_singleton];omega,λr hr=>(zO.1 hr).elim (HX.rs r) λh1=>?_⟩⟩;rw[zN]at h1;subst h1;refine⟨(show(7:Nat)<=12 by decide),?_,?_,?_,by simp only;omega⟩
   .revert hmA;simp only[ML,zU,yF,xE];rintro(rfl|rfl|rfl|rfl)<;>decide
   .revert hmB;simp only[N0,zU,yF,xE];rintro(rfl|rfl|rfl|rfl|rfl)<;>decide
   .revert hmC;simp only[NI,zU,yF,xE];rintro(rfl|rfl|rfl|rfl|rfl)<;>decide
 .by_cases hll:0<x.lz.length
  .obtain⟨u,X⟩:∃k,x.lz[0]?=some k:=⟨_,zD hll⟩
   have Z:=h.ls u (zG X);have hlns:=Z.ns;have hlnv:=Z.nv;have O:=Z.dl;obtain⟨b5,cap5,n,e5,rfl,hcs⟩:=ab.get hlr (show(x.lz.map bX)[0]?=some (bX u) by rw[qA,X];rfl);rw[zL]at e5
   cases e5
   have V:n[1]?=some (gr u.tz):=hcs 1 (by omega);obtain⟨q1,q2,_⟩:=fA by_ 3;have q2:=q2 (by decide);have G:=GM Gn (j:=bV by_ 3) ⟨by omega,by simp only[Gn,List.length_cons,List.length_nil];omega⟩ nE;have hm:=Ly Gn (j:=bV by_ 3) ⟨by omega,by simp only[Gn,List.length_cons,List.length_nil];omega⟩ nE;generalize List.getD Gn (bV by_ 3).toNat nE=z at G hm
   repeat' first|refine L8 ?_|intro b;conv=>whnf
   refine gS ?_;refine pW (i:=4) (d':=.ro [iD x.vz,D.v (Value.slice a1 x.kz.length c1),D.v (Value.slice (some ⟨b5,0,none⟩) x.lz.length J),D.v (Value.slice Q x.rules.length P)]) (τ:=(E,ax.cells 27 [D.v (zv (ZV.int IntKind.i64)),.v (zv ZV.sl),.v (zv ZV.sl),.v (zv ZV.sl)])::(I++([(b5,.cells 93 n)]++S))) rfl (λh=>by cases h) (Vs.ptr (tb:=27) (zH _)) ?_;refine iG mixed ai rfl [0,1,3,4,5,6,9,10] 11 (hQ [2,7,8,15,18]) (.two 2 (.one 7 (.one 8 (.fst 11 (.fst 12 (.fst 13 (.fst 14 (.one 15 (.fst 16 (.fst 17 (.one 18 .done)))))))))) 7 (.one 2 (.one 8 (.fst 11 (.fst 12 (.fst 13 (.fst 14 (.one 15 (.fst 16 (.fst 17 (.one 18 .done))))))))))) (γ:=Unit) (λ_=>[]) (λ_=>(b5,.cells 93 (n.set 1 (.sl 1 ((u.tz++[z]).map λs=>[sD s]))))::(E,ax.cells 27 [D.v (zv (ZV.int IntKind.i64)),.v (zv ZV.sl),.v (zv ZV.sl),.v (zv ZV.sl)])::(I++S)) (λ_=>True) (by decide +kernel) ?_ ?_
   .repeat' first|(refine Cb.go (by decide +kernel) (nj (out:=Gn.map sD) (L:=Gn.map λz=>[sD z]) rfl rfl rfl rfl (by kernel_rfl) (by kernel_rfl) rfl rfl ?_))|refine L8 ?_|intro b;conv=>whnf|(refine And.intro ?_ ?_<;>(conv=>whnf))|(refine Ix.at G (by omega) ?_)|(refine Ld.cellm (tb:=93) (cs:=n) (by simp) V ?_)|(refine Ap.go rfl rfl rfl rfl hr6 (τ:=(E,ax.cells 27 [D.v (zv (ZV.int IntKind.i64)),.v (zv ZV.sl),.v (zv ZV.sl),.v (zv ZV.sl)])::(I++([(b5,.cells 93 n)]++S))) gz rfl (zs:=(u.tz++[z]).map (λs:ByteArray=>[sD s])) (by rw[yB];rfl) (by simp;omega) (by simp;omega) (λF=>(E,ax.cells 27 [D.v (zv (ZV.int IntKind.i64)),.v (zv ZV.sl),.v (zv ZV.sl),.v (zv ZV.sl)])::(F++(I++([(b5,.cells 93 n)]++S)))) (λF=>by refine cV λa=>?_;simp only[du,iM,jI,kq,List.take_succ_cons,List.take_zero,List.drop_succ_cons,List.drop_zero,List.cons_append,List.append_eq,List.nil_append,cU,dn,de,sD,iD]<;>omega) (λa7 c7 s7 K=>?_))|(refine Ap.go rfl rfl rfl rfl (ab.e0 9 1 (some ⟨b,0,none⟩)) (zH ([]++_)) (Sg (λs:ByteArray=>[sD s]) (λ_=>rfl) u.tz) (zs:=(u.tz).map (λs:ByteArray=>[sD s])) rfl (by simp;omega) (by simp;omega) (λF=>(E,ax.cells 27 [D.v (zv (ZV.int IntKind.i64)),.v (zv ZV.sl),.v (zv ZV.sl),.v (zv ZV.sl)])::(F++(I++([(b5,.cells 93 n)]++S)))) (λF=>by refine cV λa=>?_;simp only[du,iM,jI,kq,List.take_succ_cons,List.take_zero,List.drop_succ_cons,List.drop_zero,List.cons_append,List.append_eq,List.nil_append,cU,dn,de,sD,iD]<;>omega) (λa6 c6 s6 hr6=>?_))|(refine Sv.cellm (tb:=93) (cs:=n) (cs':=n.set 1 (.v (.slice a7 ((u.tz++[z]).map (λs:ByteArray=>[sD s])).length c7))) (τ:=(E,ax.cells 27 [D.v (zv (ZV.int IntKind.i64)),.v (zv ZV.sl),.v (zv ZV.sl),.v (zv ZV.sl)])::(s7++(I++S))) gz (zE.1 V).1 rfl rfl ?_)
    all_goals exact⟨(),(ah aJ),YF V K,trivial⟩
   .rintro -;have w:(x.lz.map bX).set 0 ((bX u).set 1 (.sl 1 ((u.tz++[z]).map (λs:ByteArray=>[sD s]))))=(x.lz.set 0 ⟨u.name,u.tz++[z],u.mz⟩).map bX:=by rw[wL];rfl
    have T:=Mx (d:=.sl 1 ((u.tz++[z]).map (λs:ByteArray=>[sD s]))) hlr (show(x.lz.map bX)[0]?=some (bX u) by rw[qA,X];rfl) (show 1<3 by omega);rw[w]at T
    repeat' first|refine kw ?_|intro b;conv=>whnf
    (refine Rs.c ai (m:=1) rfl rfl rfl rfl rfl rfl ?_)
    repeat' first|refine kw ?_|intro b;conv=>whnf
    refine zh (ρ:=[_]) hkr T hrr (pm6 _ _ _ _) ?_;refine⟨_,rfl,⟨HX.ver,HX.nk,HX.ks,by simp only[yR];exact hnl,λl' hl'=>?_,HX.nr,HX.rs⟩⟩;rcases yZ hl' with h'|rfl
    .exact HX.ls l' h'
    .refine⟨O.nm,by simp only[zI,List.length_singleton];omega,λs hs=>(zO.1 hs).elim (O.st s) λh1=>by rw[zN]at h1;subst h1;revert hm;simp only[Gn,zU,yF,xE];rintro(rfl|rfl|rfl)<;>decide,O.nv,O.mv⟩
  .repeat' first|refine kw ?_|intro b;conv=>whnf
   (refine Rs.c ai (m:=1) rfl rfl rfl rfl rfl rfl ?_)
   repeat' first|refine kw ?_|intro b;conv=>whnf
   refine zh (ρ:=[_,_]) hkr hlr hrr (RM _ _ _ _ _) ?_;exact⟨_,rfl,HX⟩
 .by_cases hin:i<x.kz.length
  .obtain⟨k,U⟩:∃k,x.kz[i]?=some k:=⟨_,zD hin⟩
   have C:=h.ks k (zG U);obtain⟨b2,cap2,o,e4,rfl,hcs⟩:=ab.get hkr (show(x.kz.map aD)[i]?=some (aD k) by rw[qA,U];rfl);rw[zL]at e4
   cases e4
   have hnf:=C.nf
   repeat' first|refine kw ?_|intro b;conv=>whnf
   refine Ld.cellm (tb:=78) (cs:=o) (by simp) (by rw[show 0+((i:Nat):Int).toNat*4+3=i*4+3 by simp];exact hcs 3 (by omega)) ?_
   repeat' first|refine kw ?_|intro b;conv=>whnf
   refine Ap.go rfl rfl rfl rfl (ab.e0 81 8 (some ⟨b,0,none⟩)) (zH ([]++_)) (Sg aA (λ_=>rfl) k.fields) (zs:=k.fields.map aA) rfl (by simp;omega) (by simp;omega) (λF=>(b4,ax.cells 27 [iD x.vz,D.v (Value.slice (some ⟨b2,0,none⟩) x.kz.length c1),D.v (Value.slice R x.lz.length J),D.v (Value.slice Q x.rules.length P)])::(E,ax.cells 27 [D.v (zv (ZV.int IntKind.i64)),.v (zv ZV.sl),.v (zv ZV.sl),.v (zv ZV.sl)])::(F++(I++(sl++[(b2,.cells 78 o)])))) (λF=>by refine cV λa=>?_;simp only[du,iM,jI,kq,List.take_succ_cons,List.take_zero,List.drop_succ_cons,List.drop_zero,List.cons_append,List.append_eq,List.nil_append,cU,dn,de,sD,iD]<;>omega) (λa5 c5 sf hfr=>?_);obtain⟨a5,c5,e5⟩:∃a c,Value.slice a5 (k.fields.map aA).length c5=Value.slice a k.fields.length c:=⟨a5,c5,by rw[zL]⟩
   rw[e5]at hfr⊢;have h3i:=Si hat 3 (by omega);have HJ:=gv (at_.tdiv 3) k.fields.length h3i;obtain⟨j1,j2,j3⟩:=fA (at_.tdiv 3) k.fields.length;obtain⟨j,hj⟩:∃j:Nat,bV (at_.tdiv 3) k.fields.length=j:=⟨(bV (at_.tdiv 3) k.fields.length).toNat,by omega⟩
   rw[hj]at HJ
   repeat' first|refine ed ?_|intro b;conv=>whnf
   refine Sd.go ⟨by decide,⟨h3i.1,h3i.2⟩⟩ ?_;by_cases hjn:j<k.fields.length
   .obtain⟨f,hf⟩:∃f,k.fields[j]?=some f:=⟨_,zD hjn⟩
    have h8i:=Si hhow 8 (by omega);obtain⟨b3,cap3,cs3,e6,rfl,hcs3⟩:=ab.get hfr (show(k.fields.map aA)[j]?=some (aA f) by rw[qA,hf];rfl);rw[zL]at e6
    cases e6
    have hl8:j*8+8<=cs3.length:=by have:=(zE.1 (hcs3 7 (by omega))).1;omega
    repeat' first|refine ed ?_|intro b;conv=>whnf
    refine pB3 (tb:=81) (cs:=cs3) (x:=aA f) (by simp) rfl (by decide) (λq hq=>by rw[show 0+((j:Nat):Int).toNat*8+q=j*8+q by simp];exact hcs3 q hq) ?_
    repeat' first|refine ed ?_|intro b;conv=>whnf
    refine Sd.go ⟨by decide,⟨h8i.1,h8i.2⟩⟩ ?_
    repeat' first|refine ed ?_|intro b;conv=>whnf
    refine CE.some (aQ6 f (C.fs f (zG hf)) (how.tdiv 8) by_ h8i hby) ?_;rintro _ ⟨f',rfl,hf'⟩;have hf1:=ab.put hfr (i:=j) (x':=aA f') (by rw[zL];exact hjn) rfl;rw[show(k.fields.map aA).set j (aA f')=(k.fields.set j f').map aA by rw[wL]]at hf1
    repeat' first|refine ed ?_|intro b;conv=>whnf
    refine Sv.perm (tb:=81) (cs:=cs3) (cs':=dQ cs3 (j*8) (aA f')) (τ:=(b4,ax.cells 27 [iD x.vz,D.v (Value.slice (some ⟨b2,0,none⟩) x.kz.length c1),D.v (Value.slice R x.lz.length J),D.v (Value.slice Q x.rules.length P)])::(E,ax.cells 27 [D.v (zv (ZV.int IntKind.i64)),.v (zv ZV.sl),.v (zv ZV.sl),.v (zv ZV.sl)])::(I++(sl++[(b2,.cells 78 o)]))) gz rfl (by rw[show 0+((j:Nat):Int).toNat*8=j*8 by simp];exact hl8) rfl (by rw[show 0+((j:Nat):Int).toNat*8=j*8 by simp];try rfl) ?_;generalize dQ cs3 (j*8) (aA f')=cs4 at *
    repeat' first|refine ed ?_|intro b;conv=>whnf
    have Y:=Sc.frz (b:=b2) (t:=78) (τ:=(b4,ax.cells 27 [iD x.vz,D.v (Value.slice (some ⟨b2,0,none⟩) x.kz.length c1),D.v (Value.slice R x.lz.length J),D.v (Value.slice Q x.rules.length P)])::(E,ax.cells 27 [iD x.vz,D.v (Value.slice (some ⟨b2,0,none⟩) x.kz.length c1),D.v (Value.slice R x.lz.length J),D.v (Value.slice Q x.rules.length P)])::(I++sl)) (xI (a:=D.v (.slice (some ⟨b3,0,none⟩) k.fields.length c5)) (zE.1 (hcs 3 (by omega))).1) hf1 (ec.refl _);rw[List.set_set]at Y;change Sc _ ((b2,.cells 78 (o.set (i*4+3) (mV (k.fields.set j f'))))::_)at Y;have l:=Mx (d:=mV (k.fields.set j f')) hkr (show(x.kz.map aD)[i]?=some (aD k) by rw[qA,U];rfl) (show 3<4 by omega);rw[show(x.kz.map aD).set i ((aD k).set 3 (mV (k.fields.set j f')))=(x.kz.set i ⟨k.name,k.lo,k.hi,(k.fields.set j f')⟩).map aD by rw[wL];rfl]at l;refine Sv.cellm (tb:=78) (cs:=o) (cs':=o.set (i*4+3) (.v (.slice (some ⟨b3,0,none⟩) k.fields.length c5))) (τ:=(b4,ax.cells 27 [iD x.vz,D.v (Value.slice (some ⟨b2,0,none⟩) x.kz.length c1),D.v (Value.slice R x.lz.length J),D.v (Value.slice Q x.rules.length P)])::(E,ax.cells 27 [D.v (zv (ZV.int IntKind.i64)),.v (zv ZV.sl),.v (zv ZV.sl),.v (zv ZV.sl)])::([(b3,ax.cells 81 cs4)]++(I++sl))) gz Z8 rfl (by rw[show 0+((i:Nat):Int).toNat*4+3=i*4+3 by simp]) ?_
    repeat' first|refine ed ?_|intro b;conv=>whnf
    (refine Rs.c ai (m:=2) rfl rfl rfl rfl rfl rfl ?_)
    repeat' first|refine ed ?_|intro b;conv=>whnf
    refine Rt.scd ((Sc.perm gz).trans Y) ?_;refine zh (ρ:=[_,_]) l hlr hrr (Uv _ _ _ _ _) ?_;refine⟨_,rfl,⟨HX.ver,by simp only[yR];exact hnk,λk' M=>?_,HX.nl,HX.ls,HX.nr,HX.rs⟩⟩;rcases yZ M with h'|rfl
    .exact HX.ks k' h'
    .refine⟨C.dk.nm,C.dk.lo,C.dk.hi,by simp only[yR];exact hnf,λg hg=>?_⟩;rcases yZ hg with h'|rfl
     .exact(C.fs g h').df
     .exact hf'
   .have hf1:=hfr
    repeat' first|refine ed ?_|intro b;conv=>whnf
    have Y:=Sc.frz (b:=b2) (t:=78) (τ:=(b4,ax.cells 27 [iD x.vz,D.v (Value.slice (some ⟨b2,0,none⟩) x.kz.length c1),D.v (Value.slice R x.lz.length J),D.v (Value.slice Q x.rules.length P)])::(E,ax.cells 27 [iD x.vz,D.v (Value.slice (some ⟨b2,0,none⟩) x.kz.length c1),D.v (Value.slice R x.lz.length J),D.v (Value.slice Q x.rules.length P)])::(I++sl)) (xI (a:=D.v (.slice a5 k.fields.length c5)) (zE.1 (hcs 3 (by omega))).1) hf1 (ec.refl _);rw[List.set_set]at Y;change Sc _ ((b2,.cells 78 (o.set (i*4+3) (mV k.fields)))::_)at Y;have l:=Mx (d:=mV k.fields) hkr (show(x.kz.map aD)[i]?=some (aD k) by rw[qA,U];rfl) (show 3<4 by omega);rw[show(x.kz.map aD).set i ((aD k).set 3 (mV k.fields))=(x.kz.set i ⟨k.name,k.lo,k.hi,k.fields⟩).map aD by rw[wL];rfl]at l;refine Sv.cellm (tb:=78) (cs:=o) (cs':=o.set (i*4+3) (.v (.slice a5 k.fields.length c5))) (τ:=(b4,ax.cells 27 [iD x.vz,D.v (Value.slice (some ⟨b2,0,none⟩) x.kz.length c1),D.v (Value.slice R x.lz.length J),D.v (Value.slice Q x.rules.length P)])::(E,ax.cells 27 [D.v (zv (ZV.int IntKind.i64)),.v (zv ZV.sl),.v (zv ZV.sl),.v (zv ZV.sl)])::(sf++(I++sl))) gz Z8 rfl (by rw[show 0+((i:Nat):Int).toNat*4+3=i*4+3 by simp]) ?_
    repeat' first|refine ed ?_|intro b;conv=>whnf
    (refine Rs.c ai (m:=2) rfl rfl rfl rfl rfl rfl ?_)
    repeat' first|refine ed ?_|intro b;conv=>whnf
    refine Rt.scd ((Sc.perm gz).trans Y) ?_;refine zh (ρ:=[_,_]) l hlr hrr (Uv _ _ _ _ _) ?_;refine⟨_,rfl,⟨HX.ver,by simp only[yR];exact hnk,λk' M=>?_,HX.nl,HX.ls,HX.nr,HX.rs⟩⟩;rcases yZ M with h'|rfl
    .exact HX.ks k' h'
    .exact C.dk
  .repeat' first|refine ed ?_|intro b;conv=>whnf
   (refine Rs.c ai (m:=1) rfl rfl rfl rfl rfl rfl ?_)
   repeat' first|refine ed ?_|intro b;conv=>whnf
   refine zh (ρ:=[_,_]) hkr hlr hrr (RM _ _ _ _ _) ?_;exact⟨_,rfl,HX⟩
end
end Go.Proofs.YtilnpcolgcmofaaGreatDoor
