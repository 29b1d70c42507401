/- A part of the proof: Is. -/
import Derived.Test.YtlcfiilejnnlnaaGreatDoorK12
set_option maxRecDepth 100000
set_option maxHeartbeats 20000000
set_option linter.all false
namespace Go.Proofs.YtlcfiilejnnlnaaGreatDoor
open Tryz
section
open Go Go.RowKit Go.Shelf
abbrev SKn (ks:List Knd) (v:Value) (s:aa1):Prop:=RowIs 85 4 (ks.map kndC) v s
abbrev SLf (l:List Lif) (v:Value) (s:aa1):Prop:=RowIs 89 3 (l.map lifC) v s
abbrev SRl (l:List Rul) (v:Value) (s:aa1):Prop:=RowIs 92 5 (l.map rulC) v s
theorem aH4 {α:Type} (g:α->List D) (h:∀ a,(g a).all oneD=true) (l:List α):((l.map g).all fun y=>y.all oneD)=true:=by
 rw [yA];intro y hy;obtain⟨f,_,rfl⟩:=xM.1 hy;exact h f
theorem aC4 {R:D->aa1->Prop} {σ ρ sk sl sr:aa1} {n:Int} {ks:List Knd} {ls:List Lif} {rs:List Rul} {v1 v2 v3:Value} (hk:SKn ks v1 sk) (hl:SLf ls v2 sl) (hr:SRl rs v3 sr) (hp:σ.Perm (sk++(sl++(sr++ρ)))) (k:R (schD ⟨n,ks,ls,rs⟩) []):Rt R (.agg [iD n,.v v1,.v v2,.v v3]) σ:=
 have h0:∀ {σ:aa1} (z:Nat),z∈aa6 ([]:aa1)->z∈aa6 σ:=fun z h=>by cases h
 Rt.by (σ':=[]) (Vs.vd ⟨σ,by rw [zZ]⟩ (Vd.agg (.cons (Vd.same h0 _) (.cons (Vd.row hk hp h0) (.cons (Vd.row (ρ:=sk++(sr++ρ)) hl (hp.trans (by rw [← zV,← zV sl];exact yT.append_right _)) h0) (.cons (Vd.row (ρ:=sk++(sl++ρ)) hr (hp.trans (by refine ac3 fun a=>?_;simp only [List.cons_append,List.append_eq,List.nil_append,ac4,af0,ae9]<;>omega)) h0) .nil)))))) k
theorem pm3 (x y:Nat × Blk) (s t u:aa1):(x::y::(s++(t++u))).Perm (u++(t++(s++[x,y]))):=by refine ac3 fun a=>?_;simp only [schC,slL,slR,slK,List.take_succ_cons,List.take_zero,List.drop_succ_cons,List.drop_zero,List.cons_append,List.append_eq,List.nil_append,ac4,af0,ae9,sD,iD]<;>omega
theorem pm4 (x y z:Nat × Blk) (s t:aa1):(x::y::z::(s++t)).Perm ([x]++(t++(s++[y,z]))):=by refine ac3 fun a=>?_;simp only [schC,slL,slR,slK,List.take_succ_cons,List.take_zero,List.drop_succ_cons,List.drop_zero,List.cons_append,List.append_eq,List.nil_append,ac4,af0,ae9,sD,iD]<;>omega
theorem pm6 (x y:Nat × Blk) (s t:aa1):(x::y::(s++t)).Perm (t++([x]++(s++[y]))):=by refine ac3 fun a=>?_;simp only [schC,slL,slR,slK,List.take_succ_cons,List.take_zero,List.drop_succ_cons,List.drop_zero,List.cons_append,List.append_eq,List.nil_append,ac4,af0,ae9,sD,iD]<;>omega
theorem pm5 (x y z:Nat × Blk) (s t:aa1):(x::y::z::(s++t)).Perm (t++([x]++(s++[y,z]))):=by refine ac3 fun a=>?_;simp only [schC,slL,slR,slK,List.take_succ_cons,List.take_zero,List.drop_succ_cons,List.drop_zero,List.cons_append,List.append_eq,List.nil_append,ac4,af0,ae9,sD,iD]<;>omega
def snL:List ByteArray:=[⟨#[109,111,114,101]⟩,⟨#[110,101,119]⟩,⟨#[63]⟩]
theorem cl22 {p:Prop} (h:p:=by refine ac3 fun a=>?_;simp only [schC,slL,slR,slK,List.take_succ_cons,List.take_zero,List.drop_succ_cons,List.drop_zero,List.cons_append,List.append_eq,List.nil_append,ac4,af0,ae9,sD,iD]<;>omega):p:=h
theorem frz5 {b:Nat} {t e:TypeId} {cs:List D} {j k:Nat} {d:D} {xs:List (List D)} {v:Value} {s τ:aa1} {y:Nat × Blk} (hj:cs[j]?=some d) (h:RowIs e k xs v s):Sc ((b,.cells t (cs.set j (.v v)))::y::(s++τ)) ((b,.cells t (cs.set j (.sl k xs)))::y::τ):=by
 have h1:=Sc.frz (b:=b) (t:=t) (τ:=y::τ) (xI (a:=D.v v) (zE.1 hj).1) h (LeR.refl _);rw [List.set_set] at h1;exact (Sc.perm cl22).trans h1
theorem Rt.scd {R:D->aa1->Prop} {d:D} {σ τ:aa1} (h:Sc σ τ) (k:Rt R d τ):Rt R d σ:=by
 obtain⟨d',τ',h1,h2⟩:=k;exact Rt.by ((Vs.sc h d).trans h1) h2
def kdL:List ByteArray:=[⟨#[112,101,114,115,111,110]⟩,⟨#[111,114,100,101,114]⟩,⟨#[110,111,110,101]⟩,⟨#[]⟩]
def aaL:List ByteArray:=[⟨#[115,105,122,101]⟩,⟨#[108,111,119]⟩,⟨#[]⟩,⟨#[105,100]⟩,⟨#[98,111,114,110]⟩]
def bbL:List ByteArray:=[⟨#[104,105,103,104]⟩,⟨#[]⟩,⟨#[115,105,122,101]⟩,⟨#[108,101,102,116]⟩,⟨#[116,97,103]⟩]
def strA (l:List ByteArray):Array (Nat × Operand):=((List.range l.length).zip (l.map fun s=>Operand.const (.string s))).toArray
theorem sk107 {A B:Prop} (k:B) (h:Hd7 B->A:=by intro q7;(first|refine sb0 ?_|refine sb65 ?_|(refine' cp7x ?hc ?_;(case hc=>first|exact ab0 at_ _ hat|exact ab0 how _ hhow|exact ab0 by_ _ hby)));exact q7.1):A:=h ⟨k⟩
theorem sk108 {A B:Prop} (k:B) (h:Hd7 B->A:=by intro q7;(first|refine sb0 ?_|refine sb1 ?_|(refine' cp7x ?hc ?_;(case hc=>first|exact ab0 at_ _ hat|exact ab0 how _ hhow|exact ab0 by_ _ hby)));exact q7.1):A:=h ⟨k⟩
theorem sk109 {A B:Prop} (k:B) (h:Hd7 B->A:=by intro q7;(first|refine sb0 ?_|refine sb1 ?_|(refine' cp7x ?hc ?_;(case hc=>first|exact HH|exact HA|exact ab0 by_ _ hby)));exact q7.1):A:=h ⟨k⟩
theorem sk110 {A B:Prop} (k:B) (h:Hd7 B->A:=by intro q7;(first|refine sb0 ?_|refine sb67 ?_|(refine' cp7x ?hc ?_;(case hc=>first|exact HH|exact HA|exact ab0 by_ _ hby|exact H6)));exact q7.1):A:=h ⟨k⟩
theorem sk111 {A B:Prop} (k:B) (h:Hd7 B->A:=by intro q7;(first|refine sb0 ?_|refine sb98 ?_|(refine' cp7x ?hc ?_;(case hc=>first|exact HH|exact HA|exact ab0 by_ _ hby|exact H6)));exact q7.1):A:=h ⟨k⟩
theorem sk112 {A B:Prop} (k:B) (h:Hd7 B->A:=by intro q7;(first|refine sb0 ?_|refine sb67 ?_|(refine' cp7x ?hc ?_;(case hc=>first|exact HH|exact HA|exact ab0 by_ _ hby|exact H4|exact H20)));exact q7.1):A:=h ⟨k⟩
theorem sk113 {A B:Prop} (k:B) (h:Hd7 B->A:=by intro q7;(first|refine sb0 ?_|refine sb98 ?_|(refine' cp7x ?hc ?_;(case hc=>first|exact HH|exact HA|exact ab0 by_ _ hby|exact H4|exact H20)));exact q7.1):A:=h ⟨k⟩
theorem sk114 {A B:Prop} (k:B) (h:Hd7 B->A:=by intro q7;(first|refine sb0 ?_|refine sb67 ?_|(refine' cp7x ?hc ?_;(case hc=>first|exact HH|exact HA|exact ab0 by_ _ hby)));exact q7.1):A:=h ⟨k⟩
theorem sk115 {A B:Prop} (k:B) (h:Hd7 B->A:=by intro q7;(first|refine sb0 ?_|refine sb98 ?_|(refine' cp7x ?hc ?_;(case hc=>first|exact HH|exact HA|exact ab0 by_ _ hby)));exact q7.1):A:=h ⟨k⟩
theorem sk116 {A B:Prop} (k:B) (h:Hd7 B->A:=by intro q7;(first|refine sb0 ?_|refine sb98 ?_|(refine' cp7x ?hc ?_;(case hc=>first|exact HH|exact HA|exact HJ)));exact q7.1):A:=h ⟨k⟩
theorem cl23 {p:Prop} (h:p:=by obtain⟨q1,q2,_⟩:=ah6 by_ 4;have q2:=q2 (by decide);exact⟨by omega,by simp only [kdL,List.length_cons,List.length_nil];omega⟩):p:=h
theorem cl24 {p:Prop} (h:p:=by obtain⟨q1,q2,_⟩:=ah6 (by_.tdiv 4) 5;have q2:=q2 (by decide);exact⟨by omega,by simp only [aaL,List.length_cons,List.length_nil];omega⟩):p:=h
theorem cl25 {p:Prop} (h:p:=by obtain⟨q1,q2,_⟩:=ah6 (by_.tdiv 20) 5;have q2:=q2 (by decide);exact⟨by omega,by simp only [bbL,List.length_cons,List.length_nil];omega⟩):p:=h
theorem cl26 {p:Prop} (h:p:=by rw [show 0+((i:Nat):Int).toNat*4+3=i*4+3 by simp];exact (zE.1 (hcs 3 (by omega))).1):p:=h
theorem bu8 (x:Sch) (h:Cls x) (at_ how by_:Int) (hat:I64n at_) (hhow:I64n how) (hby:I64n by_):ASome prog 31 [schD x,iD at_,iD how,iD by_] (fun r=>∃ y,r=schD y/\Dls y):=by
 refine ASome.of_call ?_;have hnk:=h.nk;have hnl:=h.nl;have hnr:=h.nr;have HX:=h.dls;refine eC7 func31 ntmps31 fun BB=>?_
 repeat' first|refine sk107 ?_|intro b;conv=>whnf
 refine Bx.r (OtE.box rfl rfl (fun b4=>?_))
 repeat' first|refine sk108 ?_|intro b;conv=>whnf
 rename_i b8;refine Ap.go rfl rfl rfl rfl (RowIs.e0 85 4 (some ⟨b,0,none⟩)) (zH ([]++_)) (aH4 kndC (fun _=>rfl) x.kz) (zs:=x.kz.map kndC) rfl (by simp;omega) (by simp;omega) (fun s'=>(b4,.cells 28 (schC x))::(b8,.cells 28 [D.v (zv (ZV.int IntKind.i64)),.v (zv ZV.sl),.v (zv ZV.sl),.v (zv ZV.sl)])::s') (fun s'=>by refine ac3 fun a=>?_;simp only [schC,slL,slR,slK,List.take_succ_cons,List.take_zero,List.drop_succ_cons,List.drop_zero,List.cons_append,List.append_eq,List.nil_append,ac4,af0,ae9,sD,iD]<;>omega) (fun a1 c1 sk hkr=>?_);obtain⟨a1,c1,e1⟩:∃ a c,Value.slice a1 (x.kz.map kndC).length c1=Value.slice a x.kz.length c:=⟨a1,c1,by rw [zL]⟩
 rw [e1] at hkr ⊢
 repeat' first|refine sk108 ?_|intro b;conv=>whnf
 refine Ap.go rfl rfl rfl rfl (RowIs.e0 89 3 (some ⟨b,0,none⟩)) (zH ([]++_)) (aH4 lifC (fun _=>rfl) x.lz) (zs:=x.lz.map lifC) rfl (by simp;omega) (by simp;omega) (fun s'=>(b4,.cells 28 [iD x.vz,.v (.slice a1 x.kz.length c1),slL x.lz,slR x.rules])::(b8,.cells 28 [D.v (zv (ZV.int IntKind.i64)),.v (zv ZV.sl),.v (zv ZV.sl),.v (zv ZV.sl)])::(s'++sk)) (fun s'=>by refine ac3 fun a=>?_;simp only [schC,slL,slR,slK,List.take_succ_cons,List.take_zero,List.drop_succ_cons,List.drop_zero,List.cons_append,List.append_eq,List.nil_append,ac4,af0,ae9,sD,iD]<;>omega) (fun a2 c2 sl hlr=>?_);obtain⟨a2,c2,e2⟩:∃ a c,Value.slice a2 (x.lz.map lifC).length c2=Value.slice a x.lz.length c:=⟨a2,c2,by rw [zL]⟩
 rw [e2] at hlr ⊢
 repeat' first|refine sk108 ?_|intro b;conv=>whnf
 refine Ap.go rfl rfl rfl rfl (RowIs.e0 92 5 (some ⟨b,0,none⟩)) (zH ([]++_)) (aH4 rulC (fun _=>rfl) x.rules) (zs:=x.rules.map rulC) rfl (by simp;omega) (by simp;omega) (fun s'=>(b4,.cells 28 [iD x.vz,.v (.slice a1 x.kz.length c1),.v (.slice a2 x.lz.length c2),slR x.rules])::(b8,.cells 28 [D.v (zv (ZV.int IntKind.i64)),.v (zv ZV.sl),.v (zv ZV.sl),.v (zv ZV.sl)])::(s'++(sl++sk))) (fun s'=>by refine ac3 fun a=>?_;simp only [schC,slL,slR,slK,List.take_succ_cons,List.take_zero,List.drop_succ_cons,List.drop_zero,List.cons_append,List.append_eq,List.nil_append,ac4,af0,ae9,sD,iD]<;>omega) (fun a3 c3 sr hrr=>?_);obtain⟨a3,c3,e3⟩:∃ a c,Value.slice a3 (x.rules.map rulC).length c3=Value.slice a x.rules.length c:=⟨a3,c3,by rw [zL]⟩
 rw [e3] at hrr ⊢;have ha:=ah6 at_ x.kz.length;have hh:=ah6 how 8;obtain⟨i,hi⟩:∃ i:Nat,arE at_ x.kz.length=i:=⟨(arE at_ x.kz.length).toNat,by omega⟩
 obtain⟨hh1,hh2,_⟩:=hh;have hh2:=hh2 (by decide);have HH:=ab0 how 8 hhow;generalize arE how 8=hw at *;have HA:=ab0 at_ x.kz.length hat;rw [hi] at HA;rcases (by omega:hw=0\/hw=1\/hw=2\/hw=3\/hw=4\/hw=5\/hw=6\/hw=7) with e|e|e|e|e|e|e|e
 ·have hver:=h.ver;obtain⟨q1,q2,_⟩:=ah6 by_ 4;have q2:=q2 (by decide);obtain⟨z,hm,hli⟩:=ba2 [x.vz+1,-1,1048576,1048577] (j:=arE by_ 4) ⟨by omega,by simp only [List.length_cons,List.length_nil];omega⟩;simp only [zU,yF,xE] at hm
  repeat' first|refine sk109 ?_|intro b;conv=>whnf
  refine Ix.at hli (by omega) ?_
  repeat' first|refine sk109 ?_|intro b;conv=>whnf
  (refine Rs.c aa0 (m:=1) rfl rfl rfl rfl rfl rfl ?_)
  repeat' first|refine sk109 ?_|intro b;conv=>whnf
  refine aC4 (ρ:=[_,_]) hkr hlr hrr (pm3 _ _ _ _ _) ?_;exact⟨_,rfl,⟨by simp only;omega,HX.nk,HX.ks,HX.nl,HX.ls,HX.nr,HX.rs⟩⟩
 ·by_cases hin:i<x.kz.length
  ·obtain⟨k,hk⟩:∃ k,x.kz[i]?=some k:=⟨_,zD hin⟩
   have hck:=h.ks k (zG hk);obtain⟨b2,cap2,cs2,e4,rfl,hcs⟩:=RowIs.get hkr (show (x.kz.map kndC)[i]?=some (kndC k) by rw [zP,hk];rfl);rw [zL] at e4
   cases e4
   obtain⟨q1,q2,_⟩:=ah6 by_ 4;have q2:=q2 (by decide);have hli:=aK3 [⟨#[112,101,114,115,111,110]⟩,⟨#[]⟩,⟨#[111,116,104,101,114]⟩,⟨#[97,32,98]⟩] (j:=arE by_ 4) ⟨by omega,by simp only [List.length_cons,List.length_nil];omega⟩ nE;have hm:=aE9 [⟨#[112,101,114,115,111,110]⟩,⟨#[]⟩,⟨#[111,116,104,101,114]⟩,⟨#[97,32,98]⟩] (j:=arE by_ 4) ⟨by omega,by simp only [List.length_cons,List.length_nil];omega⟩ nE;generalize List.getD [⟨#[112,101,114,115,111,110]⟩,⟨#[]⟩,⟨#[111,116,104,101,114]⟩,⟨#[97,32,98]⟩] (arE by_ 4).toNat nE=z at hli hm
   repeat' first|refine sk109 ?_|intro b;conv=>whnf
   refine Ix.at hli (by omega) ?_
   repeat' first|refine sk109 ?_|intro b;conv=>whnf
   have hnew:(x.kz.map kndC).set i ((kndC k).set 0 (sD z))=(x.kz.set i ⟨z,k.lo,k.hi,k.fields⟩).map kndC:=by rw [wL];rfl
   have hkr1:=pA7 (d:=(sD z)) hkr (show (x.kz.map kndC)[i]?=some (kndC k) by rw [zP,hk];rfl) (show 0<4 by omega);rw [hnew] at hkr1;refine Sv.cellm (tb:=85) (cs:=cs2) (cs':=cs2.set (i*4+0) (sD z)) (τ:=(b4,Blk.cells 28 [iD x.vz,D.v (Value.slice (some ⟨b2,0,none⟩) x.kz.length c1),D.v (Value.slice a2 x.lz.length c2),D.v (Value.slice a3 x.rules.length c3)])::(b8,.cells 28 [D.v (zv (ZV.int IntKind.i64)),.v (zv ZV.sl),.v (zv ZV.sl),.v (zv ZV.sl)])::(sr++sl)) cl22 (by rw [show 0+((i:Nat):Int).toNat*4+0=i*4+0 by simp];exact (zE.1 (hcs 0 (by omega))).1) rfl (by rw [show 0+((i:Nat):Int).toNat*4+0=i*4+0 by simp]) ?_
   repeat' first|refine sk109 ?_|intro b;conv=>whnf
   (refine Rs.c aa0 (m:=2) rfl rfl rfl rfl rfl rfl ?_)
   repeat' first|refine sk109 ?_|intro b;conv=>whnf
   refine aC4 (ρ:=[_,_]) hkr1 hlr hrr (pm4 _ _ _ _ _) ?_;refine⟨_,rfl,⟨HX.ver,by simp only [yR];exact hnk,fun k' hk'=>?_,HX.nl,HX.ls,HX.nr,HX.rs⟩⟩;rcases yZ hk' with h' | rfl
   ·exact HX.ks k' h'
   ·have:=hck.dk;exact⟨by revert hm;simp only [zU,yF,xE];rintro (rfl|rfl|rfl|rfl)<;>decide,this.lo,this.hi,this.nf,this.fs⟩
  ·repeat' first|refine sk109 ?_|intro b;conv=>whnf
   (refine Rs.c aa0 (m:=1) rfl rfl rfl rfl rfl rfl ?_)
   repeat' first|refine sk109 ?_|intro b;conv=>whnf
   refine aC4 (ρ:=[_,_]) hkr hlr hrr (pm3 _ _ _ _ _) ?_;exact⟨_,rfl,HX⟩
 ·by_cases hin:i<x.kz.length
  ·obtain⟨k,hk⟩:∃ k,x.kz[i]?=some k:=⟨_,zD hin⟩
   have hck:=h.ks k (zG hk);obtain⟨b2,cap2,cs2,e4,rfl,hcs⟩:=RowIs.get hkr (show (x.kz.map kndC)[i]?=some (kndC k) by rw [zP,hk];rfl);rw [zL] at e4
   cases e4
   obtain⟨q1,q2,_⟩:=ah6 by_ 4;have q2:=q2 (by decide);obtain⟨z,hm,hli⟩:=ba2 [0,5,-1,65537] (j:=arE by_ 4) ⟨by omega,by simp only [List.length_cons,List.length_nil];omega⟩;simp only [zU,yF,xE] at hm
   repeat' first|refine sk109 ?_|intro b;conv=>whnf
   refine Ix.at hli (by omega) ?_
   repeat' first|refine sk109 ?_|intro b;conv=>whnf
   have hnew:(x.kz.map kndC).set i ((kndC k).set 1 (iD z))=(x.kz.set i ⟨k.name,z,k.hi,k.fields⟩).map kndC:=by rw [wL];rfl
   have hkr1:=pA7 (d:=(iD z)) hkr (show (x.kz.map kndC)[i]?=some (kndC k) by rw [zP,hk];rfl) (show 1<4 by omega);rw [hnew] at hkr1;refine Sv.cellm (tb:=85) (cs:=cs2) (cs':=cs2.set (i*4+1) (iD z)) (τ:=(b4,Blk.cells 28 [iD x.vz,D.v (Value.slice (some ⟨b2,0,none⟩) x.kz.length c1),D.v (Value.slice a2 x.lz.length c2),D.v (Value.slice a3 x.rules.length c3)])::(b8,.cells 28 [D.v (zv (ZV.int IntKind.i64)),.v (zv ZV.sl),.v (zv ZV.sl),.v (zv ZV.sl)])::(sr++sl)) cl22 (by rw [show 0+((i:Nat):Int).toNat*4+1=i*4+1 by simp];exact (zE.1 (hcs 1 (by omega))).1) rfl (by rw [show 0+((i:Nat):Int).toNat*4+1=i*4+1 by simp]) ?_
   repeat' first|refine sk109 ?_|intro b;conv=>whnf
   (refine Rs.c aa0 (m:=2) rfl rfl rfl rfl rfl rfl ?_)
   repeat' first|refine sk109 ?_|intro b;conv=>whnf
   refine aC4 (ρ:=[_,_]) hkr1 hlr hrr (pm4 _ _ _ _ _) ?_;refine⟨_,rfl,⟨HX.ver,by simp only [yR];exact hnk,fun k' hk'=>?_,HX.nl,HX.ls,HX.nr,HX.rs⟩⟩;rcases yZ hk' with h' | rfl
   ·exact HX.ks k' h'
   ·have:=hck.dk;exact⟨this.nm,by simp only;omega,this.hi,this.nf,this.fs⟩
  ·repeat' first|refine sk109 ?_|intro b;conv=>whnf
   (refine Rs.c aa0 (m:=1) rfl rfl rfl rfl rfl rfl ?_)
   repeat' first|refine sk109 ?_|intro b;conv=>whnf
   refine aC4 (ρ:=[_,_]) hkr hlr hrr (pm3 _ _ _ _ _) ?_;exact⟨_,rfl,HX⟩
 ·by_cases hin:i<x.kz.length
  ·obtain⟨k,hk⟩:∃ k,x.kz[i]?=some k:=⟨_,zD hin⟩
   have hck:=h.ks k (zG hk);obtain⟨b2,cap2,cs2,e4,rfl,hcs⟩:=RowIs.get hkr (show (x.kz.map kndC)[i]?=some (kndC k) by rw [zP,hk];rfl);rw [zL] at e4
   cases e4
   obtain⟨q1,q2,_⟩:=ah6 by_ 4;have q2:=q2 (by decide);obtain⟨z,hm,hli⟩:=ba2 [0,5,65536,65537] (j:=arE by_ 4) ⟨by omega,by simp only [List.length_cons,List.length_nil];omega⟩;simp only [zU,yF,xE] at hm
   repeat' first|refine sk109 ?_|intro b;conv=>whnf
   refine Ix.at hli (by omega) ?_
   repeat' first|refine sk109 ?_|intro b;conv=>whnf
   have hnew:(x.kz.map kndC).set i ((kndC k).set 2 (iD z))=(x.kz.set i ⟨k.name,k.lo,z,k.fields⟩).map kndC:=by rw [wL];rfl
   have hkr1:=pA7 (d:=(iD z)) hkr (show (x.kz.map kndC)[i]?=some (kndC k) by rw [zP,hk];rfl) (show 2<4 by omega);rw [hnew] at hkr1;refine Sv.cellm (tb:=85) (cs:=cs2) (cs':=cs2.set (i*4+2) (iD z)) (τ:=(b4,Blk.cells 28 [iD x.vz,D.v (Value.slice (some ⟨b2,0,none⟩) x.kz.length c1),D.v (Value.slice a2 x.lz.length c2),D.v (Value.slice a3 x.rules.length c3)])::(b8,.cells 28 [D.v (zv (ZV.int IntKind.i64)),.v (zv ZV.sl),.v (zv ZV.sl),.v (zv ZV.sl)])::(sr++sl)) cl22 (by rw [show 0+((i:Nat):Int).toNat*4+2=i*4+2 by simp];exact (zE.1 (hcs 2 (by omega))).1) rfl (by rw [show 0+((i:Nat):Int).toNat*4+2=i*4+2 by simp]) ?_
   repeat' first|refine sk109 ?_|intro b;conv=>whnf
   (refine Rs.c aa0 (m:=2) rfl rfl rfl rfl rfl rfl ?_)
   repeat' first|refine sk109 ?_|intro b;conv=>whnf
   refine aC4 (ρ:=[_,_]) hkr1 hlr hrr (pm4 _ _ _ _ _) ?_;refine⟨_,rfl,⟨HX.ver,by simp only [yR];exact hnk,fun k' hk'=>?_,HX.nl,HX.ls,HX.nr,HX.rs⟩⟩;rcases yZ hk' with h' | rfl
   ·exact HX.ks k' h'
   ·have:=hck.dk;exact⟨this.nm,this.lo,by simp only;omega,this.nf,this.fs⟩
  ·repeat' first|refine sk109 ?_|intro b;conv=>whnf
   (refine Rs.c aa0 (m:=1) rfl rfl rfl rfl rfl rfl ?_)
   repeat' first|refine sk109 ?_|intro b;conv=>whnf
   refine aC4 (ρ:=[_,_]) hkr hlr hrr (pm3 _ _ _ _ _) ?_;exact⟨_,rfl,HX⟩
 ·by_cases hll:0<x.lz.length
  ·obtain⟨lf,hlf⟩:∃ k,x.lz[0]?=some k:=⟨_,zD hll⟩
   have hcl:=h.ls lf (zG hlf);have hlns:=hcl.ns;have hlnv:=hcl.nv;have hdl:=hcl.dl;obtain⟨b5,cap5,cs5,e5,rfl,hcs⟩:=RowIs.get hlr (show (x.lz.map lifC)[0]?=some (lifC lf) by rw [zP,hlf];rfl);rw [zL] at e5
   cases e5
   have hm5:cs5[2]?=some (.sl 2 (lf.mz.map movC)):=hcs 2 (by omega);obtain⟨q1,q2,_⟩:=ah6 by_ 6;have q2:=q2 (by decide);have h6i:=aG9 hby 6 (by omega);obtain⟨q3,q4,_⟩:=ah6 (by_.tdiv 6) 6;have q4:=q4 (by decide);have H6:=ab0 (by_.tdiv 6) 6 h6i
   repeat' first|refine sk110 ?_|intro b;conv=>whnf
   refine dr7 ?_;refine aj5 (i:=4) (d':=.ro [iD x.vz,D.v (Value.slice a1 x.kz.length c1),D.v (Value.slice (some ⟨b5,0,none⟩) x.lz.length c2),D.v (Value.slice a3 x.rules.length c3)]) (τ:=(b8,Blk.cells 28 [D.v (zv (ZV.int IntKind.i64)),.v (zv ZV.sl),.v (zv ZV.sl),.v (zv ZV.sl)])::(sr++([(b5,.cells 89 cs5)]++sk))) rfl (fun h=>by cases h) (Vs.ptr (tb:=28) (List.Perm.refl _)) ?_;refine ak3 mixed aa0 rfl [0,1,3,4,5,6,9,12,13] 13 (inE [2,7,8,18,21]) (.two 2 (.one 7 (.one 8 (.fst 10 (.fst 11 (.fst 14 (.fst 15 (.fst 16 (.fst 17 (.one 18 (.fst 19 (.fst 20 (.one 21 .done)))))))))))) 7 (.one 2 (.one 8 (.fst 10 (.fst 11 (.fst 14 (.fst 15 (.fst 16 (.fst 17 (.one 18 (.fst 19 (.fst 20 (.one 21 .done))))))))))))) (γ:=Unit) (fun _=>[]) (fun _=>(b5,.cells 89 (cs5.set 2 (.sl 2 ((lf.mz++[(arE by_ 6-1,arE (by_.tdiv 6) 6-1)]).map movC))))::(b8,Blk.cells 28 [D.v (zv (ZV.int IntKind.i64)),.v (zv ZV.sl),.v (zv ZV.sl),.v (zv ZV.sl)])::(sr++sk)) (fun _=>True) (by decide +kernel) ?_ ?_
   ·repeat' first|(refine Cb.go (by decide +kernel) (bt8 (out:=snL.map sD) (L:=snL.map fun z=>[sD z]) rfl rfl rfl rfl (by kernel_rfl) (by kernel_rfl) rfl rfl ?_))|refine sk110 ?_|intro b;conv=>whnf|(refine And.intro ?_ ?_<;>(conv=>whnf))|(refine Ix.at hli (by omega) ?_)|(refine Sd.go ⟨by decide,⟨h6i.1,h6i.2⟩⟩ ?_)|(refine Ld.cellm (tb:=89) (cs:=cs5) (by simp) hm5 ?_)|(refine Ap.go rfl rfl rfl rfl hr6 (τ:=(b8,Blk.cells 28 [D.v (zv (ZV.int IntKind.i64)),.v (zv ZV.sl),.v (zv ZV.sl),.v (zv ZV.sl)])::(sr++([(b5,.cells 89 cs5)]++sk))) cl22 rfl (zs:=(lf.mz++[(arE by_ 6-1,arE (by_.tdiv 6) 6-1)]).map movC) (by rw [yB];rfl) (by simp;omega) (by simp;omega) (fun s'=>(b8,Blk.cells 28 [D.v (zv (ZV.int IntKind.i64)),.v (zv ZV.sl),.v (zv ZV.sl),.v (zv ZV.sl)])::(s'++(sr++([(b5,.cells 89 cs5)]++sk)))) (fun s'=>by refine ac3 fun a=>?_;simp only [schC,slL,slR,slK,List.take_succ_cons,List.take_zero,List.drop_succ_cons,List.drop_zero,List.cons_append,List.append_eq,List.nil_append,ac4,af0,ae9,sD,iD]<;>omega) (fun a7 c7 s7 hr7=>?_))|(refine Ap.go rfl rfl rfl rfl (RowIs.e0 90 2 (some ⟨b,0,none⟩)) (zH ([]++_)) (aH4 movC (fun _=>rfl) lf.mz) (zs:=(lf.mz).map movC) rfl (by simp;omega) (by simp;omega) (fun s'=>(b8,Blk.cells 28 [D.v (zv (ZV.int IntKind.i64)),.v (zv ZV.sl),.v (zv ZV.sl),.v (zv ZV.sl)])::(s'++(sr++([(b5,.cells 89 cs5)]++sk)))) (fun s'=>by refine ac3 fun a=>?_;simp only [schC,slL,slR,slK,List.take_succ_cons,List.take_zero,List.drop_succ_cons,List.drop_zero,List.cons_append,List.append_eq,List.nil_append,ac4,af0,ae9,sD,iD]<;>omega) (fun a6 c6 s6 hr6=>?_))|(refine Sv.cellm (tb:=89) (cs:=cs5) (cs':=cs5.set 2 (.v (.slice a7 ((lf.mz++[(arE by_ 6-1,arE (by_.tdiv 6) 6-1)]).map movC).length c7))) (τ:=(b8,Blk.cells 28 [D.v (zv (ZV.int IntKind.i64)),.v (zv ZV.sl),.v (zv ZV.sl),.v (zv ZV.sl)])::(s7++(sr++sk))) cl22 (zE.1 hm5).1 rfl rfl ?_)
    all_goals exact⟨(),(aa2 cl2),frz5 hm5 hr7,trivial⟩
   ·rintro -;have hnew:(x.lz.map lifC).set 0 ((lifC lf).set 2 (.sl 2 ((lf.mz++[(arE by_ 6-1,arE (by_.tdiv 6) 6-1)]).map movC)))=(x.lz.set 0 ⟨lf.name,lf.tz,lf.mz++[(arE by_ 6-1,arE (by_.tdiv 6) 6-1)]⟩).map lifC:=by rw [wL];rfl
    have hlr1:=pA7 (d:=.sl 2 ((lf.mz++[(arE by_ 6-1,arE (by_.tdiv 6) 6-1)]).map movC)) hlr (show (x.lz.map lifC)[0]?=some (lifC lf) by rw [zP,hlf];rfl) (show 2<3 by omega);rw [hnew] at hlr1
    repeat' first|refine sk111 ?_|intro b;conv=>whnf
    (refine Rs.c aa0 (m:=1) rfl rfl rfl rfl rfl rfl ?_)
    repeat' first|refine sk111 ?_|intro b;conv=>whnf
    refine aC4 (ρ:=[_]) hkr hlr1 hrr (pm6 _ _ _ _) ?_;refine⟨_,rfl,⟨HX.ver,HX.nk,HX.ks,by simp only [yR];exact hnl,fun l' hl'=>?_,HX.nr,HX.rs⟩⟩;rcases yZ hl' with h' | rfl
    ·exact HX.ls l' h'
    ·refine⟨hdl.nm,hdl.ns,hdl.st,by simp only [zI,List.length_singleton];omega,fun m hm=>(zO.1 hm).elim (hdl.mv m) fun h1=>by rw [zN] at h1;subst h1;simp only;omega⟩
  ·repeat' first|refine sk111 ?_|intro b;conv=>whnf
   (refine Rs.c aa0 (m:=1) rfl rfl rfl rfl rfl rfl ?_)
   repeat' first|refine sk111 ?_|intro b;conv=>whnf
   refine aC4 (ρ:=[_,_]) hkr hlr hrr (pm3 _ _ _ _ _) ?_;exact⟨_,rfl,HX⟩
 ·have h4i:=aG9 hby 4 (by omega);have h20i:=aG9 hby 20 (by omega);have hlA:=aK3 kdL (j:=arE by_ 4) cl23 nE;have hmA:=aE9 kdL (j:=arE by_ 4) cl23 nE;have hlB:=aK3 aaL (j:=arE (by_.tdiv 4) 5) cl24 nE;have hmB:=aE9 aaL (j:=arE (by_.tdiv 4) 5) cl24 nE;have hlC:=aK3 bbL (j:=arE (by_.tdiv 20) 5) cl25 nE;have hmC:=aE9 bbL (j:=arE (by_.tdiv 20) 5) cl25 nE;generalize List.getD kdL (arE by_ 4).toNat nE=zA at hlA hmA;generalize List.getD aaL (arE (by_.tdiv 4) 5).toNat nE=zB at hlB hmB;generalize List.getD bbL (arE (by_.tdiv 20) 5).toNat nE=zC at hlC hmC;obtain⟨q1,q2,_⟩:=ah6 by_ 50;have q2:=q2 (by decide);obtain⟨p1,p2,_⟩:=ah6 by_ 4;have p2:=p2 (by decide);obtain⟨s1,s2,_⟩:=ah6 (by_.tdiv 4) 5;have s2:=s2 (by decide);obtain⟨t1,t2,_⟩:=ah6 (by_.tdiv 20) 5;have t2:=t2 (by decide);have H4:=ab0 (by_.tdiv 4) 5 h4i;have H20:=ab0 (by_.tdiv 20) 5 h20i
  repeat' first|refine sk112 ?_|intro b;conv=>whnf
  refine dr7 ?_;refine ak3 mixed aa0 rfl [0,2,3,4,5,6,7,8,9,10,11,12,13,14,15,16,17,18,19,20,21,22,23] 4 (inE [1,24,26]) (.one 1 (.one 24 (.fst 25 (.one 26 .done)))) (γ:=Value × aa1) (fun _=>[]) (fun g=>(b4,Blk.cells 28 [iD x.vz,D.v (Value.slice a1 x.kz.length c1),D.v (Value.slice a2 x.lz.length c2),D.v g.1])::(b8,Blk.cells 28 [D.v (zv (ZV.int IntKind.i64)),.v (zv ZV.sl),.v (zv ZV.sl),.v (zv ZV.sl)])::(g.2++(sl++sk))) (fun g=>SRl (x.rules++[⟨⟨#[102,117,114,116,104,101,114]⟩,zA,zB,zC,arE by_ 50-20⟩]) g.1 g.2) (by decide +kernel) ?_ ?_
  ·repeat' first|(refine Cb.go (by decide +kernel) (bt8 (ps:=strA kdL) (out:=kdL.map sD) (L:=kdL.map fun z=>[sD z]) rfl rfl rfl rfl (by kernel_rfl) (by kernel_rfl) rfl rfl ?_))|(refine Cb.go (by decide +kernel) (bt8 (ps:=strA aaL) (out:=aaL.map sD) (L:=aaL.map fun z=>[sD z]) rfl rfl rfl rfl (by kernel_rfl) (by kernel_rfl) rfl rfl ?_))|(refine Cb.go (by decide +kernel) (bt8 (ps:=strA bbL) (out:=bbL.map sD) (L:=bbL.map fun z=>[sD z]) rfl rfl rfl rfl (by kernel_rfl) (by kernel_rfl) rfl rfl ?_))|refine sk112 ?_|intro b;conv=>whnf|(refine And.intro ?_ ?_<;>(conv=>whnf))|(refine Ix.at hlA (by omega) ?_)|(refine Ix.at hlB (by omega) ?_)|(refine Ix.at hlC (by omega) ?_)|(refine Sd.go ⟨by decide,⟨h4i.1,h4i.2⟩⟩ ?_)|(refine Sd.go ⟨by decide,⟨h20i.1,h20i.2⟩⟩ ?_)
   refine Ap.go rfl rfl rfl rfl hrr (τ:=(b4,Blk.cells 28 [iD x.vz,D.v (Value.slice a1 x.kz.length c1),D.v (Value.slice a2 x.lz.length c2),D.v (Value.slice a3 x.rules.length c3)])::(b8,Blk.cells 28 [D.v (zv (ZV.int IntKind.i64)),.v (zv ZV.sl),.v (zv ZV.sl),.v (zv ZV.sl)])::(sl++sk)) cl22 rfl (zs:=(x.rules++[(⟨⟨#[102,117,114,116,104,101,114]⟩,zA,zB,zC,arE by_ 50-20⟩:Rul)]).map rulC) (by rw [yB];rfl) (by simp;omega) (by simp;omega) (fun s'=>(b4,Blk.cells 28 [iD x.vz,D.v (Value.slice a1 x.kz.length c1),D.v (Value.slice a2 x.lz.length c2),D.v (Value.slice a3 x.rules.length c3)])::(b8,Blk.cells 28 [D.v (zv (ZV.int IntKind.i64)),.v (zv ZV.sl),.v (zv ZV.sl),.v (zv ZV.sl)])::(s'++(sl++sk))) (fun s'=>by refine ac3 fun a=>?_;simp only [schC,slL,slR,slK,List.take_succ_cons,List.take_zero,List.drop_succ_cons,List.drop_zero,List.cons_append,List.append_eq,List.nil_append,ac4,af0,ae9,sD,iD]<;>omega) (fun a7 c7 s7 hr7=>?_)
   repeat' first|refine sk112 ?_|intro b;conv=>whnf
   exact⟨(_,s7),(aa2 cl2),Sc.refl _,hr7⟩
  ·rintro⟨v7,s7⟩ hr7;simp only at hr7 ⊢;obtain⟨a4,c4,rfl⟩:=RowIs.slice hr7
   repeat' first|refine sk113 ?_|intro b;conv=>whnf
   (refine Rs.c aa0 (m:=1) rfl rfl rfl rfl rfl rfl ?_)
   repeat' first|refine sk113 ?_|intro b;conv=>whnf
   refine aC4 (ρ:=[_,_]) hkr hlr hr7 (pm3 _ _ _ _ _) ?_;refine⟨_,rfl,⟨HX.ver,HX.nk,HX.ks,HX.nl,HX.ls,by simp only [zI,List.length_singleton];omega,fun r hr=>(zO.1 hr).elim (HX.rs r) fun h1=>?_⟩⟩;rw [zN] at h1;subst h1;refine⟨(show (7:Nat)<=12 by decide),?_,?_,?_,by simp only;omega⟩
   ·revert hmA;simp only [kdL,zU,yF,xE];rintro (rfl|rfl|rfl|rfl)<;>decide
   ·revert hmB;simp only [aaL,zU,yF,xE];rintro (rfl|rfl|rfl|rfl|rfl)<;>decide
   ·revert hmC;simp only [bbL,zU,yF,xE];rintro (rfl|rfl|rfl|rfl|rfl)<;>decide
 ·by_cases hll:0<x.lz.length
  ·obtain⟨lf,hlf⟩:∃ k,x.lz[0]?=some k:=⟨_,zD hll⟩
   have hcl:=h.ls lf (zG hlf);have hlns:=hcl.ns;have hlnv:=hcl.nv;have hdl:=hcl.dl;obtain⟨b5,cap5,cs5,e5,rfl,hcs⟩:=RowIs.get hlr (show (x.lz.map lifC)[0]?=some (lifC lf) by rw [zP,hlf];rfl);rw [zL] at e5
   cases e5
   have hm5:cs5[1]?=some (slS lf.tz):=hcs 1 (by omega);obtain⟨q1,q2,_⟩:=ah6 by_ 3;have q2:=q2 (by decide);have hli:=aK3 snL (j:=arE by_ 3) ⟨by omega,by simp only [snL,List.length_cons,List.length_nil];omega⟩ nE;have hm:=aE9 snL (j:=arE by_ 3) ⟨by omega,by simp only [snL,List.length_cons,List.length_nil];omega⟩ nE;generalize List.getD snL (arE by_ 3).toNat nE=z at hli hm
   repeat' first|refine sk114 ?_|intro b;conv=>whnf
   refine dr7 ?_;refine aj5 (i:=4) (d':=.ro [iD x.vz,D.v (Value.slice a1 x.kz.length c1),D.v (Value.slice (some ⟨b5,0,none⟩) x.lz.length c2),D.v (Value.slice a3 x.rules.length c3)]) (τ:=(b8,Blk.cells 28 [D.v (zv (ZV.int IntKind.i64)),.v (zv ZV.sl),.v (zv ZV.sl),.v (zv ZV.sl)])::(sr++([(b5,.cells 89 cs5)]++sk))) rfl (fun h=>by cases h) (Vs.ptr (tb:=28) (List.Perm.refl _)) ?_;refine ak3 mixed aa0 rfl [0,1,3,4,5,6,9,10] 11 (inE [2,7,8,15,18]) (.two 2 (.one 7 (.one 8 (.fst 11 (.fst 12 (.fst 13 (.fst 14 (.one 15 (.fst 16 (.fst 17 (.one 18 .done)))))))))) 7 (.one 2 (.one 8 (.fst 11 (.fst 12 (.fst 13 (.fst 14 (.one 15 (.fst 16 (.fst 17 (.one 18 .done))))))))))) (γ:=Unit) (fun _=>[]) (fun _=>(b5,.cells 89 (cs5.set 1 (.sl 1 ((lf.tz++[z]).map fun s=>[sD s]))))::(b8,Blk.cells 28 [D.v (zv (ZV.int IntKind.i64)),.v (zv ZV.sl),.v (zv ZV.sl),.v (zv ZV.sl)])::(sr++sk)) (fun _=>True) (by decide +kernel) ?_ ?_
   ·repeat' first|(refine Cb.go (by decide +kernel) (bt8 (out:=snL.map sD) (L:=snL.map fun z=>[sD z]) rfl rfl rfl rfl (by kernel_rfl) (by kernel_rfl) rfl rfl ?_))|refine sk114 ?_|intro b;conv=>whnf|(refine And.intro ?_ ?_<;>(conv=>whnf))|(refine Ix.at hli (by omega) ?_)|(refine Ld.cellm (tb:=89) (cs:=cs5) (by simp) hm5 ?_)|(refine Ap.go rfl rfl rfl rfl hr6 (τ:=(b8,Blk.cells 28 [D.v (zv (ZV.int IntKind.i64)),.v (zv ZV.sl),.v (zv ZV.sl),.v (zv ZV.sl)])::(sr++([(b5,.cells 89 cs5)]++sk))) cl22 rfl (zs:=(lf.tz++[z]).map (fun s:ByteArray=>[sD s])) (by rw [yB];rfl) (by simp;omega) (by simp;omega) (fun s'=>(b8,Blk.cells 28 [D.v (zv (ZV.int IntKind.i64)),.v (zv ZV.sl),.v (zv ZV.sl),.v (zv ZV.sl)])::(s'++(sr++([(b5,.cells 89 cs5)]++sk)))) (fun s'=>by refine ac3 fun a=>?_;simp only [schC,slL,slR,slK,List.take_succ_cons,List.take_zero,List.drop_succ_cons,List.drop_zero,List.cons_append,List.append_eq,List.nil_append,ac4,af0,ae9,sD,iD]<;>omega) (fun a7 c7 s7 hr7=>?_))|(refine Ap.go rfl rfl rfl rfl (RowIs.e0 9 1 (some ⟨b,0,none⟩)) (zH ([]++_)) (aH4 (fun s:ByteArray=>[sD s]) (fun _=>rfl) lf.tz) (zs:=(lf.tz).map (fun s:ByteArray=>[sD s])) rfl (by simp;omega) (by simp;omega) (fun s'=>(b8,Blk.cells 28 [D.v (zv (ZV.int IntKind.i64)),.v (zv ZV.sl),.v (zv ZV.sl),.v (zv ZV.sl)])::(s'++(sr++([(b5,.cells 89 cs5)]++sk)))) (fun s'=>by refine ac3 fun a=>?_;simp only [schC,slL,slR,slK,List.take_succ_cons,List.take_zero,List.drop_succ_cons,List.drop_zero,List.cons_append,List.append_eq,List.nil_append,ac4,af0,ae9,sD,iD]<;>omega) (fun a6 c6 s6 hr6=>?_))|(refine Sv.cellm (tb:=89) (cs:=cs5) (cs':=cs5.set 1 (.v (.slice a7 ((lf.tz++[z]).map (fun s:ByteArray=>[sD s])).length c7))) (τ:=(b8,Blk.cells 28 [D.v (zv (ZV.int IntKind.i64)),.v (zv ZV.sl),.v (zv ZV.sl),.v (zv ZV.sl)])::(s7++(sr++sk))) cl22 (zE.1 hm5).1 rfl rfl ?_)
    all_goals exact⟨(),(aa2 cl2),frz5 hm5 hr7,trivial⟩
   ·rintro -;have hnew:(x.lz.map lifC).set 0 ((lifC lf).set 1 (.sl 1 ((lf.tz++[z]).map (fun s:ByteArray=>[sD s]))))=(x.lz.set 0 ⟨lf.name,lf.tz++[z],lf.mz⟩).map lifC:=by rw [wL];rfl
    have hlr1:=pA7 (d:=.sl 1 ((lf.tz++[z]).map (fun s:ByteArray=>[sD s]))) hlr (show (x.lz.map lifC)[0]?=some (lifC lf) by rw [zP,hlf];rfl) (show 1<3 by omega);rw [hnew] at hlr1
    repeat' first|refine sk115 ?_|intro b;conv=>whnf
    (refine Rs.c aa0 (m:=1) rfl rfl rfl rfl rfl rfl ?_)
    repeat' first|refine sk115 ?_|intro b;conv=>whnf
    refine aC4 (ρ:=[_]) hkr hlr1 hrr (pm6 _ _ _ _) ?_;refine⟨_,rfl,⟨HX.ver,HX.nk,HX.ks,by simp only [yR];exact hnl,fun l' hl'=>?_,HX.nr,HX.rs⟩⟩;rcases yZ hl' with h' | rfl
    ·exact HX.ls l' h'
    ·refine⟨hdl.nm,by simp only [zI,List.length_singleton];omega,fun s hs=>(zO.1 hs).elim (hdl.st s) fun h1=>by rw [zN] at h1;subst h1;revert hm;simp only [snL,zU,yF,xE];rintro (rfl|rfl|rfl)<;>decide,hdl.nv,hdl.mv⟩
  ·repeat' first|refine sk115 ?_|intro b;conv=>whnf
   (refine Rs.c aa0 (m:=1) rfl rfl rfl rfl rfl rfl ?_)
   repeat' first|refine sk115 ?_|intro b;conv=>whnf
   refine aC4 (ρ:=[_,_]) hkr hlr hrr (pm3 _ _ _ _ _) ?_;exact⟨_,rfl,HX⟩
 ·by_cases hin:i<x.kz.length
  ·obtain⟨k,hk⟩:∃ k,x.kz[i]?=some k:=⟨_,zD hin⟩
   have hck:=h.ks k (zG hk);obtain⟨b2,cap2,cs2,e4,rfl,hcs⟩:=RowIs.get hkr (show (x.kz.map kndC)[i]?=some (kndC k) by rw [zP,hk];rfl);rw [zL] at e4
   cases e4
   have hnf:=hck.nf
   repeat' first|refine sk115 ?_|intro b;conv=>whnf
   refine Ld.cellm (tb:=85) (cs:=cs2) (by simp) (by rw [show 0+((i:Nat):Int).toNat*4+3=i*4+3 by simp];exact hcs 3 (by omega)) ?_
   repeat' first|refine sk115 ?_|intro b;conv=>whnf
   refine Ap.go rfl rfl rfl rfl (RowIs.e0 97 8 (some ⟨b,0,none⟩)) (zH ([]++_)) (aH4 fldC (fun _=>rfl) k.fields) (zs:=k.fields.map fldC) rfl (by simp;omega) (by simp;omega) (fun s'=>(b4,Blk.cells 28 [iD x.vz,D.v (Value.slice (some ⟨b2,0,none⟩) x.kz.length c1),D.v (Value.slice a2 x.lz.length c2),D.v (Value.slice a3 x.rules.length c3)])::(b8,Blk.cells 28 [D.v (zv (ZV.int IntKind.i64)),.v (zv ZV.sl),.v (zv ZV.sl),.v (zv ZV.sl)])::(s'++(sr++(sl++[(b2,.cells 85 cs2)])))) (fun s'=>by refine ac3 fun a=>?_;simp only [schC,slL,slR,slK,List.take_succ_cons,List.take_zero,List.drop_succ_cons,List.drop_zero,List.cons_append,List.append_eq,List.nil_append,ac4,af0,ae9,sD,iD]<;>omega) (fun a5 c5 sf hfr=>?_);obtain⟨a5,c5,e5⟩:∃ a c,Value.slice a5 (k.fields.map fldC).length c5=Value.slice a k.fields.length c:=⟨a5,c5,by rw [zL]⟩
   rw [e5] at hfr ⊢;have h3i:=aG9 hat 3 (by omega);have HJ:=ab0 (at_.tdiv 3) k.fields.length h3i;obtain⟨j1,j2,j3⟩:=ah6 (at_.tdiv 3) k.fields.length;obtain⟨j,hj⟩:∃ j:Nat,arE (at_.tdiv 3) k.fields.length=j:=⟨(arE (at_.tdiv 3) k.fields.length).toNat,by omega⟩
   rw [hj] at HJ
   repeat' first|refine sk116 ?_|intro b;conv=>whnf
   refine Sd.go ⟨by decide,⟨h3i.1,h3i.2⟩⟩ ?_;by_cases hjn:j<k.fields.length
   ·obtain⟨f,hf⟩:∃ f,k.fields[j]?=some f:=⟨_,zD hjn⟩
    have h8i:=aG9 hhow 8 (by omega);obtain⟨b3,cap3,cs3,e6,rfl,hcs3⟩:=RowIs.get hfr (show (k.fields.map fldC)[j]?=some (fldC f) by rw [zP,hf];rfl);rw [zL] at e6
    cases e6
    have hl8:j*8+8<=cs3.length:=by have:=(zE.1 (hcs3 7 (by omega))).1;omega
    repeat' first|refine sk116 ?_|intro b;conv=>whnf
    refine pB0 (tb:=97) (cs:=cs3) (x:=fldC f) (by simp) rfl (by decide) (fun q hq=>by rw [show 0+((j:Nat):Int).toNat*8+q=j*8+q by simp];exact hcs3 q hq) ?_
    repeat' first|refine sk116 ?_|intro b;conv=>whnf
    refine Sd.go ⟨by decide,⟨h8i.1,h8i.2⟩⟩ ?_
    repeat' first|refine sk116 ?_|intro b;conv=>whnf
    refine CE.some (aO5 f (hck.fs f (zG hf)) (how.tdiv 8) by_ h8i hby) ?_;rintro _ ⟨f',rfl,hf'⟩;have hf1:=RowIs.put hfr (i:=j) (x':=fldC f') (by rw [zL];exact hjn) rfl;rw [show (k.fields.map fldC).set j (fldC f')=(k.fields.set j f').map fldC by rw [wL]] at hf1
    repeat' first|refine sk116 ?_|intro b;conv=>whnf
    refine Sv.perm (tb:=97) (cs:=cs3) (cs':=spl cs3 (j*8) (fldC f')) (τ:=(b4,Blk.cells 28 [iD x.vz,D.v (Value.slice (some ⟨b2,0,none⟩) x.kz.length c1),D.v (Value.slice a2 x.lz.length c2),D.v (Value.slice a3 x.rules.length c3)])::(b8,Blk.cells 28 [D.v (zv (ZV.int IntKind.i64)),.v (zv ZV.sl),.v (zv ZV.sl),.v (zv ZV.sl)])::(sr++(sl++[(b2,.cells 85 cs2)]))) cl22 rfl (by rw [show 0+((j:Nat):Int).toNat*8=j*8 by simp];exact hl8) rfl (by rw [show 0+((j:Nat):Int).toNat*8=j*8 by simp];try rfl) ?_;generalize spl cs3 (j*8) (fldC f')=cs4 at *
    repeat' first|refine sk116 ?_|intro b;conv=>whnf
    have hfz:=Sc.frz (b:=b2) (t:=85) (τ:=(b4,Blk.cells 28 [iD x.vz,D.v (Value.slice (some ⟨b2,0,none⟩) x.kz.length c1),D.v (Value.slice a2 x.lz.length c2),D.v (Value.slice a3 x.rules.length c3)])::(b8,Blk.cells 28 [iD x.vz,D.v (Value.slice (some ⟨b2,0,none⟩) x.kz.length c1),D.v (Value.slice a2 x.lz.length c2),D.v (Value.slice a3 x.rules.length c3)])::(sr++sl)) (xI (a:=D.v (.slice (some ⟨b3,0,none⟩) k.fields.length c5)) (zE.1 (hcs 3 (by omega))).1) hf1 (LeR.refl _);rw [List.set_set] at hfz;change Sc _ ((b2,.cells 85 (cs2.set (i*4+3) (slF (k.fields.set j f'))))::_) at hfz;have hkr1:=pA7 (d:=slF (k.fields.set j f')) hkr (show (x.kz.map kndC)[i]?=some (kndC k) by rw [zP,hk];rfl) (show 3<4 by omega);rw [show (x.kz.map kndC).set i ((kndC k).set 3 (slF (k.fields.set j f')))=(x.kz.set i ⟨k.name,k.lo,k.hi,(k.fields.set j f')⟩).map kndC by rw [wL];rfl] at hkr1;refine Sv.cellm (tb:=85) (cs:=cs2) (cs':=cs2.set (i*4+3) (.v (.slice (some ⟨b3,0,none⟩) k.fields.length c5))) (τ:=(b4,Blk.cells 28 [iD x.vz,D.v (Value.slice (some ⟨b2,0,none⟩) x.kz.length c1),D.v (Value.slice a2 x.lz.length c2),D.v (Value.slice a3 x.rules.length c3)])::(b8,Blk.cells 28 [D.v (zv (ZV.int IntKind.i64)),.v (zv ZV.sl),.v (zv ZV.sl),.v (zv ZV.sl)])::([(b3,Blk.cells 97 cs4)]++(sr++sl))) cl22 cl26 rfl (by rw [show 0+((i:Nat):Int).toNat*4+3=i*4+3 by simp]) ?_
    repeat' first|refine sk116 ?_|intro b;conv=>whnf
    (refine Rs.c aa0 (m:=2) rfl rfl rfl rfl rfl rfl ?_)
    repeat' first|refine sk116 ?_|intro b;conv=>whnf
    refine Rt.scd ((Sc.perm cl22).trans hfz) ?_;refine aC4 (ρ:=[_,_]) hkr1 hlr hrr (pm4 _ _ _ _ _) ?_;refine⟨_,rfl,⟨HX.ver,by simp only [yR];exact hnk,fun k' hk'=>?_,HX.nl,HX.ls,HX.nr,HX.rs⟩⟩;rcases yZ hk' with h' | rfl
    ·exact HX.ks k' h'
    ·refine⟨hck.dk.nm,hck.dk.lo,hck.dk.hi,by simp only [yR];exact hnf,fun g hg=>?_⟩;rcases yZ hg with h' | rfl
     ·exact (hck.fs g h').df
     ·exact hf'
   ·have hf1:=hfr
    repeat' first|refine sk116 ?_|intro b;conv=>whnf
    have hfz:=Sc.frz (b:=b2) (t:=85) (τ:=(b4,Blk.cells 28 [iD x.vz,D.v (Value.slice (some ⟨b2,0,none⟩) x.kz.length c1),D.v (Value.slice a2 x.lz.length c2),D.v (Value.slice a3 x.rules.length c3)])::(b8,Blk.cells 28 [iD x.vz,D.v (Value.slice (some ⟨b2,0,none⟩) x.kz.length c1),D.v (Value.slice a2 x.lz.length c2),D.v (Value.slice a3 x.rules.length c3)])::(sr++sl)) (xI (a:=D.v (.slice a5 k.fields.length c5)) (zE.1 (hcs 3 (by omega))).1) hf1 (LeR.refl _);rw [List.set_set] at hfz;change Sc _ ((b2,.cells 85 (cs2.set (i*4+3) (slF k.fields)))::_) at hfz;have hkr1:=pA7 (d:=slF k.fields) hkr (show (x.kz.map kndC)[i]?=some (kndC k) by rw [zP,hk];rfl) (show 3<4 by omega);rw [show (x.kz.map kndC).set i ((kndC k).set 3 (slF k.fields))=(x.kz.set i ⟨k.name,k.lo,k.hi,k.fields⟩).map kndC by rw [wL];rfl] at hkr1;refine Sv.cellm (tb:=85) (cs:=cs2) (cs':=cs2.set (i*4+3) (.v (.slice a5 k.fields.length c5))) (τ:=(b4,Blk.cells 28 [iD x.vz,D.v (Value.slice (some ⟨b2,0,none⟩) x.kz.length c1),D.v (Value.slice a2 x.lz.length c2),D.v (Value.slice a3 x.rules.length c3)])::(b8,Blk.cells 28 [D.v (zv (ZV.int IntKind.i64)),.v (zv ZV.sl),.v (zv ZV.sl),.v (zv ZV.sl)])::(sf++(sr++sl))) cl22 cl26 rfl (by rw [show 0+((i:Nat):Int).toNat*4+3=i*4+3 by simp]) ?_
    repeat' first|refine sk116 ?_|intro b;conv=>whnf
    (refine Rs.c aa0 (m:=2) rfl rfl rfl rfl rfl rfl ?_)
    repeat' first|refine sk116 ?_|intro b;conv=>whnf
    refine Rt.scd ((Sc.perm cl22).trans hfz) ?_;refine aC4 (ρ:=[_,_]) hkr1 hlr hrr (pm4 _ _ _ _ _) ?_;refine⟨_,rfl,⟨HX.ver,by simp only [yR];exact hnk,fun k' hk'=>?_,HX.nl,HX.ls,HX.nr,HX.rs⟩⟩;rcases yZ hk' with h' | rfl
    ·exact HX.ks k' h'
    ·exact hck.dk
  ·repeat' first|refine sk116 ?_|intro b;conv=>whnf
   (refine Rs.c aa0 (m:=1) rfl rfl rfl rfl rfl rfl ?_)
   repeat' first|refine sk116 ?_|intro b;conv=>whnf
   refine aC4 (ρ:=[_,_]) hkr hlr hrr (pm3 _ _ _ _ _) ?_;exact⟨_,rfl,HX⟩
end
end Go.Proofs.YtlcfiilejnnlnaaGreatDoor
