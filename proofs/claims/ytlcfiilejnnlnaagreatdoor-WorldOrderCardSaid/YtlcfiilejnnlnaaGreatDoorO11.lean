/- A part of the proof: Qd Bld Shelf SrcP SrcA Lists SrcB. -/
import Derived.Test.YtlcfiilejnnlnaaGreatDoorO10
import Derived.Test.YtlcfiilejnnlnaaGreatDoorProg
import Derived.Shelf.Abstract
import Derived.Lib.Builder
import Derived.Lib.AppendStr
import Derived.Lib.UnsafeStr
import Derived.Laws.Externs
import Derived.Maps.AppendAt
import Derived.Shelf.Strings.Builder1
import Derived.Shelf.Strconv.Itoa0
import Derived.Shelf.Strconv.Itoa1
import Derived.Shelf.LaysM
import Derived.Shelf.Strconv.Itoa2
import Derived.Shelf.Strconv.Itoa3
import Derived.Shelf.Bits.Mul64
import Derived.Lib.ItoaLen
import Derived.Lib.LaidTab
import Derived.Deep.RegionWith
set_option maxRecDepth 100000
set_option maxHeartbeats 20000000
set_option linter.unusedVariables false
set_option linter.unusedSimpArgs false
namespace Go.Proofs.YtlcfiilejnnlnaaGreatDoor
section
open Go Go.Maps Go.MapKept
theorem aI5 {x:Sch} {k:Nat} {kd:Knd} (h:x.kinds[k]?=some kd):kdOf x k=kd:=by unfold kdOf;rw [h];rfl
theorem aB5 {x:Sch} {k f:Nat} {kd:Knd} {g:Fld} {s:ByteArray} (hk:x.kinds[k]?=some kd) (hf:aa3 kd s=(f:Int)) (hg:kd.fields[f]?=some g):al3 x k s=if g.kind=1 then upIx x k f else -1:=by
 unfold al3
 rw [aI5 hk,hf,if_pos (by omega),Int.toNat_natCast,hg]
theorem aE0 {x:Sch} {k:Nat} {kd:Knd} {s:ByteArray} (hk:x.kinds[k]?=some kd) (hf:aa3 kd s<0):al3 x k s = -1:=by
 unfold al3
 rw [aI5 hk,if_neg (by omega)]
theorem aV8 {x:Sch} {k:Nat} {s:ByteArray} (h:0≤al3 x k s):al3 x k s<k:=by
 unfold al3 at *
 split at h
 ·split at h
  ·rename_i g hg hk
   simp only [hk,if_true]
   exact ay3 x k _ h
  ·omega
 ·omega
theorem aw0 {kd:Knd} {s:ByteArray} (h:¬ aa3 kd s<0):∃ (f:Nat) (g:Fld),aa3 kd s=(f:Int)∧kd.fields[f]?=some g:=by
 have h1:aa3 kd s<kd.fields.length:=aw5 _ _
 refine ⟨(aa3 kd s).toNat,_,by omega,List.getElem?_eq_getElem (by omega)⟩
abbrev stC (p:Int × Int):List D:=[iD p.1,iD p.2]
def slSt (l:List (Int × Int)):D:=.sl 2 (l.map stC)
theorem aQ5 {x:Sch} {k:Nat} {s:ByteArray} {l:List ByteArray} (h:l≠[]):ai4 x k (s :: l)=(decide (0≤al3 x k s) && ai4 x (al3 x k s).toNat l):=by
 cases l with
 | nil=>exact absurd rfl h
 | cons t l=>rfl
theorem bf7 {x:Sch} {k:Nat} {s:ByteArray} {l:List ByteArray} (h:l≠[]):aE9 x k (s :: l)=(aa3 (kdOf x k) s,al3 x k s) :: aE9 x (al3 x k s).toNat l:=by
 cases l with
 | nil=>exact absurd rfl h
 | cons t l=>rfl
theorem sk77 {A B:Prop} (k:B) (h:Hd7 B→A:=by intro hk7q;(first|refine sb0 ?_|refine sb1 ?_|((with_reducible refine' Cp.by ?hc ?_);(case hc=>first|exact ad3 _ _ (by omega)|exact aw7 _ _ _ (by omega) hnf))|((with_reducible refine' CE.pure ?hc ?_);(case hc=>first|exact ad3 _ _ (by omega)|exact aw7 _ _ _ (by omega) hnf)));exact hk7q.run):A:=h ⟨k⟩
theorem bg4 (x:Sch) (k:Nat) (l:List ByteArray) (hk:k<x.kinds.length) (hl:l.length≤1000000) (hnk:x.kinds.length≤1000000) (hnf:∀ k∈x.kinds,k.fields.length≤1000000) :
  APure Tryz.prog 106 [schD x,iD k,slS l] (if ai4 x k l then .tup [slSt (aE9 x k l),bD true] else .tup [.v (.slice none 0 0),bD false]):=by
 have hne:∀ k0:Nat,k0<x.kinds.length→x.kinds[k0]?=some (kdOf x k0):=fun k0 h=>by
  obtain ⟨kd,hkd⟩:∃ kd,x.kinds[k0]?=some kd:=⟨_,List.getElem?_eq_getElem h⟩
  rw [aI5 hkd];exact hkd
 refine eP7 Tryz.func106 Tryz.ntmps106 fun BB=>?_
 repeat' first|refine sk77 ?_|(intro b;conv=>whnf)
 refine aa5 mixed aa0 (γ:=Nat × Nat × List (Int × Int) × Value × aa1) (fun g=>[(1,iD g.2.1),(8,.v g.2.2.2.1),(15,iD g.1)]) (fun g=>g.2.2.2.2) (fun g=>g.1≤l.length∧g.2.1<x.kinds.length∧g.2.2.1.length=g.1∧RowIs 234 2 (g.2.2.1.map stC) g.2.2.2.1 g.2.2.2.2∧ai4 x k l=ai4 x g.2.1 (l.drop g.1)∧(ai4 x k l=true→aE9 x k l=g.2.2.1 ++ aE9 x g.2.1 (l.drop g.1))) (fun g=>l.length - g.1) (0,k,[],.slice none 0 0,[]) (aa2 cl3) (Sc.refl _) ⟨Nat.zero_le _,hk,rfl,RowIs.nil _ _,by simp,by simp⟩ ?_
 rintro ⟨i,q,acc,v,s⟩ ⟨hi,hq,hal,hrow,hlead,hsteps⟩
 simp only at hi hq hal hrow hlead hsteps ⊢
 by_cases hil:i<l.length
 ·obtain ⟨nm,hnm⟩:∃ y,l[i]?=some y:=⟨_,List.getElem?_eq_getElem hil⟩
  have hnm':l[((i:Nat):Int).toNat]?=some nm:=hnm
  have hkd:=hne q hq
  have hkd':x.kinds[((q:Nat):Int).toNat]?=some (kdOf x q):=hkd
  have hfl:=hnf _ (List.mem_of_getElem? hkd)
  generalize hkk:kdOf x q=kd at hkd hkd' hfl
  rw [bF3 hnm] at hlead hsteps
  by_cases hf:aa3 kd nm<0
  ·have hle:ai4 x k l=false:=by
    rw [hlead]
    by_cases hn:l.drop (i+1)=[]
    ·rw [hn];simp only [ai4];rw [hkk];exact decide_eq_false (by omega)
    ·rw [aQ5 hn,aE0 hkd hf];rfl
   rw [hle]
   repeat' first|refine sk77 ?_|(intro b;conv=>whnf)
   exact Rt.pure rfl
  ·obtain ⟨f,g,hfx,hg⟩:=aw0 hf
   have hg':kd.fields[(aa3 kd nm).toNat]?=some g:=by rw [hfx,Int.toNat_natCast];exact hg
   have hfl2:=(List.getElem?_eq_some_iff.1 hg).1
   by_cases hlast:i+1=l.length
   ·have hn:l.drop (i+1)=[]:=List.drop_eq_nil_of_le (by omega)
    rw [hn] at hlead hsteps
    simp only [ai4,aE9,hkk] at hlead hsteps
    have hle:ai4 x k l=true:=by rw [hlead];exact decide_eq_true (by omega)
    have hs:=hsteps hle
    rw [hle,hs]
    repeat' first|refine sk77 ?_|(intro b;conv=>whnf)
    refine Ap.go rfl rfl rfl rfl hrow (by simp:s.Perm (s ++ [])) rfl (zs:=(acc ++ [(aa3 kd nm,(-1:Int))]).map stC) (by simp) (by simp;omega) (by simp;omega) (fun s'=>s') (fun s'=>by simp) (fun a' c' s' hr'=>?_)
    repeat' first|refine sk77 ?_|(intro b;conv=>whnf)
    exact Rt.vs (Vs.vd (τ:=[]) ⟨s',by rw [List.append_nil]⟩ (Vd.tup (.cons (Vd.row (ρ:=[]) hr' (by simp) (fun b hb=>by cases hb)) (.cons (Vd.same (fun b hb=>by cases hb) _) .nil))))
   ·have hn:l.drop (i+1)≠[]:=by intro e;have:=congrArg List.length e;simp at this;omega
    rw [aQ5 hn] at hlead
    rw [bf7 hn,hkk] at hsteps
    have hnx:=aB5 hkd hfx hg
    have hlt:=aV8 (x:=x) (k:=q) (s:=nm)
    rw [← hfx] at hnx
    by_cases hg1:g.kind=1
    ·rw [if_pos hg1] at hnx
     by_cases hup:upIx x q (aa3 kd nm)<0
     ·have hle:ai4 x k l=false:=by rw [hlead,hnx,decide_eq_false (by omega)];rfl
      rw [hle]
      repeat' first|refine sk77 ?_|(intro b;conv=>whnf)
      exact Rt.pure rfl
     ·obtain ⟨u,hu⟩:∃ u:Nat,upIx x q (aa3 kd nm)=u:=⟨_,(Int.toNat_of_nonneg (by omega)).symm⟩
      rw [hnx] at hlt hlead hsteps
      have hlt2:=hlt (by omega)
      rw [hu,Int.toNat_natCast,decide_eq_true (by omega),Bool.true_and] at hlead
      rw [hu,Int.toNat_natCast] at hsteps
      repeat' first|refine sk77 ?_|(intro b;conv=>whnf)
      refine Ap.go rfl rfl rfl rfl hrow (by simp:s.Perm (s ++ [])) rfl (zs:=(acc ++ [(aa3 kd nm,(u:Int))]).map stC) (by rw [hu];simp) (by simp;omega) (by simp;omega) (fun s'=>s') (fun s'=>by simp) (fun a' c' s' hr'=>?_)
      repeat' first|refine sk77 ?_|(intro b;conv=>whnf)
      exact ⟨(i+1,u,acc ++ [(aa3 kd nm,(u:Int))],_,s'),(aa2 cl6),Sc.refl _,⟨by simp only;omega,by simp only;omega,by simp;omega,hr',hlead,fun h=>by rw [hsteps h];simp⟩,by simp only;omega⟩
    ·rw [if_neg hg1] at hnx
     have hle:ai4 x k l=false:=by rw [hlead,hnx];rfl
     rw [hle]
     repeat' first|refine sk77 ?_|(intro b;conv=>whnf)
     exact Rt.pure rfl
 ·obtain rfl:i=l.length:=by omega
  rw [List.drop_length] at hlead hsteps
  simp only [ai4,aE9,List.append_nil] at hlead hsteps
  rw [hlead,hsteps hlead]
  repeat' first|refine sk77 ?_|(intro b;conv=>whnf)
  have hr':=hrow
  exact Rt.vs (Vs.vd (τ:=[]) ⟨s,by rw [List.append_nil]⟩ (Vd.tup (.cons (Vd.row (ρ:=[]) hr' (by simp) (fun b hb=>by cases hb)) (.cons (Vd.same (fun b hb=>by cases hb) _) .nil))))
theorem bL4 (x:Sch) (k:Nat) (c:Cnd) (HI:APure Tryz.prog 107 [schD x,iD k,cndD c] (bD (leadsB x k c))):APure Tryz.prog 159 [cndD c,.ro (schC x),.ro [iD k]] (bD (!leadsB x k c)):=by
 refine eP7 Tryz.func159 Tryz.ntmps159 fun BB=>?_
 repeat' first|refine sk68 ?_|(intro b;conv=>whnf)
 refine Rt.pure (congrArg bD ?_);rfl
theorem sk78 {A B:Prop} (k:B) (h:Hd7 B→A:=by intro hk7q;(first|refine sb0 ?_|refine sb1 ?_|((with_reducible refine' Cp.by ?hc ?_);(case hc=>first|exact HP|exact HQ|exact HK))|((with_reducible refine' CE.pure ?hc ?_);(case hc=>first|exact HP|exact HQ|exact HK)));exact hk7q.run):A:=h ⟨k⟩
theorem bz4 (x:Sch) (k:Nat) (hk:k<x.kinds.length) (hnk:x.kinds.length≤1000000) (hnf:∀ k∈x.kinds,k.fields.length≤1000000):∀ (m:Nat) (c:Cnd),c.size≤m→c.All CndS→APure Tryz.prog 107 [schD x,iD k,cndD c] (bD (leadsB x k c))
 | 0,c,h,_=>by rw [ar6] at h;omega
 | m+1,c,h,hA=>by
  have hkl:=c.kids_len
  have hF:=bb6 x k c
  obtain ⟨⟨ho1,ho2⟩,hp,hq⟩:=hA.one
  have HK:APure Tryz.prog 158 [slC c.kids,.clo 159 [.ro (schC x),.ro [iD k]]] (bD (!c.kids.all (leadsB x k))):=bI0 c.kids (leadsB x k) ▸ ch2 _ _ (by omega) fun y hy=>bL4 x k y (bz4 x k hk hnk hnf m y (by have:=Cnd.kid_size hy;omega) (hA.kid hy))
  have HP:=bg4 x k c.path hk (by omega) hnk hnf
  have HQ:=bg4 x k c.other hk (by omega) hnk hnf
  unfold cndD cndC
  rw [ay7 c]
  refine eP7 Tryz.func107 Tryz.ntmps107 fun BB=>?_
  repeat' first|refine sk78 ?_|(intro b;conv=>whnf)
  refine af0 mixed aa0 (γ:=Nat) (fun j=>[(17,iD j)]) (fun _=>[]) (fun j=>j≤2∧(1≤j→ai4 x k c.path=true)∧(2≤j→ai4 x k c.other=true)) (fun j=>2 - j) 0 (aa2 cl3) cl2 ⟨by decide,fun h=>by omega,fun h=>by omega⟩ ?_
  rintro j ⟨hj,h1,h2⟩
  by_cases e0:j=0
  ·subst e0
   cases hl:ai4 x k c.path with
   | true=>
    rw [hl] at HP
    repeat' first|refine sk78 ?_|(intro b;conv=>whnf)
    exact ⟨1,(aa2 cl3),cl2,⟨by decide,fun _=>rfl,fun h=>by omega⟩,by decide⟩
   | false=>
    rw [hl] at HP hF
    repeat' first|refine sk78 ?_|(intro b;conv=>whnf)
    refine Rt.pure (congrArg bD ?_);rw [hF];rfl
  ·by_cases e1:j=1
   ·subst e1
    have hl0:=h1 (by decide)
    cases hl:ai4 x k c.other with
    | true=>
     rw [hl] at HQ
     repeat' first|refine sk78 ?_|(intro b;conv=>whnf)
     exact ⟨2,(aa2 cl3),cl2,⟨by decide,fun _=>hl0,fun _=>rfl⟩,by decide⟩
    | false=>
     rw [hl,hl0] at hF
     rw [hl] at HQ
     repeat' first|refine sk78 ?_|(intro b;conv=>whnf)
     refine Rt.pure (congrArg bD ?_);rw [hF];rfl
   ·obtain rfl:j=2:=by omega
    rw [h1 (by decide),h2 (by decide)] at hF
    repeat' first|refine sk78 ?_|(intro b;conv=>whnf)
    refine Rt.pure (congrArg bD ?_);rw [hF];simp
theorem sk79 {A B:Prop} (k:B) (h:Hd7 B→A:=by intro hk7q;(first|refine sb0 ?_|refine sb1 ?_|((with_reducible refine' Cp.by ?hc ?_);(case hc=>first|exact HC|exact HS|exact HP|exact HL|exact HF|exact ai0 _ _ (by assumption)))|((with_reducible refine' CE.pure ?hc ?_);(case hc=>first|exact HC|exact HS|exact HP|exact HL|exact HF|exact ai0 _ _ (by assumption))));exact hk7q.run):A:=h ⟨k⟩
theorem sk80 {A B:Prop} (k:B) (h:Hd7 B→A:=by intro hk7q;(first|refine sb0 ?_|refine sb1 ?_|((with_reducible refine' Cp.by ?hc ?_);(case hc=>first|exact HC|exact HS|exact HP|exact HL|exact HF|exact HK))|((with_reducible refine' CE.pure ?hc ?_);(case hc=>first|exact HC|exact HS|exact HP|exact HL|exact HF|exact HK)));exact hk7q.run):A:=h ⟨k⟩
theorem cb2 (x:Sch) (q:Qry) (hp:ah6 x=[]) (hnk:x.kinds.length≤1000000) (hnf:∀ k∈x.kinds,k.fields.length≤1000000) (hs:q.cond.size≤1000000) (hl:q.path.length≤1000000) (hA:q.cond.All CndS) (HV:APure Tryz.prog 143 [schD x] (iD (ai3 x))) :
  APure Tryz.prog 59 [schD x,qryD q] (iD (az2 x q)):=by
 have HC:=bk6 x HV
 rw [hp] at HC
 have HS:=cb3 q.cond hs
 have HF:=bz2 q hl hA
 have hki:ab1 x q.kind<x.kinds.length:=aw5 _ _
 unfold az2
 cases h1:aJ8 q.cond with
 | false=>
  rw [h1] at HS
  refine eP7 Tryz.func59 Tryz.ntmps59 fun BB=>?_
  repeat' first|refine sk79 ?_|(intro b;conv=>whnf)
  exact Rt.pure rfl
 | true=>
  rw [h1] at HS
  rw [if_neg (by decide)]
  cases h2:aO0 q with
  | false=>
   rw [h2] at HF
   refine eP7 Tryz.func59 Tryz.ntmps59 fun BB=>?_
   repeat' first|refine sk79 ?_|(intro b;conv=>whnf)
   exact Rt.pure rfl
  | true=>
   rw [h2] at HF
   rw [if_neg (by decide)]
   by_cases h3:ab1 x q.kind<0
   ·rw [if_pos h3]
    refine eP7 Tryz.func59 Tryz.ntmps59 fun BB=>?_
    repeat' first|refine sk79 ?_|(intro b;conv=>whnf)
    exact Rt.pure rfl
   ·rw [if_neg h3]
    obtain ⟨k,hk⟩:∃ k:Nat,ab1 x q.kind=k:=⟨_,(Int.toNat_of_nonneg (by omega)).symm⟩
    have HK:=ai0 x q.kind hnk
    rw [hk] at HK hki ⊢
    rw [Int.toNat_natCast]
    have HP:=bg4 x k q.path (by omega) hl hnk hnf
    have HL:=bz4 x k (by omega) hnk hnf q.cond.size q.cond (Nat.le_refl _) hA
    cases h4:ai4 x k q.path with
    | false=>
     rw [h4] at HP
     refine eP7 Tryz.func59 Tryz.ntmps59 fun BB=>?_
     repeat' first|refine sk80 ?_|(intro b;conv=>whnf)
     exact Rt.pure rfl
    | true=>
     rw [h4] at HP
     cases h5:leadsB x k q.cond with
     | false=>
      rw [h5] at HL
      refine eP7 Tryz.func59 Tryz.ntmps59 fun BB=>?_
      repeat' first|refine sk80 ?_|(intro b;conv=>whnf)
      exact Rt.pure rfl
     | true=>
      rw [h5] at HL
      refine eP7 Tryz.func59 Tryz.ntmps59 fun BB=>?_
      repeat' first|refine sk80 ?_|(intro b;conv=>whnf)
      exact Rt.pure rfl
end
section
open Go.RowKit Go.Shelf
def Bld (w:World) (B b n:Nat) (O:Option Nat):Prop:=
 ∃ (l:List UInt8) (p v:Value),l.length=n∧(p = .pointer none∨p = .pointer (some ⟨b,0,none⟩))∧B≤b∧w.heap[b]?=some (.cells #[p,v] 266 (0,0)) ∧
  w.ownsRow B 5 1 v l.length (Lib.byteCells l)∧v.ownBlock=O∧O≠some b
theorem Ex.grownBy {w w':World} (h:Ex w w'):w.grownBy w' none:=⟨Keep.os h,Keep.tape h,Keep.output h,Keep.size h,fun k hk _=>Ex.block h k hk⟩
theorem Bld.lt {w:World} {B b n:Nat} {O:Option Nat} (h:Bld w B b n O):b<w.heap.size:=by
 obtain ⟨l,p,v,_,_,_,hb,_⟩:=h
 rcases Nat.lt_or_ge b w.heap.size with h' | h'
 ·exact h'
 ·simp [Array.getElem?_eq_none h'] at hb
theorem Bld.le {w:World} {B b n:Nat} {O:Option Nat} (h:Bld w B b n O):B≤w.heap.size:=by
 have:=h.lt
 obtain ⟨l,p,v,_,_,hB,_⟩:=h
 omega
theorem Bld.ex {w w':World} {B b n:Nat} {O:Option Nat} (h:Bld w B b n O) (he:Ex w w'):Bld w' B b n O:=by
 have hlt:=h.lt
 obtain ⟨l,p,v,h1,h2,h3,h4,h5,h6,h7⟩:=h
 exact ⟨l,p,v,h1,h2,h3,by rw [he.block b hlt];exact h4,h5.kept he.grownBy (by cases h:v.ownBlock <;> simp),h6,h7⟩
theorem Bld.fresh (w:World) (B:Nat) (hB:B≤w.heap.size):Bld (w.alloc (.cells #[.pointer none,.slice none 0 0] 266)) B w.heap.size 0 none:=
 ⟨[],.pointer none,.slice none 0 0,rfl,.inl rfl,hB,by show (w.heap.push _)[w.heap.size]?=_;simp,World.ownsRow_nil _ _ _ _,rfl,by simp⟩
theorem infoByte:(Tryz.prog.info? 5).map (fun i=>(i.zero,i.size,i.bytes))=some (some (.int .u8 0),1,1):=by kernel_rfl
theorem sizeBuilder:(Tryz.prog.info? 266).map (fun i=>i.size)=some 2:=by kernel_rfl
theorem aO8 (b:Nat) (w:World) (h0:w.cell? ⟨b,0,none⟩=some (.pointer (some ⟨b,0,none⟩))) :
  Calls Tryz.prog 205 #[.pointer (some ⟨b,0,none⟩)] w fun e w'=>e = .returned (.tuple #[])∧w=w':=by
 obtain ⟨j,hj,_⟩:=Option.map_eq_some_iff.1 sizeBuilder
 go_enter Tryz.func205,Tryz.ntmps205
 go_wp2
 rw [Lib.run_neq_ptr_same w _ Tryz.underlying264 hj]
 go_wp2
 go_end0
 exact ⟨rfl,rfl⟩
theorem aN3 (b:Nat) (w:World) (h0:w.cell? ⟨b,0,none⟩=some (.pointer none)) (hsh:w.shape? b=some (266,2)) (hfz:w.frozen? ⟨b,0,none⟩=false) :
  Calls Tryz.prog 205 #[.pointer (some ⟨b,0,none⟩)] w fun e w'=>e = .returned (.tuple #[])∧w'=w.setCell ⟨b,0,none⟩ (.pointer (some ⟨b,0,none⟩)):=by
 obtain ⟨j,hj,hjs⟩:=Option.map_eq_some_iff.1 sizeBuilder
 go_enter Tryz.func205,Tryz.ntmps205
 go_wp2
 rw [Lib.run_to_unsafe w ⟨b,0,none⟩ Tryz.underlying264 Tryz.underlying323 hj (by rw [hjs];decide) hsh (Nat.zero_lt_succ 1)]
 simp only [Result.andThen]
 rw [Oper.upon_value]
 go_wp2
 rw [run_callFunc_extern Tryz.func239 (by kernel_rfl) (by kernel_rfl) (by kernel_rfl) (e:=Extern.AbiNoEscape.same) (by kernel_rfl)]
 rw [Lib.run_noEscape]
 simp only [Result.andThen]
 rw [Oper.upon_value]
 go_wp2
 rw [Lib.run_from_unsafe w ⟨b,0,none⟩ Tryz.underlying323 Tryz.underlying264 hj hsh (by kernel_rfl)]
 simp only [Result.andThen]
 rw [Oper.upon_value]
 go_wp2
 go_end0
 exact ⟨rfl,rfl⟩
theorem aD2 {w:World} {B b n:Nat} {O:Option Nat} (h:Bld w B b n O) :
  Calls Tryz.prog 205 #[.pointer (some ⟨b,0,none⟩)] w fun e w'=>e = .returned (.tuple #[])∧(Keep (fun x=>x=b) w w' ∧
   ∃ (l:List UInt8) (v:Value),l.length=n∧B≤b∧w'.heap[b]?=some (.cells #[.pointer (some ⟨b,0,none⟩),v] 266 (0,0))∧w'.ownsRow B 5 1 v l.length (Lib.byteCells l)∧v.ownBlock=O∧O≠some b):=by
 have hlt:=h.lt
 obtain ⟨l,p,v,h1,h2,h3,h4,h5,h6,h7⟩:=h
 rcases h2 with rfl|rfl
 ·refine (aN3 b w (by simp [World.cell?,h4]) (by simp [World.shape?,h4]) (by simp [World.frozen?,h4])).mono ?_
  rintro e w' ⟨rfl,rfl⟩
  refine ⟨rfl,(Keep.refl (fun x=>x=b) w).setCell (p:=⟨b,0,none⟩) (.inr rfl) _,l,v,h1,h3,?_,ownsRow_setCell_other h5 (by rw [h6];exact h7) _,h6,h7⟩
  simp only [World.setCell,Array.getElem?_modify,if_true,h4]
  rfl
 ·refine (aO8 b w (by simp [World.cell?,h4])).mono ?_
  rintro e w' ⟨rfl,rfl⟩
  exact ⟨rfl,Keep.refl _ _,l,v,h1,h3,h4,h5,h6,h7⟩
def Wrote (w w':World) (B b n:Nat) (O:Option Nat):Prop:=Keep (fun x=>x=b∨some x=O) w w'∧∃ O',Bld w' B b n O'∧(O'=O∨∃ g,O'=some g∧w.heap.size≤g)
theorem aH3 {w:World} {base:Nat} {v v':Value} {n:Nat} {xs:List Value} (hown:w.ownsRow base 5 1 v n xs) (s:ByteArray) (hbytes:n+s.size≤140737488355328) {w':World} {ty:TypeId}
  (hrun:(Builtin.append_ #[23,9] ty #[v,.string s]).run Tryz.prog w = .ok v' w'):v'.ownBlock=v.ownBlock∨v'.ownBlock=some w.heap.size:=by
 obtain ⟨i,hi,hz0,hz1,hz2⟩:=info_parts infoByte
 rcases hown.2 with ⟨rfl,rfl⟩|⟨g,cap,cur,rfl,hbg,hg,hnc,hcm,hcs,htake⟩
 ·by_cases hm:s.size=0
  ·have hf:=Lib.run_firstCells_string (P:=Tryz.prog) w 1 s
   rw [hm] at hf
   simp [Builtin.append_,run_underlying Tryz.underlying23,run_underlying Tryz.underlying9,sizeOf,typeInfo,hi,hz1,Builtin.lenOf,hm,hf] at hrun
   obtain ⟨rfl,rfl⟩:=hrun
   exact .inl rfl
  ·have hr:=run_append_nil_string (P:=Tryz.prog) w 23 9 ty 5 i (.int .u8 0) Tryz.underlying23 Tryz.underlying9 hi hz0 s (by omega) (by omega) (by rw [hz2];omega)
   rw [hr] at hrun
   cases hrun
   exact .inr rfl
 ·by_cases hroom:n+s.size≤cap
  ·have hcs':cur.size=cap:=by simpa using hcs
   have hr:=Lib.run_append_room_string (P:=Tryz.prog) w 23 9 ty 5 i Tryz.underlying23 Tryz.underlying9 hi hz1 g n cap cur hg s hroom (by omega)
   rw [hr] at hrun
   cases hrun
   exact .inl rfl
  ·have holds:∀ j u,xs[j]?=some u→w.cell? ((⟨g,0,none⟩:Addr).add j)=some u:=hown.cells (g:=g) rfl
   have hr:=Lib.run_append_grow_string (P:=Tryz.prog) w 23 9 ty 5 i (.int .u8 0) Tryz.underlying23 Tryz.underlying9 hi hz0 ⟨g,0,none⟩ n cap xs (by rw [hz1];simpa using hown.1) holds s (by omega) (by omega) (by rw [hz2];exact growslice_fits (by omega) (by omega))
   rw [hr] at hrun
   cases hrun
   exact .inr rfl
theorem aD5 {w:World} {ops:Array Oper} {rest:List Oper} {o:Oper} {a:Act} {Q:Exit→Act→World→Prop} (hgd:o.guard=none) (sl x:Operand)
  (ho:o.op = .call { callee:=.builtin .append,args:=#[sl,x],argTypes:=#[23,9] })
  (base:Nat) (v:Value) (n:Nat) (xs:List Value) (hs:a.eval sl=v) (hown:w.ownsRow base 5 1 v n xs) (s:ByteArray) (hx:a.eval x = .string s)
  (hbytes:n+s.size≤140737488355328) (hbase:base≤w.heap.size)
  (h:∀ v' w',w'.ownsRow base 5 1 v' (n+s.size) (xs ++ Lib.strCells s)→w.grownBy w' v.ownBlock→(v'.ownBlock=v.ownBlock∨v'.ownBlock=some w.heap.size)→wpList Tryz.prog ops Q rest (a.put o.dst v') w'):wpList Tryz.prog ops Q (o :: rest) a w:=by
 obtain ⟨i,hi,hz0,hz1,hz2⟩:=info_parts infoByte
 refine wpList_plain hgd fun K hK=>?_
 obtain ⟨v',w',hr,h2,h3,h4⟩:=Lib.run_append_own_string (P:=Tryz.prog) w base 23 9 o.type 5 i Tryz.underlying23 Tryz.underlying9 hi hz0 hz1 hz2 v n xs hown s (by unfold maxLen;omega) hbytes hbase
 have h5:=aH3 hown s hbytes hr
 unfold Oper.wp execOp
 simp only [ho,resolve,invoke,builtin,Sem.run_bind,Sem.run_pure,Result.andThen_ok,List.map_toArray,List.map_cons,List.map_nil,hs,hx,hr]
 exact hK _ _ (h v' w' h2 h3 h5)
theorem aO3 (s:ByteArray):Lib.strCells s=Lib.byteCells s.data.toList:=by
 simp [Lib.strCells,Lib.byteCells]
theorem aw6 (l m:List UInt8):Lib.byteCells l ++ Lib.byteCells m=Lib.byteCells (l ++ m):=by simp [Lib.byteCells]
theorem al0 (l:List UInt8):(Lib.byteCells l).length=l.length:=by simp [Lib.byteCells]
theorem bj5 {w w1 w2:World} {B b n m:Nat} {O:Option Nat} {v v':Value} {l:List UInt8} (hk:Keep (fun x=>x=b) w w1) (hl:l.length=n+m) (hB:B≤b) (hb1:w1.heap[b]?=some (.cells #[.pointer (some ⟨b,0,none⟩),v] 266 (0,0)))
  (hO:v.ownBlock=O) (hne:O≠some b) (hown:w2.ownsRow B 5 1 v' (n+m) (Lib.byteCells l)) (hgrow:w1.grownBy w2 v.ownBlock) (hat:v'.ownBlock=v.ownBlock∨∃ g,v'.ownBlock=some g∧w1.heap.size≤g) :
  Wrote w (w2.setCell ⟨b,1,none⟩ v') B b (n+m) O:=by
 have hlt:b<w1.heap.size:=by
  rcases Nat.lt_or_ge b w1.heap.size with h' | h'
  ·exact h'
  ·simp [Array.getElem?_eq_none h'] at hb1
 have hb2:w2.heap[b]?=some (.cells #[.pointer (some ⟨b,0,none⟩),v] 266 (0,0)):=by
  rw [hgrow.block b hlt (fun e=>hne (hO ▸ e.symm))];exact hb1
 have hne':v'.ownBlock≠some b:=by
  rcases hat with h|⟨g,h,hg⟩
  ·rw [h,hO];exact hne
  ·rw [h];intro e;cases e;omega
 refine ⟨?_,v'.ownBlock,⟨l,_,v',hl,.inr rfl,hB,?_,?_,rfl,hne'⟩,?_⟩
 ·have h1:Keep (fun x=>x=b∨some x=O) w w1:=hk.mono (fun x _ h=>.inl h)
  have h2:Keep (fun x=>x=b∨some x=O) w w2:=h1.grown hgrow (fun k e=>.inr (.inr (by rw [← hO,e])))
  exact h2.setCell (p:=⟨b,1,none⟩) (.inr (.inl rfl)) _
 ·simp only [World.setCell,Array.getElem?_modify,if_true,hb2]
  rfl
 ·rw [hl];exact ownsRow_setCell_other hown hne' _
 ·rcases hat with h|⟨g,h,hg⟩
  ·exact .inl (h.trans hO)
  ·exact .inr ⟨g,h,Nat.le_trans hk.size hg⟩
theorem av6 {w:World} {b:Nat} {o:Obj} (h:w.heap[b]?=some o):b<w.heap.size:=by
 rcases Nat.lt_or_ge b w.heap.size with h' | h'
 ·exact h'
 ·simp [Array.getElem?_eq_none h'] at h
theorem aj2 {w:World} {B b n:Nat} {O:Option Nat} (h:Bld w B b n O) (s:ByteArray) (hn:n+s.size≤140737488355328) :
  Calls Tryz.prog 163 #[.pointer (some ⟨b,0,none⟩),.string s] w fun e w'=>e = .returned (.tuple #[.int .i64 s.size,.nilIface])∧Wrote w w' B b (n+s.size) O:=by
 have HC:=Lib.hid (aD2 h)
 have hBw:=h.le
 go_enter Tryz.func163,Tryz.ntmps163
 go_wp2_with (go_at_call 205;refine HC.out.mono ?_)
 rintro e w1 ⟨rfl,hk,l,v,hl,hB,hb1,hown,hO,hne⟩
 have HB:=Lib.hid hb1
 have HL:=Lib.hid hl
 have HO:=Lib.hid hO
 have c0:w1.cell? ⟨b,0,none⟩=some (.pointer (some ⟨b,0,none⟩)):=by simp [World.cell?,hb1]
 have c1:w1.cell? ⟨b,1,none⟩=some v:=by simp [World.cell?,hb1]
 clear hb1 hl hO
 have hsz:=hk.size
 go_wp2_with (at_builtin;refine aD5 rfl _ _ rfl B v _ _ rfl hown s rfl (by rw [HL.out];exact hn) (by omega) ?_)
 intro v' w2 hown' hgrow hat
 have hb2:w2.heap[b]?=some (.cells #[.pointer (some ⟨b,0,none⟩),v] 266 (0,0)):=by
  rw [hgrow.block b (av6 HB.out) (fun e=>hne (HO.out ▸ e.symm))];exact HB.out
 have d1:w2.cell? ⟨b,1,none⟩=some v:=by simp [World.cell?,hb2]
 have d0:w2.cell? ⟨b,0,none⟩=some (.pointer (some ⟨b,0,none⟩)):=by simp [World.cell?,hb2]
 have f1:w2.frozen? ⟨b,1,none⟩=false:=by simp [World.frozen?,hb2]
 clear hb2
 have HW:Hid (Wrote w (w2.setCell ⟨b,1,none⟩ v') B b (n+s.size) O):=by
  refine bj5 (l:=l ++ s.data.toList) hk ?_ hB HB.out HO.out hne ?_ hgrow ?_
  ·rw [List.length_append,HL.out];rfl
  ·rw [← aw6,← aO3,← HL.out];exact hown'
  ·rcases hat with h|h
   ·exact .inl h
   ·exact .inr ⟨_,h,Nat.le_refl _⟩
 obtain ⟨ao,n',cap,rfl⟩:∃ ao n' cap,v' = .slice ao n' cap:=by
  rcases hown'.2 with ⟨hv,h0⟩|⟨g,cap,cur,hv,_⟩
  ·exact ⟨_,_,_,hv⟩
  ·exact ⟨_,_,_,hv⟩
 clear hown hown' hgrow hat
 go_wp2
 go_ret2
 exact ⟨rfl,HW.out⟩
theorem aS2 {w:World} {B b n:Nat} {O:Option Nat} (h:Bld w B b n O) (c:UInt8) (hn:n+1≤140737488355328) :
  Calls Tryz.prog 259 #[.pointer (some ⟨b,0,none⟩),.int .u8 c.toNat] w fun e w'=>e = .returned .nilIface∧Wrote w w' B b (n+1) O:=by
 have HC:=Lib.hid (aD2 h)
 have hBw:=h.le
 obtain ⟨i0,hi,hz0,hz1,hz2⟩:=info_parts infoByte
 go_enter Tryz.func259,Tryz.ntmps259
 go_wp2_with (go_at_call 205;refine HC.out.mono ?_)
 rintro e w1 ⟨rfl,hk,l,v,hl,hB,hb1,hown,hO,hne⟩
 have HB:=Lib.hid hb1
 have HL:=Lib.hid hl
 have HO:=Lib.hid hO
 have c0:w1.cell? ⟨b,0,none⟩=some (.pointer (some ⟨b,0,none⟩)):=by simp [World.cell?,hb1]
 have c1:w1.cell? ⟨b,1,none⟩=some v:=by simp [World.cell?,hb1]
 have hlt:=av6 hb1
 clear hb1 hl hO
 have hsz:=hk.size
 go_wp2_with (at_builtin;refine wpList_append_own_at _ rfl _ _ 23 rfl B 5 i0 (.int .u8 0) 1 1 Tryz.underlying23 hi hz0 hz1 hz2 rfl (by decide) v _ _ rfl (hown.alloc _) ⟨w1.heap.size,0,none⟩ 1 1 [.int .u8 c.toNat] rfl rfl ?c1 ?c2 ?c3 ?c4 ?c5 ?_)
 case c1=>exact cell_one_new _ _ _
 case c2=>simp [Value.oneCell']
 case c3=>unfold maxLen;rw [HL.out];omega
 case c4=>rw [HL.out];omega
 case c5=>simp;omega
 intro v' w2 hown' hgrow _ hat
 have hb1':(w1.alloc (.cells #[.int .u8 c.toNat] 5)).heap[b]?=some (.cells #[.pointer (some ⟨b,0,none⟩),v] 266 (0,0)):=by
  rw [Below.heap_alloc _ _ _ hlt];exact HB.out
 have hb2:w2.heap[b]?=some (.cells #[.pointer (some ⟨b,0,none⟩),v] 266 (0,0)):=by
  rw [hgrow.block b (av6 hb1') (fun e=>hne (HO.out ▸ e.symm))];exact hb1'
 have d1:w2.cell? ⟨b,1,none⟩=some v:=by simp [World.cell?,hb2]
 have d0:w2.cell? ⟨b,0,none⟩=some (.pointer (some ⟨b,0,none⟩)):=by simp [World.cell?,hb2]
 have f1:w2.frozen? ⟨b,1,none⟩=false:=by simp [World.frozen?,hb2]
 clear hb2
 have HW:Hid (Wrote w (w2.setCell ⟨b,1,none⟩ v') B b (n+1) O):=by
  refine bj5 (l:=l ++ [c]) (hk.alloc _) ?_ hB hb1' HO.out hne ?_ hgrow ?_
  ·rw [List.length_append,HL.out];rfl
  ·rw [← aw6,← HL.out];exact hown'
  ·rcases hat with h|h
   ·exact .inl h
   ·exact .inr ⟨_,h,by simp⟩
 clear hb1'
 obtain ⟨ao,n',cap,rfl⟩:∃ ao n' cap,v' = .slice ao n' cap:=by
  rcases hown'.2 with ⟨hv,h0⟩|⟨g,cap,cur,hv,_⟩
  ·exact ⟨_,_,_,hv⟩
  ·exact ⟨_,_,_,hv⟩
 clear hown hown' hgrow hat
 go_wp2
 go_ret
 exact ⟨rfl,HW.out⟩
theorem aJ3 {w:World} {B b n:Nat} {O:Option Nat} (h:Bld w B b n O) (hn:n+1≤140737488355328) :
  Calls Tryz.prog 259 #[.pointer (some ⟨b,0,none⟩),.int .u8 32] w fun e w'=>e = .returned .nilIface∧Wrote w w' B b (n+1) O:=aS2 h 32 hn
end
end Go.Proofs.YtlcfiilejnnlnaaGreatDoor
namespace Go.Proofs
open Go.Shelf
def Tryz.lays169_ren:Go.Shelf.Ren:=⟨fun | 169=>164|n=>n,fun | 70=>264 | 9=>9 | 0=>0 | 72=>266 | 37=>23 | 127=>307 | 3=>3 | 5=>5|n=>n,fun|n=>n⟩
theorem Tryz.lays169:Go.Proofs.Lays.n169 Tryz.prog Tryz.lays169_ren:={
 mixed:=by kernel_rfl
 f169:=Tryz.func164.trans (congrArg some (by kernel_rfl))
 t0:=Tryz.underlying0
 a0:=Tryz.isAgg0
 z0:=Tryz.sizeOf0
 v0:=Tryz.zeroValue0
 t3:=Tryz.underlying3
 a3:=Tryz.isAgg3
 z3:=Tryz.sizeOf3
 v3:=Tryz.zeroValue3
 t9:=Tryz.underlying9
 a9:=Tryz.isAgg9
 z9:=Tryz.sizeOf9
 v9:=Tryz.zeroValue9
 t37:=Tryz.underlying23
 a37:=Tryz.isAgg23
 z37:=Tryz.sizeOf23
 v37:=Tryz.zeroValue23
 t70:=Tryz.underlying264
 a70:=Tryz.isAgg264
 z70:=Tryz.sizeOf264
 v70:=Tryz.zeroValue264
 t72:=Tryz.underlying266
 a72:=Tryz.isAgg266
 z72:=Tryz.sizeOf266
 v72:=Tryz.zeroValue266
 t127:=Tryz.underlying307
 a127:=Tryz.isAgg307
 z127:=Tryz.sizeOf307
 v127:=Tryz.zeroValue307 }
theorem Tryz.Builder_Extra_169:Builder.Extra Tryz.prog Tryz.lays169_ren:={
 sizeBuilder:=by kernel_rfl
 liesBuilder:=by kernel_rfl
 t5:=Tryz.underlying5
 a5:=Tryz.isAgg5
 z5:=Tryz.sizeOf5
 v5:=Tryz.zeroValue5
 infoByte:=by kernel_rfl
 cellsByte:=by kernel_rfl
 sizeByte:=by kernel_rfl
 neB5:=by decide }
open Go.RowKit in
theorem Tryz.Builder_String_any (B b:Nat) (l:List UInt8) (w:World) (h:Lib.IsBuilder 266 5 B b (Lib.byteCells l) w) (hBw:B≤w.heap.size) :
  Calls Tryz.prog 164 #[.pointer (some ⟨b,0,none⟩)] w fun e w'=>e = .returned (.string ⟨l.toArray⟩)∧Below B w w':=Any.Builder_String_any Tryz.lays169 Tryz.Builder_Extra_169 B b l w h hBw
def Tryz.laysM246_ren:Go.Shelf.Ren:=⟨fun | 246=>265 | 283=>266 | 284=>267 | 285=>268 | 286=>269 | 129=>271 | 317=>270 | 318=>272 | 319=>273 | 320=>274 | 337=>275 | 338=>276|n=>n,fun | 2=>2 | 3=>3 | 9=>9 | 4=>4 | 171=>341 | 0=>0 | 53=>167 | 37=>23 | 5=>5 | 173=>344 | 212=>347 | 51=>168 | 20=>20 | 213=>348 | 46=>180 | 232=>176 | 233=>170|n=>n,fun | 17=>5 | 18=>6 | 19=>7|n=>n⟩
def Tryz.laysM243_ren:Go.Shelf.Ren:=⟨fun | 243=>264 | 246=>265 | 283=>266 | 284=>267 | 285=>268 | 286=>269 | 129=>271 | 317=>270 | 318=>272 | 319=>273 | 320=>274 | 337=>275 | 338=>276|n=>n,fun | 3=>3 | 9=>9 | 2=>2 | 4=>4 | 171=>341 | 0=>0 | 53=>167 | 37=>23 | 5=>5 | 173=>344 | 212=>347 | 51=>168 | 20=>20 | 213=>348 | 46=>180 | 232=>176 | 233=>170|n=>n,fun | 17=>5 | 18=>6 | 19=>7|n=>n⟩
def Tryz.laysM171_ren:Go.Shelf.Ren:=⟨fun | 171=>260 | 243=>264 | 246=>265 | 283=>266 | 284=>267 | 285=>268 | 286=>269 | 129=>271 | 317=>270 | 318=>272 | 319=>273 | 320=>274 | 337=>275 | 338=>276|n=>n,fun | 3=>3 | 9=>9 | 2=>2 | 4=>4 | 171=>341 | 0=>0 | 53=>167 | 37=>23 | 5=>5 | 173=>344 | 212=>347 | 51=>168 | 20=>20 | 213=>348 | 46=>180 | 232=>176 | 233=>170|n=>n,fun | 17=>5 | 18=>6 | 19=>7|n=>n⟩
theorem Tryz.laysM171:Go.Proofs.LaysM.n171 Tryz.prog Tryz.laysM171_ren:={
 mixed:=by kernel_rfl
 f129:=Tryz.func271.trans (congrArg some (by kernel_rfl))
 f171:=Tryz.func260.trans (congrArg some (by kernel_rfl))
 f243:=Tryz.func264.trans (congrArg some (by kernel_rfl))
 f246:=Tryz.func265.trans (congrArg some (by kernel_rfl))
 f283:=Tryz.func266.trans (congrArg some (by kernel_rfl))
 f284:=Tryz.func267.trans (congrArg some (by kernel_rfl))
 f285:=Tryz.func268.trans (congrArg some (by kernel_rfl))
 f286:=Tryz.func269.trans (congrArg some (by kernel_rfl))
 f317:=Tryz.func270.trans (congrArg some (by kernel_rfl))
 f318:=Tryz.func272.trans (congrArg some (by kernel_rfl))
 f319:=Tryz.func273.trans (congrArg some (by kernel_rfl))
 f320:=Tryz.func274.trans (congrArg some (by kernel_rfl))
 f337:=Tryz.func275.trans (congrArg some (by kernel_rfl))
 f338:=Tryz.func276.trans (congrArg some (by kernel_rfl))
 t0:=Tryz.underlying0
 a0:=Tryz.isAgg0
 z0:=Tryz.sizeOf0
 v0:=Tryz.zeroValue0
 t2:=Tryz.underlying2
 a2:=Tryz.isAgg2
 z2:=Tryz.sizeOf2
 v2:=Tryz.zeroValue2
 t3:=Tryz.underlying3
 a3:=Tryz.isAgg3
 z3:=Tryz.sizeOf3
 v3:=Tryz.zeroValue3
 t4:=Tryz.underlying4
 a4:=Tryz.isAgg4
 z4:=Tryz.sizeOf4
 v4:=Tryz.zeroValue4
 t5:=Tryz.underlying5
 a5:=Tryz.isAgg5
 z5:=Tryz.sizeOf5
 v5:=Tryz.zeroValue5
 t9:=Tryz.underlying9
 a9:=Tryz.isAgg9
 z9:=Tryz.sizeOf9
 v9:=Tryz.zeroValue9
 t20:=Tryz.underlying20
 a20:=Tryz.isAgg20
 z20:=Tryz.sizeOf20
 v20:=Tryz.zeroValue20
 t37:=Tryz.underlying23
 a37:=Tryz.isAgg23
 z37:=Tryz.sizeOf23
 v37:=Tryz.zeroValue23
 t46:=Tryz.underlying180
 a46:=Tryz.isAgg180
 z46:=Tryz.sizeOf180
 v46:=Tryz.zeroValue180
 t51:=Tryz.underlying168
 a51:=Tryz.isAgg168
 z51:=Tryz.sizeOf168
 v51:=Tryz.zeroValue168
 t53:=Tryz.underlying167
 a53:=Tryz.isAgg167
 z53:=Tryz.sizeOf167
 v53:=Tryz.zeroValue167
 t171:=Tryz.underlying341
 a171:=Tryz.isAgg341
 z171:=Tryz.sizeOf341
 v171:=Tryz.zeroValue341
 t173:=Tryz.underlying344
 a173:=Tryz.isAgg344
 z173:=Tryz.sizeOf344
 v173:=Tryz.zeroValue344
 t212:=Tryz.underlying347
 a212:=Tryz.isAgg347
 z212:=Tryz.sizeOf347
 v212:=Tryz.zeroValue347
 t213:=Tryz.underlying348
 a213:=Tryz.isAgg348
 z213:=Tryz.sizeOf348
 t232:=Tryz.underlying176
 a232:=Tryz.isAgg176
 z232:=Tryz.sizeOf176
 v232:=Tryz.zeroValue176
 t233:=Tryz.underlying170
 a233:=Tryz.isAgg170
 z233:=Tryz.sizeOf170
 v233:=Tryz.zeroValue170
 g17:=by kernel_rfl
 g18:=by kernel_rfl
 g19:=by kernel_rfl
 i0:=by kernel_rfl
 i2:=by kernel_rfl
 i3:=by kernel_rfl
 i4:=by kernel_rfl
 i5:=by kernel_rfl
 i9:=by kernel_rfl
 i20:=by kernel_rfl
 i37:=by kernel_rfl
 i46:=by kernel_rfl
 i51:=by kernel_rfl
 i53:=by kernel_rfl
 i171:=by kernel_rfl
 i173:=by kernel_rfl
 i212:=by kernel_rfl
 i232:=by kernel_rfl
 i233:=by kernel_rfl
 m17:=by kernel_rfl
 m18:=by kernel_rfl
 m19:=by kernel_rfl }
open Go.RowKit Go.Sort Go.Lib in
theorem Tryz.strconv_Itoa (n:Int) (h0:-9223372036854775808≤n) (h1:n≤9223372036854775807) (w:World) (htab:Lib.TabIs Tryz.prog w "internal/strconv.uint64pow10" .u64 Lib.pow10Tab) :
  Calls Tryz.prog 260 #[.int .i64 n] w fun e w'=>e = .returned (.string ⟨(Lib.itoa n).toArray⟩)∧∃ k os,w'=grow (w.drewN k) os:=Any.strconv_Itoa Tryz.laysM171 n h0 h1 w htab
def Tryz.lays212_ren:Go.Shelf.Ren:=⟨fun | 212=>117 | 263=>160 | 264=>161|n=>n,fun | 46=>180 | 51=>168 | 146=>260 | 53=>167 | 148=>262|n=>n,fun|n=>n⟩
theorem Tryz.lays212:Go.Proofs.Lays.n212 Tryz.prog Tryz.lays212_ren:={
 mixed:=by kernel_rfl
 f212:=Tryz.func117.trans (congrArg some (by kernel_rfl))
 f263:=Tryz.func160.trans (congrArg some (by kernel_rfl))
 f264:=Tryz.func161.trans (congrArg some (by kernel_rfl))
 t46:=Tryz.underlying180
 a46:=Tryz.isAgg180
 z46:=Tryz.sizeOf180
 v46:=Tryz.zeroValue180
 t51:=Tryz.underlying168
 a51:=Tryz.isAgg168
 z51:=Tryz.sizeOf168
 v51:=Tryz.zeroValue168
 t53:=Tryz.underlying167
 a53:=Tryz.isAgg167
 z53:=Tryz.sizeOf167
 v53:=Tryz.zeroValue167
 t146:=Tryz.underlying260
 a146:=Tryz.isAgg260
 z146:=Tryz.sizeOf260
 v146:=Tryz.zeroValue260
 t148:=Tryz.underlying262
 a148:=Tryz.isAgg262
 z148:=Tryz.sizeOf262
 v148:=Tryz.zeroValue262 }
open Go.RowKit Go.Lib in
theorem Tryz.bits_Mul (x y:Nat) (hx:x<18446744073709551616) (hy:y<18446744073709551616) (w:World) :
  Calls Tryz.prog 117 #[.int .u64 x,.int .u64 y] w fun e w'=>e = .returned (.tuple #[.int .u64 ((x*y / 18446744073709551616:Nat):Int),.int .u64 ((x*y % 18446744073709551616:Nat):Int)])∧w'=w:=Any.bits_Mul Tryz.lays212 x y hx hy w
end Go.Proofs
namespace Go.Proofs.YtlcfiilejnnlnaaGreatDoor
section
open Go
def intB (n:Int):Nat:=if -9999999≤n∧n≤9999999 then 8 else 21
theorem aL9 (u:Nat) (h:u≤9999999):Lib.nDigits u≤7:=by
 have step:∀ v:Nat,Lib.nDigits v≤Lib.nDigits (v / 10)+1:=fun v=>by
  rw [Lib.nDigits];split
  ·omega
  ·exact Nat.le_refl _
 have h1:=step u
 have h2:=step (u / 10)
 have h3:=step (u / 10 / 10)
 have h4:=step (u / 10 / 10 / 10)
 have h5:=step (u / 10 / 10 / 10 / 10)
 have h6:=step (u / 10 / 10 / 10 / 10 / 10)
 have h7:Lib.nDigits (u / 10 / 10 / 10 / 10 / 10 / 10)=1:=Lib.nDigits_small (by omega)
 omega
theorem ae3 (n:Int):intB n≤21:=by unfold intB;split <;> omega
def an8 (f:Fld):Nat:=16+f.name.size+f.of.size+f.up.size+intB f.lo+intB f.hi+intB f.words.length+(f.words.map fun s=>1+s.size).sum+(f.weights.map fun n=>1+intB n).sum
def sumB {α:Type} (f:α→Nat) (l:List α):Nat:=(l.map f).sum
theorem aw9 {α:Type} (f:α→Nat) (l:List α) (j:Nat) (x:α) (h:l[j]?=some x):sumB f (l.take (j+1))=sumB f (l.take j)+f x:=by
 simp [sumB,List.take_add_one,h,List.sum_append]
theorem aJ6 {α:Type} (f:α→Nat) (l:List α):∀ j,sumB f (l.take j)≤sumB f l:=by
 induction l with
 | nil=>intro j;simp [sumB]
 | cons x l ih=>
  intro j
  cases j with
  | zero=>simp [sumB]
  | succ j=>have:=ih j;simp only [sumB,List.take_succ_cons,List.map_cons,List.sum_cons] at *;omega
def kndB (k:Knd):Nat:=8+k.name.size+intB k.lo+intB k.hi+sumB an8 k.fields
def movB (m:Int × Int):Nat:=7+intB m.1+intB m.2
def lifB (x:Lif):Nat:=7+x.name.size+intB x.states.length+sumB (fun s=>1+s.size) x.states+sumB movB x.moves
def rulB (r:Rul):Nat:=12+r.name.size+r.kind.size+r.a.size+r.b.size+intB r.n
def srcB (x:Sch):Nat:=29+sumB kndB x.kinds+sumB lifB x.lives+sumB rulB x.rules
/-! ### The source -/
def decN (m:Nat):ByteArray:=if m<10 then ⟨#[UInt8.ofNat (48+m)]⟩ else decN (m / 10) ++ ⟨#[UInt8.ofNat (48+m % 10)]⟩
termination_by m
decreasing_by omega
theorem aE5 {m:Nat} (h:m<10):decN m=⟨#[UInt8.ofNat (48+m)]⟩:=by rw [decN,if_pos h]
theorem aR5 {m:Nat} (h:¬ m<10):decN m=decN (m / 10) ++ ⟨#[UInt8.ofNat (48+m % 10)]⟩:=by rw [decN,if_neg h]
theorem as1:∀ (c m:Nat),m<10 ^ (c+1)→(decN m).size≤c+1
 | 0,m,h=>by rw [aE5 (by omega)];exact Nat.le_refl 1
 | c+1,m,h=>by
  by_cases hm:m<10
  ·rw [aE5 hm];show 1≤_;omega
  ·rw [aR5 hm,ByteArray.size_append]
   have:=as1 c (m / 10) (by rw [Nat.pow_succ] at h;omega)
   show _+1≤_
   omega
def decS (n:Int):ByteArray:=if n<0 then (⟨#[45]⟩:ByteArray) ++ decN (-n).toNat else decN n.toNat
theorem bd1 {n:Int} (h:-9223372036854775807≤n∧n≤9223372036854775807):(decS n).size≤intB n:=by
 have one:(⟨#[45]⟩:ByteArray).size=1:=rfl
 unfold decS intB
 split
 ·rw [ByteArray.size_append,one]
  split
  ·have:=as1 6 (-n).toNat (by omega);omega
  ·have:=as1 18 (-n).toNat (by omega);omega
 ·split
  ·have:=as1 6 n.toNat (by omega);omega
  ·have:=as1 18 n.toNat (by omega);omega
def andS (s:ByteArray) (n:Int):ByteArray:=s ++ (⟨#[32]⟩:ByteArray) ++ decS n
theorem bI1 {s:ByteArray} {n:Int} (h:-9223372036854775807≤n∧n≤9223372036854775807):(andS s n).size≤s.size+1+intB n:=by
 unfold andS
 rw [ByteArray.size_append,ByteArray.size_append]
 have:=bd1 h
 have:(⟨#[32]⟩:ByteArray).size=1:=rfl
 omega
def aQ4 (s:ByteArray):ByteArray:=if isE s then ⟨#[45]⟩ else s
theorem bg7 (s:ByteArray):(aQ4 s).size≤s.size+1:=by
 unfold aQ4;split
 ·show 1≤_;omega
 ·omega
end
section
open Go.RowKit Go.Shelf Go.Sort
theorem ck0 {w w':World} (he:Ex w w') {P:Program} {n:String} {cs:Array Value} (h:w.var? P n=some cs):w'.var? P n=some cs:=by
 unfold World.var? at h ⊢
 cases hg:P.globalNamed n with
 | none=>simp [hg] at h
 | some g=>
  simp only [hg,Option.bind_some] at h ⊢
  have hlt:g<w.heap.size:=by
   rcases Nat.lt_or_ge g w.heap.size with h' | h'
   ·exact h'
   ·simp [Array.getElem?_eq_none h'] at h
  rw [he.block g hlt]
  exact h
theorem Pow10.ex {w w':World} (h:Pow10 w) (he:Ex w w'):Pow10 w':=ck0 he h
theorem ce5 (w:World) (k:Nat) (os:Array Obj):Ex w (grow (w.drewN k) os):=
 ⟨rfl,rfl,rfl,by simp [grow,Array.size_append],fun b hb _=>by
  show (w.heap ++ os)[b]?=_
  rw [Array.getElem?_append_left hb]⟩
theorem bD4 (n:Int) (hn:I64 n):(Lib.itoa n).length≤intB n:=by
 unfold intB
 split
 ·by_cases hneg:n<0
  ·obtain ⟨u,rfl⟩:∃ u:Nat,n = -(u:Int):=⟨n.natAbs,by omega⟩
   rw [Lib.itoa_neg u (by omega),List.length_cons,Lib.decDigits_length]
   have:=aL9 u (by omega)
   omega
  ·obtain ⟨u,rfl⟩:∃ u:Nat,n=u:=⟨n.toNat,by omega⟩
   rw [Lib.itoa_nonneg,Lib.decDigits_length]
   have:=aL9 u (by omega)
   omega
 ·exact Lib.itoa_length_le n hn.1 hn.2
theorem bO6 (n:Int) (hn:I64 n) (w:World) (hp:Pow10 w) :
  Calls Tryz.prog 260 #[.int .i64 n] w fun e w'=>∃ s:ByteArray,e = .returned (.string s)∧s.size≤intB n∧Ex w w':=by
 refine (Tryz.strconv_Itoa n hn.1 hn.2 w hp).mono ?_
 rintro e w' ⟨rfl,k,os,rfl⟩
 refine ⟨_,rfl,?_,ce5 w k os⟩
 have:=bD4 n hn
 simpa [ByteArray.size] using this
def RAny (x:Int ⊕ ByteArray) (vs:List Value):Prop:=
 match x with
 | .inl n=>vs=[.iface 3 (.int .i64 n)]∧I64 n
 | .inr s=>vs=[.iface 9 (.string s)]
def as3:Int ⊕ ByteArray→Nat
 | .inl n=>1+intB n
 | .inr s=>1+s.size
def ac0 (l:List (Int ⊕ ByteArray)):Nat:=(l.map as3).sum
theorem bh2 (l:List (Int ⊕ ByteArray)) (j:Nat) (x:Int ⊕ ByteArray) (h:l[j]?=some x):ac0 (l.take (j+1))=ac0 (l.take j)+as3 x:=by
 simp [ac0,List.take_add_one,h,List.sum_append]
theorem bc1 (l:List (Int ⊕ ByteArray)):∀ j,ac0 (l.take j)≤ac0 l:=by
 induction l with
 | nil=>intro j;simp [ac0]
 | cons x l ih=>
  intro j
  cases j with
  | zero=>simp [ac0]
  | succ j=>have:=ih j;simp only [ac0,List.take_succ_cons,List.map_cons,List.sum_cons] at *;omega
theorem Wrote.ex {w wr w':World} {b n n':Nat} {O:Option Nat} (he:Ex w wr) (hb:Bld wr w.heap.size b n O) (hw:Wrote wr w' w.heap.size b n' O):Ex w w':=by
 obtain ⟨hk,_⟩:=hw
 obtain ⟨l,p,v,_,_,hB,_,hown,hO,_⟩:=hb
 refine ⟨hk.os.trans (Keep.os he),hk.tape.trans (Keep.tape he),hk.output.trans (Keep.output he),Nat.le_trans he.size hk.size,fun x hx _=>?_⟩
 rw [hk.block x (Nat.lt_of_lt_of_le hx he.size) ?_]
 ·exact he.block x hx
 ·rintro (rfl|h)
  ·omega
  ·have:=(hown.lt x (by rw [hO,h])).1;omega
theorem Wrote.bld {w w':World} {B b n:Nat} {O:Option Nat} (hw:Wrote w w' B b n O):∃ O',Bld w' B b n O':=by obtain ⟨_,O',h,_⟩:=hw;exact ⟨O',h⟩
theorem bH9 {w w':World} {F:Nat→Prop} {xs:List (Int ⊕ ByteArray)} {a:Option Addr} {cap:Nat} (h:Row 1 RAny w F xs a cap) (hex:Same F w w') {i:Nat} (hi:i<xs.length) :
  ∃ x b off v,Hid (xs[i]?=some x)∧a=some ⟨b,off,none⟩∧F b∧w'.cell? ⟨b,off+i,none⟩=some v∧Hid (RAny x [v]):=by
 obtain ⟨b,off,ha,hb,vs,hl,hr,hc⟩:=h.at_ i xs[i] (List.getElem?_eq_getElem hi)
 obtain ⟨v,rfl⟩:∃ v,vs=[v]:=by
  match vs,hl with
  | [v],_=>exact ⟨v,rfl⟩
 exact ⟨xs[i],b,off,v,Lib.hid (List.getElem?_eq_getElem hi),ha,hb,hex.cell (p:=⟨b,off+i,none⟩) (by have:=hc 0 _ rfl;simpa using this) hb,hr⟩
theorem cv8 (q:Int) (w:World):(Instr.typeAssert (.iface 3 (.int .i64 q)) 20 3 true).run Tryz.prog w = .ok (.tuple #[.int .i64 q,.bool true]) w:=by kernel_rfl
theorem cv7 (q:ByteArray) (w:World):(Instr.typeAssert (.iface 9 (.string q)) 20 3 true).run Tryz.prog w = .ok (.tuple #[.int .i64 0,.bool false]) w:=by kernel_rfl
theorem cv6 (q:ByteArray) (w:World):(Instr.typeAssert (.iface 9 (.string q)) 20 9 true).run Tryz.prog w = .ok (.tuple #[.string q,.bool true]) w:=by kernel_rfl
theorem aW1 (word:ByteArray) (items:List (Int ⊕ ByteArray)) (w:World) {F:Nat→Prop} {a:Option Addr} {cap:Nat} (h:Row 1 RAny w F items a cap) (hp:Pow10 w) (hl:items.length≤1000000) (hm:word.size+ac0 items≤1000000000) :
  Calls Tryz.prog 234 #[.string word,.slice a items.length cap] w fun e w'=>∃ s:ByteArray,e = .returned (.string s)∧s.size≤word.size+ac0 items+1∧Ex w w':=by
 have t1:=cv8
 have t2:=cv7
 have t3:=cv6
 have hbd:=Bld.fresh w w.heap.size (Nat.le_refl _)
 go_enter Tryz.func234,Tryz.ntmps234
 go_wp2_with (go_at_call 163;refine (aj2 hbd _ (by omega)).mono ?_;rintro e w1 ⟨rfl,hwr⟩)
 have hex:=Wrote.ex (Ex.refl w).alloc hbd hwr
 obtain ⟨O,hbd1⟩:=hwr.bld
 clear hwr hbd
 rw [Nat.zero_add] at hbd1
 go_wp2
 go_loopw [14] (fun i wr=>∃ (j n:Nat) (O:Option Nat),j≤items.length∧i = .int .i64 j∧Ex w wr∧Bld wr w.heap.size w.heap.size n O∧n≤word.size+ac0 (items.take j)) (fun i _=>items.length - (intOf i).toNat)
 case atStart=>exact ⟨0,_,O,by omega,rfl,hex,hbd1,by simp [ac0]⟩
 case round=>
  obtain ⟨j,n,O',hj,rfl,hex',hbd,hn⟩:=hrel
  clear hex hbd1
  have hle:=bc1 items j
  by_cases hlt:j<items.length
  ·obtain ⟨x,b,off,v,hx,rfl,_,c0,hr⟩:=bH9 h hex'.same hlt
   have Ht:=Lib.hid (bh2 items j x hx.out)
   have hle1:=bc1 items (j+1)
   have Hle1:=Lib.hid hle1
   clear hle1
   cases x with
   | inl q=>
    obtain ⟨hv,hq⟩:=hr.out
    cases hv
    clear hr
    have hsum:n+1+intB q≤1000000000:=by have h1:=Ht.out;have h2:=Hle1.out;simp only [as3] at h1;omega
    go_wp2_with fail
    refine (aJ3 hbd (by omega)).mono ?_
    rintro e w1 ⟨rfl,hwr⟩
    have hex1:=Wrote.ex hex' hbd hwr
    obtain ⟨O1,hbd1⟩:=hwr.bld
    clear hwr c0
    go_wp2_with fail
    refine (bO6 q hq _ (hp.ex hex1)).mono ?_
    rintro e w2 ⟨s,rfl,hs,he2⟩
    have hbd2:=hbd1.ex he2
    have hex2:=hex1.trans he2
    clear hbd1 he2
    go_wp2_with fail
    refine (aj2 hbd2 s (by omega)).mono ?_
    rintro e w3 ⟨rfl,hwr⟩
    have hex3:=Wrote.ex hex2 hbd2 hwr
    obtain ⟨O3,hbd3⟩:=hwr.bld
    clear hwr hbd2
    go_wp2
    go_roundw
    case rel=>exact ⟨j+1,_,O3,by omega,by go_num,hex3,hbd3,by have h1:=Ht.out;simp only [as3] at h1;omega⟩
    case measure=>simp [intOf];omega
   | inr q=>
    have hv:=hr.out
    cases hv
    clear hr
    have hsum:n+1+q.size≤1000000000:=by have h1:=Ht.out;have h2:=Hle1.out;simp only [as3] at h1;omega
    go_wp2_with fail
    refine (aJ3 hbd (by omega)).mono ?_
    rintro e w1 ⟨rfl,hwr⟩
    have hex1:=Wrote.ex hex' hbd hwr
    obtain ⟨O1,hbd1⟩:=hwr.bld
    clear hwr c0
    go_wp2_with fail
    refine (aj2 hbd1 q (by omega)).mono ?_
    rintro e w3 ⟨rfl,hwr⟩
    have hex3:=Wrote.ex hex1 hbd1 hwr
    obtain ⟨O3,hbd3⟩:=hwr.bld
    clear hwr hbd1
    go_wp2
    go_roundw
    case rel=>exact ⟨j+1,_,O3,by omega,by go_num,hex3,hbd3,by have h1:=Ht.out;simp only [as3] at h1;omega⟩
    case measure=>simp [intOf];omega
  ·have hj':items.take j=items:=List.take_of_length_le (by omega)
   rw [hj'] at hn
   clear hj'
   obtain ⟨l,p,v,hl',hpp,hB,hbk,hown,hO,hne⟩:=hbd
   have hib:Lib.IsBuilder 266 5 w.heap.size w.heap.size (Lib.byteCells l) wr:=by
    rcases hpp with rfl|rfl
    ·exact .inl ⟨hB,v,hbk,by rw [al0];exact hown,by rw [hO];exact hne⟩
    ·exact .inr ⟨hB,v,hbk,by rw [al0];exact hown,by rw [hO];exact hne⟩
   have HSt:=Lib.hid (Tryz.Builder_String_any w.heap.size w.heap.size l wr hib (by have:=hex'.size;omega))
   have HL:=Lib.hid hl'
   clear hbk hown hO hib hpp hl'
   have hsz:l.length≤1000000000:=by have:=HL.out;omega
   go_wp2_with fail
   refine HSt.out.mono ?_
   rintro e w2 ⟨rfl,hb2⟩
   have hex2:Ex w w2:=Ex.of_below ⟨hb2.os.trans (Keep.os hex'),hb2.tape.trans (Keep.tape hex'),hb2.output.trans (Keep.output hex'),Nat.le_trans hex'.size hb2.size,fun k hk=>(hb2.block k hk).trans (hex'.block k hk)⟩
   have hss:(⟨l.toArray⟩:ByteArray).size=l.length:=by simp [ByteArray.size]
   generalize (⟨l.toArray⟩:ByteArray)=st at hss ⊢
   have HSS:=Lib.hid hss
   have hst:st.size≤1000000000:=by omega
   clear hss
   go_wp2
   go_ret
   refine ⟨_,rfl,?_,hex2⟩
   rw [ByteArray.size_append,HSS.out]
   have:=HL.out
   show l.length+1≤_
   omega
end
section
open Go.RowKit Go.Shelf
set_option linter.unusedVariables false
structure Asks {α:Type} (P:Program) (g:FuncId) (cb:Array Value) (w:World) (arg:List Value→Value) (R:α→List Value→Prop) (xs:List α) (p:α→Bool):Prop where
 enters:∀ (args:Array Value) (w:World),(callFunc g args).run P w = .ok (.enter g args) w
 says:∀ x vs W,x∈xs→R x vs→Ex w W→Calls P g (#[arg vs] ++ cb) W fun e W'=>e = .returned (.bool (p x))∧Ex W W'
def ag1 (vs:List Value):Value:=.agg vs.toArray
def as2 (vs:List Value):Value:=vs.headD undef
theorem aA1 {α:Type} {xs:List α} {p:α→Bool} {j:Nat} {x:α} (hno:∀ i y,i<j→xs[i]?=some y→p y=false) (hx:xs[j]?=some x) (hp:p x=false) :
  ∀ i y,i<j+1→xs[i]?=some y→p y=false:=fun i y hi hy=>by
 rcases Nat.lt_or_ge i j with h|h
 ·exact hno i y h hy
 ·obtain rfl:i=j:=by omega
  rw [hx] at hy;cases hy;exact hp
theorem al6 {α:Type} (p:α→Bool) (xs:List α):(!xs.any fun x=>!p x)=xs.all p:=by
 induction xs with
 | nil=>rfl
 | cons x xs ih=>simp only [List.any_cons,List.all_cons,← ih];cases p x <;> simp
theorem aA2 {α:Type} {xs:List α} {p:α→Bool} {j:Nat} (hno:∀ i y,i<j→xs[i]?=some y→p y=false) (hj:xs.length≤j):idx p xs = -1:=
 ag5 (fun i y hy=>hno i y (by have:=(List.getElem?_eq_some_iff.1 hy).1;omega) hy)
theorem Asks.mono {α:Type} {P:Program} {g:FuncId} {cb:Array Value} {w w':World} {arg:List Value→Value} {R:α→List Value→Prop} {xs:List α} {p:α→Bool} (h:Asks P g cb w arg R xs p) (hx:Ex w w'):Asks P g cb w' arg R xs p:=
 ⟨h.enters,fun x vs W hm hr hw=>h.says x vs W hm hr (hx.trans hw)⟩
theorem bb9 {w w' w0:World} {F F0:Nat→Prop} {xs:List Knd} {a:Option Addr} {cap:Nat} (h:Row 4 (RKnd w0 F0) w F xs a cap) (hex:Same F w w') {i:Nat} (hi:i<xs.length) :
  ∃ x b off fa fc,Hid (xs[i]?=some x)∧a=some ⟨b,off,none⟩∧F b∧w'.cell? ⟨b,off+i*4,none⟩=some (.string x.name)∧w'.cell? ⟨b,off+i*4+1,none⟩=some (.int .i64 x.lo)∧w'.cell? ⟨b,off+i*4+2,none⟩=some (.int .i64 x.hi)∧w'.cell? ⟨b,off+i*4+3,none⟩=some (.slice fa x.fields.length fc)∧Hid ((RKnd w0 F0) x [.string x.name,.int .i64 x.lo,.int .i64 x.hi,.slice fa x.fields.length fc]):=by
 obtain ⟨b,off,ha,hb,vs,hl,hr,hc⟩:=h.at_ i xs[i] (List.getElem?_eq_getElem hi)
 have hr':=hr
 obtain ⟨fa,fc,rfl,_⟩:=hr
 exact ⟨xs[i],b,off,fa,fc,Lib.hid (List.getElem?_eq_getElem hi),ha,hb,hex.cell (hc 0 _ rfl) hb,hex.cell (hc 1 _ rfl) hb,hex.cell (hc 2 _ rfl) hb,hex.cell (hc 3 _ rfl) hb,hr'⟩
theorem ce2 {w w0:World} {F F0:Nat→Prop} {xs:List Knd} {a:Option Addr} {cap:Nat} (h:Row 4 (RKnd w0 F0) w F xs a cap) (hl:xs.length≤140737488355328) {g:FuncId} {cb:Array Value} {p:Knd→Bool}
  (hg:Asks Tryz.prog g cb w ag1 (RKnd w0 F0) xs p) :
  Calls Tryz.prog 108 #[.slice a xs.length cap,.func (.func g) #[] cb] w fun e w'=>e = .returned (.int .i64 (idx p xs))∧Ex w w':=by
 have eg:=hg.enters
 go_enter Tryz.func108,Tryz.ntmps108
 go_wp2
 go_loopw [8] (fun i wr=>∃ j:Nat,j≤xs.length∧i = .int .i64 j∧Hid (∀ i y,i<j→xs[i]?=some y→p y=false)∧Ex w wr) (fun i _=>xs.length - (intOf i).toNat)
 case atStart=>exact ⟨0,by omega,rfl,fun i y h=>by omega,Ex.refl _⟩
 case round=>
  obtain ⟨j,hj,rfl,hno,hex⟩:=hrel
  by_cases hlt:j<xs.length
  ·obtain ⟨x,b,off,fa,fc,hx,rfl,_,c0,c1,c2,c3,hr⟩:=bb9 h hex.same hlt
   have hcall:=hg.says x _ wr (List.mem_of_getElem? hx.out) hr.out hex
   simp only [ag1,as2,List.headD] at hcall
   cases hp:p x with
   | true=>
    have hi:=ac5 hx.out hp hno.out
    rw [hp] at hcall
    have Hi:=Lib.hid hi;clear hi hp
    go_wp2_with (go_at_fn g;refine hcall.mono ?_;rintro e w' ⟨rfl,hb'⟩)
    go_ret
    exact ⟨by rw [Hi.out];rfl,hex.trans hb'⟩
   | false=>
    have hi:=aA1 hno.out hx.out hp
    rw [hp] at hcall
    have Hi:=Lib.hid hi;clear hi hp hno
    go_wp2_with (go_at_fn g;refine hcall.mono ?_;rintro e w' ⟨rfl,hb'⟩)
    go_roundw
    case rel=>exact ⟨j+1,by omega,by go_num,Hi,hex.trans hb'⟩
    case measure=>simp [intOf];omega
  ·have hi:idx p xs = -1:=aA2 hno.out (by omega)
   have Hi:=Lib.hid hi;clear hi hno
   go_wp2_with fail
   go_ret
   exact ⟨by rw [Hi.out];rfl,hex⟩
theorem bd6 {w w0:World} {F F0:Nat→Prop} {xs:List Knd} {a:Option Addr} {cap:Nat} (h:Row 4 (RKnd w0 F0) w F xs a cap) (hl:xs.length≤140737488355328) {g:FuncId} {cb:Array Value} {p:Knd→Bool}
  (hg:Asks Tryz.prog g cb w ag1 (RKnd w0 F0) xs p) :
  Calls Tryz.prog 223 #[.slice a xs.length cap,.func (.func g) #[] cb] w fun e w'=>e = .returned (.bool (xs.any p))∧Ex w w':=by
 have hc:=ce2 h hl hg
 have Ha:=Lib.hid (ai2 p xs)
 go_enter Tryz.func223,Tryz.ntmps223
 go_wp2_with (go_at_call 108;refine hc.mono ?_;rintro e w' ⟨rfl,hb'⟩)
 go_ret
 exact ⟨by rw [← Ha.out];rfl,hb'⟩
theorem bS4 {w w0:World} {F0:Nat→Prop} {xs:List Knd} {g:FuncId} {cb:Array Value} {p:Knd→Bool} {B:Nat} (hB:w.cell? ⟨B,0,none⟩=some (.func (.func g) #[] cb))
  (hg:Asks Tryz.prog g cb w ag1 (RKnd w0 F0) xs p):Asks Tryz.prog 224 #[.pointer (some ⟨B,0,none⟩)] w ag1 (RKnd w0 F0) xs (fun x=>!p x):=by
 refine ⟨enters_of Tryz.func224 (by kernel_rfl) rfl,fun x vs W hm hr hW=>?_⟩
 have eg:=hg.enters
 have c0:=hW.cell hB
 have lB:B<W.heap.size:=World.block_lt_of_cell? _ _ c0
 have hr':=hr
 obtain ⟨fa,fc,rfl,_⟩:=hr
 have hcall:=fun W' (hx:Ex W W')=>hg.says x _ W' hm hr' (hW.trans hx)
 simp only [ag1,as2,List.headD,Array.append_empty] at hcall ⊢
 have Hc:=Lib.hid hcall;clear hcall
 show Calls _ _ #[_,_] _ _
 go_enter Tryz.func224,Tryz.ntmps224
 go_wp2_with (go_at_fn g;refine (Hc.out _ (by first|exact Ex.refl _|exact (Ex.refl _).alloc)).mono ?_;rintro e w' ⟨rfl,hb'⟩)
 go_ret
 exact ⟨rfl,by first|exact hb' | exact (Ex.refl _).alloc.trans hb'⟩
theorem ch6 {w w0:World} {F F0:Nat→Prop} {xs:List Knd} {a:Option Addr} {cap:Nat} (h:Row 4 (RKnd w0 F0) w F xs a cap) (hl:xs.length≤140737488355328) {g:FuncId} {cb:Array Value} {p:Knd→Bool}
  (hg:Asks Tryz.prog g cb w ag1 (RKnd w0 F0) xs p) :
  Calls Tryz.prog 190 #[.slice a xs.length cap,.func (.func g) #[] cb] w fun e w'=>e = .returned (.bool (xs.all p))∧Ex w w':=by
 have hcall:=fun B (hB:(w.alloc (.cells #[.func (.func g) #[] cb] 204)).cell? ⟨B,0,none⟩=some (.func (.func g) #[] cb))=>bd6 (h.keep (w':=w.alloc (.cells #[.func (.func g) #[] cb] 204)) (Ex.refl w).alloc.same (fun _ h=>h) (fun _ _ _ h=>h)) hl (bS4 hB (hg.mono (Ex.refl w).alloc))
 have Hc:=Lib.hid hcall;clear hcall
 have Ha:Hid ((!xs.any fun x=>!p x)=xs.all p):=Lib.hid (al6 p xs)
 go_enter Tryz.func190,Tryz.ntmps190
 go_wp2_with (go_at_call 223;refine (Hc.out _ (by simp)).mono ?_;rintro e w' ⟨rfl,hb'⟩)
 go_ret
 exact ⟨by rw [← Ha.out];rfl,(Ex.refl _).alloc.trans hb'⟩
theorem bb5 {w w' w0:World} {F F0:Nat→Prop} {xs:List Lif} {a:Option Addr} {cap:Nat} (h:Row 3 (RLif w0 F0) w F xs a cap) (hex:Same F w w') {i:Nat} (hi:i<xs.length) :
  ∃ x b off sa sc ma mc,Hid (xs[i]?=some x)∧a=some ⟨b,off,none⟩∧F b∧w'.cell? ⟨b,off+i*3,none⟩=some (.string x.name)∧w'.cell? ⟨b,off+i*3+1,none⟩=some (.slice sa x.states.length sc)∧w'.cell? ⟨b,off+i*3+2,none⟩=some (.slice ma x.moves.length mc)∧Hid ((RLif w0 F0) x [.string x.name,.slice sa x.states.length sc,.slice ma x.moves.length mc]):=by
 obtain ⟨b,off,ha,hb,vs,hl,hr,hc⟩:=h.at_ i xs[i] (List.getElem?_eq_getElem hi)
 have hr':=hr
 obtain ⟨sa,sc,ma,mc,rfl,_⟩:=hr
 exact ⟨xs[i],b,off,sa,sc,ma,mc,Lib.hid (List.getElem?_eq_getElem hi),ha,hb,hex.cell (hc 0 _ rfl) hb,hex.cell (hc 1 _ rfl) hb,hex.cell (hc 2 _ rfl) hb,hr'⟩
theorem ce1 {w w0:World} {F F0:Nat→Prop} {xs:List Lif} {a:Option Addr} {cap:Nat} (h:Row 3 (RLif w0 F0) w F xs a cap) (hl:xs.length≤140737488355328) {g:FuncId} {cb:Array Value} {p:Lif→Bool}
  (hg:Asks Tryz.prog g cb w ag1 (RLif w0 F0) xs p) :
  Calls Tryz.prog 197 #[.slice a xs.length cap,.func (.func g) #[] cb] w fun e w'=>e = .returned (.int .i64 (idx p xs))∧Ex w w':=by
 have eg:=hg.enters
 go_enter Tryz.func197,Tryz.ntmps197
 go_wp2
 go_loopw [8] (fun i wr=>∃ j:Nat,j≤xs.length∧i = .int .i64 j∧Hid (∀ i y,i<j→xs[i]?=some y→p y=false)∧Ex w wr) (fun i _=>xs.length - (intOf i).toNat)
 case atStart=>exact ⟨0,by omega,rfl,fun i y h=>by omega,Ex.refl _⟩
 case round=>
  obtain ⟨j,hj,rfl,hno,hex⟩:=hrel
  by_cases hlt:j<xs.length
  ·obtain ⟨x,b,off,sa,sc,ma,mc,hx,rfl,_,c0,c1,c2,hr⟩:=bb5 h hex.same hlt
   have hcall:=hg.says x _ wr (List.mem_of_getElem? hx.out) hr.out hex
   simp only [ag1,as2,List.headD] at hcall
   cases hp:p x with
   | true=>
    have hi:=ac5 hx.out hp hno.out
    rw [hp] at hcall
    have Hi:=Lib.hid hi;clear hi hp
    go_wp2_with (go_at_fn g;refine hcall.mono ?_;rintro e w' ⟨rfl,hb'⟩)
    go_ret
    exact ⟨by rw [Hi.out];rfl,hex.trans hb'⟩
   | false=>
    have hi:=aA1 hno.out hx.out hp
    rw [hp] at hcall
    have Hi:=Lib.hid hi;clear hi hp hno
    go_wp2_with (go_at_fn g;refine hcall.mono ?_;rintro e w' ⟨rfl,hb'⟩)
    go_roundw
    case rel=>exact ⟨j+1,by omega,by go_num,Hi,hex.trans hb'⟩
    case measure=>simp [intOf];omega
  ·have hi:idx p xs = -1:=aA2 hno.out (by omega)
   have Hi:=Lib.hid hi;clear hi hno
   go_wp2_with fail
   go_ret
   exact ⟨by rw [Hi.out];rfl,hex⟩
theorem bd5 {w w0:World} {F F0:Nat→Prop} {xs:List Lif} {a:Option Addr} {cap:Nat} (h:Row 3 (RLif w0 F0) w F xs a cap) (hl:xs.length≤140737488355328) {g:FuncId} {cb:Array Value} {p:Lif→Bool}
  (hg:Asks Tryz.prog g cb w ag1 (RLif w0 F0) xs p) :
  Calls Tryz.prog 145 #[.slice a xs.length cap,.func (.func g) #[] cb] w fun e w'=>e = .returned (.bool (xs.any p))∧Ex w w':=by
 have hc:=ce1 h hl hg
 have Ha:=Lib.hid (ai2 p xs)
 go_enter Tryz.func145,Tryz.ntmps145
 go_wp2_with (go_at_call 197;refine hc.mono ?_;rintro e w' ⟨rfl,hb'⟩)
 go_ret
 exact ⟨by rw [← Ha.out];rfl,hb'⟩
theorem bS3 {w w0:World} {F0:Nat→Prop} {xs:List Lif} {g:FuncId} {cb:Array Value} {p:Lif→Bool} {B:Nat} (hB:w.cell? ⟨B,0,none⟩=some (.func (.func g) #[] cb))
  (hg:Asks Tryz.prog g cb w ag1 (RLif w0 F0) xs p):Asks Tryz.prog 229 #[.pointer (some ⟨B,0,none⟩)] w ag1 (RLif w0 F0) xs (fun x=>!p x):=by
 refine ⟨enters_of Tryz.func229 (by kernel_rfl) rfl,fun x vs W hm hr hW=>?_⟩
 have eg:=hg.enters
 have c0:=hW.cell hB
 have lB:B<W.heap.size:=World.block_lt_of_cell? _ _ c0
 have hr':=hr
 obtain ⟨sa,sc,ma,mc,rfl,_⟩:=hr
 have hcall:=fun W' (hx:Ex W W')=>hg.says x _ W' hm hr' (hW.trans hx)
 simp only [ag1,as2,List.headD,Array.append_empty] at hcall ⊢
 have Hc:=Lib.hid hcall;clear hcall
 show Calls _ _ #[_,_] _ _
 go_enter Tryz.func229,Tryz.ntmps229
 go_wp2_with (go_at_fn g;refine (Hc.out _ (by first|exact Ex.refl _|exact (Ex.refl _).alloc)).mono ?_;rintro e w' ⟨rfl,hb'⟩)
 go_ret
 exact ⟨rfl,by first|exact hb' | exact (Ex.refl _).alloc.trans hb'⟩
theorem ch5 {w w0:World} {F F0:Nat→Prop} {xs:List Lif} {a:Option Addr} {cap:Nat} (h:Row 3 (RLif w0 F0) w F xs a cap) (hl:xs.length≤140737488355328) {g:FuncId} {cb:Array Value} {p:Lif→Bool}
  (hg:Asks Tryz.prog g cb w ag1 (RLif w0 F0) xs p) :
  Calls Tryz.prog 192 #[.slice a xs.length cap,.func (.func g) #[] cb] w fun e w'=>e = .returned (.bool (xs.all p))∧Ex w w':=by
 have hcall:=fun B (hB:(w.alloc (.cells #[.func (.func g) #[] cb] 239)).cell? ⟨B,0,none⟩=some (.func (.func g) #[] cb))=>bd5 (h.keep (w':=w.alloc (.cells #[.func (.func g) #[] cb] 239)) (Ex.refl w).alloc.same (fun _ h=>h) (fun _ _ _ h=>h)) hl (bS3 hB (hg.mono (Ex.refl w).alloc))
 have Hc:=Lib.hid hcall;clear hcall
 have Ha:Hid ((!xs.any fun x=>!p x)=xs.all p):=Lib.hid (al6 p xs)
 go_enter Tryz.func192,Tryz.ntmps192
 go_wp2_with (go_at_call 145;refine (Hc.out _ (by simp)).mono ?_;rintro e w' ⟨rfl,hb'⟩)
 go_ret
 exact ⟨by rw [← Ha.out];rfl,(Ex.refl _).alloc.trans hb'⟩
theorem aZ4 {w w':World} {F:Nat→Prop} {xs:List Rul} {a:Option Addr} {cap:Nat} (h:Row 5 RRul w F xs a cap) (hex:Same F w w') {i:Nat} (hi:i<xs.length) :
  ∃ x b off,Hid (xs[i]?=some x)∧a=some ⟨b,off,none⟩∧F b∧w'.cell? ⟨b,off+i*5,none⟩=some (.string x.name)∧w'.cell? ⟨b,off+i*5+1,none⟩=some (.string x.kind)∧w'.cell? ⟨b,off+i*5+2,none⟩=some (.string x.a)∧w'.cell? ⟨b,off+i*5+3,none⟩=some (.string x.b)∧w'.cell? ⟨b,off+i*5+4,none⟩=some (.int .i64 x.n)∧Hid (RRul x [.string x.name,.string x.kind,.string x.a,.string x.b,.int .i64 x.n]):=by
 obtain ⟨b,off,ha,hb,vs,hl,hr,hc⟩:=h.at_ i xs[i] (List.getElem?_eq_getElem hi)
 have hr':=hr
 obtain ⟨rfl,_⟩:=hr
 exact ⟨xs[i],b,off,Lib.hid (List.getElem?_eq_getElem hi),ha,hb,hex.cell (hc 0 _ rfl) hb,hex.cell (hc 1 _ rfl) hb,hex.cell (hc 2 _ rfl) hb,hex.cell (hc 3 _ rfl) hb,hex.cell (hc 4 _ rfl) hb,hr'⟩
theorem ce0 {w:World} {F:Nat→Prop} {xs:List Rul} {a:Option Addr} {cap:Nat} (h:Row 5 RRul w F xs a cap) (hl:xs.length≤140737488355328) {g:FuncId} {cb:Array Value} {p:Rul→Bool}
  (hg:Asks Tryz.prog g cb w ag1 RRul xs p) :
  Calls Tryz.prog 237 #[.slice a xs.length cap,.func (.func g) #[] cb] w fun e w'=>e = .returned (.int .i64 (idx p xs))∧Ex w w':=by
 have eg:=hg.enters
 go_enter Tryz.func237,Tryz.ntmps237
 go_wp2
 go_loopw [8] (fun i wr=>∃ j:Nat,j≤xs.length∧i = .int .i64 j∧Hid (∀ i y,i<j→xs[i]?=some y→p y=false)∧Ex w wr) (fun i _=>xs.length - (intOf i).toNat)
 case atStart=>exact ⟨0,by omega,rfl,fun i y h=>by omega,Ex.refl _⟩
 case round=>
  obtain ⟨j,hj,rfl,hno,hex⟩:=hrel
  by_cases hlt:j<xs.length
  ·obtain ⟨x,b,off,hx,rfl,_,c0,c1,c2,c3,c4,hr⟩:=aZ4 h hex.same hlt
   have hcall:=hg.says x _ wr (List.mem_of_getElem? hx.out) hr.out hex
   simp only [ag1,as2,List.headD] at hcall
   cases hp:p x with
   | true=>
    have hi:=ac5 hx.out hp hno.out
    rw [hp] at hcall
    have Hi:=Lib.hid hi;clear hi hp
    go_wp2_with (go_at_fn g;refine hcall.mono ?_;rintro e w' ⟨rfl,hb'⟩)
    go_ret
    exact ⟨by rw [Hi.out];rfl,hex.trans hb'⟩
   | false=>
    have hi:=aA1 hno.out hx.out hp
    rw [hp] at hcall
    have Hi:=Lib.hid hi;clear hi hp hno
    go_wp2_with (go_at_fn g;refine hcall.mono ?_;rintro e w' ⟨rfl,hb'⟩)
    go_roundw
    case rel=>exact ⟨j+1,by omega,by go_num,Hi,hex.trans hb'⟩
    case measure=>simp [intOf];omega
  ·have hi:idx p xs = -1:=aA2 hno.out (by omega)
   have Hi:=Lib.hid hi;clear hi hno
   go_wp2_with fail
   go_ret
   exact ⟨by rw [Hi.out];rfl,hex⟩
theorem bd4 {w:World} {F:Nat→Prop} {xs:List Rul} {a:Option Addr} {cap:Nat} (h:Row 5 RRul w F xs a cap) (hl:xs.length≤140737488355328) {g:FuncId} {cb:Array Value} {p:Rul→Bool}
  (hg:Asks Tryz.prog g cb w ag1 RRul xs p) :
  Calls Tryz.prog 198 #[.slice a xs.length cap,.func (.func g) #[] cb] w fun e w'=>e = .returned (.bool (xs.any p))∧Ex w w':=by
 have hc:=ce0 h hl hg
 have Ha:=Lib.hid (ai2 p xs)
 go_enter Tryz.func198,Tryz.ntmps198
 go_wp2_with (go_at_call 237;refine hc.mono ?_;rintro e w' ⟨rfl,hb'⟩)
 go_ret
 exact ⟨by rw [← Ha.out];rfl,hb'⟩
theorem bS2 {w:World} {xs:List Rul} {g:FuncId} {cb:Array Value} {p:Rul→Bool} {B:Nat} (hB:w.cell? ⟨B,0,none⟩=some (.func (.func g) #[] cb))
  (hg:Asks Tryz.prog g cb w ag1 RRul xs p):Asks Tryz.prog 233 #[.pointer (some ⟨B,0,none⟩)] w ag1 RRul xs (fun x=>!p x):=by
 refine ⟨enters_of Tryz.func233 (by kernel_rfl) rfl,fun x vs W hm hr hW=>?_⟩
 have eg:=hg.enters
 have c0:=hW.cell hB
 have lB:B<W.heap.size:=World.block_lt_of_cell? _ _ c0
 have hr':=hr
 obtain ⟨rfl,_⟩:=hr
 have hcall:=fun W' (hx:Ex W W')=>hg.says x _ W' hm hr' (hW.trans hx)
 simp only [ag1,as2,List.headD,Array.append_empty] at hcall ⊢
 have Hc:=Lib.hid hcall;clear hcall
 show Calls _ _ #[_,_] _ _
 go_enter Tryz.func233,Tryz.ntmps233
 go_wp2_with (go_at_fn g;refine (Hc.out _ (by first|exact Ex.refl _|exact (Ex.refl _).alloc)).mono ?_;rintro e w' ⟨rfl,hb'⟩)
 go_ret
 exact ⟨rfl,by first|exact hb' | exact (Ex.refl _).alloc.trans hb'⟩
theorem ch4 {w:World} {F:Nat→Prop} {xs:List Rul} {a:Option Addr} {cap:Nat} (h:Row 5 RRul w F xs a cap) (hl:xs.length≤140737488355328) {g:FuncId} {cb:Array Value} {p:Rul→Bool}
  (hg:Asks Tryz.prog g cb w ag1 RRul xs p) :
  Calls Tryz.prog 194 #[.slice a xs.length cap,.func (.func g) #[] cb] w fun e w'=>e = .returned (.bool (xs.all p))∧Ex w w':=by
 have hcall:=fun B (hB:(w.alloc (.cells #[.func (.func g) #[] cb] 284)).cell? ⟨B,0,none⟩=some (.func (.func g) #[] cb))=>bd4 (h.keep (w':=w.alloc (.cells #[.func (.func g) #[] cb] 284)) (Ex.refl w).alloc.same (fun _ h=>h) (fun _ _ _ h=>h)) hl (bS2 hB (hg.mono (Ex.refl w).alloc))
 have Hc:=Lib.hid hcall;clear hcall
 have Ha:Hid ((!xs.any fun x=>!p x)=xs.all p):=Lib.hid (al6 p xs)
 go_enter Tryz.func194,Tryz.ntmps194
 go_wp2_with (go_at_call 198;refine (Hc.out _ (by simp)).mono ?_;rintro e w' ⟨rfl,hb'⟩)
 go_ret
 exact ⟨by rw [← Ha.out];rfl,(Ex.refl _).alloc.trans hb'⟩
theorem bc8 {w w' w0:World} {F F0:Nat→Prop} {xs:List Fld} {a:Option Addr} {cap:Nat} (h:Row 8 (RFld w0 F0) w F xs a cap) (hex:Same F w w') {i:Nat} (hi:i<xs.length) :
  ∃ x b off wa wc ga gc,Hid (xs[i]?=some x)∧a=some ⟨b,off,none⟩∧F b∧w'.cell? ⟨b,off+i*8,none⟩=some (.string x.name)∧w'.cell? ⟨b,off+i*8+1,none⟩=some (.string x.of)∧w'.cell? ⟨b,off+i*8+2,none⟩=some (.string x.up)∧w'.cell? ⟨b,off+i*8+3,none⟩=some (.int .i64 x.kind)∧w'.cell? ⟨b,off+i*8+4,none⟩=some (.int .i64 x.lo)∧w'.cell? ⟨b,off+i*8+5,none⟩=some (.int .i64 x.hi)∧w'.cell? ⟨b,off+i*8+6,none⟩=some (.slice wa x.words.length wc)∧w'.cell? ⟨b,off+i*8+7,none⟩=some (.slice ga x.weights.length gc)∧Hid ((RFld w0 F0) x [.string x.name,.string x.of,.string x.up,.int .i64 x.kind,.int .i64 x.lo,.int .i64 x.hi,.slice wa x.words.length wc,.slice ga x.weights.length gc]):=by
 obtain ⟨b,off,ha,hb,vs,hl,hr,hc⟩:=h.at_ i xs[i] (List.getElem?_eq_getElem hi)
 have hr':=hr
 obtain ⟨wa,wc,ga,gc,rfl,_⟩:=hr
 exact ⟨xs[i],b,off,wa,wc,ga,gc,Lib.hid (List.getElem?_eq_getElem hi),ha,hb,hex.cell (hc 0 _ rfl) hb,hex.cell (hc 1 _ rfl) hb,hex.cell (hc 2 _ rfl) hb,hex.cell (hc 3 _ rfl) hb,hex.cell (hc 4 _ rfl) hb,hex.cell (hc 5 _ rfl) hb,hex.cell (hc 6 _ rfl) hb,hex.cell (hc 7 _ rfl) hb,hr'⟩
theorem ce3 {w w0:World} {F F0:Nat→Prop} {xs:List Fld} {a:Option Addr} {cap:Nat} (h:Row 8 (RFld w0 F0) w F xs a cap) (hl:xs.length≤140737488355328) {g:FuncId} {cb:Array Value} {p:Fld→Bool}
  (hg:Asks Tryz.prog g cb w ag1 (RFld w0 F0) xs p) :
  Calls Tryz.prog 165 #[.slice a xs.length cap,.func (.func g) #[] cb] w fun e w'=>e = .returned (.int .i64 (idx p xs))∧Ex w w':=by
 have eg:=hg.enters
 go_enter Tryz.func165,Tryz.ntmps165
 go_wp2
 go_loopw [8] (fun i wr=>∃ j:Nat,j≤xs.length∧i = .int .i64 j∧Hid (∀ i y,i<j→xs[i]?=some y→p y=false)∧Ex w wr) (fun i _=>xs.length - (intOf i).toNat)
 case atStart=>exact ⟨0,by omega,rfl,fun i y h=>by omega,Ex.refl _⟩
 case round=>
  obtain ⟨j,hj,rfl,hno,hex⟩:=hrel
  by_cases hlt:j<xs.length
  ·obtain ⟨x,b,off,wa,wc,ga,gc,hx,rfl,_,c0,c1,c2,c3,c4,c5,c6,c7,hr⟩:=bc8 h hex.same hlt
   have hcall:=hg.says x _ wr (List.mem_of_getElem? hx.out) hr.out hex
   simp only [ag1,as2,List.headD] at hcall
   cases hp:p x with
   | true=>
    have hi:=ac5 hx.out hp hno.out
    rw [hp] at hcall
    have Hi:=Lib.hid hi;clear hi hp
    go_wp2_with (go_at_fn g;refine hcall.mono ?_;rintro e w' ⟨rfl,hb'⟩)
    go_ret
    exact ⟨by rw [Hi.out];rfl,hex.trans hb'⟩
   | false=>
    have hi:=aA1 hno.out hx.out hp
    rw [hp] at hcall
    have Hi:=Lib.hid hi;clear hi hp hno
    go_wp2_with (go_at_fn g;refine hcall.mono ?_;rintro e w' ⟨rfl,hb'⟩)
    go_roundw
    case rel=>exact ⟨j+1,by omega,by go_num,Hi,hex.trans hb'⟩
    case measure=>simp [intOf];omega
  ·have hi:idx p xs = -1:=aA2 hno.out (by omega)
   have Hi:=Lib.hid hi;clear hi hno
   go_wp2_with fail
   go_ret
   exact ⟨by rw [Hi.out];rfl,hex⟩
theorem bd7 {w w0:World} {F F0:Nat→Prop} {xs:List Fld} {a:Option Addr} {cap:Nat} (h:Row 8 (RFld w0 F0) w F xs a cap) (hl:xs.length≤140737488355328) {g:FuncId} {cb:Array Value} {p:Fld→Bool}
  (hg:Asks Tryz.prog g cb w ag1 (RFld w0 F0) xs p) :
  Calls Tryz.prog 252 #[.slice a xs.length cap,.func (.func g) #[] cb] w fun e w'=>e = .returned (.bool (xs.any p))∧Ex w w':=by
 have hc:=ce3 h hl hg
 have Ha:=Lib.hid (ai2 p xs)
 go_enter Tryz.func252,Tryz.ntmps252
 go_wp2_with (go_at_call 165;refine hc.mono ?_;rintro e w' ⟨rfl,hb'⟩)
 go_ret
 exact ⟨by rw [← Ha.out];rfl,hb'⟩
theorem bS5 {w w0:World} {F0:Nat→Prop} {xs:List Fld} {g:FuncId} {cb:Array Value} {p:Fld→Bool} {B:Nat} (hB:w.cell? ⟨B,0,none⟩=some (.func (.func g) #[] cb))
  (hg:Asks Tryz.prog g cb w ag1 (RFld w0 F0) xs p):Asks Tryz.prog 253 #[.pointer (some ⟨B,0,none⟩)] w ag1 (RFld w0 F0) xs (fun x=>!p x):=by
 refine ⟨enters_of Tryz.func253 (by kernel_rfl) rfl,fun x vs W hm hr hW=>?_⟩
 have eg:=hg.enters
 have c0:=hW.cell hB
 have lB:B<W.heap.size:=World.block_lt_of_cell? _ _ c0
 have hr':=hr
 obtain ⟨wa,wc,ga,gc,rfl,_⟩:=hr
 have hcall:=fun W' (hx:Ex W W')=>hg.says x _ W' hm hr' (hW.trans hx)
 simp only [ag1,as2,List.headD,Array.append_empty] at hcall ⊢
 have Hc:=Lib.hid hcall;clear hcall
 show Calls _ _ #[_,_] _ _
 go_enter Tryz.func253,Tryz.ntmps253
 go_wp2_with (go_at_fn g;refine (Hc.out _ (by first|exact Ex.refl _|exact (Ex.refl _).alloc)).mono ?_;rintro e w' ⟨rfl,hb'⟩)
 go_ret
 exact ⟨rfl,by first|exact hb' | exact (Ex.refl _).alloc.trans hb'⟩
theorem ch7 {w w0:World} {F F0:Nat→Prop} {xs:List Fld} {a:Option Addr} {cap:Nat} (h:Row 8 (RFld w0 F0) w F xs a cap) (hl:xs.length≤140737488355328) {g:FuncId} {cb:Array Value} {p:Fld→Bool}
  (hg:Asks Tryz.prog g cb w ag1 (RFld w0 F0) xs p) :
  Calls Tryz.prog 227 #[.slice a xs.length cap,.func (.func g) #[] cb] w fun e w'=>e = .returned (.bool (xs.all p))∧Ex w w':=by
 have hcall:=fun B (hB:(w.alloc (.cells #[.func (.func g) #[] cb] 274)).cell? ⟨B,0,none⟩=some (.func (.func g) #[] cb))=>bd7 (h.keep (w':=w.alloc (.cells #[.func (.func g) #[] cb] 274)) (Ex.refl w).alloc.same (fun _ h=>h) (fun _ _ _ h=>h)) hl (bS5 hB (hg.mono (Ex.refl w).alloc))
 have Hc:=Lib.hid hcall;clear hcall
 have Ha:Hid ((!xs.any fun x=>!p x)=xs.all p):=Lib.hid (al6 p xs)
 go_enter Tryz.func227,Tryz.ntmps227
 go_wp2_with (go_at_call 252;refine (Hc.out _ (by simp)).mono ?_;rintro e w' ⟨rfl,hb'⟩)
 go_ret
 exact ⟨by rw [← Ha.out];rfl,(Ex.refl _).alloc.trans hb'⟩
theorem au1 {w w':World} {F:Nat→Prop} {xs:List ByteArray} {a:Option Addr} {cap:Nat} (h:Row 1 RStr w F xs a cap) (hex:Same F w w') {i:Nat} (hi:i<xs.length) :
  ∃ x b off,Hid (xs[i]?=some x)∧a=some ⟨b,off,none⟩∧F b∧w'.cell? ⟨b,off+i,none⟩=some (.string x)∧Hid (RStr x [.string x]):=by
 obtain ⟨b,off,ha,hb,vs,hl,hr,hc⟩:=h.at_ i xs[i] (List.getElem?_eq_getElem hi)
 have hr':=hr
 obtain rfl:=hr
 exact ⟨xs[i],b,off,Lib.hid (List.getElem?_eq_getElem hi),ha,hb,hex.cell (p:=⟨b,off+i,none⟩) (by have:=hc 0 _ rfl;simpa using this) hb,hr'⟩
theorem cd9 {w:World} {F:Nat→Prop} {xs:List ByteArray} {a:Option Addr} {cap:Nat} (h:Row 1 RStr w F xs a cap) (hl:xs.length≤140737488355328) {g:FuncId} {cb:Array Value} {p:ByteArray→Bool}
  (hg:Asks Tryz.prog g cb w as2 RStr xs p) :
  Calls Tryz.prog 238 #[.slice a xs.length cap,.func (.func g) #[] cb] w fun e w'=>e = .returned (.int .i64 (idx p xs))∧Ex w w':=by
 have eg:=hg.enters
 go_enter Tryz.func238,Tryz.ntmps238
 go_wp2
 go_loopw [8] (fun i wr=>∃ j:Nat,j≤xs.length∧i = .int .i64 j∧Hid (∀ i y,i<j→xs[i]?=some y→p y=false)∧Ex w wr) (fun i _=>xs.length - (intOf i).toNat)
 case atStart=>exact ⟨0,by omega,rfl,fun i y h=>by omega,Ex.refl _⟩
 case round=>
  obtain ⟨j,hj,rfl,hno,hex⟩:=hrel
  by_cases hlt:j<xs.length
  ·obtain ⟨x,b,off,hx,rfl,_,c0,hr⟩:=au1 h hex.same hlt
   have hcall:=hg.says x _ wr (List.mem_of_getElem? hx.out) hr.out hex
   simp only [ag1,as2,List.headD] at hcall
   cases hp:p x with
   | true=>
    have hi:=ac5 hx.out hp hno.out
    rw [hp] at hcall
    have Hi:=Lib.hid hi;clear hi hp
    go_wp2_with (go_at_fn g;refine hcall.mono ?_;rintro e w' ⟨rfl,hb'⟩)
    go_ret
    exact ⟨by rw [Hi.out];rfl,hex.trans hb'⟩
   | false=>
    have hi:=aA1 hno.out hx.out hp
    rw [hp] at hcall
    have Hi:=Lib.hid hi;clear hi hp hno
    go_wp2_with (go_at_fn g;refine hcall.mono ?_;rintro e w' ⟨rfl,hb'⟩)
    go_roundw
    case rel=>exact ⟨j+1,by omega,by go_num,Hi,hex.trans hb'⟩
    case measure=>simp [intOf];omega
  ·have hi:idx p xs = -1:=aA2 hno.out (by omega)
   have Hi:=Lib.hid hi;clear hi hno
   go_wp2_with fail
   go_ret
   exact ⟨by rw [Hi.out];rfl,hex⟩
theorem bd3 {w:World} {F:Nat→Prop} {xs:List ByteArray} {a:Option Addr} {cap:Nat} (h:Row 1 RStr w F xs a cap) (hl:xs.length≤140737488355328) {g:FuncId} {cb:Array Value} {p:ByteArray→Bool}
  (hg:Asks Tryz.prog g cb w as2 RStr xs p) :
  Calls Tryz.prog 200 #[.slice a xs.length cap,.func (.func g) #[] cb] w fun e w'=>e = .returned (.bool (xs.any p))∧Ex w w':=by
 have hc:=cd9 h hl hg
 have Ha:=Lib.hid (ai2 p xs)
 go_enter Tryz.func200,Tryz.ntmps200
 go_wp2_with (go_at_call 238;refine hc.mono ?_;rintro e w' ⟨rfl,hb'⟩)
 go_ret
 exact ⟨by rw [← Ha.out];rfl,hb'⟩
theorem bS1 {w:World} {xs:List ByteArray} {g:FuncId} {cb:Array Value} {p:ByteArray→Bool} {B:Nat} (hB:w.cell? ⟨B,0,none⟩=some (.func (.func g) #[] cb))
  (hg:Asks Tryz.prog g cb w as2 RStr xs p):Asks Tryz.prog 257 #[.pointer (some ⟨B,0,none⟩)] w as2 RStr xs (fun x=>!p x):=by
 refine ⟨enters_of Tryz.func257 (by kernel_rfl) rfl,fun x vs W hm hr hW=>?_⟩
 have eg:=hg.enters
 have c0:=hW.cell hB
 have lB:B<W.heap.size:=World.block_lt_of_cell? _ _ c0
 have hr':=hr
 obtain rfl:=hr
 have hcall:=fun W' (hx:Ex W W')=>hg.says x _ W' hm hr' (hW.trans hx)
 simp only [ag1,as2,List.headD,Array.append_empty] at hcall ⊢
 have Hc:=Lib.hid hcall;clear hcall
 show Calls _ _ #[_,_] _ _
 go_enter Tryz.func257,Tryz.ntmps257
 go_wp2_with (go_at_fn g;refine (Hc.out _ (by first|exact Ex.refl _|exact (Ex.refl _).alloc)).mono ?_;rintro e w' ⟨rfl,hb'⟩)
 go_ret
 exact ⟨rfl,by first|exact hb' | exact (Ex.refl _).alloc.trans hb'⟩
theorem bI2 {w:World} {F:Nat→Prop} {xs:List ByteArray} {a:Option Addr} {cap:Nat} (h:Row 1 RStr w F xs a cap) (hl:xs.length≤140737488355328) {g:FuncId} {cb:Array Value} {p:ByteArray→Bool}
  (hg:Asks Tryz.prog g cb w as2 RStr xs p) :
  Calls Tryz.prog 230 #[.slice a xs.length cap,.func (.func g) #[] cb] w fun e w'=>e = .returned (.bool (xs.all p))∧Ex w w':=by
 have hcall:=fun B (hB:(w.alloc (.cells #[.func (.func g) #[] cb] 256)).cell? ⟨B,0,none⟩=some (.func (.func g) #[] cb))=>bd3 (h.keep (w':=w.alloc (.cells #[.func (.func g) #[] cb] 256)) (Ex.refl w).alloc.same (fun _ h=>h) (fun _ _ _ h=>h)) hl (bS1 hB (hg.mono (Ex.refl w).alloc))
 have Hc:=Lib.hid hcall;clear hcall
 have Ha:Hid ((!xs.any fun x=>!p x)=xs.all p):=Lib.hid (al6 p xs)
 go_enter Tryz.func230,Tryz.ntmps230
 go_wp2_with (go_at_call 200;refine (Hc.out _ (by simp)).mono ?_;rintro e w' ⟨rfl,hb'⟩)
 go_ret
 exact ⟨by rw [← Ha.out];rfl,(Ex.refl _).alloc.trans hb'⟩
theorem aY6 {w w':World} {F:Nat→Prop} {xs:List (Int × Int)} {a:Option Addr} {cap:Nat} (h:Row 2 RTwo w F xs a cap) (hex:Same F w w') {i:Nat} (hi:i<xs.length) :
  ∃ x b off,Hid (xs[i]?=some x)∧a=some ⟨b,off,none⟩∧F b∧w'.cell? ⟨b,off+i*2,none⟩=some (.int .i64 x.1)∧w'.cell? ⟨b,off+i*2+1,none⟩=some (.int .i64 x.2)∧Hid (RTwo x [.int .i64 x.1,.int .i64 x.2]):=by
 obtain ⟨b,off,ha,hb,vs,hl,hr,hc⟩:=h.at_ i xs[i] (List.getElem?_eq_getElem hi)
 have hr':=hr
 obtain ⟨rfl,_⟩:=hr
 exact ⟨xs[i],b,off,Lib.hid (List.getElem?_eq_getElem hi),ha,hb,hex.cell (hc 0 _ rfl) hb,hex.cell (hc 1 _ rfl) hb,hr'⟩
theorem cd8 {w:World} {F:Nat→Prop} {xs:List (Int × Int)} {a:Option Addr} {cap:Nat} (h:Row 2 RTwo w F xs a cap) (hl:xs.length≤140737488355328) {g:FuncId} {cb:Array Value} {p:(Int × Int)→Bool}
  (hg:Asks Tryz.prog g cb w ag1 RTwo xs p) :
  Calls Tryz.prog 241 #[.slice a xs.length cap,.func (.func g) #[] cb] w fun e w'=>e = .returned (.int .i64 (idx p xs))∧Ex w w':=by
 have eg:=hg.enters
 go_enter Tryz.func241,Tryz.ntmps241
 go_wp2
 go_loopw [8] (fun i wr=>∃ j:Nat,j≤xs.length∧i = .int .i64 j∧Hid (∀ i y,i<j→xs[i]?=some y→p y=false)∧Ex w wr) (fun i _=>xs.length - (intOf i).toNat)
 case atStart=>exact ⟨0,by omega,rfl,fun i y h=>by omega,Ex.refl _⟩
 case round=>
  obtain ⟨j,hj,rfl,hno,hex⟩:=hrel
  by_cases hlt:j<xs.length
  ·obtain ⟨x,b,off,hx,rfl,_,c0,c1,hr⟩:=aY6 h hex.same hlt
   have hcall:=hg.says x _ wr (List.mem_of_getElem? hx.out) hr.out hex
   simp only [ag1,as2,List.headD] at hcall
   cases hp:p x with
   | true=>
    have hi:=ac5 hx.out hp hno.out
    rw [hp] at hcall
    have Hi:=Lib.hid hi;clear hi hp
    go_wp2_with (go_at_fn g;refine hcall.mono ?_;rintro e w' ⟨rfl,hb'⟩)
    go_ret
    exact ⟨by rw [Hi.out];rfl,hex.trans hb'⟩
   | false=>
    have hi:=aA1 hno.out hx.out hp
    rw [hp] at hcall
    have Hi:=Lib.hid hi;clear hi hp hno
    go_wp2_with (go_at_fn g;refine hcall.mono ?_;rintro e w' ⟨rfl,hb'⟩)
    go_roundw
    case rel=>exact ⟨j+1,by omega,by go_num,Hi,hex.trans hb'⟩
    case measure=>simp [intOf];omega
  ·have hi:idx p xs = -1:=aA2 hno.out (by omega)
   have Hi:=Lib.hid hi;clear hi hno
   go_wp2_with fail
   go_ret
   exact ⟨by rw [Hi.out];rfl,hex⟩
theorem bd2 {w:World} {F:Nat→Prop} {xs:List (Int × Int)} {a:Option Addr} {cap:Nat} (h:Row 2 RTwo w F xs a cap) (hl:xs.length≤140737488355328) {g:FuncId} {cb:Array Value} {p:(Int × Int)→Bool}
  (hg:Asks Tryz.prog g cb w ag1 RTwo xs p) :
  Calls Tryz.prog 207 #[.slice a xs.length cap,.func (.func g) #[] cb] w fun e w'=>e = .returned (.bool (xs.any p))∧Ex w w':=by
 have hc:=cd8 h hl hg
 have Ha:=Lib.hid (ai2 p xs)
 go_enter Tryz.func207,Tryz.ntmps207
 go_wp2_with (go_at_call 241;refine hc.mono ?_;rintro e w' ⟨rfl,hb'⟩)
 go_ret
 exact ⟨by rw [← Ha.out];rfl,hb'⟩
theorem bS0 {w:World} {xs:List (Int × Int)} {g:FuncId} {cb:Array Value} {p:(Int × Int)→Bool} {B:Nat} (hB:w.cell? ⟨B,0,none⟩=some (.func (.func g) #[] cb))
  (hg:Asks Tryz.prog g cb w ag1 RTwo xs p):Asks Tryz.prog 258 #[.pointer (some ⟨B,0,none⟩)] w ag1 RTwo xs (fun x=>!p x):=by
 refine ⟨enters_of Tryz.func258 (by kernel_rfl) rfl,fun x vs W hm hr hW=>?_⟩
 have eg:=hg.enters
 have c0:=hW.cell hB
 have lB:B<W.heap.size:=World.block_lt_of_cell? _ _ c0
 have hr':=hr
 obtain ⟨rfl,_⟩:=hr
 have hcall:=fun W' (hx:Ex W W')=>hg.says x _ W' hm hr' (hW.trans hx)
 simp only [ag1,as2,List.headD,Array.append_empty] at hcall ⊢
 have Hc:=Lib.hid hcall;clear hcall
 show Calls _ _ #[_,_] _ _
 go_enter Tryz.func258,Tryz.ntmps258
 go_wp2_with (go_at_fn g;refine (Hc.out _ (by first|exact Ex.refl _|exact (Ex.refl _).alloc)).mono ?_;rintro e w' ⟨rfl,hb'⟩)
 go_ret
 exact ⟨rfl,by first|exact hb' | exact (Ex.refl _).alloc.trans hb'⟩
theorem ch3 {w:World} {F:Nat→Prop} {xs:List (Int × Int)} {a:Option Addr} {cap:Nat} (h:Row 2 RTwo w F xs a cap) (hl:xs.length≤140737488355328) {g:FuncId} {cb:Array Value} {p:(Int × Int)→Bool}
  (hg:Asks Tryz.prog g cb w ag1 RTwo xs p) :
  Calls Tryz.prog 231 #[.slice a xs.length cap,.func (.func g) #[] cb] w fun e w'=>e = .returned (.bool (xs.all p))∧Ex w w':=by
 have hcall:=fun B (hB:(w.alloc (.cells #[.func (.func g) #[] cb] 309)).cell? ⟨B,0,none⟩=some (.func (.func g) #[] cb))=>bd2 (h.keep (w':=w.alloc (.cells #[.func (.func g) #[] cb] 309)) (Ex.refl w).alloc.same (fun _ h=>h) (fun _ _ _ h=>h)) hl (bS0 hB (hg.mono (Ex.refl w).alloc))
 have Hc:=Lib.hid hcall;clear hcall
 have Ha:Hid ((!xs.any fun x=>!p x)=xs.all p):=Lib.hid (al6 p xs)
 go_enter Tryz.func231,Tryz.ntmps231
 go_wp2_with (go_at_call 207;refine (Hc.out _ (by simp)).mono ?_;rintro e w' ⟨rfl,hb'⟩)
 go_ret
 exact ⟨by rw [← Ha.out];rfl,(Ex.refl _).alloc.trans hb'⟩
theorem bG2 {w w':World} {F:Nat→Prop} {xs:List UInt8} {a:Option Addr} {cap:Nat} (h:Row 1 bf0 w F xs a cap) (hex:Same F w w') {i:Nat} (hi:i<xs.length) :
  ∃ x b off,Hid (xs[i]?=some x)∧a=some ⟨b,off,none⟩∧F b∧w'.cell? ⟨b,off+i,none⟩=some (.int .u8 x.toNat)∧Hid (bf0 x [.int .u8 x.toNat]):=by
 obtain ⟨b,off,ha,hb,vs,hl,hr,hc⟩:=h.at_ i xs[i] (List.getElem?_eq_getElem hi)
 have hr':=hr
 obtain rfl:=hr
 exact ⟨xs[i],b,off,Lib.hid (List.getElem?_eq_getElem hi),ha,hb,hex.cell (p:=⟨b,off+i,none⟩) (by have:=hc 0 _ rfl;simpa using this) hb,hr'⟩
theorem ce4 {w:World} {F:Nat→Prop} {xs:List UInt8} {a:Option Addr} {cap:Nat} (h:Row 1 bf0 w F xs a cap) (hl:xs.length≤140737488355328) {g:FuncId} {cb:Array Value} {p:UInt8→Bool}
  (hg:Asks Tryz.prog g cb w as2 bf0 xs p) :
  Calls Tryz.prog 262 #[.slice a xs.length cap,.func (.func g) #[] cb] w fun e w'=>e = .returned (.int .i64 (idx p xs))∧Ex w w':=by
 have eg:=hg.enters
 go_enter Tryz.func262,Tryz.ntmps262
 go_wp2
 go_loopw [8] (fun i wr=>∃ j:Nat,j≤xs.length∧i = .int .i64 j∧Hid (∀ i y,i<j→xs[i]?=some y→p y=false)∧Ex w wr) (fun i _=>xs.length - (intOf i).toNat)
 case atStart=>exact ⟨0,by omega,rfl,fun i y h=>by omega,Ex.refl _⟩
 case round=>
  obtain ⟨j,hj,rfl,hno,hex⟩:=hrel
  by_cases hlt:j<xs.length
  ·obtain ⟨x,b,off,hx,rfl,_,c0,hr⟩:=bG2 h hex.same hlt
   have hcall:=hg.says x _ wr (List.mem_of_getElem? hx.out) hr.out hex
   simp only [ag1,as2,List.headD] at hcall
   cases hp:p x with
   | true=>
    have hi:=ac5 hx.out hp hno.out
    rw [hp] at hcall
    have Hi:=Lib.hid hi;clear hi hp
    go_wp2_with (go_at_fn g;refine hcall.mono ?_;rintro e w' ⟨rfl,hb'⟩)
    go_ret
    exact ⟨by rw [Hi.out];rfl,hex.trans hb'⟩
   | false=>
    have hi:=aA1 hno.out hx.out hp
    rw [hp] at hcall
    have Hi:=Lib.hid hi;clear hi hp hno
    go_wp2_with (go_at_fn g;refine hcall.mono ?_;rintro e w' ⟨rfl,hb'⟩)
    go_roundw
    case rel=>exact ⟨j+1,by omega,by go_num,Hi,hex.trans hb'⟩
    case measure=>simp [intOf];omega
  ·have hi:idx p xs = -1:=aA2 hno.out (by omega)
   have Hi:=Lib.hid hi;clear hi hno
   go_wp2_with fail
   go_ret
   exact ⟨by rw [Hi.out];rfl,hex⟩
theorem bd8 {w:World} {F:Nat→Prop} {xs:List UInt8} {a:Option Addr} {cap:Nat} (h:Row 1 bf0 w F xs a cap) (hl:xs.length≤140737488355328) {g:FuncId} {cb:Array Value} {p:UInt8→Bool}
  (hg:Asks Tryz.prog g cb w as2 bf0 xs p) :
  Calls Tryz.prog 249 #[.slice a xs.length cap,.func (.func g) #[] cb] w fun e w'=>e = .returned (.bool (xs.any p))∧Ex w w':=by
 have hc:=ce4 h hl hg
 have Ha:=Lib.hid (ai2 p xs)
 go_enter Tryz.func249,Tryz.ntmps249
 go_wp2_with (go_at_call 262;refine hc.mono ?_;rintro e w' ⟨rfl,hb'⟩)
 go_ret
 exact ⟨by rw [← Ha.out];rfl,hb'⟩
end
section
open Go.RowKit Go.Shelf
theorem cn7 (xs:List ByteArray) (w:World) {F:Nat→Prop} {a:Option Addr} {cap:Nat} (h:aw8 w F xs a cap) (hl:xs.length≤1000000) :
  Calls Tryz.prog 261 #[.slice a xs.length cap] w fun e w'=>∃ s:ByteArray,e = .returned (.string s)∧(s=⟨#[]⟩∨s∈xs)∧w=w':=by
 go_enter Tryz.func261,Tryz.ntmps261
 go_wp2
 go_loop [8] (fun i=>∃ j:Nat,j≤xs.length∧i = .int .i64 j) (fun i=>xs.length - (intOf i).toNat)
 case atStart=>exact ⟨0,by omega,rfl⟩
 case round=>
  obtain ⟨j,hj,rfl⟩:=hrel
  by_cases hlt:j<xs.length
  ·obtain ⟨x,b,off,hx,rfl,_,c0,_⟩:=au1 h (Ex.refl w).same hlt
   cases he:x.toList.isEmpty
   ·go_wp2
    go_ret
    exact ⟨x,rfl,.inr (List.mem_of_getElem? hx.out),rfl⟩
   ·go_wp2
    go_round
    case rel=>exact ⟨j+1,by omega,by go_num⟩
    case measure=>simp [intOf];omega
  ·go_wp2
   go_ret
   exact ⟨_,rfl,.inl rfl,rfl⟩
theorem bJ4 (w:World) (T:TypeId) (l:List ByteArray):aw8 (w.alloc (.cells (l.map Value.string).toArray T)) (fun _=>True) l (some ⟨w.heap.size,0,none⟩) l.length:=
 ⟨Nat.le_refl _,fun i x hx=>⟨w.heap.size,0,rfl,trivial,[.string x],rfl,rfl,fun j v hj=>by
  cases j with
  | zero=>simp at hj;subst hj;simp [hx]
  | succ j=>simp at hj⟩⟩
theorem aB6 (s:ByteArray) (w:World) :
  Calls Tryz.prog 236 #[.string s] w fun e w'=>∃ t:ByteArray,e = .returned (.string t)∧t.size≤s.size+1∧Ex w w':=by
 have HO:=Lib.hid (cn7 [s,⟨#[45]⟩] _ (bJ4 w 9 [s,⟨#[45]⟩]) (by simp))
 go_enter Tryz.func236,Tryz.ntmps236
 go_wp2_with (go_at_call 261;refine HO.out.mono ?_;rintro e w' ⟨t,rfl,ht,rfl⟩)
 go_ret
 refine ⟨t,rfl,?_,cl0⟩
 rcases ht with rfl|h
 ·exact Nat.zero_le _
 ·simp only [List.mem_cons,List.not_mem_nil,or_false] at h
  rcases h with rfl|rfl
  ·omega
  ·show 1≤_;omega
def anyV:Int ⊕ ByteArray→Value
 | .inl n=>.iface 3 (.int .i64 n)
 | .inr s=>.iface 9 (.string s)
theorem ch0 (w:World) (T:TypeId) (items:List (Int ⊕ ByteArray)) (hi:∀ n,Sum.inl n∈items→I64 n):Row 1 RAny (w.alloc (.cells (items.map anyV).toArray T)) (fun _=>True) items (some ⟨w.heap.size,0,none⟩) items.length:=
 ⟨Nat.le_refl _,fun i x hx=>⟨w.heap.size,0,rfl,trivial,[anyV x],rfl,by
  cases x with
  | inl n=>exact ⟨rfl,hi n (List.mem_of_getElem? hx)⟩
  | inr s=>rfl,fun j v hj=>by
  cases j with
  | zero=>simp at hj;subst hj;simp [hx]
  | succ j=>simp at hj⟩⟩
theorem ak7 (word:ByteArray) (items:List (Int ⊕ ByteArray)) (w:World) (hi:∀ n,Sum.inl n∈items→I64 n) (hp:Pow10 w) (hl:items.length≤1000000) (hm:word.size+ac0 items≤1000000000) :
  Calls Tryz.prog 234 #[.string word,.slice (some ⟨w.heap.size,0,none⟩) items.length items.length] (w.alloc (.cells (items.map anyV).toArray 20)) fun e w'=>∃ s:ByteArray,e = .returned (.string s)∧s.size≤word.size+ac0 items+1∧Ex w w':=
 (aW1 word items _ (ch0 w _ items hi) (hp.ex (Ex.refl w).alloc) hl hm).mono fun e w' ⟨s,h1,h2,h3⟩=>⟨s,h1,h2,(Ex.refl w).alloc.trans h3⟩
theorem WordsAt.ex {w w':World} (h:WordsAt w) (he:Ex w w'):WordsAt w':=fun i s hs=>he.cell (h i s hs)
theorem cf8 (n o u:ByteArray) (lo hi:Int) (nw ng:Nat) (w:World) (wa ga:Option Addr) (cw cg:Nat) (hr1:n.size≤1000000) (hr2:o.size≤1000000) (hr3:u.size≤1000000) (h1:I64 lo) (h2:I64 hi) (hp:Pow10 w) (hwd:WordsAt w) :
  Calls Tryz.prog 235 #[.agg #[.string n,.string o,.string u,.int .i64 0,.int .i64 lo,.int .i64 hi,.slice wa nw cw,.slice ga ng cg]] w fun e w'=>∃ s:ByteArray,e = .returned (.string s)∧s.size≤16+n.size+o.size+u.size+intB lo+intB hi∧Ex w w':=by
 have c0:=hwd 0 _ rfl
 have lB:3<w.heap.size:=World.block_lt_of_cell? _ _ c0
 have i1:=ae3 lo
 have i2:=ae3 hi
 have HB:Hid (ac0 [.inr n,.inl lo]+6≤16+n.size+o.size+u.size+intB lo+intB hi):=by unfold Hid;simp [ac0,as3];omega
 have HL:Hid (∀ (W:World) (N:Nat),Ex w W→N=W.heap.size→Calls Tryz.prog 234 #[.string ⟨#[107,101,121]⟩,.slice (some ⟨N,0,none⟩) 2 2] (W.alloc (.cells #[.iface 9 (.string n),.iface 3 (.int .i64 lo)] 20)) fun e w'=>∃ s:ByteArray,e = .returned (.string s)∧s.size≤3+ac0 [.inr n,.inl lo]+1∧Ex W w'):=Lib.hid (by
  intro W N he hN
  subst hN
  exact ak7 ⟨#[107,101,121]⟩ [.inr n,.inl lo] W (by simp [h1,h2]) (hp.ex he) (by simp) (by have:=HB.out;show 3+_≤_;omega))
 go_enter Tryz.func235,Tryz.ntmps235
 go_wp2_with (go_at_call 234;refine (HL.out _ _ cl0 (by simp)).mono ?_;rintro e w1 ⟨s,rfl,hs,hb1⟩)
 go_ret
 refine ⟨s,rfl,?_,cl0⟩
 have:=HB.out
 omega
theorem cf6 (n o u:ByteArray) (lo hi:Int) (nw ng:Nat) (w:World) (wa ga:Option Addr) (cw cg:Nat) (hr1:n.size≤1000000) (hr2:o.size≤1000000) (hr3:u.size≤1000000) (h1:I64 lo) (h2:I64 hi) (hp:Pow10 w) (hwd:WordsAt w) :
  Calls Tryz.prog 235 #[.agg #[.string n,.string o,.string u,.int .i64 2,.int .i64 lo,.int .i64 hi,.slice wa nw cw,.slice ga ng cg]] w fun e w'=>∃ s:ByteArray,e = .returned (.string s)∧s.size≤16+n.size+o.size+u.size+intB lo+intB hi∧Ex w w':=by
 have c0:=hwd 2 _ rfl
 have lB:3<w.heap.size:=World.block_lt_of_cell? _ _ c0
 have i1:=ae3 lo
 have i2:=ae3 hi
 have HB:Hid (ac0 [.inr n,.inl lo,.inl hi]+6≤16+n.size+o.size+u.size+intB lo+intB hi):=by unfold Hid;simp [ac0,as3];omega
 have HL:Hid (∀ (W:World) (N:Nat),Ex w W→N=W.heap.size→Calls Tryz.prog 234 #[.string ⟨#[110,117,109]⟩,.slice (some ⟨N,0,none⟩) 3 3] (W.alloc (.cells #[.iface 9 (.string n),.iface 3 (.int .i64 lo),.iface 3 (.int .i64 hi)] 20)) fun e w'=>∃ s:ByteArray,e = .returned (.string s)∧s.size≤3+ac0 [.inr n,.inl lo,.inl hi]+1∧Ex W w'):=Lib.hid (by
  intro W N he hN
  subst hN
  exact ak7 ⟨#[110,117,109]⟩ [.inr n,.inl lo,.inl hi] W (by simp [h1,h2]) (hp.ex he) (by simp) (by have:=HB.out;show 3+_≤_;omega))
 go_enter Tryz.func235,Tryz.ntmps235
 go_wp2_with (go_at_call 234;refine (HL.out _ _ cl0 (by simp)).mono ?_;rintro e w1 ⟨s,rfl,hs,hb1⟩)
 go_ret
 refine ⟨s,rfl,?_,cl0⟩
 have:=HB.out
 omega
theorem cf2 (n o u:ByteArray) (lo hi:Int) (nw ng:Nat) (w:World) (wa ga:Option Addr) (cw cg:Nat) (hr1:n.size≤1000000) (hr2:o.size≤1000000) (hr3:u.size≤1000000) (h1:I64 lo) (h2:I64 hi) (hp:Pow10 w) (hwd:WordsAt w) :
  Calls Tryz.prog 235 #[.agg #[.string n,.string o,.string u,.int .i64 6,.int .i64 lo,.int .i64 hi,.slice wa nw cw,.slice ga ng cg]] w fun e w'=>∃ s:ByteArray,e = .returned (.string s)∧s.size≤16+n.size+o.size+u.size+intB lo+intB hi∧Ex w w':=by
 have c0:=hwd 6 _ rfl
 have lB:3<w.heap.size:=World.block_lt_of_cell? _ _ c0
 have i1:=ae3 lo
 have i2:=ae3 hi
 have HB:Hid (ac0 [.inr n,.inr o]+6≤16+n.size+o.size+u.size+intB lo+intB hi):=by unfold Hid;simp [ac0,as3];omega
 have HL:Hid (∀ (W:World) (N:Nat),Ex w W→N=W.heap.size→Calls Tryz.prog 234 #[.string ⟨#[115,117,109]⟩,.slice (some ⟨N,0,none⟩) 2 2] (W.alloc (.cells #[.iface 9 (.string n),.iface 9 (.string o)] 20)) fun e w'=>∃ s:ByteArray,e = .returned (.string s)∧s.size≤3+ac0 [.inr n,.inr o]+1∧Ex W w'):=Lib.hid (by
  intro W N he hN
  subst hN
  exact ak7 ⟨#[115,117,109]⟩ [.inr n,.inr o] W (by simp [h1,h2]) (hp.ex he) (by simp) (by have:=HB.out;show 3+_≤_;omega))
 go_enter Tryz.func235,Tryz.ntmps235
 go_wp2_with (go_at_call 234;refine (HL.out _ _ cl0 (by simp)).mono ?_;rintro e w1 ⟨s,rfl,hs,hb1⟩)
 go_ret
 refine ⟨s,rfl,?_,cl0⟩
 have:=HB.out
 omega
theorem cf1 (n o u:ByteArray) (lo hi:Int) (nw ng:Nat) (w:World) (wa ga:Option Addr) (cw cg:Nat) (hr1:n.size≤1000000) (hr2:o.size≤1000000) (hr3:u.size≤1000000) (h1:I64 lo) (h2:I64 hi) (hp:Pow10 w) (hwd:WordsAt w) :
  Calls Tryz.prog 235 #[.agg #[.string n,.string o,.string u,.int .i64 7,.int .i64 lo,.int .i64 hi,.slice wa nw cw,.slice ga ng cg]] w fun e w'=>∃ s:ByteArray,e = .returned (.string s)∧s.size≤16+n.size+o.size+u.size+intB lo+intB hi∧Ex w w':=by
 have c0:=hwd 7 _ rfl
 have lB:3<w.heap.size:=World.block_lt_of_cell? _ _ c0
 have i1:=ae3 lo
 have i2:=ae3 hi
 have HB:Hid (ac0 [.inr n,.inr u,.inr o,.inl lo,.inl hi]+6≤16+n.size+o.size+u.size+intB lo+intB hi):=by unfold Hid;simp [ac0,as3];omega
 have HL:Hid (∀ (W:World) (N:Nat),Ex w W→N=W.heap.size→Calls Tryz.prog 234 #[.string ⟨#[115,104,97,114,101]⟩,.slice (some ⟨N,0,none⟩) 5 5] (W.alloc (.cells #[.iface 9 (.string n),.iface 9 (.string u),.iface 9 (.string o),.iface 3 (.int .i64 lo),.iface 3 (.int .i64 hi)] 20)) fun e w'=>∃ s:ByteArray,e = .returned (.string s)∧s.size≤5+ac0 [.inr n,.inr u,.inr o,.inl lo,.inl hi]+1∧Ex W w'):=Lib.hid (by
  intro W N he hN
  subst hN
  exact ak7 ⟨#[115,104,97,114,101]⟩ [.inr n,.inr u,.inr o,.inl lo,.inl hi] W (by simp [h1,h2]) (hp.ex he) (by simp) (by have:=HB.out;show 5+_≤_;omega))
 go_enter Tryz.func235,Tryz.ntmps235
 go_wp2_with (go_at_call 234;refine (HL.out _ _ cl0 (by simp)).mono ?_;rintro e w1 ⟨s,rfl,hs,hb1⟩)
 go_ret
 refine ⟨s,rfl,?_,cl0⟩
 have:=HB.out
 omega
theorem cf0 (n o u:ByteArray) (lo hi:Int) (nw ng:Nat) (w:World) (wa ga:Option Addr) (cw cg:Nat) (hr1:n.size≤1000000) (hr2:o.size≤1000000) (hr3:u.size≤1000000) (h1:I64 lo) (h2:I64 hi) (hp:Pow10 w) (hwd:WordsAt w) :
  Calls Tryz.prog 235 #[.agg #[.string n,.string o,.string u,.int .i64 8,.int .i64 lo,.int .i64 hi,.slice wa nw cw,.slice ga ng cg]] w fun e w'=>∃ s:ByteArray,e = .returned (.string s)∧s.size≤16+n.size+o.size+u.size+intB lo+intB hi∧Ex w w':=by
 have c0:=hwd 8 _ rfl
 have lB:3<w.heap.size:=World.block_lt_of_cell? _ _ c0
 have i1:=ae3 lo
 have i2:=ae3 hi
 have HB:Hid (ac0 [.inr n,.inr u,.inr o]+6≤16+n.size+o.size+u.size+intB lo+intB hi):=by unfold Hid;simp [ac0,as3];omega
 have HL:Hid (∀ (W:World) (N:Nat),Ex w W→N=W.heap.size→Calls Tryz.prog 234 #[.string ⟨#[99,111,112,121]⟩,.slice (some ⟨N,0,none⟩) 3 3] (W.alloc (.cells #[.iface 9 (.string n),.iface 9 (.string u),.iface 9 (.string o)] 20)) fun e w'=>∃ s:ByteArray,e = .returned (.string s)∧s.size≤4+ac0 [.inr n,.inr u,.inr o]+1∧Ex W w'):=Lib.hid (by
  intro W N he hN
  subst hN
  exact ak7 ⟨#[99,111,112,121]⟩ [.inr n,.inr u,.inr o] W (by simp [h1,h2]) (hp.ex he) (by simp) (by have:=HB.out;show 4+_≤_;omega))
 go_enter Tryz.func235,Tryz.ntmps235
 go_wp2_with (go_at_call 234;refine (HL.out _ _ cl0 (by simp)).mono ?_;rintro e w1 ⟨s,rfl,hs,hb1⟩)
 go_ret
 refine ⟨s,rfl,?_,cl0⟩
 have:=HB.out
 omega
end
end Go.Proofs.YtlcfiilejnnlnaaGreatDoor
