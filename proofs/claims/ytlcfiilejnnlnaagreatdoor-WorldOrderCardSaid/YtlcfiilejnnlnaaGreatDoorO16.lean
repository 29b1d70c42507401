/- A part of the proof: He Uc Ug Cg. -/
import Derived.Test.YtlcfiilejnnlnaaGreatDoorO15
set_option maxRecDepth 100000
set_option maxHeartbeats 20000000
set_option linter.unusedVariables false
set_option linter.unusedSimpArgs false
namespace Go.Proofs.YtlcfiilejnnlnaaGreatDoor
section
open Go
theorem cy2 (l:List Int) {j:Int} (h:0<=j/\j<l.length):(l.map fun z=>[iD z])[j.toNat]?=some [iD (l.getD j.toNat 0)]:=by
 have hl:j.toNat<l.length:=by omega
 rw [List.getElem?_map,List.getElem?_eq_getElem hl]
 simp [List.getD_eq_getElem?_getD,hl]
theorem cw6 (l:List ByteArray) {j:Int} (h:0<=j/\j<l.length) (e:ByteArray):(l.map fun z=>[sD z])[j.toNat]?=some [sD (l.getD j.toNat e)]:=by
 have hl:j.toNat<l.length:=by omega
 rw [List.getElem?_map,List.getElem?_eq_getElem hl]
 simp [List.getD_eq_getElem?_getD,hl]
theorem bN2 (l:List Int) {j:Int} (h:0<=j/\j<l.length):∃ z∈l,(l.map fun z=>[iD z])[j.toNat]?=some [iD z]:=by
 have hl:j.toNat<l.length:=by omega
 exact⟨l[j.toNat],List.getElem_mem hl,by rw [List.getElem?_map,List.getElem?_eq_getElem hl];rfl⟩
abbrev kdB (b:Nat) (nm:ByteArray) (lo hi:Int) (fv:Value):Nat × Blk:=(b,.cells 85 [sD nm,iD lo,iD hi,.v fv])
abbrev zK:List D:=[.v (zv ZV.str),.v (zv (ZV.int IntKind.i64)),.v (zv (ZV.int IntKind.i64)),.v (zv ZV.sl)]
structure KSt where
 pos:Int
 fv:Value
 rs:List (List D)
 sf:aa1
 ks:List Knd
 sk:aa1
abbrev kS (bm:Nat) (xs:List Int) (b7 b4:Nat) (nm:ByteArray) (lo hi:Int) (g:KSt):aa1:=mkB bm xs g.pos::kdB b7 nm lo hi g.fv::(b4,.cells 85 zK)::(g.sf++g.sk)
structure KI (a:Option Addr) (n c:Nat) (fs:List Fld) (g:KSt):Prop where
 row:RowIs 97 8 g.rs g.fv g.sf
 le:LeR g.rs (fs.map fldC)
 kr:RowIs 85 4 (g.ks.map kndC) (.slice a n c) g.sk
 kl:g.ks.length=n
theorem br5 (l:List Fld):((l.map fldC).all fun y=>y.all oneD)=true:=by rw [List.all_eq_true];intro y hy;obtain⟨f,_,rfl⟩:=List.mem_map.1 hy;rfl
theorem Ld.rowm {P:Program} {o:Oper} {ρ:Operand->D} {σ:aa1} {b off k:Nat} {K:D->Prop} {tb:TypeId} {cs x:List D} (h1:(b,Blk.cells tb cs)∈σ) (hx:x.length=k) (hk:0<k) (h2:∀ j,j<k->cs[off+j]?=x[j]?) (h:W (K (.agg x))):Ld P o ρ σ b off true k K:=by
 obtain⟨j,hj⟩:=List.getElem?_of_mem h1
 have hl:off+k<=cs.length:=by
  have:=h2 (k-1) (by omega)
  rw [List.getElem?_eq_getElem (by omega:k-1<x.length)] at this
  have:=(List.getElem?_eq_some_iff.1 this).1
  omega
 refine⟨.inl ⟨j,tb,cs,hj,hl,?_⟩⟩
 have:(cs.drop off).take k=x:=by
  apply List.ext_getElem?
  intro i
  rw [List.getElem?_take]
  split
  ·rename_i hi;rw [List.getElem?_drop];exact h2 i hi
  ·rename_i hi;rw [List.getElem?_eq_none_iff.2 (by omega)]
 rw [this]
 exact h.h
theorem RefP.name0 {ks ks':List Knd} {nm:ByteArray} {f1:List Fld} (h:RefP ks nm f1 ks') {y:Knd} (hy:ks'[0]?=some y):∃ z,ks[0]?=some z/\z.name=y.name:=by
 cases h with
 | none h=>subst h;simp at hy
 | of=>exact⟨y,hy,rfl⟩
 | part tw0 z lo hi a b sm hz=>
  rw [List.getElem?_set] at hy
  split at hy
  ·rename_i e
   subst e
   split at hy
   ·cases hy;exact⟨z,hz,rfl⟩
   ·cases hy
  ·exact⟨y,hy,rfl⟩
theorem PlainF.two {fs:List Fld} (h:PlainF fs):fs.length<=2:=by cases h<;>simp
theorem sb110 {A B:Prop} (k:B) (h:Hd7 B->A:=by intro hk7q;(first|fail|(with_reducible refine Bx.l ?_)|fail|((with_reducible refine Cb.go ?h ?_);(case h=>decide +kernel)));exact hk7q.run):A:=h ⟨k⟩
theorem sk111 {A B:Prop} (k:B) (h:Hd7 B->A:=by intro hk7q;(first|refine sb0 ?_|refine sb110 ?_|((with_reducible refine' Cp.by ?hc ?_);(case hc=>fail))|((with_reducible refine' CE.pure ?hc ?_);(case hc=>fail)));exact hk7q.run):A:=h ⟨k⟩
theorem cl19 {p:Prop} (h:p:=by (refine ad8 fun a=>?_;simp only [kdB,mkB,List.append_eq,List.nil_append,ad9,ah8,ah7,sD,iD,bD];omega)):p:=h
theorem cl20 {p:Prop} (h:p:=by (refine ad8 fun a=>?_;simp only [kdB,mkB,List.append_eq,List.nil_append,ad9,ah8,ah7,sD,iD,bD];omega)):p:=h
theorem cl21 {p:Prop} (h:p:=by rw [show 0+((tw0:Nat):Int).toNat*4+3=tw0*4+3 by simp];exact hc3):p:=h
theorem cl22 {p:Prop} (h:p:=by first|exact List.Perm.refl _|(refine ad8 fun a=>?_;simp only [kdB,mkB,List.append_eq,List.nil_append,ad9,ah8,ah7,sD,iD,bD];omega)):p:=h
theorem cl23 {p:Prop} (h:p:=by first|omega|(simp only [List.length_append,List.length_map,List.length_cons,List.length_nil];omega)):p:=h
theorem cl24 {p:Prop} (h:p:=by rw [show 0+((tw0:Nat):Int).toNat*4+3=tw0*4+3 by simp];exact (List.getElem?_eq_some_iff.1 hc3).1):p:=h
theorem bL3 (xs:List Int) (hx:I64s xs) (bm:Nat) (pos:Int) (hp:0<=pos/\pos<=10000000) (ks:List Knd) (hks:ks.length<=2) (hfl:∀ k∈ks,k.fields.length<=1000) (a:Option Addr) (c:Nat) (sk:aa1) (hrow:RowIs 85 4 (ks.map kndC) (.slice a ks.length c) sk) :
  ACall Tryz.prog 33 [ptr bm,.v (.slice a ks.length c)] (mkB bm xs pos::sk) (fun d σ=>∃ pos' k ks' sk',(pos<=pos'/\pos'<=pos+100)/\d=kndD k/\σ=mkB bm xs pos'::sk'/\RowIs 85 4 (ks'.map kndC) (.slice a ks.length c) sk'/\KMade ks k ks'):=by
 have h1:=ac6 xs pos 6
 have h1':=h1.2 (by omega)
 have h2:=ac6 xs (pos+1) 5
 have h2':=h2.2 (by omega)
 obtain⟨lo,hlo,hlx⟩:=bN2 [0,1,2,4,1,2] (j:=atE xs pos 6) ⟨by omega,by simp;omega⟩
 have hlob:0<=lo/\lo<=4:=by simp at hlo;omega
 refine eC7 Tryz.func33 Tryz.ntmps33 fun BB=>?_
 repeat' first|refine sk111 ?_|(intro b;conv=>whnf)
 generalize b=b4
 ((refine CE.own (aa8 xs hx bm _ _ ⟨by omega,by omega⟩) (show List.Perm (_::mkB bm xs _::_) ([mkB bm xs _]++(_::_)) from List.Perm.swap _ _ _) (fun s'=>s'++(_::_)) (fun s'=>List.Perm.refl _) ?_);(rintro _ _ ⟨rfl,rfl⟩))
 repeat' first|refine sk111 ?_|(intro b;conv=>whnf)
 refine Ix.at hlx (by omega) ?_
 repeat' first|refine sk111 ?_|(intro b;conv=>whnf)
 refine Dr.r ?_
 (((with_reducible refine W.mk ?_);(conv=>whnf)))
 refine Dm.r ?_
 refine W.mk ?_
 refine bB7 mixed aa0 rfl [0,1,2,3,4,5,6] 5 (.two 7 (.two 8 (.two 9 (.one 10 (.one 11 .done)) 10 (.one 9 (.one 11 .done))) 10 (.one 8 (.one 9 (.one 11 .done)))) 10 (.one 7 (.one 8 (.one 9 (.one 11 .done))))) (γ:=Nat) (fun g=>[(7,.v (.pointer (some ⟨g,0,none⟩)))]) (fun g=>mkB bm xs (pos+1+1)::kdB g (knm ks.length) lo (lo+atE xs (pos+1) 5) (.slice none 0 0)::(b4,.cells 85 zK)::sk) (fun _=>True) (by decide +kernel) ?_ ?_
 ·repeat' first|refine sk111 ?_|(intro b;conv=>whnf)|(refine And.intro ?_ ?_<;>(conv=>whnf))|((refine CE.own (aa8 xs hx bm _ _ ⟨by omega,by omega⟩) (List.Perm.refl ([mkB bm xs _]++_)) (fun s'=>s'++_) (fun s'=>List.Perm.refl _) ?_);(rintro _ _ ⟨rfl,rfl⟩))|((refine CE.own (aa8 xs hx bm _ _ ⟨by omega,by omega⟩) (show List.Perm (_::mkB bm xs _::_) ([mkB bm xs _]++(_::_)) from List.Perm.swap _ _ _) (fun s'=>s'++(_::_)) (fun s'=>List.Perm.refl _) ?_);(rintro _ _ ⟨rfl,rfl⟩))|(refine Ix.at (cw6 [bB0,aL7,cp8] ⟨by omega,by simp;omega⟩ nE) (by omega) ?_)
  all_goals exact⟨b,(aa2 cl3),cl16,trivial⟩
 ·rintro b7 -
  have h3:=ac6 xs (pos+1+1) 4
  have h3':=h3.2 (by omega)
  obtain⟨idl,hid,hidx⟩:=bN2 [0,1,100,-3] (j:=atE xs (pos+1+1) 4) ⟨by omega,by simp;omega⟩
  repeat' first|refine sk111 ?_|(intro b;conv=>whnf)
  refine dr7 ?_
  refine ah2 mixed aa0 rfl [0,2,3] 9 (inE [1,4,9,10,11]) (.two 1 (.one 4 (.fst 5 (.fst 6 (.fst 7 (.fst 8 (.one 9 (.one 10 (.one 11 .done)))))))) 4 (.fst 5 (.fst 6 (.fst 7 (.fst 8 (.one 1 (.one 9 (.one 10 (.one 11 .done))))))))) (γ:=Value × aa1) (fun _=>[]) (fun g=>mkB bm xs (pos+1+1+1)::kdB b7 (knm ks.length) lo (lo+atE xs (pos+1) 5) g.1::(b4,.cells 85 zK)::(g.2++sk)) (fun g=>RowIs 97 8 [fldR (idF idl) nilD nilD] g.1 g.2) (by decide +kernel) ?_ ?_
  ·repeat' first|refine sk111 ?_|(intro b;conv=>whnf)|(refine And.intro ?_ ?_<;>(conv=>whnf))|((refine CE.own (aa8 xs hx bm _ _ ⟨by omega,by omega⟩) (List.Perm.refl ([mkB bm xs _]++_)) (fun s'=>s'++_) (fun s'=>List.Perm.refl _) ?_);(rintro _ _ ⟨rfl,rfl⟩))|((refine CE.own (aa8 xs hx bm _ _ ⟨by omega,by omega⟩) (show List.Perm (_::mkB bm xs _::_) ([mkB bm xs _]++(_::_)) from List.Perm.swap _ _ _) (fun s'=>s'++(_::_)) (fun s'=>List.Perm.refl _) ?_);(rintro _ _ ⟨rfl,rfl⟩))|(refine Ix.at hidx (by omega) ?_)|(refine Ap.go rfl rfl rfl rfl (RowIs.nil 97 8) (List.Perm.refl ([]++_)) rfl (zs:=[fldR (idF idl) nilD nilD]) rfl (by simp) (by simp) (fun s'=>s'++_) (fun s'=>List.Perm.refl _) (fun a2 c2 s2 hr2=>?_))|(refine Sv.cellm (tb:=85) (cs:=[sD (knm ks.length),iD lo,iD (lo+atE xs (pos+1) 5),.v (.slice .none 0 0)]) (cs':=[sD (knm ks.length),iD lo,iD (lo+atE xs (pos+1) 5),.v (.slice a2 [fldR (idF idl) nilD nilD].length c2)]) (τ:=mkB bm xs (pos+1+1+1)::(b4,.cells 85 zK)::(s2++sk)) cl19 (by simp) rfl rfl ?_)
   all_goals exact⟨(_,s2),(aa2 cl3),cl16,hr2⟩
  ·rintro⟨fv,sf⟩ hfr
   simp only at hfr ⊢
   repeat' first|refine sk111 ?_|(intro b;conv=>whnf)
   refine Bc.j ?_
   refine at6 mixed aa0 (γ:=KSt × List Fld) (fun _=>[]) (fun g=>kS bm xs b7 b4 (knm ks.length) lo (lo+atE xs (pos+1) 5) g.1) (fun g=>(pos+3<=g.1.pos/\g.1.pos<=pos+30)/\KI a ks.length c (idF idl::g.2) g.1/\RefP ks (knm ks.length) g.2 g.1.ks/\g.2.length<=3) ?_ ?_
   ·(((with_reducible refine W.mk ?_);(conv=>whnf)))
    refine Bc.l ?_
    by_cases hn0:0<ks.length
    ·have h4:=ac6 xs (pos+1+1+1) ks.length
     have h4':=h4.2 (by omega)
     repeat' first|refine sk111 ?_|(intro b;conv=>whnf)
     ((refine CE.own (aa8 xs hx bm _ _ ⟨by omega,by omega⟩) (List.Perm.refl ([mkB bm xs _]++_)) (fun s'=>s'++_) (fun s'=>List.Perm.refl _) ?_);(rintro _ _ ⟨rfl,rfl⟩))
     repeat' first|refine sk111 ?_|(intro b;conv=>whnf)
     obtain⟨tw0,hto⟩:∃ tw0:Nat,atE xs (pos+1+1+1) ks.length=tw0:=⟨(atE xs (pos+1+1+1) ks.length).toNat,by omega⟩
     obtain⟨y,hy⟩:∃ y,ks[tw0]?=some y:=⟨_,List.getElem?_eq_getElem (by omega)⟩
     obtain⟨b2,cap2,cs2,e2,rfl,hcs⟩:=RowIs.get hrow (show (ks.map kndC)[tw0]?=some (kndC y) by rw [List.getElem?_map,hy];rfl)
     rw [List.length_map] at e2
     cases e2
     have hc0:cs2[tw0*4+0]?=some (sD y.name):=hcs 0 (by omega)
     have hc3:cs2[tw0*4+3]?=some (slF y.fields):=hcs 3 (by omega)
     have h5:=ac6 xs (pos+1+1+1+1) 4
     have h5':=h5.2 (by omega)
     obtain⟨hi,hhi,hhix⟩:=bN2 [4,3,8,2] (j:=atE xs (pos+1+1+1+1) 4) ⟨by omega,by simp;omega⟩
     refine dr7 ?_
     refine ah2 mixed aa0 rfl [0,1,2,3,5,6] 7 (inE [4,7,11,12]) (.three 4 (.two 7 (.fst 8 (.fst 9 (.fst 10 (.one 11 (.one 12 .done))))) 11 (.one 7 (.fst 8 (.fst 9 (.fst 10 (.one 12 .done)))))) 7 (.fst 8 (.fst 9 (.two 4 (.fst 10 (.one 11 (.one 12 .done))) 11 (.one 4 (.fst 10 (.one 12 .done)))))) 11 (.two 4 (.one 7 (.fst 8 (.fst 9 (.fst 10 (.one 12 .done))))) 7 (.fst 8 (.fst 9 (.one 4 (.fst 10 (.one 12 .done))))))) (γ:=Nat) (fun g=>[(9,.v (.pointer (some ⟨g,0,none⟩)))]) (fun g=>mkB bm xs (pos+1+1+1+1+1)::(g,.cells 97 (fldR (ofF y 0 hi) nilD nilD))::kdB b7 (knm ks.length) lo (lo+atE xs (pos+1) 5) fv::(b4,.cells 85 zK)::(sf++[(b2,.cells 85 cs2)])) (fun _=>True) (by decide +kernel) ?_ ?_
     ·repeat' first|refine sk111 ?_|(intro b;conv=>whnf)|(refine And.intro ?_ ?_<;>(conv=>whnf))|((refine CE.own (aa8 xs hx bm _ _ ⟨by omega,by omega⟩) (List.Perm.refl ([mkB bm xs _]++_)) (fun s'=>s'++_) (fun s'=>List.Perm.refl _) ?_);(rintro _ _ ⟨rfl,rfl⟩))|((refine CE.own (aa8 xs hx bm _ _ ⟨by omega,by omega⟩) (show List.Perm (_::mkB bm xs _::_) ([mkB bm xs _]++(_::_)) from List.Perm.swap _ _ _) (fun s'=>s'++(_::_)) (fun s'=>List.Perm.refl _) ?_);(rintro _ _ ⟨rfl,rfl⟩))|(refine Ix.at hhix (by omega) ?_)|(refine Ld.cellm (tb:=85) (cs:=cs2) (by simp) (by rw [hto,show 0+((tw0:Nat):Int).toNat*4+0=tw0*4+0 by simp];exact hc0) ?_)
      all_goals exact⟨b,(aa2 cl3),cl16,trivial⟩
     ·rintro b9 -
      rw [hto]
      have h6:=ac6 xs (pos+1+1+1+1+1) 5
      have h6':=h6.2 (by omega)
      repeat' first|refine sk111 ?_|(intro b;conv=>whnf)
      ((refine CE.own (aa8 xs hx bm _ _ ⟨by omega,by omega⟩) (List.Perm.refl ([mkB bm xs _]++_)) (fun s'=>s'++_) (fun s'=>List.Perm.refl _) ?_);(rintro _ _ ⟨rfl,rfl⟩))
      repeat' first|refine sk111 ?_|(intro b;conv=>whnf)
      refine Bc.j ?_
      refine at6 mixed aa0 (γ:=Int) (fun _=>[]) (fun g=>mkB bm xs (pos+6)::(b9,.cells 97 (fldR (ofF y g hi) nilD nilD))::kdB b7 (knm ks.length) lo (lo+atE xs (pos+1) 5) fv::(b4,.cells 85 zK)::(sf++[(b2,.cells 85 cs2)])) (fun g=>g=0\/g=1) ?_ ?_
      ·(((with_reducible refine W.mk ?_);(conv=>whnf)))
       refine Bc.l ?_
       have e6:pos+1+1+1+1+1+1=pos+6:=by omega
       rw [e6]
       by_cases hz6:atE xs (pos+1+1+1+1+1) 5=0
       ·repeat' first|refine sk111 ?_|(intro b;conv=>whnf)
        exact⟨1,(aa2 cl3),cl16,.inr rfl⟩
       ·repeat' first|refine sk111 ?_|(intro b;conv=>whnf)
        exact⟨0,(aa2 cl3),cl16,.inl rfl⟩
      ·rintro l9 hl9
       repeat' first|refine sk111 ?_|(intro b;conv=>whnf)
       refine Ap.go rfl rfl rfl rfl hfr (τ:=mkB bm xs (pos+6)::(b9,.cells 97 (fldR (ofF y l9 hi) nilD nilD))::kdB b7 (knm ks.length) lo (lo+atE xs (pos+1) 5) fv::(b4,.cells 85 zK)::[(b2,.cells 85 cs2)]) cl19 rfl (zs:=[fldR (idF idl) nilD nilD,fldR (ofF y l9 hi) nilD nilD]) rfl (by simp) (by simp) (fun s'=>mkB bm xs (pos+6)::kdB b7 (knm ks.length) lo (lo+atE xs (pos+1) 5) fv::(b4,.cells 85 zK)::(b9,.cells 97 (fldR (ofF y l9 hi) nilD nilD))::(s'++[(b2,.cells 85 cs2)])) (fun s'=>cl20) (fun a3 c3 s3 hr3=>?_)
       repeat' first|refine sk111 ?_|(intro b;conv=>whnf)
       refine Ld.rowm (tb:=85) (cs:=cs2) (x:=kndC y) (by simp) rfl (by decide) (fun j hj=>by rw [show 0+((tw0:Nat):Int).toNat*4+j=tw0*4+j by simp];exact hcs j hj) ?_
       have hyl:=hfl y (List.mem_of_getElem? hy)
       have HC:=br3 y (by omega)
       have HT:=aL1 y.fields aq7 (by omega)
       repeat' first|refine sk111 ?_|(intro b;conv=>whnf)
       refine CE.pure HC ?_
       have le2:LeR [fldR (idF idl) nilD nilD,fldR (ofF y l9 hi) nilD nilD] ([idF idl,ofF y l9 hi].map fldC):=.cons (.cons (Le.refl _) (.cons (Le.refl _) (.cons (Le.refl _) (.cons (Le.refl _) (.cons (Le.refl _) (.cons (Le.refl _) (.cons (af6 1) (.cons (af6 1) .nil)))))))) (.cons (.cons (Le.refl _) (.cons (Le.refl _) (.cons (Le.refl _) (.cons (Le.refl _) (.cons (Le.refl _) (.cons (Le.refl _) (.cons (af6 1) (.cons (af6 1) .nil)))))))) .nil)
       by_cases hcp:0<=aq8 y
       ·have h7:=ac6 xs (pos+6) 2
        have h7':=h7.2 (by omega)
        have hlt7:aq8 y<y.fields.length:=aw5 _ _
        obtain⟨hf7,hg7⟩:∃ h,y.fields[(aq8 y).toNat]?=some h:=⟨_,List.getElem?_eq_getElem (by omega)⟩
        repeat' first|refine sk111 ?_|(intro b;conv=>whnf)
        ((refine CE.own (aa8 xs hx bm _ _ ⟨by omega,by omega⟩) (List.Perm.refl ([mkB bm xs _]++_)) (fun s'=>s'++_) (fun s'=>List.Perm.refl _) ?_);(rintro _ _ ⟨rfl,rfl⟩))
        repeat' first|refine sk111 ?_|(intro b;conv=>whnf)
        refine Bc.j ?_
        refine at6 mixed aa0 (γ:=Int × Value × List (List D) × aa1 × List Fld) (fun _=>[]) (fun g=>mkB bm xs g.1::kdB b7 (knm ks.length) lo (lo+atE xs (pos+1) 5) g.2.1::(b4,.cells 85 zK)::(g.2.2.2.1++[(b2,.cells 85 cs2)])) (fun g=>(pos+6<=g.1/\g.1<=pos+10)/\RowIs 97 8 g.2.2.1 g.2.1 g.2.2.2.1/\LeR g.2.2.1 ((idF idl::ofF y l9 hi::g.2.2.2.2).map fldC)/\(g.2.2.2.2=[]\/∃ h,0<=aq8 y/\y.fields[(aq8 y).toNat]?=some h/\g.2.2.2.2=[at4 h.name])) ?_ ?_
        ·(((with_reducible refine W.mk ?_);(conv=>whnf)))
         refine Bc.l ?_
         by_cases hz7:atE xs (pos+6) 2=0
         ·repeat' first|refine sk111 ?_|(intro b;conv=>whnf)
          refine Dr.l (by decide +kernel) ?_
          repeat' first|refine sk111 ?_|(intro b;conv=>whnf)
          refine Ld.cellm (tb:=85) (cs:=cs2) (by simp) cl21 ?_
          repeat' first|refine sk111 ?_|(intro b;conv=>whnf)
          refine Ap.go rfl rfl rfl rfl hr3 (τ:=mkB bm xs (pos+6+1)::(b9,.cells 97 (fldR (ofF y l9 hi) nilD nilD))::kdB b7 (knm ks.length) lo (lo+atE xs (pos+1) 5) (.slice a3 2 c3)::(b4,.cells 85 zK)::[(b2,.cells 85 cs2)]) cl19 rfl (zs:=[fldR (idF idl) nilD nilD,fldR (ofF y l9 hi) nilD nilD,fldR (at4 hf7.name) nilD nilD]) rfl (by simp) (by simp) (fun s'=>mkB bm xs (pos+6+1)::kdB b7 (knm ks.length) lo (lo+atE xs (pos+1) 5) (.slice a3 2 c3)::(b4,.cells 85 zK)::(b9,.cells 97 (fldR (ofF y l9 hi) nilD nilD))::(s'++[(b2,.cells 85 cs2)])) (fun s'=>cl20) (fun a5 c5 s5 hr5=>?_)
          repeat' first|refine sk111 ?_|(intro b;conv=>whnf)
          exact⟨(pos+6+1,_,_,s5,[at4 hf7.name]),(aa2 cl3),cl16,⟨by simp only;omega,by simp only;omega⟩,hr5,.cons (.cons (Le.refl _) (.cons (Le.refl _) (.cons (Le.refl _) (.cons (Le.refl _) (.cons (Le.refl _) (.cons (Le.refl _) (.cons (af6 1) (.cons (af6 1) .nil)))))))) (.cons (.cons (Le.refl _) (.cons (Le.refl _) (.cons (Le.refl _) (.cons (Le.refl _) (.cons (Le.refl _) (.cons (Le.refl _) (.cons (af6 1) (.cons (af6 1) .nil)))))))) (.cons (.cons (Le.refl _) (.cons (Le.refl _) (.cons (Le.refl _) (.cons (Le.refl _) (.cons (Le.refl _) (.cons (Le.refl _) (.cons (af6 1) (.cons (af6 1) .nil)))))))) .nil)),.inr ⟨hf7,hcp,hg7,rfl⟩⟩
         ·repeat' first|refine sk111 ?_|(intro b;conv=>whnf)
          exact⟨(pos+6+1,_,_,s3,[]),(aa2 cl3),cl16,⟨by simp only;omega,by simp only;omega⟩,hr3,le2,.inl rfl⟩
        ·rintro⟨p3,fv3,rs3,sf3,sm⟩ ⟨⟨hp3,hp3'⟩,hr4,hle4,hsm⟩
         simp only at hp3 hp3' hr4 hle4 hsm ⊢
         have hsl:sm.length<=1:=by rcases hsm with rfl|⟨_,_,_,rfl⟩<;>simp
         repeat' first|refine sk111 ?_|(intro b;conv=>whnf)
         refine Ld.cellm (tb:=85) (cs:=cs2) (by simp) cl21 ?_
         repeat' first|refine sk111 ?_|(intro b;conv=>whnf)
         refine CE.pure HT ?_
         by_cases ht:am7 y.fields aq7<0
         ·have h8:=ac6 xs p3 3
          have h8':=h8.2 (by omega)
          repeat' first|refine sk111 ?_|(intro b;conv=>whnf)
          ((refine CE.own (aa8 xs hx bm _ _ ⟨by omega,by omega⟩) (List.Perm.refl ([mkB bm xs _]++_)) (fun s'=>s'++_) (fun s'=>List.Perm.refl _) ?_);(rintro _ _ ⟨rfl,rfl⟩))
          repeat' first|refine sk111 ?_|(intro b;conv=>whnf)
          refine Bc.l ?_
          by_cases hz8:atE xs p3 3=0
          ·have h9:=ac6 xs (p3+1) 3
           have h9':=h9.2 (by omega)
           have h10:=ac6 xs (p3+1+1) 8
           have h10':=h10.2 (by omega)
           have hrl:rs3.length<=3:=by have:=hle4.len;simp at this;omega
           repeat' first|refine sk111 ?_|(intro b;conv=>whnf)
           ((refine CE.own (aa8 xs hx bm _ _ ⟨by omega,by omega⟩) (List.Perm.refl ([mkB bm xs _]++_)) (fun s'=>s'++_) (fun s'=>List.Perm.refl _) ?_);(rintro _ _ ⟨rfl,rfl⟩))
           repeat' first|refine sk111 ?_|(intro b;conv=>whnf)
           refine dr7 ?_
           refine ah2 mixed aa0 rfl [0,2,3,4] 8 (inE [1,5,9,10,11]) (.two 1 (.one 5 (.fst 6 (.fst 7 (.fst 8 (.one 9 (.one 10 (.one 11 .done))))))) 5 (.fst 6 (.fst 7 (.fst 8 (.one 1 (.one 9 (.one 10 (.one 11 .done)))))))) (γ:=Value × aa1) (fun _=>[]) (fun g=>mkB bm xs (p3+1+1+1)::kdB b7 (knm ks.length) lo (lo+atE xs (pos+1) 5) g.1::(b4,.cells 85 zK)::(g.2++[(b2,.cells 85 cs2)])) (fun g=>RowIs 97 8 (rs3++[fldR (aj7 (atE xs (p3+1) 3) (atE xs (p3+1+1) 8)) nilD nilD]) g.1 g.2) (by decide +kernel) ?_ ?_
           ·repeat' first|refine sk111 ?_|(intro b;conv=>whnf)|(refine And.intro ?_ ?_<;>(conv=>whnf))|((refine CE.own (aa8 xs hx bm _ _ ⟨by omega,by omega⟩) (List.Perm.refl ([mkB bm xs _]++_)) (fun s'=>s'++_) (fun s'=>List.Perm.refl _) ?_);(rintro _ _ ⟨rfl,rfl⟩))|((refine CE.own (aa8 xs hx bm _ _ ⟨by omega,by omega⟩) (show List.Perm (_::mkB bm xs _::_) ([mkB bm xs _]++(_::_)) from List.Perm.swap _ _ _) (fun s'=>s'++(_::_)) (fun s'=>List.Perm.refl _) ?_);(rintro _ _ ⟨rfl,rfl⟩))|(refine Ap.go rfl rfl rfl rfl hr4 (τ:=mkB bm xs (p3+1+1+1)::kdB b7 (knm ks.length) lo (lo+atE xs (pos+1) 5) fv3::(b4,.cells 85 zK)::[(b2,.cells 85 cs2)]) cl19 rfl (zs:=rs3++[fldR (aj7 (atE xs (p3+1) 3) (atE xs (p3+1+1) 8)) nilD nilD]) rfl (by simp;omega) (by simp;omega) (fun s'=>mkB bm xs (p3+1+1+1)::kdB b7 (knm ks.length) lo (lo+atE xs (pos+1) 5) fv3::(b4,.cells 85 zK)::(s'++[(b2,.cells 85 cs2)])) (fun s'=>cl20) (fun a6 c6 s6 hr6=>?_))
            all_goals exact⟨(_,s6),(aa2 cl3),cl16,hr6⟩
           ·rintro⟨fv6,sf6⟩ hr6
            simp only at hr6 ⊢
            repeat' first|refine sk111 ?_|(intro b;conv=>whnf)
            refine dr7 ?_
            refine ah2 mixed aa0 rfl [0,1,3,4,5,6,9] 10 (inE [2,7,8,10,13,14,15,16]) (.three 2 (.two 7 (.two 8 (.one 10 (.fst 11 (.fst 12 (.one 13 (.one 14 (.one 15 (.one 16 .done))))))) 10 (.fst 11 (.fst 12 (.one 8 (.one 13 (.one 14 (.one 15 (.one 16 .done)))))))) 10 (.fst 11 (.fst 12 (.one 7 (.one 8 (.one 13 (.one 14 (.one 15 (.one 16 .done))))))))) 7 (.two 2 (.two 8 (.one 10 (.fst 11 (.fst 12 (.one 13 (.one 14 (.one 15 (.one 16 .done))))))) 10 (.fst 11 (.fst 12 (.one 8 (.one 13 (.one 14 (.one 15 (.one 16 .done)))))))) 10 (.fst 11 (.fst 12 (.one 2 (.one 8 (.one 13 (.one 14 (.one 15 (.one 16 .done))))))))) 10 (.fst 11 (.fst 12 (.two 2 (.one 7 (.one 8 (.one 13 (.one 14 (.one 15 (.one 16 .done)))))) 7 (.one 2 (.one 8 (.one 13 (.one 14 (.one 15 (.one 16 .done)))))))))) (γ:=Option Addr × Nat × aa1) (fun _=>[]) (fun g=>mkB bm xs (p3+1+1+1)::kdB b7 (knm ks.length) lo (lo+atE xs (pos+1) 5) fv6::(b4,.cells 85 zK)::(sf6++((b2,.cells 85 (cs2.set (tw0*4+3) (.v (.slice g.1 (y.fields.map fldC++[fldR (totF (knm ks.length)) nilD nilD]).length g.2.1))))::g.2.2))) (fun g=>RowIs 97 8 (y.fields.map fldC++[fldR (totF (knm ks.length)) nilD nilD]) (.slice g.1 (y.fields.map fldC++[fldR (totF (knm ks.length)) nilD nilD]).length g.2.1) g.2.2) (by decide +kernel) ?_ ?_
            ·repeat' first|refine sk111 ?_|(intro b;conv=>whnf)|(refine And.intro ?_ ?_<;>(conv=>whnf))|(refine Ld.cellm (tb:=85) (cs:=cs2) (by simp) cl21 ?_)|(refine Ld.cellm (tb:=85) (cs:=[sD (knm ks.length),iD lo,iD (lo+atE xs (pos+1) 5),.v fv6]) (by simp) rfl ?_)|(refine Ap.go rfl rfl rfl rfl hr8 (τ:=mkB bm xs (p3+1+1+1)::kdB b7 (knm ks.length) lo (lo+atE xs (pos+1) 5) fv6::(b4,.cells 85 zK)::(sf6++[(b2,.cells 85 cs2)])) cl22 rfl (zs:=y.fields.map fldC++[fldR (totF (knm ks.length)) nilD nilD]) rfl (by simp only [List.length_append,List.length_map,List.length_cons,List.length_nil];omega) cl23 (fun s'=>mkB bm xs (p3+1+1+1)::kdB b7 (knm ks.length) lo (lo+atE xs (pos+1) 5) fv6::(b4,.cells 85 zK)::(sf6++((b2,.cells 85 cs2)::s'))) (fun s'=>cl20) (fun a9 c9 s9 hr9=>?_))|(refine Ap.go rfl rfl rfl rfl (RowIs.e0 97 8 (some ⟨b,0,none⟩)) (List.Perm.refl ([]++_)) (br5 y.fields) (zs:=y.fields.map fldC) rfl (by rw [List.length_map];omega) (by rw [List.length_map];omega) (fun s'=>s'++_) (fun s'=>List.Perm.refl _) (fun a8 c8 s8 hr8=>?_))|(refine Sv.cellm (tb:=85) (cs:=cs2) (cs':=cs2.set (tw0*4+3) (.v (.slice a9 (y.fields.map fldC++[fldR (totF (knm ks.length)) nilD nilD]).length c9))) (τ:=mkB bm xs (p3+1+1+1)::kdB b7 (knm ks.length) lo (lo+atE xs (pos+1) 5) fv6::(b4,.cells 85 zK)::(sf6++s9)) cl19 cl24 rfl (by rw [show 0+((tw0:Nat):Int).toNat*4+3=tw0*4+3 by simp]) ?_)
             all_goals exact⟨(a9,c9,s9),(aa2 cl3),Sc.perm cl19,hr9⟩
            ·rintro⟨a9,c9,s9⟩ hr9
             simp only at hr9 ⊢
             have hidx:=(List.getElem?_eq_some_iff.1 hc3).1
             have hkr:=RowIs.put1 (d:=slF (y.fields++[totF (knm ks.length)])) hrow (show (ks.map kndC)[tw0]?=some (kndC y) by rw [List.getElem?_map,hy];rfl) (show 3<4 by omega)
             have hls:(ks.map kndC).set tw0 ((kndC y).set 3 (slF (y.fields++[totF (knm ks.length)])))=(ks.set tw0 ⟨y.name,y.lo,y.hi,y.fields++[totF (knm ks.length)]⟩).map kndC:=by rw [List.map_set];rfl
             rw [hls] at hkr
             have le9:LeR (y.fields.map fldC++[fldR (totF (knm ks.length)) nilD nilD]) ((y.fields++[totF (knm ks.length)]).map fldC):=by rw [List.map_append];exact (LeR.refl _).append (.cons (.cons (Le.refl _) (.cons (Le.refl _) (.cons (Le.refl _) (.cons (Le.refl _) (.cons (Le.refl _) (.cons (Le.refl _) (.cons (af6 1) (.cons (af6 1) .nil)))))))) .nil)
             have hfz:=Sc.frz (b:=b2) (t:=85) (τ:=mkB bm xs (p3+1+1+1)::kdB b7 (knm ks.length) lo (lo+atE xs (pos+1) 5) fv6::(b4,.cells 85 zK)::sf6) (List.getElem?_set_self (a:=D.v (.slice a9 (y.fields.map fldC++[fldR (totF (knm ks.length)) nilD nilD]).length c9)) hidx) hr9 le9
             rw [List.set_set] at hfz
             change Sc _ ((b2,.cells 85 (cs2.set (tw0*4+3) (slF (y.fields++[totF (knm ks.length)]))))::_) at hfz
             have hle6:LeR (rs3++[fldR (aj7 (atE xs (p3+1) 3) (atE xs (p3+1+1) 8)) nilD nilD]) ((idF idl::ofF y l9 hi::(sm++[aj7 (atE xs (p3+1) 3) (atE xs (p3+1+1) 8)])).map fldC):=by
              have:=hle4.append (LeR.cons (x:=fldR (aj7 (atE xs (p3+1) 3) (atE xs (p3+1+1) 8)) nilD nilD) (y:=fldC (aj7 (atE xs (p3+1) 3) (atE xs (p3+1+1) 8))) (.cons (Le.refl _) (.cons (Le.refl _) (.cons (Le.refl _) (.cons (Le.refl _) (.cons (Le.refl _) (.cons (Le.refl _) (.cons (af6 1) (.cons (af6 1) .nil)))))))) .nil)
              simpa using this
             repeat' first|refine sk111 ?_|(intro b;conv=>whnf)
             exact⟨(⟨p3+1+1+1,fv6,_,sf6,ks.set tw0 ⟨y.name,y.lo,y.hi,y.fields++[totF (knm ks.length)]⟩,[(b2,.cells 85 (cs2.set (tw0*4+3) (slF (y.fields++[totF (knm ks.length)]))))]⟩,ofF y l9 hi::(sm++[aj7 (atE xs (p3+1) 3) (atE xs (p3+1+1) 8)])),(aa2 cl3),(Sc.perm cl19).trans (hfz.trans (Sc.perm cl19)),⟨by simp only;omega,by simp only;omega⟩,⟨hr6,hle6,hkr,by simp⟩,RefP.part tw0 y l9 hi _ _ sm hy hl9 hhi hsm ht ⟨h9.1,h9'⟩ ⟨h10.1,h10'⟩,by simp;omega⟩
          ·repeat' first|refine sk111 ?_|(intro b;conv=>whnf)
           exact⟨(⟨p3+1,fv3,rs3,sf3,ks,[(b2,.cells 85 cs2)]⟩,ofF y l9 hi::sm),(aa2 cl3),cl16,⟨by simp only;omega,by simp only;omega⟩,⟨hr4,hle4,hrow,rfl⟩,RefP.of tw0 y l9 hi sm hy hl9 hhi hsm,by simp;omega⟩
         ·repeat' first|refine sk111 ?_|(intro b;conv=>whnf)
          refine Bc.l ?_
          repeat' first|refine sk111 ?_|(intro b;conv=>whnf)
          exact⟨(⟨p3,fv3,rs3,sf3,ks,[(b2,.cells 85 cs2)]⟩,ofF y l9 hi::sm),(aa2 cl3),cl16,⟨by simp only;omega,by simp only;omega⟩,⟨hr4,hle4,hrow,rfl⟩,RefP.of tw0 y l9 hi sm hy hl9 hhi hsm,by simp;omega⟩
       ·repeat' first|refine sk111 ?_|(intro b;conv=>whnf)
        refine Bc.j ?_
        refine at6 mixed aa0 (γ:=Int × Value × List (List D) × aa1 × List Fld) (fun _=>[]) (fun g=>mkB bm xs g.1::kdB b7 (knm ks.length) lo (lo+atE xs (pos+1) 5) g.2.1::(b4,.cells 85 zK)::(g.2.2.2.1++[(b2,.cells 85 cs2)])) (fun g=>(pos+6<=g.1/\g.1<=pos+10)/\RowIs 97 8 g.2.2.1 g.2.1 g.2.2.2.1/\LeR g.2.2.1 ((idF idl::ofF y l9 hi::g.2.2.2.2).map fldC)/\(g.2.2.2.2=[]\/∃ h,0<=aq8 y/\y.fields[(aq8 y).toNat]?=some h/\g.2.2.2.2=[at4 h.name])) ?_ ?_
        ·(((with_reducible refine W.mk ?_);(conv=>whnf)))
         refine Bc.l ?_
         repeat' first|refine sk111 ?_|(intro b;conv=>whnf)
         exact⟨(pos+6,_,_,s3,[]),(aa2 cl3),cl16,⟨by simp only;omega,by simp only;omega⟩,hr3,le2,.inl rfl⟩
        ·rintro⟨p3,fv3,rs3,sf3,sm⟩ ⟨⟨hp3,hp3'⟩,hr4,hle4,hsm⟩
         simp only at hp3 hp3' hr4 hle4 hsm ⊢
         have hsl:sm.length<=1:=by rcases hsm with rfl|⟨_,_,_,rfl⟩<;>simp
         repeat' first|refine sk111 ?_|(intro b;conv=>whnf)
         refine Ld.cellm (tb:=85) (cs:=cs2) (by simp) cl21 ?_
         repeat' first|refine sk111 ?_|(intro b;conv=>whnf)
         refine CE.pure HT ?_
         by_cases ht:am7 y.fields aq7<0
         ·have h8:=ac6 xs p3 3
          have h8':=h8.2 (by omega)
          repeat' first|refine sk111 ?_|(intro b;conv=>whnf)
          ((refine CE.own (aa8 xs hx bm _ _ ⟨by omega,by omega⟩) (List.Perm.refl ([mkB bm xs _]++_)) (fun s'=>s'++_) (fun s'=>List.Perm.refl _) ?_);(rintro _ _ ⟨rfl,rfl⟩))
          repeat' first|refine sk111 ?_|(intro b;conv=>whnf)
          refine Bc.l ?_
          by_cases hz8:atE xs p3 3=0
          ·have h9:=ac6 xs (p3+1) 3
           have h9':=h9.2 (by omega)
           have h10:=ac6 xs (p3+1+1) 8
           have h10':=h10.2 (by omega)
           have hrl:rs3.length<=3:=by have:=hle4.len;simp at this;omega
           repeat' first|refine sk111 ?_|(intro b;conv=>whnf)
           ((refine CE.own (aa8 xs hx bm _ _ ⟨by omega,by omega⟩) (List.Perm.refl ([mkB bm xs _]++_)) (fun s'=>s'++_) (fun s'=>List.Perm.refl _) ?_);(rintro _ _ ⟨rfl,rfl⟩))
           repeat' first|refine sk111 ?_|(intro b;conv=>whnf)
           refine dr7 ?_
           refine ah2 mixed aa0 rfl [0,2,3,4] 8 (inE [1,5,9,10,11]) (.two 1 (.one 5 (.fst 6 (.fst 7 (.fst 8 (.one 9 (.one 10 (.one 11 .done))))))) 5 (.fst 6 (.fst 7 (.fst 8 (.one 1 (.one 9 (.one 10 (.one 11 .done)))))))) (γ:=Value × aa1) (fun _=>[]) (fun g=>mkB bm xs (p3+1+1+1)::kdB b7 (knm ks.length) lo (lo+atE xs (pos+1) 5) g.1::(b4,.cells 85 zK)::(g.2++[(b2,.cells 85 cs2)])) (fun g=>RowIs 97 8 (rs3++[fldR (aj7 (atE xs (p3+1) 3) (atE xs (p3+1+1) 8)) nilD nilD]) g.1 g.2) (by decide +kernel) ?_ ?_
           ·repeat' first|refine sk111 ?_|(intro b;conv=>whnf)|(refine And.intro ?_ ?_<;>(conv=>whnf))|((refine CE.own (aa8 xs hx bm _ _ ⟨by omega,by omega⟩) (List.Perm.refl ([mkB bm xs _]++_)) (fun s'=>s'++_) (fun s'=>List.Perm.refl _) ?_);(rintro _ _ ⟨rfl,rfl⟩))|((refine CE.own (aa8 xs hx bm _ _ ⟨by omega,by omega⟩) (show List.Perm (_::mkB bm xs _::_) ([mkB bm xs _]++(_::_)) from List.Perm.swap _ _ _) (fun s'=>s'++(_::_)) (fun s'=>List.Perm.refl _) ?_);(rintro _ _ ⟨rfl,rfl⟩))|(refine Ap.go rfl rfl rfl rfl hr4 (τ:=mkB bm xs (p3+1+1+1)::kdB b7 (knm ks.length) lo (lo+atE xs (pos+1) 5) fv3::(b4,.cells 85 zK)::[(b2,.cells 85 cs2)]) cl19 rfl (zs:=rs3++[fldR (aj7 (atE xs (p3+1) 3) (atE xs (p3+1+1) 8)) nilD nilD]) rfl (by simp;omega) (by simp;omega) (fun s'=>mkB bm xs (p3+1+1+1)::kdB b7 (knm ks.length) lo (lo+atE xs (pos+1) 5) fv3::(b4,.cells 85 zK)::(s'++[(b2,.cells 85 cs2)])) (fun s'=>cl20) (fun a6 c6 s6 hr6=>?_))
            all_goals exact⟨(_,s6),(aa2 cl3),cl16,hr6⟩
           ·rintro⟨fv6,sf6⟩ hr6
            simp only at hr6 ⊢
            repeat' first|refine sk111 ?_|(intro b;conv=>whnf)
            refine dr7 ?_
            refine ah2 mixed aa0 rfl [0,1,3,4,5,6,9] 10 (inE [2,7,8,10,13,14,15,16]) (.three 2 (.two 7 (.two 8 (.one 10 (.fst 11 (.fst 12 (.one 13 (.one 14 (.one 15 (.one 16 .done))))))) 10 (.fst 11 (.fst 12 (.one 8 (.one 13 (.one 14 (.one 15 (.one 16 .done)))))))) 10 (.fst 11 (.fst 12 (.one 7 (.one 8 (.one 13 (.one 14 (.one 15 (.one 16 .done))))))))) 7 (.two 2 (.two 8 (.one 10 (.fst 11 (.fst 12 (.one 13 (.one 14 (.one 15 (.one 16 .done))))))) 10 (.fst 11 (.fst 12 (.one 8 (.one 13 (.one 14 (.one 15 (.one 16 .done)))))))) 10 (.fst 11 (.fst 12 (.one 2 (.one 8 (.one 13 (.one 14 (.one 15 (.one 16 .done))))))))) 10 (.fst 11 (.fst 12 (.two 2 (.one 7 (.one 8 (.one 13 (.one 14 (.one 15 (.one 16 .done)))))) 7 (.one 2 (.one 8 (.one 13 (.one 14 (.one 15 (.one 16 .done)))))))))) (γ:=Option Addr × Nat × aa1) (fun _=>[]) (fun g=>mkB bm xs (p3+1+1+1)::kdB b7 (knm ks.length) lo (lo+atE xs (pos+1) 5) fv6::(b4,.cells 85 zK)::(sf6++((b2,.cells 85 (cs2.set (tw0*4+3) (.v (.slice g.1 (y.fields.map fldC++[fldR (totF (knm ks.length)) nilD nilD]).length g.2.1))))::g.2.2))) (fun g=>RowIs 97 8 (y.fields.map fldC++[fldR (totF (knm ks.length)) nilD nilD]) (.slice g.1 (y.fields.map fldC++[fldR (totF (knm ks.length)) nilD nilD]).length g.2.1) g.2.2) (by decide +kernel) ?_ ?_
            ·repeat' first|refine sk111 ?_|(intro b;conv=>whnf)|(refine And.intro ?_ ?_<;>(conv=>whnf))|(refine Ld.cellm (tb:=85) (cs:=cs2) (by simp) cl21 ?_)|(refine Ld.cellm (tb:=85) (cs:=[sD (knm ks.length),iD lo,iD (lo+atE xs (pos+1) 5),.v fv6]) (by simp) rfl ?_)|(refine Ap.go rfl rfl rfl rfl hr8 (τ:=mkB bm xs (p3+1+1+1)::kdB b7 (knm ks.length) lo (lo+atE xs (pos+1) 5) fv6::(b4,.cells 85 zK)::(sf6++[(b2,.cells 85 cs2)])) cl22 rfl (zs:=y.fields.map fldC++[fldR (totF (knm ks.length)) nilD nilD]) rfl (by simp only [List.length_append,List.length_map,List.length_cons,List.length_nil];omega) cl23 (fun s'=>mkB bm xs (p3+1+1+1)::kdB b7 (knm ks.length) lo (lo+atE xs (pos+1) 5) fv6::(b4,.cells 85 zK)::(sf6++((b2,.cells 85 cs2)::s'))) (fun s'=>cl20) (fun a9 c9 s9 hr9=>?_))|(refine Ap.go rfl rfl rfl rfl (RowIs.e0 97 8 (some ⟨b,0,none⟩)) (List.Perm.refl ([]++_)) (br5 y.fields) (zs:=y.fields.map fldC) rfl (by rw [List.length_map];omega) (by rw [List.length_map];omega) (fun s'=>s'++_) (fun s'=>List.Perm.refl _) (fun a8 c8 s8 hr8=>?_))|(refine Sv.cellm (tb:=85) (cs:=cs2) (cs':=cs2.set (tw0*4+3) (.v (.slice a9 (y.fields.map fldC++[fldR (totF (knm ks.length)) nilD nilD]).length c9))) (τ:=mkB bm xs (p3+1+1+1)::kdB b7 (knm ks.length) lo (lo+atE xs (pos+1) 5) fv6::(b4,.cells 85 zK)::(sf6++s9)) cl19 cl24 rfl (by rw [show 0+((tw0:Nat):Int).toNat*4+3=tw0*4+3 by simp]) ?_)
             all_goals exact⟨(a9,c9,s9),(aa2 cl3),Sc.perm cl19,hr9⟩
            ·rintro⟨a9,c9,s9⟩ hr9
             simp only at hr9 ⊢
             have hidx:=(List.getElem?_eq_some_iff.1 hc3).1
             have hkr:=RowIs.put1 (d:=slF (y.fields++[totF (knm ks.length)])) hrow (show (ks.map kndC)[tw0]?=some (kndC y) by rw [List.getElem?_map,hy];rfl) (show 3<4 by omega)
             have hls:(ks.map kndC).set tw0 ((kndC y).set 3 (slF (y.fields++[totF (knm ks.length)])))=(ks.set tw0 ⟨y.name,y.lo,y.hi,y.fields++[totF (knm ks.length)]⟩).map kndC:=by rw [List.map_set];rfl
             rw [hls] at hkr
             have le9:LeR (y.fields.map fldC++[fldR (totF (knm ks.length)) nilD nilD]) ((y.fields++[totF (knm ks.length)]).map fldC):=by rw [List.map_append];exact (LeR.refl _).append (.cons (.cons (Le.refl _) (.cons (Le.refl _) (.cons (Le.refl _) (.cons (Le.refl _) (.cons (Le.refl _) (.cons (Le.refl _) (.cons (af6 1) (.cons (af6 1) .nil)))))))) .nil)
             have hfz:=Sc.frz (b:=b2) (t:=85) (τ:=mkB bm xs (p3+1+1+1)::kdB b7 (knm ks.length) lo (lo+atE xs (pos+1) 5) fv6::(b4,.cells 85 zK)::sf6) (List.getElem?_set_self (a:=D.v (.slice a9 (y.fields.map fldC++[fldR (totF (knm ks.length)) nilD nilD]).length c9)) hidx) hr9 le9
             rw [List.set_set] at hfz
             change Sc _ ((b2,.cells 85 (cs2.set (tw0*4+3) (slF (y.fields++[totF (knm ks.length)]))))::_) at hfz
             have hle6:LeR (rs3++[fldR (aj7 (atE xs (p3+1) 3) (atE xs (p3+1+1) 8)) nilD nilD]) ((idF idl::ofF y l9 hi::(sm++[aj7 (atE xs (p3+1) 3) (atE xs (p3+1+1) 8)])).map fldC):=by
              have:=hle4.append (LeR.cons (x:=fldR (aj7 (atE xs (p3+1) 3) (atE xs (p3+1+1) 8)) nilD nilD) (y:=fldC (aj7 (atE xs (p3+1) 3) (atE xs (p3+1+1) 8))) (.cons (Le.refl _) (.cons (Le.refl _) (.cons (Le.refl _) (.cons (Le.refl _) (.cons (Le.refl _) (.cons (Le.refl _) (.cons (af6 1) (.cons (af6 1) .nil)))))))) .nil)
              simpa using this
             repeat' first|refine sk111 ?_|(intro b;conv=>whnf)
             exact⟨(⟨p3+1+1+1,fv6,_,sf6,ks.set tw0 ⟨y.name,y.lo,y.hi,y.fields++[totF (knm ks.length)]⟩,[(b2,.cells 85 (cs2.set (tw0*4+3) (slF (y.fields++[totF (knm ks.length)]))))]⟩,ofF y l9 hi::(sm++[aj7 (atE xs (p3+1) 3) (atE xs (p3+1+1) 8)])),(aa2 cl3),(Sc.perm cl19).trans (hfz.trans (Sc.perm cl19)),⟨by simp only;omega,by simp only;omega⟩,⟨hr6,hle6,hkr,by simp⟩,RefP.part tw0 y l9 hi _ _ sm hy hl9 hhi hsm ht ⟨h9.1,h9'⟩ ⟨h10.1,h10'⟩,by simp;omega⟩
          ·repeat' first|refine sk111 ?_|(intro b;conv=>whnf)
           exact⟨(⟨p3+1,fv3,rs3,sf3,ks,[(b2,.cells 85 cs2)]⟩,ofF y l9 hi::sm),(aa2 cl3),cl16,⟨by simp only;omega,by simp only;omega⟩,⟨hr4,hle4,hrow,rfl⟩,RefP.of tw0 y l9 hi sm hy hl9 hhi hsm,by simp;omega⟩
         ·repeat' first|refine sk111 ?_|(intro b;conv=>whnf)
          refine Bc.l ?_
          repeat' first|refine sk111 ?_|(intro b;conv=>whnf)
          exact⟨(⟨p3,fv3,rs3,sf3,ks,[(b2,.cells 85 cs2)]⟩,ofF y l9 hi::sm),(aa2 cl3),cl16,⟨by simp only;omega,by simp only;omega⟩,⟨hr4,hle4,hrow,rfl⟩,RefP.of tw0 y l9 hi sm hy hl9 hhi hsm,by simp;omega⟩
    ·repeat' first|refine sk111 ?_|(intro b;conv=>whnf)
     exact⟨(⟨pos+1+1+1,fv,_,sf,ks,sk⟩,[]),(aa2 cl3),cl16,⟨by simp only;omega,by simp only;omega⟩,⟨hfr,.cons (.cons (Le.refl _) (.cons (Le.refl _) (.cons (Le.refl _) (.cons (Le.refl _) (.cons (Le.refl _) (.cons (Le.refl _) (.cons (af6 1) (.cons (af6 1) .nil)))))))) .nil,hrow,rfl⟩,RefP.none (List.length_eq_zero_iff.1 (by omega)),by simp⟩
   ·rintro⟨⟨p1,fv1,rs1,sf1,ks1,sk1⟩,f1⟩ ⟨⟨hp1,hp1'⟩,⟨hr1,hle1,hkr1,hkl1⟩,hRef,hf1⟩
    simp only [kS] at hp1 hp1' hr1 hle1 hkr1 hkl1 hRef hf1 ⊢
    have hl1:rs1.length<=4:=by have:=hle1.len;simp at this;omega
    by_cases hn1:1<ks.length
    ·have h11:=ac6 xs p1 3
     repeat' first|refine sk111 ?_|(intro b;conv=>whnf)
     ((refine CE.own (aa8 xs hx bm _ _ ⟨by omega,by omega⟩) (List.Perm.refl ([mkB bm xs _]++_)) (fun s'=>s'++_) (fun s'=>List.Perm.refl _) ?_);(rintro _ _ ⟨rfl,rfl⟩))
     repeat' first|refine sk111 ?_|(intro b;conv=>whnf)
     refine Bc.j ?_
     refine at6 mixed aa0 (γ:=Int × Value × List (List D) × aa1 × List Fld) (fun _=>[]) (fun g=>mkB bm xs g.1::kdB b7 (knm ks.length) lo (lo+atE xs (pos+1) 5) g.2.1::(b4,.cells 85 zK)::(g.2.2.2.1++sk1)) (fun g=>(pos+3<=g.1/\g.1<=pos+35)/\RowIs 97 8 g.2.2.1 g.2.1 g.2.2.2.1/\LeR g.2.2.1 ((idF idl::(f1++g.2.2.2.2)).map fldC)/\(g.2.2.2.2=[]\/∃ y,ks[0]?=some y/\1<ks.length/\g.2.2.2.2=[byF y])) ?_ ?_
     ·(((with_reducible refine W.mk ?_);(conv=>whnf)))
      refine Bc.l ?_
      by_cases hz11:atE xs p1 3=0
      ·obtain⟨y1,hy1⟩:∃ y,ks1[0]?=some y:=⟨_,List.getElem?_eq_getElem (by omega)⟩
       obtain⟨b12,cap12,cs12,e12,rfl,hcs12⟩:=RowIs.get hkr1 (show (ks1.map kndC)[0]?=some (kndC y1) by rw [List.getElem?_map,hy1];rfl)
       rw [List.length_map] at e12
       have hc10:cs12[0]?=some (sD y1.name):=hcs12 0 (by omega)
       obtain⟨y0,hy0,hny⟩:=hRef.name0 hy1
       rw [hkl1] at e12
       cases e12
       repeat' first|refine sk111 ?_|(intro b;conv=>whnf)
       refine Dr.l (by decide +kernel) ?_
       repeat' first|refine sk111 ?_|(intro b;conv=>whnf)
       refine Ld.cellm (tb:=85) (cs:=cs12) (by simp) hc10 ?_
       repeat' first|refine sk111 ?_|(intro b;conv=>whnf)
       refine Ap.go rfl rfl rfl rfl hr1 (τ:=mkB bm xs (p1+1)::kdB b7 (knm ks.length) lo (lo+atE xs (pos+1) 5) fv1::(b4,.cells 85 zK)::[(b12,.cells 85 cs12)]) cl19 rfl (zs:=rs1++[fldR (byF y1) nilD nilD]) rfl (by simp;omega) (by simp;omega) (fun s'=>mkB bm xs (p1+1)::kdB b7 (knm ks.length) lo (lo+atE xs (pos+1) 5) fv1::(b4,.cells 85 zK)::(s'++[(b12,.cells 85 cs12)])) (fun s'=>cl20) (fun a13 c13 s13 hr13=>?_)
       repeat' first|refine sk111 ?_|(intro b;conv=>whnf)
       exact⟨(p1+1,_,_,s13,[byF y1]),(aa2 cl3),cl16,⟨by simp only;omega,by simp only;omega⟩,hr13,by simpa using hle1.append (LeR.cons (x:=fldR (byF y1) nilD nilD) (y:=fldC (byF y1)) (.cons (Le.refl _) (.cons (Le.refl _) (.cons (Le.refl _) (.cons (Le.refl _) (.cons (Le.refl _) (.cons (Le.refl _) (.cons (af6 1) (.cons (af6 1) .nil)))))))) .nil),.inr ⟨y0,hy0,hn1,by simp [byF,hny]⟩⟩
      ·repeat' first|refine sk111 ?_|(intro b;conv=>whnf)
       exact⟨(p1+1,fv1,rs1,sf1,[]),(aa2 cl3),cl16,⟨by simp only;omega,by simp only;omega⟩,hr1,by simpa using hle1,.inl rfl⟩
     ·rintro⟨p4,fv4,rs4,sf4,f2⟩ ⟨⟨hp4,hp4'⟩,hr4,hle4,hf2⟩
      simp only at hp4 hp4' hr4 hle4 hf2 ⊢
      have hl2:f2.length<=1:=by rcases hf2 with rfl|⟨_,_,_,rfl⟩<;>simp
      have hl4:rs4.length<=10:=by have:=hle4.len;simp at this;omega
      repeat' first|refine sk111 ?_|(intro b;conv=>whnf)
      refine CE.own (aB1 xs hx bm _ ⟨by omega,by omega⟩) (List.Perm.refl ([mkB bm xs _]++_)) (fun s'=>s'++_) (fun s'=>List.Perm.refl _) ?_
      rintro _ _ ⟨p5,fs1,⟨hp5,hp5'⟩,rfl,rfl,hP1⟩
      have hn1:=hP1.two
      repeat' first|refine sk111 ?_|(intro b;conv=>whnf)
      refine Ap.go rfl rfl rfl rfl hr4 (τ:=mkB bm xs p5::kdB b7 (knm ks.length) lo (lo+atE xs (pos+1) 5) fv4::(b4,.cells 85 zK)::sk1) cl19 (br5 fs1) (zs:=rs4++fs1.map fldC) rfl (by rw [List.length_append,List.length_map];omega) (by rw [List.length_append,List.length_map];omega) (fun s'=>mkB bm xs p5::kdB b7 (knm ks.length) lo (lo+atE xs (pos+1) 5) fv4::(b4,.cells 85 zK)::(s'++sk1)) (fun s'=>cl20) (fun a14 c14 s14 hr14=>?_)
      have le14:LeR (rs4++fs1.map fldC) ((idF idl::(f1++(f2++fs1))).map fldC):=by
       have:=hle4.append (LeR.refl (fs1.map fldC))
       simpa using this
      have hl14:(rs4++fs1.map fldC).length<=12:=by rw [List.length_append,List.length_map];omega
      have h15:=ac6 xs p5 2
      repeat' first|refine sk111 ?_|(intro b;conv=>whnf)
      ((refine CE.own (aa8 xs hx bm _ _ ⟨by omega,by omega⟩) (List.Perm.refl ([mkB bm xs _]++_)) (fun s'=>s'++_) (fun s'=>List.Perm.refl _) ?_);(rintro _ _ ⟨rfl,rfl⟩))
      generalize rs4++fs1.map fldC=rs14 at *
      repeat' first|refine sk111 ?_|(intro b;conv=>whnf)
      refine Bc.j ?_
      refine at6 mixed aa0 (γ:=Int × Value × List (List D) × aa1 × List Fld) (fun _=>[]) (fun g=>mkB bm xs g.1::kdB b7 (knm ks.length) lo (lo+atE xs (pos+1) 5) g.2.1::(b4,.cells 85 zK)::(g.2.2.2.1++sk1)) (fun g=>(pos+3<=g.1/\g.1<=pos+80)/\RowIs 97 8 g.2.2.1 g.2.1 g.2.2.2.1/\LeR g.2.2.1 ((idF idl::(f1++(f2++(fs1++g.2.2.2.2)))).map fldC)/\PlainF g.2.2.2.2/\(g.2.2.2.2=[]\/∃ h hs,g.2.2.2.2=h::hs/\am7 (idF idl::(f1++(f2++fs1))) h.name<0)) ?_ ?_
      ·(((with_reducible refine W.mk ?_);(conv=>whnf)))
       refine Bc.l ?_
       by_cases hz15:atE xs p5 2=0
       ·repeat' first|refine sk111 ?_|(intro b;conv=>whnf)
        refine CE.own (aB1 xs hx bm _ ⟨by omega,by omega⟩) (List.Perm.refl ([mkB bm xs _]++_)) (fun s'=>s'++_) (fun s'=>List.Perm.refl _) ?_
        rintro _ _ ⟨p6,fs2,⟨hp6,hp6'⟩,rfl,rfl,hP2⟩
        have hn2:=hP2.two
        cases fs2 with
        | nil=>
         repeat' first|refine sk111 ?_|(intro b;conv=>whnf)
         refine Dr.l (by decide +kernel) ?_
         repeat' first|refine sk111 ?_|(intro b;conv=>whnf)
         refine Bc.l ?_
         repeat' first|refine sk111 ?_|(intro b;conv=>whnf)
         exact⟨(p6,_,_,s14,[]),(aa2 cl3),cl16,⟨by simp only;omega,by simp only;omega⟩,hr14,by simpa using le14,PlainF.none,.inl rfl⟩
        | cons h2 fs2=>
         have HH:=aL1 (idF idl::(f1++(f2++fs1))) h2.name (by simp only [List.length_cons,List.length_append];omega)
         have h20:(h2::fs2)[Int.toNat 0]?=some h2:=rfl
         repeat' first|refine sk111 ?_|(intro b;conv=>whnf)
         refine Dr.l (by decide +kernel) ?_
         repeat' first|refine sk111 ?_|(intro b;conv=>whnf)
         refine Cp.pk (APk.peek (.cons (Pk.rowLe (τ:=mkB bm xs p6::kdB b7 (knm ks.length) lo (lo+atE xs (pos+1) 5) (.slice a14 rs14.length c14)::(b4,.cells 85 zK)::sk1) hr14 le14 cl19) (.cons (Pk.same _) .nil)) HH rfl) ?_
         by_cases hx2:am7 (idF idl::(f1++(f2++fs1))) h2.name<0
         ·repeat' first|refine sk111 ?_|(intro b;conv=>whnf)
          refine Bc.l ?_
          repeat' first|refine sk111 ?_|(intro b;conv=>whnf)
          refine Ap.go rfl rfl rfl rfl hr14 (τ:=mkB bm xs p6::kdB b7 (knm ks.length) lo (lo+atE xs (pos+1) 5) (.slice a14 rs14.length c14)::(b4,.cells 85 zK)::sk1) cl19 (br5 (h2::fs2)) (zs:=rs14++(h2::fs2).map fldC) rfl (by rw [List.length_append,List.length_map];omega) (by rw [List.length_append,List.length_map];omega) (fun s'=>mkB bm xs p6::kdB b7 (knm ks.length) lo (lo+atE xs (pos+1) 5) (.slice a14 rs14.length c14)::(b4,.cells 85 zK)::(s'++sk1)) (fun s'=>cl20) (fun a16 c16 s16 hr16=>?_)
          repeat' first|refine sk111 ?_|(intro b;conv=>whnf)
          exact⟨(p6,_,_,s16,h2::fs2),(aa2 cl3),cl16,⟨by simp only;omega,by simp only;omega⟩,hr16,by have:=le14.append (LeR.refl ((h2::fs2).map fldC));simpa using this,hP2,.inr ⟨h2,fs2,rfl,hx2⟩⟩
         ·repeat' first|refine sk111 ?_|(intro b;conv=>whnf)
          refine Bc.l ?_
          repeat' first|refine sk111 ?_|(intro b;conv=>whnf)
          exact⟨(p6,_,_,s14,[]),(aa2 cl3),cl16,⟨by simp only;omega,by simp only;omega⟩,hr14,by simpa using le14,PlainF.none,.inl rfl⟩
       ·repeat' first|refine sk111 ?_|(intro b;conv=>whnf)
        exact⟨(p5+1,_,_,s14,[]),(aa2 cl3),cl16,⟨by simp only;omega,by simp only;omega⟩,hr14,by simpa using le14,PlainF.none,.inl rfl⟩
      ·rintro⟨p7,fv7,rs7,sf7,p2⟩ ⟨⟨hp7,hp7'⟩,hr7,hle7,hP2,hp2⟩
       simp only at hp7 hp7' hr7 hle7 hP2 hp2 ⊢
       obtain⟨a17,c17,rfl⟩:=hr7.slice
       repeat' first|refine sk111 ?_|(intro b;conv=>whnf)
       refine Rs.c aa0 (m:=2) rfl rfl rfl rfl rfl rfl ?_
       repeat' first|refine sk111 ?_|(intro b;conv=>whnf)
       have hs1:∀ z,z∈aa9 (mkB bm xs p7::sk1)->z∈aa9 (mkB bm xs p7::kdB b7 (knm ks.length) lo (lo+atE xs (pos+1) 5) (.slice a17 rs7.length c17)::kdB b4 (knm ks.length) lo (lo+atE xs (pos+1) 5) (.slice a17 rs7.length c17)::(sf7++sk1)):=by
        intro z hz;simp only [aa9,List.map_cons,List.map_append,List.mem_cons,List.mem_append] at hz ⊢;rcases hz with hz|hz<;>simp [hz]
       have hs2:∀ z,z∈aa9 (mkB bm xs p7::sk1)->z∈aa9 (mkB bm xs p7::kdB b7 (knm ks.length) lo (lo+atE xs (pos+1) 5) (.slice a17 rs7.length c17)::kdB b4 (knm ks.length) lo (lo+atE xs (pos+1) 5) (.slice a17 rs7.length c17)::sk1):=by
        intro z hz;simp only [aa9,List.map_cons,List.map_append,List.mem_cons,List.mem_append] at hz ⊢;rcases hz with hz|hz<;>simp [hz]
       refine Rt.by (σ':=mkB bm xs p7::sk1) (d':=kndD ⟨knm ks.length,lo,lo+atE xs (pos+1) 5,idF idl::(f1++(f2++(fs1++p2)))⟩) (Vs.vd ⟨kdB b7 (knm ks.length) lo (lo+atE xs (pos+1) 5) (.slice a17 rs7.length c17)::kdB b4 (knm ks.length) lo (lo+atE xs (pos+1) 5) (.slice a17 rs7.length c17)::sf7,by (refine ad8 fun a=>?_;simp only [kdB,mkB,List.append_eq,List.nil_append,ad9,ah8,ah7,sD,iD,bD];omega)⟩ (Vd.agg (.cons (Vd.same hs1 _) (.cons (Vd.same hs1 _) (.cons (Vd.same hs1 _) (.cons (Vd.rowLe (ρ:=mkB bm xs p7::kdB b7 (knm ks.length) lo (lo+atE xs (pos+1) 5) (.slice a17 rs7.length c17)::kdB b4 (knm ks.length) lo (lo+atE xs (pos+1) 5) (.slice a17 rs7.length c17)::sk1) hr7 hle7 cl19 hs2) .nil)))))) ?_
       exact⟨p7,_,ks1,sk1,⟨by omega,by omega⟩,rfl,rfl,hkr1,⟨lo,atE xs (pos+1) 5,idl,f1,f2,fs1,p2,hlo,⟨h2.1,h2'⟩,hid,rfl,hRef,hf2,hP1,hP2,hp2⟩⟩
    ·repeat' first|refine sk111 ?_|(intro b;conv=>whnf)
     refine Bc.j ?_
     refine at6 mixed aa0 (γ:=Int × Value × List (List D) × aa1 × List Fld) (fun _=>[]) (fun g=>mkB bm xs g.1::kdB b7 (knm ks.length) lo (lo+atE xs (pos+1) 5) g.2.1::(b4,.cells 85 zK)::(g.2.2.2.1++sk1)) (fun g=>(pos+3<=g.1/\g.1<=pos+35)/\RowIs 97 8 g.2.2.1 g.2.1 g.2.2.2.1/\LeR g.2.2.1 ((idF idl::(f1++g.2.2.2.2)).map fldC)/\(g.2.2.2.2=[]\/∃ y,ks[0]?=some y/\1<ks.length/\g.2.2.2.2=[byF y])) ?_ ?_
     ·(((with_reducible refine W.mk ?_);(conv=>whnf)))
      refine Bc.l ?_
      repeat' first|refine sk111 ?_|(intro b;conv=>whnf)
      exact⟨(p1,fv1,rs1,sf1,[]),(aa2 cl3),cl16,⟨by simp only;omega,by simp only;omega⟩,hr1,by simpa using hle1,.inl rfl⟩
     ·rintro⟨p4,fv4,rs4,sf4,f2⟩ ⟨⟨hp4,hp4'⟩,hr4,hle4,hf2⟩
      simp only at hp4 hp4' hr4 hle4 hf2 ⊢
      have hl2:f2.length<=1:=by rcases hf2 with rfl|⟨_,_,_,rfl⟩<;>simp
      have hl4:rs4.length<=10:=by have:=hle4.len;simp at this;omega
      repeat' first|refine sk111 ?_|(intro b;conv=>whnf)
      refine CE.own (aB1 xs hx bm _ ⟨by omega,by omega⟩) (List.Perm.refl ([mkB bm xs _]++_)) (fun s'=>s'++_) (fun s'=>List.Perm.refl _) ?_
      rintro _ _ ⟨p5,fs1,⟨hp5,hp5'⟩,rfl,rfl,hP1⟩
      have hn1:=hP1.two
      repeat' first|refine sk111 ?_|(intro b;conv=>whnf)
      refine Ap.go rfl rfl rfl rfl hr4 (τ:=mkB bm xs p5::kdB b7 (knm ks.length) lo (lo+atE xs (pos+1) 5) fv4::(b4,.cells 85 zK)::sk1) cl19 (br5 fs1) (zs:=rs4++fs1.map fldC) rfl (by rw [List.length_append,List.length_map];omega) (by rw [List.length_append,List.length_map];omega) (fun s'=>mkB bm xs p5::kdB b7 (knm ks.length) lo (lo+atE xs (pos+1) 5) fv4::(b4,.cells 85 zK)::(s'++sk1)) (fun s'=>cl20) (fun a14 c14 s14 hr14=>?_)
      have le14:LeR (rs4++fs1.map fldC) ((idF idl::(f1++(f2++fs1))).map fldC):=by
       have:=hle4.append (LeR.refl (fs1.map fldC))
       simpa using this
      have hl14:(rs4++fs1.map fldC).length<=12:=by rw [List.length_append,List.length_map];omega
      have h15:=ac6 xs p5 2
      repeat' first|refine sk111 ?_|(intro b;conv=>whnf)
      ((refine CE.own (aa8 xs hx bm _ _ ⟨by omega,by omega⟩) (List.Perm.refl ([mkB bm xs _]++_)) (fun s'=>s'++_) (fun s'=>List.Perm.refl _) ?_);(rintro _ _ ⟨rfl,rfl⟩))
      generalize rs4++fs1.map fldC=rs14 at *
      repeat' first|refine sk111 ?_|(intro b;conv=>whnf)
      refine Bc.j ?_
      refine at6 mixed aa0 (γ:=Int × Value × List (List D) × aa1 × List Fld) (fun _=>[]) (fun g=>mkB bm xs g.1::kdB b7 (knm ks.length) lo (lo+atE xs (pos+1) 5) g.2.1::(b4,.cells 85 zK)::(g.2.2.2.1++sk1)) (fun g=>(pos+3<=g.1/\g.1<=pos+80)/\RowIs 97 8 g.2.2.1 g.2.1 g.2.2.2.1/\LeR g.2.2.1 ((idF idl::(f1++(f2++(fs1++g.2.2.2.2)))).map fldC)/\PlainF g.2.2.2.2/\(g.2.2.2.2=[]\/∃ h hs,g.2.2.2.2=h::hs/\am7 (idF idl::(f1++(f2++fs1))) h.name<0)) ?_ ?_
      ·(((with_reducible refine W.mk ?_);(conv=>whnf)))
       refine Bc.l ?_
       by_cases hz15:atE xs p5 2=0
       ·repeat' first|refine sk111 ?_|(intro b;conv=>whnf)
        refine CE.own (aB1 xs hx bm _ ⟨by omega,by omega⟩) (List.Perm.refl ([mkB bm xs _]++_)) (fun s'=>s'++_) (fun s'=>List.Perm.refl _) ?_
        rintro _ _ ⟨p6,fs2,⟨hp6,hp6'⟩,rfl,rfl,hP2⟩
        have hn2:=hP2.two
        cases fs2 with
        | nil=>
         repeat' first|refine sk111 ?_|(intro b;conv=>whnf)
         refine Dr.l (by decide +kernel) ?_
         repeat' first|refine sk111 ?_|(intro b;conv=>whnf)
         refine Bc.l ?_
         repeat' first|refine sk111 ?_|(intro b;conv=>whnf)
         exact⟨(p6,_,_,s14,[]),(aa2 cl3),cl16,⟨by simp only;omega,by simp only;omega⟩,hr14,by simpa using le14,PlainF.none,.inl rfl⟩
        | cons h2 fs2=>
         have HH:=aL1 (idF idl::(f1++(f2++fs1))) h2.name (by simp only [List.length_cons,List.length_append];omega)
         have h20:(h2::fs2)[Int.toNat 0]?=some h2:=rfl
         repeat' first|refine sk111 ?_|(intro b;conv=>whnf)
         refine Dr.l (by decide +kernel) ?_
         repeat' first|refine sk111 ?_|(intro b;conv=>whnf)
         refine Cp.pk (APk.peek (.cons (Pk.rowLe (τ:=mkB bm xs p6::kdB b7 (knm ks.length) lo (lo+atE xs (pos+1) 5) (.slice a14 rs14.length c14)::(b4,.cells 85 zK)::sk1) hr14 le14 cl19) (.cons (Pk.same _) .nil)) HH rfl) ?_
         by_cases hx2:am7 (idF idl::(f1++(f2++fs1))) h2.name<0
         ·repeat' first|refine sk111 ?_|(intro b;conv=>whnf)
          refine Bc.l ?_
          repeat' first|refine sk111 ?_|(intro b;conv=>whnf)
          refine Ap.go rfl rfl rfl rfl hr14 (τ:=mkB bm xs p6::kdB b7 (knm ks.length) lo (lo+atE xs (pos+1) 5) (.slice a14 rs14.length c14)::(b4,.cells 85 zK)::sk1) cl19 (br5 (h2::fs2)) (zs:=rs14++(h2::fs2).map fldC) rfl (by rw [List.length_append,List.length_map];omega) (by rw [List.length_append,List.length_map];omega) (fun s'=>mkB bm xs p6::kdB b7 (knm ks.length) lo (lo+atE xs (pos+1) 5) (.slice a14 rs14.length c14)::(b4,.cells 85 zK)::(s'++sk1)) (fun s'=>cl20) (fun a16 c16 s16 hr16=>?_)
          repeat' first|refine sk111 ?_|(intro b;conv=>whnf)
          exact⟨(p6,_,_,s16,h2::fs2),(aa2 cl3),cl16,⟨by simp only;omega,by simp only;omega⟩,hr16,by have:=le14.append (LeR.refl ((h2::fs2).map fldC));simpa using this,hP2,.inr ⟨h2,fs2,rfl,hx2⟩⟩
         ·repeat' first|refine sk111 ?_|(intro b;conv=>whnf)
          refine Bc.l ?_
          repeat' first|refine sk111 ?_|(intro b;conv=>whnf)
          exact⟨(p6,_,_,s14,[]),(aa2 cl3),cl16,⟨by simp only;omega,by simp only;omega⟩,hr14,by simpa using le14,PlainF.none,.inl rfl⟩
       ·repeat' first|refine sk111 ?_|(intro b;conv=>whnf)
        exact⟨(p5+1,_,_,s14,[]),(aa2 cl3),cl16,⟨by simp only;omega,by simp only;omega⟩,hr14,by simpa using le14,PlainF.none,.inl rfl⟩
      ·rintro⟨p7,fv7,rs7,sf7,p2⟩ ⟨⟨hp7,hp7'⟩,hr7,hle7,hP2,hp2⟩
       simp only at hp7 hp7' hr7 hle7 hP2 hp2 ⊢
       obtain⟨a17,c17,rfl⟩:=hr7.slice
       repeat' first|refine sk111 ?_|(intro b;conv=>whnf)
       refine Rs.c aa0 (m:=2) rfl rfl rfl rfl rfl rfl ?_
       repeat' first|refine sk111 ?_|(intro b;conv=>whnf)
       have hs1:∀ z,z∈aa9 (mkB bm xs p7::sk1)->z∈aa9 (mkB bm xs p7::kdB b7 (knm ks.length) lo (lo+atE xs (pos+1) 5) (.slice a17 rs7.length c17)::kdB b4 (knm ks.length) lo (lo+atE xs (pos+1) 5) (.slice a17 rs7.length c17)::(sf7++sk1)):=by
        intro z hz;simp only [aa9,List.map_cons,List.map_append,List.mem_cons,List.mem_append] at hz ⊢;rcases hz with hz|hz<;>simp [hz]
       have hs2:∀ z,z∈aa9 (mkB bm xs p7::sk1)->z∈aa9 (mkB bm xs p7::kdB b7 (knm ks.length) lo (lo+atE xs (pos+1) 5) (.slice a17 rs7.length c17)::kdB b4 (knm ks.length) lo (lo+atE xs (pos+1) 5) (.slice a17 rs7.length c17)::sk1):=by
        intro z hz;simp only [aa9,List.map_cons,List.map_append,List.mem_cons,List.mem_append] at hz ⊢;rcases hz with hz|hz<;>simp [hz]
       refine Rt.by (σ':=mkB bm xs p7::sk1) (d':=kndD ⟨knm ks.length,lo,lo+atE xs (pos+1) 5,idF idl::(f1++(f2++(fs1++p2)))⟩) (Vs.vd ⟨kdB b7 (knm ks.length) lo (lo+atE xs (pos+1) 5) (.slice a17 rs7.length c17)::kdB b4 (knm ks.length) lo (lo+atE xs (pos+1) 5) (.slice a17 rs7.length c17)::sf7,by (refine ad8 fun a=>?_;simp only [kdB,mkB,List.append_eq,List.nil_append,ad9,ah8,ah7,sD,iD,bD];omega)⟩ (Vd.agg (.cons (Vd.same hs1 _) (.cons (Vd.same hs1 _) (.cons (Vd.same hs1 _) (.cons (Vd.rowLe (ρ:=mkB bm xs p7::kdB b7 (knm ks.length) lo (lo+atE xs (pos+1) 5) (.slice a17 rs7.length c17)::kdB b4 (knm ks.length) lo (lo+atE xs (pos+1) 5) (.slice a17 rs7.length c17)::sk1) hr7 hle7 cl19 hs2) .nil)))))) ?_
       exact⟨p7,_,ks1,sk1,⟨by omega,by omega⟩,rfl,rfl,hkr1,⟨lo,atE xs (pos+1) 5,idl,f1,f2,fs1,p2,hlo,⟨h2.1,h2'⟩,hid,rfl,hRef,hf2,hP1,hP2,hp2⟩⟩
end
section
open Go
def posB:Nat->Nat
 | 0=>20
 | d+1=>20+2*posB d
def aK0:Nat->Nat
 | 0=>1
 | d+1=>1+2*aK0 d
theorem cb6 (d:Nat):20<=posB d:=by cases d<;>simp [posB]
theorem bK0 (d:Nat):1<=aK0 d:=by cases d<;>simp [aK0]
abbrev zC:List D:=[.v (zv (ZV.int IntKind.i64)),.v (zv ZV.sl),.v (zv ZV.sl),.v (zv ZV.sl),.v (zv (ZV.int IntKind.i64))]
def SlOf (d:D) (p:List ByteArray):Prop:=d=slS p\/(d = .v (.slice none 0 0)/\p=[])
theorem SlOf.vd {σ τ:aa1} {d:D} {p:List ByteArray} (h:SlOf d p) (hs:∀ b,b∈aa9 τ->b∈aa9 σ):Vd σ τ d (slS p):=by
 rcases h with rfl|⟨rfl,rfl⟩
 ·exact Vd.same hs _
 ·exact Vd.nil _
theorem cu3 {P:Program} {T:TypeId->Option TI} {f:Frm} {σ:aa1} {o:Oper} {t e:TypeId} {m k by_:Nat} {ps:Array (Nat × Operand)} {i j:TI} {ag:Bool} {out:List D} {L:List (List D)} {K:D->Prop} {B:Prop} (ho:o.op = .buildSlice t m ps) (ht:T t=some i) (hs:i.sl=some (e,ag,k,by_)) (he:T e=some j)
  (hc:(Nat.beq j.zero.length j.size&&Nat.beq j.size k&&Nat.blt 0 k&&Nat.ble (m*k) 1000)=true) (hF:aW8 (fun q=>some (q*k,k)) (aG5 j.zero k m) (ps.toList.map fun p=>(p.1,evF f p.2))=some out) (hl:(out.length==m*k)=true) (hL:aO9 k m out=L) (h:W (aM9 L fun l=>K (.sl k l))):Bx (exY P T o f σ K) B:=by
 obtain⟨dst,op,ty,pos,aft,g⟩:=o
 simp only at ho
 subst ho
 subst hL
 refine Bx.l ⟨?_⟩
 simp only [exY,ht,hs,he,hc,hF,hl,cond_true]
 exact h.h
def opsC:List Int:=[0,1,2,2,1,3,4,5]
theorem bz6:∀ d,d<=posB d
 | 0=>Nat.zero_le _
 | d+1=>by have:=bz6 d;simp only [posB];omega
theorem ba4 {d:Nat} (h:1<=d):posB d=20+2*posB (d-1):=by
 obtain⟨e,rfl⟩:∃ e,d=e+1:=⟨d-1,by omega⟩
 rfl
theorem aP8 {d:Nat} (h:1<=d):aK0 d=1+2*aK0 (d-1):=by
 obtain⟨e,rfl⟩:∃ e,d=e+1:=⟨d-1,by omega⟩
 rfl
theorem sb112 {A B:Prop} (k:B) (h:Hd7 B->A:=by intro hk7q;(first|(with_reducible refine Bc.l ?_)|fail|fail|((with_reducible refine Cb.go ?h ?_);(case h=>decide +kernel)));exact hk7q.run):A:=h ⟨k⟩
theorem sk113 {A B:Prop} (k:B) (h:Hd7 B->A:=by intro hk7q;(first|refine sb0 ?_|refine sb112 ?_|((with_reducible refine' Cp.by ?hc ?_);(case hc=>first|exact HK))|((with_reducible refine' CE.pure ?hc ?_);(case hc=>first|exact HK)));exact hk7q.run):A:=h ⟨k⟩
theorem sk114 {A B:Prop} (k:B) (h:Hd7 B->A:=by intro hk7q;(first|refine sb0 ?_|refine sb75 ?_|((with_reducible refine' Cp.by ?hc ?_);(case hc=>first|exact HK))|((with_reducible refine' CE.pure ?hc ?_);(case hc=>first|exact HK)));exact hk7q.run):A:=h ⟨k⟩
theorem bm4 (x:Sch) (hx:SchB x) (xs:List Int) (hxs:I64s xs) (bt:Nat) (k:Nat) (hk:k<x.kinds.length):∀ (d:Nat) (pos:Int),0<=pos/\pos+posB d<=10000000->ACall Tryz.prog 57 [ptr bt,schD x,iD k,iD d] [tkB bt xs pos] (fun r σ=>∃ c pos',(pos<=pos'/\pos'<=pos+posB d)/\c.size<=aK0 d/\c.All CndS/\r=cndD c/\σ=[tkB bt xs pos']):=by
  intro d
  induction d using Nat.strongRecOn with
  | _ d IH=>
  intro pos hp
  have hnk:=hx.nk
  have hpd:=cb6 d
  have hpg:=bz6 d
  have hsd:=bK0 d
  refine eC7 Tryz.func57 Tryz.ntmps57 fun BB=>?_
  repeat' first|refine sk113 ?_|(intro b;conv=>whnf)
  refine Bx.l ?_
  repeat' first|refine sk113 ?_|(intro b;conv=>whnf)
  refine cu3 (out:=[iD 0,iD 1,iD 2,iD 2,iD 1,iD 3,iD 4,iD 5]) (L:=[[iD 0],[iD 1],[iD 2],[iD 2],[iD 1],[iD 3],[iD 4],[iD 5]]) rfl rfl rfl rfl (by kernel_rfl) (by kernel_rfl) rfl rfl ?_
  repeat' first|refine sk114 ?_|(intro b;conv=>whnf)
  have hq:=ac6 xs pos 8
  have hq2:=hq.2 (by omega)
  obtain⟨b8,rfl⟩:∃ c,c=b:=⟨_,rfl⟩
  (refine CE.own (aj6 xs hxs bt _ _ ⟨by omega,by omega⟩) (show List.Perm (_::tkB bt xs _::_) ([tkB bt xs _]++(_::_)) from List.Perm.swap _ _ _) (fun s'=>s'++(_::_)) (fun s'=>List.Perm.refl _) ?_;(rintro _ _ ⟨rfl,rfl⟩))
  generalize atE xs pos 8=j at *
  obtain⟨o,hom,hoi⟩:∃ o∈opsC,(opsC.map fun z=>[iD z])[j.toNat]?=some [iD o]:=bN2 opsC ⟨by omega,by simp only [opsC,List.length_cons,List.length_nil];omega⟩
  have ho:0<=o/\o<=5:=by
   simp only [opsC,List.mem_cons,List.not_mem_nil,or_false] at hom;omega
  repeat' first|refine sk114 ?_|(intro b;conv=>whnf)
  refine Ix.at hoi (by omega) ?_
  by_cases hB:o=0\/(3<=o/\2<=d)
  ·by_cases hd2:d<2
   all_goals
    repeat' first|refine sk114 ?_|(intro b;conv=>whnf)
    have hod:o=0\/(3<=o/\2<=d):=by omega
    have HK:=aU3 o
    obtain⟨nk,hnk2,hnk3,hnk4⟩:∃ nk:Nat,aC3 o=nk/\nk<=2/\(1<=nk->2<=d):=by
     unfold aC3
     by_cases h3:o=3
     ·exact⟨1,by rw [if_pos h3];rfl,by omega,fun _=>by omega⟩
     ·by_cases h4:o=4\/o=5
      ·exact⟨2,by rw [if_neg h3,if_pos h4];rfl,by omega,fun _=>by omega⟩
      ·exact⟨0,by rw [if_neg h3,if_neg h4];rfl,by omega,fun h=>by omega⟩
    rw [hnk2] at HK
    clear hom hoi
    refine aa5 mixed aa0 (γ:=Nat × Int × List Cnd × Value × aa1) (fun g=>[(11,iD g.1)]) (fun g=>tkB bt xs g.2.1::(b,.cells 57 [iD o,.v g.2.2.2.1,.v (zv ZV.sl),.v (zv ZV.sl),.v (zv (ZV.int IntKind.i64))])::(b8,Blk.cells 57 zC)::g.2.2.2.2) (fun g=>g.1<=nk/\(pos+1<=g.2.1/\(g.1=0/\g.2.1<=pos+1\/g.1=1/\g.2.1<=pos+1+posB (d-1)\/g.1=2/\g.2.1<=pos+1+2*posB (d-1)))/\g.2.2.1.length=g.1/\(∀ c∈g.2.2.1,c.size<=aK0 (d-1)/\c.All CndS)/\RowIs 57 5 (g.2.2.1.map cndC) g.2.2.2.1 g.2.2.2.2) (fun g=>nk-g.1) (0,pos+1,[],.slice none 0 0,[]) (aa2 cl3) (Sc.perm (List.Perm.swap _ _ _)) ⟨Nat.zero_le _,⟨by simp only;omega,.inl ⟨rfl,by simp only;omega⟩⟩,rfl,(fun c hc=>by cases hc),RowIs.nil _ _⟩ ?_
    rintro⟨i,ps,kids,v,s⟩ ⟨hi,hps,hkl,hkd,hrow⟩
    simp only at hi hps hkl hkd hrow ⊢
    by_cases hil:i<nk
    ·have hd3:=hnk4 (by omega)
     have e1:=ba4 (d:=d) (by omega)
     have e2:=aP8 (d:=d) (by omega)
     have HI:=IH (d-1) (by omega) ps ⟨by omega,by omega⟩
     rw [show ((d-1:Nat):Int)=(d:Int)-1 by omega] at HI
     repeat' first|refine sk114 ?_|(intro b;conv=>whnf)
     refine dr7 ?_
     refine ah2 mixed aa0 rfl [0,2,3,4,5,6] 6 (inE [1,7,9,11]) (.two 1 (.one 7 (.fst 8 (.one 9 (.fst 10 (.one 11 .done))))) 7 (.fst 8 (.one 1 (.one 9 (.fst 10 (.one 11 .done)))))) (γ:=Int × Cnd × Value × aa1) (fun _=>[]) (fun g=>tkB bt xs g.1::(b,.cells 57 [iD o,.v g.2.2.1,.v (zv ZV.sl),.v (zv ZV.sl),.v (zv (ZV.int IntKind.i64))])::(b8,Blk.cells 57 zC)::g.2.2.2) (fun g=>(ps<=g.1/\g.1<=ps+posB (d-1))/\g.2.1.size<=aK0 (d-1)/\g.2.1.All CndS/\RowIs 57 5 ((kids++[g.2.1]).map cndC) g.2.2.1 g.2.2.2) (by decide +kernel) ?_ ?_
     ·repeat' first|refine sk114 ?_|(intro b;conv=>whnf)|(refine And.intro ?_ ?_<;>(conv=>whnf))|(refine CE.own HI (List.Perm.refl ([tkB bt xs _]++_)) (fun s'=>s'++_) (fun s'=>List.Perm.refl _) ?_;(rintro _ _ ⟨c,p1,⟨hp1,hp1'⟩,hcs,hca,rfl,rfl⟩))|(refine Ap.go rfl rfl rfl rfl hrow (τ:=[tkB bt xs p1,(b,Blk.cells 57 [iD o,.v v,.v (zv ZV.sl),.v (zv ZV.sl),.v (zv (ZV.int IntKind.i64))]),(b8,Blk.cells 57 zC)]) cl4 rfl (zs:=(kids++[c]).map cndC) (by rw [List.map_append];rfl) (by simp;omega) (by simp;omega) (fun s'=>tkB bt xs p1::(b,Blk.cells 57 [iD o,.v v,.v (zv ZV.sl),.v (zv ZV.sl),.v (zv (ZV.int IntKind.i64))])::(b8,Blk.cells 57 zC)::s') (fun s'=>by refine ad8 fun a=>?_;simp only [List.append_eq,List.nil_append,ad9,ah8,ah7];omega) (fun a2 c2 s2 hr2=>?_))
      all_goals exact⟨(p1,c,_,s2),(aa2 cl3),Sc.refl _,⟨hp1,hp1'⟩,hcs,hca,hr2⟩
     ·rintro⟨p1,c,v2,s2⟩ ⟨hp1,hcs,hca,hr2⟩
      simp only at hp1 hcs hca hr2 ⊢
      repeat' first|refine sk114 ?_|(intro b;conv=>whnf)
      exact⟨(i+1,p1,kids++[c],v2,s2),(aa2 cl6),Sc.refl _,⟨by simp only;omega,⟨by simp only;omega,by simp only;omega⟩,by simp only [List.length_append,List.length_singleton];omega,(fun z hz=>(List.mem_append.1 hz).elim (hkd z) (fun h=>by rw [List.mem_singleton] at h;subst h;exact⟨hcs,hca⟩)),hr2⟩,by simp only;omega⟩
    ·obtain rfl:i=nk:=by omega
     obtain⟨va,vc,hve⟩:=hrow.slice
     repeat' first|refine sk114 ?_|(intro b;conv=>whnf)
     refine Sv.at 2 (tb:=57) (cs:=zC) (σ':=tkB bt xs ps::(b,Blk.cells 57 [iD o,.v v,.v (zv ZV.sl),.v (zv ZV.sl),.v (zv (ZV.int IntKind.i64))])::(b8,Blk.cells 57 [iD o,.v v,.v (zv ZV.sl),.v (zv ZV.sl),.v (zv (ZV.int IntKind.i64))])::s) rfl rfl rfl (by rw [hve];rfl) rfl ?_
     repeat' first|refine sk114 ?_|(intro b;conv=>whnf)
     refine Rs.c aa0 (m:=2) rfl rfl rfl rfl rfl rfl ?_
     repeat' first|refine sk114 ?_|(intro b;conv=>whnf)
     have hs:∀ z,z∈aa9 [tkB bt xs ps]->z∈aa9 (tkB bt xs ps::(b,Blk.cells 57 [iD o,.v v,.v (zv ZV.sl),.v (zv ZV.sl),.v (zv (ZV.int IntKind.i64))])::(b8,Blk.cells 57 [iD o,.v v,.v (zv ZV.sl),.v (zv ZV.sl),.v (zv (ZV.int IntKind.i64))])::s):=fun z h=>by simp [aa9] at h ⊢;exact .inl h
     have e0:1<=i->posB d=20+2*posB (d-1):=fun h=>ba4 (by have:=hnk4 h;omega)
     have e2:1<=i->aK0 d=1+2*aK0 (d-1):=fun h=>aP8 (by have:=hnk4 h;omega)
     have hka:∀ z∈kids,z.All CndS:=fun z hz=>(hkd z hz).2
     rcases kids with _|⟨c1,_|⟨c2,_|⟨c3,l⟩⟩⟩
     ·simp only [List.length_nil] at hkl
      exact Rt.by (σ':=[tkB bt xs ps]) (d':=cndD (.c0 o [] [] 0)) (Vs.vd ⟨(b,Blk.cells 57 [iD o,.v v,.v (zv ZV.sl),.v (zv ZV.sl),.v (zv (ZV.int IntKind.i64))])::(b8,Blk.cells 57 [iD o,.v v,.v (zv ZV.sl),.v (zv ZV.sl),.v (zv (ZV.int IntKind.i64))])::s,by refine ad8 fun a=>?_;simp only [List.append_eq,List.nil_append,ad9,ah8,ah7];omega⟩ (Vd.agg (.cons (Vd.same hs _) (.cons (Vd.row (ρ:=[tkB bt xs ps,(b,Blk.cells 57 [iD o,.v v,.v (zv ZV.sl),.v (zv ZV.sl),.v (zv (ZV.int IntKind.i64))]),(b8,Blk.cells 57 [iD o,.v v,.v (zv ZV.sl),.v (zv ZV.sl),.v (zv (ZV.int IntKind.i64))])]) hrow cl4 (fun z h=>by simp [aa9] at h ⊢;exact .inl h)) (.cons (Vd.nil 1) (.cons (Vd.nil 1) (.cons (Vd.same hs _) .nil))))))) ⟨(.c0 o [] [] 0),_,⟨by omega,by omega⟩,by simp only [Cnd.size];omega,.mk ⟨⟨by simp only [Cnd.op];omega,by simp only [Cnd.op];omega⟩,by simp [Cnd.path],by simp [Cnd.other]⟩ (fun z hz=>hka z hz),rfl,rfl⟩
     ·simp only [List.length_cons,List.length_nil] at hkl
      have h1:=(hkd c1 (by simp)).1
      have e0:=e0 (by omega)
      have e2:=e2 (by omega)
      exact Rt.by (σ':=[tkB bt xs ps]) (d':=cndD (.c1 o [] [] 0 c1)) (Vs.vd ⟨(b,Blk.cells 57 [iD o,.v v,.v (zv ZV.sl),.v (zv ZV.sl),.v (zv (ZV.int IntKind.i64))])::(b8,Blk.cells 57 [iD o,.v v,.v (zv ZV.sl),.v (zv ZV.sl),.v (zv (ZV.int IntKind.i64))])::s,by refine ad8 fun a=>?_;simp only [List.append_eq,List.nil_append,ad9,ah8,ah7];omega⟩ (Vd.agg (.cons (Vd.same hs _) (.cons (Vd.row (ρ:=[tkB bt xs ps,(b,Blk.cells 57 [iD o,.v v,.v (zv ZV.sl),.v (zv ZV.sl),.v (zv (ZV.int IntKind.i64))]),(b8,Blk.cells 57 [iD o,.v v,.v (zv ZV.sl),.v (zv ZV.sl),.v (zv (ZV.int IntKind.i64))])]) hrow cl4 (fun z h=>by simp [aa9] at h ⊢;exact .inl h)) (.cons (Vd.nil 1) (.cons (Vd.nil 1) (.cons (Vd.same hs _) .nil))))))) ⟨(.c1 o [] [] 0 c1),_,⟨by omega,by omega⟩,by simp only [Cnd.size];omega,.mk ⟨⟨by simp only [Cnd.op];omega,by simp only [Cnd.op];omega⟩,by simp [Cnd.path],by simp [Cnd.other]⟩ (fun z hz=>hka z hz),rfl,rfl⟩
     ·simp only [List.length_cons,List.length_nil] at hkl
      have h1:=(hkd c1 (by simp)).1
      have h2:=(hkd c2 (by simp)).1
      have e0:=e0 (by omega)
      have e2:=e2 (by omega)
      exact Rt.by (σ':=[tkB bt xs ps]) (d':=cndD (.c2 o [] [] 0 c1 c2)) (Vs.vd ⟨(b,Blk.cells 57 [iD o,.v v,.v (zv ZV.sl),.v (zv ZV.sl),.v (zv (ZV.int IntKind.i64))])::(b8,Blk.cells 57 [iD o,.v v,.v (zv ZV.sl),.v (zv ZV.sl),.v (zv (ZV.int IntKind.i64))])::s,by refine ad8 fun a=>?_;simp only [List.append_eq,List.nil_append,ad9,ah8,ah7];omega⟩ (Vd.agg (.cons (Vd.same hs _) (.cons (Vd.row (ρ:=[tkB bt xs ps,(b,Blk.cells 57 [iD o,.v v,.v (zv ZV.sl),.v (zv ZV.sl),.v (zv (ZV.int IntKind.i64))]),(b8,Blk.cells 57 [iD o,.v v,.v (zv ZV.sl),.v (zv ZV.sl),.v (zv (ZV.int IntKind.i64))])]) hrow cl4 (fun z h=>by simp [aa9] at h ⊢;exact .inl h)) (.cons (Vd.nil 1) (.cons (Vd.nil 1) (.cons (Vd.same hs _) .nil))))))) ⟨(.c2 o [] [] 0 c1 c2),_,⟨by omega,by omega⟩,by simp only [Cnd.size];omega,.mk ⟨⟨by simp only [Cnd.op];omega,by simp only [Cnd.op];omega⟩,by simp [Cnd.path],by simp [Cnd.other]⟩ (fun z hz=>hka z hz),rfl,rfl⟩
     ·simp only [List.length_cons] at hkl
      omega
  ·by_cases h12:o=1\/o=2
   ·have h13:=h12
    rcases h12 with ho3|ho3
    all_goals
     by_cases hd2:d<2
     all_goals
      repeat' first|refine sk114 ?_|(intro b;conv=>whnf)
      have HK:=aU3 o
      rw [show aC3 o=0 from by unfold aC3;rw [if_neg (by omega),if_neg (by omega)]] at HK
      (refine CE.own (aB0 x hx xs hxs bt k hk _ ⟨by omega,by omega⟩) (show List.Perm (_::tkB bt xs _::_) ([tkB bt xs _]++(_::_)) from List.Perm.swap _ _ _) (fun s'=>s'++(_::_)) (fun s'=>List.Perm.refl _) ?_;(rintro _ _ ⟨p,p1,⟨hp1,hp1'⟩,hpl,rfl,rfl⟩))
      repeat' first|refine sk114 ?_|(intro b;conv=>whnf)
      (refine CE.own (aj6 xs hxs bt _ _ ⟨by omega,by omega⟩) (List.Perm.refl ([tkB bt xs _]++_)) (fun s'=>s'++_) (fun s'=>List.Perm.refl _) ?_;(rintro _ _ ⟨rfl,rfl⟩))
      have h3:=ac6 xs p1 3
      by_cases hz:atE xs p1 3=0
      ·repeat' first|refine sk114 ?_|(intro b;conv=>whnf)
       (refine CE.own (aB0 x hx xs hxs bt k hk _ ⟨by omega,by omega⟩) (List.Perm.refl ([tkB bt xs _]++_)) (fun s'=>s'++_) (fun s'=>List.Perm.refl _) ?_;(rintro _ _ ⟨p',p2,⟨hp2,hp2'⟩,hpl',rfl,rfl⟩))
       repeat' first|refine sk114 ?_|(intro b;conv=>whnf)
       (refine CE.own (aj6 xs hxs bt _ _ ⟨by omega,by omega⟩) (List.Perm.refl ([tkB bt xs _]++_)) (fun s'=>s'++_) (fun s'=>List.Perm.refl _) ?_;(rintro _ _ ⟨rfl,rfl⟩))
       have h12:=ac6 xs p2 12
       have h12':=h12.2 (by omega)
       generalize atE xs p2 12=nn at *
       repeat' first|refine sk114 ?_|(intro b;conv=>whnf)
       refine aa5 mixed aa0 (γ:=Unit) (fun _=>[(11,iD 0)]) (fun _=>[tkB bt xs (p2+1),(b,.cells 57 [iD o,.v (zv ZV.sl),slS p,slS p',iD (nn-2)]),(b8,.cells 57 zC)]) (fun _=>True) (fun _=>0) () (aa2 cl3) (Sc.refl _) trivial ?_
       rintro - -
       repeat' first|refine sk114 ?_|(intro b;conv=>whnf)
       refine Rs.c aa0 (m:=2) rfl rfl rfl rfl rfl rfl ?_
       repeat' first|refine sk114 ?_|(intro b;conv=>whnf)
       have hs:∀ z,z∈aa9 [tkB bt xs (p2+1)]->z∈aa9 [tkB bt xs (p2+1),(b,.cells 57 [iD o,.v (zv ZV.sl),slS p,slS p',iD (nn-2)]),(b8,.cells 57 [iD o,.v (zv ZV.sl),slS p,slS p',iD (nn-2)])]:=fun z h=>by simp [aa9] at h ⊢;exact .inl h
       exact Rt.by (σ':=[tkB bt xs (p2+1)]) (d':=cndD (.c0 o p p' (nn-2))) (Vs.vd ⟨[(b,.cells 57 [iD o,.v (zv ZV.sl),slS p,slS p',iD (nn-2)]),(b8,.cells 57 [iD o,.v (zv ZV.sl),slS p,slS p',iD (nn-2)])],List.perm_append_comm (l₁:=[tkB bt xs (p2+1)])⟩ (Vd.agg (.cons (Vd.same hs _) (.cons (Vd.nil 5) (.cons (Vd.same hs _) (.cons (SlOf.vd (.inl rfl) hs) (.cons (Vd.same hs _) .nil))))))) ⟨.c0 o p p' (nn-2),_,⟨by omega,by omega⟩,by simp only [Cnd.size];omega,.mk ⟨⟨by simp only [Cnd.op];omega,by simp only [Cnd.op];omega⟩,by simp only [Cnd.path];omega,by simp only [Cnd.other,List.length_nil];omega⟩ (fun a ha=>by cases ha),rfl,rfl⟩
      ·repeat' first|refine sk114 ?_|(intro b;conv=>whnf)
       (refine CE.own (aj6 xs hxs bt _ _ ⟨by omega,by omega⟩) (List.Perm.refl ([tkB bt xs _]++_)) (fun s'=>s'++_) (fun s'=>List.Perm.refl _) ?_;(rintro _ _ ⟨rfl,rfl⟩))
       have h12:=ac6 xs (p1+1) 12
       have h12':=h12.2 (by omega)
       generalize atE xs (p1+1) 12=nn at *
       repeat' first|refine sk114 ?_|(intro b;conv=>whnf)
       refine aa5 mixed aa0 (γ:=Unit) (fun _=>[(11,iD 0)]) (fun _=>[tkB bt xs ((p1+1)+1),(b,.cells 57 [iD o,.v (zv ZV.sl),slS p,.v (zv ZV.sl),iD (nn-2)]),(b8,.cells 57 zC)]) (fun _=>True) (fun _=>0) () (aa2 cl3) (Sc.refl _) trivial ?_
       rintro - -
       repeat' first|refine sk114 ?_|(intro b;conv=>whnf)
       refine Rs.c aa0 (m:=2) rfl rfl rfl rfl rfl rfl ?_
       repeat' first|refine sk114 ?_|(intro b;conv=>whnf)
       have hs:∀ z,z∈aa9 [tkB bt xs ((p1+1)+1)]->z∈aa9 [tkB bt xs ((p1+1)+1),(b,.cells 57 [iD o,.v (zv ZV.sl),slS p,.v (zv ZV.sl),iD (nn-2)]),(b8,.cells 57 [iD o,.v (zv ZV.sl),slS p,.v (zv ZV.sl),iD (nn-2)])]:=fun z h=>by simp [aa9] at h ⊢;exact .inl h
       exact Rt.by (σ':=[tkB bt xs ((p1+1)+1)]) (d':=cndD (.c0 o p [] (nn-2))) (Vs.vd ⟨[(b,.cells 57 [iD o,.v (zv ZV.sl),slS p,.v (zv ZV.sl),iD (nn-2)]),(b8,.cells 57 [iD o,.v (zv ZV.sl),slS p,.v (zv ZV.sl),iD (nn-2)])],List.perm_append_comm (l₁:=[tkB bt xs ((p1+1)+1)])⟩ (Vd.agg (.cons (Vd.same hs _) (.cons (Vd.nil 5) (.cons (Vd.same hs _) (.cons (SlOf.vd (.inr ⟨rfl,rfl⟩) hs) (.cons (Vd.same hs _) .nil))))))) ⟨.c0 o p [] (nn-2),_,⟨by omega,by omega⟩,by simp only [Cnd.size];omega,.mk ⟨⟨by simp only [Cnd.op];omega,by simp only [Cnd.op];omega⟩,by simp only [Cnd.path];omega,by simp only [Cnd.other,List.length_nil];omega⟩ (fun a ha=>by cases ha),rfl,rfl⟩
   ·have ho3:3<=o:=by omega
    have hd2:d<2:=by omega
    clear hom hoi
    repeat' first|refine sk114 ?_|(intro b;conv=>whnf)
    refine Br.dt trivial ?_
    repeat' first|refine sk114 ?_|(intro b;conv=>whnf)
    have HK:=aU3 (2:Int)
    rw [show aC3 (2:Int)=0 from by unfold aC3;rw [if_neg (by omega),if_neg (by omega)]] at HK
    (refine CE.own (aB0 x hx xs hxs bt k hk _ ⟨by omega,by omega⟩) (show List.Perm (_::tkB bt xs _::_) ([tkB bt xs _]++(_::_)) from List.Perm.swap _ _ _) (fun s'=>s'++(_::_)) (fun s'=>List.Perm.refl _) ?_;(rintro _ _ ⟨p,p1,⟨hp1,hp1'⟩,hpl,rfl,rfl⟩))
    repeat' first|refine sk114 ?_|(intro b;conv=>whnf)
    (refine CE.own (aj6 xs hxs bt _ _ ⟨by omega,by omega⟩) (List.Perm.refl ([tkB bt xs _]++_)) (fun s'=>s'++_) (fun s'=>List.Perm.refl _) ?_;(rintro _ _ ⟨rfl,rfl⟩))
    have h3:=ac6 xs p1 3
    by_cases hz:atE xs p1 3=0
    ·repeat' first|refine sk114 ?_|(intro b;conv=>whnf)
     (refine CE.own (aB0 x hx xs hxs bt k hk _ ⟨by omega,by omega⟩) (List.Perm.refl ([tkB bt xs _]++_)) (fun s'=>s'++_) (fun s'=>List.Perm.refl _) ?_;(rintro _ _ ⟨p',p2,⟨hp2,hp2'⟩,hpl',rfl,rfl⟩))
     repeat' first|refine sk114 ?_|(intro b;conv=>whnf)
     (refine CE.own (aj6 xs hxs bt _ _ ⟨by omega,by omega⟩) (List.Perm.refl ([tkB bt xs _]++_)) (fun s'=>s'++_) (fun s'=>List.Perm.refl _) ?_;(rintro _ _ ⟨rfl,rfl⟩))
     have h12:=ac6 xs p2 12
     have h12':=h12.2 (by omega)
     generalize atE xs p2 12=nn at *
     repeat' first|refine sk114 ?_|(intro b;conv=>whnf)
     refine aa5 mixed aa0 (γ:=Unit) (fun _=>[(11,iD 0)]) (fun _=>[tkB bt xs (p2+1),(b,.cells 57 [iD (2:Int),.v (zv ZV.sl),slS p,slS p',iD (nn-2)]),(b8,.cells 57 zC)]) (fun _=>True) (fun _=>0) () (aa2 cl3) (Sc.refl _) trivial ?_
     rintro - -
     repeat' first|refine sk114 ?_|(intro b;conv=>whnf)
     refine Rs.c aa0 (m:=2) rfl rfl rfl rfl rfl rfl ?_
     repeat' first|refine sk114 ?_|(intro b;conv=>whnf)
     have hs:∀ z,z∈aa9 [tkB bt xs (p2+1)]->z∈aa9 [tkB bt xs (p2+1),(b,.cells 57 [iD (2:Int),.v (zv ZV.sl),slS p,slS p',iD (nn-2)]),(b8,.cells 57 [iD (2:Int),.v (zv ZV.sl),slS p,slS p',iD (nn-2)])]:=fun z h=>by simp [aa9] at h ⊢;exact .inl h
     exact Rt.by (σ':=[tkB bt xs (p2+1)]) (d':=cndD (.c0 (2:Int) p p' (nn-2))) (Vs.vd ⟨[(b,.cells 57 [iD (2:Int),.v (zv ZV.sl),slS p,slS p',iD (nn-2)]),(b8,.cells 57 [iD (2:Int),.v (zv ZV.sl),slS p,slS p',iD (nn-2)])],List.perm_append_comm (l₁:=[tkB bt xs (p2+1)])⟩ (Vd.agg (.cons (Vd.same hs _) (.cons (Vd.nil 5) (.cons (Vd.same hs _) (.cons (SlOf.vd (.inl rfl) hs) (.cons (Vd.same hs _) .nil))))))) ⟨.c0 (2:Int) p p' (nn-2),_,⟨by omega,by omega⟩,by simp only [Cnd.size];omega,.mk ⟨⟨by simp only [Cnd.op];omega,by simp only [Cnd.op];omega⟩,by simp only [Cnd.path];omega,by simp only [Cnd.other,List.length_nil];omega⟩ (fun a ha=>by cases ha),rfl,rfl⟩
    ·repeat' first|refine sk114 ?_|(intro b;conv=>whnf)
     (refine CE.own (aj6 xs hxs bt _ _ ⟨by omega,by omega⟩) (List.Perm.refl ([tkB bt xs _]++_)) (fun s'=>s'++_) (fun s'=>List.Perm.refl _) ?_;(rintro _ _ ⟨rfl,rfl⟩))
     have h12:=ac6 xs (p1+1) 12
     have h12':=h12.2 (by omega)
     generalize atE xs (p1+1) 12=nn at *
     repeat' first|refine sk114 ?_|(intro b;conv=>whnf)
     refine aa5 mixed aa0 (γ:=Unit) (fun _=>[(11,iD 0)]) (fun _=>[tkB bt xs ((p1+1)+1),(b,.cells 57 [iD (2:Int),.v (zv ZV.sl),slS p,.v (zv ZV.sl),iD (nn-2)]),(b8,.cells 57 zC)]) (fun _=>True) (fun _=>0) () (aa2 cl3) (Sc.refl _) trivial ?_
     rintro - -
     repeat' first|refine sk114 ?_|(intro b;conv=>whnf)
     refine Rs.c aa0 (m:=2) rfl rfl rfl rfl rfl rfl ?_
     repeat' first|refine sk114 ?_|(intro b;conv=>whnf)
     have hs:∀ z,z∈aa9 [tkB bt xs ((p1+1)+1)]->z∈aa9 [tkB bt xs ((p1+1)+1),(b,.cells 57 [iD (2:Int),.v (zv ZV.sl),slS p,.v (zv ZV.sl),iD (nn-2)]),(b8,.cells 57 [iD (2:Int),.v (zv ZV.sl),slS p,.v (zv ZV.sl),iD (nn-2)])]:=fun z h=>by simp [aa9] at h ⊢;exact .inl h
     exact Rt.by (σ':=[tkB bt xs ((p1+1)+1)]) (d':=cndD (.c0 (2:Int) p [] (nn-2))) (Vs.vd ⟨[(b,.cells 57 [iD (2:Int),.v (zv ZV.sl),slS p,.v (zv ZV.sl),iD (nn-2)]),(b8,.cells 57 [iD (2:Int),.v (zv ZV.sl),slS p,.v (zv ZV.sl),iD (nn-2)])],List.perm_append_comm (l₁:=[tkB bt xs ((p1+1)+1)])⟩ (Vd.agg (.cons (Vd.same hs _) (.cons (Vd.nil 5) (.cons (Vd.same hs _) (.cons (SlOf.vd (.inr ⟨rfl,rfl⟩) hs) (.cons (Vd.same hs _) .nil))))))) ⟨.c0 (2:Int) p [] (nn-2),_,⟨by omega,by omega⟩,by simp only [Cnd.size];omega,.mk ⟨⟨by simp only [Cnd.op];omega,by simp only [Cnd.op];omega⟩,by simp only [Cnd.path];omega,by simp only [Cnd.other,List.length_nil];omega⟩ (fun a ha=>by cases ha),rfl,rfl⟩
end
section
open Go
structure QryS (q:Qry):Prop where
 size:q.cond.size<=1000
 path:q.path.length<=4
 all:q.cond.All CndS
theorem sk115 {A B:Prop} (k:B) (h:Hd7 B->A:=by intro hk7q;(first|refine sb0 ?_|refine sb112 ?_|((with_reducible refine' Cp.by ?hc ?_);(case hc=>fail))|((with_reducible refine' CE.pure ?hc ?_);(case hc=>fail)));exact hk7q.run):A:=h ⟨k⟩
theorem bL1 (x:Sch) (hx:SchB x) (hk0:1<=x.kinds.length) (xs:List Int) (hxs:I64s xs):ASome Tryz.prog 22 [schD x,slI xs] (fun r=>∃ q,r=qryD q/\QryS q):=by
 have hnk:=hx.nk
 refine ASome.of_call ?_
 refine eC7 Tryz.func22 Tryz.ntmps22 fun BB=>?_
 repeat' first|refine sk115 ?_|(intro b;conv=>whnf)
 refine Bx.l ?_
 repeat' first|refine sk115 ?_|(intro b;conv=>whnf)
 refine Bx.r (OtE.box rfl rfl (fun bt=>?_))
 repeat' first|refine sk115 ?_|(intro b;conv=>whnf)
 have hml:(x.kinds.map kndC).length=x.kinds.length:=List.length_map ..
 obtain⟨b4,rfl⟩:∃ c,c=b:=⟨_,rfl⟩
 (refine CE.own (aj6 xs hxs bt _ _ ⟨by omega,by omega⟩) (List.Perm.refl ([tkB bt xs _]++_)) (fun s'=>s'++_) (fun s'=>List.Perm.refl _) ?_;(rintro _ _ ⟨rfl,rfl⟩))
 have hq:=ac6 xs 0 (x.kinds.map kndC).length
 have hq2:=hq.2 (by omega)
 obtain⟨k,hk⟩:∃ k:Nat,atE xs 0 (x.kinds.map kndC).length=k:=⟨(atE xs 0 (x.kinds.map kndC).length).toNat,by omega⟩
 rw [hk] at hq2
 have hk1:k<x.kinds.length:=by omega
 rw [hk]
 clear hq hk
 obtain⟨kd,hkd⟩:∃ kd,x.kinds[k]?=some kd:=⟨_,List.getElem?_eq_getElem hk1⟩
 have hkd':x.kinds[((k:Nat):Int).toNat]?=some kd:=hkd
 repeat' first|refine sk76 ?_|(intro b;conv=>whnf)
 have h4:=ac6 xs (0+1) 4
 have h4':=h4.2 (by omega)
 refine dr7 ?_
 refine ah2 mixed aa0 rfl [0,2,3,4,5,6,7] 4 (inE [1,9,10]) (.two 1 (.fst 8 (.one 9 (.one 10 .done))) 9 (.one 1 (.fst 8 (.one 10 .done)))) (γ:=Nat) (fun b=>[(7,.v (.pointer (some ⟨b,0,none⟩)))]) (fun b=>(b,.cells 59 [iD (atE xs (0+1) 4),sD kd.name,.v (zv ZV.sl),.v (zv (ZV.int IntKind.i64)),.v (zv ZV.sl),.v (zv ZV.sl),.v (zv ZV.sl),.v (zv (ZV.int IntKind.i64))])::tkB bt xs (0+1+1)::[(b4,.cells 59 [.v (zv (ZV.int IntKind.i64)),.v (zv ZV.str),.v (zv ZV.sl),.v (zv (ZV.int IntKind.i64)),.v (zv ZV.sl),.v (zv ZV.sl),.v (zv ZV.sl),.v (zv (ZV.int IntKind.i64))])]) (fun _=>True) (by decide +kernel) ?_ ?_
 ·repeat' first|refine sk76 ?_|(intro b;conv=>whnf)|(refine And.intro ?_ ?_<;>(conv=>whnf))|(refine CE.own (aj6 xs hxs bt _ _ ⟨by omega,by omega⟩) (List.Perm.refl ([tkB bt xs _]++_)) (fun s'=>s'++_) (fun s'=>List.Perm.refl _) ?_;(rintro _ _ ⟨rfl,rfl⟩))|(refine CE.own (aj6 xs hxs bt _ _ ⟨by omega,by omega⟩) (show List.Perm (_::tkB bt xs _::_) ([tkB bt xs _]++(_::_)) from List.Perm.swap _ _ _) (fun s'=>s'++(_::_)) (fun s'=>List.Perm.refl _) ?_;(rintro _ _ ⟨rfl,rfl⟩))
  all_goals exact⟨b,(aa2 cl3),(by first|exact Sc.refl _|exact Sc.perm (List.Perm.swap _ _ _)),trivial⟩
 ·rintro b -
  have hpB:posB 3=300:=rfl
  have hs0:∀ {σ:aa1} (z:Nat),z∈aa9 ([]:aa1)->z∈aa9 σ:=fun z h=>by cases h
  have hsB:aK0 3=15:=rfl
  generalize atE xs (0+1) 4=op at *
  by_cases ho:op=0
  ·repeat' first|refine sk76 ?_|(intro b;conv=>whnf)
   (refine CE.own (bm4 x hx xs hxs bt k hk1 3 _ ⟨by omega,by omega⟩) (show List.Perm (_::tkB bt xs _::_) ([tkB bt xs _]++(_::_)) from List.Perm.swap _ _ _) (fun s'=>s'++(_::_)) (fun s'=>List.Perm.refl _) ?_;(rintro _ _ ⟨c,p1,⟨hp1,hp1'⟩,hcs,hca,rfl,rfl⟩))
   repeat' first|refine sk76 ?_|(intro b;conv=>whnf)
   refine Rs.c aa0 (m:=2) rfl rfl rfl rfl rfl rfl ?_
   repeat' first|refine sk76 ?_|(intro b;conv=>whnf)
   refine Rt.by (σ':=[]) (d':=qryD ⟨op,kd.name,[],c⟩) (Vs.vd (τ:=[]) ⟨_,List.Perm.of_eq (List.append_nil _).symm⟩ (Vd.agg (.cons (Vd.same hs0 _) (.cons (Vd.same hs0 _) (.cons (SlOf.vd (by first|exact .inr ⟨rfl,rfl⟩|exact .inl rfl) hs0) (.cons (Vd.same hs0 _) (.cons (Vd.same hs0 _) (.cons (Vd.same hs0 _) (.cons (Vd.same hs0 _) (.cons (Vd.same hs0 _) .nil)))))))))) ⟨_,rfl,⟨by simp only;omega,by simp only [List.length_nil];omega,hca⟩⟩
  ·repeat' first|refine sk76 ?_|(intro b;conv=>whnf)
   refine CE.own (aB0 x hx xs hxs bt k hk1 _ ⟨by omega,by omega⟩) (show List.Perm (_::tkB bt xs _::_) ([tkB bt xs _]++(_::_)) from List.Perm.swap _ _ _) (fun s'=>s'++(_::_)) (fun s'=>List.Perm.refl _) ?_
   rintro _ _ ⟨p,p0,⟨hp0,hp0'⟩,hpl,rfl,rfl⟩
   repeat' first|refine sk76 ?_|(intro b;conv=>whnf)
   (refine CE.own (bm4 x hx xs hxs bt k hk1 3 _ ⟨by omega,by omega⟩) (List.Perm.refl ([tkB bt xs _]++_)) (fun s'=>s'++_) (fun s'=>List.Perm.refl _) ?_;(rintro _ _ ⟨c,p1,⟨hp1,hp1'⟩,hcs,hca,rfl,rfl⟩))
   repeat' first|refine sk76 ?_|(intro b;conv=>whnf)
   refine Rs.c aa0 (m:=2) rfl rfl rfl rfl rfl rfl ?_
   repeat' first|refine sk76 ?_|(intro b;conv=>whnf)
   refine Rt.by (σ':=[]) (d':=qryD ⟨op,kd.name,p,c⟩) (Vs.vd (τ:=[]) ⟨_,List.Perm.of_eq (List.append_nil _).symm⟩ (Vd.agg (.cons (Vd.same hs0 _) (.cons (Vd.same hs0 _) (.cons (SlOf.vd (by first|exact .inr ⟨rfl,rfl⟩|exact .inl rfl) hs0) (.cons (Vd.same hs0 _) (.cons (Vd.same hs0 _) (.cons (Vd.same hs0 _) (.cons (Vd.same hs0 _) (.cons (Vd.same hs0 _) .nil)))))))))) ⟨_,rfl,⟨by simp only;omega,by simp only [List.length_nil];omega,hca⟩⟩
end
section
open Go
structure CF (f:Fld):Prop where
 nm:f.name.size<=12
 of:f.of.size<=12
 up:f.up.size<=12
 nw:f.words.length<=3
 wd:∀ s∈f.words,s.size<=12
 ng:f.weights.length<=3
 wt:∀ n∈f.weights,-1000<=n/\n<=1000
 kd:0<=f.kind/\f.kind<=8
 lo:-1000<=f.lo/\f.lo<=1000
 hi:-1000<=f.hi/\f.hi<=1000
structure CK (k:Knd):Prop where
 nm:1<=k.name.size/\k.name.size<=12
 lo:-1000<=k.lo/\k.lo<=1000
 hi:-1000<=k.hi/\k.hi<=1000
 nf:k.fields.length<=10
 fs:∀ f∈k.fields,CF f
structure CL (l:Lif):Prop where
 nm:l.name.size<=12
 ns:l.states.length<=4
 st:∀ s∈l.states,s.size<=12
 nv:l.moves.length<=5
 mv:∀ m∈l.moves,(-1000<=m.1/\m.1<=1000)/\(-1000<=m.2/\m.2<=1000)
structure CR (r:Rul):Prop where
 nm:r.name.size<=12
 kd:r.kind.size<=12
 a:r.a.size<=12
 b:r.b.size<=12
 n:-2000<=r.n/\r.n<=2000
structure Cls (x:Sch):Prop where
 ver:-1000<=x.version/\x.version<=1000
 nk:x.kinds.length<=3
 ks:∀ k∈x.kinds,CK k
 nl:x.lives.length<=1
 ls:∀ l∈x.lives,CL l
 nr:x.rules.length<=3
 rs:∀ r∈x.rules,CR r
theorem av0 {α:Type} {f:α->Nat} {c:Nat}:∀ {l:List α},(∀ x∈l,f x<=c)->sumB f l<=l.length*c
 | [],_=>by simp [sumB]
 | x::l,h=>by
  have h1:=h x (by simp)
  have h2:=av0 (l:=l) fun y hy=>h y (by simp [hy])
  simp only [sumB,List.map_cons,List.sum_cons,List.length_cons,Nat.succ_mul] at *
  omega
theorem at8 {n:Int} (h:-9999999<=n/\n<=9999999):intB n=8:=by unfold intB;rw [if_pos h]
theorem CF.bd {f:Fld} (h:CF f):an8 f<=200:=by
 have e1:=at8 (n:=f.lo) (by have:=h.lo;omega)
 have e2:=at8 (n:=f.hi) (by have:=h.hi;omega)
 have e3:=at8 (n:=f.words.length) (by have:=h.nw;omega)
 have s1:(f.words.map fun s=>1+s.size).sum<=f.words.length*13:=av0 (f:=fun s:ByteArray=>1+s.size) fun s hs=>by have:=h.wd s hs;omega
 have s2:(f.weights.map fun n=>1+intB n).sum<=f.weights.length*9:=av0 (f:=fun n=>1+intB n) fun n hn=>by have:=at8 (n:=n) (by have:=h.wt n hn;omega);omega
 have h1:=h.nm;have h2:=h.of;have h3:=h.up;have h4:=h.nw;have h5:=h.ng
 unfold an8
 omega
theorem CK.bd {k:Knd} (h:CK k):kndB k<=2100:=by
 have e1:=at8 (n:=k.lo) (by have:=h.lo;omega)
 have e2:=at8 (n:=k.hi) (by have:=h.hi;omega)
 have s1:=av0 (f:=an8) (c:=200) fun f hf=>(h.fs f hf).bd
 have h1:=h.nm;have h2:=h.nf
 unfold kndB
 omega
theorem CL.bd {l:Lif} (h:CL l):lifB l<=300:=by
 have e1:=at8 (n:=l.states.length) (by have:=h.ns;omega)
 have s1:=av0 (f:=fun s:ByteArray=>1+s.size) (c:=13) fun s hs=>by have:=h.st s hs;show 1+s.size<=13;omega
 have s2:=av0 (f:=movB) (c:=23) fun m hm=>by
  have:=h.mv m hm
  unfold movB
  rw [at8 (by omega),at8 (by omega)]
  omega
 have h1:=h.nm;have h2:=h.ns;have h3:=h.nv
 unfold lifB
 omega
theorem CR.bd {r:Rul} (h:CR r):rulB r<=100:=by
 have e1:=at8 (n:=r.n) (by have:=h.n;omega)
 have h1:=h.nm;have h2:=h.kd;have h3:=h.a;have h4:=h.b
 unfold rulB
 omega
theorem Cls.src {x:Sch} (h:Cls x):srcB x<=8192:=by
 have s1:=av0 (f:=kndB) fun k hk=>(h.ks k hk).bd
 have s2:=av0 (f:=lifB) fun k hk=>(h.ls k hk).bd
 have s3:=av0 (f:=rulB) fun k hk=>(h.rs k hk).bd
 have h1:=h.nk;have h2:=h.nl;have h3:=h.nr
 unfold srcB
 omega
theorem CF.sm {f:Fld} (h:CF f):SmF f:=⟨by have:=h.nm;unfold SmS;omega,by have:=h.of;unfold SmS;omega,by have:=h.up;unfold SmS;omega,fun s hs=>by have:=h.wd s hs;unfold SmS;omega,by have:=h.nw;omega,by have:=h.ng;omega⟩
theorem Cls.good {x:Sch} (h:Cls x):Good x where
 ver:=by have:=h.ver;omega
 fsane:=fun k hk f hf=>by
  have:=(h.ks k hk).fs f hf
  exact⟨⟨by have:=this.lo;omega,by have:=this.hi;omega,fun n hn=>by have:=this.wt n hn;omega⟩,by have:=this.kd;omega⟩
 ksane:=fun k hk=>by have:=h.ks k hk;have h1:=this.lo;have h2:=this.hi;omega
 msane:=fun l hl m hm=>by have:=(h.ls l hl).mv m hm;omega
 rsane:=fun r hr=>by have:=(h.rs r hr).n;omega
 sm:={
  kinds:=fun k hk=>⟨by have:=(h.ks k hk).nm;unfold SmS;omega,fun f hf=>((h.ks k hk).fs f hf).sm,by have:=(h.ks k hk).nf;omega⟩
  lives:=fun l hl=>⟨by have:=(h.ls l hl).nm;unfold SmS;omega,fun s hs=>by have:=(h.ls l hl).st s hs;unfold SmS;omega,by have:=(h.ls l hl).ns;omega,by have:=(h.ls l hl).nv;omega⟩
  rules:=fun r hr=>by have:=h.rs r hr;exact⟨by have:=this.nm;unfold SmS;omega,by have:=this.kd;unfold SmS;omega,by have:=this.a;unfold SmS;omega,by have:=this.b;unfold SmS;omega⟩
  nkinds:=by have:=h.nk;omega
  nlives:=by have:=h.nl;omega
  nrules:=by have:=h.nr;omega }
 src:=fun _=>h.src
end
end Go.Proofs.YtlcfiilejnnlnaaGreatDoor
