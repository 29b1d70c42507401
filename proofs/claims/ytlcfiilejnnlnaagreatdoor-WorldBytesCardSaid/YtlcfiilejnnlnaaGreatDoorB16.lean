/- A part of the proof: He Ch Sc Gx. -/
import Derived.Test.YtlcfiilejnnlnaaGreatDoorB15
set_option maxRecDepth 100000
set_option maxHeartbeats 20000000
set_option linter.unusedVariables false
set_option linter.unusedSimpArgs false
namespace Go.Proofs.YtlcfiilejnnlnaaGreatDoor
section
open Go
theorem cq1 (l:List Int) {j:Int} (h:0≤j∧j<l.length):(l.map fun z=>[iD z])[j.toNat]?=some [iD (l.getD j.toNat 0)]:=by
 have hl:j.toNat<l.length:=by omega
 rw [List.getElem?_map,List.getElem?_eq_getElem hl]
 simp [List.getD_eq_getElem?_getD,hl]
theorem co2 (l:List ByteArray) {j:Int} (h:0≤j∧j<l.length) (e:ByteArray):(l.map fun z=>[sD z])[j.toNat]?=some [sD (l.getD j.toNat e)]:=by
 have hl:j.toNat<l.length:=by omega
 rw [List.getElem?_map,List.getElem?_eq_getElem hl]
 simp [List.getD_eq_getElem?_getD,hl]
theorem bU8 (l:List Int) {j:Int} (h:0≤j∧j<l.length):∃ z∈l,(l.map fun z=>[iD z])[j.toNat]?=some [iD z]:=by
 have hl:j.toNat<l.length:=by omega
 exact ⟨l[j.toNat],List.getElem_mem hl,by rw [List.getElem?_map,List.getElem?_eq_getElem hl];rfl⟩
abbrev kdB (b:Nat) (nm:ByteArray) (lo hi:Int) (fv:Value):Nat × Blk:=(b,.cells 85 [sD nm,iD lo,iD hi,.v fv])
abbrev zK:List D:=[.v (zv ZV.str),.v (zv (ZV.int IntKind.i64)),.v (zv (ZV.int IntKind.i64)),.v (zv ZV.sl)]
structure KSt where
 pos:Int
 fv:Value
 rs:List (List D)
 sf:aa1
 ks:List Knd
 sk:aa1
abbrev kS (bm:Nat) (xs:List Int) (b7 b4:Nat) (nm:ByteArray) (lo hi:Int) (g:KSt):aa1:=mkB bm xs g.pos :: kdB b7 nm lo hi g.fv :: (b4,.cells 85 zK) :: (g.sf ++ g.sk)
structure KI (a:Option Addr) (n c:Nat) (fs:List Fld) (g:KSt):Prop where
 row:RowIs 97 8 g.rs g.fv g.sf
 le:LeR g.rs (fs.map fldC)
 kr:RowIs 85 4 (g.ks.map kndC) (.slice a n c) g.sk
 kl:g.ks.length=n
theorem bn3 (l:List Fld):((l.map fldC).all fun y=>y.all oneD)=true:=by rw [List.all_eq_true];intro y hy;obtain ⟨f,_,rfl⟩:=List.mem_map.1 hy;rfl
theorem Ld.rowm {P:Program} {o:Oper} {ρ:Operand→D} {σ:aa1} {b off k:Nat} {K:D→Prop} {tb:TypeId} {cs x:List D} (h1:(b,Blk.cells tb cs)∈σ) (hx:x.length=k) (hk:0<k) (h2:∀ j,j<k→cs[off+j]?=x[j]?) (h:W (K (.agg x))):Ld P o ρ σ b off true k K:=by
 obtain ⟨j,hj⟩:=List.getElem?_of_mem h1
 have hl:off+k≤cs.length:=by
  have:=h2 (k - 1) (by omega)
  rw [List.getElem?_eq_getElem (by omega:k - 1<x.length)] at this
  have:=(List.getElem?_eq_some_iff.1 this).1
  omega
 refine ⟨.inl ⟨j,tb,cs,hj,hl,?_⟩⟩
 have:(cs.drop off).take k=x:=by
  apply List.ext_getElem?
  intro i
  rw [List.getElem?_take]
  split
  ·rename_i hi;rw [List.getElem?_drop];exact h2 i hi
  ·rename_i hi;rw [List.getElem?_eq_none_iff.2 (by omega)]
 rw [this]
 exact h.h
theorem RefP.name0 {ks ks':List Knd} {nm:ByteArray} {f1:List Fld} (h:RefP ks nm f1 ks') {y:Knd} (hy:ks'[0]?=some y):∃ z,ks[0]?=some z∧z.name=y.name:=by
 cases h with
 | none h=>subst h;simp at hy
 | of=>exact ⟨y,hy,rfl⟩
 | part tw0 z lo hi a b sm hz=>
  rw [List.getElem?_set] at hy
  split at hy
  ·rename_i e
   subst e
   split at hy
   ·cases hy;exact ⟨z,hz,rfl⟩
   ·cases hy
  ·exact ⟨y,hy,rfl⟩
theorem PlainF.two {fs:List Fld} (h:PlainF fs):fs.length≤2:=by cases h <;> simp
theorem sb106 {A B:Prop} (k:B) (h:Hd7 B→A:=by intro hk7q;(first|fail|(with_reducible refine Bx.l ?_)|fail|((with_reducible refine Cb.go ?h ?_);(case h=>decide +kernel)));exact hk7q.run):A:=h ⟨k⟩
theorem sk107 {A B:Prop} (k:B) (h:Hd7 B→A:=by intro hk7q;(first|refine sb0 ?_|refine sb106 ?_|((with_reducible refine' Cp.by ?hc ?_);(case hc=>fail))|((with_reducible refine' CE.pure ?hc ?_);(case hc=>fail)));exact hk7q.run):A:=h ⟨k⟩
theorem cl21 {p:Prop} (h:p:=by first|exact Sc.sl (.cons_cons _ (.cons_cons _ (.cons_cons _ (List.sublist_cons_self _ _))))|exact Sc.perm (List.Perm.refl _)|exact Sc.perm (List.Perm.swap _ _ _)|exact Sc.perm (List.Perm.cons _ (List.Perm.swap _ _ _))|exact Sc.perm ((List.Perm.swap _ _ _).trans (List.Perm.cons _ (List.Perm.swap _ _ _)))|exact Sc.perm ((List.Perm.cons _ (List.Perm.swap _ _ _)).trans (List.Perm.swap _ _ _))):p:=h
theorem cl22 {p:Prop} (h:p:=by (refine ac9 fun a=>?_;simp only [kdB,mkB,List.append_eq,List.nil_append,ad1,af7,af6,sD,iD,bD];omega)):p:=h
theorem cl23 {p:Prop} (h:p:=by (refine ac9 fun a=>?_;simp only [kdB,mkB,List.append_eq,List.nil_append,ad1,af7,af6,sD,iD,bD];omega)):p:=h
theorem cl24 {p:Prop} (h:p:=by rw [show 0+((tw0:Nat):Int).toNat*4+3=tw0*4+3 by simp];exact hc3):p:=h
theorem cl25 {p:Prop} (h:p:=by first|exact List.Perm.refl _|(refine ac9 fun a=>?_;simp only [kdB,mkB,List.append_eq,List.nil_append,ad1,af7,af6,sD,iD,bD];omega)):p:=h
theorem cl26 {p:Prop} (h:p:=by first|omega|(simp only [List.length_append,List.length_map,List.length_cons,List.length_nil];omega)):p:=h
theorem cl27 {p:Prop} (h:p:=by rw [show 0+((tw0:Nat):Int).toNat*4+3=tw0*4+3 by simp];exact (List.getElem?_eq_some_iff.1 hc3).1):p:=h
theorem bF6 (xs:List Int) (hx:I64s xs) (bm:Nat) (pos:Int) (hp:0≤pos∧pos≤10000000) (ks:List Knd) (hks:ks.length≤2) (hfl:∀ k∈ks,k.fields.length≤1000) (a:Option Addr) (c:Nat) (sk:aa1) (hrow:RowIs 85 4 (ks.map kndC) (.slice a ks.length c) sk) :
  ACall Tryz.prog 33 [ptr bm,.v (.slice a ks.length c)] (mkB bm xs pos :: sk) (fun d σ=>∃ pos' k ks' sk',(pos≤pos'∧pos'≤pos+100)∧d=kndD k∧σ=mkB bm xs pos' :: sk'∧RowIs 85 4 (ks'.map kndC) (.slice a ks.length c) sk'∧KMade ks k ks'):=by
 have h1:=ae2 xs pos 6
 have h1':=h1.2 (by omega)
 have h2:=ae2 xs (pos+1) 5
 have h2':=h2.2 (by omega)
 obtain ⟨lo,hlo,hlx⟩:=bU8 [0,1,2,4,1,2] (j:=atE xs pos 6) ⟨by omega,by simp;omega⟩
 have hlob:0≤lo∧lo≤4:=by simp at hlo;omega
 refine eC7 Tryz.func33 Tryz.ntmps33 fun BB=>?_
 repeat' first|refine sk107 ?_|(intro b;conv=>whnf)
 generalize b=b4
 ((refine CE.own (aa6 xs hx bm _ _ ⟨by omega,by omega⟩) (show List.Perm (_ :: mkB bm xs _ :: _) ([mkB bm xs _] ++ (_ :: _)) from List.Perm.swap _ _ _) (fun s'=>s' ++ (_ :: _)) (fun s'=>List.Perm.refl _) ?_);(rintro _ _ ⟨rfl,rfl⟩))
 repeat' first|refine sk107 ?_|(intro b;conv=>whnf)
 refine Ix.at hlx (by omega) ?_
 repeat' first|refine sk107 ?_|(intro b;conv=>whnf)
 refine Dr.r ?_
 (((with_reducible refine W.mk ?_);(conv=>whnf)))
 refine Dm.r ?_
 refine W.mk ?_
 refine bw1 mixed aa0 rfl [0,1,2,3,4,5,6] 5 (.two 7 (.two 8 (.two 9 (.one 10 (.one 11 .done)) 10 (.one 9 (.one 11 .done))) 10 (.one 8 (.one 9 (.one 11 .done)))) 10 (.one 7 (.one 8 (.one 9 (.one 11 .done))))) (γ:=Nat) (fun g=>[(7,.v (.pointer (some ⟨g,0,none⟩)))]) (fun g=>mkB bm xs (pos+1+1) :: kdB g (knm ks.length) lo (lo+atE xs (pos+1) 5) (.slice none 0 0) :: (b4,.cells 85 zK) :: sk) (fun _=>True) (by decide +kernel) ?_ ?_
 ·repeat' first|refine sk107 ?_|(intro b;conv=>whnf)|(refine And.intro ?_ ?_ <;> (conv=>whnf))|((refine CE.own (aa6 xs hx bm _ _ ⟨by omega,by omega⟩) (List.Perm.refl ([mkB bm xs _] ++ _)) (fun s'=>s' ++ _) (fun s'=>List.Perm.refl _) ?_);(rintro _ _ ⟨rfl,rfl⟩))|((refine CE.own (aa6 xs hx bm _ _ ⟨by omega,by omega⟩) (show List.Perm (_ :: mkB bm xs _ :: _) ([mkB bm xs _] ++ (_ :: _)) from List.Perm.swap _ _ _) (fun s'=>s' ++ (_ :: _)) (fun s'=>List.Perm.refl _) ?_);(rintro _ _ ⟨rfl,rfl⟩))|(refine Ix.at (co2 [bv3,aO4,ch6] ⟨by omega,by simp;omega⟩ nE) (by omega) ?_)
  all_goals exact ⟨b,(aa2 cl7),cl21,trivial⟩
 ·rintro b7 -
  have h3:=ae2 xs (pos+1+1) 4
  have h3':=h3.2 (by omega)
  obtain ⟨idl,hid,hidx⟩:=bU8 [0,1,100,-3] (j:=atE xs (pos+1+1) 4) ⟨by omega,by simp;omega⟩
  repeat' first|refine sk107 ?_|(intro b;conv=>whnf)
  refine dr7 ?_
  refine al6 mixed aa0 rfl [0,2,3] 9 (inE [1,4,9,10,11]) (.two 1 (.one 4 (.fst 5 (.fst 6 (.fst 7 (.fst 8 (.one 9 (.one 10 (.one 11 .done)))))))) 4 (.fst 5 (.fst 6 (.fst 7 (.fst 8 (.one 1 (.one 9 (.one 10 (.one 11 .done))))))))) (γ:=Value × aa1) (fun _=>[]) (fun g=>mkB bm xs (pos+1+1+1) :: kdB b7 (knm ks.length) lo (lo+atE xs (pos+1) 5) g.1 :: (b4,.cells 85 zK) :: (g.2 ++ sk)) (fun g=>RowIs 97 8 [fldR (idF idl) nilD nilD] g.1 g.2) (by decide +kernel) ?_ ?_
  ·repeat' first|refine sk107 ?_|(intro b;conv=>whnf)|(refine And.intro ?_ ?_ <;> (conv=>whnf))|((refine CE.own (aa6 xs hx bm _ _ ⟨by omega,by omega⟩) (List.Perm.refl ([mkB bm xs _] ++ _)) (fun s'=>s' ++ _) (fun s'=>List.Perm.refl _) ?_);(rintro _ _ ⟨rfl,rfl⟩))|((refine CE.own (aa6 xs hx bm _ _ ⟨by omega,by omega⟩) (show List.Perm (_ :: mkB bm xs _ :: _) ([mkB bm xs _] ++ (_ :: _)) from List.Perm.swap _ _ _) (fun s'=>s' ++ (_ :: _)) (fun s'=>List.Perm.refl _) ?_);(rintro _ _ ⟨rfl,rfl⟩))|(refine Ix.at hidx (by omega) ?_)|(refine Ap.go rfl rfl rfl rfl (RowIs.nil 97 8) (List.Perm.refl ([] ++ _)) rfl (zs:=[fldR (idF idl) nilD nilD]) rfl (by simp) (by simp) (fun s'=>s' ++ _) (fun s'=>List.Perm.refl _) (fun a2 c2 s2 hr2=>?_))|(refine Sv.cellm (tb:=85) (cs:=[sD (knm ks.length),iD lo,iD (lo+atE xs (pos+1) 5),.v (.slice .none 0 0)]) (cs':=[sD (knm ks.length),iD lo,iD (lo+atE xs (pos+1) 5),.v (.slice a2 [fldR (idF idl) nilD nilD].length c2)]) (τ:=mkB bm xs (pos+1+1+1) :: (b4,.cells 85 zK) :: (s2 ++ sk)) cl22 (by simp) rfl rfl ?_)
   all_goals exact ⟨(_,s2),(aa2 cl7),cl21,hr2⟩
  ·rintro ⟨fv,sf⟩ hfr
   simp only at hfr ⊢
   repeat' first|refine sk107 ?_|(intro b;conv=>whnf)
   refine Bc.j ?_
   refine as7 mixed aa0 (γ:=KSt × List Fld) (fun _=>[]) (fun g=>kS bm xs b7 b4 (knm ks.length) lo (lo+atE xs (pos+1) 5) g.1) (fun g=>(pos+3≤g.1.pos∧g.1.pos≤pos+30)∧KI a ks.length c (idF idl :: g.2) g.1∧RefP ks (knm ks.length) g.2 g.1.ks∧g.2.length≤3) ?_ ?_
   ·(((with_reducible refine W.mk ?_);(conv=>whnf)))
    refine Bc.l ?_
    by_cases hn0:0<ks.length
    ·have h4:=ae2 xs (pos+1+1+1) ks.length
     have h4':=h4.2 (by omega)
     repeat' first|refine sk107 ?_|(intro b;conv=>whnf)
     ((refine CE.own (aa6 xs hx bm _ _ ⟨by omega,by omega⟩) (List.Perm.refl ([mkB bm xs _] ++ _)) (fun s'=>s' ++ _) (fun s'=>List.Perm.refl _) ?_);(rintro _ _ ⟨rfl,rfl⟩))
     repeat' first|refine sk107 ?_|(intro b;conv=>whnf)
     obtain ⟨tw0,hto⟩:∃ tw0:Nat,atE xs (pos+1+1+1) ks.length=tw0:=⟨(atE xs (pos+1+1+1) ks.length).toNat,by omega⟩
     obtain ⟨y,hy⟩:∃ y,ks[tw0]?=some y:=⟨_,List.getElem?_eq_getElem (by omega)⟩
     obtain ⟨b2,cap2,cs2,e2,rfl,hcs⟩:=RowIs.get hrow (show (ks.map kndC)[tw0]?=some (kndC y) by rw [List.getElem?_map,hy];rfl)
     rw [List.length_map] at e2
     cases e2
     have hc0:cs2[tw0*4+0]?=some (sD y.name):=hcs 0 (by omega)
     have hc3:cs2[tw0*4+3]?=some (slF y.fields):=hcs 3 (by omega)
     have h5:=ae2 xs (pos+1+1+1+1) 4
     have h5':=h5.2 (by omega)
     obtain ⟨hi,hhi,hhix⟩:=bU8 [4,3,8,2] (j:=atE xs (pos+1+1+1+1) 4) ⟨by omega,by simp;omega⟩
     refine dr7 ?_
     refine al6 mixed aa0 rfl [0,1,2,3,5,6] 7 (inE [4,7,11,12]) (.three 4 (.two 7 (.fst 8 (.fst 9 (.fst 10 (.one 11 (.one 12 .done))))) 11 (.one 7 (.fst 8 (.fst 9 (.fst 10 (.one 12 .done)))))) 7 (.fst 8 (.fst 9 (.two 4 (.fst 10 (.one 11 (.one 12 .done))) 11 (.one 4 (.fst 10 (.one 12 .done)))))) 11 (.two 4 (.one 7 (.fst 8 (.fst 9 (.fst 10 (.one 12 .done))))) 7 (.fst 8 (.fst 9 (.one 4 (.fst 10 (.one 12 .done))))))) (γ:=Nat) (fun g=>[(9,.v (.pointer (some ⟨g,0,none⟩)))]) (fun g=>mkB bm xs (pos+1+1+1+1+1) :: (g,.cells 97 (fldR (ofF y 0 hi) nilD nilD)) :: kdB b7 (knm ks.length) lo (lo+atE xs (pos+1) 5) fv :: (b4,.cells 85 zK) :: (sf ++ [(b2,.cells 85 cs2)])) (fun _=>True) (by decide +kernel) ?_ ?_
     ·repeat' first|refine sk107 ?_|(intro b;conv=>whnf)|(refine And.intro ?_ ?_ <;> (conv=>whnf))|((refine CE.own (aa6 xs hx bm _ _ ⟨by omega,by omega⟩) (List.Perm.refl ([mkB bm xs _] ++ _)) (fun s'=>s' ++ _) (fun s'=>List.Perm.refl _) ?_);(rintro _ _ ⟨rfl,rfl⟩))|((refine CE.own (aa6 xs hx bm _ _ ⟨by omega,by omega⟩) (show List.Perm (_ :: mkB bm xs _ :: _) ([mkB bm xs _] ++ (_ :: _)) from List.Perm.swap _ _ _) (fun s'=>s' ++ (_ :: _)) (fun s'=>List.Perm.refl _) ?_);(rintro _ _ ⟨rfl,rfl⟩))|(refine Ix.at hhix (by omega) ?_)|(refine Ld.cellm (tb:=85) (cs:=cs2) (by simp) (by rw [hto,show 0+((tw0:Nat):Int).toNat*4+0=tw0*4+0 by simp];exact hc0) ?_)
      all_goals exact ⟨b,(aa2 cl7),cl21,trivial⟩
     ·rintro b9 -
      rw [hto]
      have h6:=ae2 xs (pos+1+1+1+1+1) 5
      have h6':=h6.2 (by omega)
      repeat' first|refine sk107 ?_|(intro b;conv=>whnf)
      ((refine CE.own (aa6 xs hx bm _ _ ⟨by omega,by omega⟩) (List.Perm.refl ([mkB bm xs _] ++ _)) (fun s'=>s' ++ _) (fun s'=>List.Perm.refl _) ?_);(rintro _ _ ⟨rfl,rfl⟩))
      repeat' first|refine sk107 ?_|(intro b;conv=>whnf)
      refine Bc.j ?_
      refine as7 mixed aa0 (γ:=Int) (fun _=>[]) (fun g=>mkB bm xs (pos+6) :: (b9,.cells 97 (fldR (ofF y g hi) nilD nilD)) :: kdB b7 (knm ks.length) lo (lo+atE xs (pos+1) 5) fv :: (b4,.cells 85 zK) :: (sf ++ [(b2,.cells 85 cs2)])) (fun g=>g=0∨g=1) ?_ ?_
      ·(((with_reducible refine W.mk ?_);(conv=>whnf)))
       refine Bc.l ?_
       have e6:pos+1+1+1+1+1+1=pos+6:=by omega
       rw [e6]
       by_cases hz6:atE xs (pos+1+1+1+1+1) 5=0
       ·repeat' first|refine sk107 ?_|(intro b;conv=>whnf)
        exact ⟨1,(aa2 cl7),cl21,.inr rfl⟩
       ·repeat' first|refine sk107 ?_|(intro b;conv=>whnf)
        exact ⟨0,(aa2 cl7),cl21,.inl rfl⟩
      ·rintro l9 hl9
       repeat' first|refine sk107 ?_|(intro b;conv=>whnf)
       refine Ap.go rfl rfl rfl rfl hfr (τ:=mkB bm xs (pos+6) :: (b9,.cells 97 (fldR (ofF y l9 hi) nilD nilD)) :: kdB b7 (knm ks.length) lo (lo+atE xs (pos+1) 5) fv :: (b4,.cells 85 zK) :: [(b2,.cells 85 cs2)]) cl22 rfl (zs:=[fldR (idF idl) nilD nilD,fldR (ofF y l9 hi) nilD nilD]) rfl (by simp) (by simp) (fun s'=>mkB bm xs (pos+6) :: kdB b7 (knm ks.length) lo (lo+atE xs (pos+1) 5) fv :: (b4,.cells 85 zK) :: (b9,.cells 97 (fldR (ofF y l9 hi) nilD nilD)) :: (s' ++ [(b2,.cells 85 cs2)])) (fun s'=>cl23) (fun a3 c3 s3 hr3=>?_)
       repeat' first|refine sk107 ?_|(intro b;conv=>whnf)
       refine Ld.rowm (tb:=85) (cs:=cs2) (x:=kndC y) (by simp) rfl (by decide) (fun j hj=>by rw [show 0+((tw0:Nat):Int).toNat*4+j=tw0*4+j by simp];exact hcs j hj) ?_
       have hyl:=hfl y (List.mem_of_getElem? hy)
       have HC:=bn1 y (by omega)
       have HT:=aJ7 y.fields aB4 (by omega)
       repeat' first|refine sk107 ?_|(intro b;conv=>whnf)
       refine CE.pure HC ?_
       have le2:LeR [fldR (idF idl) nilD nilD,fldR (ofF y l9 hi) nilD nilD] ([idF idl,ofF y l9 hi].map fldC):=.cons (.cons (Le.refl _) (.cons (Le.refl _) (.cons (Le.refl _) (.cons (Le.refl _) (.cons (Le.refl _) (.cons (Le.refl _) (.cons (ae1 1) (.cons (ae1 1) .nil)))))))) (.cons (.cons (Le.refl _) (.cons (Le.refl _) (.cons (Le.refl _) (.cons (Le.refl _) (.cons (Le.refl _) (.cons (Le.refl _) (.cons (ae1 1) (.cons (ae1 1) .nil)))))))) .nil)
       by_cases hcp:0≤as3 y
       ·have h7:=ae2 xs (pos+6) 2
        have h7':=h7.2 (by omega)
        have hlt7:as3 y<y.fields.length:=aO6 _ _
        obtain ⟨hf7,hg7⟩:∃ h,y.fields[(as3 y).toNat]?=some h:=⟨_,List.getElem?_eq_getElem (by omega)⟩
        repeat' first|refine sk107 ?_|(intro b;conv=>whnf)
        ((refine CE.own (aa6 xs hx bm _ _ ⟨by omega,by omega⟩) (List.Perm.refl ([mkB bm xs _] ++ _)) (fun s'=>s' ++ _) (fun s'=>List.Perm.refl _) ?_);(rintro _ _ ⟨rfl,rfl⟩))
        repeat' first|refine sk107 ?_|(intro b;conv=>whnf)
        refine Bc.j ?_
        refine as7 mixed aa0 (γ:=Int × Value × List (List D) × aa1 × List Fld) (fun _=>[]) (fun g=>mkB bm xs g.1 :: kdB b7 (knm ks.length) lo (lo+atE xs (pos+1) 5) g.2.1 :: (b4,.cells 85 zK) :: (g.2.2.2.1 ++ [(b2,.cells 85 cs2)])) (fun g=>(pos+6≤g.1∧g.1≤pos+10)∧RowIs 97 8 g.2.2.1 g.2.1 g.2.2.2.1∧LeR g.2.2.1 ((idF idl :: ofF y l9 hi :: g.2.2.2.2).map fldC)∧(g.2.2.2.2=[]∨∃ h,0≤as3 y∧y.fields[(as3 y).toNat]?=some h∧g.2.2.2.2=[bd4 h.name])) ?_ ?_
        ·(((with_reducible refine W.mk ?_);(conv=>whnf)))
         refine Bc.l ?_
         by_cases hz7:atE xs (pos+6) 2=0
         ·repeat' first|refine sk107 ?_|(intro b;conv=>whnf)
          refine Dr.l (by decide +kernel) ?_
          repeat' first|refine sk107 ?_|(intro b;conv=>whnf)
          refine Ld.cellm (tb:=85) (cs:=cs2) (by simp) cl24 ?_
          repeat' first|refine sk107 ?_|(intro b;conv=>whnf)
          refine Ap.go rfl rfl rfl rfl hr3 (τ:=mkB bm xs (pos+6+1) :: (b9,.cells 97 (fldR (ofF y l9 hi) nilD nilD)) :: kdB b7 (knm ks.length) lo (lo+atE xs (pos+1) 5) (.slice a3 2 c3) :: (b4,.cells 85 zK) :: [(b2,.cells 85 cs2)]) cl22 rfl (zs:=[fldR (idF idl) nilD nilD,fldR (ofF y l9 hi) nilD nilD,fldR (bd4 hf7.name) nilD nilD]) rfl (by simp) (by simp) (fun s'=>mkB bm xs (pos+6+1) :: kdB b7 (knm ks.length) lo (lo+atE xs (pos+1) 5) (.slice a3 2 c3) :: (b4,.cells 85 zK) :: (b9,.cells 97 (fldR (ofF y l9 hi) nilD nilD)) :: (s' ++ [(b2,.cells 85 cs2)])) (fun s'=>cl23) (fun a5 c5 s5 hr5=>?_)
          repeat' first|refine sk107 ?_|(intro b;conv=>whnf)
          exact ⟨(pos+6+1,_,_,s5,[bd4 hf7.name]),(aa2 cl7),cl21,⟨by simp only;omega,by simp only;omega⟩,hr5,.cons (.cons (Le.refl _) (.cons (Le.refl _) (.cons (Le.refl _) (.cons (Le.refl _) (.cons (Le.refl _) (.cons (Le.refl _) (.cons (ae1 1) (.cons (ae1 1) .nil)))))))) (.cons (.cons (Le.refl _) (.cons (Le.refl _) (.cons (Le.refl _) (.cons (Le.refl _) (.cons (Le.refl _) (.cons (Le.refl _) (.cons (ae1 1) (.cons (ae1 1) .nil)))))))) (.cons (.cons (Le.refl _) (.cons (Le.refl _) (.cons (Le.refl _) (.cons (Le.refl _) (.cons (Le.refl _) (.cons (Le.refl _) (.cons (ae1 1) (.cons (ae1 1) .nil)))))))) .nil)),.inr ⟨hf7,hcp,hg7,rfl⟩⟩
         ·repeat' first|refine sk107 ?_|(intro b;conv=>whnf)
          exact ⟨(pos+6+1,_,_,s3,[]),(aa2 cl7),cl21,⟨by simp only;omega,by simp only;omega⟩,hr3,le2,.inl rfl⟩
        ·rintro ⟨p3,fv3,rs3,sf3,sm⟩ ⟨⟨hp3,hp3'⟩,hr4,hle4,hsm⟩
         simp only at hp3 hp3' hr4 hle4 hsm ⊢
         have hsl:sm.length≤1:=by rcases hsm with rfl|⟨_,_,_,rfl⟩ <;> simp
         repeat' first|refine sk107 ?_|(intro b;conv=>whnf)
         refine Ld.cellm (tb:=85) (cs:=cs2) (by simp) cl24 ?_
         repeat' first|refine sk107 ?_|(intro b;conv=>whnf)
         refine CE.pure HT ?_
         by_cases ht:ap5 y.fields aB4<0
         ·have h8:=ae2 xs p3 3
          have h8':=h8.2 (by omega)
          repeat' first|refine sk107 ?_|(intro b;conv=>whnf)
          ((refine CE.own (aa6 xs hx bm _ _ ⟨by omega,by omega⟩) (List.Perm.refl ([mkB bm xs _] ++ _)) (fun s'=>s' ++ _) (fun s'=>List.Perm.refl _) ?_);(rintro _ _ ⟨rfl,rfl⟩))
          repeat' first|refine sk107 ?_|(intro b;conv=>whnf)
          refine Bc.l ?_
          by_cases hz8:atE xs p3 3=0
          ·have h9:=ae2 xs (p3+1) 3
           have h9':=h9.2 (by omega)
           have h10:=ae2 xs (p3+1+1) 8
           have h10':=h10.2 (by omega)
           have hrl:rs3.length≤3:=by have:=hle4.len;simp at this;omega
           repeat' first|refine sk107 ?_|(intro b;conv=>whnf)
           ((refine CE.own (aa6 xs hx bm _ _ ⟨by omega,by omega⟩) (List.Perm.refl ([mkB bm xs _] ++ _)) (fun s'=>s' ++ _) (fun s'=>List.Perm.refl _) ?_);(rintro _ _ ⟨rfl,rfl⟩))
           repeat' first|refine sk107 ?_|(intro b;conv=>whnf)
           refine dr7 ?_
           refine al6 mixed aa0 rfl [0,2,3,4] 8 (inE [1,5,9,10,11]) (.two 1 (.one 5 (.fst 6 (.fst 7 (.fst 8 (.one 9 (.one 10 (.one 11 .done))))))) 5 (.fst 6 (.fst 7 (.fst 8 (.one 1 (.one 9 (.one 10 (.one 11 .done)))))))) (γ:=Value × aa1) (fun _=>[]) (fun g=>mkB bm xs (p3+1+1+1) :: kdB b7 (knm ks.length) lo (lo+atE xs (pos+1) 5) g.1 :: (b4,.cells 85 zK) :: (g.2 ++ [(b2,.cells 85 cs2)])) (fun g=>RowIs 97 8 (rs3 ++ [fldR (ay8 (atE xs (p3+1) 3) (atE xs (p3+1+1) 8)) nilD nilD]) g.1 g.2) (by decide +kernel) ?_ ?_
           ·repeat' first|refine sk107 ?_|(intro b;conv=>whnf)|(refine And.intro ?_ ?_ <;> (conv=>whnf))|((refine CE.own (aa6 xs hx bm _ _ ⟨by omega,by omega⟩) (List.Perm.refl ([mkB bm xs _] ++ _)) (fun s'=>s' ++ _) (fun s'=>List.Perm.refl _) ?_);(rintro _ _ ⟨rfl,rfl⟩))|((refine CE.own (aa6 xs hx bm _ _ ⟨by omega,by omega⟩) (show List.Perm (_ :: mkB bm xs _ :: _) ([mkB bm xs _] ++ (_ :: _)) from List.Perm.swap _ _ _) (fun s'=>s' ++ (_ :: _)) (fun s'=>List.Perm.refl _) ?_);(rintro _ _ ⟨rfl,rfl⟩))|(refine Ap.go rfl rfl rfl rfl hr4 (τ:=mkB bm xs (p3+1+1+1) :: kdB b7 (knm ks.length) lo (lo+atE xs (pos+1) 5) fv3 :: (b4,.cells 85 zK) :: [(b2,.cells 85 cs2)]) cl22 rfl (zs:=rs3 ++ [fldR (ay8 (atE xs (p3+1) 3) (atE xs (p3+1+1) 8)) nilD nilD]) rfl (by simp;omega) (by simp;omega) (fun s'=>mkB bm xs (p3+1+1+1) :: kdB b7 (knm ks.length) lo (lo+atE xs (pos+1) 5) fv3 :: (b4,.cells 85 zK) :: (s' ++ [(b2,.cells 85 cs2)])) (fun s'=>cl23) (fun a6 c6 s6 hr6=>?_))
            all_goals exact ⟨(_,s6),(aa2 cl7),cl21,hr6⟩
           ·rintro ⟨fv6,sf6⟩ hr6
            simp only at hr6 ⊢
            repeat' first|refine sk107 ?_|(intro b;conv=>whnf)
            refine dr7 ?_
            refine al6 mixed aa0 rfl [0,1,3,4,5,6,9] 10 (inE [2,7,8,10,13,14,15,16]) (.three 2 (.two 7 (.two 8 (.one 10 (.fst 11 (.fst 12 (.one 13 (.one 14 (.one 15 (.one 16 .done))))))) 10 (.fst 11 (.fst 12 (.one 8 (.one 13 (.one 14 (.one 15 (.one 16 .done)))))))) 10 (.fst 11 (.fst 12 (.one 7 (.one 8 (.one 13 (.one 14 (.one 15 (.one 16 .done))))))))) 7 (.two 2 (.two 8 (.one 10 (.fst 11 (.fst 12 (.one 13 (.one 14 (.one 15 (.one 16 .done))))))) 10 (.fst 11 (.fst 12 (.one 8 (.one 13 (.one 14 (.one 15 (.one 16 .done)))))))) 10 (.fst 11 (.fst 12 (.one 2 (.one 8 (.one 13 (.one 14 (.one 15 (.one 16 .done))))))))) 10 (.fst 11 (.fst 12 (.two 2 (.one 7 (.one 8 (.one 13 (.one 14 (.one 15 (.one 16 .done)))))) 7 (.one 2 (.one 8 (.one 13 (.one 14 (.one 15 (.one 16 .done)))))))))) (γ:=Option Addr × Nat × aa1) (fun _=>[]) (fun g=>mkB bm xs (p3+1+1+1) :: kdB b7 (knm ks.length) lo (lo+atE xs (pos+1) 5) fv6 :: (b4,.cells 85 zK) :: (sf6 ++ ((b2,.cells 85 (cs2.set (tw0*4+3) (.v (.slice g.1 (y.fields.map fldC ++ [fldR (totF (knm ks.length)) nilD nilD]).length g.2.1)))) :: g.2.2))) (fun g=>RowIs 97 8 (y.fields.map fldC ++ [fldR (totF (knm ks.length)) nilD nilD]) (.slice g.1 (y.fields.map fldC ++ [fldR (totF (knm ks.length)) nilD nilD]).length g.2.1) g.2.2) (by decide +kernel) ?_ ?_
            ·repeat' first|refine sk107 ?_|(intro b;conv=>whnf)|(refine And.intro ?_ ?_ <;> (conv=>whnf))|(refine Ld.cellm (tb:=85) (cs:=cs2) (by simp) cl24 ?_)|(refine Ld.cellm (tb:=85) (cs:=[sD (knm ks.length),iD lo,iD (lo+atE xs (pos+1) 5),.v fv6]) (by simp) rfl ?_)|(refine Ap.go rfl rfl rfl rfl hr8 (τ:=mkB bm xs (p3+1+1+1) :: kdB b7 (knm ks.length) lo (lo+atE xs (pos+1) 5) fv6 :: (b4,.cells 85 zK) :: (sf6 ++ [(b2,.cells 85 cs2)])) cl25 rfl (zs:=y.fields.map fldC ++ [fldR (totF (knm ks.length)) nilD nilD]) rfl (by simp only [List.length_append,List.length_map,List.length_cons,List.length_nil];omega) cl26 (fun s'=>mkB bm xs (p3+1+1+1) :: kdB b7 (knm ks.length) lo (lo+atE xs (pos+1) 5) fv6 :: (b4,.cells 85 zK) :: (sf6 ++ ((b2,.cells 85 cs2) :: s'))) (fun s'=>cl23) (fun a9 c9 s9 hr9=>?_))|(refine Ap.go rfl rfl rfl rfl (RowIs.e0 97 8 (some ⟨b,0,none⟩)) (List.Perm.refl ([] ++ _)) (bn3 y.fields) (zs:=y.fields.map fldC) rfl (by rw [List.length_map];omega) (by rw [List.length_map];omega) (fun s'=>s' ++ _) (fun s'=>List.Perm.refl _) (fun a8 c8 s8 hr8=>?_))|(refine Sv.cellm (tb:=85) (cs:=cs2) (cs':=cs2.set (tw0*4+3) (.v (.slice a9 (y.fields.map fldC ++ [fldR (totF (knm ks.length)) nilD nilD]).length c9))) (τ:=mkB bm xs (p3+1+1+1) :: kdB b7 (knm ks.length) lo (lo+atE xs (pos+1) 5) fv6 :: (b4,.cells 85 zK) :: (sf6 ++ s9)) cl22 cl27 rfl (by rw [show 0+((tw0:Nat):Int).toNat*4+3=tw0*4+3 by simp]) ?_)
             all_goals exact ⟨(a9,c9,s9),(aa2 cl7),Sc.perm cl22,hr9⟩
            ·rintro ⟨a9,c9,s9⟩ hr9
             simp only at hr9 ⊢
             have hidx:=(List.getElem?_eq_some_iff.1 hc3).1
             have hkr:=RowIs.put1 (d:=slF (y.fields ++ [totF (knm ks.length)])) hrow (show (ks.map kndC)[tw0]?=some (kndC y) by rw [List.getElem?_map,hy];rfl) (show 3<4 by omega)
             have hls:(ks.map kndC).set tw0 ((kndC y).set 3 (slF (y.fields ++ [totF (knm ks.length)])))=(ks.set tw0 ⟨y.name,y.lo,y.hi,y.fields ++ [totF (knm ks.length)]⟩).map kndC:=by rw [List.map_set];rfl
             rw [hls] at hkr
             have le9:LeR (y.fields.map fldC ++ [fldR (totF (knm ks.length)) nilD nilD]) ((y.fields ++ [totF (knm ks.length)]).map fldC):=by rw [List.map_append];exact (LeR.refl _).append (.cons (.cons (Le.refl _) (.cons (Le.refl _) (.cons (Le.refl _) (.cons (Le.refl _) (.cons (Le.refl _) (.cons (Le.refl _) (.cons (ae1 1) (.cons (ae1 1) .nil)))))))) .nil)
             have hfz:=Sc.frz (b:=b2) (t:=85) (τ:=mkB bm xs (p3+1+1+1) :: kdB b7 (knm ks.length) lo (lo+atE xs (pos+1) 5) fv6 :: (b4,.cells 85 zK) :: sf6) (List.getElem?_set_self (a:=D.v (.slice a9 (y.fields.map fldC ++ [fldR (totF (knm ks.length)) nilD nilD]).length c9)) hidx) hr9 le9
             rw [List.set_set] at hfz
             change Sc _ ((b2,.cells 85 (cs2.set (tw0*4+3) (slF (y.fields ++ [totF (knm ks.length)])))) :: _) at hfz
             have hle6:LeR (rs3 ++ [fldR (ay8 (atE xs (p3+1) 3) (atE xs (p3+1+1) 8)) nilD nilD]) ((idF idl :: ofF y l9 hi :: (sm ++ [ay8 (atE xs (p3+1) 3) (atE xs (p3+1+1) 8)])).map fldC):=by
              have:=hle4.append (LeR.cons (x:=fldR (ay8 (atE xs (p3+1) 3) (atE xs (p3+1+1) 8)) nilD nilD) (y:=fldC (ay8 (atE xs (p3+1) 3) (atE xs (p3+1+1) 8))) (.cons (Le.refl _) (.cons (Le.refl _) (.cons (Le.refl _) (.cons (Le.refl _) (.cons (Le.refl _) (.cons (Le.refl _) (.cons (ae1 1) (.cons (ae1 1) .nil)))))))) .nil)
              simpa using this
             repeat' first|refine sk107 ?_|(intro b;conv=>whnf)
             exact ⟨(⟨p3+1+1+1,fv6,_,sf6,ks.set tw0 ⟨y.name,y.lo,y.hi,y.fields ++ [totF (knm ks.length)]⟩,[(b2,.cells 85 (cs2.set (tw0*4+3) (slF (y.fields ++ [totF (knm ks.length)]))))]⟩,ofF y l9 hi :: (sm ++ [ay8 (atE xs (p3+1) 3) (atE xs (p3+1+1) 8)])),(aa2 cl7),(Sc.perm cl22).trans (hfz.trans (Sc.perm cl22)),⟨by simp only;omega,by simp only;omega⟩,⟨hr6,hle6,hkr,by simp⟩,RefP.part tw0 y l9 hi _ _ sm hy hl9 hhi hsm ht ⟨h9.1,h9'⟩ ⟨h10.1,h10'⟩,by simp;omega⟩
          ·repeat' first|refine sk107 ?_|(intro b;conv=>whnf)
           exact ⟨(⟨p3+1,fv3,rs3,sf3,ks,[(b2,.cells 85 cs2)]⟩,ofF y l9 hi :: sm),(aa2 cl7),cl21,⟨by simp only;omega,by simp only;omega⟩,⟨hr4,hle4,hrow,rfl⟩,RefP.of tw0 y l9 hi sm hy hl9 hhi hsm,by simp;omega⟩
         ·repeat' first|refine sk107 ?_|(intro b;conv=>whnf)
          refine Bc.l ?_
          repeat' first|refine sk107 ?_|(intro b;conv=>whnf)
          exact ⟨(⟨p3,fv3,rs3,sf3,ks,[(b2,.cells 85 cs2)]⟩,ofF y l9 hi :: sm),(aa2 cl7),cl21,⟨by simp only;omega,by simp only;omega⟩,⟨hr4,hle4,hrow,rfl⟩,RefP.of tw0 y l9 hi sm hy hl9 hhi hsm,by simp;omega⟩
       ·repeat' first|refine sk107 ?_|(intro b;conv=>whnf)
        refine Bc.j ?_
        refine as7 mixed aa0 (γ:=Int × Value × List (List D) × aa1 × List Fld) (fun _=>[]) (fun g=>mkB bm xs g.1 :: kdB b7 (knm ks.length) lo (lo+atE xs (pos+1) 5) g.2.1 :: (b4,.cells 85 zK) :: (g.2.2.2.1 ++ [(b2,.cells 85 cs2)])) (fun g=>(pos+6≤g.1∧g.1≤pos+10)∧RowIs 97 8 g.2.2.1 g.2.1 g.2.2.2.1∧LeR g.2.2.1 ((idF idl :: ofF y l9 hi :: g.2.2.2.2).map fldC)∧(g.2.2.2.2=[]∨∃ h,0≤as3 y∧y.fields[(as3 y).toNat]?=some h∧g.2.2.2.2=[bd4 h.name])) ?_ ?_
        ·(((with_reducible refine W.mk ?_);(conv=>whnf)))
         refine Bc.l ?_
         repeat' first|refine sk107 ?_|(intro b;conv=>whnf)
         exact ⟨(pos+6,_,_,s3,[]),(aa2 cl7),cl21,⟨by simp only;omega,by simp only;omega⟩,hr3,le2,.inl rfl⟩
        ·rintro ⟨p3,fv3,rs3,sf3,sm⟩ ⟨⟨hp3,hp3'⟩,hr4,hle4,hsm⟩
         simp only at hp3 hp3' hr4 hle4 hsm ⊢
         have hsl:sm.length≤1:=by rcases hsm with rfl|⟨_,_,_,rfl⟩ <;> simp
         repeat' first|refine sk107 ?_|(intro b;conv=>whnf)
         refine Ld.cellm (tb:=85) (cs:=cs2) (by simp) cl24 ?_
         repeat' first|refine sk107 ?_|(intro b;conv=>whnf)
         refine CE.pure HT ?_
         by_cases ht:ap5 y.fields aB4<0
         ·have h8:=ae2 xs p3 3
          have h8':=h8.2 (by omega)
          repeat' first|refine sk107 ?_|(intro b;conv=>whnf)
          ((refine CE.own (aa6 xs hx bm _ _ ⟨by omega,by omega⟩) (List.Perm.refl ([mkB bm xs _] ++ _)) (fun s'=>s' ++ _) (fun s'=>List.Perm.refl _) ?_);(rintro _ _ ⟨rfl,rfl⟩))
          repeat' first|refine sk107 ?_|(intro b;conv=>whnf)
          refine Bc.l ?_
          by_cases hz8:atE xs p3 3=0
          ·have h9:=ae2 xs (p3+1) 3
           have h9':=h9.2 (by omega)
           have h10:=ae2 xs (p3+1+1) 8
           have h10':=h10.2 (by omega)
           have hrl:rs3.length≤3:=by have:=hle4.len;simp at this;omega
           repeat' first|refine sk107 ?_|(intro b;conv=>whnf)
           ((refine CE.own (aa6 xs hx bm _ _ ⟨by omega,by omega⟩) (List.Perm.refl ([mkB bm xs _] ++ _)) (fun s'=>s' ++ _) (fun s'=>List.Perm.refl _) ?_);(rintro _ _ ⟨rfl,rfl⟩))
           repeat' first|refine sk107 ?_|(intro b;conv=>whnf)
           refine dr7 ?_
           refine al6 mixed aa0 rfl [0,2,3,4] 8 (inE [1,5,9,10,11]) (.two 1 (.one 5 (.fst 6 (.fst 7 (.fst 8 (.one 9 (.one 10 (.one 11 .done))))))) 5 (.fst 6 (.fst 7 (.fst 8 (.one 1 (.one 9 (.one 10 (.one 11 .done)))))))) (γ:=Value × aa1) (fun _=>[]) (fun g=>mkB bm xs (p3+1+1+1) :: kdB b7 (knm ks.length) lo (lo+atE xs (pos+1) 5) g.1 :: (b4,.cells 85 zK) :: (g.2 ++ [(b2,.cells 85 cs2)])) (fun g=>RowIs 97 8 (rs3 ++ [fldR (ay8 (atE xs (p3+1) 3) (atE xs (p3+1+1) 8)) nilD nilD]) g.1 g.2) (by decide +kernel) ?_ ?_
           ·repeat' first|refine sk107 ?_|(intro b;conv=>whnf)|(refine And.intro ?_ ?_ <;> (conv=>whnf))|((refine CE.own (aa6 xs hx bm _ _ ⟨by omega,by omega⟩) (List.Perm.refl ([mkB bm xs _] ++ _)) (fun s'=>s' ++ _) (fun s'=>List.Perm.refl _) ?_);(rintro _ _ ⟨rfl,rfl⟩))|((refine CE.own (aa6 xs hx bm _ _ ⟨by omega,by omega⟩) (show List.Perm (_ :: mkB bm xs _ :: _) ([mkB bm xs _] ++ (_ :: _)) from List.Perm.swap _ _ _) (fun s'=>s' ++ (_ :: _)) (fun s'=>List.Perm.refl _) ?_);(rintro _ _ ⟨rfl,rfl⟩))|(refine Ap.go rfl rfl rfl rfl hr4 (τ:=mkB bm xs (p3+1+1+1) :: kdB b7 (knm ks.length) lo (lo+atE xs (pos+1) 5) fv3 :: (b4,.cells 85 zK) :: [(b2,.cells 85 cs2)]) cl22 rfl (zs:=rs3 ++ [fldR (ay8 (atE xs (p3+1) 3) (atE xs (p3+1+1) 8)) nilD nilD]) rfl (by simp;omega) (by simp;omega) (fun s'=>mkB bm xs (p3+1+1+1) :: kdB b7 (knm ks.length) lo (lo+atE xs (pos+1) 5) fv3 :: (b4,.cells 85 zK) :: (s' ++ [(b2,.cells 85 cs2)])) (fun s'=>cl23) (fun a6 c6 s6 hr6=>?_))
            all_goals exact ⟨(_,s6),(aa2 cl7),cl21,hr6⟩
           ·rintro ⟨fv6,sf6⟩ hr6
            simp only at hr6 ⊢
            repeat' first|refine sk107 ?_|(intro b;conv=>whnf)
            refine dr7 ?_
            refine al6 mixed aa0 rfl [0,1,3,4,5,6,9] 10 (inE [2,7,8,10,13,14,15,16]) (.three 2 (.two 7 (.two 8 (.one 10 (.fst 11 (.fst 12 (.one 13 (.one 14 (.one 15 (.one 16 .done))))))) 10 (.fst 11 (.fst 12 (.one 8 (.one 13 (.one 14 (.one 15 (.one 16 .done)))))))) 10 (.fst 11 (.fst 12 (.one 7 (.one 8 (.one 13 (.one 14 (.one 15 (.one 16 .done))))))))) 7 (.two 2 (.two 8 (.one 10 (.fst 11 (.fst 12 (.one 13 (.one 14 (.one 15 (.one 16 .done))))))) 10 (.fst 11 (.fst 12 (.one 8 (.one 13 (.one 14 (.one 15 (.one 16 .done)))))))) 10 (.fst 11 (.fst 12 (.one 2 (.one 8 (.one 13 (.one 14 (.one 15 (.one 16 .done))))))))) 10 (.fst 11 (.fst 12 (.two 2 (.one 7 (.one 8 (.one 13 (.one 14 (.one 15 (.one 16 .done)))))) 7 (.one 2 (.one 8 (.one 13 (.one 14 (.one 15 (.one 16 .done)))))))))) (γ:=Option Addr × Nat × aa1) (fun _=>[]) (fun g=>mkB bm xs (p3+1+1+1) :: kdB b7 (knm ks.length) lo (lo+atE xs (pos+1) 5) fv6 :: (b4,.cells 85 zK) :: (sf6 ++ ((b2,.cells 85 (cs2.set (tw0*4+3) (.v (.slice g.1 (y.fields.map fldC ++ [fldR (totF (knm ks.length)) nilD nilD]).length g.2.1)))) :: g.2.2))) (fun g=>RowIs 97 8 (y.fields.map fldC ++ [fldR (totF (knm ks.length)) nilD nilD]) (.slice g.1 (y.fields.map fldC ++ [fldR (totF (knm ks.length)) nilD nilD]).length g.2.1) g.2.2) (by decide +kernel) ?_ ?_
            ·repeat' first|refine sk107 ?_|(intro b;conv=>whnf)|(refine And.intro ?_ ?_ <;> (conv=>whnf))|(refine Ld.cellm (tb:=85) (cs:=cs2) (by simp) cl24 ?_)|(refine Ld.cellm (tb:=85) (cs:=[sD (knm ks.length),iD lo,iD (lo+atE xs (pos+1) 5),.v fv6]) (by simp) rfl ?_)|(refine Ap.go rfl rfl rfl rfl hr8 (τ:=mkB bm xs (p3+1+1+1) :: kdB b7 (knm ks.length) lo (lo+atE xs (pos+1) 5) fv6 :: (b4,.cells 85 zK) :: (sf6 ++ [(b2,.cells 85 cs2)])) cl25 rfl (zs:=y.fields.map fldC ++ [fldR (totF (knm ks.length)) nilD nilD]) rfl (by simp only [List.length_append,List.length_map,List.length_cons,List.length_nil];omega) cl26 (fun s'=>mkB bm xs (p3+1+1+1) :: kdB b7 (knm ks.length) lo (lo+atE xs (pos+1) 5) fv6 :: (b4,.cells 85 zK) :: (sf6 ++ ((b2,.cells 85 cs2) :: s'))) (fun s'=>cl23) (fun a9 c9 s9 hr9=>?_))|(refine Ap.go rfl rfl rfl rfl (RowIs.e0 97 8 (some ⟨b,0,none⟩)) (List.Perm.refl ([] ++ _)) (bn3 y.fields) (zs:=y.fields.map fldC) rfl (by rw [List.length_map];omega) (by rw [List.length_map];omega) (fun s'=>s' ++ _) (fun s'=>List.Perm.refl _) (fun a8 c8 s8 hr8=>?_))|(refine Sv.cellm (tb:=85) (cs:=cs2) (cs':=cs2.set (tw0*4+3) (.v (.slice a9 (y.fields.map fldC ++ [fldR (totF (knm ks.length)) nilD nilD]).length c9))) (τ:=mkB bm xs (p3+1+1+1) :: kdB b7 (knm ks.length) lo (lo+atE xs (pos+1) 5) fv6 :: (b4,.cells 85 zK) :: (sf6 ++ s9)) cl22 cl27 rfl (by rw [show 0+((tw0:Nat):Int).toNat*4+3=tw0*4+3 by simp]) ?_)
             all_goals exact ⟨(a9,c9,s9),(aa2 cl7),Sc.perm cl22,hr9⟩
            ·rintro ⟨a9,c9,s9⟩ hr9
             simp only at hr9 ⊢
             have hidx:=(List.getElem?_eq_some_iff.1 hc3).1
             have hkr:=RowIs.put1 (d:=slF (y.fields ++ [totF (knm ks.length)])) hrow (show (ks.map kndC)[tw0]?=some (kndC y) by rw [List.getElem?_map,hy];rfl) (show 3<4 by omega)
             have hls:(ks.map kndC).set tw0 ((kndC y).set 3 (slF (y.fields ++ [totF (knm ks.length)])))=(ks.set tw0 ⟨y.name,y.lo,y.hi,y.fields ++ [totF (knm ks.length)]⟩).map kndC:=by rw [List.map_set];rfl
             rw [hls] at hkr
             have le9:LeR (y.fields.map fldC ++ [fldR (totF (knm ks.length)) nilD nilD]) ((y.fields ++ [totF (knm ks.length)]).map fldC):=by rw [List.map_append];exact (LeR.refl _).append (.cons (.cons (Le.refl _) (.cons (Le.refl _) (.cons (Le.refl _) (.cons (Le.refl _) (.cons (Le.refl _) (.cons (Le.refl _) (.cons (ae1 1) (.cons (ae1 1) .nil)))))))) .nil)
             have hfz:=Sc.frz (b:=b2) (t:=85) (τ:=mkB bm xs (p3+1+1+1) :: kdB b7 (knm ks.length) lo (lo+atE xs (pos+1) 5) fv6 :: (b4,.cells 85 zK) :: sf6) (List.getElem?_set_self (a:=D.v (.slice a9 (y.fields.map fldC ++ [fldR (totF (knm ks.length)) nilD nilD]).length c9)) hidx) hr9 le9
             rw [List.set_set] at hfz
             change Sc _ ((b2,.cells 85 (cs2.set (tw0*4+3) (slF (y.fields ++ [totF (knm ks.length)])))) :: _) at hfz
             have hle6:LeR (rs3 ++ [fldR (ay8 (atE xs (p3+1) 3) (atE xs (p3+1+1) 8)) nilD nilD]) ((idF idl :: ofF y l9 hi :: (sm ++ [ay8 (atE xs (p3+1) 3) (atE xs (p3+1+1) 8)])).map fldC):=by
              have:=hle4.append (LeR.cons (x:=fldR (ay8 (atE xs (p3+1) 3) (atE xs (p3+1+1) 8)) nilD nilD) (y:=fldC (ay8 (atE xs (p3+1) 3) (atE xs (p3+1+1) 8))) (.cons (Le.refl _) (.cons (Le.refl _) (.cons (Le.refl _) (.cons (Le.refl _) (.cons (Le.refl _) (.cons (Le.refl _) (.cons (ae1 1) (.cons (ae1 1) .nil)))))))) .nil)
              simpa using this
             repeat' first|refine sk107 ?_|(intro b;conv=>whnf)
             exact ⟨(⟨p3+1+1+1,fv6,_,sf6,ks.set tw0 ⟨y.name,y.lo,y.hi,y.fields ++ [totF (knm ks.length)]⟩,[(b2,.cells 85 (cs2.set (tw0*4+3) (slF (y.fields ++ [totF (knm ks.length)]))))]⟩,ofF y l9 hi :: (sm ++ [ay8 (atE xs (p3+1) 3) (atE xs (p3+1+1) 8)])),(aa2 cl7),(Sc.perm cl22).trans (hfz.trans (Sc.perm cl22)),⟨by simp only;omega,by simp only;omega⟩,⟨hr6,hle6,hkr,by simp⟩,RefP.part tw0 y l9 hi _ _ sm hy hl9 hhi hsm ht ⟨h9.1,h9'⟩ ⟨h10.1,h10'⟩,by simp;omega⟩
          ·repeat' first|refine sk107 ?_|(intro b;conv=>whnf)
           exact ⟨(⟨p3+1,fv3,rs3,sf3,ks,[(b2,.cells 85 cs2)]⟩,ofF y l9 hi :: sm),(aa2 cl7),cl21,⟨by simp only;omega,by simp only;omega⟩,⟨hr4,hle4,hrow,rfl⟩,RefP.of tw0 y l9 hi sm hy hl9 hhi hsm,by simp;omega⟩
         ·repeat' first|refine sk107 ?_|(intro b;conv=>whnf)
          refine Bc.l ?_
          repeat' first|refine sk107 ?_|(intro b;conv=>whnf)
          exact ⟨(⟨p3,fv3,rs3,sf3,ks,[(b2,.cells 85 cs2)]⟩,ofF y l9 hi :: sm),(aa2 cl7),cl21,⟨by simp only;omega,by simp only;omega⟩,⟨hr4,hle4,hrow,rfl⟩,RefP.of tw0 y l9 hi sm hy hl9 hhi hsm,by simp;omega⟩
    ·repeat' first|refine sk107 ?_|(intro b;conv=>whnf)
     exact ⟨(⟨pos+1+1+1,fv,_,sf,ks,sk⟩,[]),(aa2 cl7),cl21,⟨by simp only;omega,by simp only;omega⟩,⟨hfr,.cons (.cons (Le.refl _) (.cons (Le.refl _) (.cons (Le.refl _) (.cons (Le.refl _) (.cons (Le.refl _) (.cons (Le.refl _) (.cons (ae1 1) (.cons (ae1 1) .nil)))))))) .nil,hrow,rfl⟩,RefP.none (List.length_eq_zero_iff.1 (by omega)),by simp⟩
   ·rintro ⟨⟨p1,fv1,rs1,sf1,ks1,sk1⟩,f1⟩ ⟨⟨hp1,hp1'⟩,⟨hr1,hle1,hkr1,hkl1⟩,hRef,hf1⟩
    simp only [kS] at hp1 hp1' hr1 hle1 hkr1 hkl1 hRef hf1 ⊢
    have hl1:rs1.length≤4:=by have:=hle1.len;simp at this;omega
    by_cases hn1:1<ks.length
    ·have h11:=ae2 xs p1 3
     repeat' first|refine sk107 ?_|(intro b;conv=>whnf)
     ((refine CE.own (aa6 xs hx bm _ _ ⟨by omega,by omega⟩) (List.Perm.refl ([mkB bm xs _] ++ _)) (fun s'=>s' ++ _) (fun s'=>List.Perm.refl _) ?_);(rintro _ _ ⟨rfl,rfl⟩))
     repeat' first|refine sk107 ?_|(intro b;conv=>whnf)
     refine Bc.j ?_
     refine as7 mixed aa0 (γ:=Int × Value × List (List D) × aa1 × List Fld) (fun _=>[]) (fun g=>mkB bm xs g.1 :: kdB b7 (knm ks.length) lo (lo+atE xs (pos+1) 5) g.2.1 :: (b4,.cells 85 zK) :: (g.2.2.2.1 ++ sk1)) (fun g=>(pos+3≤g.1∧g.1≤pos+35)∧RowIs 97 8 g.2.2.1 g.2.1 g.2.2.2.1∧LeR g.2.2.1 ((idF idl :: (f1 ++ g.2.2.2.2)).map fldC)∧(g.2.2.2.2=[]∨∃ y,ks[0]?=some y∧1<ks.length∧g.2.2.2.2=[byF y])) ?_ ?_
     ·(((with_reducible refine W.mk ?_);(conv=>whnf)))
      refine Bc.l ?_
      by_cases hz11:atE xs p1 3=0
      ·obtain ⟨y1,hy1⟩:∃ y,ks1[0]?=some y:=⟨_,List.getElem?_eq_getElem (by omega)⟩
       obtain ⟨b12,cap12,cs12,e12,rfl,hcs12⟩:=RowIs.get hkr1 (show (ks1.map kndC)[0]?=some (kndC y1) by rw [List.getElem?_map,hy1];rfl)
       rw [List.length_map] at e12
       have hc10:cs12[0]?=some (sD y1.name):=hcs12 0 (by omega)
       obtain ⟨y0,hy0,hny⟩:=hRef.name0 hy1
       rw [hkl1] at e12
       cases e12
       repeat' first|refine sk107 ?_|(intro b;conv=>whnf)
       refine Dr.l (by decide +kernel) ?_
       repeat' first|refine sk107 ?_|(intro b;conv=>whnf)
       refine Ld.cellm (tb:=85) (cs:=cs12) (by simp) hc10 ?_
       repeat' first|refine sk107 ?_|(intro b;conv=>whnf)
       refine Ap.go rfl rfl rfl rfl hr1 (τ:=mkB bm xs (p1+1) :: kdB b7 (knm ks.length) lo (lo+atE xs (pos+1) 5) fv1 :: (b4,.cells 85 zK) :: [(b12,.cells 85 cs12)]) cl22 rfl (zs:=rs1 ++ [fldR (byF y1) nilD nilD]) rfl (by simp;omega) (by simp;omega) (fun s'=>mkB bm xs (p1+1) :: kdB b7 (knm ks.length) lo (lo+atE xs (pos+1) 5) fv1 :: (b4,.cells 85 zK) :: (s' ++ [(b12,.cells 85 cs12)])) (fun s'=>cl23) (fun a13 c13 s13 hr13=>?_)
       repeat' first|refine sk107 ?_|(intro b;conv=>whnf)
       exact ⟨(p1+1,_,_,s13,[byF y1]),(aa2 cl7),cl21,⟨by simp only;omega,by simp only;omega⟩,hr13,by simpa using hle1.append (LeR.cons (x:=fldR (byF y1) nilD nilD) (y:=fldC (byF y1)) (.cons (Le.refl _) (.cons (Le.refl _) (.cons (Le.refl _) (.cons (Le.refl _) (.cons (Le.refl _) (.cons (Le.refl _) (.cons (ae1 1) (.cons (ae1 1) .nil)))))))) .nil),.inr ⟨y0,hy0,hn1,by simp [byF,hny]⟩⟩
      ·repeat' first|refine sk107 ?_|(intro b;conv=>whnf)
       exact ⟨(p1+1,fv1,rs1,sf1,[]),(aa2 cl7),cl21,⟨by simp only;omega,by simp only;omega⟩,hr1,by simpa using hle1,.inl rfl⟩
     ·rintro ⟨p4,fv4,rs4,sf4,f2⟩ ⟨⟨hp4,hp4'⟩,hr4,hle4,hf2⟩
      simp only at hp4 hp4' hr4 hle4 hf2 ⊢
      have hl2:f2.length≤1:=by rcases hf2 with rfl|⟨_,_,_,rfl⟩ <;> simp
      have hl4:rs4.length≤10:=by have:=hle4.len;simp at this;omega
      repeat' first|refine sk107 ?_|(intro b;conv=>whnf)
      refine CE.own (aA5 xs hx bm _ ⟨by omega,by omega⟩) (List.Perm.refl ([mkB bm xs _] ++ _)) (fun s'=>s' ++ _) (fun s'=>List.Perm.refl _) ?_
      rintro _ _ ⟨p5,fs1,⟨hp5,hp5'⟩,rfl,rfl,hP1⟩
      have hn1:=hP1.two
      repeat' first|refine sk107 ?_|(intro b;conv=>whnf)
      refine Ap.go rfl rfl rfl rfl hr4 (τ:=mkB bm xs p5 :: kdB b7 (knm ks.length) lo (lo+atE xs (pos+1) 5) fv4 :: (b4,.cells 85 zK) :: sk1) cl22 (bn3 fs1) (zs:=rs4 ++ fs1.map fldC) rfl (by rw [List.length_append,List.length_map];omega) (by rw [List.length_append,List.length_map];omega) (fun s'=>mkB bm xs p5 :: kdB b7 (knm ks.length) lo (lo+atE xs (pos+1) 5) fv4 :: (b4,.cells 85 zK) :: (s' ++ sk1)) (fun s'=>cl23) (fun a14 c14 s14 hr14=>?_)
      have le14:LeR (rs4 ++ fs1.map fldC) ((idF idl :: (f1 ++ (f2 ++ fs1))).map fldC):=by
       have:=hle4.append (LeR.refl (fs1.map fldC))
       simpa using this
      have hl14:(rs4 ++ fs1.map fldC).length≤12:=by rw [List.length_append,List.length_map];omega
      have h15:=ae2 xs p5 2
      repeat' first|refine sk107 ?_|(intro b;conv=>whnf)
      ((refine CE.own (aa6 xs hx bm _ _ ⟨by omega,by omega⟩) (List.Perm.refl ([mkB bm xs _] ++ _)) (fun s'=>s' ++ _) (fun s'=>List.Perm.refl _) ?_);(rintro _ _ ⟨rfl,rfl⟩))
      generalize rs4 ++ fs1.map fldC=rs14 at *
      repeat' first|refine sk107 ?_|(intro b;conv=>whnf)
      refine Bc.j ?_
      refine as7 mixed aa0 (γ:=Int × Value × List (List D) × aa1 × List Fld) (fun _=>[]) (fun g=>mkB bm xs g.1 :: kdB b7 (knm ks.length) lo (lo+atE xs (pos+1) 5) g.2.1 :: (b4,.cells 85 zK) :: (g.2.2.2.1 ++ sk1)) (fun g=>(pos+3≤g.1∧g.1≤pos+80)∧RowIs 97 8 g.2.2.1 g.2.1 g.2.2.2.1∧LeR g.2.2.1 ((idF idl :: (f1 ++ (f2 ++ (fs1 ++ g.2.2.2.2)))).map fldC)∧PlainF g.2.2.2.2∧(g.2.2.2.2=[]∨∃ h hs,g.2.2.2.2=h :: hs∧ap5 (idF idl :: (f1 ++ (f2 ++ fs1))) h.name<0)) ?_ ?_
      ·(((with_reducible refine W.mk ?_);(conv=>whnf)))
       refine Bc.l ?_
       by_cases hz15:atE xs p5 2=0
       ·repeat' first|refine sk107 ?_|(intro b;conv=>whnf)
        refine CE.own (aA5 xs hx bm _ ⟨by omega,by omega⟩) (List.Perm.refl ([mkB bm xs _] ++ _)) (fun s'=>s' ++ _) (fun s'=>List.Perm.refl _) ?_
        rintro _ _ ⟨p6,fs2,⟨hp6,hp6'⟩,rfl,rfl,hP2⟩
        have hn2:=hP2.two
        cases fs2 with
        | nil=>
         repeat' first|refine sk107 ?_|(intro b;conv=>whnf)
         refine Dr.l (by decide +kernel) ?_
         repeat' first|refine sk107 ?_|(intro b;conv=>whnf)
         refine Bc.l ?_
         repeat' first|refine sk107 ?_|(intro b;conv=>whnf)
         exact ⟨(p6,_,_,s14,[]),(aa2 cl7),cl21,⟨by simp only;omega,by simp only;omega⟩,hr14,by simpa using le14,PlainF.none,.inl rfl⟩
        | cons h2 fs2=>
         have HH:=aJ7 (idF idl :: (f1 ++ (f2 ++ fs1))) h2.name (by simp only [List.length_cons,List.length_append];omega)
         have h20:(h2 :: fs2)[Int.toNat 0]?=some h2:=rfl
         repeat' first|refine sk107 ?_|(intro b;conv=>whnf)
         refine Dr.l (by decide +kernel) ?_
         repeat' first|refine sk107 ?_|(intro b;conv=>whnf)
         refine Cp.pk (APk.peek (.cons (Pk.rowLe (τ:=mkB bm xs p6 :: kdB b7 (knm ks.length) lo (lo+atE xs (pos+1) 5) (.slice a14 rs14.length c14) :: (b4,.cells 85 zK) :: sk1) hr14 le14 cl22) (.cons (Pk.same _) .nil)) HH rfl) ?_
         by_cases hx2:ap5 (idF idl :: (f1 ++ (f2 ++ fs1))) h2.name<0
         ·repeat' first|refine sk107 ?_|(intro b;conv=>whnf)
          refine Bc.l ?_
          repeat' first|refine sk107 ?_|(intro b;conv=>whnf)
          refine Ap.go rfl rfl rfl rfl hr14 (τ:=mkB bm xs p6 :: kdB b7 (knm ks.length) lo (lo+atE xs (pos+1) 5) (.slice a14 rs14.length c14) :: (b4,.cells 85 zK) :: sk1) cl22 (bn3 (h2 :: fs2)) (zs:=rs14 ++ (h2 :: fs2).map fldC) rfl (by rw [List.length_append,List.length_map];omega) (by rw [List.length_append,List.length_map];omega) (fun s'=>mkB bm xs p6 :: kdB b7 (knm ks.length) lo (lo+atE xs (pos+1) 5) (.slice a14 rs14.length c14) :: (b4,.cells 85 zK) :: (s' ++ sk1)) (fun s'=>cl23) (fun a16 c16 s16 hr16=>?_)
          repeat' first|refine sk107 ?_|(intro b;conv=>whnf)
          exact ⟨(p6,_,_,s16,h2 :: fs2),(aa2 cl7),cl21,⟨by simp only;omega,by simp only;omega⟩,hr16,by have:=le14.append (LeR.refl ((h2 :: fs2).map fldC));simpa using this,hP2,.inr ⟨h2,fs2,rfl,hx2⟩⟩
         ·repeat' first|refine sk107 ?_|(intro b;conv=>whnf)
          refine Bc.l ?_
          repeat' first|refine sk107 ?_|(intro b;conv=>whnf)
          exact ⟨(p6,_,_,s14,[]),(aa2 cl7),cl21,⟨by simp only;omega,by simp only;omega⟩,hr14,by simpa using le14,PlainF.none,.inl rfl⟩
       ·repeat' first|refine sk107 ?_|(intro b;conv=>whnf)
        exact ⟨(p5+1,_,_,s14,[]),(aa2 cl7),cl21,⟨by simp only;omega,by simp only;omega⟩,hr14,by simpa using le14,PlainF.none,.inl rfl⟩
      ·rintro ⟨p7,fv7,rs7,sf7,p2⟩ ⟨⟨hp7,hp7'⟩,hr7,hle7,hP2,hp2⟩
       simp only at hp7 hp7' hr7 hle7 hP2 hp2 ⊢
       obtain ⟨a17,c17,rfl⟩:=hr7.slice
       repeat' first|refine sk107 ?_|(intro b;conv=>whnf)
       refine Rs.c aa0 (m:=2) rfl rfl rfl rfl rfl rfl ?_
       repeat' first|refine sk107 ?_|(intro b;conv=>whnf)
       have hs1:∀ z,z∈ab4 (mkB bm xs p7 :: sk1)→z∈ab4 (mkB bm xs p7 :: kdB b7 (knm ks.length) lo (lo+atE xs (pos+1) 5) (.slice a17 rs7.length c17) :: kdB b4 (knm ks.length) lo (lo+atE xs (pos+1) 5) (.slice a17 rs7.length c17) :: (sf7 ++ sk1)):=by
        intro z hz;simp only [ab4,List.map_cons,List.map_append,List.mem_cons,List.mem_append] at hz ⊢;rcases hz with hz|hz <;> simp [hz]
       have hs2:∀ z,z∈ab4 (mkB bm xs p7 :: sk1)→z∈ab4 (mkB bm xs p7 :: kdB b7 (knm ks.length) lo (lo+atE xs (pos+1) 5) (.slice a17 rs7.length c17) :: kdB b4 (knm ks.length) lo (lo+atE xs (pos+1) 5) (.slice a17 rs7.length c17) :: sk1):=by
        intro z hz;simp only [ab4,List.map_cons,List.map_append,List.mem_cons,List.mem_append] at hz ⊢;rcases hz with hz|hz <;> simp [hz]
       refine Rt.by (σ':=mkB bm xs p7 :: sk1) (d':=kndD ⟨knm ks.length,lo,lo+atE xs (pos+1) 5,idF idl :: (f1 ++ (f2 ++ (fs1 ++ p2)))⟩) (Vs.vd ⟨kdB b7 (knm ks.length) lo (lo+atE xs (pos+1) 5) (.slice a17 rs7.length c17) :: kdB b4 (knm ks.length) lo (lo+atE xs (pos+1) 5) (.slice a17 rs7.length c17) :: sf7,by (refine ac9 fun a=>?_;simp only [kdB,mkB,List.append_eq,List.nil_append,ad1,af7,af6,sD,iD,bD];omega)⟩ (Vd.agg (.cons (Vd.same hs1 _) (.cons (Vd.same hs1 _) (.cons (Vd.same hs1 _) (.cons (Vd.rowLe (ρ:=mkB bm xs p7 :: kdB b7 (knm ks.length) lo (lo+atE xs (pos+1) 5) (.slice a17 rs7.length c17) :: kdB b4 (knm ks.length) lo (lo+atE xs (pos+1) 5) (.slice a17 rs7.length c17) :: sk1) hr7 hle7 cl22 hs2) .nil)))))) ?_
       exact ⟨p7,_,ks1,sk1,⟨by omega,by omega⟩,rfl,rfl,hkr1,⟨lo,atE xs (pos+1) 5,idl,f1,f2,fs1,p2,hlo,⟨h2.1,h2'⟩,hid,rfl,hRef,hf2,hP1,hP2,hp2⟩⟩
    ·repeat' first|refine sk107 ?_|(intro b;conv=>whnf)
     refine Bc.j ?_
     refine as7 mixed aa0 (γ:=Int × Value × List (List D) × aa1 × List Fld) (fun _=>[]) (fun g=>mkB bm xs g.1 :: kdB b7 (knm ks.length) lo (lo+atE xs (pos+1) 5) g.2.1 :: (b4,.cells 85 zK) :: (g.2.2.2.1 ++ sk1)) (fun g=>(pos+3≤g.1∧g.1≤pos+35)∧RowIs 97 8 g.2.2.1 g.2.1 g.2.2.2.1∧LeR g.2.2.1 ((idF idl :: (f1 ++ g.2.2.2.2)).map fldC)∧(g.2.2.2.2=[]∨∃ y,ks[0]?=some y∧1<ks.length∧g.2.2.2.2=[byF y])) ?_ ?_
     ·(((with_reducible refine W.mk ?_);(conv=>whnf)))
      refine Bc.l ?_
      repeat' first|refine sk107 ?_|(intro b;conv=>whnf)
      exact ⟨(p1,fv1,rs1,sf1,[]),(aa2 cl7),cl21,⟨by simp only;omega,by simp only;omega⟩,hr1,by simpa using hle1,.inl rfl⟩
     ·rintro ⟨p4,fv4,rs4,sf4,f2⟩ ⟨⟨hp4,hp4'⟩,hr4,hle4,hf2⟩
      simp only at hp4 hp4' hr4 hle4 hf2 ⊢
      have hl2:f2.length≤1:=by rcases hf2 with rfl|⟨_,_,_,rfl⟩ <;> simp
      have hl4:rs4.length≤10:=by have:=hle4.len;simp at this;omega
      repeat' first|refine sk107 ?_|(intro b;conv=>whnf)
      refine CE.own (aA5 xs hx bm _ ⟨by omega,by omega⟩) (List.Perm.refl ([mkB bm xs _] ++ _)) (fun s'=>s' ++ _) (fun s'=>List.Perm.refl _) ?_
      rintro _ _ ⟨p5,fs1,⟨hp5,hp5'⟩,rfl,rfl,hP1⟩
      have hn1:=hP1.two
      repeat' first|refine sk107 ?_|(intro b;conv=>whnf)
      refine Ap.go rfl rfl rfl rfl hr4 (τ:=mkB bm xs p5 :: kdB b7 (knm ks.length) lo (lo+atE xs (pos+1) 5) fv4 :: (b4,.cells 85 zK) :: sk1) cl22 (bn3 fs1) (zs:=rs4 ++ fs1.map fldC) rfl (by rw [List.length_append,List.length_map];omega) (by rw [List.length_append,List.length_map];omega) (fun s'=>mkB bm xs p5 :: kdB b7 (knm ks.length) lo (lo+atE xs (pos+1) 5) fv4 :: (b4,.cells 85 zK) :: (s' ++ sk1)) (fun s'=>cl23) (fun a14 c14 s14 hr14=>?_)
      have le14:LeR (rs4 ++ fs1.map fldC) ((idF idl :: (f1 ++ (f2 ++ fs1))).map fldC):=by
       have:=hle4.append (LeR.refl (fs1.map fldC))
       simpa using this
      have hl14:(rs4 ++ fs1.map fldC).length≤12:=by rw [List.length_append,List.length_map];omega
      have h15:=ae2 xs p5 2
      repeat' first|refine sk107 ?_|(intro b;conv=>whnf)
      ((refine CE.own (aa6 xs hx bm _ _ ⟨by omega,by omega⟩) (List.Perm.refl ([mkB bm xs _] ++ _)) (fun s'=>s' ++ _) (fun s'=>List.Perm.refl _) ?_);(rintro _ _ ⟨rfl,rfl⟩))
      generalize rs4 ++ fs1.map fldC=rs14 at *
      repeat' first|refine sk107 ?_|(intro b;conv=>whnf)
      refine Bc.j ?_
      refine as7 mixed aa0 (γ:=Int × Value × List (List D) × aa1 × List Fld) (fun _=>[]) (fun g=>mkB bm xs g.1 :: kdB b7 (knm ks.length) lo (lo+atE xs (pos+1) 5) g.2.1 :: (b4,.cells 85 zK) :: (g.2.2.2.1 ++ sk1)) (fun g=>(pos+3≤g.1∧g.1≤pos+80)∧RowIs 97 8 g.2.2.1 g.2.1 g.2.2.2.1∧LeR g.2.2.1 ((idF idl :: (f1 ++ (f2 ++ (fs1 ++ g.2.2.2.2)))).map fldC)∧PlainF g.2.2.2.2∧(g.2.2.2.2=[]∨∃ h hs,g.2.2.2.2=h :: hs∧ap5 (idF idl :: (f1 ++ (f2 ++ fs1))) h.name<0)) ?_ ?_
      ·(((with_reducible refine W.mk ?_);(conv=>whnf)))
       refine Bc.l ?_
       by_cases hz15:atE xs p5 2=0
       ·repeat' first|refine sk107 ?_|(intro b;conv=>whnf)
        refine CE.own (aA5 xs hx bm _ ⟨by omega,by omega⟩) (List.Perm.refl ([mkB bm xs _] ++ _)) (fun s'=>s' ++ _) (fun s'=>List.Perm.refl _) ?_
        rintro _ _ ⟨p6,fs2,⟨hp6,hp6'⟩,rfl,rfl,hP2⟩
        have hn2:=hP2.two
        cases fs2 with
        | nil=>
         repeat' first|refine sk107 ?_|(intro b;conv=>whnf)
         refine Dr.l (by decide +kernel) ?_
         repeat' first|refine sk107 ?_|(intro b;conv=>whnf)
         refine Bc.l ?_
         repeat' first|refine sk107 ?_|(intro b;conv=>whnf)
         exact ⟨(p6,_,_,s14,[]),(aa2 cl7),cl21,⟨by simp only;omega,by simp only;omega⟩,hr14,by simpa using le14,PlainF.none,.inl rfl⟩
        | cons h2 fs2=>
         have HH:=aJ7 (idF idl :: (f1 ++ (f2 ++ fs1))) h2.name (by simp only [List.length_cons,List.length_append];omega)
         have h20:(h2 :: fs2)[Int.toNat 0]?=some h2:=rfl
         repeat' first|refine sk107 ?_|(intro b;conv=>whnf)
         refine Dr.l (by decide +kernel) ?_
         repeat' first|refine sk107 ?_|(intro b;conv=>whnf)
         refine Cp.pk (APk.peek (.cons (Pk.rowLe (τ:=mkB bm xs p6 :: kdB b7 (knm ks.length) lo (lo+atE xs (pos+1) 5) (.slice a14 rs14.length c14) :: (b4,.cells 85 zK) :: sk1) hr14 le14 cl22) (.cons (Pk.same _) .nil)) HH rfl) ?_
         by_cases hx2:ap5 (idF idl :: (f1 ++ (f2 ++ fs1))) h2.name<0
         ·repeat' first|refine sk107 ?_|(intro b;conv=>whnf)
          refine Bc.l ?_
          repeat' first|refine sk107 ?_|(intro b;conv=>whnf)
          refine Ap.go rfl rfl rfl rfl hr14 (τ:=mkB bm xs p6 :: kdB b7 (knm ks.length) lo (lo+atE xs (pos+1) 5) (.slice a14 rs14.length c14) :: (b4,.cells 85 zK) :: sk1) cl22 (bn3 (h2 :: fs2)) (zs:=rs14 ++ (h2 :: fs2).map fldC) rfl (by rw [List.length_append,List.length_map];omega) (by rw [List.length_append,List.length_map];omega) (fun s'=>mkB bm xs p6 :: kdB b7 (knm ks.length) lo (lo+atE xs (pos+1) 5) (.slice a14 rs14.length c14) :: (b4,.cells 85 zK) :: (s' ++ sk1)) (fun s'=>cl23) (fun a16 c16 s16 hr16=>?_)
          repeat' first|refine sk107 ?_|(intro b;conv=>whnf)
          exact ⟨(p6,_,_,s16,h2 :: fs2),(aa2 cl7),cl21,⟨by simp only;omega,by simp only;omega⟩,hr16,by have:=le14.append (LeR.refl ((h2 :: fs2).map fldC));simpa using this,hP2,.inr ⟨h2,fs2,rfl,hx2⟩⟩
         ·repeat' first|refine sk107 ?_|(intro b;conv=>whnf)
          refine Bc.l ?_
          repeat' first|refine sk107 ?_|(intro b;conv=>whnf)
          exact ⟨(p6,_,_,s14,[]),(aa2 cl7),cl21,⟨by simp only;omega,by simp only;omega⟩,hr14,by simpa using le14,PlainF.none,.inl rfl⟩
       ·repeat' first|refine sk107 ?_|(intro b;conv=>whnf)
        exact ⟨(p5+1,_,_,s14,[]),(aa2 cl7),cl21,⟨by simp only;omega,by simp only;omega⟩,hr14,by simpa using le14,PlainF.none,.inl rfl⟩
      ·rintro ⟨p7,fv7,rs7,sf7,p2⟩ ⟨⟨hp7,hp7'⟩,hr7,hle7,hP2,hp2⟩
       simp only at hp7 hp7' hr7 hle7 hP2 hp2 ⊢
       obtain ⟨a17,c17,rfl⟩:=hr7.slice
       repeat' first|refine sk107 ?_|(intro b;conv=>whnf)
       refine Rs.c aa0 (m:=2) rfl rfl rfl rfl rfl rfl ?_
       repeat' first|refine sk107 ?_|(intro b;conv=>whnf)
       have hs1:∀ z,z∈ab4 (mkB bm xs p7 :: sk1)→z∈ab4 (mkB bm xs p7 :: kdB b7 (knm ks.length) lo (lo+atE xs (pos+1) 5) (.slice a17 rs7.length c17) :: kdB b4 (knm ks.length) lo (lo+atE xs (pos+1) 5) (.slice a17 rs7.length c17) :: (sf7 ++ sk1)):=by
        intro z hz;simp only [ab4,List.map_cons,List.map_append,List.mem_cons,List.mem_append] at hz ⊢;rcases hz with hz|hz <;> simp [hz]
       have hs2:∀ z,z∈ab4 (mkB bm xs p7 :: sk1)→z∈ab4 (mkB bm xs p7 :: kdB b7 (knm ks.length) lo (lo+atE xs (pos+1) 5) (.slice a17 rs7.length c17) :: kdB b4 (knm ks.length) lo (lo+atE xs (pos+1) 5) (.slice a17 rs7.length c17) :: sk1):=by
        intro z hz;simp only [ab4,List.map_cons,List.map_append,List.mem_cons,List.mem_append] at hz ⊢;rcases hz with hz|hz <;> simp [hz]
       refine Rt.by (σ':=mkB bm xs p7 :: sk1) (d':=kndD ⟨knm ks.length,lo,lo+atE xs (pos+1) 5,idF idl :: (f1 ++ (f2 ++ (fs1 ++ p2)))⟩) (Vs.vd ⟨kdB b7 (knm ks.length) lo (lo+atE xs (pos+1) 5) (.slice a17 rs7.length c17) :: kdB b4 (knm ks.length) lo (lo+atE xs (pos+1) 5) (.slice a17 rs7.length c17) :: sf7,by (refine ac9 fun a=>?_;simp only [kdB,mkB,List.append_eq,List.nil_append,ad1,af7,af6,sD,iD,bD];omega)⟩ (Vd.agg (.cons (Vd.same hs1 _) (.cons (Vd.same hs1 _) (.cons (Vd.same hs1 _) (.cons (Vd.rowLe (ρ:=mkB bm xs p7 :: kdB b7 (knm ks.length) lo (lo+atE xs (pos+1) 5) (.slice a17 rs7.length c17) :: kdB b4 (knm ks.length) lo (lo+atE xs (pos+1) 5) (.slice a17 rs7.length c17) :: sk1) hr7 hle7 cl22 hs2) .nil)))))) ?_
       exact ⟨p7,_,ks1,sk1,⟨by omega,by omega⟩,rfl,rfl,hkr1,⟨lo,atE xs (pos+1) 5,idl,f1,f2,fs1,p2,hlo,⟨h2.1,h2'⟩,hid,rfl,hRef,hf2,hP1,hP2,hp2⟩⟩
end
section
open Go
theorem CF.e0 {nm of up:ByteArray} {kd lo hi:Int} (h1:nm.size≤12) (h2:of.size≤12) (h3:up.size≤12) (h4:0≤kd∧kd≤8) (h5:-1000≤lo∧lo≤1000) (h6:-1000≤hi∧hi≤1000):CF ⟨nm,of,up,kd,lo,hi,[],[]⟩:=
 ⟨h1,h2,h3,by simp,by simp,by simp,by simp,h4,h5,h6⟩
theorem PlainF.cf {fs:List Fld} (h:PlainF fs):fs.length≤2∧∀ f∈fs,CF f:=by
 cases h with
 | none=>exact ⟨by simp,by simp⟩
 | size a b ha hb=>exact ⟨by simp,fun f hf=>by rw [List.mem_singleton] at hf;subst hf;exact .e0 (by decide) (by decide) (by decide) (by omega) (by omega) (by omega)⟩
 | tag n ws hn hw h0 h1=>
  refine ⟨by simp,fun f hf=>?_⟩
  rw [List.mem_singleton] at hf
  subst hf
  refine ⟨show nTag.size≤12 by decide,show nE.size≤12 by decide,show nE.size≤12 by decide,?_,fun s hs=>?_,by show ws.length≤3;omega,fun z hz=>?_,show (0:Int)≤3∧(3:Int)≤8 by decide,show (-1000:Int)≤0∧(0:Int)≤1000 by decide,show (-1000:Int)≤0∧(0:Int)≤1000 by decide⟩
  ·show (List.take n _).length≤3
   rw [List.length_take];simp;omega
  ·have:=List.mem_of_mem_take hs
   simp only [List.mem_cons,List.not_mem_nil,or_false] at this
   rcases this with rfl|rfl|rfl <;> decide
  ·have:=h0 z hz;omega
 | born a b c d ha hb hc hd=>
  refine ⟨by simp,fun f hf=>?_⟩
  simp only [List.mem_cons,List.not_mem_nil,or_false] at hf
  rcases hf with rfl|rfl
  ·exact .e0 (by decide) (by decide) (by decide) (by omega) (by omega) (by omega)
  ·exact .e0 (by decide) (by decide) (by decide) (by omega) (by omega) (by omega)
 | state a b ha hb=>exact ⟨by simp,fun f hf=>by rw [List.mem_singleton] at hf;subst hf;exact .e0 (by decide) (by decide) (by decide) (by omega) (by omega) (by omega)⟩
 | low a b c d ha hb hc hd=>
  refine ⟨by simp,fun f hf=>?_⟩
  simp only [List.mem_cons,List.not_mem_nil,or_false] at hf
  rcases hf with rfl|rfl
  ·exact .e0 (by decide) (by decide) (by decide) (by omega) (by omega) (by omega)
  ·exact .e0 (by decide) (by decide) (by decide) (by omega) (by omega) (by omega)
structure CK1 (k:Knd):Prop where
 ck:CK k
 one:k.fields.length≤9∨0≤ap5 k.fields aB4
theorem ci8 (n:Nat) (h:n≤2):1≤(knm n).size∧(knm n).size≤12:=by
 rcases n with _ | _ | _|n
 ·decide
 ·decide
 ·decide
 ·omega
theorem RefP.cf {ks ks':List Knd} {nm:ByteArray} {f1:List Fld} (h:RefP ks nm f1 ks') (hn:nm.size≤12) (hk:∀ k∈ks,CK1 k):(f1.length≤3∧∀ f∈f1,CF f)∧ks'.length=ks.length∧∀ k∈ks',CK1 k:=by
 have ofc:∀ {tw0:Nat} {y:Knd} {lo hi:Int},ks[tw0]?=some y→(lo=0∨lo=1)→hi∈[(4:Int),3,8,2]→CF (ofF y lo hi):=fun hy hl hh=>by
  have:=(hk _ (List.mem_of_getElem? hy)).ck.nm
  simp only [List.mem_cons,List.not_mem_nil,or_false] at hh
  exact .e0 (by decide) (by omega) (by decide) (by decide) (by omega) (by omega)
 have smc:∀ {tw0:Nat} {y:Knd} {sm:List Fld},ks[tw0]?=some y→(sm=[]∨∃ g,0≤as3 y∧y.fields[(as3 y).toNat]?=some g∧sm=[bd4 g.name])→sm.length≤1∧∀ f∈sm,CF f:=fun hy hs=>by
  rcases hs with rfl|⟨g,_,hg,rfl⟩
  ·exact ⟨by simp,by simp⟩
  ·have:=((hk _ (List.mem_of_getElem? hy)).ck.fs g (List.mem_of_getElem? hg)).nm
   exact ⟨by simp,fun f hf=>by rw [List.mem_singleton] at hf;subst hf;exact .e0 (by decide) (by omega) (by decide) (by decide) (by decide) (by decide)⟩
 cases h with
 | none h=>exact ⟨⟨by simp,by simp⟩,rfl,hk⟩
 | of tw0 y lo hi sm hy hl hh hs=>
  have h1:=ofc hy hl hh
  have h2:=smc hy hs
  exact ⟨⟨by have:=h2.1;simp only [List.length_cons];omega,fun f hf=>by
   rcases List.mem_cons.1 hf with rfl|hf
   ·exact h1
   ·exact h2.2 f hf⟩,rfl,hk⟩
 | part tw0 y lo hi a b sm hy hl hh hs ht ha hb=>
  have h1:=ofc hy hl hh
  have h2:=smc hy hs
  have h3:=hk _ (List.mem_of_getElem? hy)
  refine ⟨⟨by have:=h2.1;simp only [List.length_cons,List.length_append,List.length_nil];omega,fun f hf=>?_⟩,List.length_set ..,fun k hk'=>?_⟩
  ·rcases List.mem_cons.1 hf with rfl|hf
   ·exact h1
   ·rcases List.mem_append.1 hf with hf|hf
    ·exact h2.2 f hf
    ·rw [List.mem_singleton] at hf;subst hf;exact .e0 (by decide) (by decide) (by decide) (by decide) (by omega) (by omega)
  ·rcases List.mem_or_eq_of_mem_set hk' with h|rfl
   ·exact hk k h
   ·refine ⟨⟨h3.ck.nm,h3.ck.lo,h3.ck.hi,?_,fun f hf=>?_⟩,.inr ?_⟩
    ·show (y.fields ++ [totF nm]).length≤10
     rw [List.length_append]
     have:=h3.one
     simp only [List.length_cons,List.length_nil]
     omega
    ·rcases List.mem_append.1 hf with hf|hf
     ·exact h3.ck.fs f hf
     ·rw [List.mem_singleton] at hf;subst hf;exact .e0 (by decide) hn (by decide) (by decide) (by decide) (by decide)
    ·have:=ap1 (fun f:Fld=>seq f.name aB4) (y.fields ++ [totF nm])
     rw [List.any_append,show List.any [totF nm] (fun f=>seq f.name aB4)=true by simp [totF,aA4],Bool.or_true] at this
     exact of_decide_eq_true this
theorem KMade.cls {ks ks':List Knd} {k:Knd} (h:KMade ks k ks') (hl:ks.length≤2) (hk:∀ k∈ks,CK1 k):CK1 k∧ks'.length=ks.length∧∀ k∈ks',CK1 k:=by
 obtain ⟨lo,r,idl,f1,f2,p1,p2,h1,h2,h3,rfl,h5,h6,h7,h8,_⟩:=h.ex
 have hn:=ci8 ks.length hl
 obtain ⟨⟨q1,q2⟩,q3,q4⟩:=h5.cf hn.2 hk
 have q5:=h7.cf
 have q6:=h8.cf
 have q7:f2.length≤1∧∀ f∈f2,CF f:=by
  rcases h6 with rfl|⟨y,hy,_,rfl⟩
  ·exact ⟨by simp,by simp⟩
  ·have:=(hk _ (List.mem_of_getElem? hy)).ck.nm
   exact ⟨by simp,fun f hf=>by rw [List.mem_singleton] at hf;subst hf;exact .e0 (by decide) (by omega) (by decide) (by decide) (by decide) (by decide)⟩
 have hlen:(idF idl :: (f1 ++ (f2 ++ (p1 ++ p2)))).length≤9:=by
  simp only [List.length_cons,List.length_append];omega
 simp only [List.mem_cons,List.not_mem_nil,or_false] at h1 h3
 refine ⟨⟨⟨hn,by show -1000≤lo∧lo≤1000;omega,by show -1000≤lo+r∧lo+r≤1000;omega,by show List.length (idF idl :: (f1 ++ (f2 ++ (p1 ++ p2))))≤10;omega,fun f hf=>?_⟩,.inl hlen⟩,q3,q4⟩
 rcases List.mem_cons.1 hf with rfl|hf
 ·exact .e0 (by decide) (by decide) (by decide) (by decide) (by omega) (by decide)
 ·rcases List.mem_append.1 hf with hf|hf
  ·exact q2 f hf
  ·rcases List.mem_append.1 hf with hf|hf
   ·exact q7.2 f hf
   ·rcases List.mem_append.1 hf with hf|hf
    ·exact q5.2 f hf
    ·exact q6.2 f hf
end
section
open Go Go.RowKit Go.Shelf
inductive KChain:List Knd→Prop
 | nil:KChain []
 | step {ks ks':List Knd} {k:Knd} (h:KChain ks) (m:KMade ks k ks') (l:ks'.length=ks.length):KChain (ks' ++ [k])
inductive RChain (ks:List Knd):Nat→List Rul→Prop
 | nil:RChain ks 0 []
 | skip {i:Nat} {rs:List Rul} (h:RChain ks i rs):RChain ks (i+1) rs
 | take {i:Nat} {rs:List Rul} {k:Knd} {r:Rul} (h:RChain ks i rs) (hk:ks[i]?=some k) (hr:RuleF k r):RChain ks (i+1) (rs ++ [r])
theorem KChain.ck {ks:List Knd} (h:KChain ks) (hl:ks.length≤3):∀ k∈ks,CK1 k:=by
 induction h with
 | nil=>simp
 | step h m l ih=>
  rw [List.length_append,List.length_singleton] at hl
  obtain ⟨h1,h2,h3⟩:=m.cls (by omega) (ih (by omega))
  intro k hk
  rcases List.mem_append.1 hk with hk|hk
  ·exact h3 k hk
  ·rw [List.mem_singleton] at hk;subst hk;exact h1
abbrev stL:List ByteArray:=[⟨#[110,101,119]⟩,⟨#[111,112,101,110]⟩,⟨#[100,111,110,101]⟩,⟨#[115,104,117,116]⟩]
structure GenX (x:Sch):Prop where
 ver:0≤x.version∧x.version<4
 nk:1≤x.kinds.length∧x.kinds.length≤3
 ks:KChain x.kinds
 ls:∃ (m:Nat) (mv:List (Int × Int)),2≤m∧m≤4∧x.lives=[⟨nLife,stL.take m,mv⟩]∧mv.length≤5∧∀ p∈mv,(0≤p.1∧p.1<m)∧(0≤p.2∧p.2<m)
 nr:x.rules.length≤2
 rs:∃ i,i≤x.kinds.length∧RChain x.kinds i x.rules
abbrev scB (b:Nat) (ver:Int) (kv lv rv:Value):Nat × Blk:=(b,.cells 28 [iD ver,.v kv,.v lv,.v rv])
abbrev zS:List D:=[.v (zv (ZV.int IntKind.i64)),.v (zv ZV.sl),.v (zv ZV.sl),.v (zv ZV.sl)]
theorem sb108 {A B:Prop} (k:B) (h:Hd7 B→A:=by intro hk7q;(first|(with_reducible refine Bc.l ?_)|fail|fail|((with_reducible refine Cb.go ?h ?_);(case h=>decide +kernel)));exact hk7q.run):A:=h ⟨k⟩
theorem sk109 {A B:Prop} (k:B) (h:Hd7 B→A:=by intro hk7q;(first|refine sb0 ?_|refine sb108 ?_|((with_reducible refine' Cp.by ?hc ?_);(case hc=>fail))|((with_reducible refine' CE.pure ?hc ?_);(case hc=>fail)));exact hk7q.run):A:=h ⟨k⟩
theorem cl28 {p:Prop} (h:p:=by (refine ac9 fun a=>?_;simp only [kdB,mkB,scB,List.append_eq,List.nil_append,ad1,af7,af6,sD,iD,bD];omega)):p:=h
theorem cl29 {p:Prop} (h:p:=by (refine ac9 fun a=>?_;simp only [kdB,mkB,scB,List.append_eq,List.nil_append,ad1,af7,af6,sD,iD,bD];omega)):p:=h
theorem cl30 {p:Prop} (h:p:=by first|exact List.Perm.refl _|((refine ac9 fun a=>?_;simp only [kdB,mkB,scB,List.append_eq,List.nil_append,ad1,af7,af6,sD,iD,bD];omega))):p:=h
theorem bn0 (l:List Int) (hl:I64s l):ACall Tryz.prog 6 [slI l] [] (fun d σ=>∃ x,d=schD x∧σ=[]∧GenX x):=by
 have hll:=hl.2
 have hx:I64s (l.take 200):=⟨fun z hz=>hl.1 z (List.mem_of_mem_take hz),by have:=List.length_take_le 200 l;omega⟩
 generalize hxs:l.take 200=xs at hx
 have e0:List.take (if (200:Int)<((l.map fun x=>[iD x]).length:Int) then 200 else ((l.map fun x=>[iD x]).length:Int)).toNat (l.map fun x=>[iD x])=xs.map fun x=>[iD x]:=by
  rw [List.length_map,← hxs,List.map_take]
  split
  ·rfl
  ·rw [List.take_of_length_le (by rw [List.length_map];omega),List.take_of_length_le (by rw [List.length_map];omega)]
 refine eC7 Tryz.func6 Tryz.ntmps6 fun BB=>?_
 repeat' first|refine sk109 ?_|(intro b;conv=>whnf)
 generalize b=b2
 rw [e0]
 refine Bx.r (OtE.box rfl rfl (fun bm=>?_))
 have h0:=ae2 xs 0 4
 have h0':=h0.2 (by omega)
 have h1:=ae2 xs (0+1) 3
 have h1':=h1.2 (by omega)
 obtain ⟨n1,hn1⟩:∃ n:Nat,atE xs (0+1) 3=n:=⟨(atE xs (0+1) 3).toNat,by omega⟩
 repeat' first|refine sk109 ?_|(intro b;conv=>whnf)|((refine CE.own (aa6 xs hx bm _ _ ⟨by omega,by omega⟩) (List.Perm.refl ([mkB bm xs _] ++ _)) (fun s'=>s' ++ _) (fun s'=>List.Perm.refl _) ?_);(rintro _ _ ⟨rfl,rfl⟩))|((refine CE.own (aa6 xs hx bm _ _ ⟨by omega,by omega⟩) (show List.Perm (_ :: mkB bm xs _ :: _) ([mkB bm xs _] ++ (_ :: _)) from List.Perm.swap _ _ _) (fun s'=>s' ++ (_ :: _)) (fun s'=>List.Perm.refl _) ?_);(rintro _ _ ⟨rfl,rfl⟩))
 rw [hn1]
 repeat' first|refine sk104 ?_|(intro b;conv=>whnf)
 generalize b=b4
 refine aa5 mixed aa0 (γ:=Nat × Int × List Knd × Value × aa1) (fun g=>[(6,iD g.1)]) (fun g=>mkB bm xs g.2.1 :: scB b4 (atE xs 0 4) g.2.2.2.1 (.slice none 0 0) (.slice none 0 0) :: (b2,.cells 28 zS) :: g.2.2.2.2) (fun g=>g.1≤1+n1∧(2≤g.2.1∧g.2.1≤2+g.1*100)∧g.2.2.1.length=g.1∧KChain g.2.2.1∧RowIs 85 4 (g.2.2.1.map kndC) g.2.2.2.1 g.2.2.2.2) (fun g=>1+n1 - g.1) (0,2,[],.slice none 0 0,[]) (aa2 cl7) (Sc.perm (by first|exact List.Perm.refl _|exact List.Perm.swap _ _ _)) ⟨Nat.zero_le _,⟨by simp,by simp⟩,rfl,KChain.nil,RowIs.nil _ _⟩ ?_
 rintro ⟨i,p1,ks,v,sk⟩ ⟨hi,⟨hp1,hp1'⟩,hkl,hch,hkr⟩
 simp only at hi hp1 hp1' hkl hch hkr ⊢
 obtain ⟨a,c,e⟩:=hkr.slice
 rw [List.length_map] at e
 subst e
 by_cases hin:i<1+n1
 ·have hck:=hch.ck (by omega)
  have HK:=bF6 xs hx bm p1 ⟨by omega,by omega⟩ ks (by omega) (fun k hk=>by have:=(hck k hk).ck.nf;omega) a c sk hkr
  repeat' first|refine sk104 ?_|(intro b;conv=>whnf)
  refine dr7 ?_
  refine bw1 mixed aa0 rfl [0,2,3] 7 (.two 1 (.one 4 (.one 5 (.one 6 (.one 7 (.one 8 (.one 9 .done)))))) 4 (.two 1 (.one 5 (.one 6 (.one 7 (.one 8 (.one 9 .done))))) 5 (.two 1 (.one 6 (.one 7 (.one 8 (.one 9 .done)))) 6 (.one 1 (.one 7 (.one 8 (.one 9 .done))))))) (γ:=Int × List Knd × Knd × Value × aa1) (fun _=>[]) (fun g=>mkB bm xs g.1 :: scB b4 (atE xs 0 4) g.2.2.2.1 (.slice none 0 0) (.slice none 0 0) :: (b2,.cells 28 zS) :: g.2.2.2.2) (fun g=>(p1≤g.1∧g.1≤p1+100)∧KMade ks g.2.2.1 g.2.1∧RowIs 85 4 ((g.2.1 ++ [g.2.2.1]).map kndC) g.2.2.2.1 g.2.2.2.2) (by decide +kernel) ?_ ?_
  ·repeat' first|refine sk104 ?_|(intro b;conv=>whnf)|(refine And.intro ?_ ?_ <;> (conv=>whnf))|((refine CE.own (t:=[scB b4 (atE xs 0 4) (.slice a ks.length c) (.slice none 0 0) (.slice none 0 0),(b2,.cells 28 zS)]) HK cl28 (fun s'=>scB b4 (atE xs 0 4) (.slice a ks.length c) (.slice none 0 0) (.slice none 0 0) :: (b2,.cells 28 zS) :: s') (fun s'=>cl29) ?_);(rintro _ _ ⟨p2,k,ks2,s2,hp2,rfl,rfl,hkr2,hm⟩);(have hml:=(hm.cls (by omega) hck).2.1))|(refine Ap.go rfl rfl rfl rfl hkr2 (τ:=scB b4 (atE xs 0 4) (.slice a ks.length c) (.slice none 0 0) (.slice none 0 0) :: (b2,.cells 28 zS) :: [mkB bm xs p2]) cl28 rfl (zs:=(ks2 ++ [k]).map kndC) (by rw [List.map_append];rfl) (by rw [List.length_map,List.length_append,hml];simp only [List.length_singleton];omega) (by rw [List.length_map,List.length_append,hml];simp only [List.length_singleton];omega) (fun s'=>scB b4 (atE xs 0 4) (.slice a ks.length c) (.slice none 0 0) (.slice none 0 0) :: (b2,.cells 28 zS) :: mkB bm xs p2 :: s') (fun s'=>cl29) (fun a3 c3 s3 hr3=>?_))
   all_goals exact ⟨(p2,ks2,k,_,s3),(aa2 cl7),Sc.perm cl28,hp2,hm,hr3⟩
  ·rintro ⟨p2,ks2,k,v2,s2⟩ ⟨⟨hp2,hp2'⟩,hm,hkr2⟩
   simp only at hp2 hp2' hm hkr2 ⊢
   have hml:=(hm.cls (by omega) hck).2.1
   repeat' first|refine sk104 ?_|(intro b;conv=>whnf)
   exact ⟨(i+1,p2,ks2 ++ [k],v2,s2),(aa2 cl2),Sc.perm cl30,⟨by simp only;omega,⟨by simp only;omega,by simp only;omega⟩,by simp only [List.length_append,List.length_singleton];omega,hch.step hm hml,hkr2⟩,by simp only;omega⟩
 ·obtain rfl:i=1+n1:=by omega
  have h2:=ae2 xs p1 3
  have h2':=h2.2 (by omega)
  obtain ⟨n2,hn2⟩:∃ n:Nat,atE xs p1 3=n:=⟨(atE xs p1 3).toNat,by omega⟩
  have hst:List.take (2+(n2:Int)).toNat [[D.v (Value.string ⟨#[110,101,119]⟩)],[D.v (Value.string ⟨#[111,112,101,110]⟩)],[D.v (Value.string ⟨#[100,111,110,101]⟩)],[D.v (Value.string ⟨#[115,104,117,116]⟩)]]=(stL.take (2+n2)).map fun s=>[sD s]:=by
   rw [show (2+(n2:Int)).toNat=2+n2 by omega,List.map_take];rfl
  have hsl:(stL.take (2+n2)).length=2+n2:=by rw [List.length_take];simp;omega
  repeat' first|refine sk104 ?_|(intro b;conv=>whnf)
  ((refine CE.own (aa6 xs hx bm _ _ ⟨by omega,by omega⟩) (List.Perm.refl ([mkB bm xs _] ++ _)) (fun s'=>s' ++ _) (fun s'=>List.Perm.refl _) ?_);(rintro _ _ ⟨rfl,rfl⟩))
  rw [hn2]
  repeat' first|refine sk104 ?_|(intro b;conv=>whnf)
  rw [hst]
  repeat' first|refine sk104 ?_|(intro b;conv=>whnf)
  generalize b=b8
  refine aa5 mixed aa0 (γ:=Nat × List (Int × Int) × Value × aa1) (fun g=>[(9,iD g.1)]) (fun g=>(b8,.cells 89 [sD nLife,slS (stL.take (2+n2)),.v g.2.2.1]) :: mkB bm xs (p1+1) :: scB b4 (atE xs 0 4) (.slice a ks.length c) (.slice none 0 0) (.slice none 0 0) :: (b2,.cells 28 zS) :: (g.2.2.2 ++ sk)) (fun g=>g.1≤1+n2∧g.2.1.length=g.1∧(∀ q∈g.2.1,(0≤q.1∧q.1<((2+n2:Nat):Int))∧(0≤q.2∧q.2<((2+n2:Nat):Int)))∧RowIs 90 2 (g.2.1.map movC) g.2.2.1 g.2.2.2) (fun g=>1+n2 - g.1) (0,[],.slice none 0 0,[]) (aa2 cl7) (Sc.perm (by first|exact List.Perm.refl _|exact List.Perm.swap _ _ _)) ⟨Nat.zero_le _,rfl,by simp,RowIs.nil _ _⟩ ?_
  rintro ⟨i,mv,v,s⟩ ⟨hi2,hml,hmq,hmr⟩
  simp only at hi2 hml hmq hmr ⊢
  have hle:((stL.take (2+n2)).map fun s=>[sD s]).length=2+n2:=by rw [List.length_map];exact hsl
  by_cases hin2:i<1+n2
  ·repeat' first|refine sk104 ?_|(intro b;conv=>whnf)
   refine Ap.go rfl rfl rfl rfl hmr (τ:=(b8,.cells 89 [sD nLife,slS (stL.take (2+n2)),.v v]) :: mkB bm xs (p1+1) :: scB b4 (atE xs 0 4) (.slice a ks.length c) (.slice none 0 0) (.slice none 0 0) :: (b2,.cells 28 zS) :: sk) cl28 rfl (zs:=(mv ++ [((i:Int),(i:Int)+1)]).map movC) (by rw [List.map_append];rfl) (by simp;omega) (by simp;omega) (fun s'=>(b8,.cells 89 [sD nLife,slS (stL.take (2+n2)),.v v]) :: mkB bm xs (p1+1) :: scB b4 (atE xs 0 4) (.slice a ks.length c) (.slice none 0 0) (.slice none 0 0) :: (b2,.cells 28 zS) :: (s' ++ sk)) (fun s'=>cl29) (fun a5 c5 s5 hr5=>?_)
   repeat' first|refine sk104 ?_|(intro b;conv=>whnf)
   refine ⟨(i+1,mv ++ [((i:Int),(i:Int)+1)],_,s5),(aa2 cl2),Sc.refl _,⟨by simp only;omega,by simp only [List.length_append,List.length_singleton];omega,fun q hq=>?_,hr5⟩,by simp only;omega⟩
   rcases List.mem_append.1 hq with h|h
   ·exact hmq q h
   ·rw [List.mem_singleton] at h;subst h;simp only;omega
  ·obtain rfl:i=1+n2:=by omega
   have h3:=ae2 xs (p1+1) 2
   repeat' first|refine sk107 ?_|(intro b;conv=>whnf)
   refine Bc.l ?_
   repeat' first|refine sk107 ?_|(intro b;conv=>whnf)
   ((refine CE.own (t:=(b8,.cells 89 [sD nLife,slS (stL.take (2+n2)),.v v]) :: scB b4 (atE xs 0 4) (.slice a ks.length c) (.slice none 0 0) (.slice none 0 0) :: (b2,.cells 28 zS) :: (s ++ sk)) (aa6 xs hx bm (p1+1) _ ⟨by omega,by omega⟩) cl28 (fun s'=>(b8,.cells 89 [sD nLife,slS (stL.take (2+n2)),.v v]) :: (s' ++ (scB b4 (atE xs 0 4) (.slice a ks.length c) (.slice none 0 0) (.slice none 0 0) :: (b2,.cells 28 zS) :: (s ++ sk)))) (fun s'=>cl29) ?_);(rintro _ _ ⟨rfl,rfl⟩))
   repeat' first|refine sk107 ?_|(intro b;conv=>whnf)
   refine Bc.j ?_
   refine as7 mixed aa0 (γ:=List (Int × Int) × Value × aa1) (fun _=>[]) (fun g=>(b8,.cells 89 [sD nLife,slS (stL.take (2+n2)),.v g.2.1]) :: mkB bm xs (p1+1+1) :: scB b4 (atE xs 0 4) (.slice a ks.length c) (.slice none 0 0) (.slice none 0 0) :: (b2,.cells 28 zS) :: (g.2.2 ++ sk)) (fun g=>g.1.length≤4∧(∀ q∈g.1,(0≤q.1∧q.1<((2+n2:Nat):Int))∧(0≤q.2∧q.2<((2+n2:Nat):Int)))∧RowIs 90 2 (g.1.map movC) g.2.1 g.2.2) ?_ ?_
   ·(((with_reducible refine W.mk ?_);(conv=>whnf)))
    refine Bc.l ?_
    by_cases hz3:atE xs (p1+1) 2=0
    ·repeat' first|refine sk107 ?_|(intro b;conv=>whnf)
     refine Ap.go rfl rfl rfl rfl hmr (τ:=(b8,.cells 89 [sD nLife,slS (stL.take (2+n2)),.v v]) :: mkB bm xs (p1+1+1) :: scB b4 (atE xs 0 4) (.slice a ks.length c) (.slice none 0 0) (.slice none 0 0) :: (b2,.cells 28 zS) :: sk) cl28 rfl (zs:=(mv ++ [((1:Int),(0:Int))]).map movC) (by rw [List.map_append];rfl) (by simp;omega) (by simp;omega) (fun s'=>(b8,.cells 89 [sD nLife,slS (stL.take (2+n2)),.v v]) :: mkB bm xs (p1+1+1) :: scB b4 (atE xs 0 4) (.slice a ks.length c) (.slice none 0 0) (.slice none 0 0) :: (b2,.cells 28 zS) :: (s' ++ sk)) (fun s'=>cl29) (fun a5 c5 s5 hr5=>?_)
     repeat' first|refine sk107 ?_|(intro b;conv=>whnf)
     refine ⟨(mv ++ [((1:Int),(0:Int))],_,s5),(aa2 cl7),Sc.refl _,⟨by simp only [List.length_append,List.length_singleton];omega,fun q hq=>?_,hr5⟩⟩
     rcases List.mem_append.1 hq with h|h
     ·exact hmq q h
     ·rw [List.mem_singleton] at h;subst h;simp only;omega
    ·repeat' first|refine sk107 ?_|(intro b;conv=>whnf)
     exact ⟨(mv,v,s),(aa2 cl7),Sc.perm cl30,by simp only;omega,hmq,hmr⟩
   ·clear hmq hmr hml
    rintro ⟨mv,v,s⟩ ⟨hml,hmq,hmr⟩
    simp only at hml hmq hmr ⊢
    obtain ⟨a8,c8,e8⟩:=hmr.slice
    rw [List.length_map] at e8
    subst e8
    have h4:=ae2 xs (p1+1+1) 3
    repeat' first|refine sk107 ?_|(intro b;conv=>whnf)
    ((refine CE.own (t:=(b8,.cells 89 [sD nLife,slS (stL.take (2+n2)),.v (.slice a8 mv.length c8)]) :: scB b4 (atE xs 0 4) (.slice a ks.length c) (.slice none 0 0) (.slice none 0 0) :: (b2,.cells 28 zS) :: (s ++ sk)) (aa6 xs hx bm (p1+1+1) _ ⟨by omega,by omega⟩) cl28 (fun s'=>(b8,.cells 89 [sD nLife,slS (stL.take (2+n2)),.v (.slice a8 mv.length c8)]) :: (s' ++ (scB b4 (atE xs 0 4) (.slice a ks.length c) (.slice none 0 0) (.slice none 0 0) :: (b2,.cells 28 zS) :: (s ++ sk)))) (fun s'=>cl29) ?_);(rintro _ _ ⟨rfl,rfl⟩))
    repeat' first|refine sk107 ?_|(intro b;conv=>whnf)
    refine Bc.j ?_
    refine as7 mixed aa0 (γ:=List (Int × Int)) (fun _=>[]) (fun g=>(b8,.cells 89 (lifC ⟨nLife,stL.take (2+n2),g⟩)) :: mkB bm xs (p1+1+1+1) :: scB b4 (atE xs 0 4) (.slice a ks.length c) (.slice none 0 0) (.slice none 0 0) :: (b2,.cells 28 zS) :: sk) (fun g=>g.length≤5∧(∀ q∈g,(0≤q.1∧q.1<((2+n2:Nat):Int))∧(0≤q.2∧q.2<((2+n2:Nat):Int)))) ?_ ?_
    ·(((with_reducible refine W.mk ?_);(conv=>whnf)))
     refine Bc.l ?_
     have hfz:∀ (v:Value) (m:List (Int × Int)) (s:aa1),RowIs 90 2 (m.map movC) v s→Sc ((b8,.cells 89 [sD nLife,slS (stL.take (2+n2)),.v v]) :: mkB bm xs (p1+1+1+1) :: scB b4 (atE xs 0 4) (.slice a ks.length c) (.slice none 0 0) (.slice none 0 0) :: (b2,.cells 28 zS) :: (s ++ sk)) ((b8,.cells 89 (lifC ⟨nLife,stL.take (2+n2),m⟩)) :: mkB bm xs (p1+1+1+1) :: scB b4 (atE xs 0 4) (.slice a ks.length c) (.slice none 0 0) (.slice none 0 0) :: (b2,.cells 28 zS) :: sk):=fun v m s hr=>
      (Sc.perm cl28).trans (Sc.frz (cs:=[sD nLife,slS (stL.take (2+n2)),.v v]) (j:=2) (s:=s) (τ:=mkB bm xs (p1+1+1+1) :: scB b4 (atE xs 0 4) (.slice a ks.length c) (.slice none 0 0) (.slice none 0 0) :: (b2,.cells 28 zS) :: sk) rfl hr (LeR.refl _))
     by_cases hz4:atE xs (p1+1+1) 3=0
     ·repeat' first|refine sk107 ?_|(intro b;conv=>whnf)
      rw [hle]
      repeat' first|refine sk107 ?_|(intro b;conv=>whnf)
      refine Ap.go rfl rfl rfl rfl hmr (τ:=(b8,.cells 89 [sD nLife,slS (stL.take (2+n2)),.v (.slice a8 mv.length c8)]) :: mkB bm xs (p1+1+1+1) :: scB b4 (atE xs 0 4) (.slice a ks.length c) (.slice none 0 0) (.slice none 0 0) :: (b2,.cells 28 zS) :: sk) cl28 rfl (zs:=(mv ++ [((0:Int),((2+n2:Nat):Int) - 1)]).map movC) (by rw [List.map_append];rfl) (by simp;omega) (by simp;omega) (fun s'=>(b8,.cells 89 [sD nLife,slS (stL.take (2+n2)),.v (.slice a8 mv.length c8)]) :: mkB bm xs (p1+1+1+1) :: scB b4 (atE xs 0 4) (.slice a ks.length c) (.slice none 0 0) (.slice none 0 0) :: (b2,.cells 28 zS) :: (s' ++ sk)) (fun s'=>cl29) (fun a10 c10 s10 hr10=>?_)
      repeat' first|refine sk107 ?_|(intro b;conv=>whnf)
      refine ⟨mv ++ [((0:Int),((2+n2:Nat):Int) - 1)],(aa2 cl7),hfz _ _ s10 hr10,by simp only [List.length_append,List.length_singleton];omega,fun q hq=>?_⟩
      rcases List.mem_append.1 hq with h|h
      ·exact hmq q h
      ·rw [List.mem_singleton] at h;subst h;simp only;omega
     ·repeat' first|refine sk107 ?_|(intro b;conv=>whnf)
      exact ⟨mv,(aa2 cl7),(Sc.perm cl30).trans (hfz _ mv s hmr),by omega,hmq⟩
    ·clear hmq hmr hml
     rintro mv ⟨hml,hmq⟩
     have hck:=hch.ck (by omega)
     repeat' first|refine sk104 ?_|(intro b;conv=>whnf)
     refine Ap.go rfl rfl rfl rfl (RowIs.nil 89 3) (List.Perm.refl ([] ++ _)) rfl (zs:=[lifC ⟨nLife,stL.take (2+n2),mv⟩]) rfl (by simp) (by simp) (fun s'=>s' ++ _) (fun s'=>List.Perm.refl _) (fun a11 c11 s11 hr11=>?_)
     repeat' first|refine sk104 ?_|(intro b;conv=>whnf)
     refine Sv.cellm (tb:=28) (cs:=[iD (atE xs 0 4),.v (.slice a ks.length c),.v (.slice none 0 0),.v (.slice none 0 0)]) (cs':=[iD (atE xs 0 4),.v (.slice a ks.length c),.v (.slice a11 1 c11),.v (.slice none 0 0)]) (τ:=(b8,.cells 89 (lifC ⟨nLife,stL.take (2+n2),mv⟩)) :: mkB bm xs (p1+1+1+1) :: (b2,.cells 28 zS) :: (s11 ++ sk)) cl28 (by simp) rfl rfl ?_
     repeat' first|refine sk104 ?_|(intro b;conv=>whnf)
     refine aa5 mixed aa0 (γ:=Nat × Int × List Rul × Value × aa1) (fun g=>[(10,iD g.1)]) (fun g=>mkB bm xs g.2.1 :: scB b4 (atE xs 0 4) (.slice a ks.length c) (.slice a11 1 c11) g.2.2.2.1 :: (b2,.cells 28 zS) :: (g.2.2.2.2 ++ (s11 ++ sk))) (fun g=>g.1≤ks.length∧(p1+3≤g.2.1∧g.2.1≤p1+3+g.1*20)∧g.2.2.1.length≤2∧RChain ks g.1 g.2.2.1∧RowIs 92 5 (g.2.2.1.map rulC) g.2.2.2.1 g.2.2.2.2) (fun g=>ks.length - g.1) (0,p1+1+1+1,[],.slice none 0 0,[]) (aa2 cl7) (Sc.drop (ρ:=[(b8,.cells 89 (lifC ⟨nLife,stL.take (2+n2),mv⟩))]) cl28) ⟨Nat.zero_le _,⟨by simp only;omega,by simp only;omega⟩,by simp,RChain.nil,RowIs.nil _ _⟩ ?_
     rintro ⟨i,p2,rs,rv,s⟩ ⟨hi5,⟨hp2,hp2'⟩,hrl,hrc,hrr⟩
     simp only at hi5 hp2 hp2' hrl hrc hrr ⊢
     obtain ⟨a12,c12,e12⟩:=hrr.slice
     rw [List.length_map] at e12
     subst e12
     by_cases hin5:i<ks.length
     ·by_cases hr2:rs.length<2
      ·obtain ⟨k,hk⟩:∃ k,ks[i]?=some k:=⟨_,List.getElem?_eq_getElem hin5⟩
       have hk1:=(hck k (List.mem_of_getElem? hk)).ck
       obtain ⟨b9,cap9,cs9,e9,e9s,hcs9⟩:=RowIs.get hkr (show (ks.map kndC)[i]?=some (kndC k) by rw [List.getElem?_map,hk];rfl)
       rw [List.length_map] at e9
       cases e9
       subst e9s
       have HR:=bF5 xs hx bm p2 ⟨by omega,by omega⟩ k (by have:=hk1.nf;omega) hk1.nm (fun f hf=>by have h1:=(hk1.fs f hf).lo;have h2:=(hk1.fs f hf).hi;omega)
       repeat' first|refine sk104 ?_|(intro b;conv=>whnf)
       refine Ld.rowm (tb:=85) (cs:=cs9) (x:=kndC k) (by simp) rfl (by decide) (fun j hj=>by rw [show 0+((i:Nat):Int).toNat*4+j=i*4+j by simp];exact hcs9 j hj) ?_
       repeat' first|refine sk104 ?_|(intro b;conv=>whnf)
       refine CE.own (t:=scB b4 (atE xs 0 4) (.slice (some ⟨b9,0,none⟩) ks.length c) (.slice a11 1 c11) (.slice a12 rs.length c12) :: (b2,.cells 28 zS) :: (s ++ (s11 ++ [(b9,.cells 85 cs9)]))) HR cl30 (fun s'=>s' ++ (scB b4 (atE xs 0 4) (.slice (some ⟨b9,0,none⟩) ks.length c) (.slice a11 1 c11) (.slice a12 rs.length c12) :: (b2,.cells 28 zS) :: (s ++ (s11 ++ [(b9,.cells 85 cs9)])))) (fun s'=>List.Perm.refl _) ?_
       rintro _ _ ⟨p3,r,ok,⟨hp3,hp3'⟩,rfl,rfl,hok⟩
       cases ok with
       | false=>
        repeat' first|refine sk104 ?_|(intro b;conv=>whnf)
        exact ⟨(i+1,p3,rs,.slice a12 rs.length c12,s),(aa2 cl2),Sc.sl (List.sublist_cons_self _ _),⟨by simp only;omega,⟨by simp only;omega,by simp only;omega⟩,hrl,hrc.skip,hrr⟩,by simp only;omega⟩
       | true=>
        repeat' first|refine sk104 ?_|(intro b;conv=>whnf)
        generalize b=b11
        refine Ap.go rfl rfl rfl rfl hrr (τ:=(b11,.cells 92 [sD r.name,sD r.kind,sD r.a,sD r.b,iD r.n]) :: mkB bm xs p3 :: scB b4 (atE xs 0 4) (.slice (some ⟨b9,0,none⟩) ks.length c) (.slice a11 1 c11) (.slice a12 rs.length c12) :: (b2,.cells 28 zS) :: (s11 ++ [(b9,.cells 85 cs9)])) cl28 rfl (zs:=(rs ++ [r]).map rulC) (by rw [List.map_append];rfl) (by simp;omega) (by simp;omega) (fun s'=>(b11,.cells 92 [sD r.name,sD r.kind,sD r.a,sD r.b,iD r.n]) :: mkB bm xs p3 :: scB b4 (atE xs 0 4) (.slice (some ⟨b9,0,none⟩) ks.length c) (.slice a11 1 c11) (.slice a12 rs.length c12) :: (b2,.cells 28 zS) :: (s' ++ (s11 ++ [(b9,.cells 85 cs9)]))) (fun s'=>cl29) (fun a13 c13 s13 hr13=>?_)
        repeat' first|refine sk104 ?_|(intro b;conv=>whnf)
        exact ⟨(i+1,p3,rs ++ [r],_,s13),(aa2 cl2),Sc.sl (List.sublist_cons_self _ _),⟨by simp only;omega,⟨by simp only;omega,by simp only;omega⟩,by simp only [List.length_append,List.length_singleton];omega,hrc.take hk (hok rfl),hr13⟩,by simp only;omega⟩
      ·repeat' first|refine sk104 ?_|(intro b;conv=>whnf)
       refine Rs.c aa0 (m:=2) rfl rfl rfl rfl rfl rfl ?_
       repeat' first|refine sk104 ?_|(intro b;conv=>whnf)
       exact Rt.by (σ':=[]) (d':=schD ⟨atE xs 0 4,ks,[⟨nLife,stL.take (2+n2),mv⟩],rs⟩) (Vs.vd ⟨mkB bm xs p2 :: scB b4 (atE xs 0 4) (.slice a ks.length c) (.slice a11 1 c11) (.slice a12 rs.length c12) :: scB b2 (atE xs 0 4) (.slice a ks.length c) (.slice a11 1 c11) (.slice a12 rs.length c12) :: (s ++ (s11 ++ sk)),by rw [List.append_nil]⟩ (Vd.agg (.cons (Vd.same (fun z hz=>by cases hz) _) (.cons (Vd.row (ρ:=mkB bm xs p2 :: scB b4 (atE xs 0 4) (.slice a ks.length c) (.slice a11 1 c11) (.slice a12 rs.length c12) :: scB b2 (atE xs 0 4) (.slice a ks.length c) (.slice a11 1 c11) (.slice a12 rs.length c12) :: (s ++ s11)) hkr cl28 (fun z hz=>by cases hz)) (.cons (Vd.row (ρ:=mkB bm xs p2 :: scB b4 (atE xs 0 4) (.slice a ks.length c) (.slice a11 1 c11) (.slice a12 rs.length c12) :: scB b2 (atE xs 0 4) (.slice a ks.length c) (.slice a11 1 c11) (.slice a12 rs.length c12) :: (s ++ sk)) hr11 cl28 (fun z hz=>by cases hz)) (.cons (Vd.row (ρ:=mkB bm xs p2 :: scB b4 (atE xs 0 4) (.slice a ks.length c) (.slice a11 1 c11) (.slice a12 rs.length c12) :: scB b2 (atE xs 0 4) (.slice a ks.length c) (.slice a11 1 c11) (.slice a12 rs.length c12) :: (s11 ++ sk)) hrr cl28 (fun z hz=>by cases hz)) .nil)))))) ⟨_,rfl,rfl,⟨⟨h0.1,h0'⟩,⟨by show 1≤ks.length;omega,by show ks.length≤3;omega⟩,hch,⟨2+n2,mv,by omega,by omega,rfl,hml,hmq⟩,hrl,⟨_,hi5,hrc⟩⟩⟩
     ·obtain rfl:i=ks.length:=by omega
      repeat' first|refine sk104 ?_|(intro b;conv=>whnf)
      refine Rs.c aa0 (m:=2) rfl rfl rfl rfl rfl rfl ?_
      repeat' first|refine sk104 ?_|(intro b;conv=>whnf)
      exact Rt.by (σ':=[]) (d':=schD ⟨atE xs 0 4,ks,[⟨nLife,stL.take (2+n2),mv⟩],rs⟩) (Vs.vd ⟨mkB bm xs p2 :: scB b4 (atE xs 0 4) (.slice a ks.length c) (.slice a11 1 c11) (.slice a12 rs.length c12) :: scB b2 (atE xs 0 4) (.slice a ks.length c) (.slice a11 1 c11) (.slice a12 rs.length c12) :: (s ++ (s11 ++ sk)),by rw [List.append_nil]⟩ (Vd.agg (.cons (Vd.same (fun z hz=>by cases hz) _) (.cons (Vd.row (ρ:=mkB bm xs p2 :: scB b4 (atE xs 0 4) (.slice a ks.length c) (.slice a11 1 c11) (.slice a12 rs.length c12) :: scB b2 (atE xs 0 4) (.slice a ks.length c) (.slice a11 1 c11) (.slice a12 rs.length c12) :: (s ++ s11)) hkr cl28 (fun z hz=>by cases hz)) (.cons (Vd.row (ρ:=mkB bm xs p2 :: scB b4 (atE xs 0 4) (.slice a ks.length c) (.slice a11 1 c11) (.slice a12 rs.length c12) :: scB b2 (atE xs 0 4) (.slice a ks.length c) (.slice a11 1 c11) (.slice a12 rs.length c12) :: (s ++ sk)) hr11 cl28 (fun z hz=>by cases hz)) (.cons (Vd.row (ρ:=mkB bm xs p2 :: scB b4 (atE xs 0 4) (.slice a ks.length c) (.slice a11 1 c11) (.slice a12 rs.length c12) :: scB b2 (atE xs 0 4) (.slice a ks.length c) (.slice a11 1 c11) (.slice a12 rs.length c12) :: (s11 ++ sk)) hrr cl28 (fun z hz=>by cases hz)) .nil)))))) ⟨_,rfl,rfl,⟨⟨h0.1,h0'⟩,⟨by show 1≤ks.length;omega,by show ks.length≤3;omega⟩,hch,⟨2+n2,mv,by omega,by omega,rfl,hml,hmq⟩,hrl,⟨_,hi5,hrc⟩⟩⟩
end
section
open Go
theorem RuleF.cr {k:Knd} {r:Rul} (h:RuleF k r) (hk:CK k):CR r:=by
 have hx:(k.name.extract 0 1).size≤1:=by rw [ByteArray.size_extract];omega
 have ap:∀ a:ByteArray,a.size≤5→(a ++ k.name.extract 0 1).size≤12:=fun a ha=>by rw [ByteArray.size_append];omega
 cases h with
 | low n h hn=>exact ⟨ap _ (by decide),hk.nm.2,by show nLow.size≤12;decide,by show nHigh.size≤12;decide,by show -2000≤n - 2∧n - 2≤2000;omega⟩
 | most f n h hf hn=>
  have:=(hk.fs f (List.mem_of_getElem? hf)).lo
  exact ⟨ap _ (by decide),hk.nm.2,by show nSize.size≤12;decide,by show nE.size≤12;decide,by show -2000≤f.lo+n∧f.lo+n≤2000;omega⟩
 | least f n h hf hn=>
  have:=(hk.fs f (List.mem_of_getElem? hf)).hi
  exact ⟨ap _ (by decide),hk.nm.2,by show nE.size≤12;decide,by show nSize.size≤12;decide,by show -2000≤n - f.hi∧n - f.hi≤2000;omega⟩
theorem RChain.cr {ks:List Knd} {i:Nat} {rs:List Rul} (h:RChain ks i rs) (hk:∀ k∈ks,CK k):∀ r∈rs,CR r:=by
 induction h with
 | nil=>simp
 | skip h ih=>exact ih
 | take h hk' hr ih=>
  intro r hm
  rcases List.mem_append.1 hm with hm|hm
  ·exact ih r hm
  ·rw [List.mem_singleton] at hm;subst hm;exact hr.cr (hk _ (List.mem_of_getElem? hk'))
theorem GenX.cls {x:Sch} (h:GenX x):Cls x:=by
 have hk:∀ k∈x.kinds,CK k:=fun k hk=>(h.ks.ck h.nk.2 k hk).ck
 obtain ⟨m,mv,hm,hm',hl,hml,hmq⟩:=h.ls
 obtain ⟨i,_,hr⟩:=h.rs
 refine ⟨by have:=h.ver;omega,h.nk.2,hk,by rw [hl];simp,fun l hl'=>?_,by have:=h.nr;omega,hr.cr hk⟩
 rw [hl,List.mem_singleton] at hl'
 subst hl'
 refine ⟨by show nLife.size≤12;decide,by show (stL.take m).length≤4;rw [List.length_take];simp;omega,fun s hs=>?_,hml,fun q hq=>by have:=hmq q hq;omega⟩
 have:=List.mem_of_mem_take hs
 simp only [stL,List.mem_cons,List.not_mem_nil,or_false] at this
 rcases this with rfl|rfl|rfl|rfl <;> decide
end
end Go.Proofs.YtlcfiilejnnlnaaGreatDoor
