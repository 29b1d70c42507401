/- A part of the proof: He. -/
import Derived.Test.YtjbbmjjildhfbaaGreatDoorP10
set_option maxRecDepth 100000
set_option maxHeartbeats 4000000
set_option linter.unusedVariables false
set_option linter.unusedSimpArgs false
namespace Go.Proofs.YtjbbmjjildhfbaaGreatDoor
section
open Go
theorem lit_i (l:List Int) {j:Int} (h:0≤j∧j<l.length):(l.map fun z=>[iD z])[j.toNat]?=some [iD (l.getD j.toNat 0)]:=by
 have hl:j.toNat<l.length:=by omega
 rw [List.getElem?_map,List.getElem?_eq_getElem hl]
 simp [List.getD_eq_getElem?_getD,hl]
theorem lit_s (l:List ByteArray) {j:Int} (h:0≤j∧j<l.length) (e:ByteArray):(l.map fun z=>[sD z])[j.toNat]?=some [sD (l.getD j.toNat e)]:=by
 have hl:j.toNat<l.length:=by omega
 rw [List.getElem?_map,List.getElem?_eq_getElem hl]
 simp [List.getD_eq_getElem?_getD,hl]
theorem lit_e (l:List Int) {j:Int} (h:0≤j∧j<l.length):∃ z∈l,(l.map fun z=>[iD z])[j.toNat]?=some [iD z]:=by
 have hl:j.toNat<l.length:=by omega
 exact ⟨l[j.toNat],List.getElem_mem hl,by rw [List.getElem?_map,List.getElem?_eq_getElem hl];rfl⟩
abbrev kdB (b:Nat) (nm:ByteArray) (lo hi:Int) (fv:Value):Nat × Blk:=(b,.cells 97 [sD nm,iD lo,iD hi,.v fv])
abbrev zK:List D:=[.v (zv ZV.str),.v (zv (ZV.int IntKind.i64)),.v (zv (ZV.int IntKind.i64)),.v (zv ZV.sl)]
structure KSt where
 pos:Int
 fv:Value
 rs:List (List D)
 sf:aa1
 ks:List Knd
 sk:aa1
abbrev kS (bm:Nat) (xs:List Int) (b7 b4:Nat) (nm:ByteArray) (lo hi:Int) (g:KSt):aa1:=mkB bm xs g.pos :: kdB b7 nm lo hi g.fv :: (b4,.cells 97 zK) :: (g.sf ++ g.sk)
structure KI (a:Option Addr) (n c:Nat) (fs:List Fld) (g:KSt):Prop where
 row:RowIs 111 8 g.rs g.fv g.sf
 le:LeR g.rs (fs.map fldC)
 kr:RowIs 97 4 (g.ks.map kndC) (.slice a n c) g.sk
 kl:g.ks.length=n
theorem one_f (l:List Fld):((l.map fldC).all fun y=>y.all oneD)=true:=by rw [List.all_eq_true];intro y hy;obtain ⟨f,_,rfl⟩:=List.mem_map.1 hy;rfl
theorem Ld.rowm {P:Program} {o:Oper} {ρ:Operand→D} {σ:aa1} {b off k:Nat} {K:D→Prop} {tb:TypeId} {cs x:List D} (h1:(b,Blk.cells tb cs)∈σ) (hx:x.length=k) (hk:0<k) (h2:∀ j,j<k→cs[off+j]?=x[j]?) (h:W (K (.agg x))):Ld P o ρ σ b off true k K:=by
 obtain ⟨j,hj⟩:=List.getElem?_of_mem h1
 have hl:off+k≤cs.length:=by
  have:=h2 (k - 1) (by omega)
  rw [List.getElem?_eq_getElem (by omega:k - 1<x.length)] at this
  have:=(List.getElem?_eq_some_iff.1 this).1
  omega
 refine ⟨.inl ⟨j,tb,cs,hj,hl,?_⟩⟩
 have:(cs.drop off).take k=x:=by
  apply List.ext_getElem?
  intro i
  rw [List.getElem?_take]
  split
  ·rename_i hi;rw [List.getElem?_drop];exact h2 i hi
  ·rename_i hi;rw [List.getElem?_eq_none_iff.2 (by omega)]
 rw [this]
 exact h.h
theorem RefP.name0 {ks ks':List Knd} {nm:ByteArray} {f1:List Fld} (h:RefP ks nm f1 ks') {y:Knd} (hy:ks'[0]?=some y):∃ z,ks[0]?=some z∧z.name=y.name:=by
 cases h with
 | none h=>subst h;simp at hy
 | of=>exact ⟨y,hy,rfl⟩
 | part to z lo hi a b sm hz=>
  rw [List.getElem?_set] at hy
  split at hy
  ·rename_i e
   subst e
   split at hy
   ·cases hy;exact ⟨z,hz,rfl⟩
   ·cases hy
  ·exact ⟨y,hy,rfl⟩
theorem PlainF.two {fs:List Fld} (h:PlainF fs):fs.length≤2:=by cases h <;> simp
theorem sb8 {A B:Prop} (k:B) (h:Hd7 B→A:=by intro hk7q;(first|fail|(with_reducible refine Bx.l ?_)|fail|((with_reducible refine Cb.go ?h ?_);(case h=>decide +kernel)));exact hk7q.run):A:=h ⟨k⟩
theorem sk9 {A B:Prop} (k:B) (h:Hd7 B→A:=by intro hk7q;(first|refine sb0 ?_|refine sb8 ?_|((with_reducible refine' Cp.by ?hc ?_);(case hc=>fail))|((with_reducible refine' CE.pure ?hc ?_);(case hc=>fail)));exact hk7q.run):A:=h ⟨k⟩
theorem cl8 {p:Prop} (h:p:=by first|exact Sc.sl (.cons_cons _ (.cons_cons _ (.cons_cons _ (List.sublist_cons_self _ _))))|exact Sc.perm (List.Perm.refl _)|exact Sc.perm (List.Perm.swap _ _ _)|exact Sc.perm (List.Perm.cons _ (List.Perm.swap _ _ _))|exact Sc.perm ((List.Perm.swap _ _ _).trans (List.Perm.cons _ (List.Perm.swap _ _ _)))|exact Sc.perm ((List.Perm.cons _ (List.Perm.swap _ _ _)).trans (List.Perm.swap _ _ _))):p:=h
theorem cl9 {p:Prop} (h:p:=by (refine ac3 fun a=>?_;simp only [kdB,mkB,List.append_eq,List.nil_append,ac4,ae4,ae6,sD,iD,bD];omega)):p:=h
theorem cl10 {p:Prop} (h:p:=by (refine ac3 fun a=>?_;simp only [kdB,mkB,List.append_eq,List.nil_append,ac4,ae4,ae6,sD,iD,bD];omega)):p:=h
theorem cl11 {p:Prop} (h:p:=by rw [show 0+((to:Nat):Int).toNat*4+3=to*4+3 by simp];exact hc3):p:=h
theorem cl12 {p:Prop} (h:p:=by first|exact List.Perm.refl _|(refine ac3 fun a=>?_;simp only [kdB,mkB,List.append_eq,List.nil_append,ac4,ae4,ae6,sD,iD,bD];omega)):p:=h
theorem cl13 {p:Prop} (h:p:=by first|omega|(simp only [List.length_append,List.length_map,List.length_cons,List.length_nil];omega)):p:=h
theorem cl14 {p:Prop} (h:p:=by rw [show 0+((to:Nat):Int).toNat*4+3=to*4+3 by simp];exact (List.getElem?_eq_some_iff.1 hc3).1):p:=h
theorem r09_kind (xs:List Int) (hx:I64s xs) (bm:Nat) (pos:Int) (hp:0≤pos∧pos≤10000000) (ks:List Knd) (hks:ks.length≤2) (hfl:∀ k∈ks,k.fields.length≤1000) (a:Option Addr) (c:Nat) (sk:aa1) (hrow:RowIs 97 4 (ks.map kndC) (.slice a ks.length c) sk) :
  ACall Tryz.prog 50 [ptr bm,.v (.slice a ks.length c)] (mkB bm xs pos :: sk) (fun d σ=>∃ pos' k ks' sk',(pos≤pos'∧pos'≤pos+100)∧d=kndD k∧σ=mkB bm xs pos' :: sk'∧RowIs 97 4 (ks'.map kndC) (.slice a ks.length c) sk'∧KMade ks k ks'):=by
 have h1:=ae0 xs pos 6
 have h1':=h1.2 (by omega)
 have h2:=ae0 xs (pos+1) 5
 have h2':=h2.2 (by omega)
 obtain ⟨lo,hlo,hlx⟩:=lit_e [0,1,2,4,1,2] (j:=atE xs pos 6) ⟨by omega,by simp;omega⟩
 have hlob:0≤lo∧lo≤4:=by simp at hlo;omega
 refine aa4 mixed aa0 Tryz.func50 (by kernel_rfl) rfl Tryz.ntmps50 rfl ?_;intro BB
 repeat' (first|refine sk9 ?_|(intro b;conv=>whnf))
 generalize b=b4
 ((refine CE.own (aa7 xs hx bm _ _ ⟨by omega,by omega⟩) (show List.Perm (_ :: mkB bm xs _ :: _) ([mkB bm xs _] ++ (_ :: _)) from List.Perm.swap _ _ _) (fun s'=>s' ++ (_ :: _)) (fun s'=>List.Perm.refl _) ?_);(rintro _ _ ⟨rfl,rfl⟩))
 repeat' (first|refine sk9 ?_|(intro b;conv=>whnf))
 refine Ix.at hlx (by omega) ?_
 repeat' (first|refine sk9 ?_|(intro b;conv=>whnf))
 refine Dr.r ?_
 (((with_reducible refine W.mk ?_);(conv=>whnf)))
 refine Dm.r ?_
 refine W.mk ?_
 refine lp_ordS mixed aa0 rfl [0,1,2,3,4,5,6] 5 (.two 7 (.two 8 (.two 9 (.one 10 (.one 11 .done)) 10 (.one 9 (.one 11 .done))) 10 (.one 8 (.one 9 (.one 11 .done)))) 10 (.one 7 (.one 8 (.one 9 (.one 11 .done))))) (γ:=Nat) (fun g=>[(7,.v (.pointer (some ⟨g,0,none⟩)))]) (fun g=>mkB bm xs (pos+1+1) :: kdB g (knm ks.length) lo (lo+atE xs (pos+1) 5) (.slice none 0 0) :: (b4,.cells 97 zK) :: sk) (fun _=>True) (by decide +kernel) ?_ ?_
 ·repeat' (first|refine sk9 ?_|(intro b;conv=>whnf)|(refine And.intro ?_ ?_ <;> (conv=>whnf))|((refine CE.own (aa7 xs hx bm _ _ ⟨by omega,by omega⟩) (List.Perm.refl ([mkB bm xs _] ++ _)) (fun s'=>s' ++ _) (fun s'=>List.Perm.refl _) ?_);(rintro _ _ ⟨rfl,rfl⟩))|((refine CE.own (aa7 xs hx bm _ _ ⟨by omega,by omega⟩) (show List.Perm (_ :: mkB bm xs _ :: _) ([mkB bm xs _] ++ (_ :: _)) from List.Perm.swap _ _ _) (fun s'=>s' ++ (_ :: _)) (fun s'=>List.Perm.refl _) ?_);(rintro _ _ ⟨rfl,rfl⟩))|(refine Ix.at (lit_s [aN3,aH7,nItem] ⟨by omega,by simp;omega⟩ nE) (by omega) ?_))
  all_goals exact ⟨b,(aa2 cl2),cl8,trivial⟩
 ·rintro b7 -
  have h3:=ae0 xs (pos+1+1) 4
  have h3':=h3.2 (by omega)
  obtain ⟨idl,hid,hidx⟩:=lit_e [0,1,100,-3] (j:=atE xs (pos+1+1) 4) ⟨by omega,by simp;omega⟩
  repeat' (first|refine sk9 ?_|(intro b;conv=>whnf))
  (refine Dr.r ?_;(((with_reducible refine W.mk ?_);(conv=>whnf)));refine Dm.r ?_;refine W.mk ?_)
  refine aE1 mixed aa0 rfl [0,2,3] 9 (inE [1,4,9,10,11]) (.two 1 (.one 4 (.fst 5 (.fst 6 (.fst 7 (.fst 8 (.one 9 (.one 10 (.one 11 .done)))))))) 4 (.fst 5 (.fst 6 (.fst 7 (.fst 8 (.one 1 (.one 9 (.one 10 (.one 11 .done))))))))) (γ:=Value × aa1) (fun _=>[]) (fun g=>mkB bm xs (pos+1+1+1) :: kdB b7 (knm ks.length) lo (lo+atE xs (pos+1) 5) g.1 :: (b4,.cells 97 zK) :: (g.2 ++ sk)) (fun g=>RowIs 111 8 [fldR (idF idl) nilD nilD] g.1 g.2) (by decide +kernel) ?_ ?_
  ·repeat' (first|refine sk9 ?_|(intro b;conv=>whnf)|(refine And.intro ?_ ?_ <;> (conv=>whnf))|((refine CE.own (aa7 xs hx bm _ _ ⟨by omega,by omega⟩) (List.Perm.refl ([mkB bm xs _] ++ _)) (fun s'=>s' ++ _) (fun s'=>List.Perm.refl _) ?_);(rintro _ _ ⟨rfl,rfl⟩))|((refine CE.own (aa7 xs hx bm _ _ ⟨by omega,by omega⟩) (show List.Perm (_ :: mkB bm xs _ :: _) ([mkB bm xs _] ++ (_ :: _)) from List.Perm.swap _ _ _) (fun s'=>s' ++ (_ :: _)) (fun s'=>List.Perm.refl _) ?_);(rintro _ _ ⟨rfl,rfl⟩))|(refine Ix.at hidx (by omega) ?_)|(refine Ap.go rfl rfl rfl rfl (RowIs.nil 111 8) (List.Perm.refl ([] ++ _)) rfl (zs:=[fldR (idF idl) nilD nilD]) rfl (by simp) (by simp) (fun s'=>s' ++ _) (fun s'=>List.Perm.refl _) (fun a2 c2 s2 hr2=>?_))|(refine Sv.cellm (tb:=97) (cs:=[sD (knm ks.length),iD lo,iD (lo+atE xs (pos+1) 5),.v (.slice .none 0 0)]) (cs':=[sD (knm ks.length),iD lo,iD (lo+atE xs (pos+1) 5),.v (.slice a2 [fldR (idF idl) nilD nilD].length c2)]) (τ:=mkB bm xs (pos+1+1+1) :: (b4,.cells 97 zK) :: (s2 ++ sk)) cl9 (by simp) rfl rfl ?_))
   all_goals exact ⟨(_,s2),(aa2 cl2),cl8,hr2⟩
  ·rintro ⟨fv,sf⟩ hfr
   simp only at hfr ⊢
   repeat' (first|refine sk9 ?_|(intro b;conv=>whnf))
   refine Bc.j ?_
   refine at6 mixed aa0 (γ:=KSt × List Fld) (fun _=>[]) (fun g=>kS bm xs b7 b4 (knm ks.length) lo (lo+atE xs (pos+1) 5) g.1) (fun g=>(pos+3≤g.1.pos∧g.1.pos≤pos+30)∧KI a ks.length c (idF idl :: g.2) g.1∧RefP ks (knm ks.length) g.2 g.1.ks∧g.2.length≤3) ?_ ?_
   ·(((with_reducible refine W.mk ?_);(conv=>whnf)))
    refine Bc.l ?_
    by_cases hn0:0<ks.length
    ·have h4:=ae0 xs (pos+1+1+1) ks.length
     have h4':=h4.2 (by omega)
     repeat' (first|refine sk9 ?_|(intro b;conv=>whnf))
     ((refine CE.own (aa7 xs hx bm _ _ ⟨by omega,by omega⟩) (List.Perm.refl ([mkB bm xs _] ++ _)) (fun s'=>s' ++ _) (fun s'=>List.Perm.refl _) ?_);(rintro _ _ ⟨rfl,rfl⟩))
     repeat' (first|refine sk9 ?_|(intro b;conv=>whnf))
     obtain ⟨to,hto⟩:∃ to:Nat,atE xs (pos+1+1+1) ks.length=to:=⟨(atE xs (pos+1+1+1) ks.length).toNat,by omega⟩
     obtain ⟨y,hy⟩:∃ y,ks[to]?=some y:=⟨_,List.getElem?_eq_getElem (by omega)⟩
     obtain ⟨b2,cap2,cs2,e2,rfl,hcs⟩:=RowIs.get hrow (show (ks.map kndC)[to]?=some (kndC y) by rw [List.getElem?_map,hy];rfl)
     rw [List.length_map] at e2
     cases e2
     have hc0:cs2[to*4+0]?=some (sD y.name):=hcs 0 (by omega)
     have hc3:cs2[to*4+3]?=some (slF y.fields):=hcs 3 (by omega)
     have h5:=ae0 xs (pos+1+1+1+1) 4
     have h5':=h5.2 (by omega)
     obtain ⟨hi,hhi,hhix⟩:=lit_e [4,3,8,2] (j:=atE xs (pos+1+1+1+1) 4) ⟨by omega,by simp;omega⟩
     (refine Dr.r ?_;(((with_reducible refine W.mk ?_);(conv=>whnf)));refine Dm.r ?_;refine W.mk ?_)
     refine aE1 mixed aa0 rfl [0,1,2,3,5,6] 7 (inE [4,7,11,12]) (.three 4 (.two 7 (.fst 8 (.fst 9 (.fst 10 (.one 11 (.one 12 .done))))) 11 (.one 7 (.fst 8 (.fst 9 (.fst 10 (.one 12 .done)))))) 7 (.fst 8 (.fst 9 (.two 4 (.fst 10 (.one 11 (.one 12 .done))) 11 (.one 4 (.fst 10 (.one 12 .done)))))) 11 (.two 4 (.one 7 (.fst 8 (.fst 9 (.fst 10 (.one 12 .done))))) 7 (.fst 8 (.fst 9 (.one 4 (.fst 10 (.one 12 .done))))))) (γ:=Nat) (fun g=>[(9,.v (.pointer (some ⟨g,0,none⟩)))]) (fun g=>mkB bm xs (pos+1+1+1+1+1) :: (g,.cells 111 (fldR (ofF y 0 hi) nilD nilD)) :: kdB b7 (knm ks.length) lo (lo+atE xs (pos+1) 5) fv :: (b4,.cells 97 zK) :: (sf ++ [(b2,.cells 97 cs2)])) (fun _=>True) (by decide +kernel) ?_ ?_
     ·repeat' (first|refine sk9 ?_|(intro b;conv=>whnf)|(refine And.intro ?_ ?_ <;> (conv=>whnf))|((refine CE.own (aa7 xs hx bm _ _ ⟨by omega,by omega⟩) (List.Perm.refl ([mkB bm xs _] ++ _)) (fun s'=>s' ++ _) (fun s'=>List.Perm.refl _) ?_);(rintro _ _ ⟨rfl,rfl⟩))|((refine CE.own (aa7 xs hx bm _ _ ⟨by omega,by omega⟩) (show List.Perm (_ :: mkB bm xs _ :: _) ([mkB bm xs _] ++ (_ :: _)) from List.Perm.swap _ _ _) (fun s'=>s' ++ (_ :: _)) (fun s'=>List.Perm.refl _) ?_);(rintro _ _ ⟨rfl,rfl⟩))|(refine Ix.at hhix (by omega) ?_)|(refine Ld.cellm (tb:=97) (cs:=cs2) (by simp) (by rw [hto,show 0+((to:Nat):Int).toNat*4+0=to*4+0 by simp];exact hc0) ?_))
      all_goals exact ⟨b,(aa2 cl2),cl8,trivial⟩
     ·rintro b9 -
      rw [hto]
      have h6:=ae0 xs (pos+1+1+1+1+1) 5
      have h6':=h6.2 (by omega)
      repeat' (first|refine sk9 ?_|(intro b;conv=>whnf))
      ((refine CE.own (aa7 xs hx bm _ _ ⟨by omega,by omega⟩) (List.Perm.refl ([mkB bm xs _] ++ _)) (fun s'=>s' ++ _) (fun s'=>List.Perm.refl _) ?_);(rintro _ _ ⟨rfl,rfl⟩))
      repeat' (first|refine sk9 ?_|(intro b;conv=>whnf))
      refine Bc.j ?_
      refine at6 mixed aa0 (γ:=Int) (fun _=>[]) (fun g=>mkB bm xs (pos+6) :: (b9,.cells 111 (fldR (ofF y g hi) nilD nilD)) :: kdB b7 (knm ks.length) lo (lo+atE xs (pos+1) 5) fv :: (b4,.cells 97 zK) :: (sf ++ [(b2,.cells 97 cs2)])) (fun g=>g=0∨g=1) ?_ ?_
      ·(((with_reducible refine W.mk ?_);(conv=>whnf)))
       refine Bc.l ?_
       have e6:pos+1+1+1+1+1+1=pos+6:=by omega
       rw [e6]
       by_cases hz6:atE xs (pos+1+1+1+1+1) 5=0
       ·repeat' (first|refine sk9 ?_|(intro b;conv=>whnf))
        exact ⟨1,(aa2 cl2),cl8,.inr rfl⟩
       ·repeat' (first|refine sk9 ?_|(intro b;conv=>whnf))
        exact ⟨0,(aa2 cl2),cl8,.inl rfl⟩
      ·rintro l9 hl9
       repeat' (first|refine sk9 ?_|(intro b;conv=>whnf))
       refine Ap.go rfl rfl rfl rfl hfr (τ:=mkB bm xs (pos+6) :: (b9,.cells 111 (fldR (ofF y l9 hi) nilD nilD)) :: kdB b7 (knm ks.length) lo (lo+atE xs (pos+1) 5) fv :: (b4,.cells 97 zK) :: [(b2,.cells 97 cs2)]) cl9 rfl (zs:=[fldR (idF idl) nilD nilD,fldR (ofF y l9 hi) nilD nilD]) rfl (by simp) (by simp) (fun s'=>mkB bm xs (pos+6) :: kdB b7 (knm ks.length) lo (lo+atE xs (pos+1) 5) fv :: (b4,.cells 97 zK) :: (b9,.cells 111 (fldR (ofF y l9 hi) nilD nilD)) :: (s' ++ [(b2,.cells 97 cs2)])) (fun s'=>cl10) (fun a3 c3 s3 hr3=>?_)
       repeat' (first|refine sk9 ?_|(intro b;conv=>whnf))
       refine Ld.rowm (tb:=97) (cs:=cs2) (x:=kndC y) (by simp) rfl (by decide) (fun j hj=>by rw [show 0+((to:Nat):Int).toNat*4+j=to*4+j by simp];exact hcs j hj) ?_
       have hyl:=hfl y (List.mem_of_getElem? hy)
       have HC:=r09_copied y (by omega)
       have HT:=aM7 y.fields ap4 (by omega)
       repeat' (first|refine sk9 ?_|(intro b;conv=>whnf))
       refine CE.pure HC ?_
       have le2:LeR [fldR (idF idl) nilD nilD,fldR (ofF y l9 hi) nilD nilD] ([idF idl,ofF y l9 hi].map fldC):=.cons (.cons (Le.refl _) (.cons (Le.refl _) (.cons (Le.refl _) (.cons (Le.refl _) (.cons (Le.refl _) (.cons (Le.refl _) (.cons (ah5 1) (.cons (ah5 1) .nil)))))))) (.cons (.cons (Le.refl _) (.cons (Le.refl _) (.cons (Le.refl _) (.cons (Le.refl _) (.cons (Le.refl _) (.cons (Le.refl _) (.cons (ah5 1) (.cons (ah5 1) .nil)))))))) .nil)
       by_cases hcp:0≤ap5 y
       ·have h7:=ae0 xs (pos+6) 2
        have h7':=h7.2 (by omega)
        have hlt7:ap5 y<y.fields.length:=aT3 _ _
        obtain ⟨hf7,hg7⟩:∃ h,y.fields[(ap5 y).toNat]?=some h:=⟨_,List.getElem?_eq_getElem (by omega)⟩
        repeat' (first|refine sk9 ?_|(intro b;conv=>whnf))
        ((refine CE.own (aa7 xs hx bm _ _ ⟨by omega,by omega⟩) (List.Perm.refl ([mkB bm xs _] ++ _)) (fun s'=>s' ++ _) (fun s'=>List.Perm.refl _) ?_);(rintro _ _ ⟨rfl,rfl⟩))
        repeat' (first|refine sk9 ?_|(intro b;conv=>whnf))
        refine Bc.j ?_
        refine at6 mixed aa0 (γ:=Int × Value × List (List D) × aa1 × List Fld) (fun _=>[]) (fun g=>mkB bm xs g.1 :: kdB b7 (knm ks.length) lo (lo+atE xs (pos+1) 5) g.2.1 :: (b4,.cells 97 zK) :: (g.2.2.2.1 ++ [(b2,.cells 97 cs2)])) (fun g=>(pos+6≤g.1∧g.1≤pos+10)∧RowIs 111 8 g.2.2.1 g.2.1 g.2.2.2.1∧LeR g.2.2.1 ((idF idl :: ofF y l9 hi :: g.2.2.2.2).map fldC)∧(g.2.2.2.2=[]∨∃ h,0≤ap5 y∧y.fields[(ap5 y).toNat]?=some h∧g.2.2.2.2=[at5 h.name])) ?_ ?_
        ·(((with_reducible refine W.mk ?_);(conv=>whnf)))
         refine Bc.l ?_
         by_cases hz7:atE xs (pos+6) 2=0
         ·repeat' (first|refine sk9 ?_|(intro b;conv=>whnf))
          refine Dr.l (by decide +kernel) ?_
          repeat' (first|refine sk9 ?_|(intro b;conv=>whnf))
          refine Ld.cellm (tb:=97) (cs:=cs2) (by simp) cl11 ?_
          repeat' (first|refine sk9 ?_|(intro b;conv=>whnf))
          refine Ap.go rfl rfl rfl rfl hr3 (τ:=mkB bm xs (pos+6+1) :: (b9,.cells 111 (fldR (ofF y l9 hi) nilD nilD)) :: kdB b7 (knm ks.length) lo (lo+atE xs (pos+1) 5) (.slice a3 2 c3) :: (b4,.cells 97 zK) :: [(b2,.cells 97 cs2)]) cl9 rfl (zs:=[fldR (idF idl) nilD nilD,fldR (ofF y l9 hi) nilD nilD,fldR (at5 hf7.name) nilD nilD]) rfl (by simp) (by simp) (fun s'=>mkB bm xs (pos+6+1) :: kdB b7 (knm ks.length) lo (lo+atE xs (pos+1) 5) (.slice a3 2 c3) :: (b4,.cells 97 zK) :: (b9,.cells 111 (fldR (ofF y l9 hi) nilD nilD)) :: (s' ++ [(b2,.cells 97 cs2)])) (fun s'=>cl10) (fun a5 c5 s5 hr5=>?_)
          repeat' (first|refine sk9 ?_|(intro b;conv=>whnf))
          exact ⟨(pos+6+1,_,_,s5,[at5 hf7.name]),(aa2 cl2),cl8,⟨by simp only;omega,by simp only;omega⟩,hr5,.cons (.cons (Le.refl _) (.cons (Le.refl _) (.cons (Le.refl _) (.cons (Le.refl _) (.cons (Le.refl _) (.cons (Le.refl _) (.cons (ah5 1) (.cons (ah5 1) .nil)))))))) (.cons (.cons (Le.refl _) (.cons (Le.refl _) (.cons (Le.refl _) (.cons (Le.refl _) (.cons (Le.refl _) (.cons (Le.refl _) (.cons (ah5 1) (.cons (ah5 1) .nil)))))))) (.cons (.cons (Le.refl _) (.cons (Le.refl _) (.cons (Le.refl _) (.cons (Le.refl _) (.cons (Le.refl _) (.cons (Le.refl _) (.cons (ah5 1) (.cons (ah5 1) .nil)))))))) .nil)),.inr ⟨hf7,hcp,hg7,rfl⟩⟩
         ·repeat' (first|refine sk9 ?_|(intro b;conv=>whnf))
          exact ⟨(pos+6+1,_,_,s3,[]),(aa2 cl2),cl8,⟨by simp only;omega,by simp only;omega⟩,hr3,le2,.inl rfl⟩
        ·rintro ⟨p3,fv3,rs3,sf3,sm⟩ ⟨⟨hp3,hp3'⟩,hr4,hle4,hsm⟩
         simp only at hp3 hp3' hr4 hle4 hsm ⊢
         have hsl:sm.length≤1:=by rcases hsm with rfl|⟨_,_,_,rfl⟩ <;> simp
         repeat' (first|refine sk9 ?_|(intro b;conv=>whnf))
         refine Ld.cellm (tb:=97) (cs:=cs2) (by simp) cl11 ?_
         repeat' (first|refine sk9 ?_|(intro b;conv=>whnf))
         refine CE.pure HT ?_
         by_cases ht:am4 y.fields ap4<0
         ·have h8:=ae0 xs p3 3
          have h8':=h8.2 (by omega)
          repeat' (first|refine sk9 ?_|(intro b;conv=>whnf))
          ((refine CE.own (aa7 xs hx bm _ _ ⟨by omega,by omega⟩) (List.Perm.refl ([mkB bm xs _] ++ _)) (fun s'=>s' ++ _) (fun s'=>List.Perm.refl _) ?_);(rintro _ _ ⟨rfl,rfl⟩))
          repeat' (first|refine sk9 ?_|(intro b;conv=>whnf))
          refine Bc.l ?_
          by_cases hz8:atE xs p3 3=0
          ·have h9:=ae0 xs (p3+1) 3
           have h9':=h9.2 (by omega)
           have h10:=ae0 xs (p3+1+1) 8
           have h10':=h10.2 (by omega)
           have hrl:rs3.length≤3:=by have:=hle4.len;simp at this;omega
           repeat' (first|refine sk9 ?_|(intro b;conv=>whnf))
           ((refine CE.own (aa7 xs hx bm _ _ ⟨by omega,by omega⟩) (List.Perm.refl ([mkB bm xs _] ++ _)) (fun s'=>s' ++ _) (fun s'=>List.Perm.refl _) ?_);(rintro _ _ ⟨rfl,rfl⟩))
           repeat' (first|refine sk9 ?_|(intro b;conv=>whnf))
           (refine Dr.r ?_;(((with_reducible refine W.mk ?_);(conv=>whnf)));refine Dm.r ?_;refine W.mk ?_)
           refine aE1 mixed aa0 rfl [0,2,3,4] 8 (inE [1,5,9,10,11]) (.two 1 (.one 5 (.fst 6 (.fst 7 (.fst 8 (.one 9 (.one 10 (.one 11 .done))))))) 5 (.fst 6 (.fst 7 (.fst 8 (.one 1 (.one 9 (.one 10 (.one 11 .done)))))))) (γ:=Value × aa1) (fun _=>[]) (fun g=>mkB bm xs (p3+1+1+1) :: kdB b7 (knm ks.length) lo (lo+atE xs (pos+1) 5) g.1 :: (b4,.cells 97 zK) :: (g.2 ++ [(b2,.cells 97 cs2)])) (fun g=>RowIs 111 8 (rs3 ++ [fldR (aj5 (atE xs (p3+1) 3) (atE xs (p3+1+1) 8)) nilD nilD]) g.1 g.2) (by decide +kernel) ?_ ?_
           ·repeat' (first|refine sk9 ?_|(intro b;conv=>whnf)|(refine And.intro ?_ ?_ <;> (conv=>whnf))|((refine CE.own (aa7 xs hx bm _ _ ⟨by omega,by omega⟩) (List.Perm.refl ([mkB bm xs _] ++ _)) (fun s'=>s' ++ _) (fun s'=>List.Perm.refl _) ?_);(rintro _ _ ⟨rfl,rfl⟩))|((refine CE.own (aa7 xs hx bm _ _ ⟨by omega,by omega⟩) (show List.Perm (_ :: mkB bm xs _ :: _) ([mkB bm xs _] ++ (_ :: _)) from List.Perm.swap _ _ _) (fun s'=>s' ++ (_ :: _)) (fun s'=>List.Perm.refl _) ?_);(rintro _ _ ⟨rfl,rfl⟩))|(refine Ap.go rfl rfl rfl rfl hr4 (τ:=mkB bm xs (p3+1+1+1) :: kdB b7 (knm ks.length) lo (lo+atE xs (pos+1) 5) fv3 :: (b4,.cells 97 zK) :: [(b2,.cells 97 cs2)]) cl9 rfl (zs:=rs3 ++ [fldR (aj5 (atE xs (p3+1) 3) (atE xs (p3+1+1) 8)) nilD nilD]) rfl (by simp;omega) (by simp;omega) (fun s'=>mkB bm xs (p3+1+1+1) :: kdB b7 (knm ks.length) lo (lo+atE xs (pos+1) 5) fv3 :: (b4,.cells 97 zK) :: (s' ++ [(b2,.cells 97 cs2)])) (fun s'=>cl10) (fun a6 c6 s6 hr6=>?_)))
            all_goals exact ⟨(_,s6),(aa2 cl2),cl8,hr6⟩
           ·rintro ⟨fv6,sf6⟩ hr6
            simp only at hr6 ⊢
            repeat' (first|refine sk9 ?_|(intro b;conv=>whnf))
            (refine Dr.r ?_;(((with_reducible refine W.mk ?_);(conv=>whnf)));refine Dm.r ?_;refine W.mk ?_)
            refine aE1 mixed aa0 rfl [0,1,3,4,5,6,9] 10 (inE [2,7,8,10,13,14,15,16]) (.three 2 (.two 7 (.two 8 (.one 10 (.fst 11 (.fst 12 (.one 13 (.one 14 (.one 15 (.one 16 .done))))))) 10 (.fst 11 (.fst 12 (.one 8 (.one 13 (.one 14 (.one 15 (.one 16 .done)))))))) 10 (.fst 11 (.fst 12 (.one 7 (.one 8 (.one 13 (.one 14 (.one 15 (.one 16 .done))))))))) 7 (.two 2 (.two 8 (.one 10 (.fst 11 (.fst 12 (.one 13 (.one 14 (.one 15 (.one 16 .done))))))) 10 (.fst 11 (.fst 12 (.one 8 (.one 13 (.one 14 (.one 15 (.one 16 .done)))))))) 10 (.fst 11 (.fst 12 (.one 2 (.one 8 (.one 13 (.one 14 (.one 15 (.one 16 .done))))))))) 10 (.fst 11 (.fst 12 (.two 2 (.one 7 (.one 8 (.one 13 (.one 14 (.one 15 (.one 16 .done)))))) 7 (.one 2 (.one 8 (.one 13 (.one 14 (.one 15 (.one 16 .done)))))))))) (γ:=Option Addr × Nat × aa1) (fun _=>[]) (fun g=>mkB bm xs (p3+1+1+1) :: kdB b7 (knm ks.length) lo (lo+atE xs (pos+1) 5) fv6 :: (b4,.cells 97 zK) :: (sf6 ++ ((b2,.cells 97 (cs2.set (to*4+3) (.v (.slice g.1 (y.fields.map fldC ++ [fldR (totF (knm ks.length)) nilD nilD]).length g.2.1)))) :: g.2.2))) (fun g=>RowIs 111 8 (y.fields.map fldC ++ [fldR (totF (knm ks.length)) nilD nilD]) (.slice g.1 (y.fields.map fldC ++ [fldR (totF (knm ks.length)) nilD nilD]).length g.2.1) g.2.2) (by decide +kernel) ?_ ?_
            ·repeat' (first|refine sk9 ?_|(intro b;conv=>whnf)|(refine And.intro ?_ ?_ <;> (conv=>whnf))|(refine Ld.cellm (tb:=97) (cs:=cs2) (by simp) cl11 ?_)|(refine Ld.cellm (tb:=97) (cs:=[sD (knm ks.length),iD lo,iD (lo+atE xs (pos+1) 5),.v fv6]) (by simp) rfl ?_)|(refine Ap.go rfl rfl rfl rfl hr8 (τ:=mkB bm xs (p3+1+1+1) :: kdB b7 (knm ks.length) lo (lo+atE xs (pos+1) 5) fv6 :: (b4,.cells 97 zK) :: (sf6 ++ [(b2,.cells 97 cs2)])) cl12 rfl (zs:=y.fields.map fldC ++ [fldR (totF (knm ks.length)) nilD nilD]) rfl (by simp only [List.length_append,List.length_map,List.length_cons,List.length_nil];omega) cl13 (fun s'=>mkB bm xs (p3+1+1+1) :: kdB b7 (knm ks.length) lo (lo+atE xs (pos+1) 5) fv6 :: (b4,.cells 97 zK) :: (sf6 ++ ((b2,.cells 97 cs2) :: s'))) (fun s'=>cl10) (fun a9 c9 s9 hr9=>?_))|(refine Ap.go rfl rfl rfl rfl (RowIs.e0 111 8 (some ⟨b,0,none⟩)) (List.Perm.refl ([] ++ _)) (one_f y.fields) (zs:=y.fields.map fldC) rfl (by rw [List.length_map];omega) (by rw [List.length_map];omega) (fun s'=>s' ++ _) (fun s'=>List.Perm.refl _) (fun a8 c8 s8 hr8=>?_))|(refine Sv.cellm (tb:=97) (cs:=cs2) (cs':=cs2.set (to*4+3) (.v (.slice a9 (y.fields.map fldC ++ [fldR (totF (knm ks.length)) nilD nilD]).length c9))) (τ:=mkB bm xs (p3+1+1+1) :: kdB b7 (knm ks.length) lo (lo+atE xs (pos+1) 5) fv6 :: (b4,.cells 97 zK) :: (sf6 ++ s9)) cl9 cl14 rfl (by rw [show 0+((to:Nat):Int).toNat*4+3=to*4+3 by simp]) ?_))
             all_goals exact ⟨(a9,c9,s9),(aa2 cl2),Sc.perm cl9,hr9⟩
            ·rintro ⟨a9,c9,s9⟩ hr9
             simp only at hr9 ⊢
             have hidx:=(List.getElem?_eq_some_iff.1 hc3).1
             have hkr:=RowIs.put1 (d:=slF (y.fields ++ [totF (knm ks.length)])) hrow (show (ks.map kndC)[to]?=some (kndC y) by rw [List.getElem?_map,hy];rfl) (show 3<4 by omega)
             have hls:(ks.map kndC).set to ((kndC y).set 3 (slF (y.fields ++ [totF (knm ks.length)])))=(ks.set to ⟨y.name,y.lo,y.hi,y.fields ++ [totF (knm ks.length)]⟩).map kndC:=by rw [List.map_set];rfl
             rw [hls] at hkr
             have le9:LeR (y.fields.map fldC ++ [fldR (totF (knm ks.length)) nilD nilD]) ((y.fields ++ [totF (knm ks.length)]).map fldC):=by rw [List.map_append];exact (LeR.refl _).append (.cons (.cons (Le.refl _) (.cons (Le.refl _) (.cons (Le.refl _) (.cons (Le.refl _) (.cons (Le.refl _) (.cons (Le.refl _) (.cons (ah5 1) (.cons (ah5 1) .nil)))))))) .nil)
             have hfz:=Sc.frz (b:=b2) (t:=97) (τ:=mkB bm xs (p3+1+1+1) :: kdB b7 (knm ks.length) lo (lo+atE xs (pos+1) 5) fv6 :: (b4,.cells 97 zK) :: sf6) (List.getElem?_set_self (a:=D.v (.slice a9 (y.fields.map fldC ++ [fldR (totF (knm ks.length)) nilD nilD]).length c9)) hidx) hr9 le9
             rw [List.set_set] at hfz
             change Sc _ ((b2,.cells 97 (cs2.set (to*4+3) (slF (y.fields ++ [totF (knm ks.length)])))) :: _) at hfz
             have hle6:LeR (rs3 ++ [fldR (aj5 (atE xs (p3+1) 3) (atE xs (p3+1+1) 8)) nilD nilD]) ((idF idl :: ofF y l9 hi :: (sm ++ [aj5 (atE xs (p3+1) 3) (atE xs (p3+1+1) 8)])).map fldC):=by
              have:=hle4.append (LeR.cons (x:=fldR (aj5 (atE xs (p3+1) 3) (atE xs (p3+1+1) 8)) nilD nilD) (y:=fldC (aj5 (atE xs (p3+1) 3) (atE xs (p3+1+1) 8))) (.cons (Le.refl _) (.cons (Le.refl _) (.cons (Le.refl _) (.cons (Le.refl _) (.cons (Le.refl _) (.cons (Le.refl _) (.cons (ah5 1) (.cons (ah5 1) .nil)))))))) .nil)
              simpa using this
             repeat' (first|refine sk9 ?_|(intro b;conv=>whnf))
             exact ⟨(⟨p3+1+1+1,fv6,_,sf6,ks.set to ⟨y.name,y.lo,y.hi,y.fields ++ [totF (knm ks.length)]⟩,[(b2,.cells 97 (cs2.set (to*4+3) (slF (y.fields ++ [totF (knm ks.length)]))))]⟩,ofF y l9 hi :: (sm ++ [aj5 (atE xs (p3+1) 3) (atE xs (p3+1+1) 8)])),(aa2 cl2),(Sc.perm cl9).trans (hfz.trans (Sc.perm cl9)),⟨by simp only;omega,by simp only;omega⟩,⟨hr6,hle6,hkr,by simp⟩,RefP.part to y l9 hi _ _ sm hy hl9 hhi hsm ht ⟨h9.1,h9'⟩ ⟨h10.1,h10'⟩,by simp;omega⟩
          ·repeat' (first|refine sk9 ?_|(intro b;conv=>whnf))
           exact ⟨(⟨p3+1,fv3,rs3,sf3,ks,[(b2,.cells 97 cs2)]⟩,ofF y l9 hi :: sm),(aa2 cl2),cl8,⟨by simp only;omega,by simp only;omega⟩,⟨hr4,hle4,hrow,rfl⟩,RefP.of to y l9 hi sm hy hl9 hhi hsm,by simp;omega⟩
         ·repeat' (first|refine sk9 ?_|(intro b;conv=>whnf))
          refine Bc.l ?_
          repeat' (first|refine sk9 ?_|(intro b;conv=>whnf))
          exact ⟨(⟨p3,fv3,rs3,sf3,ks,[(b2,.cells 97 cs2)]⟩,ofF y l9 hi :: sm),(aa2 cl2),cl8,⟨by simp only;omega,by simp only;omega⟩,⟨hr4,hle4,hrow,rfl⟩,RefP.of to y l9 hi sm hy hl9 hhi hsm,by simp;omega⟩
       ·repeat' (first|refine sk9 ?_|(intro b;conv=>whnf))
        refine Bc.j ?_
        refine at6 mixed aa0 (γ:=Int × Value × List (List D) × aa1 × List Fld) (fun _=>[]) (fun g=>mkB bm xs g.1 :: kdB b7 (knm ks.length) lo (lo+atE xs (pos+1) 5) g.2.1 :: (b4,.cells 97 zK) :: (g.2.2.2.1 ++ [(b2,.cells 97 cs2)])) (fun g=>(pos+6≤g.1∧g.1≤pos+10)∧RowIs 111 8 g.2.2.1 g.2.1 g.2.2.2.1∧LeR g.2.2.1 ((idF idl :: ofF y l9 hi :: g.2.2.2.2).map fldC)∧(g.2.2.2.2=[]∨∃ h,0≤ap5 y∧y.fields[(ap5 y).toNat]?=some h∧g.2.2.2.2=[at5 h.name])) ?_ ?_
        ·(((with_reducible refine W.mk ?_);(conv=>whnf)))
         refine Bc.l ?_
         repeat' (first|refine sk9 ?_|(intro b;conv=>whnf))
         exact ⟨(pos+6,_,_,s3,[]),(aa2 cl2),cl8,⟨by simp only;omega,by simp only;omega⟩,hr3,le2,.inl rfl⟩
        ·rintro ⟨p3,fv3,rs3,sf3,sm⟩ ⟨⟨hp3,hp3'⟩,hr4,hle4,hsm⟩
         simp only at hp3 hp3' hr4 hle4 hsm ⊢
         have hsl:sm.length≤1:=by rcases hsm with rfl|⟨_,_,_,rfl⟩ <;> simp
         repeat' (first|refine sk9 ?_|(intro b;conv=>whnf))
         refine Ld.cellm (tb:=97) (cs:=cs2) (by simp) cl11 ?_
         repeat' (first|refine sk9 ?_|(intro b;conv=>whnf))
         refine CE.pure HT ?_
         by_cases ht:am4 y.fields ap4<0
         ·have h8:=ae0 xs p3 3
          have h8':=h8.2 (by omega)
          repeat' (first|refine sk9 ?_|(intro b;conv=>whnf))
          ((refine CE.own (aa7 xs hx bm _ _ ⟨by omega,by omega⟩) (List.Perm.refl ([mkB bm xs _] ++ _)) (fun s'=>s' ++ _) (fun s'=>List.Perm.refl _) ?_);(rintro _ _ ⟨rfl,rfl⟩))
          repeat' (first|refine sk9 ?_|(intro b;conv=>whnf))
          refine Bc.l ?_
          by_cases hz8:atE xs p3 3=0
          ·have h9:=ae0 xs (p3+1) 3
           have h9':=h9.2 (by omega)
           have h10:=ae0 xs (p3+1+1) 8
           have h10':=h10.2 (by omega)
           have hrl:rs3.length≤3:=by have:=hle4.len;simp at this;omega
           repeat' (first|refine sk9 ?_|(intro b;conv=>whnf))
           ((refine CE.own (aa7 xs hx bm _ _ ⟨by omega,by omega⟩) (List.Perm.refl ([mkB bm xs _] ++ _)) (fun s'=>s' ++ _) (fun s'=>List.Perm.refl _) ?_);(rintro _ _ ⟨rfl,rfl⟩))
           repeat' (first|refine sk9 ?_|(intro b;conv=>whnf))
           (refine Dr.r ?_;(((with_reducible refine W.mk ?_);(conv=>whnf)));refine Dm.r ?_;refine W.mk ?_)
           refine aE1 mixed aa0 rfl [0,2,3,4] 8 (inE [1,5,9,10,11]) (.two 1 (.one 5 (.fst 6 (.fst 7 (.fst 8 (.one 9 (.one 10 (.one 11 .done))))))) 5 (.fst 6 (.fst 7 (.fst 8 (.one 1 (.one 9 (.one 10 (.one 11 .done)))))))) (γ:=Value × aa1) (fun _=>[]) (fun g=>mkB bm xs (p3+1+1+1) :: kdB b7 (knm ks.length) lo (lo+atE xs (pos+1) 5) g.1 :: (b4,.cells 97 zK) :: (g.2 ++ [(b2,.cells 97 cs2)])) (fun g=>RowIs 111 8 (rs3 ++ [fldR (aj5 (atE xs (p3+1) 3) (atE xs (p3+1+1) 8)) nilD nilD]) g.1 g.2) (by decide +kernel) ?_ ?_
           ·repeat' (first|refine sk9 ?_|(intro b;conv=>whnf)|(refine And.intro ?_ ?_ <;> (conv=>whnf))|((refine CE.own (aa7 xs hx bm _ _ ⟨by omega,by omega⟩) (List.Perm.refl ([mkB bm xs _] ++ _)) (fun s'=>s' ++ _) (fun s'=>List.Perm.refl _) ?_);(rintro _ _ ⟨rfl,rfl⟩))|((refine CE.own (aa7 xs hx bm _ _ ⟨by omega,by omega⟩) (show List.Perm (_ :: mkB bm xs _ :: _) ([mkB bm xs _] ++ (_ :: _)) from List.Perm.swap _ _ _) (fun s'=>s' ++ (_ :: _)) (fun s'=>List.Perm.refl _) ?_);(rintro _ _ ⟨rfl,rfl⟩))|(refine Ap.go rfl rfl rfl rfl hr4 (τ:=mkB bm xs (p3+1+1+1) :: kdB b7 (knm ks.length) lo (lo+atE xs (pos+1) 5) fv3 :: (b4,.cells 97 zK) :: [(b2,.cells 97 cs2)]) cl9 rfl (zs:=rs3 ++ [fldR (aj5 (atE xs (p3+1) 3) (atE xs (p3+1+1) 8)) nilD nilD]) rfl (by simp;omega) (by simp;omega) (fun s'=>mkB bm xs (p3+1+1+1) :: kdB b7 (knm ks.length) lo (lo+atE xs (pos+1) 5) fv3 :: (b4,.cells 97 zK) :: (s' ++ [(b2,.cells 97 cs2)])) (fun s'=>cl10) (fun a6 c6 s6 hr6=>?_)))
            all_goals exact ⟨(_,s6),(aa2 cl2),cl8,hr6⟩
           ·rintro ⟨fv6,sf6⟩ hr6
            simp only at hr6 ⊢
            repeat' (first|refine sk9 ?_|(intro b;conv=>whnf))
            (refine Dr.r ?_;(((with_reducible refine W.mk ?_);(conv=>whnf)));refine Dm.r ?_;refine W.mk ?_)
            refine aE1 mixed aa0 rfl [0,1,3,4,5,6,9] 10 (inE [2,7,8,10,13,14,15,16]) (.three 2 (.two 7 (.two 8 (.one 10 (.fst 11 (.fst 12 (.one 13 (.one 14 (.one 15 (.one 16 .done))))))) 10 (.fst 11 (.fst 12 (.one 8 (.one 13 (.one 14 (.one 15 (.one 16 .done)))))))) 10 (.fst 11 (.fst 12 (.one 7 (.one 8 (.one 13 (.one 14 (.one 15 (.one 16 .done))))))))) 7 (.two 2 (.two 8 (.one 10 (.fst 11 (.fst 12 (.one 13 (.one 14 (.one 15 (.one 16 .done))))))) 10 (.fst 11 (.fst 12 (.one 8 (.one 13 (.one 14 (.one 15 (.one 16 .done)))))))) 10 (.fst 11 (.fst 12 (.one 2 (.one 8 (.one 13 (.one 14 (.one 15 (.one 16 .done))))))))) 10 (.fst 11 (.fst 12 (.two 2 (.one 7 (.one 8 (.one 13 (.one 14 (.one 15 (.one 16 .done)))))) 7 (.one 2 (.one 8 (.one 13 (.one 14 (.one 15 (.one 16 .done)))))))))) (γ:=Option Addr × Nat × aa1) (fun _=>[]) (fun g=>mkB bm xs (p3+1+1+1) :: kdB b7 (knm ks.length) lo (lo+atE xs (pos+1) 5) fv6 :: (b4,.cells 97 zK) :: (sf6 ++ ((b2,.cells 97 (cs2.set (to*4+3) (.v (.slice g.1 (y.fields.map fldC ++ [fldR (totF (knm ks.length)) nilD nilD]).length g.2.1)))) :: g.2.2))) (fun g=>RowIs 111 8 (y.fields.map fldC ++ [fldR (totF (knm ks.length)) nilD nilD]) (.slice g.1 (y.fields.map fldC ++ [fldR (totF (knm ks.length)) nilD nilD]).length g.2.1) g.2.2) (by decide +kernel) ?_ ?_
            ·repeat' (first|refine sk9 ?_|(intro b;conv=>whnf)|(refine And.intro ?_ ?_ <;> (conv=>whnf))|(refine Ld.cellm (tb:=97) (cs:=cs2) (by simp) cl11 ?_)|(refine Ld.cellm (tb:=97) (cs:=[sD (knm ks.length),iD lo,iD (lo+atE xs (pos+1) 5),.v fv6]) (by simp) rfl ?_)|(refine Ap.go rfl rfl rfl rfl hr8 (τ:=mkB bm xs (p3+1+1+1) :: kdB b7 (knm ks.length) lo (lo+atE xs (pos+1) 5) fv6 :: (b4,.cells 97 zK) :: (sf6 ++ [(b2,.cells 97 cs2)])) cl12 rfl (zs:=y.fields.map fldC ++ [fldR (totF (knm ks.length)) nilD nilD]) rfl (by simp only [List.length_append,List.length_map,List.length_cons,List.length_nil];omega) cl13 (fun s'=>mkB bm xs (p3+1+1+1) :: kdB b7 (knm ks.length) lo (lo+atE xs (pos+1) 5) fv6 :: (b4,.cells 97 zK) :: (sf6 ++ ((b2,.cells 97 cs2) :: s'))) (fun s'=>cl10) (fun a9 c9 s9 hr9=>?_))|(refine Ap.go rfl rfl rfl rfl (RowIs.e0 111 8 (some ⟨b,0,none⟩)) (List.Perm.refl ([] ++ _)) (one_f y.fields) (zs:=y.fields.map fldC) rfl (by rw [List.length_map];omega) (by rw [List.length_map];omega) (fun s'=>s' ++ _) (fun s'=>List.Perm.refl _) (fun a8 c8 s8 hr8=>?_))|(refine Sv.cellm (tb:=97) (cs:=cs2) (cs':=cs2.set (to*4+3) (.v (.slice a9 (y.fields.map fldC ++ [fldR (totF (knm ks.length)) nilD nilD]).length c9))) (τ:=mkB bm xs (p3+1+1+1) :: kdB b7 (knm ks.length) lo (lo+atE xs (pos+1) 5) fv6 :: (b4,.cells 97 zK) :: (sf6 ++ s9)) cl9 cl14 rfl (by rw [show 0+((to:Nat):Int).toNat*4+3=to*4+3 by simp]) ?_))
             all_goals exact ⟨(a9,c9,s9),(aa2 cl2),Sc.perm cl9,hr9⟩
            ·rintro ⟨a9,c9,s9⟩ hr9
             simp only at hr9 ⊢
             have hidx:=(List.getElem?_eq_some_iff.1 hc3).1
             have hkr:=RowIs.put1 (d:=slF (y.fields ++ [totF (knm ks.length)])) hrow (show (ks.map kndC)[to]?=some (kndC y) by rw [List.getElem?_map,hy];rfl) (show 3<4 by omega)
             have hls:(ks.map kndC).set to ((kndC y).set 3 (slF (y.fields ++ [totF (knm ks.length)])))=(ks.set to ⟨y.name,y.lo,y.hi,y.fields ++ [totF (knm ks.length)]⟩).map kndC:=by rw [List.map_set];rfl
             rw [hls] at hkr
             have le9:LeR (y.fields.map fldC ++ [fldR (totF (knm ks.length)) nilD nilD]) ((y.fields ++ [totF (knm ks.length)]).map fldC):=by rw [List.map_append];exact (LeR.refl _).append (.cons (.cons (Le.refl _) (.cons (Le.refl _) (.cons (Le.refl _) (.cons (Le.refl _) (.cons (Le.refl _) (.cons (Le.refl _) (.cons (ah5 1) (.cons (ah5 1) .nil)))))))) .nil)
             have hfz:=Sc.frz (b:=b2) (t:=97) (τ:=mkB bm xs (p3+1+1+1) :: kdB b7 (knm ks.length) lo (lo+atE xs (pos+1) 5) fv6 :: (b4,.cells 97 zK) :: sf6) (List.getElem?_set_self (a:=D.v (.slice a9 (y.fields.map fldC ++ [fldR (totF (knm ks.length)) nilD nilD]).length c9)) hidx) hr9 le9
             rw [List.set_set] at hfz
             change Sc _ ((b2,.cells 97 (cs2.set (to*4+3) (slF (y.fields ++ [totF (knm ks.length)])))) :: _) at hfz
             have hle6:LeR (rs3 ++ [fldR (aj5 (atE xs (p3+1) 3) (atE xs (p3+1+1) 8)) nilD nilD]) ((idF idl :: ofF y l9 hi :: (sm ++ [aj5 (atE xs (p3+1) 3) (atE xs (p3+1+1) 8)])).map fldC):=by
              have:=hle4.append (LeR.cons (x:=fldR (aj5 (atE xs (p3+1) 3) (atE xs (p3+1+1) 8)) nilD nilD) (y:=fldC (aj5 (atE xs (p3+1) 3) (atE xs (p3+1+1) 8))) (.cons (Le.refl _) (.cons (Le.refl _) (.cons (Le.refl _) (.cons (Le.refl _) (.cons (Le.refl _) (.cons (Le.refl _) (.cons (ah5 1) (.cons (ah5 1) .nil)))))))) .nil)
              simpa using this
             repeat' (first|refine sk9 ?_|(intro b;conv=>whnf))
             exact ⟨(⟨p3+1+1+1,fv6,_,sf6,ks.set to ⟨y.name,y.lo,y.hi,y.fields ++ [totF (knm ks.length)]⟩,[(b2,.cells 97 (cs2.set (to*4+3) (slF (y.fields ++ [totF (knm ks.length)]))))]⟩,ofF y l9 hi :: (sm ++ [aj5 (atE xs (p3+1) 3) (atE xs (p3+1+1) 8)])),(aa2 cl2),(Sc.perm cl9).trans (hfz.trans (Sc.perm cl9)),⟨by simp only;omega,by simp only;omega⟩,⟨hr6,hle6,hkr,by simp⟩,RefP.part to y l9 hi _ _ sm hy hl9 hhi hsm ht ⟨h9.1,h9'⟩ ⟨h10.1,h10'⟩,by simp;omega⟩
          ·repeat' (first|refine sk9 ?_|(intro b;conv=>whnf))
           exact ⟨(⟨p3+1,fv3,rs3,sf3,ks,[(b2,.cells 97 cs2)]⟩,ofF y l9 hi :: sm),(aa2 cl2),cl8,⟨by simp only;omega,by simp only;omega⟩,⟨hr4,hle4,hrow,rfl⟩,RefP.of to y l9 hi sm hy hl9 hhi hsm,by simp;omega⟩
         ·repeat' (first|refine sk9 ?_|(intro b;conv=>whnf))
          refine Bc.l ?_
          repeat' (first|refine sk9 ?_|(intro b;conv=>whnf))
          exact ⟨(⟨p3,fv3,rs3,sf3,ks,[(b2,.cells 97 cs2)]⟩,ofF y l9 hi :: sm),(aa2 cl2),cl8,⟨by simp only;omega,by simp only;omega⟩,⟨hr4,hle4,hrow,rfl⟩,RefP.of to y l9 hi sm hy hl9 hhi hsm,by simp;omega⟩
    ·repeat' (first|refine sk9 ?_|(intro b;conv=>whnf))
     exact ⟨(⟨pos+1+1+1,fv,_,sf,ks,sk⟩,[]),(aa2 cl2),cl8,⟨by simp only;omega,by simp only;omega⟩,⟨hfr,.cons (.cons (Le.refl _) (.cons (Le.refl _) (.cons (Le.refl _) (.cons (Le.refl _) (.cons (Le.refl _) (.cons (Le.refl _) (.cons (ah5 1) (.cons (ah5 1) .nil)))))))) .nil,hrow,rfl⟩,RefP.none (List.length_eq_zero_iff.1 (by omega)),by simp⟩
   ·rintro ⟨⟨p1,fv1,rs1,sf1,ks1,sk1⟩,f1⟩ ⟨⟨hp1,hp1'⟩,⟨hr1,hle1,hkr1,hkl1⟩,hRef,hf1⟩
    simp only [kS] at hp1 hp1' hr1 hle1 hkr1 hkl1 hRef hf1 ⊢
    have hl1:rs1.length≤4:=by have:=hle1.len;simp at this;omega
    by_cases hn1:1<ks.length
    ·have h11:=ae0 xs p1 3
     repeat' (first|refine sk9 ?_|(intro b;conv=>whnf))
     ((refine CE.own (aa7 xs hx bm _ _ ⟨by omega,by omega⟩) (List.Perm.refl ([mkB bm xs _] ++ _)) (fun s'=>s' ++ _) (fun s'=>List.Perm.refl _) ?_);(rintro _ _ ⟨rfl,rfl⟩))
     repeat' (first|refine sk9 ?_|(intro b;conv=>whnf))
     refine Bc.j ?_
     refine at6 mixed aa0 (γ:=Int × Value × List (List D) × aa1 × List Fld) (fun _=>[]) (fun g=>mkB bm xs g.1 :: kdB b7 (knm ks.length) lo (lo+atE xs (pos+1) 5) g.2.1 :: (b4,.cells 97 zK) :: (g.2.2.2.1 ++ sk1)) (fun g=>(pos+3≤g.1∧g.1≤pos+35)∧RowIs 111 8 g.2.2.1 g.2.1 g.2.2.2.1∧LeR g.2.2.1 ((idF idl :: (f1 ++ g.2.2.2.2)).map fldC)∧(g.2.2.2.2=[]∨∃ y,ks[0]?=some y∧1<ks.length∧g.2.2.2.2=[byF y])) ?_ ?_
     ·(((with_reducible refine W.mk ?_);(conv=>whnf)))
      refine Bc.l ?_
      by_cases hz11:atE xs p1 3=0
      ·obtain ⟨y1,hy1⟩:∃ y,ks1[0]?=some y:=⟨_,List.getElem?_eq_getElem (by omega)⟩
       obtain ⟨b12,cap12,cs12,e12,rfl,hcs12⟩:=RowIs.get hkr1 (show (ks1.map kndC)[0]?=some (kndC y1) by rw [List.getElem?_map,hy1];rfl)
       rw [List.length_map] at e12
       have hc10:cs12[0]?=some (sD y1.name):=hcs12 0 (by omega)
       obtain ⟨y0,hy0,hny⟩:=hRef.name0 hy1
       rw [hkl1] at e12
       cases e12
       repeat' (first|refine sk9 ?_|(intro b;conv=>whnf))
       refine Dr.l (by decide +kernel) ?_
       repeat' (first|refine sk9 ?_|(intro b;conv=>whnf))
       refine Ld.cellm (tb:=97) (cs:=cs12) (by simp) hc10 ?_
       repeat' (first|refine sk9 ?_|(intro b;conv=>whnf))
       refine Ap.go rfl rfl rfl rfl hr1 (τ:=mkB bm xs (p1+1) :: kdB b7 (knm ks.length) lo (lo+atE xs (pos+1) 5) fv1 :: (b4,.cells 97 zK) :: [(b12,.cells 97 cs12)]) cl9 rfl (zs:=rs1 ++ [fldR (byF y1) nilD nilD]) rfl (by simp;omega) (by simp;omega) (fun s'=>mkB bm xs (p1+1) :: kdB b7 (knm ks.length) lo (lo+atE xs (pos+1) 5) fv1 :: (b4,.cells 97 zK) :: (s' ++ [(b12,.cells 97 cs12)])) (fun s'=>cl10) (fun a13 c13 s13 hr13=>?_)
       repeat' (first|refine sk9 ?_|(intro b;conv=>whnf))
       exact ⟨(p1+1,_,_,s13,[byF y1]),(aa2 cl2),cl8,⟨by simp only;omega,by simp only;omega⟩,hr13,by simpa using hle1.append (LeR.cons (x:=fldR (byF y1) nilD nilD) (y:=fldC (byF y1)) (.cons (Le.refl _) (.cons (Le.refl _) (.cons (Le.refl _) (.cons (Le.refl _) (.cons (Le.refl _) (.cons (Le.refl _) (.cons (ah5 1) (.cons (ah5 1) .nil)))))))) .nil),.inr ⟨y0,hy0,hn1,by simp [byF,hny]⟩⟩
      ·repeat' (first|refine sk9 ?_|(intro b;conv=>whnf))
       exact ⟨(p1+1,fv1,rs1,sf1,[]),(aa2 cl2),cl8,⟨by simp only;omega,by simp only;omega⟩,hr1,by simpa using hle1,.inl rfl⟩
     ·rintro ⟨p4,fv4,rs4,sf4,f2⟩ ⟨⟨hp4,hp4'⟩,hr4,hle4,hf2⟩
      simp only at hp4 hp4' hr4 hle4 hf2 ⊢
      have hl2:f2.length≤1:=by rcases hf2 with rfl|⟨_,_,_,rfl⟩ <;> simp
      have hl4:rs4.length≤10:=by have:=hle4.len;simp at this;omega
      repeat' (first|refine sk9 ?_|(intro b;conv=>whnf))
      refine CE.own (aC9 xs hx bm _ ⟨by omega,by omega⟩) (List.Perm.refl ([mkB bm xs _] ++ _)) (fun s'=>s' ++ _) (fun s'=>List.Perm.refl _) ?_
      rintro _ _ ⟨p5,fs1,⟨hp5,hp5'⟩,rfl,rfl,hP1⟩
      have hn1:=hP1.two
      repeat' (first|refine sk9 ?_|(intro b;conv=>whnf))
      refine Ap.go rfl rfl rfl rfl hr4 (τ:=mkB bm xs p5 :: kdB b7 (knm ks.length) lo (lo+atE xs (pos+1) 5) fv4 :: (b4,.cells 97 zK) :: sk1) cl9 (one_f fs1) (zs:=rs4 ++ fs1.map fldC) rfl (by rw [List.length_append,List.length_map];omega) (by rw [List.length_append,List.length_map];omega) (fun s'=>mkB bm xs p5 :: kdB b7 (knm ks.length) lo (lo+atE xs (pos+1) 5) fv4 :: (b4,.cells 97 zK) :: (s' ++ sk1)) (fun s'=>cl10) (fun a14 c14 s14 hr14=>?_)
      have le14:LeR (rs4 ++ fs1.map fldC) ((idF idl :: (f1 ++ (f2 ++ fs1))).map fldC):=by
       have:=hle4.append (LeR.refl (fs1.map fldC))
       simpa using this
      have hl14:(rs4 ++ fs1.map fldC).length≤12:=by rw [List.length_append,List.length_map];omega
      have h15:=ae0 xs p5 2
      repeat' (first|refine sk9 ?_|(intro b;conv=>whnf))
      ((refine CE.own (aa7 xs hx bm _ _ ⟨by omega,by omega⟩) (List.Perm.refl ([mkB bm xs _] ++ _)) (fun s'=>s' ++ _) (fun s'=>List.Perm.refl _) ?_);(rintro _ _ ⟨rfl,rfl⟩))
      generalize rs4 ++ fs1.map fldC=rs14 at *
      repeat' (first|refine sk9 ?_|(intro b;conv=>whnf))
      refine Bc.j ?_
      refine at6 mixed aa0 (γ:=Int × Value × List (List D) × aa1 × List Fld) (fun _=>[]) (fun g=>mkB bm xs g.1 :: kdB b7 (knm ks.length) lo (lo+atE xs (pos+1) 5) g.2.1 :: (b4,.cells 97 zK) :: (g.2.2.2.1 ++ sk1)) (fun g=>(pos+3≤g.1∧g.1≤pos+80)∧RowIs 111 8 g.2.2.1 g.2.1 g.2.2.2.1∧LeR g.2.2.1 ((idF idl :: (f1 ++ (f2 ++ (fs1 ++ g.2.2.2.2)))).map fldC)∧PlainF g.2.2.2.2∧(g.2.2.2.2=[]∨∃ h hs,g.2.2.2.2=h :: hs∧am4 (idF idl :: (f1 ++ (f2 ++ fs1))) h.name<0)) ?_ ?_
      ·(((with_reducible refine W.mk ?_);(conv=>whnf)))
       refine Bc.l ?_
       by_cases hz15:atE xs p5 2=0
       ·repeat' (first|refine sk9 ?_|(intro b;conv=>whnf))
        refine CE.own (aC9 xs hx bm _ ⟨by omega,by omega⟩) (List.Perm.refl ([mkB bm xs _] ++ _)) (fun s'=>s' ++ _) (fun s'=>List.Perm.refl _) ?_
        rintro _ _ ⟨p6,fs2,⟨hp6,hp6'⟩,rfl,rfl,hP2⟩
        have hn2:=hP2.two
        cases fs2 with
        | nil=>
         repeat' (first|refine sk9 ?_|(intro b;conv=>whnf))
         refine Dr.l (by decide +kernel) ?_
         repeat' (first|refine sk9 ?_|(intro b;conv=>whnf))
         refine Bc.l ?_
         repeat' (first|refine sk9 ?_|(intro b;conv=>whnf))
         exact ⟨(p6,_,_,s14,[]),(aa2 cl2),cl8,⟨by simp only;omega,by simp only;omega⟩,hr14,by simpa using le14,PlainF.none,.inl rfl⟩
        | cons h2 fs2=>
         have HH:=aM7 (idF idl :: (f1 ++ (f2 ++ fs1))) h2.name (by simp only [List.length_cons,List.length_append];omega)
         have h20:(h2 :: fs2)[Int.toNat 0]?=some h2:=rfl
         repeat' (first|refine sk9 ?_|(intro b;conv=>whnf))
         refine Dr.l (by decide +kernel) ?_
         repeat' (first|refine sk9 ?_|(intro b;conv=>whnf))
         refine Cp.pk (APk.peek (.cons (Pk.rowLe (τ:=mkB bm xs p6 :: kdB b7 (knm ks.length) lo (lo+atE xs (pos+1) 5) (.slice a14 rs14.length c14) :: (b4,.cells 97 zK) :: sk1) hr14 le14 cl9) (.cons (Pk.same _) .nil)) HH rfl) ?_
         by_cases hx2:am4 (idF idl :: (f1 ++ (f2 ++ fs1))) h2.name<0
         ·repeat' (first|refine sk9 ?_|(intro b;conv=>whnf))
          refine Bc.l ?_
          repeat' (first|refine sk9 ?_|(intro b;conv=>whnf))
          refine Ap.go rfl rfl rfl rfl hr14 (τ:=mkB bm xs p6 :: kdB b7 (knm ks.length) lo (lo+atE xs (pos+1) 5) (.slice a14 rs14.length c14) :: (b4,.cells 97 zK) :: sk1) cl9 (one_f (h2 :: fs2)) (zs:=rs14 ++ (h2 :: fs2).map fldC) rfl (by rw [List.length_append,List.length_map];omega) (by rw [List.length_append,List.length_map];omega) (fun s'=>mkB bm xs p6 :: kdB b7 (knm ks.length) lo (lo+atE xs (pos+1) 5) (.slice a14 rs14.length c14) :: (b4,.cells 97 zK) :: (s' ++ sk1)) (fun s'=>cl10) (fun a16 c16 s16 hr16=>?_)
          repeat' (first|refine sk9 ?_|(intro b;conv=>whnf))
          exact ⟨(p6,_,_,s16,h2 :: fs2),(aa2 cl2),cl8,⟨by simp only;omega,by simp only;omega⟩,hr16,by have:=le14.append (LeR.refl ((h2 :: fs2).map fldC));simpa using this,hP2,.inr ⟨h2,fs2,rfl,hx2⟩⟩
         ·repeat' (first|refine sk9 ?_|(intro b;conv=>whnf))
          refine Bc.l ?_
          repeat' (first|refine sk9 ?_|(intro b;conv=>whnf))
          exact ⟨(p6,_,_,s14,[]),(aa2 cl2),cl8,⟨by simp only;omega,by simp only;omega⟩,hr14,by simpa using le14,PlainF.none,.inl rfl⟩
       ·repeat' (first|refine sk9 ?_|(intro b;conv=>whnf))
        exact ⟨(p5+1,_,_,s14,[]),(aa2 cl2),cl8,⟨by simp only;omega,by simp only;omega⟩,hr14,by simpa using le14,PlainF.none,.inl rfl⟩
      ·rintro ⟨p7,fv7,rs7,sf7,p2⟩ ⟨⟨hp7,hp7'⟩,hr7,hle7,hP2,hp2⟩
       simp only at hp7 hp7' hr7 hle7 hP2 hp2 ⊢
       obtain ⟨a17,c17,rfl⟩:=hr7.slice
       repeat' (first|refine sk9 ?_|(intro b;conv=>whnf))
       refine Rs.c aa0 (m:=2) rfl rfl rfl rfl rfl rfl ?_
       repeat' (first|refine sk9 ?_|(intro b;conv=>whnf))
       have hs1:∀ z,z∈ab2 (mkB bm xs p7 :: sk1)→z∈ab2 (mkB bm xs p7 :: kdB b7 (knm ks.length) lo (lo+atE xs (pos+1) 5) (.slice a17 rs7.length c17) :: kdB b4 (knm ks.length) lo (lo+atE xs (pos+1) 5) (.slice a17 rs7.length c17) :: (sf7 ++ sk1)):=by
        intro z hz;simp only [ab2,List.map_cons,List.map_append,List.mem_cons,List.mem_append] at hz ⊢;rcases hz with hz|hz <;> simp [hz]
       have hs2:∀ z,z∈ab2 (mkB bm xs p7 :: sk1)→z∈ab2 (mkB bm xs p7 :: kdB b7 (knm ks.length) lo (lo+atE xs (pos+1) 5) (.slice a17 rs7.length c17) :: kdB b4 (knm ks.length) lo (lo+atE xs (pos+1) 5) (.slice a17 rs7.length c17) :: sk1):=by
        intro z hz;simp only [ab2,List.map_cons,List.map_append,List.mem_cons,List.mem_append] at hz ⊢;rcases hz with hz|hz <;> simp [hz]
       refine Rt.by (σ':=mkB bm xs p7 :: sk1) (d':=kndD ⟨knm ks.length,lo,lo+atE xs (pos+1) 5,idF idl :: (f1 ++ (f2 ++ (fs1 ++ p2)))⟩) (Vs.vd ⟨kdB b7 (knm ks.length) lo (lo+atE xs (pos+1) 5) (.slice a17 rs7.length c17) :: kdB b4 (knm ks.length) lo (lo+atE xs (pos+1) 5) (.slice a17 rs7.length c17) :: sf7,by (refine ac3 fun a=>?_;simp only [kdB,mkB,List.append_eq,List.nil_append,ac4,ae4,ae6,sD,iD,bD];omega)⟩ (Vd.agg (.cons (Vd.same hs1 _) (.cons (Vd.same hs1 _) (.cons (Vd.same hs1 _) (.cons (Vd.rowLe (ρ:=mkB bm xs p7 :: kdB b7 (knm ks.length) lo (lo+atE xs (pos+1) 5) (.slice a17 rs7.length c17) :: kdB b4 (knm ks.length) lo (lo+atE xs (pos+1) 5) (.slice a17 rs7.length c17) :: sk1) hr7 hle7 cl9 hs2) .nil)))))) ?_
       exact ⟨p7,_,ks1,sk1,⟨by omega,by omega⟩,rfl,rfl,hkr1,⟨lo,atE xs (pos+1) 5,idl,f1,f2,fs1,p2,hlo,⟨h2.1,h2'⟩,hid,rfl,hRef,hf2,hP1,hP2,hp2⟩⟩
    ·repeat' (first|refine sk9 ?_|(intro b;conv=>whnf))
     refine Bc.j ?_
     refine at6 mixed aa0 (γ:=Int × Value × List (List D) × aa1 × List Fld) (fun _=>[]) (fun g=>mkB bm xs g.1 :: kdB b7 (knm ks.length) lo (lo+atE xs (pos+1) 5) g.2.1 :: (b4,.cells 97 zK) :: (g.2.2.2.1 ++ sk1)) (fun g=>(pos+3≤g.1∧g.1≤pos+35)∧RowIs 111 8 g.2.2.1 g.2.1 g.2.2.2.1∧LeR g.2.2.1 ((idF idl :: (f1 ++ g.2.2.2.2)).map fldC)∧(g.2.2.2.2=[]∨∃ y,ks[0]?=some y∧1<ks.length∧g.2.2.2.2=[byF y])) ?_ ?_
     ·(((with_reducible refine W.mk ?_);(conv=>whnf)))
      refine Bc.l ?_
      repeat' (first|refine sk9 ?_|(intro b;conv=>whnf))
      exact ⟨(p1,fv1,rs1,sf1,[]),(aa2 cl2),cl8,⟨by simp only;omega,by simp only;omega⟩,hr1,by simpa using hle1,.inl rfl⟩
     ·rintro ⟨p4,fv4,rs4,sf4,f2⟩ ⟨⟨hp4,hp4'⟩,hr4,hle4,hf2⟩
      simp only at hp4 hp4' hr4 hle4 hf2 ⊢
      have hl2:f2.length≤1:=by rcases hf2 with rfl|⟨_,_,_,rfl⟩ <;> simp
      have hl4:rs4.length≤10:=by have:=hle4.len;simp at this;omega
      repeat' (first|refine sk9 ?_|(intro b;conv=>whnf))
      refine CE.own (aC9 xs hx bm _ ⟨by omega,by omega⟩) (List.Perm.refl ([mkB bm xs _] ++ _)) (fun s'=>s' ++ _) (fun s'=>List.Perm.refl _) ?_
      rintro _ _ ⟨p5,fs1,⟨hp5,hp5'⟩,rfl,rfl,hP1⟩
      have hn1:=hP1.two
      repeat' (first|refine sk9 ?_|(intro b;conv=>whnf))
      refine Ap.go rfl rfl rfl rfl hr4 (τ:=mkB bm xs p5 :: kdB b7 (knm ks.length) lo (lo+atE xs (pos+1) 5) fv4 :: (b4,.cells 97 zK) :: sk1) cl9 (one_f fs1) (zs:=rs4 ++ fs1.map fldC) rfl (by rw [List.length_append,List.length_map];omega) (by rw [List.length_append,List.length_map];omega) (fun s'=>mkB bm xs p5 :: kdB b7 (knm ks.length) lo (lo+atE xs (pos+1) 5) fv4 :: (b4,.cells 97 zK) :: (s' ++ sk1)) (fun s'=>cl10) (fun a14 c14 s14 hr14=>?_)
      have le14:LeR (rs4 ++ fs1.map fldC) ((idF idl :: (f1 ++ (f2 ++ fs1))).map fldC):=by
       have:=hle4.append (LeR.refl (fs1.map fldC))
       simpa using this
      have hl14:(rs4 ++ fs1.map fldC).length≤12:=by rw [List.length_append,List.length_map];omega
      have h15:=ae0 xs p5 2
      repeat' (first|refine sk9 ?_|(intro b;conv=>whnf))
      ((refine CE.own (aa7 xs hx bm _ _ ⟨by omega,by omega⟩) (List.Perm.refl ([mkB bm xs _] ++ _)) (fun s'=>s' ++ _) (fun s'=>List.Perm.refl _) ?_);(rintro _ _ ⟨rfl,rfl⟩))
      generalize rs4 ++ fs1.map fldC=rs14 at *
      repeat' (first|refine sk9 ?_|(intro b;conv=>whnf))
      refine Bc.j ?_
      refine at6 mixed aa0 (γ:=Int × Value × List (List D) × aa1 × List Fld) (fun _=>[]) (fun g=>mkB bm xs g.1 :: kdB b7 (knm ks.length) lo (lo+atE xs (pos+1) 5) g.2.1 :: (b4,.cells 97 zK) :: (g.2.2.2.1 ++ sk1)) (fun g=>(pos+3≤g.1∧g.1≤pos+80)∧RowIs 111 8 g.2.2.1 g.2.1 g.2.2.2.1∧LeR g.2.2.1 ((idF idl :: (f1 ++ (f2 ++ (fs1 ++ g.2.2.2.2)))).map fldC)∧PlainF g.2.2.2.2∧(g.2.2.2.2=[]∨∃ h hs,g.2.2.2.2=h :: hs∧am4 (idF idl :: (f1 ++ (f2 ++ fs1))) h.name<0)) ?_ ?_
      ·(((with_reducible refine W.mk ?_);(conv=>whnf)))
       refine Bc.l ?_
       by_cases hz15:atE xs p5 2=0
       ·repeat' (first|refine sk9 ?_|(intro b;conv=>whnf))
        refine CE.own (aC9 xs hx bm _ ⟨by omega,by omega⟩) (List.Perm.refl ([mkB bm xs _] ++ _)) (fun s'=>s' ++ _) (fun s'=>List.Perm.refl _) ?_
        rintro _ _ ⟨p6,fs2,⟨hp6,hp6'⟩,rfl,rfl,hP2⟩
        have hn2:=hP2.two
        cases fs2 with
        | nil=>
         repeat' (first|refine sk9 ?_|(intro b;conv=>whnf))
         refine Dr.l (by decide +kernel) ?_
         repeat' (first|refine sk9 ?_|(intro b;conv=>whnf))
         refine Bc.l ?_
         repeat' (first|refine sk9 ?_|(intro b;conv=>whnf))
         exact ⟨(p6,_,_,s14,[]),(aa2 cl2),cl8,⟨by simp only;omega,by simp only;omega⟩,hr14,by simpa using le14,PlainF.none,.inl rfl⟩
        | cons h2 fs2=>
         have HH:=aM7 (idF idl :: (f1 ++ (f2 ++ fs1))) h2.name (by simp only [List.length_cons,List.length_append];omega)
         have h20:(h2 :: fs2)[Int.toNat 0]?=some h2:=rfl
         repeat' (first|refine sk9 ?_|(intro b;conv=>whnf))
         refine Dr.l (by decide +kernel) ?_
         repeat' (first|refine sk9 ?_|(intro b;conv=>whnf))
         refine Cp.pk (APk.peek (.cons (Pk.rowLe (τ:=mkB bm xs p6 :: kdB b7 (knm ks.length) lo (lo+atE xs (pos+1) 5) (.slice a14 rs14.length c14) :: (b4,.cells 97 zK) :: sk1) hr14 le14 cl9) (.cons (Pk.same _) .nil)) HH rfl) ?_
         by_cases hx2:am4 (idF idl :: (f1 ++ (f2 ++ fs1))) h2.name<0
         ·repeat' (first|refine sk9 ?_|(intro b;conv=>whnf))
          refine Bc.l ?_
          repeat' (first|refine sk9 ?_|(intro b;conv=>whnf))
          refine Ap.go rfl rfl rfl rfl hr14 (τ:=mkB bm xs p6 :: kdB b7 (knm ks.length) lo (lo+atE xs (pos+1) 5) (.slice a14 rs14.length c14) :: (b4,.cells 97 zK) :: sk1) cl9 (one_f (h2 :: fs2)) (zs:=rs14 ++ (h2 :: fs2).map fldC) rfl (by rw [List.length_append,List.length_map];omega) (by rw [List.length_append,List.length_map];omega) (fun s'=>mkB bm xs p6 :: kdB b7 (knm ks.length) lo (lo+atE xs (pos+1) 5) (.slice a14 rs14.length c14) :: (b4,.cells 97 zK) :: (s' ++ sk1)) (fun s'=>cl10) (fun a16 c16 s16 hr16=>?_)
          repeat' (first|refine sk9 ?_|(intro b;conv=>whnf))
          exact ⟨(p6,_,_,s16,h2 :: fs2),(aa2 cl2),cl8,⟨by simp only;omega,by simp only;omega⟩,hr16,by have:=le14.append (LeR.refl ((h2 :: fs2).map fldC));simpa using this,hP2,.inr ⟨h2,fs2,rfl,hx2⟩⟩
         ·repeat' (first|refine sk9 ?_|(intro b;conv=>whnf))
          refine Bc.l ?_
          repeat' (first|refine sk9 ?_|(intro b;conv=>whnf))
          exact ⟨(p6,_,_,s14,[]),(aa2 cl2),cl8,⟨by simp only;omega,by simp only;omega⟩,hr14,by simpa using le14,PlainF.none,.inl rfl⟩
       ·repeat' (first|refine sk9 ?_|(intro b;conv=>whnf))
        exact ⟨(p5+1,_,_,s14,[]),(aa2 cl2),cl8,⟨by simp only;omega,by simp only;omega⟩,hr14,by simpa using le14,PlainF.none,.inl rfl⟩
      ·rintro ⟨p7,fv7,rs7,sf7,p2⟩ ⟨⟨hp7,hp7'⟩,hr7,hle7,hP2,hp2⟩
       simp only at hp7 hp7' hr7 hle7 hP2 hp2 ⊢
       obtain ⟨a17,c17,rfl⟩:=hr7.slice
       repeat' (first|refine sk9 ?_|(intro b;conv=>whnf))
       refine Rs.c aa0 (m:=2) rfl rfl rfl rfl rfl rfl ?_
       repeat' (first|refine sk9 ?_|(intro b;conv=>whnf))
       have hs1:∀ z,z∈ab2 (mkB bm xs p7 :: sk1)→z∈ab2 (mkB bm xs p7 :: kdB b7 (knm ks.length) lo (lo+atE xs (pos+1) 5) (.slice a17 rs7.length c17) :: kdB b4 (knm ks.length) lo (lo+atE xs (pos+1) 5) (.slice a17 rs7.length c17) :: (sf7 ++ sk1)):=by
        intro z hz;simp only [ab2,List.map_cons,List.map_append,List.mem_cons,List.mem_append] at hz ⊢;rcases hz with hz|hz <;> simp [hz]
       have hs2:∀ z,z∈ab2 (mkB bm xs p7 :: sk1)→z∈ab2 (mkB bm xs p7 :: kdB b7 (knm ks.length) lo (lo+atE xs (pos+1) 5) (.slice a17 rs7.length c17) :: kdB b4 (knm ks.length) lo (lo+atE xs (pos+1) 5) (.slice a17 rs7.length c17) :: sk1):=by
        intro z hz;simp only [ab2,List.map_cons,List.map_append,List.mem_cons,List.mem_append] at hz ⊢;rcases hz with hz|hz <;> simp [hz]
       refine Rt.by (σ':=mkB bm xs p7 :: sk1) (d':=kndD ⟨knm ks.length,lo,lo+atE xs (pos+1) 5,idF idl :: (f1 ++ (f2 ++ (fs1 ++ p2)))⟩) (Vs.vd ⟨kdB b7 (knm ks.length) lo (lo+atE xs (pos+1) 5) (.slice a17 rs7.length c17) :: kdB b4 (knm ks.length) lo (lo+atE xs (pos+1) 5) (.slice a17 rs7.length c17) :: sf7,by (refine ac3 fun a=>?_;simp only [kdB,mkB,List.append_eq,List.nil_append,ac4,ae4,ae6,sD,iD,bD];omega)⟩ (Vd.agg (.cons (Vd.same hs1 _) (.cons (Vd.same hs1 _) (.cons (Vd.same hs1 _) (.cons (Vd.rowLe (ρ:=mkB bm xs p7 :: kdB b7 (knm ks.length) lo (lo+atE xs (pos+1) 5) (.slice a17 rs7.length c17) :: kdB b4 (knm ks.length) lo (lo+atE xs (pos+1) 5) (.slice a17 rs7.length c17) :: sk1) hr7 hle7 cl9 hs2) .nil)))))) ?_
       exact ⟨p7,_,ks1,sk1,⟨by omega,by omega⟩,rfl,rfl,hkr1,⟨lo,atE xs (pos+1) 5,idl,f1,f2,fs1,p2,hlo,⟨h2.1,h2'⟩,hid,rfl,hRef,hf2,hP1,hP2,hp2⟩⟩
end
end Go.Proofs.YtjbbmjjildhfbaaGreatDoor
