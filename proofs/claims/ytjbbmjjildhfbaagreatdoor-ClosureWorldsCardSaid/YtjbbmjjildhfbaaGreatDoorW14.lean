/- A part of the proof: Sc Gx. -/
import Derived.Test.YtjbbmjjildhfbaaGreatDoorW13
set_option maxRecDepth 100000
set_option maxHeartbeats 4000000
set_option linter.unusedVariables false
set_option linter.unusedSimpArgs false
namespace Go.Proofs.YtjbbmjjildhfbaaGreatDoor
section
open Go Go.RowKit Go.Shelf
inductive KChain:List Knd→Prop
 | nil:KChain []
 | step {ks ks':List Knd} {k:Knd} (h:KChain ks) (m:KMade ks k ks') (l:ks'.length=ks.length):KChain (ks' ++ [k])
inductive RChain (ks:List Knd):Nat→List Rul→Prop
 | nil:RChain ks 0 []
 | skip {i:Nat} {rs:List Rul} (h:RChain ks i rs):RChain ks (i+1) rs
 | take {i:Nat} {rs:List Rul} {k:Knd} {r:Rul} (h:RChain ks i rs) (hk:ks[i]?=some k) (hr:RuleF k r):RChain ks (i+1) (rs ++ [r])
theorem KChain.ck {ks:List Knd} (h:KChain ks) (hl:ks.length≤3):∀ k∈ks,CK1 k:=by
 induction h with
 | nil=>simp
 | step h m l ih=>
  rw [List.length_append,List.length_singleton] at hl
  obtain ⟨h1,h2,h3⟩:=m.cls (by omega) (ih (by omega))
  intro k hk
  rcases List.mem_append.1 hk with hk|hk
  ·exact h3 k hk
  ·rw [List.mem_singleton] at hk;subst hk;exact h1
abbrev stL:List ByteArray:=[⟨#[110,101,119]⟩,⟨#[111,112,101,110]⟩,⟨#[100,111,110,101]⟩,⟨#[115,104,117,116]⟩]
structure GenX (x:Sch):Prop where
 ver:0≤x.version∧x.version<4
 nk:1≤x.kinds.length∧x.kinds.length≤3
 ks:KChain x.kinds
 ls:∃ (m:Nat) (mv:List (Int × Int)),2≤m∧m≤4∧x.lives=[⟨nLife,stL.take m,mv⟩]∧mv.length≤5∧∀ p∈mv,(0≤p.1∧p.1<m)∧(0≤p.2∧p.2<m)
 nr:x.rules.length≤2
 rs:∃ i,i≤x.kinds.length∧RChain x.kinds i x.rules
abbrev scB (b:Nat) (ver:Int) (kv lv rv:Value):Nat × Blk:=(b,.cells 43 [iD ver,.v kv,.v lv,.v rv])
abbrev zS:List D:=[.v (zv (ZV.int IntKind.i64)),.v (zv ZV.sl),.v (zv ZV.sl),.v (zv ZV.sl)]
theorem sb29 {A B:Prop} (k:B) (h:Hd7 B→A:=by intro hk7q;(first|(with_reducible refine Bc.l ?_)|fail|fail|((with_reducible refine Cb.go ?h ?_);(case h=>decide +kernel)));exact hk7q.run):A:=h ⟨k⟩
theorem sk30 {A B:Prop} (k:B) (h:Hd7 B→A:=by intro hk7q;(first|refine sb0 ?_|refine sb29 ?_|((with_reducible refine' Cp.by ?hc ?_);(case hc=>fail))|((with_reducible refine' CE.pure ?hc ?_);(case hc=>fail)));exact hk7q.run):A:=h ⟨k⟩
theorem cl15 {p:Prop} (h:p:=by (refine ac3 fun a=>?_;simp only [kdB,mkB,scB,List.append_eq,List.nil_append,ac4,ae7,af1,sD,iD,bD];omega)):p:=h
theorem cl16 {p:Prop} (h:p:=by (refine ac3 fun a=>?_;simp only [kdB,mkB,scB,List.append_eq,List.nil_append,ac4,ae7,af1,sD,iD,bD];omega)):p:=h
theorem cl17 {p:Prop} (h:p:=by first|exact List.Perm.refl _|((refine ac3 fun a=>?_;simp only [kdB,mkB,scB,List.append_eq,List.nil_append,ac4,ae7,af1,sD,iD,bD];omega))):p:=h
theorem r09_schema (l:List Int) (hl:I64s l):ACall Tryz.prog 23 [slI l] [] (fun d σ=>∃ x,d=schD x∧σ=[]∧GenX x):=by
 have hll:=hl.2
 have hx:I64s (l.take 200):=⟨fun z hz=>hl.1 z (List.mem_of_mem_take hz),by have:=List.length_take_le 200 l;omega⟩
 generalize hxs:l.take 200=xs at hx
 have e0:List.take (if (200:Int)<((l.map fun x=>[iD x]).length:Int) then 200 else ((l.map fun x=>[iD x]).length:Int)).toNat (l.map fun x=>[iD x])=xs.map fun x=>[iD x]:=by
  rw [List.length_map,← hxs,List.map_take]
  split
  ·rfl
  ·rw [List.take_of_length_le (by rw [List.length_map];omega),List.take_of_length_le (by rw [List.length_map];omega)]
 refine aa3 mixed aa0 Tryz.func23 (by kernel_rfl) rfl Tryz.ntmps23 rfl ?_;intro BB
 repeat' (first|refine sk30 ?_|(intro b;conv=>whnf))
 generalize b=b2
 rw [e0]
 refine Bx.r (OtE.box rfl rfl (fun bm=>?_))
 have h0:=af2 xs 0 4
 have h0':=h0.2 (by omega)
 have h1:=af2 xs (0+1) 3
 have h1':=h1.2 (by omega)
 obtain ⟨n1,hn1⟩:∃ n:Nat,atE xs (0+1) 3=n:=⟨(atE xs (0+1) 3).toNat,by omega⟩
 repeat' (first|refine sk30 ?_|(intro b;conv=>whnf)|((refine CE.own (aa8 xs hx bm _ _ ⟨by omega,by omega⟩) (List.Perm.refl ([mkB bm xs _] ++ _)) (fun s'=>s' ++ _) (fun s'=>List.Perm.refl _) ?_);(rintro _ _ ⟨rfl,rfl⟩))|((refine CE.own (aa8 xs hx bm _ _ ⟨by omega,by omega⟩) (show List.Perm (_ :: mkB bm xs _ :: _) ([mkB bm xs _] ++ (_ :: _)) from List.Perm.swap _ _ _) (fun s'=>s' ++ (_ :: _)) (fun s'=>List.Perm.refl _) ?_);(rintro _ _ ⟨rfl,rfl⟩)))
 rw [hn1]
 repeat' (first|refine sk6 ?_|(intro b;conv=>whnf))
 generalize b=b4
 refine ay8 mixed aa0 (γ:=Nat × Int × List Knd × Value × aa1) (fun g=>[(6,iD g.1)]) (fun g=>mkB bm xs g.2.1 :: scB b4 (atE xs 0 4) g.2.2.2.1 (.slice none 0 0) (.slice none 0 0) :: (b2,.cells 43 zS) :: g.2.2.2.2) (fun g=>g.1≤1+n1∧(2≤g.2.1∧g.2.1≤2+g.1*100)∧g.2.2.1.length=g.1∧KChain g.2.2.1∧RowIs 97 4 (g.2.2.1.map kndC) g.2.2.2.1 g.2.2.2.2) (fun g=>1+n1 - g.1) (0,2,[],.slice none 0 0,[]) (aa2 cl2) (Sc.perm (by first|exact List.Perm.refl _|exact List.Perm.swap _ _ _)) ⟨Nat.zero_le _,⟨by simp,by simp⟩,rfl,KChain.nil,RowIs.nil _ _⟩ ?_
 rintro ⟨i,p1,ks,v,sk⟩ ⟨hi,⟨hp1,hp1'⟩,hkl,hch,hkr⟩
 simp only at hi hp1 hp1' hkl hch hkr ⊢
 obtain ⟨a,c,e⟩:=hkr.slice
 rw [List.length_map] at e
 subst e
 by_cases hin:i<1+n1
 ·have hck:=hch.ck (by omega)
  have HK:=r09_kind xs hx bm p1 ⟨by omega,by omega⟩ ks (by omega) (fun k hk=>by have:=(hck k hk).ck.nf;omega) a c sk hkr
  repeat' (first|refine sk6 ?_|(intro b;conv=>whnf))
  (refine Dr.r ?_;(((with_reducible refine W.mk ?_);(conv=>whnf)));refine Dm.r ?_;refine W.mk ?_)
  refine ba0 mixed aa0 rfl [0,2,3] 7 (.two 1 (.one 4 (.one 5 (.one 6 (.one 7 (.one 8 (.one 9 .done)))))) 4 (.two 1 (.one 5 (.one 6 (.one 7 (.one 8 (.one 9 .done))))) 5 (.two 1 (.one 6 (.one 7 (.one 8 (.one 9 .done)))) 6 (.one 1 (.one 7 (.one 8 (.one 9 .done))))))) (γ:=Int × List Knd × Knd × Value × aa1) (fun _=>[]) (fun g=>mkB bm xs g.1 :: scB b4 (atE xs 0 4) g.2.2.2.1 (.slice none 0 0) (.slice none 0 0) :: (b2,.cells 43 zS) :: g.2.2.2.2) (fun g=>(p1≤g.1∧g.1≤p1+100)∧KMade ks g.2.2.1 g.2.1∧RowIs 97 4 ((g.2.1 ++ [g.2.2.1]).map kndC) g.2.2.2.1 g.2.2.2.2) (by decide +kernel) ?_ ?_
  ·repeat' (first|refine sk6 ?_|(intro b;conv=>whnf)|(refine And.intro ?_ ?_ <;> (conv=>whnf))|((refine CE.own (t:=[scB b4 (atE xs 0 4) (.slice a ks.length c) (.slice none 0 0) (.slice none 0 0),(b2,.cells 43 zS)]) HK cl15 (fun s'=>scB b4 (atE xs 0 4) (.slice a ks.length c) (.slice none 0 0) (.slice none 0 0) :: (b2,.cells 43 zS) :: s') (fun s'=>cl16) ?_);(rintro _ _ ⟨p2,k,ks2,s2,hp2,rfl,rfl,hkr2,hm⟩);(have hml:=(hm.cls (by omega) hck).2.1))|(refine Ap.go rfl rfl rfl rfl hkr2 (τ:=scB b4 (atE xs 0 4) (.slice a ks.length c) (.slice none 0 0) (.slice none 0 0) :: (b2,.cells 43 zS) :: [mkB bm xs p2]) cl15 rfl (zs:=(ks2 ++ [k]).map kndC) (by rw [List.map_append];rfl) (by rw [List.length_map,List.length_append,hml];simp only [List.length_singleton];omega) (by rw [List.length_map,List.length_append,hml];simp only [List.length_singleton];omega) (fun s'=>scB b4 (atE xs 0 4) (.slice a ks.length c) (.slice none 0 0) (.slice none 0 0) :: (b2,.cells 43 zS) :: mkB bm xs p2 :: s') (fun s'=>cl16) (fun a3 c3 s3 hr3=>?_)))
   all_goals exact ⟨(p2,ks2,k,_,s3),(aa2 cl2),Sc.perm cl15,hp2,hm,hr3⟩
  ·rintro ⟨p2,ks2,k,v2,s2⟩ ⟨⟨hp2,hp2'⟩,hm,hkr2⟩
   simp only at hp2 hp2' hm hkr2 ⊢
   have hml:=(hm.cls (by omega) hck).2.1
   repeat' (first|refine sk6 ?_|(intro b;conv=>whnf))
   exact ⟨(i+1,p2,ks2 ++ [k],v2,s2),(aa2 cl7),Sc.perm cl17,⟨by simp only;omega,⟨by simp only;omega,by simp only;omega⟩,by simp only [List.length_append,List.length_singleton];omega,hch.step hm hml,hkr2⟩,by simp only;omega⟩
 ·obtain rfl:i=1+n1:=by omega
  have h2:=af2 xs p1 3
  have h2':=h2.2 (by omega)
  obtain ⟨n2,hn2⟩:∃ n:Nat,atE xs p1 3=n:=⟨(atE xs p1 3).toNat,by omega⟩
  have hst:List.take (2+(n2:Int)).toNat [[D.v (Value.string ⟨#[110,101,119]⟩)],[D.v (Value.string ⟨#[111,112,101,110]⟩)],[D.v (Value.string ⟨#[100,111,110,101]⟩)],[D.v (Value.string ⟨#[115,104,117,116]⟩)]]=(stL.take (2+n2)).map fun s=>[sD s]:=by
   rw [show (2+(n2:Int)).toNat=2+n2 by omega,List.map_take];rfl
  have hsl:(stL.take (2+n2)).length=2+n2:=by rw [List.length_take];simp;omega
  repeat' (first|refine sk6 ?_|(intro b;conv=>whnf))
  ((refine CE.own (aa8 xs hx bm _ _ ⟨by omega,by omega⟩) (List.Perm.refl ([mkB bm xs _] ++ _)) (fun s'=>s' ++ _) (fun s'=>List.Perm.refl _) ?_);(rintro _ _ ⟨rfl,rfl⟩))
  rw [hn2]
  repeat' (first|refine sk6 ?_|(intro b;conv=>whnf))
  rw [hst]
  repeat' (first|refine sk6 ?_|(intro b;conv=>whnf))
  generalize b=b8
  refine ay8 mixed aa0 (γ:=Nat × List (Int × Int) × Value × aa1) (fun g=>[(9,iD g.1)]) (fun g=>(b8,.cells 102 [sD nLife,slS (stL.take (2+n2)),.v g.2.2.1]) :: mkB bm xs (p1+1) :: scB b4 (atE xs 0 4) (.slice a ks.length c) (.slice none 0 0) (.slice none 0 0) :: (b2,.cells 43 zS) :: (g.2.2.2 ++ sk)) (fun g=>g.1≤1+n2∧g.2.1.length=g.1∧(∀ q∈g.2.1,(0≤q.1∧q.1<((2+n2:Nat):Int))∧(0≤q.2∧q.2<((2+n2:Nat):Int)))∧RowIs 103 2 (g.2.1.map movC) g.2.2.1 g.2.2.2) (fun g=>1+n2 - g.1) (0,[],.slice none 0 0,[]) (aa2 cl2) (Sc.perm (by first|exact List.Perm.refl _|exact List.Perm.swap _ _ _)) ⟨Nat.zero_le _,rfl,by simp,RowIs.nil _ _⟩ ?_
  rintro ⟨i,mv,v,s⟩ ⟨hi2,hml,hmq,hmr⟩
  simp only at hi2 hml hmq hmr ⊢
  have hle:((stL.take (2+n2)).map fun s=>[sD s]).length=2+n2:=by rw [List.length_map];exact hsl
  by_cases hin2:i<1+n2
  ·repeat' (first|refine sk6 ?_|(intro b;conv=>whnf))
   refine Ap.go rfl rfl rfl rfl hmr (τ:=(b8,.cells 102 [sD nLife,slS (stL.take (2+n2)),.v v]) :: mkB bm xs (p1+1) :: scB b4 (atE xs 0 4) (.slice a ks.length c) (.slice none 0 0) (.slice none 0 0) :: (b2,.cells 43 zS) :: sk) cl15 rfl (zs:=(mv ++ [((i:Int),(i:Int)+1)]).map movC) (by rw [List.map_append];rfl) (by simp;omega) (by simp;omega) (fun s'=>(b8,.cells 102 [sD nLife,slS (stL.take (2+n2)),.v v]) :: mkB bm xs (p1+1) :: scB b4 (atE xs 0 4) (.slice a ks.length c) (.slice none 0 0) (.slice none 0 0) :: (b2,.cells 43 zS) :: (s' ++ sk)) (fun s'=>cl16) (fun a5 c5 s5 hr5=>?_)
   repeat' (first|refine sk6 ?_|(intro b;conv=>whnf))
   refine ⟨(i+1,mv ++ [((i:Int),(i:Int)+1)],_,s5),(aa2 cl7),Sc.refl _,⟨by simp only;omega,by simp only [List.length_append,List.length_singleton];omega,fun q hq=>?_,hr5⟩,by simp only;omega⟩
   rcases List.mem_append.1 hq with h|h
   ·exact hmq q h
   ·rw [List.mem_singleton] at h;subst h;simp only;omega
  ·obtain rfl:i=1+n2:=by omega
   have h3:=af2 xs (p1+1) 2
   repeat' (first|refine sk9 ?_|(intro b;conv=>whnf))
   refine Bc.l ?_
   repeat' (first|refine sk9 ?_|(intro b;conv=>whnf))
   ((refine CE.own (t:=(b8,.cells 102 [sD nLife,slS (stL.take (2+n2)),.v v]) :: scB b4 (atE xs 0 4) (.slice a ks.length c) (.slice none 0 0) (.slice none 0 0) :: (b2,.cells 43 zS) :: (s ++ sk)) (aa8 xs hx bm (p1+1) _ ⟨by omega,by omega⟩) cl15 (fun s'=>(b8,.cells 102 [sD nLife,slS (stL.take (2+n2)),.v v]) :: (s' ++ (scB b4 (atE xs 0 4) (.slice a ks.length c) (.slice none 0 0) (.slice none 0 0) :: (b2,.cells 43 zS) :: (s ++ sk)))) (fun s'=>cl16) ?_);(rintro _ _ ⟨rfl,rfl⟩))
   repeat' (first|refine sk9 ?_|(intro b;conv=>whnf))
   refine Bc.j ?_
   refine aw1 mixed aa0 (γ:=List (Int × Int) × Value × aa1) (fun _=>[]) (fun g=>(b8,.cells 102 [sD nLife,slS (stL.take (2+n2)),.v g.2.1]) :: mkB bm xs (p1+1+1) :: scB b4 (atE xs 0 4) (.slice a ks.length c) (.slice none 0 0) (.slice none 0 0) :: (b2,.cells 43 zS) :: (g.2.2 ++ sk)) (fun g=>g.1.length≤4∧(∀ q∈g.1,(0≤q.1∧q.1<((2+n2:Nat):Int))∧(0≤q.2∧q.2<((2+n2:Nat):Int)))∧RowIs 103 2 (g.1.map movC) g.2.1 g.2.2) ?_ ?_
   ·(((with_reducible refine W.mk ?_);(conv=>whnf)))
    refine Bc.l ?_
    by_cases hz3:atE xs (p1+1) 2=0
    ·repeat' (first|refine sk9 ?_|(intro b;conv=>whnf))
     refine Ap.go rfl rfl rfl rfl hmr (τ:=(b8,.cells 102 [sD nLife,slS (stL.take (2+n2)),.v v]) :: mkB bm xs (p1+1+1) :: scB b4 (atE xs 0 4) (.slice a ks.length c) (.slice none 0 0) (.slice none 0 0) :: (b2,.cells 43 zS) :: sk) cl15 rfl (zs:=(mv ++ [((1:Int),(0:Int))]).map movC) (by rw [List.map_append];rfl) (by simp;omega) (by simp;omega) (fun s'=>(b8,.cells 102 [sD nLife,slS (stL.take (2+n2)),.v v]) :: mkB bm xs (p1+1+1) :: scB b4 (atE xs 0 4) (.slice a ks.length c) (.slice none 0 0) (.slice none 0 0) :: (b2,.cells 43 zS) :: (s' ++ sk)) (fun s'=>cl16) (fun a5 c5 s5 hr5=>?_)
     repeat' (first|refine sk9 ?_|(intro b;conv=>whnf))
     refine ⟨(mv ++ [((1:Int),(0:Int))],_,s5),(aa2 cl2),Sc.refl _,⟨by simp only [List.length_append,List.length_singleton];omega,fun q hq=>?_,hr5⟩⟩
     rcases List.mem_append.1 hq with h|h
     ·exact hmq q h
     ·rw [List.mem_singleton] at h;subst h;simp only;omega
    ·repeat' (first|refine sk9 ?_|(intro b;conv=>whnf))
     exact ⟨(mv,v,s),(aa2 cl2),Sc.perm cl17,by simp only;omega,hmq,hmr⟩
   ·clear hmq hmr hml
    rintro ⟨mv,v,s⟩ ⟨hml,hmq,hmr⟩
    simp only at hml hmq hmr ⊢
    obtain ⟨a8,c8,e8⟩:=hmr.slice
    rw [List.length_map] at e8
    subst e8
    have h4:=af2 xs (p1+1+1) 3
    repeat' (first|refine sk9 ?_|(intro b;conv=>whnf))
    ((refine CE.own (t:=(b8,.cells 102 [sD nLife,slS (stL.take (2+n2)),.v (.slice a8 mv.length c8)]) :: scB b4 (atE xs 0 4) (.slice a ks.length c) (.slice none 0 0) (.slice none 0 0) :: (b2,.cells 43 zS) :: (s ++ sk)) (aa8 xs hx bm (p1+1+1) _ ⟨by omega,by omega⟩) cl15 (fun s'=>(b8,.cells 102 [sD nLife,slS (stL.take (2+n2)),.v (.slice a8 mv.length c8)]) :: (s' ++ (scB b4 (atE xs 0 4) (.slice a ks.length c) (.slice none 0 0) (.slice none 0 0) :: (b2,.cells 43 zS) :: (s ++ sk)))) (fun s'=>cl16) ?_);(rintro _ _ ⟨rfl,rfl⟩))
    repeat' (first|refine sk9 ?_|(intro b;conv=>whnf))
    refine Bc.j ?_
    refine aw1 mixed aa0 (γ:=List (Int × Int)) (fun _=>[]) (fun g=>(b8,.cells 102 (lifC ⟨nLife,stL.take (2+n2),g⟩)) :: mkB bm xs (p1+1+1+1) :: scB b4 (atE xs 0 4) (.slice a ks.length c) (.slice none 0 0) (.slice none 0 0) :: (b2,.cells 43 zS) :: sk) (fun g=>g.length≤5∧(∀ q∈g,(0≤q.1∧q.1<((2+n2:Nat):Int))∧(0≤q.2∧q.2<((2+n2:Nat):Int)))) ?_ ?_
    ·(((with_reducible refine W.mk ?_);(conv=>whnf)))
     refine Bc.l ?_
     have hfz:∀ (v:Value) (m:List (Int × Int)) (s:aa1),RowIs 103 2 (m.map movC) v s→Sc ((b8,.cells 102 [sD nLife,slS (stL.take (2+n2)),.v v]) :: mkB bm xs (p1+1+1+1) :: scB b4 (atE xs 0 4) (.slice a ks.length c) (.slice none 0 0) (.slice none 0 0) :: (b2,.cells 43 zS) :: (s ++ sk)) ((b8,.cells 102 (lifC ⟨nLife,stL.take (2+n2),m⟩)) :: mkB bm xs (p1+1+1+1) :: scB b4 (atE xs 0 4) (.slice a ks.length c) (.slice none 0 0) (.slice none 0 0) :: (b2,.cells 43 zS) :: sk):=fun v m s hr=>
      (Sc.perm cl15).trans (Sc.frz (cs:=[sD nLife,slS (stL.take (2+n2)),.v v]) (j:=2) (s:=s) (τ:=mkB bm xs (p1+1+1+1) :: scB b4 (atE xs 0 4) (.slice a ks.length c) (.slice none 0 0) (.slice none 0 0) :: (b2,.cells 43 zS) :: sk) rfl hr (LeR.refl _))
     by_cases hz4:atE xs (p1+1+1) 3=0
     ·repeat' (first|refine sk9 ?_|(intro b;conv=>whnf))
      rw [hle]
      repeat' (first|refine sk9 ?_|(intro b;conv=>whnf))
      refine Ap.go rfl rfl rfl rfl hmr (τ:=(b8,.cells 102 [sD nLife,slS (stL.take (2+n2)),.v (.slice a8 mv.length c8)]) :: mkB bm xs (p1+1+1+1) :: scB b4 (atE xs 0 4) (.slice a ks.length c) (.slice none 0 0) (.slice none 0 0) :: (b2,.cells 43 zS) :: sk) cl15 rfl (zs:=(mv ++ [((0:Int),((2+n2:Nat):Int) - 1)]).map movC) (by rw [List.map_append];rfl) (by simp;omega) (by simp;omega) (fun s'=>(b8,.cells 102 [sD nLife,slS (stL.take (2+n2)),.v (.slice a8 mv.length c8)]) :: mkB bm xs (p1+1+1+1) :: scB b4 (atE xs 0 4) (.slice a ks.length c) (.slice none 0 0) (.slice none 0 0) :: (b2,.cells 43 zS) :: (s' ++ sk)) (fun s'=>cl16) (fun a10 c10 s10 hr10=>?_)
      repeat' (first|refine sk9 ?_|(intro b;conv=>whnf))
      refine ⟨mv ++ [((0:Int),((2+n2:Nat):Int) - 1)],(aa2 cl2),hfz _ _ s10 hr10,by simp only [List.length_append,List.length_singleton];omega,fun q hq=>?_⟩
      rcases List.mem_append.1 hq with h|h
      ·exact hmq q h
      ·rw [List.mem_singleton] at h;subst h;simp only;omega
     ·repeat' (first|refine sk9 ?_|(intro b;conv=>whnf))
      exact ⟨mv,(aa2 cl2),(Sc.perm cl17).trans (hfz _ mv s hmr),by omega,hmq⟩
    ·clear hmq hmr hml
     rintro mv ⟨hml,hmq⟩
     have hck:=hch.ck (by omega)
     repeat' (first|refine sk6 ?_|(intro b;conv=>whnf))
     refine Ap.go rfl rfl rfl rfl (RowIs.nil 102 3) (List.Perm.refl ([] ++ _)) rfl (zs:=[lifC ⟨nLife,stL.take (2+n2),mv⟩]) rfl (by simp) (by simp) (fun s'=>s' ++ _) (fun s'=>List.Perm.refl _) (fun a11 c11 s11 hr11=>?_)
     repeat' (first|refine sk6 ?_|(intro b;conv=>whnf))
     refine Sv.cellm (tb:=43) (cs:=[iD (atE xs 0 4),.v (.slice a ks.length c),.v (.slice none 0 0),.v (.slice none 0 0)]) (cs':=[iD (atE xs 0 4),.v (.slice a ks.length c),.v (.slice a11 1 c11),.v (.slice none 0 0)]) (τ:=(b8,.cells 102 (lifC ⟨nLife,stL.take (2+n2),mv⟩)) :: mkB bm xs (p1+1+1+1) :: (b2,.cells 43 zS) :: (s11 ++ sk)) cl15 (by simp) rfl rfl ?_
     repeat' (first|refine sk6 ?_|(intro b;conv=>whnf))
     refine ay8 mixed aa0 (γ:=Nat × Int × List Rul × Value × aa1) (fun g=>[(10,iD g.1)]) (fun g=>mkB bm xs g.2.1 :: scB b4 (atE xs 0 4) (.slice a ks.length c) (.slice a11 1 c11) g.2.2.2.1 :: (b2,.cells 43 zS) :: (g.2.2.2.2 ++ (s11 ++ sk))) (fun g=>g.1≤ks.length∧(p1+3≤g.2.1∧g.2.1≤p1+3+g.1*20)∧g.2.2.1.length≤2∧RChain ks g.1 g.2.2.1∧RowIs 105 5 (g.2.2.1.map rulC) g.2.2.2.1 g.2.2.2.2) (fun g=>ks.length - g.1) (0,p1+1+1+1,[],.slice none 0 0,[]) (aa2 cl2) (Sc.drop (ρ:=[(b8,.cells 102 (lifC ⟨nLife,stL.take (2+n2),mv⟩))]) cl15) ⟨Nat.zero_le _,⟨by simp only;omega,by simp only;omega⟩,by simp,RChain.nil,RowIs.nil _ _⟩ ?_
     rintro ⟨i,p2,rs,rv,s⟩ ⟨hi5,⟨hp2,hp2'⟩,hrl,hrc,hrr⟩
     simp only at hi5 hp2 hp2' hrl hrc hrr ⊢
     obtain ⟨a12,c12,e12⟩:=hrr.slice
     rw [List.length_map] at e12
     subst e12
     by_cases hin5:i<ks.length
     ·by_cases hr2:rs.length<2
      ·obtain ⟨k,hk⟩:∃ k,ks[i]?=some k:=⟨_,List.getElem?_eq_getElem hin5⟩
       have hk1:=(hck k (List.mem_of_getElem? hk)).ck
       obtain ⟨b9,cap9,cs9,e9,e9s,hcs9⟩:=RowIs.get hkr (show (ks.map kndC)[i]?=some (kndC k) by rw [List.getElem?_map,hk];rfl)
       rw [List.length_map] at e9
       cases e9
       subst e9s
       have HR:=r09_rule xs hx bm p2 ⟨by omega,by omega⟩ k (by have:=hk1.nf;omega) hk1.nm (fun f hf=>by have h1:=(hk1.fs f hf).lo;have h2:=(hk1.fs f hf).hi;omega)
       repeat' (first|refine sk6 ?_|(intro b;conv=>whnf))
       refine Ld.rowm (tb:=97) (cs:=cs9) (x:=kndC k) (by simp) rfl (by decide) (fun j hj=>by rw [show 0+((i:Nat):Int).toNat*4+j=i*4+j by simp];exact hcs9 j hj) ?_
       repeat' (first|refine sk6 ?_|(intro b;conv=>whnf))
       refine CE.own (t:=scB b4 (atE xs 0 4) (.slice (some ⟨b9,0,none⟩) ks.length c) (.slice a11 1 c11) (.slice a12 rs.length c12) :: (b2,.cells 43 zS) :: (s ++ (s11 ++ [(b9,.cells 97 cs9)]))) HR cl17 (fun s'=>s' ++ (scB b4 (atE xs 0 4) (.slice (some ⟨b9,0,none⟩) ks.length c) (.slice a11 1 c11) (.slice a12 rs.length c12) :: (b2,.cells 43 zS) :: (s ++ (s11 ++ [(b9,.cells 97 cs9)])))) (fun s'=>List.Perm.refl _) ?_
       rintro _ _ ⟨p3,r,ok,⟨hp3,hp3'⟩,rfl,rfl,hok⟩
       cases ok with
       | false=>
        repeat' (first|refine sk6 ?_|(intro b;conv=>whnf))
        exact ⟨(i+1,p3,rs,.slice a12 rs.length c12,s),(aa2 cl7),Sc.sl (List.sublist_cons_self _ _),⟨by simp only;omega,⟨by simp only;omega,by simp only;omega⟩,hrl,hrc.skip,hrr⟩,by simp only;omega⟩
       | true=>
        repeat' (first|refine sk6 ?_|(intro b;conv=>whnf))
        generalize b=b11
        refine Ap.go rfl rfl rfl rfl hrr (τ:=(b11,.cells 105 [sD r.name,sD r.kind,sD r.a,sD r.b,iD r.n]) :: mkB bm xs p3 :: scB b4 (atE xs 0 4) (.slice (some ⟨b9,0,none⟩) ks.length c) (.slice a11 1 c11) (.slice a12 rs.length c12) :: (b2,.cells 43 zS) :: (s11 ++ [(b9,.cells 97 cs9)])) cl15 rfl (zs:=(rs ++ [r]).map rulC) (by rw [List.map_append];rfl) (by simp;omega) (by simp;omega) (fun s'=>(b11,.cells 105 [sD r.name,sD r.kind,sD r.a,sD r.b,iD r.n]) :: mkB bm xs p3 :: scB b4 (atE xs 0 4) (.slice (some ⟨b9,0,none⟩) ks.length c) (.slice a11 1 c11) (.slice a12 rs.length c12) :: (b2,.cells 43 zS) :: (s' ++ (s11 ++ [(b9,.cells 97 cs9)]))) (fun s'=>cl16) (fun a13 c13 s13 hr13=>?_)
        repeat' (first|refine sk6 ?_|(intro b;conv=>whnf))
        exact ⟨(i+1,p3,rs ++ [r],_,s13),(aa2 cl7),Sc.sl (List.sublist_cons_self _ _),⟨by simp only;omega,⟨by simp only;omega,by simp only;omega⟩,by simp only [List.length_append,List.length_singleton];omega,hrc.take hk (hok rfl),hr13⟩,by simp only;omega⟩
      ·repeat' (first|refine sk6 ?_|(intro b;conv=>whnf))
       refine Rs.c aa0 (m:=2) rfl rfl rfl rfl rfl rfl ?_
       repeat' (first|refine sk6 ?_|(intro b;conv=>whnf))
       exact Rt.by (σ':=[]) (d':=schD ⟨atE xs 0 4,ks,[⟨nLife,stL.take (2+n2),mv⟩],rs⟩) (Vs.vd ⟨mkB bm xs p2 :: scB b4 (atE xs 0 4) (.slice a ks.length c) (.slice a11 1 c11) (.slice a12 rs.length c12) :: scB b2 (atE xs 0 4) (.slice a ks.length c) (.slice a11 1 c11) (.slice a12 rs.length c12) :: (s ++ (s11 ++ sk)),by rw [List.append_nil]⟩ (Vd.agg (.cons (Vd.same (fun z hz=>by cases hz) _) (.cons (Vd.row (ρ:=mkB bm xs p2 :: scB b4 (atE xs 0 4) (.slice a ks.length c) (.slice a11 1 c11) (.slice a12 rs.length c12) :: scB b2 (atE xs 0 4) (.slice a ks.length c) (.slice a11 1 c11) (.slice a12 rs.length c12) :: (s ++ s11)) hkr cl15 (fun z hz=>by cases hz)) (.cons (Vd.row (ρ:=mkB bm xs p2 :: scB b4 (atE xs 0 4) (.slice a ks.length c) (.slice a11 1 c11) (.slice a12 rs.length c12) :: scB b2 (atE xs 0 4) (.slice a ks.length c) (.slice a11 1 c11) (.slice a12 rs.length c12) :: (s ++ sk)) hr11 cl15 (fun z hz=>by cases hz)) (.cons (Vd.row (ρ:=mkB bm xs p2 :: scB b4 (atE xs 0 4) (.slice a ks.length c) (.slice a11 1 c11) (.slice a12 rs.length c12) :: scB b2 (atE xs 0 4) (.slice a ks.length c) (.slice a11 1 c11) (.slice a12 rs.length c12) :: (s11 ++ sk)) hrr cl15 (fun z hz=>by cases hz)) .nil)))))) ⟨_,rfl,rfl,⟨⟨h0.1,h0'⟩,⟨by show 1≤ks.length;omega,by show ks.length≤3;omega⟩,hch,⟨2+n2,mv,by omega,by omega,rfl,hml,hmq⟩,hrl,⟨_,hi5,hrc⟩⟩⟩
     ·obtain rfl:i=ks.length:=by omega
      repeat' (first|refine sk6 ?_|(intro b;conv=>whnf))
      refine Rs.c aa0 (m:=2) rfl rfl rfl rfl rfl rfl ?_
      repeat' (first|refine sk6 ?_|(intro b;conv=>whnf))
      exact Rt.by (σ':=[]) (d':=schD ⟨atE xs 0 4,ks,[⟨nLife,stL.take (2+n2),mv⟩],rs⟩) (Vs.vd ⟨mkB bm xs p2 :: scB b4 (atE xs 0 4) (.slice a ks.length c) (.slice a11 1 c11) (.slice a12 rs.length c12) :: scB b2 (atE xs 0 4) (.slice a ks.length c) (.slice a11 1 c11) (.slice a12 rs.length c12) :: (s ++ (s11 ++ sk)),by rw [List.append_nil]⟩ (Vd.agg (.cons (Vd.same (fun z hz=>by cases hz) _) (.cons (Vd.row (ρ:=mkB bm xs p2 :: scB b4 (atE xs 0 4) (.slice a ks.length c) (.slice a11 1 c11) (.slice a12 rs.length c12) :: scB b2 (atE xs 0 4) (.slice a ks.length c) (.slice a11 1 c11) (.slice a12 rs.length c12) :: (s ++ s11)) hkr cl15 (fun z hz=>by cases hz)) (.cons (Vd.row (ρ:=mkB bm xs p2 :: scB b4 (atE xs 0 4) (.slice a ks.length c) (.slice a11 1 c11) (.slice a12 rs.length c12) :: scB b2 (atE xs 0 4) (.slice a ks.length c) (.slice a11 1 c11) (.slice a12 rs.length c12) :: (s ++ sk)) hr11 cl15 (fun z hz=>by cases hz)) (.cons (Vd.row (ρ:=mkB bm xs p2 :: scB b4 (atE xs 0 4) (.slice a ks.length c) (.slice a11 1 c11) (.slice a12 rs.length c12) :: scB b2 (atE xs 0 4) (.slice a ks.length c) (.slice a11 1 c11) (.slice a12 rs.length c12) :: (s11 ++ sk)) hrr cl15 (fun z hz=>by cases hz)) .nil)))))) ⟨_,rfl,rfl,⟨⟨h0.1,h0'⟩,⟨by show 1≤ks.length;omega,by show ks.length≤3;omega⟩,hch,⟨2+n2,mv,by omega,by omega,rfl,hml,hmq⟩,hrl,⟨_,hi5,hrc⟩⟩⟩
end
section
open Go
theorem RuleF.cr {k:Knd} {r:Rul} (h:RuleF k r) (hk:CK k):CR r:=by
 have hx:(k.name.extract 0 1).size≤1:=by rw [ByteArray.size_extract];omega
 have ap:∀ a:ByteArray,a.size≤5→(a ++ k.name.extract 0 1).size≤12:=fun a ha=>by rw [ByteArray.size_append];omega
 cases h with
 | low n h hn=>exact ⟨ap _ (by decide),hk.nm.2,by show nLow.size≤12;decide,by show nHigh.size≤12;decide,by show -2000≤n - 2∧n - 2≤2000;omega⟩
 | most f n h hf hn=>
  have:=(hk.fs f (List.mem_of_getElem? hf)).lo
  exact ⟨ap _ (by decide),hk.nm.2,by show nSize.size≤12;decide,by show nE.size≤12;decide,by show -2000≤f.lo+n∧f.lo+n≤2000;omega⟩
 | least f n h hf hn=>
  have:=(hk.fs f (List.mem_of_getElem? hf)).hi
  exact ⟨ap _ (by decide),hk.nm.2,by show nE.size≤12;decide,by show nSize.size≤12;decide,by show -2000≤n - f.hi∧n - f.hi≤2000;omega⟩
theorem RChain.cr {ks:List Knd} {i:Nat} {rs:List Rul} (h:RChain ks i rs) (hk:∀ k∈ks,CK k):∀ r∈rs,CR r:=by
 induction h with
 | nil=>simp
 | skip h ih=>exact ih
 | take h hk' hr ih=>
  intro r hm
  rcases List.mem_append.1 hm with hm|hm
  ·exact ih r hm
  ·rw [List.mem_singleton] at hm;subst hm;exact hr.cr (hk _ (List.mem_of_getElem? hk'))
theorem GenX.cls {x:Sch} (h:GenX x):Cls x:=by
 have hk:∀ k∈x.kinds,CK k:=fun k hk=>(h.ks.ck h.nk.2 k hk).ck
 obtain ⟨m,mv,hm,hm',hl,hml,hmq⟩:=h.ls
 obtain ⟨i,_,hr⟩:=h.rs
 refine ⟨by have:=h.ver;omega,h.nk.2,hk,by rw [hl];simp,fun l hl'=>?_,by have:=h.nr;omega,hr.cr hk⟩
 rw [hl,List.mem_singleton] at hl'
 subst hl'
 refine ⟨by show nLife.size≤12;decide,by show (stL.take m).length≤4;rw [List.length_take];simp;omega,fun s hs=>?_,hml,fun q hq=>by have:=hmq q hq;omega⟩
 have:=List.mem_of_mem_take hs
 simp only [stL,List.mem_cons,List.not_mem_nil,or_false] at this
 rcases this with rfl|rfl|rfl|rfl <;> decide
end
end Go.Proofs.YtjbbmjjildhfbaaGreatDoor
