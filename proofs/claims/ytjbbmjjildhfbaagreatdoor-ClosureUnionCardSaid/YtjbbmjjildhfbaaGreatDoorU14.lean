/- A part of the proof: Sc Gx Bn Ix R10e Ta. -/
import Derived.Test.YtjbbmjjildhfbaaGreatDoorU13
set_option maxRecDepth 100000
set_option maxHeartbeats 4000000
set_option linter.unusedVariables false
set_option linter.unusedSimpArgs false
namespace Go.Proofs.YtjbbmjjildhfbaaGreatDoor
section
open Go Go.RowKit Go.Shelf
inductive KChain : List Knd → Prop
 | nil : KChain []
 | step {ks ks' : List Knd} {k : Knd} (h : KChain ks) (m : KMade ks k ks') (l : ks'.length = ks.length) : KChain (ks' ++ [k])
inductive RChain (ks : List Knd) : Nat → List Rul → Prop
 | nil : RChain ks 0 []
 | skip {i : Nat} {rs : List Rul} (h : RChain ks i rs) : RChain ks (i + 1) rs
 | take {i : Nat} {rs : List Rul} {k : Knd} {r : Rul} (h : RChain ks i rs) (hk : ks[i]? = some k) (hr : RuleF k r) : RChain ks (i + 1) (rs ++ [r])
theorem KChain.ck {ks : List Knd} (h : KChain ks) (hl : ks.length ≤ 3) : ∀ k ∈ ks,CK1 k:=by
 induction h with
 | nil=>simp
 | step h m l ih=>
  rw [List.length_append,List.length_singleton] at hl
  obtain ⟨h1,h2,h3⟩:=m.cls (by omega) (ih (by omega))
  intro k hk
  rcases List.mem_append.1 hk with hk | hk
  ·exact h3 k hk
  ·rw [List.mem_singleton] at hk;subst hk;exact h1
abbrev stL : List ByteArray:=[⟨#[110,101,119]⟩,⟨#[111,112,101,110]⟩,⟨#[100,111,110,101]⟩,⟨#[115,104,117,116]⟩]
structure GenX (x : Sch) : Prop where
 ver : 0 ≤ x.version ∧ x.version < 4
 nk : 1 ≤ x.kinds.length ∧ x.kinds.length ≤ 3
 ks : KChain x.kinds
 ls : ∃ (m : Nat) (mv : List (Int × Int)),2 ≤ m ∧ m ≤ 4 ∧ x.lives = [⟨nLife,stL.take m,mv⟩] ∧ mv.length ≤ 5 ∧ ∀ p ∈ mv,(0 ≤ p.1 ∧ p.1 < m) ∧ (0 ≤ p.2 ∧ p.2 < m)
 nr : x.rules.length ≤ 2
 rs : ∃ i,i ≤ x.kinds.length ∧ RChain x.kinds i x.rules
abbrev scB (b : Nat) (ver : Int) (kv lv rv : Value) : Nat × Blk:=(b,.cells 43 [iD ver,.v kv,.v lv,.v rv])
abbrev zS : List D:=[.v (zv (ZV.int IntKind.i64)),.v (zv ZV.sl),.v (zv ZV.sl),.v (zv ZV.sl)]
theorem sb29 {A B : Prop} (k : B) (h : Hd7 B → A:=by intro hk7q;(first | (with_reducible refine Bc.l ?_) | fail | fail | ((with_reducible refine Cb.go ?h ?_);(case h=>decide +kernel)));exact hk7q.run) : A:=h ⟨k⟩
theorem sk30 {A B : Prop} (k : B) (h : Hd7 B → A:=by intro hk7q;(first | refine sb0 ?_ | refine sb29 ?_ | ((with_reducible refine' Cp.by ?hc ?_);(case hc=>fail)) | ((with_reducible refine' CE.pure ?hc ?_);(case hc=>fail)));exact hk7q.run) : A:=h ⟨k⟩
theorem cl15 {p : Prop} (h : p:=by (refine perm_ct fun a=>?_;simp only [kdB,mkB,scB,List.append_eq,List.nil_append,ct_cons,ct_app,ct_nil,sD,iD,bD];omega)) : p:=h
theorem cl16 {p : Prop} (h : p:=by (refine perm_ct fun a=>?_;simp only [kdB,mkB,scB,List.append_eq,List.nil_append,ct_cons,ct_app,ct_nil,sD,iD,bD];omega)) : p:=h
theorem cl17 {p : Prop} (h : p:=by first | exact List.Perm.refl _ | ((refine perm_ct fun a=>?_;simp only [kdB,mkB,scB,List.append_eq,List.nil_append,ct_cons,ct_app,ct_nil,sD,iD,bD];omega))) : p:=h
theorem r09_schema (l : List Int) (hl : I64s l) : ACall Tryz.prog 23 [slI l] [] (fun d σ=>∃ x,d = schD x ∧ σ = [] ∧ GenX x):=by
 have hll:=hl.2
 have hx : I64s (l.take 200):=⟨fun z hz=>hl.1 z (List.mem_of_mem_take hz),by have:=List.length_take_le 200 l;omega⟩
 generalize hxs : l.take 200 = xs at hx
 have e0 : List.take (if (200 : Int) < ((l.map fun x=>[iD x]).length : Int) then 200 else ((l.map fun x=>[iD x]).length : Int)).toNat (l.map fun x=>[iD x]) = xs.map fun x=>[iD x]:=by
  rw [List.length_map,← hxs,List.map_take]
  split
  ·rfl
  ·rw [List.take_of_length_le (by rw [List.length_map];omega),List.take_of_length_le (by rw [List.length_map];omega)]
 refine enterX mixed tget_ok Tryz.func23 (by kernel_rfl) rfl Tryz.ntmps23 rfl ?_;intro BB
 repeat' (first | refine sk30 ?_ | (intro b;conv=>whnf))
 generalize b = b2
 rw [e0]
 refine Bx.r (OtE.box rfl rfl (fun bm=>?_))
 have h0:=atE_in xs 0 4
 have h0':=h0.2 (by omega)
 have h1:=atE_in xs (0 + 1) 3
 have h1':=h1.2 (by omega)
 obtain ⟨n1,hn1⟩ : ∃ n : Nat,atE xs (0 + 1) 3 = n:=⟨(atE xs (0 + 1) 3).toNat,by omega⟩
 repeat' (first | refine sk30 ?_ | (intro b;conv=>whnf) | ((refine CE.own (r09_take0 xs hx bm _ _ ⟨by omega,by omega⟩) (List.Perm.refl ([mkB bm xs _] ++ _)) (fun s'=>s' ++ _) (fun s'=>List.Perm.refl _) ?_);(rintro _ _ ⟨rfl,rfl⟩)) | ((refine CE.own (r09_take0 xs hx bm _ _ ⟨by omega,by omega⟩) (show List.Perm (_ :: mkB bm xs _ :: _) ([mkB bm xs _] ++ (_ :: _)) from List.Perm.swap _ _ _) (fun s'=>s' ++ (_ :: _)) (fun s'=>List.Perm.refl _) ?_);(rintro _ _ ⟨rfl,rfl⟩)))
 rw [hn1]
 repeat' (first | refine sk6 ?_ | (intro b;conv=>whnf))
 generalize b = b4
 refine lp_loopS mixed tget_ok (γ:=Nat × Int × List Knd × Value × Store) (fun g=>[(6,iD g.1)]) (fun g=>mkB bm xs g.2.1 :: scB b4 (atE xs 0 4) g.2.2.2.1 (.slice none 0 0) (.slice none 0 0) :: (b2,.cells 43 zS) :: g.2.2.2.2) (fun g=>g.1 ≤ 1 + n1 ∧ (2 ≤ g.2.1 ∧ g.2.1 ≤ 2 + g.1 * 100) ∧ g.2.2.1.length = g.1 ∧ KChain g.2.2.1 ∧ RowIs 97 4 (g.2.2.1.map kndC) g.2.2.2.1 g.2.2.2.2) (fun g=>1 + n1 - g.1) (0,2,[],.slice none 0 0,[]) (chk_of cl2) (Sc.perm (by first | exact List.Perm.refl _ | exact List.Perm.swap _ _ _)) ⟨Nat.zero_le _,⟨by simp,by simp⟩,rfl,KChain.nil,RowIs.nil _ _⟩ ?_
 rintro ⟨i,p1,ks,v,sk⟩ ⟨hi,⟨hp1,hp1'⟩,hkl,hch,hkr⟩
 simp only at hi hp1 hp1' hkl hch hkr ⊢
 obtain ⟨a,c,e⟩:=hkr.slice
 rw [List.length_map] at e
 subst e
 by_cases hin : i < 1 + n1
 ·have hck:=hch.ck (by omega)
  have HK:=r09_kind xs hx bm p1 ⟨by omega,by omega⟩ ks (by omega) (fun k hk=>by have:=(hck k hk).ck.nf;omega) a c sk hkr
  repeat' (first | refine sk6 ?_ | (intro b;conv=>whnf))
  (refine Dr.r ?_;(((with_reducible refine W.mk ?_);(conv=>whnf)));refine Dm.r ?_;refine W.mk ?_)
  refine lp_ordS mixed tget_ok rfl [0,2,3] 7 (.two 1 (.one 4 (.one 5 (.one 6 (.one 7 (.one 8 (.one 9 .done)))))) 4 (.two 1 (.one 5 (.one 6 (.one 7 (.one 8 (.one 9 .done))))) 5 (.two 1 (.one 6 (.one 7 (.one 8 (.one 9 .done)))) 6 (.one 1 (.one 7 (.one 8 (.one 9 .done))))))) (γ:=Int × List Knd × Knd × Value × Store) (fun _=>[]) (fun g=>mkB bm xs g.1 :: scB b4 (atE xs 0 4) g.2.2.2.1 (.slice none 0 0) (.slice none 0 0) :: (b2,.cells 43 zS) :: g.2.2.2.2) (fun g=>(p1 ≤ g.1 ∧ g.1 ≤ p1 + 100) ∧ KMade ks g.2.2.1 g.2.1 ∧ RowIs 97 4 ((g.2.1 ++ [g.2.2.1]).map kndC) g.2.2.2.1 g.2.2.2.2) (by decide +kernel) ?_ ?_
  ·repeat' (first | refine sk6 ?_ | (intro b;conv=>whnf) | (refine And.intro ?_ ?_ <;> (conv=>whnf)) | ((refine CE.own (t:=[scB b4 (atE xs 0 4) (.slice a ks.length c) (.slice none 0 0) (.slice none 0 0),(b2,.cells 43 zS)]) HK cl15 (fun s'=>scB b4 (atE xs 0 4) (.slice a ks.length c) (.slice none 0 0) (.slice none 0 0) :: (b2,.cells 43 zS) :: s') (fun s'=>cl16) ?_);(rintro _ _ ⟨p2,k,ks2,s2,hp2,rfl,rfl,hkr2,hm⟩);(have hml:=(hm.cls (by omega) hck).2.1)) | (refine Ap.go rfl rfl rfl rfl hkr2 (τ:=scB b4 (atE xs 0 4) (.slice a ks.length c) (.slice none 0 0) (.slice none 0 0) :: (b2,.cells 43 zS) :: [mkB bm xs p2]) cl15 rfl (zs:=(ks2 ++ [k]).map kndC) (by rw [List.map_append];rfl) (by rw [List.length_map,List.length_append,hml];simp only [List.length_singleton];omega) (by rw [List.length_map,List.length_append,hml];simp only [List.length_singleton];omega) (fun s'=>scB b4 (atE xs 0 4) (.slice a ks.length c) (.slice none 0 0) (.slice none 0 0) :: (b2,.cells 43 zS) :: mkB bm xs p2 :: s') (fun s'=>cl16) (fun a3 c3 s3 hr3=>?_)))
   all_goals exact ⟨(p2,ks2,k,_,s3),(chk_of cl2),Sc.perm cl15,hp2,hm,hr3⟩
  ·rintro ⟨p2,ks2,k,v2,s2⟩ ⟨⟨hp2,hp2'⟩,hm,hkr2⟩
   simp only at hp2 hp2' hm hkr2 ⊢
   have hml:=(hm.cls (by omega) hck).2.1
   repeat' (first | refine sk6 ?_ | (intro b;conv=>whnf))
   exact ⟨(i + 1,p2,ks2 ++ [k],v2,s2),(chk_of cl7),Sc.perm cl17,⟨by simp only;omega,⟨by simp only;omega,by simp only;omega⟩,by simp only [List.length_append,List.length_singleton];omega,hch.step hm hml,hkr2⟩,by simp only;omega⟩
 ·obtain rfl : i = 1 + n1:=by omega
  have h2:=atE_in xs p1 3
  have h2':=h2.2 (by omega)
  obtain ⟨n2,hn2⟩ : ∃ n : Nat,atE xs p1 3 = n:=⟨(atE xs p1 3).toNat,by omega⟩
  have hst : List.take (2 + (n2 : Int)).toNat [[D.v (Value.string ⟨#[110,101,119]⟩)],[D.v (Value.string ⟨#[111,112,101,110]⟩)],[D.v (Value.string ⟨#[100,111,110,101]⟩)],[D.v (Value.string ⟨#[115,104,117,116]⟩)]] = (stL.take (2 + n2)).map fun s=>[sD s]:=by
   rw [show (2 + (n2 : Int)).toNat = 2 + n2 by omega,List.map_take];rfl
  have hsl : (stL.take (2 + n2)).length = 2 + n2:=by rw [List.length_take];simp;omega
  repeat' (first | refine sk6 ?_ | (intro b;conv=>whnf))
  ((refine CE.own (r09_take0 xs hx bm _ _ ⟨by omega,by omega⟩) (List.Perm.refl ([mkB bm xs _] ++ _)) (fun s'=>s' ++ _) (fun s'=>List.Perm.refl _) ?_);(rintro _ _ ⟨rfl,rfl⟩))
  rw [hn2]
  repeat' (first | refine sk6 ?_ | (intro b;conv=>whnf))
  rw [hst]
  repeat' (first | refine sk6 ?_ | (intro b;conv=>whnf))
  generalize b = b8
  refine lp_loopS mixed tget_ok (γ:=Nat × List (Int × Int) × Value × Store) (fun g=>[(9,iD g.1)]) (fun g=>(b8,.cells 102 [sD nLife,slS (stL.take (2 + n2)),.v g.2.2.1]) :: mkB bm xs (p1 + 1) :: scB b4 (atE xs 0 4) (.slice a ks.length c) (.slice none 0 0) (.slice none 0 0) :: (b2,.cells 43 zS) :: (g.2.2.2 ++ sk)) (fun g=>g.1 ≤ 1 + n2 ∧ g.2.1.length = g.1 ∧ (∀ q ∈ g.2.1,(0 ≤ q.1 ∧ q.1 < ((2 + n2 : Nat) : Int)) ∧ (0 ≤ q.2 ∧ q.2 < ((2 + n2 : Nat) : Int))) ∧ RowIs 103 2 (g.2.1.map movC) g.2.2.1 g.2.2.2) (fun g=>1 + n2 - g.1) (0,[],.slice none 0 0,[]) (chk_of cl2) (Sc.perm (by first | exact List.Perm.refl _ | exact List.Perm.swap _ _ _)) ⟨Nat.zero_le _,rfl,by simp,RowIs.nil _ _⟩ ?_
  rintro ⟨i,mv,v,s⟩ ⟨hi2,hml,hmq,hmr⟩
  simp only at hi2 hml hmq hmr ⊢
  have hle : ((stL.take (2 + n2)).map fun s=>[sD s]).length = 2 + n2:=by rw [List.length_map];exact hsl
  by_cases hin2 : i < 1 + n2
  ·repeat' (first | refine sk6 ?_ | (intro b;conv=>whnf))
   refine Ap.go rfl rfl rfl rfl hmr (τ:=(b8,.cells 102 [sD nLife,slS (stL.take (2 + n2)),.v v]) :: mkB bm xs (p1 + 1) :: scB b4 (atE xs 0 4) (.slice a ks.length c) (.slice none 0 0) (.slice none 0 0) :: (b2,.cells 43 zS) :: sk) cl15 rfl (zs:=(mv ++ [((i : Int),(i : Int) + 1)]).map movC) (by rw [List.map_append];rfl) (by simp;omega) (by simp;omega) (fun s'=>(b8,.cells 102 [sD nLife,slS (stL.take (2 + n2)),.v v]) :: mkB bm xs (p1 + 1) :: scB b4 (atE xs 0 4) (.slice a ks.length c) (.slice none 0 0) (.slice none 0 0) :: (b2,.cells 43 zS) :: (s' ++ sk)) (fun s'=>cl16) (fun a5 c5 s5 hr5=>?_)
   repeat' (first | refine sk6 ?_ | (intro b;conv=>whnf))
   refine ⟨(i + 1,mv ++ [((i : Int),(i : Int) + 1)],_,s5),(chk_of cl7),Sc.refl _,⟨by simp only;omega,by simp only [List.length_append,List.length_singleton];omega,fun q hq=>?_,hr5⟩,by simp only;omega⟩
   rcases List.mem_append.1 hq with h | h
   ·exact hmq q h
   ·rw [List.mem_singleton] at h;subst h;simp only;omega
  ·obtain rfl : i = 1 + n2:=by omega
   have h3:=atE_in xs (p1 + 1) 2
   repeat' (first | refine sk9 ?_ | (intro b;conv=>whnf))
   refine Bc.l ?_
   repeat' (first | refine sk9 ?_ | (intro b;conv=>whnf))
   ((refine CE.own (t:=(b8,.cells 102 [sD nLife,slS (stL.take (2 + n2)),.v v]) :: scB b4 (atE xs 0 4) (.slice a ks.length c) (.slice none 0 0) (.slice none 0 0) :: (b2,.cells 43 zS) :: (s ++ sk)) (r09_take0 xs hx bm (p1 + 1) _ ⟨by omega,by omega⟩) cl15 (fun s'=>(b8,.cells 102 [sD nLife,slS (stL.take (2 + n2)),.v v]) :: (s' ++ (scB b4 (atE xs 0 4) (.slice a ks.length c) (.slice none 0 0) (.slice none 0 0) :: (b2,.cells 43 zS) :: (s ++ sk)))) (fun s'=>cl16) ?_);(rintro _ _ ⟨rfl,rfl⟩))
   repeat' (first | refine sk9 ?_ | (intro b;conv=>whnf))
   refine Bc.j ?_
   refine lp_anyS mixed tget_ok (γ:=List (Int × Int) × Value × Store) (fun _=>[]) (fun g=>(b8,.cells 102 [sD nLife,slS (stL.take (2 + n2)),.v g.2.1]) :: mkB bm xs (p1 + 1 + 1) :: scB b4 (atE xs 0 4) (.slice a ks.length c) (.slice none 0 0) (.slice none 0 0) :: (b2,.cells 43 zS) :: (g.2.2 ++ sk)) (fun g=>g.1.length ≤ 4 ∧ (∀ q ∈ g.1,(0 ≤ q.1 ∧ q.1 < ((2 + n2 : Nat) : Int)) ∧ (0 ≤ q.2 ∧ q.2 < ((2 + n2 : Nat) : Int))) ∧ RowIs 103 2 (g.1.map movC) g.2.1 g.2.2) ?_ ?_
   ·(((with_reducible refine W.mk ?_);(conv=>whnf)))
    refine Bc.l ?_
    by_cases hz3 : atE xs (p1 + 1) 2 = 0
    ·repeat' (first | refine sk9 ?_ | (intro b;conv=>whnf))
     refine Ap.go rfl rfl rfl rfl hmr (τ:=(b8,.cells 102 [sD nLife,slS (stL.take (2 + n2)),.v v]) :: mkB bm xs (p1 + 1 + 1) :: scB b4 (atE xs 0 4) (.slice a ks.length c) (.slice none 0 0) (.slice none 0 0) :: (b2,.cells 43 zS) :: sk) cl15 rfl (zs:=(mv ++ [((1 : Int),(0 : Int))]).map movC) (by rw [List.map_append];rfl) (by simp;omega) (by simp;omega) (fun s'=>(b8,.cells 102 [sD nLife,slS (stL.take (2 + n2)),.v v]) :: mkB bm xs (p1 + 1 + 1) :: scB b4 (atE xs 0 4) (.slice a ks.length c) (.slice none 0 0) (.slice none 0 0) :: (b2,.cells 43 zS) :: (s' ++ sk)) (fun s'=>cl16) (fun a5 c5 s5 hr5=>?_)
     repeat' (first | refine sk9 ?_ | (intro b;conv=>whnf))
     refine ⟨(mv ++ [((1 : Int),(0 : Int))],_,s5),(chk_of cl2),Sc.refl _,⟨by simp only [List.length_append,List.length_singleton];omega,fun q hq=>?_,hr5⟩⟩
     rcases List.mem_append.1 hq with h | h
     ·exact hmq q h
     ·rw [List.mem_singleton] at h;subst h;simp only;omega
    ·repeat' (first | refine sk9 ?_ | (intro b;conv=>whnf))
     exact ⟨(mv,v,s),(chk_of cl2),Sc.perm cl17,by simp only;omega,hmq,hmr⟩
   ·clear hmq hmr hml
    rintro ⟨mv,v,s⟩ ⟨hml,hmq,hmr⟩
    simp only at hml hmq hmr ⊢
    obtain ⟨a8,c8,e8⟩:=hmr.slice
    rw [List.length_map] at e8
    subst e8
    have h4:=atE_in xs (p1 + 1 + 1) 3
    repeat' (first | refine sk9 ?_ | (intro b;conv=>whnf))
    ((refine CE.own (t:=(b8,.cells 102 [sD nLife,slS (stL.take (2 + n2)),.v (.slice a8 mv.length c8)]) :: scB b4 (atE xs 0 4) (.slice a ks.length c) (.slice none 0 0) (.slice none 0 0) :: (b2,.cells 43 zS) :: (s ++ sk)) (r09_take0 xs hx bm (p1 + 1 + 1) _ ⟨by omega,by omega⟩) cl15 (fun s'=>(b8,.cells 102 [sD nLife,slS (stL.take (2 + n2)),.v (.slice a8 mv.length c8)]) :: (s' ++ (scB b4 (atE xs 0 4) (.slice a ks.length c) (.slice none 0 0) (.slice none 0 0) :: (b2,.cells 43 zS) :: (s ++ sk)))) (fun s'=>cl16) ?_);(rintro _ _ ⟨rfl,rfl⟩))
    repeat' (first | refine sk9 ?_ | (intro b;conv=>whnf))
    refine Bc.j ?_
    refine lp_anyS mixed tget_ok (γ:=List (Int × Int)) (fun _=>[]) (fun g=>(b8,.cells 102 (lifC ⟨nLife,stL.take (2 + n2),g⟩)) :: mkB bm xs (p1 + 1 + 1 + 1) :: scB b4 (atE xs 0 4) (.slice a ks.length c) (.slice none 0 0) (.slice none 0 0) :: (b2,.cells 43 zS) :: sk) (fun g=>g.length ≤ 5 ∧ (∀ q ∈ g,(0 ≤ q.1 ∧ q.1 < ((2 + n2 : Nat) : Int)) ∧ (0 ≤ q.2 ∧ q.2 < ((2 + n2 : Nat) : Int)))) ?_ ?_
    ·(((with_reducible refine W.mk ?_);(conv=>whnf)))
     refine Bc.l ?_
     have hfz : ∀ (v : Value) (m : List (Int × Int)) (s : Store),RowIs 103 2 (m.map movC) v s → Sc ((b8,.cells 102 [sD nLife,slS (stL.take (2 + n2)),.v v]) :: mkB bm xs (p1 + 1 + 1 + 1) :: scB b4 (atE xs 0 4) (.slice a ks.length c) (.slice none 0 0) (.slice none 0 0) :: (b2,.cells 43 zS) :: (s ++ sk)) ((b8,.cells 102 (lifC ⟨nLife,stL.take (2 + n2),m⟩)) :: mkB bm xs (p1 + 1 + 1 + 1) :: scB b4 (atE xs 0 4) (.slice a ks.length c) (.slice none 0 0) (.slice none 0 0) :: (b2,.cells 43 zS) :: sk):=fun v m s hr=>
      (Sc.perm cl15).trans (Sc.frz (cs:=[sD nLife,slS (stL.take (2 + n2)),.v v]) (j:=2) (s:=s) (τ:=mkB bm xs (p1 + 1 + 1 + 1) :: scB b4 (atE xs 0 4) (.slice a ks.length c) (.slice none 0 0) (.slice none 0 0) :: (b2,.cells 43 zS) :: sk) rfl hr (LeR.refl _))
     by_cases hz4 : atE xs (p1 + 1 + 1) 3 = 0
     ·repeat' (first | refine sk9 ?_ | (intro b;conv=>whnf))
      rw [hle]
      repeat' (first | refine sk9 ?_ | (intro b;conv=>whnf))
      refine Ap.go rfl rfl rfl rfl hmr (τ:=(b8,.cells 102 [sD nLife,slS (stL.take (2 + n2)),.v (.slice a8 mv.length c8)]) :: mkB bm xs (p1 + 1 + 1 + 1) :: scB b4 (atE xs 0 4) (.slice a ks.length c) (.slice none 0 0) (.slice none 0 0) :: (b2,.cells 43 zS) :: sk) cl15 rfl (zs:=(mv ++ [((0 : Int),((2 + n2 : Nat) : Int) - 1)]).map movC) (by rw [List.map_append];rfl) (by simp;omega) (by simp;omega) (fun s'=>(b8,.cells 102 [sD nLife,slS (stL.take (2 + n2)),.v (.slice a8 mv.length c8)]) :: mkB bm xs (p1 + 1 + 1 + 1) :: scB b4 (atE xs 0 4) (.slice a ks.length c) (.slice none 0 0) (.slice none 0 0) :: (b2,.cells 43 zS) :: (s' ++ sk)) (fun s'=>cl16) (fun a10 c10 s10 hr10=>?_)
      repeat' (first | refine sk9 ?_ | (intro b;conv=>whnf))
      refine ⟨mv ++ [((0 : Int),((2 + n2 : Nat) : Int) - 1)],(chk_of cl2),hfz _ _ s10 hr10,by simp only [List.length_append,List.length_singleton];omega,fun q hq=>?_⟩
      rcases List.mem_append.1 hq with h | h
      ·exact hmq q h
      ·rw [List.mem_singleton] at h;subst h;simp only;omega
     ·repeat' (first | refine sk9 ?_ | (intro b;conv=>whnf))
      exact ⟨mv,(chk_of cl2),(Sc.perm cl17).trans (hfz _ mv s hmr),by omega,hmq⟩
    ·clear hmq hmr hml
     rintro mv ⟨hml,hmq⟩
     have hck:=hch.ck (by omega)
     repeat' (first | refine sk6 ?_ | (intro b;conv=>whnf))
     refine Ap.go rfl rfl rfl rfl (RowIs.nil 102 3) (List.Perm.refl ([] ++ _)) rfl (zs:=[lifC ⟨nLife,stL.take (2 + n2),mv⟩]) rfl (by simp) (by simp) (fun s'=>s' ++ _) (fun s'=>List.Perm.refl _) (fun a11 c11 s11 hr11=>?_)
     repeat' (first | refine sk6 ?_ | (intro b;conv=>whnf))
     refine Sv.cellm (tb:=43) (cs:=[iD (atE xs 0 4),.v (.slice a ks.length c),.v (.slice none 0 0),.v (.slice none 0 0)]) (cs':=[iD (atE xs 0 4),.v (.slice a ks.length c),.v (.slice a11 1 c11),.v (.slice none 0 0)]) (τ:=(b8,.cells 102 (lifC ⟨nLife,stL.take (2 + n2),mv⟩)) :: mkB bm xs (p1 + 1 + 1 + 1) :: (b2,.cells 43 zS) :: (s11 ++ sk)) cl15 (by simp) rfl rfl ?_
     repeat' (first | refine sk6 ?_ | (intro b;conv=>whnf))
     refine lp_loopS mixed tget_ok (γ:=Nat × Int × List Rul × Value × Store) (fun g=>[(10,iD g.1)]) (fun g=>mkB bm xs g.2.1 :: scB b4 (atE xs 0 4) (.slice a ks.length c) (.slice a11 1 c11) g.2.2.2.1 :: (b2,.cells 43 zS) :: (g.2.2.2.2 ++ (s11 ++ sk))) (fun g=>g.1 ≤ ks.length ∧ (p1 + 3 ≤ g.2.1 ∧ g.2.1 ≤ p1 + 3 + g.1 * 20) ∧ g.2.2.1.length ≤ 2 ∧ RChain ks g.1 g.2.2.1 ∧ RowIs 105 5 (g.2.2.1.map rulC) g.2.2.2.1 g.2.2.2.2) (fun g=>ks.length - g.1) (0,p1 + 1 + 1 + 1,[],.slice none 0 0,[]) (chk_of cl2) (Sc.drop (ρ:=[(b8,.cells 102 (lifC ⟨nLife,stL.take (2 + n2),mv⟩))]) cl15) ⟨Nat.zero_le _,⟨by simp only;omega,by simp only;omega⟩,by simp,RChain.nil,RowIs.nil _ _⟩ ?_
     rintro ⟨i,p2,rs,rv,s⟩ ⟨hi5,⟨hp2,hp2'⟩,hrl,hrc,hrr⟩
     simp only at hi5 hp2 hp2' hrl hrc hrr ⊢
     obtain ⟨a12,c12,e12⟩:=hrr.slice
     rw [List.length_map] at e12
     subst e12
     by_cases hin5 : i < ks.length
     ·by_cases hr2 : rs.length < 2
      ·obtain ⟨k,hk⟩ : ∃ k,ks[i]? = some k:=⟨_,List.getElem?_eq_getElem hin5⟩
       have hk1:=(hck k (List.mem_of_getElem? hk)).ck
       obtain ⟨b9,cap9,cs9,e9,e9s,hcs9⟩:=RowIs.get hkr (show (ks.map kndC)[i]? = some (kndC k) by rw [List.getElem?_map,hk];rfl)
       rw [List.length_map] at e9
       cases e9
       subst e9s
       have HR:=r09_rule xs hx bm p2 ⟨by omega,by omega⟩ k (by have:=hk1.nf;omega) hk1.nm (fun f hf=>by have h1:=(hk1.fs f hf).lo;have h2:=(hk1.fs f hf).hi;omega)
       repeat' (first | refine sk6 ?_ | (intro b;conv=>whnf))
       refine Ld.rowm (tb:=97) (cs:=cs9) (x:=kndC k) (by simp) rfl (by decide) (fun j hj=>by rw [show 0 + ((i : Nat) : Int).toNat * 4 + j = i * 4 + j by simp];exact hcs9 j hj) ?_
       repeat' (first | refine sk6 ?_ | (intro b;conv=>whnf))
       refine CE.own (t:=scB b4 (atE xs 0 4) (.slice (some ⟨b9,0,none⟩) ks.length c) (.slice a11 1 c11) (.slice a12 rs.length c12) :: (b2,.cells 43 zS) :: (s ++ (s11 ++ [(b9,.cells 97 cs9)]))) HR cl17 (fun s'=>s' ++ (scB b4 (atE xs 0 4) (.slice (some ⟨b9,0,none⟩) ks.length c) (.slice a11 1 c11) (.slice a12 rs.length c12) :: (b2,.cells 43 zS) :: (s ++ (s11 ++ [(b9,.cells 97 cs9)])))) (fun s'=>List.Perm.refl _) ?_
       rintro _ _ ⟨p3,r,ok,⟨hp3,hp3'⟩,rfl,rfl,hok⟩
       cases ok with
       | false=>
        repeat' (first | refine sk6 ?_ | (intro b;conv=>whnf))
        exact ⟨(i + 1,p3,rs,.slice a12 rs.length c12,s),(chk_of cl7),Sc.sl (List.sublist_cons_self _ _),⟨by simp only;omega,⟨by simp only;omega,by simp only;omega⟩,hrl,hrc.skip,hrr⟩,by simp only;omega⟩
       | true=>
        repeat' (first | refine sk6 ?_ | (intro b;conv=>whnf))
        generalize b = b11
        refine Ap.go rfl rfl rfl rfl hrr (τ:=(b11,.cells 105 [sD r.name,sD r.kind,sD r.a,sD r.b,iD r.n]) :: mkB bm xs p3 :: scB b4 (atE xs 0 4) (.slice (some ⟨b9,0,none⟩) ks.length c) (.slice a11 1 c11) (.slice a12 rs.length c12) :: (b2,.cells 43 zS) :: (s11 ++ [(b9,.cells 97 cs9)])) cl15 rfl (zs:=(rs ++ [r]).map rulC) (by rw [List.map_append];rfl) (by simp;omega) (by simp;omega) (fun s'=>(b11,.cells 105 [sD r.name,sD r.kind,sD r.a,sD r.b,iD r.n]) :: mkB bm xs p3 :: scB b4 (atE xs 0 4) (.slice (some ⟨b9,0,none⟩) ks.length c) (.slice a11 1 c11) (.slice a12 rs.length c12) :: (b2,.cells 43 zS) :: (s' ++ (s11 ++ [(b9,.cells 97 cs9)]))) (fun s'=>cl16) (fun a13 c13 s13 hr13=>?_)
        repeat' (first | refine sk6 ?_ | (intro b;conv=>whnf))
        exact ⟨(i + 1,p3,rs ++ [r],_,s13),(chk_of cl7),Sc.sl (List.sublist_cons_self _ _),⟨by simp only;omega,⟨by simp only;omega,by simp only;omega⟩,by simp only [List.length_append,List.length_singleton];omega,hrc.take hk (hok rfl),hr13⟩,by simp only;omega⟩
      ·repeat' (first | refine sk6 ?_ | (intro b;conv=>whnf))
       refine Rs.c tget_ok (m:=2) rfl rfl rfl rfl rfl rfl ?_
       repeat' (first | refine sk6 ?_ | (intro b;conv=>whnf))
       exact Rt.by (σ':=[]) (d':=schD ⟨atE xs 0 4,ks,[⟨nLife,stL.take (2 + n2),mv⟩],rs⟩) (Vs.vd ⟨mkB bm xs p2 :: scB b4 (atE xs 0 4) (.slice a ks.length c) (.slice a11 1 c11) (.slice a12 rs.length c12) :: scB b2 (atE xs 0 4) (.slice a ks.length c) (.slice a11 1 c11) (.slice a12 rs.length c12) :: (s ++ (s11 ++ sk)),by rw [List.append_nil]⟩ (Vd.agg (.cons (Vd.same (fun z hz=>by cases hz) _) (.cons (Vd.row (ρ:=mkB bm xs p2 :: scB b4 (atE xs 0 4) (.slice a ks.length c) (.slice a11 1 c11) (.slice a12 rs.length c12) :: scB b2 (atE xs 0 4) (.slice a ks.length c) (.slice a11 1 c11) (.slice a12 rs.length c12) :: (s ++ s11)) hkr cl15 (fun z hz=>by cases hz)) (.cons (Vd.row (ρ:=mkB bm xs p2 :: scB b4 (atE xs 0 4) (.slice a ks.length c) (.slice a11 1 c11) (.slice a12 rs.length c12) :: scB b2 (atE xs 0 4) (.slice a ks.length c) (.slice a11 1 c11) (.slice a12 rs.length c12) :: (s ++ sk)) hr11 cl15 (fun z hz=>by cases hz)) (.cons (Vd.row (ρ:=mkB bm xs p2 :: scB b4 (atE xs 0 4) (.slice a ks.length c) (.slice a11 1 c11) (.slice a12 rs.length c12) :: scB b2 (atE xs 0 4) (.slice a ks.length c) (.slice a11 1 c11) (.slice a12 rs.length c12) :: (s11 ++ sk)) hrr cl15 (fun z hz=>by cases hz)) .nil)))))) ⟨_,rfl,rfl,⟨⟨h0.1,h0'⟩,⟨by show 1 ≤ ks.length;omega,by show ks.length ≤ 3;omega⟩,hch,⟨2 + n2,mv,by omega,by omega,rfl,hml,hmq⟩,hrl,⟨_,hi5,hrc⟩⟩⟩
     ·obtain rfl : i = ks.length:=by omega
      repeat' (first | refine sk6 ?_ | (intro b;conv=>whnf))
      refine Rs.c tget_ok (m:=2) rfl rfl rfl rfl rfl rfl ?_
      repeat' (first | refine sk6 ?_ | (intro b;conv=>whnf))
      exact Rt.by (σ':=[]) (d':=schD ⟨atE xs 0 4,ks,[⟨nLife,stL.take (2 + n2),mv⟩],rs⟩) (Vs.vd ⟨mkB bm xs p2 :: scB b4 (atE xs 0 4) (.slice a ks.length c) (.slice a11 1 c11) (.slice a12 rs.length c12) :: scB b2 (atE xs 0 4) (.slice a ks.length c) (.slice a11 1 c11) (.slice a12 rs.length c12) :: (s ++ (s11 ++ sk)),by rw [List.append_nil]⟩ (Vd.agg (.cons (Vd.same (fun z hz=>by cases hz) _) (.cons (Vd.row (ρ:=mkB bm xs p2 :: scB b4 (atE xs 0 4) (.slice a ks.length c) (.slice a11 1 c11) (.slice a12 rs.length c12) :: scB b2 (atE xs 0 4) (.slice a ks.length c) (.slice a11 1 c11) (.slice a12 rs.length c12) :: (s ++ s11)) hkr cl15 (fun z hz=>by cases hz)) (.cons (Vd.row (ρ:=mkB bm xs p2 :: scB b4 (atE xs 0 4) (.slice a ks.length c) (.slice a11 1 c11) (.slice a12 rs.length c12) :: scB b2 (atE xs 0 4) (.slice a ks.length c) (.slice a11 1 c11) (.slice a12 rs.length c12) :: (s ++ sk)) hr11 cl15 (fun z hz=>by cases hz)) (.cons (Vd.row (ρ:=mkB bm xs p2 :: scB b4 (atE xs 0 4) (.slice a ks.length c) (.slice a11 1 c11) (.slice a12 rs.length c12) :: scB b2 (atE xs 0 4) (.slice a ks.length c) (.slice a11 1 c11) (.slice a12 rs.length c12) :: (s11 ++ sk)) hrr cl15 (fun z hz=>by cases hz)) .nil)))))) ⟨_,rfl,rfl,⟨⟨h0.1,h0'⟩,⟨by show 1 ≤ ks.length;omega,by show ks.length ≤ 3;omega⟩,hch,⟨2 + n2,mv,by omega,by omega,rfl,hml,hmq⟩,hrl,⟨_,hi5,hrc⟩⟩⟩
end
section
open Go
theorem RuleF.cr {k : Knd} {r : Rul} (h : RuleF k r) (hk : CK k) : CR r:=by
 have hx : (k.name.extract 0 1).size ≤ 1:=by rw [ByteArray.size_extract];omega
 have ap : ∀ a : ByteArray,a.size ≤ 5 → (a ++ k.name.extract 0 1).size ≤ 12:=fun a ha=>by rw [ByteArray.size_append];omega
 cases h with
 | low n h hn=>exact ⟨ap _ (by decide),hk.nm.2,by show nLow.size ≤ 12;decide,by show nHigh.size ≤ 12;decide,by show -2000 ≤ n - 2 ∧ n - 2 ≤ 2000;omega⟩
 | most f n h hf hn=>
  have:=(hk.fs f (List.mem_of_getElem? hf)).lo
  exact ⟨ap _ (by decide),hk.nm.2,by show nSize.size ≤ 12;decide,by show nE.size ≤ 12;decide,by show -2000 ≤ f.lo + n ∧ f.lo + n ≤ 2000;omega⟩
 | least f n h hf hn=>
  have:=(hk.fs f (List.mem_of_getElem? hf)).hi
  exact ⟨ap _ (by decide),hk.nm.2,by show nE.size ≤ 12;decide,by show nSize.size ≤ 12;decide,by show -2000 ≤ n - f.hi ∧ n - f.hi ≤ 2000;omega⟩
theorem RChain.cr {ks : List Knd} {i : Nat} {rs : List Rul} (h : RChain ks i rs) (hk : ∀ k ∈ ks,CK k) : ∀ r ∈ rs,CR r:=by
 induction h with
 | nil=>simp
 | skip h ih=>exact ih
 | take h hk' hr ih=>
  intro r hm
  rcases List.mem_append.1 hm with hm | hm
  ·exact ih r hm
  ·rw [List.mem_singleton] at hm;subst hm;exact hr.cr (hk _ (List.mem_of_getElem? hk'))
theorem GenX.cls {x : Sch} (h : GenX x) : Cls x:=by
 have hk : ∀ k ∈ x.kinds,CK k:=fun k hk=>(h.ks.ck h.nk.2 k hk).ck
 obtain ⟨m,mv,hm,hm',hl,hml,hmq⟩:=h.ls
 obtain ⟨i,_,hr⟩:=h.rs
 refine ⟨by have:=h.ver;omega,h.nk.2,hk,by rw [hl];simp,fun l hl'=>?_,by have:=h.nr;omega,hr.cr hk⟩
 rw [hl,List.mem_singleton] at hl'
 subst hl'
 refine ⟨by show nLife.size ≤ 12;decide,by show (stL.take m).length ≤ 4;rw [List.length_take];simp;omega,fun s hs=>?_,hml,fun q hq=>by have:=hmq q hq;omega⟩
 have:=List.mem_of_mem_take hs
 simp only [stL,List.mem_cons,List.not_mem_nil,or_false] at this
 rcases this with rfl | rfl | rfl | rfl <;> decide
end
section
open Go Go.RowKit Go.Shelf
abbrev RK (ks : List Knd) (v : Value) (s : Store) : Prop:=RowIs 97 4 (ks.map kndC) v s
abbrev RRl (l : List Rul) (v : Value) (s : Store) : Prop:=RowIs 105 5 (l.map rulC) v s
theorem bent_rt {R : D → Store → Prop} {x : Sch} {σ ρ sk sr : Store} {ks : List Knd} {rs : List Rul} {v1 v2 : Value} (hk : RK ks v1 sk) (hr : RRl rs v2 sr) (hp : σ.Perm (sk ++ (sr ++ ρ))) (k : R (schD ⟨x.version,ks,x.lives,rs⟩) []) : Rt R (.agg [iD x.version,.v v1,slL x.lives,.v v2]) σ:=
 Rt.by (σ':=[]) (Vs.vd ⟨σ,by rw [List.append_nil]⟩ (Vd.agg (.cons (Vd.same (fun z hz=>by cases hz) _) (.cons (Vd.row hk hp (fun z hz=>by cases hz)) (.cons (Vd.same (fun z hz=>by cases hz) _) (.cons (Vd.row (ρ:=sk ++ ρ) hr (hp.trans (by rw [← List.append_assoc,← List.append_assoc];exact List.perm_append_comm.append_right _)) (fun z hz=>by cases hz)) .nil)))))) k
theorem sb31 {A B : Prop} (k : B) (h : Hd7 B → A:=by intro hk7q;(first | fail | fail | ((with_reducible refine Dr.l ?h ?_);(case h=>decide +kernel)) | (with_reducible refine Dr.r ?_) | ((with_reducible refine Dm.l ?h ?_);(case h=>decide +kernel)) | ((with_reducible refine Cb.go ?h ?_);(case h=>decide +kernel)));exact hk7q.run) : A:=h ⟨k⟩
theorem sk32 {A B : Prop} (k : B) (h : Hd7 B → A:=by intro hk7q;(first | refine sb0 ?_ | refine sb31 ?_ | ((with_reducible refine' Cp.by ?hc ?_);(case hc=>first | exact r01_around at_ _ hat | exact r01_around by_ _ hby | exact r01_around (at_.tdiv 5) _ h5i | exact r01_around (by_.tdiv 7) _ h7i)) | ((with_reducible refine' CE.pure ?hc ?_);(case hc=>first | exact r01_around at_ _ hat | exact r01_around by_ _ hby | exact r01_around (at_.tdiv 5) _ h5i | exact r01_around (by_.tdiv 7) _ h7i)));exact hk7q.run) : A:=h ⟨k⟩
theorem sb33 {A B : Prop} (k : B) (h : Hd7 B → A:=by intro hk7q;(first | fail | (with_reducible refine Bx.l ?_) | ((with_reducible refine Dr.l ?h ?_);(case h=>decide +kernel)) | (with_reducible refine Dr.r ?_) | ((with_reducible refine Dm.l ?h ?_);(case h=>decide +kernel)) | ((with_reducible refine Cb.go ?h ?_);(case h=>decide +kernel)));exact hk7q.run) : A:=h ⟨k⟩
theorem sk34 {A B : Prop} (k : B) (h : Hd7 B → A:=by intro hk7q;(first | refine sb0 ?_ | refine sb33 ?_ | ((with_reducible refine' Cp.by ?hc ?_);(case hc=>first | exact r01_around at_ _ hat | exact r01_around by_ _ hby | exact r01_around (at_.tdiv 5) _ h5i | exact r01_around (by_.tdiv 7) _ h7i)) | ((with_reducible refine' CE.pure ?hc ?_);(case hc=>first | exact r01_around at_ _ hat | exact r01_around by_ _ hby | exact r01_around (at_.tdiv 5) _ h5i | exact r01_around (by_.tdiv 7) _ h7i)));exact hk7q.run) : A:=h ⟨k⟩
theorem sk35 {A B : Prop} (k : B) (h : Hd7 B → A:=by intro hk7q;(first | refine sb0 ?_ | refine sb8 ?_ | ((with_reducible refine' Cp.by ?hc ?_);(case hc=>first | exact r01_around at_ _ hat | exact r01_around by_ _ hby | exact r01_around (at_.tdiv 5) _ h5i | exact r01_around (by_.tdiv 7) _ h7i)) | ((with_reducible refine' CE.pure ?hc ?_);(case hc=>first | exact r01_around at_ _ hat | exact r01_around by_ _ hby | exact r01_around (at_.tdiv 5) _ h5i | exact r01_around (by_.tdiv 7) _ h7i)));exact hk7q.run) : A:=h ⟨k⟩
theorem sk36 {A B : Prop} (k : B) (h : Hd7 B → A:=by intro hk7q;(first | refine sb0 ?_ | refine sb5 ?_ | ((with_reducible refine' Cp.by ?hc ?_);(case hc=>first | exact r01_around at_ _ hat | exact r01_around by_ _ hby | exact r01_around (at_.tdiv 5) _ h5i | exact r01_around (by_.tdiv 7) _ h7i)) | ((with_reducible refine' CE.pure ?hc ?_);(case hc=>first | exact r01_around at_ _ hat | exact r01_around by_ _ hby | exact r01_around (at_.tdiv 5) _ h5i | exact r01_around (by_.tdiv 7) _ h7i)));exact hk7q.run) : A:=h ⟨k⟩
theorem sb37 {A B : Prop} (k : B) (h : Hd7 B → A:=by intro hk7q;(first | (with_reducible refine Bc.l ?_) | fail | ((with_reducible refine Dr.l ?h ?_);(case h=>decide +kernel)) | ((with_reducible refine Cb.go ?h ?_);(case h=>decide +kernel)));exact hk7q.run) : A:=h ⟨k⟩
theorem sk38 {A B : Prop} (k : B) (h : Hd7 B → A:=by intro hk7q;(first | refine sb0 ?_ | refine sb37 ?_ | ((with_reducible refine' Cp.by ?hc ?_);(case hc=>first | exact r01_around at_ _ hat | exact r01_around by_ _ hby | exact r01_around (at_.tdiv 5) _ h5i | exact r01_around (by_.tdiv 7) _ h7i)) | ((with_reducible refine' CE.pure ?hc ?_);(case hc=>first | exact r01_around at_ _ hat | exact r01_around by_ _ hby | exact r01_around (at_.tdiv 5) _ h5i | exact r01_around (by_.tdiv 7) _ h7i)));exact hk7q.run) : A:=h ⟨k⟩
theorem sb39 {A B : Prop} (k : B) (h : Hd7 B → A:=by intro hk7q;(first | (with_reducible refine Bc.l ?_) | (with_reducible refine Bx.l ?_) | (with_reducible refine Dr.r ?_) | ((with_reducible refine Dm.l ?h ?_);(case h=>decide +kernel)) | ((with_reducible refine Cb.go ?h ?_);(case h=>decide +kernel)));exact hk7q.run) : A:=h ⟨k⟩
theorem sk40 {A B : Prop} (k : B) (h : Hd7 B → A:=by intro hk7q;(first | refine sb0 ?_ | refine sb39 ?_ | ((with_reducible refine' Cp.by ?hc ?_);(case hc=>first | exact r01_around at_ _ hat | exact r01_around by_ _ hby | exact r01_around (at_.tdiv 5) _ h5i | exact r01_around (by_.tdiv 7) _ h7i)) | ((with_reducible refine' CE.pure ?hc ?_);(case hc=>first | exact r01_around at_ _ hat | exact r01_around by_ _ hby | exact r01_around (at_.tdiv 5) _ h5i | exact r01_around (by_.tdiv 7) _ h7i)));exact hk7q.run) : A:=h ⟨k⟩
end
section
open Go
theorem sk41 {A B : Prop} (k : B) (h : Hd7 B → A:=by intro hk7q;(first | refine sb0 ?_ | refine sb1 ?_ | ((with_reducible refine' Cp.by ?hc ?_);(case hc=>exact hp _ (List.mem_of_getElem? hy))) | ((with_reducible refine' CE.pure ?hc ?_);(case hc=>exact hp _ (List.mem_of_getElem? hy))));exact hk7q.run) : A:=h ⟨k⟩
theorem ix_knd {f : FuncId} {cs : List D} (l : List Knd) (p : Knd → Bool) (hl : l.length ≤ 1000000) (hp : ∀ y ∈ l,APure Tryz.prog f [kndD y,.ro cs] (bD (p y))) : APure Tryz.prog 125 [slK l,.clo f [.ro cs]] (iD (idx p l)):=by
 refine APure.of_call (enterX mixed tget_ok Tryz.func125 (by kernel_rfl) rfl Tryz.ntmps125 rfl ?_);intro BB
 repeat' (first | refine sk41 ?_ | (intro b;conv=>whnf))
 refine lp_loop mixed tget_ok (γ:=Nat) (fun k=>[(8,iD k)]) (fun _=>[]) (fun k=>k ≤ l.length ∧ ∀ i y,i < k → l[i]? = some y → p y = false) (fun k=>l.length - k) 0 rfl rfl ⟨by omega,by omega⟩ ?_
 rintro k ⟨hk,hno⟩
 by_cases hlt : k < l.length
 ·obtain ⟨y,hy⟩ : ∃ y,l[(k : Int).toNat]? = some y:=⟨_,List.getElem?_eq_getElem hlt⟩
  repeat' (first | refine sk41 ?_ | (intro b;conv=>whnf) | (with_reducible refine Br.d (fun hc=>?_) (fun hc=>?_)) | (with_reducible refine Br.b (fun hc=>?_) (fun hc=>?_)))
  ·refine Rt.pure (congrArg iD ?_)
   exact (idx_found hy ‹_› hno).symm
  ·exact ⟨k + 1,rfl,rfl,⟨by omega,fun i z hi hz=>by
    by_cases e : i = k
    ·subst e;rw [show ((i : Int)).toNat = i from rfl,hz] at hy;cases hy;assumption
    ·exact hno i z (by omega) hz⟩,by omega⟩
 ·repeat' (first | refine sk41 ?_ | (intro b;conv=>whnf))
  refine Rt.pure (congrArg iD ?_)
  exact (idx_none fun i y hy=>hno i y (by have:=(List.getElem?_eq_some_iff.1 hy).1;omega) hy).symm
theorem sk42 {A B : Prop} (k : B) (h : Hd7 B → A:=by intro hk7q;(first | refine sb0 ?_ | refine sb1 ?_ | ((with_reducible refine' Cp.by ?hc ?_);(case hc=>exact ix_knd l p hl hp)) | ((with_reducible refine' CE.pure ?hc ?_);(case hc=>exact ix_knd l p hl hp)));exact hk7q.run) : A:=h ⟨k⟩
theorem ix_fld {f : FuncId} {cs : List D} (l : List Fld) (p : Fld → Bool) (hl : l.length ≤ 1000000) (hp : ∀ y ∈ l,APure Tryz.prog f [fldD y,.ro cs] (bD (p y))) : APure Tryz.prog 104 [slF l,.clo f [.ro cs]] (iD (idx p l)):=by
 refine APure.of_call (enterX mixed tget_ok Tryz.func104 (by kernel_rfl) rfl Tryz.ntmps104 rfl ?_);intro BB
 repeat' (first | refine sk41 ?_ | (intro b;conv=>whnf))
 refine lp_loop mixed tget_ok (γ:=Nat) (fun k=>[(8,iD k)]) (fun _=>[]) (fun k=>k ≤ l.length ∧ ∀ i y,i < k → l[i]? = some y → p y = false) (fun k=>l.length - k) 0 rfl rfl ⟨by omega,by omega⟩ ?_
 rintro k ⟨hk,hno⟩
 by_cases hlt : k < l.length
 ·obtain ⟨y,hy⟩ : ∃ y,l[(k : Int).toNat]? = some y:=⟨_,List.getElem?_eq_getElem hlt⟩
  repeat' (first | refine sk41 ?_ | (intro b;conv=>whnf) | (with_reducible refine Br.d (fun hc=>?_) (fun hc=>?_)) | (with_reducible refine Br.b (fun hc=>?_) (fun hc=>?_)))
  ·refine Rt.pure (congrArg iD ?_)
   exact (idx_found hy ‹_› hno).symm
  ·exact ⟨k + 1,rfl,rfl,⟨by omega,fun i z hi hz=>by
    by_cases e : i = k
    ·subst e;rw [show ((i : Int)).toNat = i from rfl,hz] at hy;cases hy;assumption
    ·exact hno i z (by omega) hz⟩,by omega⟩
 ·repeat' (first | refine sk41 ?_ | (intro b;conv=>whnf))
  refine Rt.pure (congrArg iD ?_)
  exact (idx_none fun i y hy=>hno i y (by have:=(List.getElem?_eq_some_iff.1 hy).1;omega) hy).symm
theorem ix_lif {f : FuncId} {cs : List D} (l : List Lif) (p : Lif → Bool) (hl : l.length ≤ 1000000) (hp : ∀ y ∈ l,APure Tryz.prog f [lifD y,.ro cs] (bD (p y))) : APure Tryz.prog 115 [slL l,.clo f [.ro cs]] (iD (idx p l)):=by
 refine APure.of_call (enterX mixed tget_ok Tryz.func115 (by kernel_rfl) rfl Tryz.ntmps115 rfl ?_);intro BB
 repeat' (first | refine sk41 ?_ | (intro b;conv=>whnf))
 refine lp_loop mixed tget_ok (γ:=Nat) (fun k=>[(8,iD k)]) (fun _=>[]) (fun k=>k ≤ l.length ∧ ∀ i y,i < k → l[i]? = some y → p y = false) (fun k=>l.length - k) 0 rfl rfl ⟨by omega,by omega⟩ ?_
 rintro k ⟨hk,hno⟩
 by_cases hlt : k < l.length
 ·obtain ⟨y,hy⟩ : ∃ y,l[(k : Int).toNat]? = some y:=⟨_,List.getElem?_eq_getElem hlt⟩
  repeat' (first | refine sk41 ?_ | (intro b;conv=>whnf) | (with_reducible refine Br.d (fun hc=>?_) (fun hc=>?_)) | (with_reducible refine Br.b (fun hc=>?_) (fun hc=>?_)))
  ·refine Rt.pure (congrArg iD ?_)
   exact (idx_found hy ‹_› hno).symm
  ·exact ⟨k + 1,rfl,rfl,⟨by omega,fun i z hi hz=>by
    by_cases e : i = k
    ·subst e;rw [show ((i : Int)).toNat = i from rfl,hz] at hy;cases hy;assumption
    ·exact hno i z (by omega) hz⟩,by omega⟩
 ·repeat' (first | refine sk41 ?_ | (intro b;conv=>whnf))
  refine Rt.pure (congrArg iD ?_)
  exact (idx_none fun i y hy=>hno i y (by have:=(List.getElem?_eq_some_iff.1 hy).1;omega) hy).symm
theorem sk43 {A B : Prop} (k : B) (h : Hd7 B → A:=by intro hk7q;(first | refine sb0 ?_ | refine sb1 ?_ | ((with_reducible refine' Cp.by ?hc ?_);(case hc=>exact ix_lif l p hl hp)) | ((with_reducible refine' CE.pure ?hc ?_);(case hc=>exact ix_lif l p hl hp)));exact hk7q.run) : A:=h ⟨k⟩
theorem any_lif {f : FuncId} {cs : List D} (l : List Lif) (p : Lif → Bool) (hl : l.length ≤ 1000000) (hp : ∀ y ∈ l,APure Tryz.prog f [lifD y,.ro cs] (bD (p y))) : APure Tryz.prog 83 [slL l,.clo f [.ro cs]] (bD (l.any p)):=by
 refine APure.of_call (enterX mixed tget_ok Tryz.func83 (by kernel_rfl) rfl Tryz.ntmps83 rfl ?_);intro BB
 repeat' (first | refine sk43 ?_ | (intro b;conv=>whnf))
 refine Rt.pure (congrArg bD ?_)
 exact idx_any p l
theorem ix_rul {f : FuncId} {cs : List D} (l : List Rul) (p : Rul → Bool) (hl : l.length ≤ 1000000) (hp : ∀ y ∈ l,APure Tryz.prog f [rulD y,.ro cs] (bD (p y))) : APure Tryz.prog 143 [slR l,.clo f [.ro cs]] (iD (idx p l)):=by
 refine APure.of_call (enterX mixed tget_ok Tryz.func143 (by kernel_rfl) rfl Tryz.ntmps143 rfl ?_);intro BB
 repeat' (first | refine sk41 ?_ | (intro b;conv=>whnf))
 refine lp_loop mixed tget_ok (γ:=Nat) (fun k=>[(8,iD k)]) (fun _=>[]) (fun k=>k ≤ l.length ∧ ∀ i y,i < k → l[i]? = some y → p y = false) (fun k=>l.length - k) 0 rfl rfl ⟨by omega,by omega⟩ ?_
 rintro k ⟨hk,hno⟩
 by_cases hlt : k < l.length
 ·obtain ⟨y,hy⟩ : ∃ y,l[(k : Int).toNat]? = some y:=⟨_,List.getElem?_eq_getElem hlt⟩
  repeat' (first | refine sk41 ?_ | (intro b;conv=>whnf) | (with_reducible refine Br.d (fun hc=>?_) (fun hc=>?_)) | (with_reducible refine Br.b (fun hc=>?_) (fun hc=>?_)))
  ·refine Rt.pure (congrArg iD ?_)
   exact (idx_found hy ‹_› hno).symm
  ·exact ⟨k + 1,rfl,rfl,⟨by omega,fun i z hi hz=>by
    by_cases e : i = k
    ·subst e;rw [show ((i : Int)).toNat = i from rfl,hz] at hy;cases hy;assumption
    ·exact hno i z (by omega) hz⟩,by omega⟩
 ·repeat' (first | refine sk41 ?_ | (intro b;conv=>whnf))
  refine Rt.pure (congrArg iD ?_)
  exact (idx_none fun i y hy=>hno i y (by have:=(List.getElem?_eq_some_iff.1 hy).1;omega) hy).symm
theorem sk44 {A B : Prop} (k : B) (h : Hd7 B → A:=by intro hk7q;(first | refine sb0 ?_ | refine sb1 ?_ | ((with_reducible refine' Cp.by ?hc ?_);(case hc=>exact ix_rul l p hl hp)) | ((with_reducible refine' CE.pure ?hc ?_);(case hc=>exact ix_rul l p hl hp)));exact hk7q.run) : A:=h ⟨k⟩
theorem any_rul {f : FuncId} {cs : List D} (l : List Rul) (p : Rul → Bool) (hl : l.length ≤ 1000000) (hp : ∀ y ∈ l,APure Tryz.prog f [rulD y,.ro cs] (bD (p y))) : APure Tryz.prog 116 [slR l,.clo f [.ro cs]] (bD (l.any p)):=by
 refine APure.of_call (enterX mixed tget_ok Tryz.func116 (by kernel_rfl) rfl Tryz.ntmps116 rfl ?_);intro BB
 repeat' (first | refine sk44 ?_ | (intro b;conv=>whnf))
 refine Rt.pure (congrArg bD ?_)
 exact idx_any p l
end
section
open Go
theorem sk45 {A B : Prop} (k : B) (h : Hd7 B → A:=by intro hk7q;(first | refine sb0 ?_ | refine sb1 ?_ | ((with_reducible refine' Cp.by ?hc ?_);(case hc=>first | exact r10_kind _ _ (by assumption) | exact r10_field _ _ (by assumption))) | ((with_reducible refine' CE.pure ?hc ?_);(case hc=>first | exact r10_kind _ _ (by assumption) | exact r10_field _ _ (by assumption))));exact hk7q.run) : A:=h ⟨k⟩
theorem r10_keyed (fs : List Fld) : APure Tryz.prog 96 [slF fs] (bD (keyedB fs)):=by
 refine APure.of_call (enterX mixed tget_ok Tryz.func96 (by kernel_rfl) rfl Tryz.ntmps96 rfl ?_);intro BB
 cases fs with
 | nil=>
  repeat' (first | refine sk45 ?_ | (intro b;conv=>whnf) | (with_reducible refine Br.d (fun hc=>?_) (fun hc=>?_)) | (with_reducible refine Br.b (fun hc=>?_) (fun hc=>?_)))
  refine Rt.pure (congrArg bD ?_);rfl
 | cons f r=>
  repeat' (first | refine sk45 ?_ | (intro b;conv=>whnf) | (with_reducible refine Br.d (fun hc=>?_) (fun hc=>?_)) | (with_reducible refine Br.b (fun hc=>?_) (fun hc=>?_)))
  all_goals (refine Rt.pure (congrArg bD ?_);simp_all [keyedB])
def prbC (p : Prb) : List D:=[iD p.1,iD p.2.1,iD p.2.2.1,iD p.2.2.2]
theorem ruleTwice_yes {x : Sch} {i m : Nat} {r s : Rul} (hm : m < i) (hs : x.rules[m]? = some s) (h : seq s.name r.name = true) : ruleTwice x i r = true:=by
 unfold ruleTwice
 rw [List.any_eq_true]
 exact ⟨s,List.mem_of_getElem? (i:=m) (by rw [List.getElem?_take,if_pos hm];exact hs),h⟩
theorem ruleTwice_no {x : Sch} {i : Nat} {r : Rul} (h : ∀ (m : Nat) y,m < i → x.rules[m]? = some y → seq y.name r.name = false) : ruleTwice x i r = false:=by
 unfold ruleTwice
 rw [List.any_eq_false]
 intro s hs
 obtain ⟨m,hm⟩:=List.getElem?_of_mem hs
 rw [List.getElem?_take] at hm
 split at hm
 ·rename_i hlt;simp [h m s hlt hm]
 ·cases hm
theorem ruleE_twice {x : Sch} {i : Nat} {r : Rul} (h : ruleTwice x i r = true) : ruleE x i r = 7:=by
 unfold ruleE
 split <;> rw [h] <;> rfl
theorem ruleE_nokind {x : Sch} {i : Nat} {r : Rul} (h : ruleTwice x i r = false) (hk : kindAt x (kindIx x r.kind) = none) : ruleE x i r = 12:=by
 simp only [ruleE,hk,h];rfl
theorem ruleE_kind {x : Sch} {i : Nat} {r : Rul} {k : Knd} (h : ruleTwice x i r = false) (hk : kindAt x (kindIx x r.kind) = some k) :
  ruleE x i r = if nameNo x k (kindIx x r.kind) r.a = true ∨ nameNo x k (kindIx x r.kind) r.b = true then 12 else if nameBad x k (kindIx x r.kind) r.a = true ∨ nameBad x k (kindIx x r.kind) r.b = true then 13 else if seq r.a r.b = true then 1 else 0:=by
 simp only [ruleE,hk,h]
 cases nameNo x k (kindIx x r.kind) r.a <;> cases nameNo x k (kindIx x r.kind) r.b <;> cases nameBad x k (kindIx x r.kind) r.a <;> cases nameBad x k (kindIx x r.kind) r.b <;> cases seq r.a r.b <;> rfl
theorem atR_some {x : Sch} {i j : Int} {k : Knd} {g : Fld} (h0 : 0 ≤ i) (hk : x.kinds[i.toNat]? = some k) (hj : 0 ≤ j) (hg : k.fields[j.toNat]? = some g) : atR x i j = (g,true):=by
 unfold atR;rw [fieldAt_some1 h0 hj hk,hg]
theorem atR_none {x : Sch} {i j : Int} (hj : j < 0) : atR x i j = (zeroF,false):=by
 unfold atR;rw [fieldAt_none1 (by omega)]
theorem nm_E (x : Sch) (k : Knd) (o : Int) {n : ByteArray} (h : (n.toList == ({ data:=#[] } : ByteArray).toList) = true) : nameNo x k o n = false ∧ nameBad x k o n = false:=by rw [eqE] at h;simp [nameNo,nameBad,h]
theorem nm_no (x : Sch) (k : Knd) (o : Int) {n : ByteArray} (h : (n.toList == ({ data:=#[] } : ByteArray).toList) = false) (hi : fieldIx k n < 0) : nameNo x k o n = true:=by rw [eqE] at h;simp [nameNo,h,atR_none hi]
theorem nm_ok {x : Sch} {k : Knd} {o : Int} {n : ByteArray} {g : Fld} (h : (n.toList == ({ data:=#[] } : ByteArray).toList) = false) (h0 : 0 ≤ o) (hk : x.kinds[o.toNat]? = some k) (hj : 0 ≤ fieldIx k n) (hg : k.fields[(fieldIx k n).toNat]? = some g) :
  nameNo x k o n = false ∧ nameBad x k o n = (!decide (g.kind = 2) && !decide (g.kind = 4)):=by
 rw [eqE] at h
 simp only [nameNo,nameBad,h,atR_some h0 hk hj hg]
 refine ⟨rfl,?_⟩
 by_cases h2 : g.kind = 2 <;> by_cases h4 : g.kind = 4 <;> simp [h2,h4]
def twoI (x : Sch) (k : Knd) (o : Int) (r : Rul) (g : Nat × Bool) : Prop:=(g.1 = 0 ∧ g.2 = false) ∨ (g.1 = 1 ∧ nameNo x k o r.a = false ∧ g.2 = nameBad x k o r.a) ∨ (g.1 = 2 ∧ nameNo x k o r.a = false ∧ nameNo x k o r.b = false ∧ g.2 = (nameBad x k o r.a || nameBad x k o r.b))
theorem r10_rules (x : Sch) (i : Nat) (r : Rul) (hl : x.kinds.length ≤ 1000000) (hf : ∀ k ∈ x.kinds,k.fields.length ≤ 1000000) (hrl : x.rules.length ≤ 1000000) (hr : x.rules[i]? = some r) : APure Tryz.prog 98 [schD x,iD i] (iD (ruleE x i r)):=by
 refine APure.of_call (enterX mixed tget_ok Tryz.func98 (by kernel_rfl) rfl Tryz.ntmps98 rfl ?_);intro BB
 repeat' (first | refine sk45 ?_ | (intro b;conv=>whnf) | refine IxM.mk fun y hy=>?_ | (with_reducible refine Br.d (fun hc=>?_) (fun hc=>?_)) | (with_reducible refine Br.b (fun hc=>?_) (fun hc=>?_)))
 refine lp_loop mixed tget_ok (γ:=Nat) (fun q=>[(6,iD q)]) (fun _=>[(b,.cells 105 (rulC r))]) (fun q=>q ≤ i ∧ ∀ (m : Nat) y,m < q → x.rules[m]? = some y → seq y.name r.name = false) (fun q=>i - q) 0 rfl rfl ⟨by omega,fun m y hm=>by omega⟩ ?_
 rintro q ⟨hq,hno⟩
 have hil:=(List.getElem?_eq_some_iff.1 hr).1
 have hkl:=kindIx_lt x r.kind
 repeat' (first | refine sk45 ?_ | (intro b;conv=>whnf) | refine IxM.mk fun y hy=>?_ | (with_reducible refine Br.d (fun hc=>?_) (fun hc=>?_)) | (with_reducible refine Br.b (fun hc=>?_) (fun hc=>?_)))
 ·refine Rt.pure (congrArg iD ?_)
  exact (ruleE_twice (ruleTwice_yes (m:=q) (by omega) hy (by assumption))).symm
 ·exact ⟨q + 1,rfl,rfl,⟨by omega,fun m z hm hz=>by
   by_cases e : m = q
   ·subst e;rw [show ((m : Int)).toNat = m from rfl,hz] at hy;cases hy;assumption
   ·exact hno m z (by omega) hz⟩,by omega⟩
 ·obtain rfl : q = i:=by omega
  refine Rt.pure (congrArg iD ?_)
  exact (ruleE_nokind (ruleTwice_no hno) (by unfold kindAt;rw [if_neg (by omega)])).symm
 ·obtain rfl : q = i:=by omega
  obtain ⟨k,hk⟩ : ∃ k,x.kinds[(kindIx x r.kind).toNat]? = some k:=⟨_,List.getElem?_eq_getElem (by omega)⟩
  have hka : kindAt x (kindIx x r.kind) = some k:=by unfold kindAt;rw [if_pos (by omega)];exact hk
  have hE:=ruleE_kind (ruleTwice_no hno) hka
  have hfk:=hf k (List.mem_of_getElem? hk)
  have hfa:=fieldIx_lt k r.a
  have hfb:=fieldIx_lt k r.b
  refine lp_loop mixed tget_ok (γ:=Nat × Bool) (fun g=>[(9,bD g.2),(10,iD g.1)]) (fun _=>[(b,.cells 105 (rulC r))]) (twoI x k (kindIx x r.kind) r) (fun g=>2 - g.1) (0,false) rfl rfl (.inl ⟨rfl,rfl⟩) ?_
  rintro ⟨j,w⟩ (⟨rfl,rfl⟩ | ⟨rfl,ha,rfl⟩ | ⟨rfl,ha,hb,rfl⟩)
  ·repeat' (first | refine sk45 ?_ | (intro b;conv=>whnf) | refine IxM.mk fun y hy=>?_ | (with_reducible refine Br.d (fun hc=>?_) (fun hc=>?_)) | (with_reducible refine Br.b (fun hc=>?_) (fun hc=>?_)))
   ·exact ⟨(1,false),rfl,rfl,.inr (.inl ⟨rfl,(nm_E x k _ ‹_›).1,(nm_E x k _ ‹_›).2.symm⟩),by simp⟩
   ·refine Rt.pure (congrArg iD ?_)
    rw [hE,if_pos (.inl (nm_no x k _ ‹_› (by omega)))]
   all_goals
    have hh:=nm_ok (x:=x) (k:=k) (o:=kindIx x r.kind) (n:=r.a) ‹_› (by omega) hk (by omega) hy
    first
    | exact ⟨(1,!decide (y.kind = 4)),rfl,rfl,.inr (.inl ⟨rfl,hh.1,by rw [hh.2];simp [*]⟩),by simp⟩
    | exact ⟨(1,false),rfl,rfl,.inr (.inl ⟨rfl,hh.1,by rw [hh.2];simp [*]⟩),by simp⟩
  ·generalize hw : nameBad x k (kindIx x r.kind) r.a = w
   repeat' (first | refine sk45 ?_ | (intro b;conv=>whnf) | refine IxM.mk fun y hy=>?_ | (with_reducible refine Br.d (fun hc=>?_) (fun hc=>?_)) | (with_reducible refine Br.b (fun hc=>?_) (fun hc=>?_)))
   ·exact ⟨(2,w),rfl,rfl,.inr (.inr ⟨rfl,ha,(nm_E x k _ ‹_›).1,by rw [(nm_E x k _ (n:=r.b) ‹_›).2,hw];simp⟩),by simp⟩
   ·refine Rt.pure (congrArg iD ?_)
    rw [hE,if_pos (.inr (nm_no x k _ ‹_› (by omega)))]
   all_goals
    have hh:=nm_ok (x:=x) (k:=k) (o:=kindIx x r.kind) (n:=r.b) ‹_› (by omega) hk (by omega) hy
    first
    | exact ⟨(2,true),rfl,rfl,.inr (.inr ⟨rfl,ha,hh.1,by rw [hh.2,hw];simp [*]⟩),by simp⟩
    | exact ⟨(2,!decide (y.kind = 4)),rfl,rfl,.inr (.inr ⟨rfl,ha,hh.1,by rw [hh.2,hw];simp [*]⟩),by simp⟩
    | exact ⟨(2,false),rfl,rfl,.inr (.inr ⟨rfl,ha,hh.1,by rw [hh.2,hw];simp [*]⟩),by simp⟩
  ·generalize hw : (nameBad x k (kindIx x r.kind) r.a || nameBad x k (kindIx x r.kind) r.b) = w
   rw [if_neg (by simp [ha,hb])] at hE
   simp only [← Bool.or_eq_true,hw] at hE
   repeat' (first | refine sk45 ?_ | (intro b;conv=>whnf) | refine IxM.mk fun y hy=>?_ | (with_reducible refine Br.d (fun hc=>?_) (fun hc=>?_)) | (with_reducible refine Br.b (fun hc=>?_) (fun hc=>?_)))
   all_goals (refine Rt.pure (congrArg iD ?_);rw [hE];simp [*,seq])
end
section
open Go
theorem ty_kind1 (y : Knd) (nm : ByteArray) : APure Tryz.prog 126 [kndD y,.ro [sD nm]] (bD (seq y.name nm)):=by
 refine APure.of_call (enterX mixed tget_ok Tryz.func126 (by kernel_rfl) rfl Tryz.ntmps126 rfl ?_);intro BB
 repeat' (first | refine sk2 ?_ | (intro b;conv=>whnf))
 refine Rt.pure (congrArg bD ?_);rfl
theorem ty_field1 (y : Fld) (nm : ByteArray) : APure Tryz.prog 105 [fldD y,.ro [sD nm]] (bD (seq y.name nm)):=by
 refine APure.of_call (enterX mixed tget_ok Tryz.func105 (by kernel_rfl) rfl Tryz.ntmps105 rfl ?_);intro BB
 repeat' (first | refine sk2 ?_ | (intro b;conv=>whnf))
 refine Rt.pure (congrArg bD ?_);rfl
theorem sk46 {A B : Prop} (k : B) (h : Hd7 B → A:=by intro hk7q;(first | refine sb0 ?_ | refine sb1 ?_ | ((with_reducible refine' Cp.by ?hc ?_);(case hc=>exact ix_knd x.kinds (fun y=>seq y.name nm) hl (fun y _=>ty_kind1 y nm))) | ((with_reducible refine' CE.pure ?hc ?_);(case hc=>exact ix_knd x.kinds (fun y=>seq y.name nm) hl (fun y _=>ty_kind1 y nm))));exact hk7q.run) : A:=h ⟨k⟩
theorem ty_kind (x : Sch) (nm : ByteArray) (hl : x.kinds.length ≤ 1000000) : APure Tryz.prog 102 [schD x,sD nm] (iD (kindIx x nm)):=by
 refine APure.of_call (enterX mixed tget_ok Tryz.func102 (by kernel_rfl) rfl Tryz.ntmps102 rfl ?_);intro BB
 repeat' (first | refine sk46 ?_ | (intro b;conv=>whnf))
 refine Rt.pure (congrArg iD ?_);rfl
theorem sk47 {A B : Prop} (k : B) (h : Hd7 B → A:=by intro hk7q;(first | refine sb0 ?_ | refine sb1 ?_ | ((with_reducible refine' Cp.by ?hc ?_);(case hc=>exact ix_fld k.fields (fun y=>seq y.name nm) hl (fun y _=>ty_field1 y nm))) | ((with_reducible refine' CE.pure ?hc ?_);(case hc=>exact ix_fld k.fields (fun y=>seq y.name nm) hl (fun y _=>ty_field1 y nm))));exact hk7q.run) : A:=h ⟨k⟩
theorem ty_field (k : Knd) (nm : ByteArray) (hl : k.fields.length ≤ 1000000) : APure Tryz.prog 79 [kndD k,sD nm] (iD (fieldIx k nm)):=by
 refine APure.of_call (enterX mixed tget_ok Tryz.func79 (by kernel_rfl) rfl Tryz.ntmps79 rfl ?_);intro BB
 repeat' (first | refine sk47 ?_ | (intro b;conv=>whnf))
 refine Rt.pure (congrArg iD ?_);rfl
theorem ty_at (x : Sch) (i j : Int) : APure Tryz.prog 101 [schD x,iD i,iD j] (.tup [fldD (atR x i j).1,bD (atR x i j).2]):=by
 refine APure.of_call (enterX mixed tget_ok Tryz.func101 (by kernel_rfl) rfl Tryz.ntmps101 rfl ?_);intro BB
 repeat' (first | refine sk2 ?_ | (intro b;conv=>whnf) | refine IxM.mk fun y hy=>?_ | (with_reducible refine Br.d (fun hc=>?_) (fun hc=>?_)) | (with_reducible refine Br.b (fun hc=>?_) (fun hc=>?_)))
 all_goals first
  | (have hr : atR x i j = (zeroF,false):=(by unfold atR;rw [fieldAt_none1 (by omega)]);rw [hr];exact Rt.vs (Vs.tup (VsL.cons ((Vs.le le_zeroF).trans (Vs.drop (List.nil_sublist _))) (VsL.cons (Vs.refl _ _) (VsL.nil _)))))
  | (have hr : atR x i j = (zeroF,false):=(by unfold atR;rw [fieldAt_some1 (by omega) (by omega) hy,List.getElem?_eq_none (by omega)]);rw [hr];exact Rt.vs (Vs.tup (VsL.cons ((Vs.le le_zeroF).trans (Vs.drop (List.nil_sublist _))) (VsL.cons (Vs.refl _ _) (VsL.nil _)))))
  | (have hr:=atR_some (x:=x) (i:=i) (j:=j) (by omega) ‹x.kinds[i.toNat]? = some _› (by omega) hy;rw [hr];exact Rt.vs (Vs.refl _ _))
theorem atR_fa {x : Sch} {i j : Int} {f : Fld} (h : fieldAt x i j = some f) : atR x i j = (f,true):=by unfold atR;rw [h]
theorem atR_no {x : Sch} {i j : Int} (h : fieldAt x i j = none) : atR x i j = (zeroF,false):=by unfold atR;rw [h]
theorem sk48 {A B : Prop} (k : B) (h : Hd7 B → A:=by intro hk7q;(first | refine sb0 ?_ | refine sb1 ?_ | ((with_reducible refine' Cp.by ?hc ?_);(case hc=>first | exact HA | exact ty_kind _ _ (by assumption) | exact ty_field _ _ (by assumption))) | ((with_reducible refine' CE.pure ?hc ?_);(case hc=>first | exact HA | exact ty_kind _ _ (by assumption) | exact ty_field _ _ (by assumption))));exact hk7q.run) : A:=h ⟨k⟩
theorem ty_up1 (x : Sch) (i j : Int) (f : Fld) (hl : x.kinds.length ≤ 1000000) (hfa : fieldAt x i j = some f) (hk : f.kind = 1) : APure Tryz.prog 77 [schD x,iD i,iD j] (iD (refUp x i f)):=by
 have HA:=ty_at x i j
 rw [atR_fa hfa] at HA
 refine APure.of_call (enterX mixed tget_ok Tryz.func77 (by kernel_rfl) rfl Tryz.ntmps77 rfl ?_);intro BB
 repeat' (first | refine sk48 ?_ | (intro b;conv=>whnf) | (with_reducible refine Br.d (fun hc=>?_) (fun hc=>?_)) | (with_reducible refine Br.b (fun hc=>?_) (fun hc=>?_)))
 all_goals (refine Rt.pure (congrArg iD ?_);unfold refUp;first | rw [if_pos (by assumption)] | rw [if_neg (by assumption)])
theorem sk49 {A B : Prop} (k : B) (h : Hd7 B → A:=by intro hk7q;(first | refine sb0 ?_ | refine sb1 ?_ | ((with_reducible refine' Cp.by ?hc ?_);(case hc=>first | exact HA | exact HB | exact HU | exact ty_kind _ _ (by assumption) | exact ty_field _ _ (by assumption))) | ((with_reducible refine' CE.pure ?hc ?_);(case hc=>first | exact HA | exact HB | exact HU | exact ty_kind _ _ (by assumption) | exact ty_field _ _ (by assumption))));exact hk7q.run) : A:=h ⟨k⟩
theorem ty_up (x : Sch) (i j : Int) (hl : x.kinds.length ≤ 1000000) (hf : ∀ k ∈ x.kinds,k.fields.length ≤ 1000000) : APure Tryz.prog 77 [schD x,iD i,iD j] (iD (upIx x i j)):=by
 have HA:=ty_at x i j
 cases hfa : fieldAt x i j with
 | none=>
  rw [atR_no hfa] at HA
  refine APure.of_call (enterX mixed tget_ok Tryz.func77 (by kernel_rfl) rfl Tryz.ntmps77 rfl ?_);intro BB
  repeat' (first | refine sk49 ?_ | (intro b;conv=>whnf) | (with_reducible refine Br.d (fun hc=>?_) (fun hc=>?_)) | (with_reducible refine Br.b (fun hc=>?_) (fun hc=>?_)))
  refine Rt.pure (congrArg iD ?_);simp [upIx,hfa]
 | some f=>
  rw [atR_fa hfa] at HA
  obtain ⟨h0,h1,k,hk,hkf⟩:=fieldAt_inv hfa
  have hfk:=hf k (List.mem_of_getElem? hk)
  have hka : kindAt x i = some k:=by simp [kindAt,h0,hk]
  have hkl:=(List.getElem?_eq_some_iff.1 hk).1
  have hU:=upIx_of hfa hka
  have HB:=ty_at x i (fieldIx k f.up)
  cases hg : fieldAt x i (fieldIx k f.up) with
  | none=>
   rw [atR_no hg] at HB
   simp only [hg,pickUp,orNone] at hU
   refine APure.of_call (enterX mixed tget_ok Tryz.func77 (by kernel_rfl) rfl Tryz.ntmps77 rfl ?_);intro BB
   repeat' (first | refine sk49 ?_ | (intro b;conv=>whnf) | (with_reducible refine Br.d (fun hc=>?_) (fun hc=>?_)) | (with_reducible refine Br.b (fun hc=>?_) (fun hc=>?_)))
   all_goals (refine Rt.pure (congrArg iD ?_);rw [hU];unfold refUp;(repeat' split) <;> first | rfl | omega)
  | some g=>
   rw [atR_fa hg] at HB
   simp only [hg,pickUp] at hU
   by_cases hg1 : g.kind = 1
   ·have HU:=ty_up1 x i (fieldIx k f.up) g hl hg hg1
    refine APure.of_call (enterX mixed tget_ok Tryz.func77 (by kernel_rfl) rfl Tryz.ntmps77 rfl ?_);intro BB
    repeat' (first | refine sk49 ?_ | (intro b;conv=>whnf) | (with_reducible refine Br.d (fun hc=>?_) (fun hc=>?_)) | (with_reducible refine Br.b (fun hc=>?_) (fun hc=>?_)))
    all_goals (refine Rt.pure (congrArg iD ?_);rw [hU];(repeat' split) <;> first | rfl | omega | (unfold refUp;(repeat' split) <;> first | rfl | omega) | (unfold orNone;simp only;unfold refUp;(repeat' split) <;> first | rfl | omega))
   ·refine APure.of_call (enterX mixed tget_ok Tryz.func77 (by kernel_rfl) rfl Tryz.ntmps77 rfl ?_);intro BB
    repeat' (first | refine sk49 ?_ | (intro b;conv=>whnf) | (with_reducible refine Br.d (fun hc=>?_) (fun hc=>?_)) | (with_reducible refine Br.b (fun hc=>?_) (fun hc=>?_)))
    all_goals (refine Rt.pure (congrArg iD ?_);rw [hU];(repeat' split) <;> first | rfl | omega | (unfold refUp;(repeat' split) <;> first | rfl | omega) | (unfold orNone;simp only;unfold refUp;(repeat' split) <;> first | rfl | omega))
end
end Go.Proofs.YtjbbmjjildhfbaaGreatDoor
