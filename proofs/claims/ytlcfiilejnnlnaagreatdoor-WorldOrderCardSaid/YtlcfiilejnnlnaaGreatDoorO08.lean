/- A part of the proof: Xg Xh Bt Ea Eb Za Ys Ar Ls Ya. -/
import Derived.Test.YtlcfiilejnnlnaaGreatDoorO07
import Derived.StringKeys
import Derived.Lib.BufferWrite
import Derived.Lib.AppendStr
import Derived.Deep.AppendSrc
import Derived.Laws.IdiomStrings
import Derived.Scope
set_option maxRecDepth 100000
set_option maxHeartbeats 20000000
set_option linter.unusedVariables false
set_option linter.unusedSimpArgs false
namespace Go.Proofs.YtlcfiilejnnlnaaGreatDoor
section
open Go Go.Maps Go.MapKept
theorem bF3 {α:Type} {l:List α} {i:Nat} {a:α} (h:l[i]?=some a):l.drop i=a :: l.drop (i+1):=by
 obtain ⟨h1,rfl⟩:=List.getElem?_eq_some_iff.1 h
 exact List.drop_eq_getElem_cons h1
/-! ### Which worlds fit -/
theorem bP6 {x:Sch} {w:Wd} (h:w.length≠x.kinds.length):fitW x w=false:=by simp [fitW,h]
theorem bo8 {x:Sch} {w:Wd} {k:Nat} {l:List (List Int)} (hk:w[k]?=some l) (h:an4 x k l=false):fitW x w=false:=by
 unfold fitW
 have:(List.range w.length).all (fun k=>an4 x k (w.getD k []))=false:=by
  rw [List.all_eq_false]
  exact ⟨k,List.mem_range.2 (List.getElem?_eq_some_iff.1 hk).1,by rw [aa6 hk,h];simp⟩
 rw [this];simp
theorem bo9 {x:Sch} {w:Wd} {r:Rf} (hr:r∈aa4 x) {l:List (List Int)} (hl:w[r.kind]?=some l) {y:List Int} (hy:y∈l) (h:refOk w r y=false):fitW x w=false:=by
 unfold fitW
 have:(aa4 x).all (fun r=>(w.getD r.kind []).all (refOk w r))=false:=by
  rw [List.all_eq_false]
  refine ⟨r,hr,?_⟩
  rw [aa6 hl,Bool.not_eq_true,List.all_eq_false]
  exact ⟨y,hy,by rw [h];simp⟩
 rw [this];simp
theorem bP5 {x:Sch} {w:Wd} (h1:w.length=x.kinds.length) (h2:∀ (k:Nat) l,w[k]?=some l→an4 x k l=true) (h3:∀ r∈aa4 x,∀ l,w[r.kind]?=some l→∀ y∈l,refOk w r y=true):fitW x w=true:=by
 unfold fitW
 simp only [Bool.and_eq_true,decide_eq_true_eq,List.all_eq_true]
 refine ⟨⟨h1,fun k hk=>?_⟩,fun r hr y hy=>?_⟩
 ·obtain ⟨l,hl⟩:∃ l,w[k]?=some l:=⟨_,List.getElem?_eq_getElem (List.mem_range.1 hk)⟩
  rw [aa6 hl];exact h2 k l hl
 ·cases hl:w[r.kind]? with
  | none=>rw [List.getD_eq_getElem?_getD,hl] at hy;cases hy
  | some l=>rw [aa6 hl] at hy;exact h3 r hr l hl y hy
theorem ak5 {x:Sch} {k:Nat} {l:List (List Int)} (h:an4 x k l=true):l.length≤512∧∀ y∈l,recOk x k y=true:=by
 unfold an4 at h
 simp only [Bool.and_eq_true,decide_eq_true_eq,List.all_eq_true] at h
 exact h
theorem ao0 {x:Sch} {k:Nat} {kd:Knd} {y:List Int} (hk:x.kinds[k]?=some kd) (h:recOk x k y=true):y.length=kd.fields.length∧∀ n∈y,-1099511627776≤n∧n≤1099511627776:=by
 unfold recOk cd3 at h
 rw [hk] at h
 simp only [Bool.and_eq_true,decide_eq_true_eq,List.all_eq_true] at h
 refine ⟨h.1,fun n hn=>?_⟩
 have:=h.2 n hn
 unfold numOk at this
 simp only [Bool.not_eq_true',Bool.or_eq_false_iff,decide_eq_false_iff_not] at this
 omega
def ckL (x:Sch) (w:Wd) (d:D) (rm lm:Nat):List D:=[iD x.version,slK x.kinds,slL x.lives,slR x.rules,slW w,d,.v (.map (some rm)),.v (.map (some lm)),.v (.slice none 0 0)]
theorem cu0 (x:Sch) (w:Wd) (L:List Rf) (rm lm:Nat):ckL x w (slLn L) rm lm=ckC x w L rm lm (.slice none 0 0):=rfl
def NewS (x:Sch) (w:Wd) (d:D) (σ:aa1):Prop:=∃ (c rm lm:Nat) (F:Value→Option Value) (sa:aa1),d = .tup [.v (.pointer (some ⟨c,0,none⟩)),iD 0]∧σ=(c,.cells 145 (ckC x w (aa4 x) rm lm (.slice none 0 0))) :: (rm,.obj (MapO Tryz.prog 147 F)) :: (lm,.mp Tryz.prog 9 (lvG x.lives)) :: sa∧AdjS w F (aa4 x) sa
def NewR (x:Sch) (w:Wd) (d:D) (σ:aa1):Prop:=(fitW x w=false∧d = .tup [.v (.pointer none),iD 2]∧σ=[])∨(fitW x w=true∧NewS x w d σ)
theorem sk39 {A B:Prop} (k:B) (h:Hd7 B→A:=by intro hk7q;(first|refine sb0 ?_|refine sb1 ?_|((with_reducible refine' Cp.by ?hc ?_);(case hc=>first|exact HC))|((with_reducible refine' CE.pure ?hc ?_);(case hc=>first|exact HC)));exact hk7q.run):A:=h ⟨k⟩
theorem cn5 (a b c d e:Nat × Blk) (s:aa1):(a :: b :: c :: d :: e :: s).Perm (s ++ [a,b,c,d,e]):=List.perm_append_comm (l₁:=[a,b,c,d,e]) (l₂:=s)
theorem cn4 (a b c d e:Nat × Blk) (s:aa1):(s ++ [a,b,c,d,e]).Perm (a :: b :: c :: d :: e :: s):=(cn5 a b c d e s).symm
theorem bG6 {l:List Lif} {y:List D} (h:y∈be1 l):y.length=2:=by
 obtain ⟨k,hk⟩:=List.getElem?_of_mem h
 obtain ⟨j,z,_,_,rfl⟩:=aN9 hk
 rfl
theorem bB9 {l:Lif} (h:aj9 l=true):l.name.size≤1000:=by
 simp only [aj9,Bool.and_eq_true] at h
 have:=h.1.1.1.1
 simp only [isNm,aa7,Bool.and_eq_true,decide_eq_true_eq] at this
 omega
theorem sk40 {A B:Prop} (k:B) (h:Hd7 B→A:=by intro hk7q;(first|refine sb0 ?_|refine sb1 ?_|((with_reducible refine' Cp.by ?hc ?_);(case hc=>first|exact HC|exact aw7 _ _ _ (by assumption) (by assumption)|exact HB))|((with_reducible refine' CE.pure ?hc ?_);(case hc=>first|exact HC|exact aw7 _ _ _ (by assumption) (by assumption)|exact HB)));exact hk7q.run):A:=h ⟨k⟩
theorem sb41 {A B:Prop} (k:B) (h:Hd7 B→A:=by intro hk7q;(first|(with_reducible refine Bc.l ?_)|fail|((with_reducible refine Dr.l ?h ?_);(case h=>decide +kernel))|(with_reducible refine Dr.r ?_)|((with_reducible refine Dm.l ?h ?_);(case h=>decide +kernel))|((with_reducible refine Cb.go ?h ?_);(case h=>decide +kernel)));exact hk7q.run):A:=h ⟨k⟩
theorem sk42 {A B:Prop} (k:B) (h:Hd7 B→A:=by intro hk7q;(first|refine sb0 ?_|refine sb41 ?_|((with_reducible refine' Cp.by ?hc ?_);(case hc=>first|exact HC|exact aw7 _ _ _ (by assumption) (by assumption)|exact HB))|((with_reducible refine' CE.pure ?hc ?_);(case hc=>first|exact HC|exact aw7 _ _ _ (by assumption) (by assumption)|exact HB)));exact hk7q.run):A:=h ⟨k⟩
theorem cl4 {p:Prop} (h:p:=by refine ad8 fun a=>?_;simp only [List.append_eq,List.nil_append,ad9,ah8,ah7];omega):p:=h
theorem bA7 (x:Sch) (w:Wd) (hw:Ws w) (hp:ah6 x=[]) (HV:APure Tryz.prog 143 [schD x] (iD (ai3 x))):ACall Tryz.prog 58 [schD x,slW w] [] (NewR x w):=by
 have HC:=bk6 x HV
 rw [hp] at HC
 have hS:=aF0 hp
 have hV:=hS.vld
 have hnk:=hV.nk
 have hnf:=hV.nf
 have hwl:=hw.nk
 have hl6:x.kinds.length≤1000000:=by omega
 have hf6:∀ k∈x.kinds,k.fields.length≤1000000:=fun k hk=>by have:=hnf k hk;omega
 have hrl:=aH8 hV
 refine eC7 Tryz.func58 Tryz.ntmps58 fun BB=>?_
 repeat' first|refine sk40 ?_|(intro b;conv=>whnf)
 refine OtE.makeMap (k:=147) rfl (fun rm=>?_)
 repeat' first|refine sk40 ?_|(intro b;conv=>whnf)
 refine OtE.makeMapM (k:=9) rfl (fun lm=>?_)
 repeat' first|refine sk42 ?_|(intro b;conv=>whnf)
 refine Bx.r ?_
 refine OtE.box (t:=145) rfl rfl (fun c=>?_)
 by_cases hlen:w.length=x.kinds.length
 ·repeat' first|refine sk40 ?_|(intro b;conv=>whnf)
  refine af2 (i:=7) (d:=.v (.pointer (some ⟨b,0,none⟩))) (d':=.ro [.v (.pointer (some ⟨c,0,none⟩))]) (τ:=[(c,.cells 145 (ckL x w (.v (.slice none 0 0)) rm lm)),(lm,.mp Tryz.prog 9 fun _=>none),(rm,.obj (MapO Tryz.prog 147 fun _=>none))]) rfl (fun h=>by cases h) (Vs.ptr (tb:=121) (List.Perm.refl _)) ?_
  refine aa5 mixed aa0 (γ:=Nat × Value × aa1) (fun g=>[(45,iD g.1)]) (fun g=>(c,.cells 145 (ckL x w (.v g.2.1) rm lm)) :: (lm,.mp Tryz.prog 9 fun _=>none) :: (rm,.obj (MapO Tryz.prog 147 fun _=>none)) :: g.2.2) (fun g=>g.1≤x.kinds.length∧RowIs 147 3 ((upTo g.1 (refK x)).map lnC) g.2.1 g.2.2) (fun g=>x.kinds.length - g.1) (0,.slice none 0 0,[]) (aa2 cl3) (Sc.refl _) ⟨Nat.zero_le _,RowIs.nil _ _⟩ ?_
  rintro ⟨k,v,s⟩ ⟨hk,hrow⟩
  simp only at hk hrow ⊢
  by_cases hkl:k<x.kinds.length
  ·obtain ⟨kd,hkd⟩:∃ y,x.kinds[k]?=some y:=⟨_,List.getElem?_eq_getElem hkl⟩
   have hkd':x.kinds[((k:Nat):Int).toNat]?=some kd:=hkd
   have hfl:=hnf kd (List.mem_of_getElem? hkd)
   have hSK:=ac4 k (refK x)
   have hRK:refK x k=upTo kd.fields.length (refF x k kd):=by unfold refK;rw [hkd]
   repeat' first|refine sk40 ?_|(intro b;conv=>whnf)
   refine aa5 mixed aa0 (γ:=Nat × Value × aa1) (fun g=>[(53,iD g.1)]) (fun g=>(b,.cells 85 (kndC kd)) :: (c,.cells 145 (ckL x w (.v g.2.1) rm lm)) :: (lm,.mp Tryz.prog 9 fun _=>none) :: (rm,.obj (MapO Tryz.prog 147 fun _=>none)) :: g.2.2) (fun g=>g.1≤kd.fields.length∧RowIs 147 3 ((upTo k (refK x) ++ upTo g.1 (refF x k kd)).map lnC) g.2.1 g.2.2) (fun g=>kd.fields.length - g.1) (0,v,s) (aa2 cl3) (Sc.refl _) ⟨Nat.zero_le _,by simpa [upTo] using hrow⟩ ?_
   clear hrow
   rintro ⟨f,v,s⟩ ⟨hf,hrow⟩
   simp only at hf hrow ⊢
   by_cases hfl2:f<kd.fields.length
   ·obtain ⟨g,hg⟩:∃ y,kd.fields[f]?=some y:=⟨_,List.getElem?_eq_getElem hfl2⟩
    have hg':kd.fields[((f:Nat):Int).toNat]?=some g:=hg
    have hSF:=ac4 f (refF x k kd)
    have hlen1:=ab9 (fun k=>bl9 x k (fun k hk=>by have:=hnf k hk;omega)) k
    have hlen2:=ab9 (bm0 x k kd) f
    by_cases h1:g.kind=1
    ·have hRF:refF x k kd f=[⟨k,f,upIx x k f,g.lo⟩]:=by unfold refF;rw [hg];simp [h1]
     rw [hRF] at hSF
     repeat' first|refine sk40 ?_|(intro b;conv=>whnf)
     refine Ap.go rfl rfl rfl rfl hrow (cn5 _ _ _ _ _ _) rfl (zs:=(upTo k (refK x) ++ upTo (f+1) (refF x k kd)).map lnC) (by rw [hSF];simp only [List.map_append,List.map_cons,List.map_nil,List.append_assoc];rfl) (by rw [hSF];simp;omega) (by rw [hSF];simp;omega) (fun s'=>_ :: _ :: _ :: _ :: _ :: s') (cn4 _ _ _ _ _) (fun a' c' s' hr'=>?_)
     repeat' first|refine sk40 ?_|(intro b;conv=>whnf)
     exact ⟨(f+1,_,s'),(aa2 cl3),Sc.sl (List.sublist_cons_self _ _),⟨by simp only;omega,hr'⟩,by simp only;omega⟩
    ·have hRF:refF x k kd f=[]:=by unfold refF;rw [hg];simp [h1]
     rw [hRF,List.append_nil] at hSF
     repeat' first|refine sk40 ?_|(intro b;conv=>whnf)
     exact ⟨(f+1,v,s),(aa2 cl3),Sc.sl (List.sublist_cons_self _ _),⟨by simp only;omega,by rw [hSF];exact hrow⟩,by simp only;omega⟩
   ·obtain rfl:f=kd.fields.length:=by omega
    repeat' first|refine sk40 ?_|(intro b;conv=>whnf)
    exact ⟨(k+1,v,s),(aa2 cl3),Sc.sl (List.sublist_cons_self _ _),⟨by simp only;omega,by rw [hSK,hRK];exact hrow⟩,by simp only;omega⟩
  ·obtain rfl:k=x.kinds.length:=by omega
   change RowIs 147 3 ((aa4 x).map lnC) v s at hrow
   repeat' first|refine sk40 ?_|(intro b;conv=>whnf)
   refine aw4 (τ:=(c,.cells 145 (ckL x w (slLn (aa4 x)) rm lm)) :: (lm,.mp Tryz.prog 9 fun _=>none) :: (rm,.obj (MapO Tryz.prog 147 fun _=>none)) :: []) ((Sc.perm (List.Perm.cons _ (List.perm_append_comm (l₁:=[_,_]) (l₂:=s)))).trans (Sc.frz (j:=5) rfl hrow (LeR.refl _))) ?_
   clear hrow
   refine aa5 mixed aa0 (γ:=Nat) (fun g=>[(81,iD g)]) (fun _=>(c,.cells 145 (ckL x w (slLn (aa4 x)) rm lm)) :: (lm,.mp Tryz.prog 9 fun _=>none) :: (rm,.obj (MapO Tryz.prog 147 fun _=>none)) :: []) (fun g=>g≤w.length∧∀ (k:Nat) l,k<g→w[k]?=some l→an4 x k l=true) (fun g=>w.length - g) 0 (aa2 cl3) (Sc.refl _) ⟨Nat.zero_le _,fun k l h=>by omega⟩ ?_
   rintro k ⟨hk,hno⟩
   by_cases hkl:k<w.length
   ·obtain ⟨l,hl⟩:∃ l,w[k]?=some l:=⟨_,List.getElem?_eq_getElem hkl⟩
    have hl':w[((k:Nat):Int).toNat]?=some l:=hl
    obtain ⟨kd,hkd⟩:∃ y,x.kinds[k]?=some y:=⟨_,List.getElem?_eq_getElem (by omega)⟩
    have hll:=hw.nr l (List.mem_of_getElem? hl)
    have hlf:=hw.nf l (List.mem_of_getElem? hl)
    have HR:APure Tryz.prog 99 [slW1 l,.clo 100 [.ro (schC x),.ro [iD k]]] (bD (l.any fun r=>!recOk x k r)):=cu6 l _ (by omega) (fun y hy=>cp3 x k kd y hkd hl6 (by have:=hlf y hy;omega))
    have hany:(l.any fun r=>!recOk x k r)=!(l.all (recOk x k)):=by rw [List.all_eq_not_any_not];simp
    by_cases h5:512<l.length
    ·have hb:an4 x k l=false:=by unfold an4;rw [decide_eq_false (by omega)];rfl
     repeat' first|refine sk40 ?_|(intro b;conv=>whnf)
     exact Rt.by (Vs.drop (List.nil_sublist _)) (.inl ⟨bo8 hl hb,rfl,rfl⟩)
    ·repeat' first|refine sk40 ?_|(intro b;conv=>whnf)
     refine CE.pk (APk.peek (.cons (Pk.same _) (.cons (Pk.clo (.cons (Pk.same _) (.cons (Pk.ptr (j:=0) rfl (PkL.refl _)) .nil))) .nil)) HR rfl) ?_
     clear HR
     rw [hany]
     have hro:an4 x k l=l.all (recOk x k):=by unfold an4;rw [decide_eq_true (by omega)];rfl
     cases hall:l.all (recOk x k) with
     | true=>
      repeat' first|refine sk40 ?_|(intro b;conv=>whnf)
      refine ⟨k+1,(aa2 cl3),Sc.sl (List.sublist_cons_self _ _),⟨by omega,fun k' l' hk' hl2=>?_⟩,by omega⟩
      by_cases e:k'=k
      ·subst e;cases hl.symm.trans hl2;rw [hro];exact hall
      ·exact hno k' l' (by omega) hl2
     | false=>
      repeat' first|refine sk40 ?_|(intro b;conv=>whnf)
      exact Rt.by (Vs.drop (List.nil_sublist _)) (.inl ⟨bo8 hl (hro.trans hall),rfl,rfl⟩)
   ·obtain rfl:k=w.length:=by omega
    have hrows:∀ (k:Nat) l,w[k]?=some l→an4 x k l=true:=fun k l h=>hno k l (List.getElem?_eq_some_iff.1 h).1 h
    clear hno
    repeat' first|refine sk40 ?_|(intro b;conv=>whnf)
    refine aa5 mixed aa0 (γ:=Nat × (Value→Option Value) × aa1) (fun g=>[(100,iD g.1)]) (fun g=>(c,.cells 145 (ckL x w (slLn (aa4 x)) rm lm)) :: (lm,.mp Tryz.prog 9 fun _=>none) :: (rm,.obj (MapO Tryz.prog 147 g.2.1)) :: g.2.2) (fun g=>g.1≤(aa4 x).length∧AdjS w g.2.1 ((aa4 x).take g.1) g.2.2∧∀ (q:Nat) r l,q<g.1→(aa4 x)[q]?=some r→w[r.kind]?=some l→∀ y∈l,refOk w r y=true) (fun g=>(aa4 x).length - g.1) (0,(fun _=>none),[]) (aa2 cl3) (Sc.refl _) ⟨Nat.zero_le _,AdjS.nil _ _,fun q r l h=>by simp at h⟩ ?_
    rintro ⟨q,F,sa⟩ ⟨hq,hA,hno⟩
    simp only at hq hA hno ⊢
    by_cases hql:q<(aa4 x).length
    ·obtain ⟨r,hr⟩:∃ r,(aa4 x)[q]?=some r:=⟨_,List.getElem?_eq_getElem hql⟩
     have hr':(aa4 x)[((q:Nat):Int).toNat]?=some r:=hr
     have hrm:=List.mem_of_getElem? hr
     obtain ⟨u1,u2,u3⟩:=hS.up r hrm
     obtain ⟨l,hl⟩:∃ l,w[r.kind]?=some l:=⟨_,List.getElem?_eq_getElem (by omega)⟩
     obtain ⟨lu,hlu'⟩:∃ l,w[r.up.toNat]?=some l:=⟨_,List.getElem?_eq_getElem (by omega)⟩
     have hl':w[((r.kind:Nat):Int).toNat]?=some l:=hl
     have hll:=hw.nr l (List.mem_of_getElem? hl)
     have hlul:=hw.nr lu (List.mem_of_getElem? hlu')
     obtain ⟨kd,fd,hkd,hfd,_⟩:=aI2 hrm
     have hrr:=ak5 (hrows _ _ hl)
     have hadj:adjR w r=adjL l r.field lu.length:=by unfold adjR;rw [aa6 hl,aa6 hlu']
     repeat' first|refine sk40 ?_|(intro b;conv=>whnf)
     refine Mk.go lu.length rfl rfl rfl rfl rfl (by simp) (by omega) (by omega) (fun bo=>?_)
     repeat' first|refine sk40 ?_|(intro b;conv=>whnf)
     have hR0:RW1 (adjL (l.take 0) r.field lu.length) (.slice (some ⟨bo,0,none⟩) lu.length lu.length) [(bo,.cells 22 (List.replicate lu.length (.v (.slice none 0 0))))]:=by
      rw [List.take_zero,bS6]
      exact RowsOf.made (R:=RI) (x0:=[]) (RowIs.nil _ _) _ bo (by unfold maxLen;omega)
     refine af2 (i:=15) (d:=.v (.pointer (some ⟨b,0,none⟩))) (d':=.ro (lnC r)) (τ:=(bo,.cells 22 (List.replicate lu.length (.v (.slice none 0 0)))) :: (c,.cells 145 (ckL x w (slLn (aa4 x)) rm lm)) :: (lm,.mp Tryz.prog 9 fun _=>none) :: (rm,.obj (MapO Tryz.prog 147 F)) :: sa) rfl (fun h=>by cases h) (Vs.ptr (tb:=147) (List.Perm.swap _ _ _)) ?_
     refine aa5 mixed aa0 (γ:=Nat × aa1) (fun g=>[(117,iD g.1)]) (fun g=>g.2 ++ ((c,.cells 145 (ckL x w (slLn (aa4 x)) rm lm)) :: (lm,.mp Tryz.prog 9 fun _=>none) :: (rm,.obj (MapO Tryz.prog 147 F)) :: sa)) (fun g=>g.1≤l.length∧RW1 (adjL (l.take g.1) r.field lu.length) (.slice (some ⟨bo,0,none⟩) lu.length lu.length) g.2∧∀ (i:Nat) y,i<g.1→l[i]?=some y→refOk w r y=true) (fun g=>l.length - g.1) (0,[(bo,.cells 22 (List.replicate lu.length (.v (.slice none 0 0))))]) (aa2 cl3) (Sc.refl _) ⟨Nat.zero_le _,hR0,fun i y h=>by simp at h⟩ ?_
     clear hR0
     rintro ⟨i,sr⟩ ⟨hi,hR,hno3⟩
     simp only at hi hR hno3 ⊢
     by_cases hil:i<l.length
     ·obtain ⟨y,hy⟩:∃ y,l[i]?=some y:=⟨_,List.getElem?_eq_getElem hil⟩
      have hy':l[((i:Nat):Int).toNat]?=some y:=hy
      have hym:=List.mem_of_getElem? hy
      have hyl:=(ao0 hkd (hrr.2 y hym)).1
      have hyl2:=hw.nf l (List.mem_of_getElem? hl) y hym
      have hfl:=(List.getElem?_eq_some_iff.1 hfd).1
      obtain ⟨z,hz⟩:∃ z,y[r.field]?=some z:=⟨_,List.getElem?_eq_getElem (by omega)⟩
      have hz':y[((r.field:Nat):Int).toNat]?=some z:=hz
      have hrok:refOk w r y=!(decide (z<0) || decide ((lu.length:Int)≤z)):=by unfold refOk;rw [aa6 hz,aa6 hlu']
      by_cases hz0:z<0
      ·have hbad:refOk w r y=false:=by rw [hrok,decide_eq_true hz0];rfl
       repeat' first|refine sk40 ?_|(intro b;conv=>whnf)
       exact Rt.by (Vs.drop (List.nil_sublist _)) (.inl ⟨bo9 hrm hl hym hbad,rfl,rfl⟩)
      ·by_cases hz1:(lu.length:Int)≤z
       ·have hbad:refOk w r y=false:=by rw [hrok,decide_eq_true hz1,Bool.or_true];rfl
        repeat' first|refine sk40 ?_|(intro b;conv=>whnf)
        exact Rt.by (Vs.drop (List.nil_sublist _)) (.inl ⟨bo9 hrm hl hym hbad,rfl,rfl⟩)
       ·have hgood:refOk w r y=true:=by rw [hrok,decide_eq_false hz0,decide_eq_false hz1];rfl
        obtain ⟨v,rfl⟩:∃ v:Nat,z=v:=⟨z.toNat,by omega⟩
        obtain ⟨b0,cap0,cs0,u,t,τ,e0,p0,c0,hu,upo⟩:=RowsOf.at hR (aw2 (f:=r.field) (l.take i) (show v<lu.length by omega))
        rw [ap3] at e0
        cases e0
        obtain ⟨a1,ca1,rfl⟩:=RowIs.slice hu
        have hil2:(idxs (l.take i) r.field v).length≤1000:=by
         rw [aC5]
         have:=List.countP_le_length (p:=fun r':List Int=>decide (r'.getD r.field 0=(v:Int))) (l:=l.take i)
         rw [List.length_take] at this
         omega
        repeat' first|refine sk40 ?_|(intro b;conv=>whnf)
        refine Ld.cellm (tb:=22) (cs:=cs0) (List.mem_append_left _ (p0.mem_iff.2 List.mem_cons_self)) (by rw [ix1];exact c0) ?_
        repeat' first|refine sk40 ?_|(intro b;conv=>whnf)
        refine Ap.go rfl rfl rfl rfl hu (τ:=(bo,.cells 22 cs0) :: (τ ++ ((c,.cells 145 (ckL x w (slLn (aa4 x)) rm lm)) :: (lm,.mp Tryz.prog 9 fun _=>none) :: (rm,.obj (MapO Tryz.prog 147 F)) :: sa))) (by refine ad8 fun a=>?_;have e1:=aN2 p0 a;simp only [List.append_eq,List.nil_append,ad9,ah8,ah7] at e1 ⊢;omega) rfl (zs:=(idxs (l.take i) r.field v ++ [(i:Int)]).map fun n=>[iD n]) (by rw [List.map_append];rfl) (by simp;omega) (by simp;omega) (fun s2=>s2 ++ ((bo,.cells 22 cs0) :: (τ ++ ((c,.cells 145 (ckL x w (slLn (aa4 x)) rm lm)) :: (lm,.mp Tryz.prog 9 fun _=>none) :: (rm,.obj (MapO Tryz.prog 147 F)) :: sa)))) (fun s2=>List.Perm.refl _) (fun a9 c9 s9 hr9=>?_)
        repeat' first|refine sk40 ?_|(intro b;conv=>whnf)
        refine Sv.cellm (tb:=22) (cs:=cs0) (cs':=cs0.set v (.v (.slice a9 ((idxs (l.take i) r.field v ++ [(i:Int)]).map fun n=>[iD n]).length c9))) (τ:=s9 ++ (τ ++ ((c,.cells 145 (ckL x w (slLn (aa4 x)) rm lm)) :: (lm,.mp Tryz.prog 9 fun _=>none) :: (rm,.obj (MapO Tryz.prog 147 F)) :: sa))) cl4 (by rw [ix1];exact (List.getElem?_eq_some_iff.1 c0).1) rfl (by rw [ix1]) ?_
        repeat' first|refine sk40 ?_|(intro b;conv=>whnf)
        have h8:=upo _ _ s9 ((bo,.cells 22 (cs0.set v (.v (.slice a9 ((idxs (l.take i) r.field v ++ [(i:Int)]).map fun n=>[iD n]).length c9)))) :: (s9 ++ τ)) hr9 (List.Perm.refl _)
        have hlt:(l.take i).length=i:=by rw [List.length_take];omega
        have hsn:=bI3 (rows:=l.take i) (r:=y) (f:=r.field) (n:=lu.length) (v:=v) (aa6 hz 0)
        rw [hlt,← ac7 hy] at hsn
        rw [← hsn] at h8
        refine ⟨(i+1,(bo,.cells 22 (cs0.set v (.v (.slice a9 ((idxs (l.take i) r.field v ++ [(i:Int)]).map fun n=>[iD n]).length c9)))) :: (s9 ++ τ)),(aa2 cl3),Sc.perm cl4,⟨by simp only;omega,h8,fun i' y' hi' hy2=>?_⟩,by simp only;omega⟩
        by_cases e:i'=i
        ·subst e;cases hy.symm.trans hy2;exact hgood
        ·exact hno3 i' y' (by omega) hy2
     ·obtain rfl:i=l.length:=by omega
      rw [List.take_length,← hadj] at hR
      have hfl:=(List.getElem?_eq_some_iff.1 hfd).1
      have hfl2:=hnf kd (List.mem_of_getElem? hkd)
      obtain ⟨kl,hkl⟩:=bn5 (show (Lit.int .i64 (r.kind:Int)).wf=true from wf64 (by omega) (by omega)) (show (Lit.int .i64 (r.field:Int)).wf=true from wf64 (by omega) (by omega)) (show (Lit.int .i64 r.up).wf=true from wf64 (by omega) (by omega))
      repeat' first|refine sk40 ?_|(intro b;conv=>whnf)
      refine Ld.cellm (List.mem_append_right _ List.mem_cons_self) rfl ?_
      repeat' first|refine sk40 ?_|(intro b;conv=>whnf)
      refine OtE.mapUpdate (b:=rm) (F:=F) (k:=147) (e:=62) (kv:=lnV r) (kl:=kl) (τ:=sr ++ ((c,.cells 145 (ckL x w (slLn (aa4 x)) rm lm)) :: (lm,.mp Tryz.prog 9 fun _=>none) :: sa)) rfl rfl (KeyD.agg3 _ _ _) rfl cl4 aI3 Tryz.underlying142 hkl ?_
      repeat' first|refine sk40 ?_|(intro b;conv=>whnf)
      refine ⟨(q+1,updF F (lnV r) (.slice (some ⟨bo,0,none⟩) lu.length lu.length),sa ++ sr),(aa2 cl3),Sc.perm cl4,⟨by simp only;omega,?_,fun q' r' l' hq' hr2 hl2 y hy=>?_⟩,by simp only;omega⟩
      ·rw [ac7 hr]
       refine hA.push hR fun r' hr2=>?_
       obtain ⟨q',hq'⟩:=List.getElem?_of_mem hr2
       have hq2:=(List.getElem?_eq_some_iff.1 hq').1
       rw [List.length_take] at hq2
       rw [List.getElem?_take,if_pos (by omega)] at hq'
       exact ca6 hq' hr (by omega)
      ·by_cases e:q'=q
       ·subst e
        cases hr.symm.trans hr2
        cases hl.symm.trans hl2
        obtain ⟨i,hi⟩:=List.getElem?_of_mem hy
        exact hno3 i y (List.getElem?_eq_some_iff.1 hi).1 hi
       ·exact hno q' r' l' (by omega) hr2 hl2 y hy
    ·obtain rfl:q=(aa4 x).length:=by omega
     rw [List.take_length] at hA
     have hfit:fitW x w=true:=bP5 hlen hrows fun r hr l hl y hy=>by
      obtain ⟨q,hq⟩:=List.getElem?_of_mem hr
      exact hno q r l (List.getElem?_eq_some_iff.1 hq).1 hq hl y hy
     clear hno hrows
     have HB:=cc7 x.lives
     have hll:=hV.nl
     repeat' first|refine sk40 ?_|(intro b;conv=>whnf)
     refine bB6 (List.Perm.swap _ _ _) ?_
     refine bN0 mixed aa0 rfl (bG5 x.lives (by omega)) (fun y hy=>bG6 hy) rfl (γ:=Unit) (fun m _=>(lm,.mp Tryz.prog 9 (lvG (x.lives.drop (x.lives.length - m)))) :: (c,.cells 145 (ckL x w (slLn (aa4 x)) rm lm)) :: (rm,.obj (MapO Tryz.prog 147 F)) :: sa) (fun _ _=>True) () (by rw [show lvG (x.lives.drop (x.lives.length - 0))=fun _=>none by rw [Nat.sub_zero,List.drop_length,cd1]];exact cl2) trivial ?_ ?_
     ·rintro lb m _ y hy -
      obtain ⟨j,lf,h1,h2,rfl⟩:=aN9 hy
      have hnm:=bB9 (hV.lives lf (List.mem_of_getElem? h2))
      rw [show x.lives.length - m=j+1 by omega]
      repeat' first|refine sk40 ?_|(intro b;conv=>whnf)
      refine OtE.mapUpdateM (d:=lifD lf) (b:=lm) (k:=9) (e:=89) (kv:=.string lf.name) (τ:=(b,.cells 89 (lifC lf)) :: (c,.cells 145 (ckL x w (slLn (aa4 x)) rm lm)) :: (rm,.obj (MapO Tryz.prog 147 F)) :: sa) rfl rfl (KeyD.v _) rfl (List.Perm.swap _ _ _) (string_keyed Tryz.underlying9) Tryz.underlying143 (Go.WideMaps.keyOf_string_mk Tryz.underlying9 (by unfold maxLen;omega)) ?_
      repeat' first|refine sk40 ?_|(intro b;conv=>whnf)
      rw [bM9,← bF3 h2]
      exact ⟨(),by rw [show x.lives.length - (m+1)=j by omega];exact List.Sublist.cons_cons _ (List.sublist_cons_self _ _),trivial⟩
     ·rintro _ -
      rw [show x.lives.length - (be1 x.lives).length=0 by rw [aN8];omega,List.drop_zero]
      repeat' first|refine sk40 ?_|(intro b;conv=>whnf)
      exact Rt.by (Vs.perm (τ:=(c,.cells 145 (ckC x w (aa4 x) rm lm (.slice none 0 0))) :: (rm,.obj (MapO Tryz.prog 147 F)) :: (lm,.mp Tryz.prog 9 (lvG x.lives)) :: sa) (by refine ad8 fun a=>?_;simp only [ad9,cu0];omega)) (.inr ⟨hfit,c,rm,lm,F,sa,rfl,rfl,hA⟩)
 ·repeat' first|refine sk40 ?_|(intro b;conv=>whnf)
  exact Rt.by (Vs.drop (List.nil_sublist _)) (.inl ⟨bP6 hlen,rfl,rfl⟩)
end
section
open Go Go.Maps Go.MapKept
theorem bf1 (w:World):(zeroValue 62).run Tryz.prog w = .ok (.slice none 0 0) w:=by kernel_rfl
theorem bF9 {x:Sch} {w:Wd} {k i f:Nat} {kd:Knd} {d:Fld} {l:List (List Int)} {r:List Int} {n:Int} (L:List Rf) (c bk rm lm:Nat) (v:Value) (ks:List Int) (hk:x.kinds[k]?=some kd) (hf:kd.fields[f]?=some d) (hl:w[k]?=some l) (hr:l[i]?=some r) (hv:r[f]?=some n) (hn:InR n) (h3:d.kind=0∨d.kind=1∨d.kind=2)
  (b1:x.kinds.length≤1000000) (b2:kd.fields.length≤1000000) (b3:w.length≤1000000) (b4:l.length≤1000000) (b5:r.length≤1000000) :
  ACall Tryz.prog 68 [.v (.pointer (some ⟨c,0,none⟩)),iD k,iD i,iD f,.v (.map (some bk))] [(c,.cells 145 (ckC x w L rm lm v)),(bk,.obj (MapO Tryz.prog 3 (KF ks)))]
   (fun dd σ'=>dd=iD (codeF x w k kd r i f d ks)∧σ'=[(bk,.obj (MapO Tryz.prog 3 (KF (keyF r f d ks)))),(c,.cells 145 (ckC x w L rm lm v))]):=by
 have h:=bQ5 L bk rm lm v ks hk hf hl hr hv hn h3 b1 b2 b3 b4 b5
 have h2:=ACall.look (σ:=[(c,.cells 145 (ckC x w L rm lm v)),(bk,.obj (MapO Tryz.prog 3 (KF ks)))]) (ρ:=[(c,.cells 145 (ckC x w L rm lm v))]) (ds:=[.v (.pointer (some ⟨c,0,none⟩)),iD k,iD i,iD f,.v (.map (some bk))])
  (.cons (Vs.ptr (List.Perm.refl _)) (.cons (Vs.refl _ _) (.cons (Vs.refl _ _) (.cons (Vs.refl _ _) (.cons (Vs.refl _ _) (.nil _)))))) (List.Perm.swap _ _ _) h (fun d s hh=>⟨by rw [hh.1];rfl,by rw [hh.2];intro p hp;rw [List.mem_singleton] at hp;subst hp;trivial⟩)
 refine ⟨h2.ent,fun w X vs a b=>(h2.run w X vs a b).mono ?_⟩
 rintro e w' ⟨u,d,σ',g1,⟨s,rfl,g2,rfl⟩,g3⟩
 exact ⟨u,d,_,g1,⟨g2,rfl⟩,g3⟩
theorem ak8 {x:Sch} {w:Wd} (h:fitW x w=true):w.length=x.kinds.length∧(∀ (k:Nat) l,w[k]?=some l→an4 x k l=true)∧∀ r∈aa4 x,∀ l,w[r.kind]?=some l→∀ y∈l,refOk w r y=true:=by
 unfold fitW at h
 simp only [Bool.and_eq_true,decide_eq_true_eq,List.all_eq_true] at h
 obtain ⟨⟨h1,h2⟩,h3⟩:=h
 refine ⟨h1,fun k l hl=>?_,fun r hr l hl y hy=>?_⟩
 ·have:=h2 k (List.mem_range.2 (List.getElem?_eq_some_iff.1 hl).1)
  rwa [aa6 hl] at this
 ·have:=h3 r hr y
  rw [aa6 hl] at this
  exact this hy
theorem aX2 (x:Sch) (w:Wd) (r:Rf) (j:Nat):(degP x w r j).length≤1:=by unfold degP;split;exact av3 ..;simp
theorem aN0 {x:Sch} {w:Wd} (hw:Ws w) (q:Nat):(au8 x w q).length≤1000:=by
 unfold au8
 split
 ·rename_i r hr
  have h1:=ab9 (aX2 x w r) (w.getD r.up.toNat []).length
  have h2:(w.getD r.up.toNat []).length≤1000:=by
   cases hl:w[r.up.toNat]? with
   | none=>rw [List.getD_eq_getElem?_getD,hl];simp
   | some l=>rw [aa6 hl];exact hw.nr l (List.mem_of_getElem? hl)
  omega
 ·simp
structure Easy (x:Sch):Prop where
 rules:x.rules=[]
 kinds:∀ k∈x.kinds,∀ f∈k.fields,f.kind=0∨f.kind=1∨f.kind=2
theorem aB9 (x:Sch) (w:Wd) (k:Nat):(limP x w k).length≤1:=by unfold limP;split;exact av3 ..;simp
theorem aC7 (x:Sch) (w:Wd) (k:Nat) (kd:Knd) (l:List (List Int)) (i:Nat) (r:List Int) (f:Nat):(fldP x w k kd l i r f).length≤1:=by unfold fldP;split;exact av3 ..;simp
theorem bm1 {x:Sch} (hE:Easy x) {w:Wd} {k:Nat} {kd:Knd} {l:List (List Int)} (hrec:∀ y∈l,recOk x k y=true) (hnf:∀ k∈x.kinds,k.fields.length≤10) (hkd:x.kinds[k]?=some kd) (i:Nat):(recP x w k kd l i).length≤10:=by
 unfold recP
 split
 ·rename_i r hr
  have h1:=ab9 (aC7 x w k kd l i r) r.length
  have h2:=(ao0 hkd (hrec r (List.mem_of_getElem? hr))).1
  have h3:=hnf kd (List.mem_of_getElem? hkd)
  rw [hE.rules]
  simp only [List.length_nil,List.length_append]
  have:(upTo 0 (rulP x k kd i r)).length=0:=rfl
  omega
 ·simp
theorem bC7 {x:Sch} (hE:Easy x) {w:Wd} (hrows:∀ (k:Nat) l,w[k]?=some l→an4 x k l=true) (hnf:∀ k∈x.kinds,k.fields.length≤10) (k:Nat):(knP x w k).length≤5120:=by
 unfold knP
 split
 ·rename_i kd hkd
  cases hl:w[k]? with
  | none=>rw [List.getD_eq_getElem?_getD,hl];simp [upTo]
  | some l=>
   rw [aa6 hl]
   obtain ⟨h1,h2⟩:=ak5 (hrows k l hl)
   have:=ab9 (bm1 hE h2 hnf hkd (w:=w)) l.length
   omega
 ·simp
theorem sk43 {A B:Prop} (k:B) (h:Hd7 B→A:=by intro hk7q;(first|refine sb0 ?_|refine sb1 ?_|((with_reducible refine' Cp.by ?hc ?_);(case hc=>first|exact ah5 _ _|exact HN))|((with_reducible refine' CE.pure ?hc ?_);(case hc=>first|exact ah5 _ _|exact HN)));exact hk7q.run):A:=h ⟨k⟩
theorem sb44 {A B:Prop} (k:B) (h:Hd7 B→A:=by intro hk7q;(first|(with_reducible refine Bc.l ?_)|(with_reducible refine Bx.l ?_)|(with_reducible refine Dr.r ?_)|((with_reducible refine Dm.l ?h ?_);(case h=>decide +kernel))|((with_reducible refine Cb.go ?h ?_);(case h=>decide +kernel)));exact hk7q.run):A:=h ⟨k⟩
theorem sk45 {A B:Prop} (k:B) (h:Hd7 B→A:=by intro hk7q;(first|refine sb0 ?_|refine sb44 ?_|((with_reducible refine' Cp.by ?hc ?_);(case hc=>first|exact ah5 _ _|exact HN))|((with_reducible refine' CE.pure ?hc ?_);(case hc=>first|exact ah5 _ _|exact HN)));exact hk7q.run):A:=h ⟨k⟩
theorem sq0 {A B:Prop} (k:B) (h:Hd7 B→A:=by intro hk7q;(first|refine sk43 ?_|(with_reducible refine Br.t (beq_self_eq_true _) ?_)|(with_reducible refine Br.f Bool.not_true ?_)|(with_reducible refine Br.t (decide_eq_true trivial) ?_));exact hk7q.run):A:=h ⟨k⟩
theorem sq1 {A B:Prop} (k:B) (h:Hd7 B→A:=by intro hk7q;(first|refine sk45 ?_|(with_reducible refine Br.t (beq_self_eq_true _) ?_)|(with_reducible refine Br.f Bool.not_true ?_)|(with_reducible refine Br.t (decide_eq_true trivial) ?_));exact hk7q.run):A:=h ⟨k⟩
theorem cl5 {p:Prop} (h:p:=by rw [show ao3 kd l 0=[] from rfl,cu9];refine ad8 fun a=>?_;simp only [List.append_eq,List.nil_append,ad9,ah8,ah7];omega):p:=h
theorem bQ6 (x:Sch) (w:Wd) (hw:Ws w) (hp:ah6 x=[]) (hE:Easy x) (HV:APure Tryz.prog 143 [schD x] (iD (ai3 x))):APure Tryz.prog 27 [schD x,slW w] (.sl 4 ((ak4 x w).map prbC)):=by
 have HN:=bA7 x w hw hp HV
 have hS:=aF0 hp
 have hV:=hS.vld
 have hnk:=hV.nk
 have hnf:=hV.nf
 have hwl:=hw.nk
 have hl6:x.kinds.length≤1000000:=by omega
 have hrl:=aH8 hV
 refine eP7 Tryz.func27 Tryz.ntmps27 fun BB=>?_
 repeat' first|refine sk43 ?_|(intro b;conv=>whnf)
 refine CE.own HN (List.Perm.refl ([] ++ [])) (fun s'=>s') (fun s'=>by simp) ?_
 rintro d σ (⟨hfit,rfl,rfl⟩|⟨hfit,c,rm,lm,F,sa,rfl,rfl,hA⟩)
 ·repeat' first|refine sk43 ?_|(intro b;conv=>whnf)
  exact Rt.pure (by unfold ak4;rw [hfit];rfl)
 ·obtain ⟨hlen,hrows,hrefs⟩:=ak8 hfit
  obtain ⟨R,hR⟩:∃ R:aa1,R=(rm,.obj (MapO Tryz.prog 147 F)) :: (lm,.mp Tryz.prog 9 (lvG x.lives)) :: sa:=⟨_,rfl⟩
  rw [← hR]
  repeat' first|refine sq0 ?_|(intro b;conv=>whnf)
  refine aa5 mixed aa0 (γ:=Nat × Value × aa1) (fun g=>[(35,iD g.1)]) (fun g=>(c,.cells 145 (ckC x w (aa4 x) rm lm g.2.1)) :: (g.2.2 ++ R)) (fun g=>g.1≤w.length∧RowIs 135 4 ((upTo g.1 (limP x w)).map prbC) g.2.1 g.2.2) (fun g=>w.length - g.1) (0,.slice none 0 0,[]) (aa2 cl3) (Sc.refl _) ⟨Nat.zero_le _,RowIs.nil _ _⟩ ?_
  rintro ⟨k,v,s⟩ ⟨hk,hrow⟩
  simp only at hk hrow ⊢
  by_cases hkl:k<w.length
  ·obtain ⟨l,hl⟩:∃ l,w[k]?=some l:=⟨_,List.getElem?_eq_getElem hkl⟩
   have hl':w[((k:Nat):Int).toNat]?=some l:=hl
   obtain ⟨kd,hkd⟩:∃ y,x.kinds[k]?=some y:=⟨_,List.getElem?_eq_getElem (by omega)⟩
   have hkd':x.kinds[((k:Nat):Int).toNat]?=some kd:=hkd
   have hll:=hw.nr l (List.mem_of_getElem? hl)
   have hSL:=ac4 k (limP x w)
   have hLP:limP x w k=one k (-1) (-1) (if (l.length:Int)<kd.lo∨kd.hi<(l.length:Int) then 4 else 0):=by unfold limP;rw [hkd,aa6 hl]
   have hlen1:=ab9 (aB9 x w) k
   rw [hLP] at hSL
   by_cases h1:(l.length:Int)<kd.lo
   ·rw [if_pos (.inl h1)] at hSL
    repeat' first|refine sq0 ?_|(intro b;conv=>whnf)
    (refine CE.own (aq2 x w (aa4 x) rm lm c _ _ _ _ _ _ _ hrow (by (try simp only [List.length_append]);omega)) (List.Perm.refl _) (fun s'=>s' ++ _) (fun s'=>List.Perm.refl _) ?_;rintro _ _ ⟨v',s',rfl,rfl,hr'⟩)
    repeat' first|refine sq0 ?_|(intro b;conv=>whnf)
    exact ⟨(k+1,v',s'),(aa2 cl3),Sc.refl _,⟨by simp only;omega,by rw [hSL];exact hr'⟩,by simp only;omega⟩
   ·by_cases h2:kd.hi<(l.length:Int)
    ·rw [if_pos (.inr h2)] at hSL
     repeat' first|refine sq0 ?_|(intro b;conv=>whnf)
     (refine CE.own (aq2 x w (aa4 x) rm lm c _ _ _ _ _ _ _ hrow (by (try simp only [List.length_append]);omega)) (List.Perm.refl _) (fun s'=>s' ++ _) (fun s'=>List.Perm.refl _) ?_;rintro _ _ ⟨v',s',rfl,rfl,hr'⟩)
     repeat' first|refine sq0 ?_|(intro b;conv=>whnf)
     exact ⟨(k+1,v',s'),(aa2 cl3),Sc.refl _,⟨by simp only;omega,by rw [hSL];simpa [h2] using hr'⟩,by simp only;omega⟩
    ·rw [if_neg (by omega)] at hSL
     repeat' first|refine sq0 ?_|(intro b;conv=>whnf)
     (refine CE.own (aq2 x w (aa4 x) rm lm c _ _ _ _ _ _ _ hrow (by (try simp only [List.length_append]);omega)) (List.Perm.refl _) (fun s'=>s' ++ _) (fun s'=>List.Perm.refl _) ?_;rintro _ _ ⟨v',s',rfl,rfl,hr'⟩)
     repeat' first|refine sq0 ?_|(intro b;conv=>whnf)
     exact ⟨(k+1,v',s'),(aa2 cl3),Sc.refl _,⟨by simp only;omega,by rw [hSL];simpa [h2] using hr'⟩,by simp only;omega⟩
  ·obtain rfl:k=w.length:=by omega
   have hlen1:=ab9 (aB9 x w) w.length
   generalize hL1:upTo w.length (limP x w)=L1 at *
   repeat' first|refine sq0 ?_|(intro b;conv=>whnf)
   refine aa5 mixed aa0 (γ:=Nat × Value × aa1) (fun g=>[(68,iD g.1)]) (fun g=>(c,.cells 145 (ckC x w (aa4 x) rm lm g.2.1)) :: (g.2.2 ++ R)) (fun g=>g.1≤w.length∧RowIs 135 4 ((L1 ++ upTo g.1 (knP x w)).map prbC) g.2.1 g.2.2) (fun g=>w.length - g.1) (0,v,s) (aa2 cl3) (Sc.refl _) ⟨Nat.zero_le _,by simpa [upTo] using hrow⟩ ?_
   clear hrow
   rintro ⟨k,v,s⟩ ⟨hk,hrow⟩
   simp only at hk hrow ⊢
   by_cases hkl:k<w.length
   ·obtain ⟨l,hl⟩:∃ l,w[k]?=some l:=⟨_,List.getElem?_eq_getElem hkl⟩
    have hl':w[((k:Nat):Int).toNat]?=some l:=hl
    obtain ⟨kd,hkd⟩:∃ y,x.kinds[k]?=some y:=⟨_,List.getElem?_eq_getElem (by omega)⟩
    have hkd':x.kinds[((k:Nat):Int).toNat]?=some kd:=hkd
    have hll:=hw.nr l (List.mem_of_getElem? hl)
    have hlf:=hw.nf l (List.mem_of_getElem? hl)
    have hkf:=hnf kd (List.mem_of_getElem? hkd)
    have hSK:=ac4 k (knP x w)
    have hKP:knP x w k=upTo l.length (recP x w k kd l):=by unfold knP;rw [hkd,aa6 hl]
    rw [hKP] at hSK
    have hlen2:(upTo k (knP x w)).length≤100000:=by have:=ab9 (bC7 hE hrows hnf) k;omega
    have hrec:=(ak5 (hrows k l hl)).2
    generalize hL2:upTo k (knP x w)=L2 at *
    repeat' first|refine sq0 ?_|(intro b;conv=>whnf)
    refine OtE.makeMap (k:=3) rfl (fun bk=>?_)
    repeat' first|refine sq0 ?_|(intro b;conv=>whnf)
    refine aa5 mixed aa0 (γ:=Nat × Value × aa1) (fun g=>[(76,iD g.1)]) (fun g=>(c,.cells 145 (ckC x w (aa4 x) rm lm g.2.1)) :: (g.2.2 ++ ((bk,.obj (MapO Tryz.prog 3 (KF (ao3 kd l g.1)))) :: R))) (fun g=>g.1≤l.length∧RowIs 135 4 ((L1 ++ L2 ++ upTo g.1 (recP x w k kd l)).map prbC) g.2.1 g.2.2) (fun g=>l.length - g.1) (0,v,s) (aa2 cl3) (Sc.perm cl5) ⟨Nat.zero_le _,by simpa [upTo] using hrow⟩ ?_
    clear hrow
    rintro ⟨i,v,s⟩ ⟨hi,hrow⟩
    simp only at hi hrow ⊢
    by_cases hil:i<l.length
    ·obtain ⟨r,hr⟩:∃ r,l[i]?=some r:=⟨_,List.getElem?_eq_getElem hil⟩
     have hr':l[((i:Nat):Int).toNat]?=some r:=hr
     have hrf:=hlf r (List.mem_of_getElem? hr)
     obtain ⟨hrl,hrn⟩:=ao0 hkd (hrec r (List.mem_of_getElem? hr))
     have hSR:=ac4 i (recP x w k kd l)
     have hRP:recP x w k kd l i=upTo r.length (fldP x w k kd l i r):=by unfold recP;rw [hr,hE.rules];simp [upTo]
     rw [hRP] at hSR
     have hlen3:(upTo i (recP x w k kd l)).length≤100000:=by have:=ab9 (bm1 hE hrec hnf hkd (w:=w)) i;omega
     generalize hL3:upTo i (recP x w k kd l)=L3 at *
     have hKK:ao3 kd l (i+1)=an3 kd r (ao3 kd l i) r.length:=by show (match l[i]? with|some r=>an3 kd r (ao3 kd l i) r.length|none=>ao3 kd l i)=_;rw [hr]
     generalize hK0:ao3 kd l i=K0 at *
     repeat' first|refine sq0 ?_|(intro b;conv=>whnf)
     refine aa5 mixed aa0 (γ:=Nat × Value × aa1) (fun g=>[(83,iD g.1)]) (fun g=>(c,.cells 145 (ckC x w (aa4 x) rm lm g.2.1)) :: (g.2.2 ++ ((bk,.obj (MapO Tryz.prog 3 (KF (an3 kd r K0 g.1)))) :: R))) (fun g=>g.1≤r.length∧RowIs 135 4 ((L1 ++ L2 ++ L3 ++ upTo g.1 (fldP x w k kd l i r)).map prbC) g.2.1 g.2.2) (fun g=>r.length - g.1) (0,v,s) (aa2 cl3) (Sc.refl _) ⟨Nat.zero_le _,by simpa [upTo] using hrow⟩ ?_
     clear hrow
     rintro ⟨f,v,s⟩ ⟨hf,hrow⟩
     simp only at hf hrow ⊢
     by_cases hfl:f<r.length
     ·obtain ⟨n,hn⟩:∃ n,r[f]?=some n:=⟨_,List.getElem?_eq_getElem hfl⟩
      obtain ⟨d,hd⟩:∃ d,kd.fields[f]?=some d:=⟨_,List.getElem?_eq_getElem (by omega)⟩
      have hnb:=hrn n (List.mem_of_getElem? hn)
      have h3:=hE.kinds kd (List.mem_of_getElem? hkd) d (List.mem_of_getElem? hd)
      have hKF:an3 kd r K0 (f+1)=keyF r f d (an3 kd r K0 f):=by show (match kd.fields[f]? with|some d=>keyF r f d (an3 kd r K0 f)|none=>an3 kd r K0 f)=_;rw [hd]
      have hSF:=ac4 f (fldP x w k kd l i r)
      have hlen4:=ab9 (aC7 x w k kd l i r) f
      have hFP:fldP x w k kd l i r f=one k i f (codeF x w k kd r i f d (an3 kd r K0 f)):=by unfold fldP;rw [hd,hK0]
      rw [hFP] at hSF
      have HF:=bF9 (aa4 x) c bk rm lm v (an3 kd r K0 f) hkd hd hl hr hn ⟨by omega,by omega⟩ h3 hl6 (by omega) (by omega) (by omega) (by omega)
      repeat' first|refine sq0 ?_|(intro b;conv=>whnf)
      refine CE.own HF (t:=s ++ R) cl4 (fun s'=>s' ++ (s ++ R)) (fun s'=>List.Perm.refl _) ?_
      rintro _ _ ⟨rfl,rfl⟩
      repeat' first|refine sq0 ?_|(intro b;conv=>whnf)
      refine CE.own (aq2 x w (aa4 x) rm lm c _ _ _ _ _ _ _ hrow (by simp only [List.length_append];omega)) (t:=(bk,.obj (MapO Tryz.prog 3 (KF (keyF r f d (an3 kd r K0 f))))) :: R) cl4 (fun s'=>s' ++ _) (fun s'=>List.Perm.refl _) ?_
      rintro _ _ ⟨v',s',rfl,rfl,hr'⟩
      repeat' first|refine sq0 ?_|(intro b;conv=>whnf)
      exact ⟨(f+1,v',s'),(aa2 cl3),by rw [hKF];exact Sc.refl _,⟨by simp only;omega,by rw [hSF,← List.append_assoc];exact hr'⟩,by simp only;omega⟩
     ·obtain rfl:f=r.length:=by omega
      have hru:x.rules.length=0:=by rw [hE.rules];rfl
      rw [← hKK]
      repeat' first|refine sq0 ?_|(intro b;conv=>whnf)
      refine aa5 mixed aa0 (γ:=Unit) (fun _=>[(102,iD 0)]) (fun _=>(c,.cells 145 (ckC x w (aa4 x) rm lm v)) :: (s ++ ((bk,.obj (MapO Tryz.prog 3 (KF (ao3 kd l (i+1))))) :: R))) (fun _=>True) (fun _=>0) () (aa2 cl3) (Sc.refl _) trivial ?_
      rintro _ -
      repeat' first|refine sq0 ?_|(intro b;conv=>whnf)
      exact ⟨(i+1,v,s),(aa2 cl3),Sc.refl _,⟨by simp only;omega,by rw [hSR,← List.append_assoc];exact hrow⟩,by simp only;omega⟩
    ·obtain rfl:i=l.length:=by omega
     repeat' first|refine sq0 ?_|(intro b;conv=>whnf)
     exact ⟨(k+1,v,s),(aa2 cl3),Sc.sl ((List.Sublist.append_left (List.sublist_cons_self _ _) s).cons_cons _),⟨by simp only;omega,by rw [hSK,← List.append_assoc];exact hrow⟩,by simp only;omega⟩
   ·obtain rfl:k=w.length:=by omega
    have hlen2:(upTo w.length (knP x w)).length≤100000:=by have:=ab9 (bC7 hE hrows hnf) w.length;omega
    generalize hL2:upTo w.length (knP x w)=L2 at *
    repeat' first|refine sq0 ?_|(intro b;conv=>whnf)
    refine aa5 mixed aa0 (γ:=Nat × Value × aa1) (fun g=>[(137,iD g.1)]) (fun g=>(c,.cells 145 (ckC x w (aa4 x) rm lm g.2.1)) :: (g.2.2 ++ R)) (fun g=>g.1≤(aa4 x).length∧RowIs 135 4 ((L1 ++ L2 ++ upTo g.1 (au8 x w)).map prbC) g.2.1 g.2.2) (fun g=>(aa4 x).length - g.1) (0,v,s) (aa2 cl3) (Sc.refl _) ⟨Nat.zero_le _,by simpa [upTo] using hrow⟩ ?_
    clear hrow
    rintro ⟨q,v,s⟩ ⟨hq,hrow⟩
    simp only at hq hrow ⊢
    by_cases hql:q<(aa4 x).length
    ·obtain ⟨r,hr⟩:∃ r,(aa4 x)[q]?=some r:=⟨_,List.getElem?_eq_getElem hql⟩
     have hr':(aa4 x)[((q:Nat):Int).toNat]?=some r:=hr
     have hrm:=List.mem_of_getElem? hr
     obtain ⟨u1,u2,u3⟩:=hS.up r hrm
     obtain ⟨kd,d,hkd,hd,_⟩:=aI2 hrm
     have hkd':x.kinds[((r.kind:Nat):Int).toNat]?=some kd:=hkd
     have hd':kd.fields[((r.field:Nat):Int).toNat]?=some d:=hd
     have hkf:=hnf kd (List.mem_of_getElem? hkd)
     have hfl:=(List.getElem?_eq_some_iff.1 hd).1
     obtain ⟨lu,hlu⟩:∃ l,w[r.up.toNat]?=some l:=⟨_,List.getElem?_eq_getElem (by omega)⟩
     obtain ⟨l,hl⟩:∃ l,w[r.kind]?=some l:=⟨_,List.getElem?_eq_getElem (by omega)⟩
     have hlul:=hw.nr lu (List.mem_of_getElem? hlu)
     have hll:=hw.nr l (List.mem_of_getElem? hl)
     have hadj:adjR w r=adjL l r.field lu.length:=by unfold adjR;rw [aa6 hl,aa6 hlu]
     have hSQ:=ac4 q (au8 x w)
     have hQP:au8 x w q=upTo lu.length (degP x w r):=by unfold au8;rw [hr];show upTo (w.getD r.up.toNat []).length _=_;rw [aa6 hlu]
     rw [hQP] at hSQ
     have hlen3:(upTo q (au8 x w)).length≤6000000:=by have:=ab9 (aN0 (x:=x) hw) q;omega
     generalize hL3:upTo q (au8 x w)=L3 at *
     obtain ⟨kl,hkl⟩:=bn5 (show (Lit.int .i64 (r.kind:Int)).wf=true from wf64 (by omega) (by omega)) (show (Lit.int .i64 (r.field:Int)).wf=true from wf64 (by omega) (by omega)) (show (Lit.int .i64 r.up).wf=true from wf64 (by omega) (by omega))
     obtain ⟨va,ta,τa,hFv,hRW,hpa⟩:=hA.at hr
     rw [hadj] at hRW
     obtain ⟨aa,ca,rfl⟩:=RowsOf.slice hRW
     rw [ap3] at *
     have om:(rm,Blk.obj (MapO Tryz.prog 147 F))∈R:=by rw [hR];exact List.mem_cons_self
     repeat' first|refine sq0 ?_|(intro b;conv=>whnf)
     refine Ot.yd (ar2 (kv:=lnV r) (u:=.slice aa lu.length ca) rfl rfl (KeyD.agg3 _ _ _) (List.mem_cons_of_mem _ (List.mem_cons_of_mem _ (List.mem_cons_of_mem _ (List.mem_append_right _ om)))) (fun _ h=>h) aI3 Tryz.underlying142 bf1 hkl (by rw [hFv];rfl)) ?_
     repeat' first|refine sq0 ?_|(intro b;conv=>whnf)
     rename_i b18
     refine af2 (i:=19) (d:=.v (.pointer (some ⟨b,0,none⟩))) (d':=.ro (fldC d)) (τ:=(b18,.cells 147 (lnC r)) :: (c,.cells 145 (ckC x w (aa4 x) rm lm v)) :: (s ++ R)) rfl (fun h=>by cases h) (Vs.ptr (tb:=97) (List.Perm.refl _)) ?_
     refine af2 (i:=18) (d:=.v (.pointer (some ⟨b18,0,none⟩))) (d':=.ro (lnC r)) (τ:=(c,.cells 145 (ckC x w (aa4 x) rm lm v)) :: (s ++ R)) rfl (fun h=>by cases h) (Vs.ptr (tb:=147) (List.Perm.refl _)) ?_
     refine aa5 mixed aa0 (γ:=Nat × Value × aa1) (fun g=>[(159,iD g.1)]) (fun g=>(c,.cells 145 (ckC x w (aa4 x) rm lm g.2.1)) :: (g.2.2 ++ R)) (fun g=>g.1≤lu.length∧RowIs 135 4 ((L1 ++ L2 ++ L3 ++ upTo g.1 (degP x w r)).map prbC) g.2.1 g.2.2) (fun g=>lu.length - g.1) (0,v,s) (aa2 cl3) (Sc.refl _) ⟨Nat.zero_le _,by simpa [upTo] using hrow⟩ ?_
     clear hrow
     rintro ⟨j,v,s⟩ ⟨hj,hrow⟩
     simp only at hj hrow ⊢
     by_cases hjl:j<lu.length
     ·obtain ⟨b0,cap0,cs0,u,t,τ,e0,p0,c0,hu,_⟩:=RowsOf.at hRW (aw2 (f:=r.field) l hjl)
      rw [ap3] at e0
      cases e0
      obtain ⟨a1,ca1,rfl⟩:=RowIs.slice hu
      rw [List.length_map] at c0
      have hlen5:=ab9 (aX2 x w r) j
      have hSJ:=ac4 j (degP x w r)
      have hdeg:degE w r j=(idxs l r.field j).length:=by rw [aC5];unfold degE;rw [aa6 hl]
      have hfa:fieldAt x r.kind r.field=some d:=by rw [af7 (by omega) (by omega) (by simpa using hkd)];simpa using hd
      have hJP:degP x w r j=one r.kind j r.field (if ((idxs l r.field j).length:Int)<d.lo∨d.hi<((idxs l r.field j).length:Int) then 11 else 0):=by unfold degP;rw [hfa,hdeg]
      rw [hJP] at hSJ
      generalize (idxs l r.field j).length=m at *
      have mo:(b0,Blk.cells 22 cs0)∈R:=by rw [hR];exact List.mem_cons_of_mem _ (List.mem_cons_of_mem _ (hpa.mem_iff.2 (List.mem_append_left _ (p0.mem_iff.2 List.mem_cons_self))))
      have lds:∀ z:Nat × Blk,(b0,Blk.cells 22 cs0)∈z :: (s ++ R):=fun z=>List.mem_cons_of_mem _ (List.mem_append_right _ mo)
      by_cases h1:(m:Int)<d.lo
      ·rw [if_pos (.inl h1)] at hSJ
       repeat' first|refine sq1 ?_|(intro b;conv=>whnf)
       refine Ld.cellm (tb:=22) (cs:=cs0) (lds _) (by rw [ix1];exact c0) ?_
       ((repeat' (first|refine sq1 ?_|(intro b;conv=>whnf)));(refine ah2 mixed aa0 rfl [0,1,2,3,4,5,6,7,8,9,10,11,12,13,14,15,16,17,18,19] 1 (inE [20]) (.one 20 .done) (γ:=Value × aa1) (fun _=>[]) (fun g=>(c,.cells 145 (ckC x w (aa4 x) rm lm g.1)) :: (g.2 ++ R)) (fun g=>RowIs 135 4 ((L1 ++ L2 ++ L3 ++ upTo (j+1) (degP x w r)).map prbC) g.1 g.2) (by decide +kernel) ?_ ?_))
       ·repeat' first|refine sq1 ?_|(intro b;conv=>whnf)
        (refine CE.own (aq2 x w (aa4 x) rm lm c _ _ _ _ _ _ _ hrow (by (try simp only [List.length_append]);omega)) (List.Perm.refl _) (fun s'=>s' ++ _) (fun s'=>List.Perm.refl _) ?_;rintro _ _ ⟨v',s',rfl,rfl,hr'⟩)
        repeat' first|refine sq1 ?_|(intro b;conv=>whnf)
        exact ⟨(v',s'),(aa2 cl3),Sc.refl _,by rw [hSJ,← List.append_assoc];exact hr'⟩
       ·rintro ⟨v',s'⟩ hr'
        repeat' first|refine sq1 ?_|(intro b;conv=>whnf)
        exact ⟨(j+1,v',s'),(aa2 cl3),Sc.refl _,⟨by simp only;omega,hr'⟩,by simp only;omega⟩
      ·by_cases h2:d.hi<(m:Int)
       ·rw [if_pos (.inr h2)] at hSJ
        repeat' first|refine sq1 ?_|(intro b;conv=>whnf)
        refine Ld.cellm (tb:=22) (cs:=cs0) (lds _) (by rw [ix1];exact c0) ?_
        ((repeat' (first|refine sq1 ?_|(intro b;conv=>whnf)));(refine ah2 mixed aa0 rfl [0,1,2,3,4,5,6,7,8,9,10,11,12,13,14,15,16,17,18,19] 1 (inE [20]) (.one 20 .done) (γ:=Value × aa1) (fun _=>[]) (fun g=>(c,.cells 145 (ckC x w (aa4 x) rm lm g.1)) :: (g.2 ++ R)) (fun g=>RowIs 135 4 ((L1 ++ L2 ++ L3 ++ upTo (j+1) (degP x w r)).map prbC) g.1 g.2) (by decide +kernel) ?_ ?_))
        ·repeat' first|refine sq1 ?_|(intro b;conv=>whnf)
         (refine CE.own (aq2 x w (aa4 x) rm lm c _ _ _ _ _ _ _ hrow (by (try simp only [List.length_append]);omega)) (List.Perm.refl _) (fun s'=>s' ++ _) (fun s'=>List.Perm.refl _) ?_;rintro _ _ ⟨v',s',rfl,rfl,hr'⟩)
         repeat' first|refine sq1 ?_|(intro b;conv=>whnf)
         exact ⟨(v',s'),(aa2 cl3),Sc.refl _,by rw [hSJ,← List.append_assoc];simpa [h2] using hr'⟩
        ·rintro ⟨v',s'⟩ hr'
         repeat' first|refine sq1 ?_|(intro b;conv=>whnf)
         exact ⟨(j+1,v',s'),(aa2 cl3),Sc.refl _,⟨by simp only;omega,hr'⟩,by simp only;omega⟩
       ·rw [if_neg (by omega)] at hSJ
        repeat' first|refine sq1 ?_|(intro b;conv=>whnf)
        refine Ld.cellm (tb:=22) (cs:=cs0) (lds _) (by rw [ix1];exact c0) ?_
        ((repeat' (first|refine sq1 ?_|(intro b;conv=>whnf)));(refine ah2 mixed aa0 rfl [0,1,2,3,4,5,6,7,8,9,10,11,12,13,14,15,16,17,18,19] 1 (inE [20]) (.one 20 .done) (γ:=Value × aa1) (fun _=>[]) (fun g=>(c,.cells 145 (ckC x w (aa4 x) rm lm g.1)) :: (g.2 ++ R)) (fun g=>RowIs 135 4 ((L1 ++ L2 ++ L3 ++ upTo (j+1) (degP x w r)).map prbC) g.1 g.2) (by decide +kernel) ?_ ?_))
        ·repeat' first|refine sq1 ?_|(intro b;conv=>whnf)
         (refine CE.own (aq2 x w (aa4 x) rm lm c _ _ _ _ _ _ _ hrow (by (try simp only [List.length_append]);omega)) (List.Perm.refl _) (fun s'=>s' ++ _) (fun s'=>List.Perm.refl _) ?_;rintro _ _ ⟨v',s',rfl,rfl,hr'⟩)
         repeat' first|refine sq1 ?_|(intro b;conv=>whnf)
         exact ⟨(v',s'),(aa2 cl3),Sc.refl _,by rw [hSJ,← List.append_assoc];simpa [h2] using hr'⟩
        ·rintro ⟨v',s'⟩ hr'
         repeat' first|refine sq1 ?_|(intro b;conv=>whnf)
         exact ⟨(j+1,v',s'),(aa2 cl3),Sc.refl _,⟨by simp only;omega,hr'⟩,by simp only;omega⟩
     ·obtain rfl:j=lu.length:=by omega
      repeat' first|refine sq0 ?_|(intro b;conv=>whnf)
      exact ⟨(q+1,v,s),(aa2 cl3),Sc.refl _,⟨by simp only;omega,by rw [hSQ,← List.append_assoc];exact hrow⟩,by simp only;omega⟩
    ·obtain rfl:q=(aa4 x).length:=by omega
     have hC:ak4 x w=L1 ++ L2 ++ upTo (aa4 x).length (au8 x w):=by unfold ak4;rw [if_pos hfit,hL1,hL2]
     repeat' first|refine sq0 ?_|(intro b;conv=>whnf)
     rw [hC]
     exact Rt.vs (Vs.row hrow (τ:=(c,.cells 145 (ckC x w (aa4 x) rm lm v)) :: R) cl4)
end
section
open Go
section
variable {P:Program} {σ:aa1} {ρ:Operand→D}
theorem af9 {o:Oper} {b:BinOp} {t t':TypeId} {x y:Operand} {u v r:Value} (ho:o.op = .binOp b t x y t') (hx:ρ x = .v u) (hy:ρ y = .v v)
  (h:∀ w:World,(do eqGuard b t x y u v;binOp b t u v).run P w = .ok r w):Yd P o ρ σ (.v r):=by
 intro w X η hη hst
 obtain ⟨dst,op,ty,pos,aft,g⟩:=o
 simp only at ho
 subst ho
 have h1:=(hη x (by simp [Op.operands])).val hx
 have h2:=(hη y (by simp [Op.operands])).val hy
 have:=h w
 rw [← h1,← h2] at this
 exact ae0 this (Ex.refl w) (.v _)
theorem cv0 {o:Oper} {b:UnOp} {t:TypeId} {x:Operand} {u r:Value} (ho:o.op = .unOp b t x) (hx:ρ x = .v u)
  (h:∀ w:World,(Op.unary b u).run P w = .ok r w):Yd P o ρ σ (.v r):=by
 intro w X η hη hst
 obtain ⟨dst,op,ty,pos,aft,g⟩:=o
 simp only at ho
 subst ho
 have h1:=(hη x (by simp [Op.operands])).val hx
 have:=h w
 rw [← h1] at this
 exact ae0 this (Ex.refl w) (.v _)
end
abbrev W32:=BitVec 32
abbrev wV (x:W32):Value:=.int .u32 ((x.toNat:Nat):Int)
abbrev wD (x:W32):D:=.v (wV x)
theorem bA4 (n:Nat) (x:BitVec n):BitVec.ofInt n ((x.toNat:Nat):Int)=x:=by
 rw [BitVec.ofInt_natCast];simp
theorem cj4 (x:W32):IntKind.u32.wrap ((x.toNat:Nat):Int)=((x.toNat:Nat):Int):=by
 have:=x.isLt
 rw [IntKind.wrap_u32];omega
section
variable {P:Program} {t:TypeId} {p q:Operand} {w:World}
theorem cw0 (x y:W32):(do eqGuard .or t p q (wV x) (wV y);binOp .or t (wV x) (wV y)).run P w = .ok (wV (x ||| y)) w:=by
 show Result.ok (Value.int .u32 (IntKind.u32.wrap (((BitVec.ofInt 32 ((x.toNat:Nat):Int) ||| BitVec.ofInt 32 ((y.toNat:Nat):Int)).toNat:Nat):Int))) w=_
 rw [bA4,bA4,cj4]
theorem bP8 (a n:Nat):((a:Nat):Int).fdiv (2 ^ n)=((a / 2 ^ n:Nat):Int):=by
 rw [Int.fdiv_eq_ediv_of_nonneg _ (by exact Int.pow_nonneg (by decide))]
 simp
theorem az9 (kk:IntKind) (a:Nat) (k:IntKind) (n:Nat) (hn:n≤kk.bits):(do eqGuard .shr t p q (.int kk (a:Int)) (.int k (n:Int));binOp .shr t (.int kk (a:Int)) (.int k (n:Int))).run P w = .ok (.int kk ((a / 2 ^ n:Nat):Int)) w:=by
 have hm:min n kk.bits=n:=by omega
 show (Op.shift .shr kk (a:Int) k (n:Int)).run P w=_
 unfold Op.shift
 rw [if_neg (by omega),Int.toNat_natCast,hm]
 show Result.ok (Value.int kk ((a:Int).fdiv (2 ^ n))) w=_
 rw [bP8]
theorem ck9 (x:W32) (k:IntKind) (n:Nat) (hn:n≤32):(do eqGuard .shl t p q (wV x) (.int k (n:Int));binOp .shl t (wV x) (.int k (n:Int))).run P w = .ok (wV (x <<< n)) w:=by
 have hm:min n IntKind.u32.bits=n:=by show min n 32=n;omega
 show (Op.shift .shl .u32 _ k (n:Int)).run P w=_
 unfold Op.shift
 rw [if_neg (by omega),Int.toNat_natCast,hm]
 show Result.ok (Value.int .u32 (IntKind.u32.wrap (((x.toNat:Nat):Int)*2 ^ n))) w=_
 have e:((x.toNat:Nat):Int)*2 ^ n=((x.toNat*2 ^ n:Nat):Int):=by simp
 rw [e,IntKind.wrap_u32]
 have h:(x <<< n).toNat=x.toNat*2 ^ n % 4294967296:=by rw [BitVec.toNat_shiftLeft,Nat.shiftLeft_eq]
 unfold wV
 rw [h]
 congr 2
theorem ck8 (x:W32) (k:IntKind) (n:Nat) (hn:n≤32):(do eqGuard .shr t p q (wV x) (.int k (n:Int));binOp .shr t (wV x) (.int k (n:Int))).run P w = .ok (wV (x >>> n)) w:=by
 have h:=az9 (P:=P) (t:=t) (p:=p) (q:=q) (w:=w) .u32 x.toNat k n hn
 rw [← Nat.shiftRight_eq_div_pow,← BitVec.toNat_ushiftRight] at h
 exact h
theorem aT9 (kk:IntKind) (b:BinOp) (f:Nat→Nat→Nat) (hb:(b = .xor∧f=fun x y=>x ^^^ y)∨(b = .or∧f=fun x y=>x ||| y)∨(b = .and∧f=fun x y=>x &&& y)) (hu:kk.signed=false) (x y:Nat) (hx:x<2 ^ kk.bits) (hy:y<2 ^ kk.bits) :
  (do eqGuard b t p q (.int kk (x:Int)) (.int kk (y:Int));binOp b t (.int kk (x:Int)) (.int kk (y:Int))).run P w = .ok (.int kk ((f x y:Nat):Int)) w:=by
 have hw:∀ z:Nat,z<2 ^ kk.bits→kk.wrap (z:Int)=z:=by
  intro z hz
  unfold IntKind.wrap
  rw [hu]
  simp only [Bool.false_and,Bool.false_eq_true,if_false]
  rw [Int.emod_eq_of_lt (by omega) (by exact_mod_cast hz)]
 have h1:∀ z:Nat,BitVec.ofInt kk.bits (z:Int)=BitVec.ofNat kk.bits z:=fun z=>BitVec.ofInt_natCast ..
 rcases hb with ⟨rfl,rfl⟩|⟨rfl,rfl⟩|⟨rfl,rfl⟩
 ·have:=hw (x ^^^ y) (Nat.xor_lt_two_pow hx hy)
  simp [eqGuard,binOp,Op.intBits,h1,Nat.mod_eq_of_lt hx,Nat.mod_eq_of_lt hy,this]
 ·have:=hw (x ||| y) (Nat.or_lt_two_pow hx hy)
  simp [eqGuard,binOp,Op.intBits,h1,Nat.mod_eq_of_lt hx,Nat.mod_eq_of_lt hy,this]
 ·have:=hw (x &&& y) (Nat.and_lt_two_pow x hy)
  simp [eqGuard,binOp,Op.intBits,h1,Nat.mod_eq_of_lt hx,Nat.mod_eq_of_lt hy,this]
theorem ca3 (kk:IntKind) (hu:kk.signed=false) (x:Nat) (hx:x<2 ^ kk.bits):(Op.unary .xor (.int kk (x:Int))).run P w = .ok (.int kk ((2 ^ kk.bits - 1 - x:Nat):Int)) w:=by
 have hw:∀ z:Nat,z<2 ^ kk.bits→kk.wrap (z:Int)=z:=by
  intro z hz
  unfold IntKind.wrap
  rw [hu]
  simp only [Bool.false_and,Bool.false_eq_true,if_false]
  rw [Int.emod_eq_of_lt (by omega) (by exact_mod_cast hz)]
 have h1:∀ z:Nat,BitVec.ofInt kk.bits (z:Int)=BitVec.ofNat kk.bits z:=fun z=>BitVec.ofInt_natCast ..
 have h2:kk.max=((2 ^ kk.bits - 1:Nat):Int):=by
  unfold IntKind.max
  rw [hu]
  have:0<2 ^ kk.bits:=Nat.pow_pos (by decide)
  simp only [Bool.false_eq_true,if_false]
  rw [Int.ofNat_sub (by omega)]
  simp
 have h3:(BitVec.ofNat kk.bits (2 ^ kk.bits - 1) ^^^ BitVec.ofNat kk.bits x).toNat=2 ^ kk.bits - 1 - x:=by
  have e1:BitVec.ofNat kk.bits (2 ^ kk.bits - 1)=BitVec.allOnes kk.bits:=by
   apply BitVec.eq_of_toNat_eq
   simp
  rw [e1,BitVec.allOnes_xor,BitVec.toNat_not,BitVec.toNat_ofNat,Nat.mod_eq_of_lt hx]
 simp only [Op.unary,hu,Bool.false_eq_true,if_false,Op.intBits,h2,h1,h3]
 rw [hw _ (by have:0<2 ^ kk.bits:=Nat.pow_pos (by decide);omega)]
 rfl
end
end
section
open Go
def nb (m:Nat):Nat:=if h:m=0 then 0 else nb (m / 256)+1
termination_by m
decreasing_by exact Nat.div_lt_self (Nat.pos_of_ne_zero h) (by decide)
theorem bg6:nb 0=0:=by rw [nb];simp
theorem bA8 {m:Nat} (h:m≠0):nb m=nb (m / 256)+1:=by rw [nb];simp [h]
theorem cp4:∀ (m:Nat),m<256 ^ nb m
 | m=>by
  by_cases h:m=0
  ·subst h;rw [bg6];decide
  ·rw [bA8 h,Nat.pow_succ]
   have h1:=cp4 (m / 256)
   omega
termination_by m=>m
decreasing_by exact Nat.div_lt_self (Nat.pos_of_ne_zero h) (by decide)
theorem cp5:∀ (m:Nat),m≠0→256 ^ (nb m - 1)≤m
 | m,h=>by
  rw [bA8 h,Nat.add_sub_cancel]
  by_cases h0:m / 256=0
  ·rw [h0,bg6];omega
  ·have h1:=cp5 (m / 256) h0
   have h2:nb (m / 256)=nb (m / 256) - 1+1:=by rw [bA8 h0];simp
   rw [h2,Nat.pow_succ]
   omega
termination_by m=>m
decreasing_by exact Nat.div_lt_self (Nat.pos_of_ne_zero h) (by decide)
theorem bn2 (m j:Nat):m / 256 ^ j=0↔nb m≤j:=by
 constructor
 ·intro h
  by_cases h0:m=0
  ·subst h0;rw [bg6];omega
  ·have a2:=cp5 m h0
   have h1:m<256 ^ j:=by
    have:=(Nat.div_eq_zero_iff).1 h
    have hp:0<256 ^ j:=Nat.pow_pos (by decide)
    omega
   rcases Nat.lt_or_ge j (nb m) with h3|h3
   ·have:256 ^ j≤256 ^ (nb m - 1):=Nat.pow_le_pow_right (by decide) (by omega)
    omega
   ·exact h3
 ·intro h
  have a1:=cp4 m
  have:256 ^ nb m≤256 ^ j:=Nat.pow_le_pow_right (by decide) h
  exact Nat.div_eq_of_lt (by omega)
theorem aV9 {m:Nat} (h:m<9223372036854775808):nb m≤8:=by
 rw [← bn2]
 exact Nat.div_eq_of_lt (by omega)
def dig:Nat→Nat→List Nat
 | 0,_=>[]
 | k+1,m=>dig k (m / 256) ++ [m % 256]
theorem ah4:∀ (k m:Nat),(dig k m).length=k
 | 0,_=>rfl
 | k+1,m=>by rw [dig,List.length_append,ah4 k];rfl
theorem ax7:∀ (k m q:Nat),q<k→(dig k m)[q]?=some (m / 256 ^ (k - 1 - q) % 256)
 | 0,_,q,h=>by omega
 | k+1,m,q,h=>by
  rw [dig]
  by_cases hq:q<k
  ·rw [List.getElem?_append_left (by rw [ah4];exact hq),ax7 k _ q hq,Nat.div_div_eq_div_mul,show k+1 - 1 - q=(k - 1 - q)+1 by omega,Nat.pow_succ,Nat.mul_comm 256]
  ·obtain rfl:q=k:=by omega
   rw [List.getElem?_append_right (by rw [ah4];exact Nat.le_refl _),ah4,Nat.sub_self,show q+1 - 1 - q=0 by omega]
   simp
def ac2 (neg:Bool) (d:Nat):Nat:=if neg then 255 - d else d
def ax3 (n:Int):Nat:=if n<0 then (-1 - n).toNat else n.toNat
def encI (n:Int):List Nat:=ac2 (decide (n<0)) (128+nb (ax3 n)) :: (dig (nb (ax3 n)) (ax3 n)).map (ac2 (decide (n<0)))
def encL (l:List Int):List Nat:=encI l.length ++ l.flatMap encI
theorem bn4 {n:Int} (h:InR n):ax3 n<9223372036854775808:=by
 have h1:=h.lo
 have h2:=h.hi
 unfold ax3
 split <;> omega
theorem bQ3 (n:Int):(encI n).length=nb (ax3 n)+1:=by unfold encI;rw [List.length_cons,List.length_map,ah4]
theorem ah3 {n:Int} (h:InR n):(encI n).length≤9:=by have:=aV9 (bn4 h);rw [bQ3];omega
end
section
open Go
section
variable {α β:Type}
end
def encK (l:List (List Int)):List Nat:=encI l.length ++ l.flatMap encL
def encW (w:List (List (List Int))):List Nat:=encI w.length ++ w.flatMap encK
section
variable {α:Type} {f:List Nat→α × Nat × Int} {c:Int}
end
structure WdR (w:List (List (List Int))):Prop where
 k:InR w.length
 n:∀ l∈w,InR l.length
 f:∀ l∈w,∀ r∈l,InR r.length
 v:∀ l∈w,∀ r∈l,∀ v∈r,InR v
end
section
open Go
def kLit:List Nat:=[
 0x428a2f98,0x71374491,0xb5c0fbcf,0xe9b5dba5,0x3956c25b,0x59f111f1,0x923f82a4,0xab1c5ed5,
 0xd807aa98,0x12835b01,0x243185be,0x550c7dc3,0x72be5d74,0x80deb1fe,0x9bdc06a7,0xc19bf174,
 0xe49b69c1,0xefbe4786,0x0fc19dc6,0x240ca1cc,0x2de92c6f,0x4a7484aa,0x5cb0a9dc,0x76f988da,
 0x983e5152,0xa831c66d,0xb00327c8,0xbf597fc7,0xc6e00bf3,0xd5a79147,0x06ca6351,0x14292967,
 0x27b70a85,0x2e1b2138,0x4d2c6dfc,0x53380d13,0x650a7354,0x766a0abb,0x81c2c92e,0x92722c85,
 0xa2bfe8a1,0xa81a664b,0xc24b8b70,0xc76c51a3,0xd192e819,0xd6990624,0xf40e3585,0x106aa070,
 0x19a4c116,0x1e376c08,0x2748774c,0x34b0bcb5,0x391c0cb3,0x4ed8aa4a,0x5b9cca4f,0x682e6ff3,
 0x748f82ee,0x78a5636f,0x84c87814,0x8cc70208,0x90befffa,0xa4506ceb,0xbef9a3f7,0xc67178f2]
def rotR (x:W32) (n:Nat):W32:=(x >>> n) ||| (x <<< (32 - n))
def mixW (x:W32) (i j k:Nat):W32:=rotR x i ^^^ rotR x j ^^^ rotR x k
def accW (x:W32) (d:Nat):W32:=(x <<< 8) ||| BitVec.ofNat 32 d
def cv3 (a b c d:Nat):W32:=accW (accW (accW (accW 0 a) b) c) d
def sml0 (p:W32):W32:=rotR p 7 ^^^ rotR p 18 ^^^ (p >>> 3)
def sml1 (q:W32):W32:=rotR q 17 ^^^ rotR q 19 ^^^ (q >>> 10)
def schN (b:List Nat):Nat→List W32
 | 0=>[]
 | t+1=>schN b t ++ [if t<16 then cv3 (b.getD (4*t) 0) (b.getD (4*t+1) 0) (b.getD (4*t+2) 0) (b.getD (4*t+3) 0)
   else (schN b t).getD (t - 16) 0+sml0 ((schN b t).getD (t - 15) 0)+(schN b t).getD (t - 7) 0+sml1 ((schN b t).getD (t - 2) 0)]
structure S8 where
 a:W32
 b:W32
 c:W32
 d:W32
 e:W32
 f:W32
 g:W32
 h:W32
def chW (e f g:W32):W32:=(e &&& f) ^^^ (~~~e &&& g)
def majW (a b c:W32):W32:=(a &&& b) ^^^ (a &&& c) ^^^ (b &&& c)
def rnd (s:S8) (k w:W32):S8:=
 ⟨s.h+mixW s.e 6 11 25+chW s.e s.f s.g+k+w+(mixW s.a 2 13 22+majW s.a s.b s.c),s.a,s.b,s.c,s.d+(s.h+mixW s.e 6 11 25+chW s.e s.f s.g+k+w),s.e,s.f,s.g⟩
def kAt (t:Nat):W32:=BitVec.ofNat 32 (kLit.getD t 0)
def rnds (s:S8) (b:List Nat):Nat→S8
 | 0=>s
 | t+1=>rnd (rnds s b t) (kAt t) ((schN b 64).getD t 0)
def S8.add (s t:S8):S8:=⟨s.a+t.a,s.b+t.b,s.c+t.c,s.d+t.d,s.e+t.e,s.f+t.f,s.g+t.g,s.h+t.h⟩
def cx4 (s:S8) (b:List Nat):S8:=s.add (rnds s b 64)
def cw9:S8:=⟨0x6a09e667,0xbb67ae85,0x3c6ef372,0xa54ff53a,0x510e527f,0x9b05688c,0x1f83d9ab,0x5be0cd19⟩
def shaN (m:List Nat):Nat→S8
 | 0=>cw9
 | n+1=>cx4 (shaN m n) ((m.drop (64*n)).take 64)
theorem bl5 (m t:List Nat):∀ n,64*n≤m.length→shaN (m ++ t) n=shaN m n
 | 0,_=>rfl
 | n+1,h=>by
  rw [shaN,shaN,bl5 m t n (by omega),List.drop_append_of_le_length (by omega),List.take_append_of_le_length (by rw [List.length_drop];omega)]
structure StrOK (m:List Nat) (s:S8) (b:List Nat):Prop where
 st:s=shaN m (m.length / 64)
 len:b.length=64
 bl:b.take (m.length % 64)=m.drop (64*(m.length / 64))
def putB (b:List Nat) (at_:Nat) (t:List Nat):List Nat:=b.take at_ ++ t ++ b.drop (at_+t.length)
theorem bL5 {b t:List Nat} {a:Nat} (h:a+t.length≤b.length):(putB b a t).length=b.length:=by
 unfold putB;simp only [List.length_append,List.length_take,List.length_drop];omega
theorem StrOK.more {m b t:List Nat} {s:S8} (h:StrOK m s b) (ht:m.length % 64+t.length<64):StrOK (m ++ t) s (putB b (m.length % 64) t):=by
 have hd:(m ++ t).length / 64=m.length / 64:=by rw [List.length_append];omega
 have hm:(m ++ t).length % 64=m.length % 64+t.length:=by rw [List.length_append];omega
 have hl:=h.len
 refine ⟨?_,by rw [bL5 (by omega)];exact hl,?_⟩
 ·rw [hd,bl5 m t _ (by omega)];exact h.st
 ·rw [hd,hm,List.drop_append_of_le_length (by omega),← h.bl]
  unfold putB
  rw [List.take_append_of_le_length (by simp only [List.length_append,List.length_take];omega),List.take_of_length_le (by simp only [List.length_append,List.length_take];omega)]
end
section
open Go Go.RowKit Go.Shelf
section
variable {P:Program} {σ:aa1} {ρ:Operand→D} {T:TypeId→Option TI}
theorem bX5 (hT:∀ t i,T t=some i→tiOf P t=some i) {o:Oper} {t:TypeId} {x:Operand} {lo hi:Option Operand} {k:Nat} {xs ys:List (List D)} {l h:Nat} {i:TI} {p:Nat × Bool × Nat × Nat} (ho:o.op = .slice t x lo hi none) (hx:ρ x = .sl k xs) (ht:T t=some i) (hs:i.sl=some p) (hpk:p.2.2.1=k)
  (hlo:(lo=none∧l=0)∨∃ y kk n,lo=some y∧ρ y = .v (.int kk n)∧n=(l:Int)) (hhi:(hi=none∧h=xs.length)∨∃ y kk n,hi=some y∧ρ y = .v (.int kk n)∧n=(h:Int)) (h1:l≤h) (h2:h≤xs.length) (hys:(xs.take h).drop l=ys):Yd P o ρ σ (.sl k ys):=by
 subst hys
 intro w X η hη hst
 obtain ⟨dst,op,ty,pos,aft,g⟩:=o
 simp only at ho
 subst ho
 obtain ⟨e,ag,k',by_⟩:=p
 simp only at hpk
 subst hpk
 have hxr:=hη x (by simp [Op.operands])
 rw [hx] at hxr
 obtain ⟨hu,hsz,_⟩:=ai9 (hT t i ht) hs
 have hz:=(am3 hsz w).2
 obtain ⟨ad,cap,vs,hv,hcap,hk,hc,hr⟩:=hxr.sl_inv
 have hb:(Instr.sliceBounds true xs.length cap (lo.map η) (hi.map η) none).run P w = .ok (l,h,cap) w:=by
  have hh:((h:Int)).toNat=h:=rfl
  have hl:((l:Int)).toNat=l:=rfl
  have h3:h≤cap:=by omega
  rcases hlo with ⟨rfl,rfl⟩|⟨yl,kl,nl,rfl,hyl,rfl⟩ <;> rcases hhi with ⟨rfl,rfl⟩|⟨yh,kh,nh,rfl,hyh,rfl⟩
  ·simp [Instr.sliceBounds,Result.andThen]
  ·have:=(hη yh (by simp [Op.operands])).val hyh
   simp [Instr.sliceBounds,Instr.sliceBound,Result.andThen,this,asIntOf,h3]
  ·have:=(hη yl (by simp [Op.operands])).val hyl
   simp [Instr.sliceBounds,Instr.sliceBound,Result.andThen,this,asIntOf,h1]
  ·have q1:=(hη yl (by simp [Op.operands])).val hyl
   have q2:=(hη yh (by simp [Op.operands])).val hyh
   simp [Instr.sliceBounds,Instr.sliceBound,Result.andThen,q1,q2,asIntOf,h1,h3]
 have hlen:((xs.take h).drop l).length=h - l:=by rw [List.length_drop,List.length_take];omega
 have hmem:∀ (q:Nat) y,((xs.take h).drop l)[q]?=some y→xs[l+q]?=some y:=fun q y hq=>by
  rw [List.getElem?_drop,List.getElem?_take] at hq
  split at hq
  ·exact hq
  ·cases hq
 refine ae0 (s:=Instr.sliceAt t (η x) (lo.map η) (hi.map η) ((none:Option Operand).map η)) (u:=.slice (if cap=l then ad else ad.map (·.add (l*k'))) (h - l) (cap - l)) ?_ (Ex.refl w) ?_
 ·rw [hv]
  simp only [Instr.sliceAt,Sem.run_bind,run_underlying hu,Result.andThen,Instr.slice,Option.map_none,hb,hz,Sem.run_pure]
 ·have:=Rd.sl (w:=w) (O:=Own σ X) k' ((xs.take h).drop l) (if cap=l then ad else ad.map (·.add (l*k'))) (cap - l) (fun q j=>vs (l+q) j) (by omega) (fun y hy=>hk y (List.mem_of_mem_take (List.mem_of_mem_drop hy)))
   (fun q y hq=>by
    have hq2:=hmem q y hq
    obtain ⟨b,off,ha,g1,g2,g3⟩:=hc (l+q) y hq2
    have hlt:=(List.getElem?_eq_some_iff.1 hq2).1
    rw [if_neg (by omega),ha]
    refine ⟨b,off+l*k',by simp [ap4],g1,g2,fun j hj=>?_⟩
    have:=g3 j hj
    rw [show off+l*k' + q*k' + j=off+(l+q)*k' + j by rw [Nat.add_mul];omega]
    exact this) (fun q y hq=>hr (l+q) y (hmem q y hq))
  rw [hlen] at this
  exact this
end
end
section
open Go Go.RowKit Go.Shelf
section
variable {P:Program} {σ:aa1} {ρ:Operand→D} {T:TypeId→Option TI}
theorem bX8 (hT:∀ t i,T t=some i→tiOf P t=some i) {o:Oper} {t:TypeId} {x ix:Operand} {b off n k m:Nat} {kk:IntKind} {j:Int} {ag:Bool} {i:TI} (ho:o.op = .indexAddr t x ix) (hx:ρ x = .v (.pointer (some ⟨b,off,none⟩))) (hi:ρ ix = .v (.int kk j)) (ht:T t=some i) (ha:i.arr=some (n,ag,k)) (hj:j=(m:Int)) (hm:m<n):Yd P o ρ σ (.v (.pointer (some ⟨b,off+m*k,none⟩))):=by
 subst hj
 intro w X η hη hst
 obtain ⟨dst,op,ty,pos,aft,g⟩:=o
 simp only at ho
 subst ho
 have h1:=(hη x (by simp [Op.operands])).val hx
 have h2:=(hη ix (by simp [Op.operands])).val hi
 obtain ⟨e,hu,hsz⟩:=bk8 (hT t i ht) ha
 have hz:=(am3 hsz w).2
 refine ae0 (s:=Instr.indexAt t (η x) (η ix)) (u:=.pointer (some ⟨b,off+m*k,none⟩)) ?_ (Ex.refl w) (.v _)
 rw [h1,h2]
 simp [Instr.indexAt,Instr.sureAddr,asIntOf,run_underlying hu,Result.andThen,hz,ap4,hm]
end
/-! ### Strings -/
section
variable {P:Program} {σ:aa1} {ρ:Operand→D}
end
/-! ### A string appended -/
section
variable {P:Program} {w:World} {X:Nat→Prop}
end
section
variable {P:Program} {r:Option Nat} {n:Nat} {df:Nat} {N:Nat} {σ:aa1} {a:List D} {f:Frm} {T:TypeId→Option TI} {L:List Oper} {Q:Fst} {ρ:Operand→D}
end
end
namespace Go
section
variable {P:Program} {b:Frame} {a:Act} {k:List Item} {cs:List Frame} {w:World} {F:Fence} {n:Nat} {Q:Exit→Act→World→Prop}
theorem al8 {c:Code}:step P (lone (b.atR a (.code (.scope c) :: k)) cs w) = .next (lone (b.atR a (.code c :: .inScope c :: k)) cs w):=
 step_lone_go (by simp [stepG,stepG.exec,Frame.atR])
theorem aO4 {c:Code}:step P (lone (b.atR a (.inScope c :: k)) cs w) = .next (lone (b.atR a k) cs w):=
 step_lone_go (by simp [stepG,stepG.exec,Frame.atR])
theorem bf3 {c:Code} (h:c.wpIn F n P (Exit.noGoto Q) a w):(Code.scope c).wpIn F n P Q a w:=by
 intro b k cs hro hb hr
 have h0:(lone (b.atR a (.code (.scope c) :: k)) cs w).fenced P F:=fenced_calm hb hr rfl
 obtain ⟨e,a₁,w₁,hq,harr⟩:=h b (.inScope c :: k) cs hro hb hr
 cases e with
 | normal=>exact ⟨.normal,a₁,w₁,hq,.head h0 al8 (StepsIn.trans harr (.one (fenced_calm hb hr rfl) aO4))⟩
 | exit id=>
  have hx:exitTo id (.inScope c :: k)=exitTo id k:=by simp [exitTo]
  exact ⟨.exit id,a₁,w₁,hq,fun k' hk=>.head h0 al8 (harr.1 k' (by rw [hx];exact hk)),
   fun hr' hk=>let ⟨k₁,h1,h2⟩:=harr.2 hr' (by rw [hx];exact hk);⟨k₁,h1,.head h0 al8 h2⟩⟩
 | goto l=>exact hq.elim
 | ret=>exact ⟨_,a₁,w₁,hq,.of_steps (.one h0 al8) harr⟩
 | panic ch=>exact ⟨_,a₁,w₁,hq,.of_steps (.one h0 al8) harr⟩
 | outgrown=>exact ⟨_,a₁,w₁,hq,.of_steps (.one h0 al8) harr⟩
end
end Go
section
open Go Go.RowKit Go.Shelf
section
variable {P:Program} {r:Option Nat} {n:Nat} {df:Nat} {N:Nat} {σ:aa1} {f:Frm} {a:List D} {T:TypeId→Option TI} {Q:Fst}
def cc4 (Q:Pst):Pst
 | .goto _,_,_=>False
 | e,a,σ=>Q e a σ
def cc3 (Q:Fst):Fst
 | .goto _,_,_=>False
 | e,f,σ=>Q e f σ
theorem bG8 {c:Code} {Q:Pst} (h:AWP P r n df c (cc4 Q) a σ):AWP P r n df (.scope c) Q a σ:=by
 refine ⟨fun w X fr hs=>bf3 (wpIn_mono (h.run w X fr hs) ?_)⟩
 rintro e fr' w' ⟨a',σ',h1,h2,h3⟩
 cases e with
 | goto l=>exact h1.elim
 | _=>exact ⟨a',σ',h1,h2,h3⟩
theorem bH0 {l:Nat} {Q:Pst} (h:Q .normal a σ):AWP P r n df (.label l) Q a σ:=⟨fun w X fr hs=>wpIn_label ⟨a,σ,h,hs,Mv.refl _ _⟩⟩
theorem ab4 (hm:P.follows .mixedOrders=true) (hT:∀ t i,T t=some i→tiOf P t=some i) {c:Code} (h:W (am9 P T r n df N c (cc3 Q) f σ)):Lp P r n df N (.scope c) Q f σ:=by
 refine ⟨fun a hs=>bG8 (ar1 (am8 hm hT h.h hs) ?_)⟩
 rintro e a' σ' ⟨f',h1,h2⟩
 cases e with
 | goto l=>exact h2.elim
 | _=>exact ⟨f',h1,h2⟩
theorem ab5 {l:Nat} (h:W (Q .normal f σ)):Lp P r n df N (.label l) Q f σ:=⟨fun a hs=>bH0 ⟨f,hs,h.h⟩⟩
end
end
section
open Go
abbrev yD (b:Nat):D:=.v (.int .u8 (b:Int))
abbrev yC (b:Nat):List D:=[yD b]
abbrev slY (l:List Nat):D:=.sl 1 (l.map yC)
abbrev RY:ORep (List Nat):=fun l v s=>RowIs 5 1 (l.map yC) v s
theorem co7 (l:List Nat):((l.map yC).all fun y=>y.all oneD)=true:=by rw [List.all_eq_true];intro y hy;obtain ⟨b,_,rfl⟩:=List.mem_map.1 hy;rfl
section
variable {P:Program} {σ:aa1} {ρ:Operand→D}
theorem ah9 {o:Oper} {s d:TypeId} {x:Operand} {k k':IntKind} {n m:Int} (ho:o.op = .convert s d x) (hx:ρ x = .v (.int k n)) {ds:TypeDesc} (h1:P.underlying s=some ds) (h2:P.underlying d=some (.int k')) (hn:k'.wrap n=m):Yd P o ρ σ (.v (.int k' m)):=by
 intro w X η hη hst
 obtain ⟨dst,op,ty,pos,aft,g⟩:=o
 simp only at ho
 subst ho
 have h:=(hη x (by simp [Op.operands])).val hx
 refine ae0 (s:=convert s d (η x)) (u:=.int k' m) ?_ (Ex.refl w) (.v _)
 rw [h]
 cases ds <;> simp [convert,run_underlying h1,run_underlying h2,Conv.intToInt,hn]
end
theorem aQ2 (j:Nat):2 ^ (8*j)=256 ^ j:=by rw [Nat.pow_mul]
theorem cj3 {d:Nat} (h:d<256):d ^^^ 255=255 - d:=by
 have h1:d ^^^ 255=(BitVec.ofNat 8 d ^^^ BitVec.allOnes 8).toNat:=by
  rw [BitVec.toNat_xor,BitVec.toNat_ofNat,BitVec.toNat_allOnes,Nat.mod_eq_of_lt (by simpa using h)]
 rw [h1,BitVec.xor_allOnes,BitVec.toNat_not,BitVec.toNat_ofNat,Nat.mod_eq_of_lt (by simpa using h)]
theorem bY5 {n:Int} (h:InR n) (h0:n<0):IntKind.u64.wrap n=((18446744073709551615 - ax3 n:Nat):Int):=by
 have h1:=h.lo
 have h2:=bn4 h
 have e:ax3 n=(-1 - n).toNat:=by unfold ax3;rw [if_pos h0]
 rw [IntKind.wrap_u64]
 omega
theorem bY4 {n:Int} (h:InR n) (h0:¬ n<0):IntKind.u64.wrap n=((ax3 n:Nat):Int):=by
 have h1:=h.hi
 have e:ax3 n=n.toNat:=by unfold ax3;rw [if_neg h0]
 rw [IntKind.wrap_u64]
 omega
theorem bA9 {m k:Nat} (h:nb m≤k+1) (h0:¬ 0<m / 2 ^ (8*k)):nb m≤k:=by
 rw [← bn2,← aQ2];exact Nat.eq_zero_of_not_pos h0
theorem cp6 {m k:Nat} (h:nb m≤k+1) (h0:0<m / 2 ^ (8*k)):nb m=k+1:=by
 have:¬ nb m≤k:=fun h1=>by rw [← bn2,← aQ2] at h1;rw [h1] at h0;exact absurd h0 (by decide)
 omega
theorem aD9 {e:TypeId} {k:Nat} {xs:List (List D)} (b:Nat) (h:∀ x∈xs,x.length=k) (hm:xs.length≤maxLen):RowIs e k xs (.slice (some ⟨b,0,none⟩) xs.length xs.length) [(b,.cells e xs.flatten)]:=
 ⟨h,.inr ⟨b,xs.length,[],rfl,by simp,Nat.le_refl _,hm,by simp,fun d hd=>by cases hd⟩⟩
section
variable {P:Program} {t:TypeId} {p q:Operand} {w:World}
theorem x255 {d:Nat} (h:d<256):(do eqGuard .xor t p q (.int .u8 (d:Int)) (.int .u8 255);binOp .xor t (.int .u8 (d:Int)) (.int .u8 255)).run P w = .ok (.int .u8 ((ac2 true d:Nat):Int)) w:=by
 have h1:=aT9 (P:=P) (t:=t) (p:=p) (q:=q) (w:=w) .u8 .xor (fun x y=>x ^^^ y) (.inl ⟨rfl,rfl⟩) rfl d 255 h (by decide)
 rw [cj3 h] at h1
 exact h1
theorem x0 {d:Nat} (h:d<256):(do eqGuard .xor t p q (.int .u8 (d:Int)) (.int .u8 0);binOp .xor t (.int .u8 (d:Int)) (.int .u8 0)).run P w = .ok (.int .u8 ((ac2 false d:Nat):Int)) w:=by
 have h1:=aT9 (P:=P) (t:=t) (p:=p) (q:=q) (w:=w) .u8 .xor (fun x y=>x ^^^ y) (.inl ⟨rfl,rfl⟩) rfl d 0 h (by decide)
 rw [Nat.xor_zero] at h1
 exact h1
theorem cw4 {m:Nat} (h:m<9223372036854775808):(Op.unary .xor (.int .u64 ((18446744073709551615 - m:Nat):Int))).run P w = .ok (.int .u64 (m:Int)) w:=by
 have h1:=ca3 (P:=P) (w:=w) .u64 rfl (18446744073709551615 - m) (by show _<18446744073709551616;omega)
 rw [show 2 ^ IntKind.u64.bits - 1 - (18446744073709551615 - m)=m from by show 18446744073709551616 - 1 - (18446744073709551615 - m)=m;omega] at h1
 exact h1
end
theorem sk46 {A B:Prop} (k:B) (h:Hd7 B→A:=by intro hk7q;(first|refine sb0 ?_|refine sb41 ?_|((with_reducible refine' Cp.by ?hc ?_);(case hc=>fail))|((with_reducible refine' CE.pure ?hc ?_);(case hc=>fail)));exact hk7q.run):A:=h ⟨k⟩
theorem cl6 {p:Prop} (h:p:=by repeat (first|exact Chk.nil|refine Chk.cons rfl ?_|(refine Chk.cons (congrArg (fun n=>some (iD n)) ?h) ?_;(case h=>(first|omega|((try simp only [List.length_map,List.length_take,List.length_append,List.length_cons,List.length_nil,List.length_replicate,Nat.reduceAdd]);omega)))))):p:=h
theorem cl7 {p:Prop} (h:p:=by intro x hx;rw [List.mem_singleton] at hx;subst hx;rfl):p:=h
theorem cl8 {p:Prop} (h:p:=by rw [List.take_add_one,hd];simp only [Option.toList_some,List.map_append,List.map_cons,List.map_nil,List.cons_append]):p:=h
theorem bT5 (n:Int) (hn:InR n):ACall Tryz.prog 37 [iD n] [] (fun d s=>∃ v,d = .v v∧RY (encI n) v s):=by
 have h1:=hn.lo
 have h2:=hn.hi
 have hm:=bn4 hn
 have hk8:=aV9 hm
 obtain ⟨m,hmm⟩:∃ m,m=ax3 n:=⟨_,rfl⟩
 rw [← hmm] at hm hk8
 by_cases h0:n<0
 ·obtain ⟨neg,hneg⟩:∃ b,b=true:=⟨_,rfl⟩
  have hE:encI n=ac2 neg (128+nb m) :: (dig (nb m) m).map (ac2 neg):=by unfold encI;rw [hmm,hneg,decide_eq_true h0]
  rw [hE]
  have hx:∀ {d:Nat} {t p q} {w:World},d<256→(do eqGuard .xor t p q (.int .u8 (d:Int)) (.int .u8 255);binOp .xor t (.int .u8 (d:Int)) (.int .u8 255)).run Tryz.prog w = .ok (.int .u8 ((ac2 neg d:Nat):Int)) w:=fun h=>by rw [hneg];exact x255 h
  refine eC7 Tryz.func37 Tryz.ntmps37 fun BB=>?_
  repeat' first|refine sk2 ?_|(intro b;conv=>whnf)|(with_reducible refine ab4 mixed aa0 ?_)|(with_reducible refine ab5 ?_)
  refine Ot.yd (ah9 (m:=((18446744073709551615 - m:Nat):Int)) rfl rfl Tryz.underlying3 Tryz.underlying167 (by rw [hmm];exact bY5 hn h0)) ?_
  repeat' first|refine sk2 ?_|(intro b;conv=>whnf)|(with_reducible refine ab4 mixed aa0 ?_)|(with_reducible refine ab5 ?_)
  refine Ot.yd (cv0 (r:=.int .u64 (m:Int)) rfl rfl (fun w=>cw4 hm)) ?_
  repeat' first|refine sk2 ?_|(intro b;conv=>whnf)|(with_reducible refine ab4 mixed aa0 ?_)|(with_reducible refine ab5 ?_)
  refine ae2 mixed aa0 (γ:=Nat) (fun k=>[(5,iD k)]) (fun _=>[]) (fun k=>k≤8∧nb m≤k) (fun k=>k) 8 rfl rfl ⟨Nat.le_refl _,hk8⟩ ?_
  rintro k ⟨hk1,hk2⟩
  by_cases hk0:k=0
  ·have hk3:nb m=0:=by omega
   obtain rfl:k=nb m:=by omega
   clear hk0
   repeat' first|refine sk2 ?_|(intro b;conv=>whnf)|(with_reducible refine ab4 mixed aa0 ?_)|(with_reducible refine ab5 ?_)
   refine Ot.yd (ah9 (m:=((128+nb m:Nat):Int)) rfl rfl Tryz.underlying3 Tryz.underlying5 (by rw [IntKind.wrap_u8];omega)) ?_
   repeat' first|refine sk2 ?_|(intro b;conv=>whnf)|(with_reducible refine ab4 mixed aa0 ?_)|(with_reducible refine ab5 ?_)
   refine Ot.yd (af9 (r:=.int .u8 ((ac2 neg (128+nb m):Nat):Int)) rfl rfl rfl (fun w=>hx (by omega))) ?_
   repeat' first|refine sk46 ?_|(intro b;conv=>whnf)|(with_reducible refine ab4 mixed aa0 ?_)|(with_reducible refine ab5 ?_)
   refine Bx.r ?_
   refine OtE.bsl aa0 rfl rfl rfl rfl rfl rfl rfl rfl rfl rfl (by decide) (fun bo=>?_)
   repeat' first|refine sk2 ?_|(intro b;conv=>whnf)|(with_reducible refine ab4 mixed aa0 ?_)|(with_reducible refine ab5 ?_)
   refine aa5 mixed aa0 (γ:=Nat × Value × aa1) (fun g=>[(6,.v g.2.1),(7,iD ((nb m:Int) - 1 - g.1))]) (fun g=>g.2.2) (fun g=>g.1≤nb m∧RY (ac2 neg (128+nb m) :: ((dig (nb m) m).take g.1).map (ac2 neg)) g.2.1 g.2.2) (fun g=>nb m - g.1) (0,.slice (some ⟨bo,0,none⟩) 1 1,[(bo,.cells 5 (yC (ac2 neg (128+nb m))))]) (aa2 cl6) (Sc.refl _) ⟨Nat.zero_le _,aD9 (xs:=[yC (ac2 neg (128+nb m))]) bo cl7 (by show 1≤maxLen;decide)⟩ ?_
   rintro ⟨j,v,s⟩ ⟨hj,hrow⟩
   simp only at hj hrow ⊢
   by_cases hjl:j<nb m
   ·have hd:=ax7 (nb m) m j hjl
    obtain ⟨i,hi⟩:∃ i:Nat,nb m - 1 - j=i:=⟨_,rfl⟩
    have hi2:(nb m:Int) - 1 - j=(i:Int):=by omega
    rw [hi] at hd
    rw [hi2]
    have hdl:(dig (nb m) m).length=nb m:=ah4 _ _
    repeat' first|refine sk2 ?_|(intro b;conv=>whnf)|(with_reducible refine ab4 mixed aa0 ?_)|(with_reducible refine ab5 ?_)
    refine Ot.yd (af9 (r:=.int .u64 ((m / 2 ^ (8*i):Nat):Int)) rfl rfl rfl (fun w=>by rw [show (8:Int)*(i:Int)=((8*i:Nat):Int) by omega];exact az9 .u64 m .i64 (8*i) (by show 8*i≤64;omega))) ?_
    repeat' first|refine sk2 ?_|(intro b;conv=>whnf)|(with_reducible refine ab4 mixed aa0 ?_)|(with_reducible refine ab5 ?_)
    refine Ot.yd (ah9 (m:=((m / 256 ^ i % 256:Nat):Int)) rfl rfl Tryz.underlying167 Tryz.underlying5 (by rw [IntKind.wrap_u8,aQ2];omega)) ?_
    repeat' first|refine sk2 ?_|(intro b;conv=>whnf)|(with_reducible refine ab4 mixed aa0 ?_)|(with_reducible refine ab5 ?_)
    refine Ot.yd (af9 (r:=.int .u8 ((ac2 neg (m / 256 ^ i % 256):Nat):Int)) rfl rfl rfl (fun w=>hx (Nat.mod_lt _ (by decide)))) ?_
    repeat' first|refine sk2 ?_|(intro b;conv=>whnf)|(with_reducible refine ab4 mixed aa0 ?_)|(with_reducible refine ab5 ?_)
    have hrow2:RowIs 5 1 ((ac2 neg (128+nb m) :: ((dig (nb m) m).take j).map (ac2 neg)).map yC) v s:=hrow
    refine Ap.go rfl rfl rfl rfl hrow2 (by simp:s.Perm (s ++ [])) rfl (zs:=(ac2 neg (128+nb m) :: ((dig (nb m) m).take (j+1)).map (ac2 neg)).map yC) cl8 (by simp;omega) (by simp;omega) (fun s'=>s') (fun s'=>by simp) (fun a' c' s' hr'=>?_)
    repeat' first|refine sk2 ?_|(intro b;conv=>whnf)|(with_reducible refine ab4 mixed aa0 ?_)|(with_reducible refine ab5 ?_)
    exact ⟨(j+1,_,s'),(aa2 cl6),Sc.refl _,⟨by simp only;omega,hr'⟩,by simp only;omega⟩
   ·obtain rfl:j=nb m:=by omega
    repeat' first|refine sk2 ?_|(intro b;conv=>whnf)|(with_reducible refine ab4 mixed aa0 ?_)|(with_reducible refine ab5 ?_)
    rw [List.take_of_length_le (by rw [ah4];exact Nat.le_refl _)] at hrow
    exact Rt.same ⟨_,rfl,hrow⟩
  ·obtain ⟨k,rfl⟩:∃ j,k=j+1:=⟨k - 1,by omega⟩
   repeat' first|refine sk2 ?_|(intro b;conv=>whnf)|(with_reducible refine ab4 mixed aa0 ?_)|(with_reducible refine ab5 ?_)
   refine Ot.yd (af9 (r:=.int .u64 ((m / 2 ^ (8*k):Nat):Int)) rfl rfl rfl (fun w=>by rw [show (8:Int)*(((k+1:Nat):Int) - 1)=((8*k:Nat):Int) by omega];exact az9 .u64 m .i64 (8*k) (by show 8*k≤64;omega))) ?_
   by_cases hq:0<m / 2 ^ (8*k)
   ·have hk0:=cp6 hk2 hq
    generalize m / 2 ^ (8*k)=g at *
    repeat' first|refine sk2 ?_|(intro b;conv=>whnf)|(with_reducible refine ab4 mixed aa0 ?_)|(with_reducible refine ab5 ?_)
    rw [← hk0]
    repeat' first|refine sk2 ?_|(intro b;conv=>whnf)|(with_reducible refine ab4 mixed aa0 ?_)|(with_reducible refine ab5 ?_)
    refine Ot.yd (ah9 (m:=((128+nb m:Nat):Int)) rfl rfl Tryz.underlying3 Tryz.underlying5 (by rw [IntKind.wrap_u8];omega)) ?_
    repeat' first|refine sk2 ?_|(intro b;conv=>whnf)|(with_reducible refine ab4 mixed aa0 ?_)|(with_reducible refine ab5 ?_)
    refine Ot.yd (af9 (r:=.int .u8 ((ac2 neg (128+nb m):Nat):Int)) rfl rfl rfl (fun w=>hx (by omega))) ?_
    repeat' first|refine sk46 ?_|(intro b;conv=>whnf)|(with_reducible refine ab4 mixed aa0 ?_)|(with_reducible refine ab5 ?_)
    refine Bx.r ?_
    refine OtE.bsl aa0 rfl rfl rfl rfl rfl rfl rfl rfl rfl rfl (by decide) (fun bo=>?_)
    repeat' first|refine sk2 ?_|(intro b;conv=>whnf)|(with_reducible refine ab4 mixed aa0 ?_)|(with_reducible refine ab5 ?_)
    refine aa5 mixed aa0 (γ:=Nat × Value × aa1) (fun g=>[(6,.v g.2.1),(7,iD ((nb m:Int) - 1 - g.1))]) (fun g=>g.2.2) (fun g=>g.1≤nb m∧RY (ac2 neg (128+nb m) :: ((dig (nb m) m).take g.1).map (ac2 neg)) g.2.1 g.2.2) (fun g=>nb m - g.1) (0,.slice (some ⟨bo,0,none⟩) 1 1,[(bo,.cells 5 (yC (ac2 neg (128+nb m))))]) (aa2 cl6) (Sc.refl _) ⟨Nat.zero_le _,aD9 (xs:=[yC (ac2 neg (128+nb m))]) bo cl7 (by show 1≤maxLen;decide)⟩ ?_
    rintro ⟨j,v,s⟩ ⟨hj,hrow⟩
    simp only at hj hrow ⊢
    by_cases hjl:j<nb m
    ·have hd:=ax7 (nb m) m j hjl
     obtain ⟨i,hi⟩:∃ i:Nat,nb m - 1 - j=i:=⟨_,rfl⟩
     have hi2:(nb m:Int) - 1 - j=(i:Int):=by omega
     rw [hi] at hd
     rw [hi2]
     have hdl:(dig (nb m) m).length=nb m:=ah4 _ _
     repeat' first|refine sk2 ?_|(intro b;conv=>whnf)|(with_reducible refine ab4 mixed aa0 ?_)|(with_reducible refine ab5 ?_)
     refine Ot.yd (af9 (r:=.int .u64 ((m / 2 ^ (8*i):Nat):Int)) rfl rfl rfl (fun w=>by rw [show (8:Int)*(i:Int)=((8*i:Nat):Int) by omega];exact az9 .u64 m .i64 (8*i) (by show 8*i≤64;omega))) ?_
     repeat' first|refine sk2 ?_|(intro b;conv=>whnf)|(with_reducible refine ab4 mixed aa0 ?_)|(with_reducible refine ab5 ?_)
     refine Ot.yd (ah9 (m:=((m / 256 ^ i % 256:Nat):Int)) rfl rfl Tryz.underlying167 Tryz.underlying5 (by rw [IntKind.wrap_u8,aQ2];omega)) ?_
     repeat' first|refine sk2 ?_|(intro b;conv=>whnf)|(with_reducible refine ab4 mixed aa0 ?_)|(with_reducible refine ab5 ?_)
     refine Ot.yd (af9 (r:=.int .u8 ((ac2 neg (m / 256 ^ i % 256):Nat):Int)) rfl rfl rfl (fun w=>hx (Nat.mod_lt _ (by decide)))) ?_
     repeat' first|refine sk2 ?_|(intro b;conv=>whnf)|(with_reducible refine ab4 mixed aa0 ?_)|(with_reducible refine ab5 ?_)
     have hrow2:RowIs 5 1 ((ac2 neg (128+nb m) :: ((dig (nb m) m).take j).map (ac2 neg)).map yC) v s:=hrow
     refine Ap.go rfl rfl rfl rfl hrow2 (by simp:s.Perm (s ++ [])) rfl (zs:=(ac2 neg (128+nb m) :: ((dig (nb m) m).take (j+1)).map (ac2 neg)).map yC) cl8 (by simp;omega) (by simp;omega) (fun s'=>s') (fun s'=>by simp) (fun a' c' s' hr'=>?_)
     repeat' first|refine sk2 ?_|(intro b;conv=>whnf)|(with_reducible refine ab4 mixed aa0 ?_)|(with_reducible refine ab5 ?_)
     exact ⟨(j+1,_,s'),(aa2 cl6),Sc.refl _,⟨by simp only;omega,hr'⟩,by simp only;omega⟩
    ·obtain rfl:j=nb m:=by omega
     repeat' first|refine sk2 ?_|(intro b;conv=>whnf)|(with_reducible refine ab4 mixed aa0 ?_)|(with_reducible refine ab5 ?_)
     rw [List.take_of_length_le (by rw [ah4];exact Nat.le_refl _)] at hrow
     exact Rt.same ⟨_,rfl,hrow⟩
   ·have hk0:=bA9 hk2 hq
    generalize m / 2 ^ (8*k)=g at *
    repeat' first|refine sk2 ?_|(intro b;conv=>whnf)|(with_reducible refine ab4 mixed aa0 ?_)|(with_reducible refine ab5 ?_)
    exact ⟨k,(aa2 cl6),rfl,⟨by omega,hk0⟩,by omega⟩
 ·obtain ⟨neg,hneg⟩:∃ b,b=false:=⟨_,rfl⟩
  have hE:encI n=ac2 neg (128+nb m) :: (dig (nb m) m).map (ac2 neg):=by unfold encI;rw [hmm,hneg,decide_eq_false h0]
  rw [hE]
  have hx:∀ {d:Nat} {t p q} {w:World},d<256→(do eqGuard .xor t p q (.int .u8 (d:Int)) (.int .u8 0);binOp .xor t (.int .u8 (d:Int)) (.int .u8 0)).run Tryz.prog w = .ok (.int .u8 ((ac2 neg d:Nat):Int)) w:=fun h=>by rw [hneg];exact x0 h
  refine eC7 Tryz.func37 Tryz.ntmps37 fun BB=>?_
  repeat' first|refine sk2 ?_|(intro b;conv=>whnf)|(with_reducible refine ab4 mixed aa0 ?_)|(with_reducible refine ab5 ?_)
  refine Ot.yd (ah9 (m:=((m:Nat):Int)) rfl rfl Tryz.underlying3 Tryz.underlying167 (by rw [hmm];exact bY4 hn h0)) ?_
  repeat' first|refine sk2 ?_|(intro b;conv=>whnf)|(with_reducible refine ab4 mixed aa0 ?_)|(with_reducible refine ab5 ?_)
  refine ae2 mixed aa0 (γ:=Nat) (fun k=>[(5,iD k)]) (fun _=>[]) (fun k=>k≤8∧nb m≤k) (fun k=>k) 8 rfl rfl ⟨Nat.le_refl _,hk8⟩ ?_
  rintro k ⟨hk1,hk2⟩
  by_cases hk0:k=0
  ·have hk3:nb m=0:=by omega
   obtain rfl:k=nb m:=by omega
   clear hk0
   repeat' first|refine sk2 ?_|(intro b;conv=>whnf)|(with_reducible refine ab4 mixed aa0 ?_)|(with_reducible refine ab5 ?_)
   refine Ot.yd (ah9 (m:=((128+nb m:Nat):Int)) rfl rfl Tryz.underlying3 Tryz.underlying5 (by rw [IntKind.wrap_u8];omega)) ?_
   repeat' first|refine sk2 ?_|(intro b;conv=>whnf)|(with_reducible refine ab4 mixed aa0 ?_)|(with_reducible refine ab5 ?_)
   refine Ot.yd (af9 (r:=.int .u8 ((ac2 neg (128+nb m):Nat):Int)) rfl rfl rfl (fun w=>hx (by omega))) ?_
   repeat' first|refine sk46 ?_|(intro b;conv=>whnf)|(with_reducible refine ab4 mixed aa0 ?_)|(with_reducible refine ab5 ?_)
   refine Bx.r ?_
   refine OtE.bsl aa0 rfl rfl rfl rfl rfl rfl rfl rfl rfl rfl (by decide) (fun bo=>?_)
   repeat' first|refine sk2 ?_|(intro b;conv=>whnf)|(with_reducible refine ab4 mixed aa0 ?_)|(with_reducible refine ab5 ?_)
   refine aa5 mixed aa0 (γ:=Nat × Value × aa1) (fun g=>[(6,.v g.2.1),(7,iD ((nb m:Int) - 1 - g.1))]) (fun g=>g.2.2) (fun g=>g.1≤nb m∧RY (ac2 neg (128+nb m) :: ((dig (nb m) m).take g.1).map (ac2 neg)) g.2.1 g.2.2) (fun g=>nb m - g.1) (0,.slice (some ⟨bo,0,none⟩) 1 1,[(bo,.cells 5 (yC (ac2 neg (128+nb m))))]) (aa2 cl6) (Sc.refl _) ⟨Nat.zero_le _,aD9 (xs:=[yC (ac2 neg (128+nb m))]) bo cl7 (by show 1≤maxLen;decide)⟩ ?_
   rintro ⟨j,v,s⟩ ⟨hj,hrow⟩
   simp only at hj hrow ⊢
   by_cases hjl:j<nb m
   ·have hd:=ax7 (nb m) m j hjl
    obtain ⟨i,hi⟩:∃ i:Nat,nb m - 1 - j=i:=⟨_,rfl⟩
    have hi2:(nb m:Int) - 1 - j=(i:Int):=by omega
    rw [hi] at hd
    rw [hi2]
    have hdl:(dig (nb m) m).length=nb m:=ah4 _ _
    repeat' first|refine sk2 ?_|(intro b;conv=>whnf)|(with_reducible refine ab4 mixed aa0 ?_)|(with_reducible refine ab5 ?_)
    refine Ot.yd (af9 (r:=.int .u64 ((m / 2 ^ (8*i):Nat):Int)) rfl rfl rfl (fun w=>by rw [show (8:Int)*(i:Int)=((8*i:Nat):Int) by omega];exact az9 .u64 m .i64 (8*i) (by show 8*i≤64;omega))) ?_
    repeat' first|refine sk2 ?_|(intro b;conv=>whnf)|(with_reducible refine ab4 mixed aa0 ?_)|(with_reducible refine ab5 ?_)
    refine Ot.yd (ah9 (m:=((m / 256 ^ i % 256:Nat):Int)) rfl rfl Tryz.underlying167 Tryz.underlying5 (by rw [IntKind.wrap_u8,aQ2];omega)) ?_
    repeat' first|refine sk2 ?_|(intro b;conv=>whnf)|(with_reducible refine ab4 mixed aa0 ?_)|(with_reducible refine ab5 ?_)
    refine Ot.yd (af9 (r:=.int .u8 ((ac2 neg (m / 256 ^ i % 256):Nat):Int)) rfl rfl rfl (fun w=>hx (Nat.mod_lt _ (by decide)))) ?_
    repeat' first|refine sk2 ?_|(intro b;conv=>whnf)|(with_reducible refine ab4 mixed aa0 ?_)|(with_reducible refine ab5 ?_)
    have hrow2:RowIs 5 1 ((ac2 neg (128+nb m) :: ((dig (nb m) m).take j).map (ac2 neg)).map yC) v s:=hrow
    refine Ap.go rfl rfl rfl rfl hrow2 (by simp:s.Perm (s ++ [])) rfl (zs:=(ac2 neg (128+nb m) :: ((dig (nb m) m).take (j+1)).map (ac2 neg)).map yC) cl8 (by simp;omega) (by simp;omega) (fun s'=>s') (fun s'=>by simp) (fun a' c' s' hr'=>?_)
    repeat' first|refine sk2 ?_|(intro b;conv=>whnf)|(with_reducible refine ab4 mixed aa0 ?_)|(with_reducible refine ab5 ?_)
    exact ⟨(j+1,_,s'),(aa2 cl6),Sc.refl _,⟨by simp only;omega,hr'⟩,by simp only;omega⟩
   ·obtain rfl:j=nb m:=by omega
    repeat' first|refine sk2 ?_|(intro b;conv=>whnf)|(with_reducible refine ab4 mixed aa0 ?_)|(with_reducible refine ab5 ?_)
    rw [List.take_of_length_le (by rw [ah4];exact Nat.le_refl _)] at hrow
    exact Rt.same ⟨_,rfl,hrow⟩
  ·obtain ⟨k,rfl⟩:∃ j,k=j+1:=⟨k - 1,by omega⟩
   repeat' first|refine sk2 ?_|(intro b;conv=>whnf)|(with_reducible refine ab4 mixed aa0 ?_)|(with_reducible refine ab5 ?_)
   refine Ot.yd (af9 (r:=.int .u64 ((m / 2 ^ (8*k):Nat):Int)) rfl rfl rfl (fun w=>by rw [show (8:Int)*(((k+1:Nat):Int) - 1)=((8*k:Nat):Int) by omega];exact az9 .u64 m .i64 (8*k) (by show 8*k≤64;omega))) ?_
   by_cases hq:0<m / 2 ^ (8*k)
   ·have hk0:=cp6 hk2 hq
    generalize m / 2 ^ (8*k)=g at *
    repeat' first|refine sk2 ?_|(intro b;conv=>whnf)|(with_reducible refine ab4 mixed aa0 ?_)|(with_reducible refine ab5 ?_)
    rw [← hk0]
    repeat' first|refine sk2 ?_|(intro b;conv=>whnf)|(with_reducible refine ab4 mixed aa0 ?_)|(with_reducible refine ab5 ?_)
    refine Ot.yd (ah9 (m:=((128+nb m:Nat):Int)) rfl rfl Tryz.underlying3 Tryz.underlying5 (by rw [IntKind.wrap_u8];omega)) ?_
    repeat' first|refine sk2 ?_|(intro b;conv=>whnf)|(with_reducible refine ab4 mixed aa0 ?_)|(with_reducible refine ab5 ?_)
    refine Ot.yd (af9 (r:=.int .u8 ((ac2 neg (128+nb m):Nat):Int)) rfl rfl rfl (fun w=>hx (by omega))) ?_
    repeat' first|refine sk46 ?_|(intro b;conv=>whnf)|(with_reducible refine ab4 mixed aa0 ?_)|(with_reducible refine ab5 ?_)
    refine Bx.r ?_
    refine OtE.bsl aa0 rfl rfl rfl rfl rfl rfl rfl rfl rfl rfl (by decide) (fun bo=>?_)
    repeat' first|refine sk2 ?_|(intro b;conv=>whnf)|(with_reducible refine ab4 mixed aa0 ?_)|(with_reducible refine ab5 ?_)
    refine aa5 mixed aa0 (γ:=Nat × Value × aa1) (fun g=>[(6,.v g.2.1),(7,iD ((nb m:Int) - 1 - g.1))]) (fun g=>g.2.2) (fun g=>g.1≤nb m∧RY (ac2 neg (128+nb m) :: ((dig (nb m) m).take g.1).map (ac2 neg)) g.2.1 g.2.2) (fun g=>nb m - g.1) (0,.slice (some ⟨bo,0,none⟩) 1 1,[(bo,.cells 5 (yC (ac2 neg (128+nb m))))]) (aa2 cl6) (Sc.refl _) ⟨Nat.zero_le _,aD9 (xs:=[yC (ac2 neg (128+nb m))]) bo cl7 (by show 1≤maxLen;decide)⟩ ?_
    rintro ⟨j,v,s⟩ ⟨hj,hrow⟩
    simp only at hj hrow ⊢
    by_cases hjl:j<nb m
    ·have hd:=ax7 (nb m) m j hjl
     obtain ⟨i,hi⟩:∃ i:Nat,nb m - 1 - j=i:=⟨_,rfl⟩
     have hi2:(nb m:Int) - 1 - j=(i:Int):=by omega
     rw [hi] at hd
     rw [hi2]
     have hdl:(dig (nb m) m).length=nb m:=ah4 _ _
     repeat' first|refine sk2 ?_|(intro b;conv=>whnf)|(with_reducible refine ab4 mixed aa0 ?_)|(with_reducible refine ab5 ?_)
     refine Ot.yd (af9 (r:=.int .u64 ((m / 2 ^ (8*i):Nat):Int)) rfl rfl rfl (fun w=>by rw [show (8:Int)*(i:Int)=((8*i:Nat):Int) by omega];exact az9 .u64 m .i64 (8*i) (by show 8*i≤64;omega))) ?_
     repeat' first|refine sk2 ?_|(intro b;conv=>whnf)|(with_reducible refine ab4 mixed aa0 ?_)|(with_reducible refine ab5 ?_)
     refine Ot.yd (ah9 (m:=((m / 256 ^ i % 256:Nat):Int)) rfl rfl Tryz.underlying167 Tryz.underlying5 (by rw [IntKind.wrap_u8,aQ2];omega)) ?_
     repeat' first|refine sk2 ?_|(intro b;conv=>whnf)|(with_reducible refine ab4 mixed aa0 ?_)|(with_reducible refine ab5 ?_)
     refine Ot.yd (af9 (r:=.int .u8 ((ac2 neg (m / 256 ^ i % 256):Nat):Int)) rfl rfl rfl (fun w=>hx (Nat.mod_lt _ (by decide)))) ?_
     repeat' first|refine sk2 ?_|(intro b;conv=>whnf)|(with_reducible refine ab4 mixed aa0 ?_)|(with_reducible refine ab5 ?_)
     have hrow2:RowIs 5 1 ((ac2 neg (128+nb m) :: ((dig (nb m) m).take j).map (ac2 neg)).map yC) v s:=hrow
     refine Ap.go rfl rfl rfl rfl hrow2 (by simp:s.Perm (s ++ [])) rfl (zs:=(ac2 neg (128+nb m) :: ((dig (nb m) m).take (j+1)).map (ac2 neg)).map yC) cl8 (by simp;omega) (by simp;omega) (fun s'=>s') (fun s'=>by simp) (fun a' c' s' hr'=>?_)
     repeat' first|refine sk2 ?_|(intro b;conv=>whnf)|(with_reducible refine ab4 mixed aa0 ?_)|(with_reducible refine ab5 ?_)
     exact ⟨(j+1,_,s'),(aa2 cl6),Sc.refl _,⟨by simp only;omega,hr'⟩,by simp only;omega⟩
    ·obtain rfl:j=nb m:=by omega
     repeat' first|refine sk2 ?_|(intro b;conv=>whnf)|(with_reducible refine ab4 mixed aa0 ?_)|(with_reducible refine ab5 ?_)
     rw [List.take_of_length_le (by rw [ah4];exact Nat.le_refl _)] at hrow
     exact Rt.same ⟨_,rfl,hrow⟩
   ·have hk0:=bA9 hk2 hq
    generalize m / 2 ^ (8*k)=g at *
    repeat' first|refine sk2 ?_|(intro b;conv=>whnf)|(with_reducible refine ab4 mixed aa0 ?_)|(with_reducible refine ab5 ?_)
    exact ⟨k,(aa2 cl6),rfl,⟨by omega,hk0⟩,by omega⟩
end
end Go.Proofs.YtlcfiilejnnlnaaGreatDoor
