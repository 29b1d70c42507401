/- A part of the proof: Cg Ch Sc Gx Bn Ix R10e. -/
import Derived.Test.YtjbbmjjildhfbaaGreatDoorP12
set_option maxRecDepth 100000
set_option maxHeartbeats 4000000
set_option linter.unusedVariables false
set_option linter.unusedSimpArgs false
namespace Go.Proofs.YtjbbmjjildhfbaaGreatDoor
section
open Go
structure CF (f:Fld):Prop where
 nm:f.name.size≤12
 of:f.of.size≤12
 up:f.up.size≤12
 nw:f.words.length≤3
 wd:∀ s∈f.words,s.size≤12
 ng:f.weights.length≤3
 wt:∀ n∈f.weights,-1000≤n∧n≤1000
 kd:0≤f.kind∧f.kind≤8
 lo:-1000≤f.lo∧f.lo≤1000
 hi:-1000≤f.hi∧f.hi≤1000
structure CK (k:Knd):Prop where
 nm:1≤k.name.size∧k.name.size≤12
 lo:-1000≤k.lo∧k.lo≤1000
 hi:-1000≤k.hi∧k.hi≤1000
 nf:k.fields.length≤10
 fs:∀ f∈k.fields,CF f
structure CL (l:Lif):Prop where
 nm:l.name.size≤12
 ns:l.states.length≤4
 st:∀ s∈l.states,s.size≤12
 nv:l.moves.length≤5
 mv:∀ m∈l.moves,(-1000≤m.1∧m.1≤1000)∧(-1000≤m.2∧m.2≤1000)
structure CR (r:Rul):Prop where
 nm:r.name.size≤12
 kd:r.kind.size≤12
 a:r.a.size≤12
 b:r.b.size≤12
 n:-2000≤r.n∧r.n≤2000
structure Cls (x:Sch):Prop where
 ver:-1000≤x.version∧x.version≤1000
 nk:x.kinds.length≤3
 ks:∀ k∈x.kinds,CK k
 nl:x.lives.length≤1
 ls:∀ l∈x.lives,CL l
 nr:x.rules.length≤3
 rs:∀ r∈x.rules,CR r
theorem av2 {α:Type} {f:α→Nat} {c:Nat}:∀ {l:List α},(∀ x∈l,f x≤c)→sumB f l≤l.length*c
 | [],_=>by simp [sumB]
 | x :: l,h=>by
  have h1:=h x (by simp)
  have h2:=av2 (l:=l) fun y hy=>h y (by simp [hy])
  simp only [sumB,List.map_cons,List.sum_cons,List.length_cons,Nat.succ_mul] at *
  omega
theorem at7 {n:Int} (h:-9999999≤n∧n≤9999999):intB n=8:=by unfold intB;rw [if_pos h]
theorem CF.bd {f:Fld} (h:CF f):an1 f≤200:=by
 have e1:=at7 (n:=f.lo) (by have:=h.lo;omega)
 have e2:=at7 (n:=f.hi) (by have:=h.hi;omega)
 have e3:=at7 (n:=f.words.length) (by have:=h.nw;omega)
 have s1:(f.words.map fun s=>1+s.size).sum≤f.words.length*13:=av2 (f:=fun s:ByteArray=>1+s.size) fun s hs=>by have:=h.wd s hs;omega
 have s2:(f.weights.map fun n=>1+intB n).sum≤f.weights.length*9:=av2 (f:=fun n=>1+intB n) fun n hn=>by have:=at7 (n:=n) (by have:=h.wt n hn;omega);omega
 have h1:=h.nm;have h2:=h.of;have h3:=h.up;have h4:=h.nw;have h5:=h.ng
 unfold an1
 omega
theorem CK.bd {k:Knd} (h:CK k):kndB k≤2100:=by
 have e1:=at7 (n:=k.lo) (by have:=h.lo;omega)
 have e2:=at7 (n:=k.hi) (by have:=h.hi;omega)
 have s1:=av2 (f:=an1) (c:=200) fun f hf=>(h.fs f hf).bd
 have h1:=h.nm;have h2:=h.nf
 unfold kndB
 omega
theorem CL.bd {l:Lif} (h:CL l):lifB l≤300:=by
 have e1:=at7 (n:=l.states.length) (by have:=h.ns;omega)
 have s1:=av2 (f:=fun s:ByteArray=>1+s.size) (c:=13) fun s hs=>by have:=h.st s hs;show 1+s.size≤13;omega
 have s2:=av2 (f:=movB) (c:=23) fun m hm=>by
  have:=h.mv m hm
  unfold movB
  rw [at7 (by omega),at7 (by omega)]
  omega
 have h1:=h.nm;have h2:=h.ns;have h3:=h.nv
 unfold lifB
 omega
theorem CR.bd {r:Rul} (h:CR r):rulB r≤100:=by
 have e1:=at7 (n:=r.n) (by have:=h.n;omega)
 have h1:=h.nm;have h2:=h.kd;have h3:=h.a;have h4:=h.b
 unfold rulB
 omega
theorem Cls.src {x:Sch} (h:Cls x):srcB x≤8192:=by
 have s1:=av2 (f:=kndB) fun k hk=>(h.ks k hk).bd
 have s2:=av2 (f:=lifB) fun k hk=>(h.ls k hk).bd
 have s3:=av2 (f:=rulB) fun k hk=>(h.rs k hk).bd
 have h1:=h.nk;have h2:=h.nl;have h3:=h.nr
 unfold srcB
 omega
theorem CF.sm {f:Fld} (h:CF f):SmF f:=⟨by have:=h.nm;unfold SmS;omega,by have:=h.of;unfold SmS;omega,by have:=h.up;unfold SmS;omega,fun s hs=>by have:=h.wd s hs;unfold SmS;omega,by have:=h.nw;omega,by have:=h.ng;omega⟩
theorem Cls.good {x:Sch} (h:Cls x):Good x where
 ver:=by have:=h.ver;omega
 fsane:=fun k hk f hf=>by
  have:=(h.ks k hk).fs f hf
  exact ⟨⟨by have:=this.lo;omega,by have:=this.hi;omega,fun n hn=>by have:=this.wt n hn;omega⟩,by have:=this.kd;omega⟩
 ksane:=fun k hk=>by have:=h.ks k hk;have h1:=this.lo;have h2:=this.hi;omega
 msane:=fun l hl m hm=>by have:=(h.ls l hl).mv m hm;omega
 rsane:=fun r hr=>by have:=(h.rs r hr).n;omega
 sm:={
  kinds:=fun k hk=>⟨by have:=(h.ks k hk).nm;unfold SmS;omega,fun f hf=>((h.ks k hk).fs f hf).sm,by have:=(h.ks k hk).nf;omega⟩
  lives:=fun l hl=>⟨by have:=(h.ls l hl).nm;unfold SmS;omega,fun s hs=>by have:=(h.ls l hl).st s hs;unfold SmS;omega,by have:=(h.ls l hl).ns;omega,by have:=(h.ls l hl).nv;omega⟩
  rules:=fun r hr=>by have:=h.rs r hr;exact ⟨by have:=this.nm;unfold SmS;omega,by have:=this.kd;unfold SmS;omega,by have:=this.a;unfold SmS;omega,by have:=this.b;unfold SmS;omega⟩
  nkinds:=by have:=h.nk;omega
  nlives:=by have:=h.nl;omega
  nrules:=by have:=h.nr;omega }
 src:=fun _=>h.src
end
section
open Go
theorem CF.e0 {nm of up:ByteArray} {kd lo hi:Int} (h1:nm.size≤12) (h2:of.size≤12) (h3:up.size≤12) (h4:0≤kd∧kd≤8) (h5:-1000≤lo∧lo≤1000) (h6:-1000≤hi∧hi≤1000):CF ⟨nm,of,up,kd,lo,hi,[],[]⟩:=
 ⟨h1,h2,h3,by simp,by simp,by simp,by simp,h4,h5,h6⟩
theorem PlainF.cf {fs:List Fld} (h:PlainF fs):fs.length≤2∧∀ f∈fs,CF f:=by
 cases h with
 | none=>exact ⟨by simp,by simp⟩
 | size a b ha hb=>exact ⟨by simp,fun f hf=>by rw [List.mem_singleton] at hf;subst hf;exact .e0 (by decide) (by decide) (by decide) (by omega) (by omega) (by omega)⟩
 | tag n ws hn hw h0 h1=>
  refine ⟨by simp,fun f hf=>?_⟩
  rw [List.mem_singleton] at hf
  subst hf
  refine ⟨show nTag.size≤12 by decide,show nE.size≤12 by decide,show nE.size≤12 by decide,?_,fun s hs=>?_,by show ws.length≤3;omega,fun z hz=>?_,show (0:Int)≤3∧(3:Int)≤8 by decide,show (-1000:Int)≤0∧(0:Int)≤1000 by decide,show (-1000:Int)≤0∧(0:Int)≤1000 by decide⟩
  ·show (List.take n _).length≤3
   rw [List.length_take];simp;omega
  ·have:=List.mem_of_mem_take hs
   simp only [List.mem_cons,List.not_mem_nil,or_false] at this
   rcases this with rfl|rfl|rfl <;> decide
  ·have:=h0 z hz;omega
 | born a b c d ha hb hc hd=>
  refine ⟨by simp,fun f hf=>?_⟩
  simp only [List.mem_cons,List.not_mem_nil,or_false] at hf
  rcases hf with rfl|rfl
  ·exact .e0 (by decide) (by decide) (by decide) (by omega) (by omega) (by omega)
  ·exact .e0 (by decide) (by decide) (by decide) (by omega) (by omega) (by omega)
 | state a b ha hb=>exact ⟨by simp,fun f hf=>by rw [List.mem_singleton] at hf;subst hf;exact .e0 (by decide) (by decide) (by decide) (by omega) (by omega) (by omega)⟩
 | low a b c d ha hb hc hd=>
  refine ⟨by simp,fun f hf=>?_⟩
  simp only [List.mem_cons,List.not_mem_nil,or_false] at hf
  rcases hf with rfl|rfl
  ·exact .e0 (by decide) (by decide) (by decide) (by omega) (by omega) (by omega)
  ·exact .e0 (by decide) (by decide) (by decide) (by omega) (by omega) (by omega)
structure CK1 (k:Knd):Prop where
 ck:CK k
 one:k.fields.length≤9∨0≤am4 k.fields ap4
theorem knm_sz (n:Nat) (h:n≤2):1≤(knm n).size∧(knm n).size≤12:=by
 rcases n with _ | _ | _|n
 ·decide
 ·decide
 ·decide
 ·omega
theorem RefP.cf {ks ks':List Knd} {nm:ByteArray} {f1:List Fld} (h:RefP ks nm f1 ks') (hn:nm.size≤12) (hk:∀ k∈ks,CK1 k):(f1.length≤3∧∀ f∈f1,CF f)∧ks'.length=ks.length∧∀ k∈ks',CK1 k:=by
 have ofc:∀ {to:Nat} {y:Knd} {lo hi:Int},ks[to]?=some y→(lo=0∨lo=1)→hi∈[(4:Int),3,8,2]→CF (ofF y lo hi):=fun hy hl hh=>by
  have:=(hk _ (List.mem_of_getElem? hy)).ck.nm
  simp only [List.mem_cons,List.not_mem_nil,or_false] at hh
  exact .e0 (by decide) (by omega) (by decide) (by decide) (by omega) (by omega)
 have smc:∀ {to:Nat} {y:Knd} {sm:List Fld},ks[to]?=some y→(sm=[]∨∃ g,0≤ap5 y∧y.fields[(ap5 y).toNat]?=some g∧sm=[at5 g.name])→sm.length≤1∧∀ f∈sm,CF f:=fun hy hs=>by
  rcases hs with rfl|⟨g,_,hg,rfl⟩
  ·exact ⟨by simp,by simp⟩
  ·have:=((hk _ (List.mem_of_getElem? hy)).ck.fs g (List.mem_of_getElem? hg)).nm
   exact ⟨by simp,fun f hf=>by rw [List.mem_singleton] at hf;subst hf;exact .e0 (by decide) (by omega) (by decide) (by decide) (by decide) (by decide)⟩
 cases h with
 | none h=>exact ⟨⟨by simp,by simp⟩,rfl,hk⟩
 | of to y lo hi sm hy hl hh hs=>
  have h1:=ofc hy hl hh
  have h2:=smc hy hs
  exact ⟨⟨by have:=h2.1;simp only [List.length_cons];omega,fun f hf=>by
   rcases List.mem_cons.1 hf with rfl|hf
   ·exact h1
   ·exact h2.2 f hf⟩,rfl,hk⟩
 | part to y lo hi a b sm hy hl hh hs ht ha hb=>
  have h1:=ofc hy hl hh
  have h2:=smc hy hs
  have h3:=hk _ (List.mem_of_getElem? hy)
  refine ⟨⟨by have:=h2.1;simp only [List.length_cons,List.length_append,List.length_nil];omega,fun f hf=>?_⟩,List.length_set ..,fun k hk'=>?_⟩
  ·rcases List.mem_cons.1 hf with rfl|hf
   ·exact h1
   ·rcases List.mem_append.1 hf with hf|hf
    ·exact h2.2 f hf
    ·rw [List.mem_singleton] at hf;subst hf;exact .e0 (by decide) (by decide) (by decide) (by decide) (by omega) (by omega)
  ·rcases List.mem_or_eq_of_mem_set hk' with h|rfl
   ·exact hk k h
   ·refine ⟨⟨h3.ck.nm,h3.ck.lo,h3.ck.hi,?_,fun f hf=>?_⟩,.inr ?_⟩
    ·show (y.fields ++ [totF nm]).length≤10
     rw [List.length_append]
     have:=h3.one
     simp only [List.length_cons,List.length_nil]
     omega
    ·rcases List.mem_append.1 hf with hf|hf
     ·exact h3.ck.fs f hf
     ·rw [List.mem_singleton] at hf;subst hf;exact .e0 (by decide) hn (by decide) (by decide) (by decide) (by decide)
    ·have:=an5 (fun f:Fld=>seq f.name ap4) (y.fields ++ [totF nm])
     rw [List.any_append,show List.any [totF nm] (fun f=>seq f.name ap4)=true by simp [totF,ar9],Bool.or_true] at this
     exact of_decide_eq_true this
theorem KMade.cls {ks ks':List Knd} {k:Knd} (h:KMade ks k ks') (hl:ks.length≤2) (hk:∀ k∈ks,CK1 k):CK1 k∧ks'.length=ks.length∧∀ k∈ks',CK1 k:=by
 obtain ⟨lo,r,idl,f1,f2,p1,p2,h1,h2,h3,rfl,h5,h6,h7,h8,_⟩:=h.ex
 have hn:=knm_sz ks.length hl
 obtain ⟨⟨q1,q2⟩,q3,q4⟩:=h5.cf hn.2 hk
 have q5:=h7.cf
 have q6:=h8.cf
 have q7:f2.length≤1∧∀ f∈f2,CF f:=by
  rcases h6 with rfl|⟨y,hy,_,rfl⟩
  ·exact ⟨by simp,by simp⟩
  ·have:=(hk _ (List.mem_of_getElem? hy)).ck.nm
   exact ⟨by simp,fun f hf=>by rw [List.mem_singleton] at hf;subst hf;exact .e0 (by decide) (by omega) (by decide) (by decide) (by decide) (by decide)⟩
 have hlen:(idF idl :: (f1 ++ (f2 ++ (p1 ++ p2)))).length≤9:=by
  simp only [List.length_cons,List.length_append];omega
 simp only [List.mem_cons,List.not_mem_nil,or_false] at h1 h3
 refine ⟨⟨⟨hn,by show -1000≤lo∧lo≤1000;omega,by show -1000≤lo+r∧lo+r≤1000;omega,by show List.length (idF idl :: (f1 ++ (f2 ++ (p1 ++ p2))))≤10;omega,fun f hf=>?_⟩,.inl hlen⟩,q3,q4⟩
 rcases List.mem_cons.1 hf with rfl|hf
 ·exact .e0 (by decide) (by decide) (by decide) (by decide) (by omega) (by decide)
 ·rcases List.mem_append.1 hf with hf|hf
  ·exact q2 f hf
  ·rcases List.mem_append.1 hf with hf|hf
   ·exact q7.2 f hf
   ·rcases List.mem_append.1 hf with hf|hf
    ·exact q5.2 f hf
    ·exact q6.2 f hf
end
section
open Go Go.RowKit Go.Shelf
inductive KChain:List Knd→Prop
 | nil:KChain []
 | step {ks ks':List Knd} {k:Knd} (h:KChain ks) (m:KMade ks k ks') (l:ks'.length=ks.length):KChain (ks' ++ [k])
inductive RChain (ks:List Knd):Nat→List Rul→Prop
 | nil:RChain ks 0 []
 | skip {i:Nat} {rs:List Rul} (h:RChain ks i rs):RChain ks (i+1) rs
 | take {i:Nat} {rs:List Rul} {k:Knd} {r:Rul} (h:RChain ks i rs) (hk:ks[i]?=some k) (hr:RuleF k r):RChain ks (i+1) (rs ++ [r])
theorem KChain.ck {ks:List Knd} (h:KChain ks) (hl:ks.length≤3):∀ k∈ks,CK1 k:=by
 induction h with
 | nil=>simp
 | step h m l ih=>
  rw [List.length_append,List.length_singleton] at hl
  obtain ⟨h1,h2,h3⟩:=m.cls (by omega) (ih (by omega))
  intro k hk
  rcases List.mem_append.1 hk with hk|hk
  ·exact h3 k hk
  ·rw [List.mem_singleton] at hk;subst hk;exact h1
abbrev stL:List ByteArray:=[⟨#[110,101,119]⟩,⟨#[111,112,101,110]⟩,⟨#[100,111,110,101]⟩,⟨#[115,104,117,116]⟩]
structure GenX (x:Sch):Prop where
 ver:0≤x.version∧x.version<4
 nk:1≤x.kinds.length∧x.kinds.length≤3
 ks:KChain x.kinds
 ls:∃ (m:Nat) (mv:List (Int × Int)),2≤m∧m≤4∧x.lives=[⟨nLife,stL.take m,mv⟩]∧mv.length≤5∧∀ p∈mv,(0≤p.1∧p.1<m)∧(0≤p.2∧p.2<m)
 nr:x.rules.length≤2
 rs:∃ i,i≤x.kinds.length∧RChain x.kinds i x.rules
abbrev scB (b:Nat) (ver:Int) (kv lv rv:Value):Nat × Blk:=(b,.cells 43 [iD ver,.v kv,.v lv,.v rv])
abbrev zS:List D:=[.v (zv (ZV.int IntKind.i64)),.v (zv ZV.sl),.v (zv ZV.sl),.v (zv ZV.sl)]
theorem sb29 {A B:Prop} (k:B) (h:Hd7 B→A:=by intro hk7q;(first|(with_reducible refine Bc.l ?_)|fail|fail|((with_reducible refine Cb.go ?h ?_);(case h=>decide +kernel)));exact hk7q.run):A:=h ⟨k⟩
theorem sk30 {A B:Prop} (k:B) (h:Hd7 B→A:=by intro hk7q;(first|refine sb0 ?_|refine sb29 ?_|((with_reducible refine' Cp.by ?hc ?_);(case hc=>fail))|((with_reducible refine' CE.pure ?hc ?_);(case hc=>fail)));exact hk7q.run):A:=h ⟨k⟩
theorem cl15 {p:Prop} (h:p:=by (refine ac3 fun a=>?_;simp only [kdB,mkB,scB,List.append_eq,List.nil_append,ac4,ae4,ae6,sD,iD,bD];omega)):p:=h
theorem cl16 {p:Prop} (h:p:=by (refine ac3 fun a=>?_;simp only [kdB,mkB,scB,List.append_eq,List.nil_append,ac4,ae4,ae6,sD,iD,bD];omega)):p:=h
theorem cl17 {p:Prop} (h:p:=by first|exact List.Perm.refl _|((refine ac3 fun a=>?_;simp only [kdB,mkB,scB,List.append_eq,List.nil_append,ac4,ae4,ae6,sD,iD,bD];omega))):p:=h
theorem r09_schema (l:List Int) (hl:I64s l):ACall Tryz.prog 23 [slI l] [] (fun d σ=>∃ x,d=schD x∧σ=[]∧GenX x):=by
 have hll:=hl.2
 have hx:I64s (l.take 200):=⟨fun z hz=>hl.1 z (List.mem_of_mem_take hz),by have:=List.length_take_le 200 l;omega⟩
 generalize hxs:l.take 200=xs at hx
 have e0:List.take (if (200:Int)<((l.map fun x=>[iD x]).length:Int) then 200 else ((l.map fun x=>[iD x]).length:Int)).toNat (l.map fun x=>[iD x])=xs.map fun x=>[iD x]:=by
  rw [List.length_map,← hxs,List.map_take]
  split
  ·rfl
  ·rw [List.take_of_length_le (by rw [List.length_map];omega),List.take_of_length_le (by rw [List.length_map];omega)]
 refine aa4 mixed aa0 Tryz.func23 (by kernel_rfl) rfl Tryz.ntmps23 rfl ?_;intro BB
 repeat' (first|refine sk30 ?_|(intro b;conv=>whnf))
 generalize b=b2
 rw [e0]
 refine Bx.r (OtE.box rfl rfl (fun bm=>?_))
 have h0:=ae0 xs 0 4
 have h0':=h0.2 (by omega)
 have h1:=ae0 xs (0+1) 3
 have h1':=h1.2 (by omega)
 obtain ⟨n1,hn1⟩:∃ n:Nat,atE xs (0+1) 3=n:=⟨(atE xs (0+1) 3).toNat,by omega⟩
 repeat' (first|refine sk30 ?_|(intro b;conv=>whnf)|((refine CE.own (aa7 xs hx bm _ _ ⟨by omega,by omega⟩) (List.Perm.refl ([mkB bm xs _] ++ _)) (fun s'=>s' ++ _) (fun s'=>List.Perm.refl _) ?_);(rintro _ _ ⟨rfl,rfl⟩))|((refine CE.own (aa7 xs hx bm _ _ ⟨by omega,by omega⟩) (show List.Perm (_ :: mkB bm xs _ :: _) ([mkB bm xs _] ++ (_ :: _)) from List.Perm.swap _ _ _) (fun s'=>s' ++ (_ :: _)) (fun s'=>List.Perm.refl _) ?_);(rintro _ _ ⟨rfl,rfl⟩)))
 rw [hn1]
 repeat' (first|refine sk6 ?_|(intro b;conv=>whnf))
 generalize b=b4
 refine az6 mixed aa0 (γ:=Nat × Int × List Knd × Value × aa1) (fun g=>[(6,iD g.1)]) (fun g=>mkB bm xs g.2.1 :: scB b4 (atE xs 0 4) g.2.2.2.1 (.slice none 0 0) (.slice none 0 0) :: (b2,.cells 43 zS) :: g.2.2.2.2) (fun g=>g.1≤1+n1∧(2≤g.2.1∧g.2.1≤2+g.1*100)∧g.2.2.1.length=g.1∧KChain g.2.2.1∧RowIs 97 4 (g.2.2.1.map kndC) g.2.2.2.1 g.2.2.2.2) (fun g=>1+n1 - g.1) (0,2,[],.slice none 0 0,[]) (aa2 cl2) (Sc.perm (by first|exact List.Perm.refl _|exact List.Perm.swap _ _ _)) ⟨Nat.zero_le _,⟨by simp,by simp⟩,rfl,KChain.nil,RowIs.nil _ _⟩ ?_
 rintro ⟨i,p1,ks,v,sk⟩ ⟨hi,⟨hp1,hp1'⟩,hkl,hch,hkr⟩
 simp only at hi hp1 hp1' hkl hch hkr ⊢
 obtain ⟨a,c,e⟩:=hkr.slice
 rw [List.length_map] at e
 subst e
 by_cases hin:i<1+n1
 ·have hck:=hch.ck (by omega)
  have HK:=r09_kind xs hx bm p1 ⟨by omega,by omega⟩ ks (by omega) (fun k hk=>by have:=(hck k hk).ck.nf;omega) a c sk hkr
  repeat' (first|refine sk6 ?_|(intro b;conv=>whnf))
  (refine Dr.r ?_;(((with_reducible refine W.mk ?_);(conv=>whnf)));refine Dm.r ?_;refine W.mk ?_)
  refine lp_ordS mixed aa0 rfl [0,2,3] 7 (.two 1 (.one 4 (.one 5 (.one 6 (.one 7 (.one 8 (.one 9 .done)))))) 4 (.two 1 (.one 5 (.one 6 (.one 7 (.one 8 (.one 9 .done))))) 5 (.two 1 (.one 6 (.one 7 (.one 8 (.one 9 .done)))) 6 (.one 1 (.one 7 (.one 8 (.one 9 .done))))))) (γ:=Int × List Knd × Knd × Value × aa1) (fun _=>[]) (fun g=>mkB bm xs g.1 :: scB b4 (atE xs 0 4) g.2.2.2.1 (.slice none 0 0) (.slice none 0 0) :: (b2,.cells 43 zS) :: g.2.2.2.2) (fun g=>(p1≤g.1∧g.1≤p1+100)∧KMade ks g.2.2.1 g.2.1∧RowIs 97 4 ((g.2.1 ++ [g.2.2.1]).map kndC) g.2.2.2.1 g.2.2.2.2) (by decide +kernel) ?_ ?_
  ·repeat' (first|refine sk6 ?_|(intro b;conv=>whnf)|(refine And.intro ?_ ?_ <;> (conv=>whnf))|((refine CE.own (t:=[scB b4 (atE xs 0 4) (.slice a ks.length c) (.slice none 0 0) (.slice none 0 0),(b2,.cells 43 zS)]) HK cl15 (fun s'=>scB b4 (atE xs 0 4) (.slice a ks.length c) (.slice none 0 0) (.slice none 0 0) :: (b2,.cells 43 zS) :: s') (fun s'=>cl16) ?_);(rintro _ _ ⟨p2,k,ks2,s2,hp2,rfl,rfl,hkr2,hm⟩);(have hml:=(hm.cls (by omega) hck).2.1))|(refine Ap.go rfl rfl rfl rfl hkr2 (τ:=scB b4 (atE xs 0 4) (.slice a ks.length c) (.slice none 0 0) (.slice none 0 0) :: (b2,.cells 43 zS) :: [mkB bm xs p2]) cl15 rfl (zs:=(ks2 ++ [k]).map kndC) (by rw [List.map_append];rfl) (by rw [List.length_map,List.length_append,hml];simp only [List.length_singleton];omega) (by rw [List.length_map,List.length_append,hml];simp only [List.length_singleton];omega) (fun s'=>scB b4 (atE xs 0 4) (.slice a ks.length c) (.slice none 0 0) (.slice none 0 0) :: (b2,.cells 43 zS) :: mkB bm xs p2 :: s') (fun s'=>cl16) (fun a3 c3 s3 hr3=>?_)))
   all_goals exact ⟨(p2,ks2,k,_,s3),(aa2 cl2),Sc.perm cl15,hp2,hm,hr3⟩
  ·rintro ⟨p2,ks2,k,v2,s2⟩ ⟨⟨hp2,hp2'⟩,hm,hkr2⟩
   simp only at hp2 hp2' hm hkr2 ⊢
   have hml:=(hm.cls (by omega) hck).2.1
   repeat' (first|refine sk6 ?_|(intro b;conv=>whnf))
   exact ⟨(i+1,p2,ks2 ++ [k],v2,s2),(aa2 cl7),Sc.perm cl17,⟨by simp only;omega,⟨by simp only;omega,by simp only;omega⟩,by simp only [List.length_append,List.length_singleton];omega,hch.step hm hml,hkr2⟩,by simp only;omega⟩
 ·obtain rfl:i=1+n1:=by omega
  have h2:=ae0 xs p1 3
  have h2':=h2.2 (by omega)
  obtain ⟨n2,hn2⟩:∃ n:Nat,atE xs p1 3=n:=⟨(atE xs p1 3).toNat,by omega⟩
  have hst:List.take (2+(n2:Int)).toNat [[D.v (Value.string ⟨#[110,101,119]⟩)],[D.v (Value.string ⟨#[111,112,101,110]⟩)],[D.v (Value.string ⟨#[100,111,110,101]⟩)],[D.v (Value.string ⟨#[115,104,117,116]⟩)]]=(stL.take (2+n2)).map fun s=>[sD s]:=by
   rw [show (2+(n2:Int)).toNat=2+n2 by omega,List.map_take];rfl
  have hsl:(stL.take (2+n2)).length=2+n2:=by rw [List.length_take];simp;omega
  repeat' (first|refine sk6 ?_|(intro b;conv=>whnf))
  ((refine CE.own (aa7 xs hx bm _ _ ⟨by omega,by omega⟩) (List.Perm.refl ([mkB bm xs _] ++ _)) (fun s'=>s' ++ _) (fun s'=>List.Perm.refl _) ?_);(rintro _ _ ⟨rfl,rfl⟩))
  rw [hn2]
  repeat' (first|refine sk6 ?_|(intro b;conv=>whnf))
  rw [hst]
  repeat' (first|refine sk6 ?_|(intro b;conv=>whnf))
  generalize b=b8
  refine az6 mixed aa0 (γ:=Nat × List (Int × Int) × Value × aa1) (fun g=>[(9,iD g.1)]) (fun g=>(b8,.cells 102 [sD nLife,slS (stL.take (2+n2)),.v g.2.2.1]) :: mkB bm xs (p1+1) :: scB b4 (atE xs 0 4) (.slice a ks.length c) (.slice none 0 0) (.slice none 0 0) :: (b2,.cells 43 zS) :: (g.2.2.2 ++ sk)) (fun g=>g.1≤1+n2∧g.2.1.length=g.1∧(∀ q∈g.2.1,(0≤q.1∧q.1<((2+n2:Nat):Int))∧(0≤q.2∧q.2<((2+n2:Nat):Int)))∧RowIs 103 2 (g.2.1.map movC) g.2.2.1 g.2.2.2) (fun g=>1+n2 - g.1) (0,[],.slice none 0 0,[]) (aa2 cl2) (Sc.perm (by first|exact List.Perm.refl _|exact List.Perm.swap _ _ _)) ⟨Nat.zero_le _,rfl,by simp,RowIs.nil _ _⟩ ?_
  rintro ⟨i,mv,v,s⟩ ⟨hi2,hml,hmq,hmr⟩
  simp only at hi2 hml hmq hmr ⊢
  have hle:((stL.take (2+n2)).map fun s=>[sD s]).length=2+n2:=by rw [List.length_map];exact hsl
  by_cases hin2:i<1+n2
  ·repeat' (first|refine sk6 ?_|(intro b;conv=>whnf))
   refine Ap.go rfl rfl rfl rfl hmr (τ:=(b8,.cells 102 [sD nLife,slS (stL.take (2+n2)),.v v]) :: mkB bm xs (p1+1) :: scB b4 (atE xs 0 4) (.slice a ks.length c) (.slice none 0 0) (.slice none 0 0) :: (b2,.cells 43 zS) :: sk) cl15 rfl (zs:=(mv ++ [((i:Int),(i:Int)+1)]).map movC) (by rw [List.map_append];rfl) (by simp;omega) (by simp;omega) (fun s'=>(b8,.cells 102 [sD nLife,slS (stL.take (2+n2)),.v v]) :: mkB bm xs (p1+1) :: scB b4 (atE xs 0 4) (.slice a ks.length c) (.slice none 0 0) (.slice none 0 0) :: (b2,.cells 43 zS) :: (s' ++ sk)) (fun s'=>cl16) (fun a5 c5 s5 hr5=>?_)
   repeat' (first|refine sk6 ?_|(intro b;conv=>whnf))
   refine ⟨(i+1,mv ++ [((i:Int),(i:Int)+1)],_,s5),(aa2 cl7),Sc.refl _,⟨by simp only;omega,by simp only [List.length_append,List.length_singleton];omega,fun q hq=>?_,hr5⟩,by simp only;omega⟩
   rcases List.mem_append.1 hq with h|h
   ·exact hmq q h
   ·rw [List.mem_singleton] at h;subst h;simp only;omega
  ·obtain rfl:i=1+n2:=by omega
   have h3:=ae0 xs (p1+1) 2
   repeat' (first|refine sk9 ?_|(intro b;conv=>whnf))
   refine Bc.l ?_
   repeat' (first|refine sk9 ?_|(intro b;conv=>whnf))
   ((refine CE.own (t:=(b8,.cells 102 [sD nLife,slS (stL.take (2+n2)),.v v]) :: scB b4 (atE xs 0 4) (.slice a ks.length c) (.slice none 0 0) (.slice none 0 0) :: (b2,.cells 43 zS) :: (s ++ sk)) (aa7 xs hx bm (p1+1) _ ⟨by omega,by omega⟩) cl15 (fun s'=>(b8,.cells 102 [sD nLife,slS (stL.take (2+n2)),.v v]) :: (s' ++ (scB b4 (atE xs 0 4) (.slice a ks.length c) (.slice none 0 0) (.slice none 0 0) :: (b2,.cells 43 zS) :: (s ++ sk)))) (fun s'=>cl16) ?_);(rintro _ _ ⟨rfl,rfl⟩))
   repeat' (first|refine sk9 ?_|(intro b;conv=>whnf))
   refine Bc.j ?_
   refine at6 mixed aa0 (γ:=List (Int × Int) × Value × aa1) (fun _=>[]) (fun g=>(b8,.cells 102 [sD nLife,slS (stL.take (2+n2)),.v g.2.1]) :: mkB bm xs (p1+1+1) :: scB b4 (atE xs 0 4) (.slice a ks.length c) (.slice none 0 0) (.slice none 0 0) :: (b2,.cells 43 zS) :: (g.2.2 ++ sk)) (fun g=>g.1.length≤4∧(∀ q∈g.1,(0≤q.1∧q.1<((2+n2:Nat):Int))∧(0≤q.2∧q.2<((2+n2:Nat):Int)))∧RowIs 103 2 (g.1.map movC) g.2.1 g.2.2) ?_ ?_
   ·(((with_reducible refine W.mk ?_);(conv=>whnf)))
    refine Bc.l ?_
    by_cases hz3:atE xs (p1+1) 2=0
    ·repeat' (first|refine sk9 ?_|(intro b;conv=>whnf))
     refine Ap.go rfl rfl rfl rfl hmr (τ:=(b8,.cells 102 [sD nLife,slS (stL.take (2+n2)),.v v]) :: mkB bm xs (p1+1+1) :: scB b4 (atE xs 0 4) (.slice a ks.length c) (.slice none 0 0) (.slice none 0 0) :: (b2,.cells 43 zS) :: sk) cl15 rfl (zs:=(mv ++ [((1:Int),(0:Int))]).map movC) (by rw [List.map_append];rfl) (by simp;omega) (by simp;omega) (fun s'=>(b8,.cells 102 [sD nLife,slS (stL.take (2+n2)),.v v]) :: mkB bm xs (p1+1+1) :: scB b4 (atE xs 0 4) (.slice a ks.length c) (.slice none 0 0) (.slice none 0 0) :: (b2,.cells 43 zS) :: (s' ++ sk)) (fun s'=>cl16) (fun a5 c5 s5 hr5=>?_)
     repeat' (first|refine sk9 ?_|(intro b;conv=>whnf))
     refine ⟨(mv ++ [((1:Int),(0:Int))],_,s5),(aa2 cl2),Sc.refl _,⟨by simp only [List.length_append,List.length_singleton];omega,fun q hq=>?_,hr5⟩⟩
     rcases List.mem_append.1 hq with h|h
     ·exact hmq q h
     ·rw [List.mem_singleton] at h;subst h;simp only;omega
    ·repeat' (first|refine sk9 ?_|(intro b;conv=>whnf))
     exact ⟨(mv,v,s),(aa2 cl2),Sc.perm cl17,by simp only;omega,hmq,hmr⟩
   ·clear hmq hmr hml
    rintro ⟨mv,v,s⟩ ⟨hml,hmq,hmr⟩
    simp only at hml hmq hmr ⊢
    obtain ⟨a8,c8,e8⟩:=hmr.slice
    rw [List.length_map] at e8
    subst e8
    have h4:=ae0 xs (p1+1+1) 3
    repeat' (first|refine sk9 ?_|(intro b;conv=>whnf))
    ((refine CE.own (t:=(b8,.cells 102 [sD nLife,slS (stL.take (2+n2)),.v (.slice a8 mv.length c8)]) :: scB b4 (atE xs 0 4) (.slice a ks.length c) (.slice none 0 0) (.slice none 0 0) :: (b2,.cells 43 zS) :: (s ++ sk)) (aa7 xs hx bm (p1+1+1) _ ⟨by omega,by omega⟩) cl15 (fun s'=>(b8,.cells 102 [sD nLife,slS (stL.take (2+n2)),.v (.slice a8 mv.length c8)]) :: (s' ++ (scB b4 (atE xs 0 4) (.slice a ks.length c) (.slice none 0 0) (.slice none 0 0) :: (b2,.cells 43 zS) :: (s ++ sk)))) (fun s'=>cl16) ?_);(rintro _ _ ⟨rfl,rfl⟩))
    repeat' (first|refine sk9 ?_|(intro b;conv=>whnf))
    refine Bc.j ?_
    refine at6 mixed aa0 (γ:=List (Int × Int)) (fun _=>[]) (fun g=>(b8,.cells 102 (lifC ⟨nLife,stL.take (2+n2),g⟩)) :: mkB bm xs (p1+1+1+1) :: scB b4 (atE xs 0 4) (.slice a ks.length c) (.slice none 0 0) (.slice none 0 0) :: (b2,.cells 43 zS) :: sk) (fun g=>g.length≤5∧(∀ q∈g,(0≤q.1∧q.1<((2+n2:Nat):Int))∧(0≤q.2∧q.2<((2+n2:Nat):Int)))) ?_ ?_
    ·(((with_reducible refine W.mk ?_);(conv=>whnf)))
     refine Bc.l ?_
     have hfz:∀ (v:Value) (m:List (Int × Int)) (s:aa1),RowIs 103 2 (m.map movC) v s→Sc ((b8,.cells 102 [sD nLife,slS (stL.take (2+n2)),.v v]) :: mkB bm xs (p1+1+1+1) :: scB b4 (atE xs 0 4) (.slice a ks.length c) (.slice none 0 0) (.slice none 0 0) :: (b2,.cells 43 zS) :: (s ++ sk)) ((b8,.cells 102 (lifC ⟨nLife,stL.take (2+n2),m⟩)) :: mkB bm xs (p1+1+1+1) :: scB b4 (atE xs 0 4) (.slice a ks.length c) (.slice none 0 0) (.slice none 0 0) :: (b2,.cells 43 zS) :: sk):=fun v m s hr=>
      (Sc.perm cl15).trans (Sc.frz (cs:=[sD nLife,slS (stL.take (2+n2)),.v v]) (j:=2) (s:=s) (τ:=mkB bm xs (p1+1+1+1) :: scB b4 (atE xs 0 4) (.slice a ks.length c) (.slice none 0 0) (.slice none 0 0) :: (b2,.cells 43 zS) :: sk) rfl hr (LeR.refl _))
     by_cases hz4:atE xs (p1+1+1) 3=0
     ·repeat' (first|refine sk9 ?_|(intro b;conv=>whnf))
      rw [hle]
      repeat' (first|refine sk9 ?_|(intro b;conv=>whnf))
      refine Ap.go rfl rfl rfl rfl hmr (τ:=(b8,.cells 102 [sD nLife,slS (stL.take (2+n2)),.v (.slice a8 mv.length c8)]) :: mkB bm xs (p1+1+1+1) :: scB b4 (atE xs 0 4) (.slice a ks.length c) (.slice none 0 0) (.slice none 0 0) :: (b2,.cells 43 zS) :: sk) cl15 rfl (zs:=(mv ++ [((0:Int),((2+n2:Nat):Int) - 1)]).map movC) (by rw [List.map_append];rfl) (by simp;omega) (by simp;omega) (fun s'=>(b8,.cells 102 [sD nLife,slS (stL.take (2+n2)),.v (.slice a8 mv.length c8)]) :: mkB bm xs (p1+1+1+1) :: scB b4 (atE xs 0 4) (.slice a ks.length c) (.slice none 0 0) (.slice none 0 0) :: (b2,.cells 43 zS) :: (s' ++ sk)) (fun s'=>cl16) (fun a10 c10 s10 hr10=>?_)
      repeat' (first|refine sk9 ?_|(intro b;conv=>whnf))
      refine ⟨mv ++ [((0:Int),((2+n2:Nat):Int) - 1)],(aa2 cl2),hfz _ _ s10 hr10,by simp only [List.length_append,List.length_singleton];omega,fun q hq=>?_⟩
      rcases List.mem_append.1 hq with h|h
      ·exact hmq q h
      ·rw [List.mem_singleton] at h;subst h;simp only;omega
     ·repeat' (first|refine sk9 ?_|(intro b;conv=>whnf))
      exact ⟨mv,(aa2 cl2),(Sc.perm cl17).trans (hfz _ mv s hmr),by omega,hmq⟩
    ·clear hmq hmr hml
     rintro mv ⟨hml,hmq⟩
     have hck:=hch.ck (by omega)
     repeat' (first|refine sk6 ?_|(intro b;conv=>whnf))
     refine Ap.go rfl rfl rfl rfl (RowIs.nil 102 3) (List.Perm.refl ([] ++ _)) rfl (zs:=[lifC ⟨nLife,stL.take (2+n2),mv⟩]) rfl (by simp) (by simp) (fun s'=>s' ++ _) (fun s'=>List.Perm.refl _) (fun a11 c11 s11 hr11=>?_)
     repeat' (first|refine sk6 ?_|(intro b;conv=>whnf))
     refine Sv.cellm (tb:=43) (cs:=[iD (atE xs 0 4),.v (.slice a ks.length c),.v (.slice none 0 0),.v (.slice none 0 0)]) (cs':=[iD (atE xs 0 4),.v (.slice a ks.length c),.v (.slice a11 1 c11),.v (.slice none 0 0)]) (τ:=(b8,.cells 102 (lifC ⟨nLife,stL.take (2+n2),mv⟩)) :: mkB bm xs (p1+1+1+1) :: (b2,.cells 43 zS) :: (s11 ++ sk)) cl15 (by simp) rfl rfl ?_
     repeat' (first|refine sk6 ?_|(intro b;conv=>whnf))
     refine az6 mixed aa0 (γ:=Nat × Int × List Rul × Value × aa1) (fun g=>[(10,iD g.1)]) (fun g=>mkB bm xs g.2.1 :: scB b4 (atE xs 0 4) (.slice a ks.length c) (.slice a11 1 c11) g.2.2.2.1 :: (b2,.cells 43 zS) :: (g.2.2.2.2 ++ (s11 ++ sk))) (fun g=>g.1≤ks.length∧(p1+3≤g.2.1∧g.2.1≤p1+3+g.1*20)∧g.2.2.1.length≤2∧RChain ks g.1 g.2.2.1∧RowIs 105 5 (g.2.2.1.map rulC) g.2.2.2.1 g.2.2.2.2) (fun g=>ks.length - g.1) (0,p1+1+1+1,[],.slice none 0 0,[]) (aa2 cl2) (Sc.drop (ρ:=[(b8,.cells 102 (lifC ⟨nLife,stL.take (2+n2),mv⟩))]) cl15) ⟨Nat.zero_le _,⟨by simp only;omega,by simp only;omega⟩,by simp,RChain.nil,RowIs.nil _ _⟩ ?_
     rintro ⟨i,p2,rs,rv,s⟩ ⟨hi5,⟨hp2,hp2'⟩,hrl,hrc,hrr⟩
     simp only at hi5 hp2 hp2' hrl hrc hrr ⊢
     obtain ⟨a12,c12,e12⟩:=hrr.slice
     rw [List.length_map] at e12
     subst e12
     by_cases hin5:i<ks.length
     ·by_cases hr2:rs.length<2
      ·obtain ⟨k,hk⟩:∃ k,ks[i]?=some k:=⟨_,List.getElem?_eq_getElem hin5⟩
       have hk1:=(hck k (List.mem_of_getElem? hk)).ck
       obtain ⟨b9,cap9,cs9,e9,e9s,hcs9⟩:=RowIs.get hkr (show (ks.map kndC)[i]?=some (kndC k) by rw [List.getElem?_map,hk];rfl)
       rw [List.length_map] at e9
       cases e9
       subst e9s
       have HR:=r09_rule xs hx bm p2 ⟨by omega,by omega⟩ k (by have:=hk1.nf;omega) hk1.nm (fun f hf=>by have h1:=(hk1.fs f hf).lo;have h2:=(hk1.fs f hf).hi;omega)
       repeat' (first|refine sk6 ?_|(intro b;conv=>whnf))
       refine Ld.rowm (tb:=97) (cs:=cs9) (x:=kndC k) (by simp) rfl (by decide) (fun j hj=>by rw [show 0+((i:Nat):Int).toNat*4+j=i*4+j by simp];exact hcs9 j hj) ?_
       repeat' (first|refine sk6 ?_|(intro b;conv=>whnf))
       refine CE.own (t:=scB b4 (atE xs 0 4) (.slice (some ⟨b9,0,none⟩) ks.length c) (.slice a11 1 c11) (.slice a12 rs.length c12) :: (b2,.cells 43 zS) :: (s ++ (s11 ++ [(b9,.cells 97 cs9)]))) HR cl17 (fun s'=>s' ++ (scB b4 (atE xs 0 4) (.slice (some ⟨b9,0,none⟩) ks.length c) (.slice a11 1 c11) (.slice a12 rs.length c12) :: (b2,.cells 43 zS) :: (s ++ (s11 ++ [(b9,.cells 97 cs9)])))) (fun s'=>List.Perm.refl _) ?_
       rintro _ _ ⟨p3,r,ok,⟨hp3,hp3'⟩,rfl,rfl,hok⟩
       cases ok with
       | false=>
        repeat' (first|refine sk6 ?_|(intro b;conv=>whnf))
        exact ⟨(i+1,p3,rs,.slice a12 rs.length c12,s),(aa2 cl7),Sc.sl (List.sublist_cons_self _ _),⟨by simp only;omega,⟨by simp only;omega,by simp only;omega⟩,hrl,hrc.skip,hrr⟩,by simp only;omega⟩
       | true=>
        repeat' (first|refine sk6 ?_|(intro b;conv=>whnf))
        generalize b=b11
        refine Ap.go rfl rfl rfl rfl hrr (τ:=(b11,.cells 105 [sD r.name,sD r.kind,sD r.a,sD r.b,iD r.n]) :: mkB bm xs p3 :: scB b4 (atE xs 0 4) (.slice (some ⟨b9,0,none⟩) ks.length c) (.slice a11 1 c11) (.slice a12 rs.length c12) :: (b2,.cells 43 zS) :: (s11 ++ [(b9,.cells 97 cs9)])) cl15 rfl (zs:=(rs ++ [r]).map rulC) (by rw [List.map_append];rfl) (by simp;omega) (by simp;omega) (fun s'=>(b11,.cells 105 [sD r.name,sD r.kind,sD r.a,sD r.b,iD r.n]) :: mkB bm xs p3 :: scB b4 (atE xs 0 4) (.slice (some ⟨b9,0,none⟩) ks.length c) (.slice a11 1 c11) (.slice a12 rs.length c12) :: (b2,.cells 43 zS) :: (s' ++ (s11 ++ [(b9,.cells 97 cs9)]))) (fun s'=>cl16) (fun a13 c13 s13 hr13=>?_)
        repeat' (first|refine sk6 ?_|(intro b;conv=>whnf))
        exact ⟨(i+1,p3,rs ++ [r],_,s13),(aa2 cl7),Sc.sl (List.sublist_cons_self _ _),⟨by simp only;omega,⟨by simp only;omega,by simp only;omega⟩,by simp only [List.length_append,List.length_singleton];omega,hrc.take hk (hok rfl),hr13⟩,by simp only;omega⟩
      ·repeat' (first|refine sk6 ?_|(intro b;conv=>whnf))
       refine Rs.c aa0 (m:=2) rfl rfl rfl rfl rfl rfl ?_
       repeat' (first|refine sk6 ?_|(intro b;conv=>whnf))
       exact Rt.by (σ':=[]) (d':=schD ⟨atE xs 0 4,ks,[⟨nLife,stL.take (2+n2),mv⟩],rs⟩) (Vs.vd ⟨mkB bm xs p2 :: scB b4 (atE xs 0 4) (.slice a ks.length c) (.slice a11 1 c11) (.slice a12 rs.length c12) :: scB b2 (atE xs 0 4) (.slice a ks.length c) (.slice a11 1 c11) (.slice a12 rs.length c12) :: (s ++ (s11 ++ sk)),by rw [List.append_nil]⟩ (Vd.agg (.cons (Vd.same (fun z hz=>by cases hz) _) (.cons (Vd.row (ρ:=mkB bm xs p2 :: scB b4 (atE xs 0 4) (.slice a ks.length c) (.slice a11 1 c11) (.slice a12 rs.length c12) :: scB b2 (atE xs 0 4) (.slice a ks.length c) (.slice a11 1 c11) (.slice a12 rs.length c12) :: (s ++ s11)) hkr cl15 (fun z hz=>by cases hz)) (.cons (Vd.row (ρ:=mkB bm xs p2 :: scB b4 (atE xs 0 4) (.slice a ks.length c) (.slice a11 1 c11) (.slice a12 rs.length c12) :: scB b2 (atE xs 0 4) (.slice a ks.length c) (.slice a11 1 c11) (.slice a12 rs.length c12) :: (s ++ sk)) hr11 cl15 (fun z hz=>by cases hz)) (.cons (Vd.row (ρ:=mkB bm xs p2 :: scB b4 (atE xs 0 4) (.slice a ks.length c) (.slice a11 1 c11) (.slice a12 rs.length c12) :: scB b2 (atE xs 0 4) (.slice a ks.length c) (.slice a11 1 c11) (.slice a12 rs.length c12) :: (s11 ++ sk)) hrr cl15 (fun z hz=>by cases hz)) .nil)))))) ⟨_,rfl,rfl,⟨⟨h0.1,h0'⟩,⟨by show 1≤ks.length;omega,by show ks.length≤3;omega⟩,hch,⟨2+n2,mv,by omega,by omega,rfl,hml,hmq⟩,hrl,⟨_,hi5,hrc⟩⟩⟩
     ·obtain rfl:i=ks.length:=by omega
      repeat' (first|refine sk6 ?_|(intro b;conv=>whnf))
      refine Rs.c aa0 (m:=2) rfl rfl rfl rfl rfl rfl ?_
      repeat' (first|refine sk6 ?_|(intro b;conv=>whnf))
      exact Rt.by (σ':=[]) (d':=schD ⟨atE xs 0 4,ks,[⟨nLife,stL.take (2+n2),mv⟩],rs⟩) (Vs.vd ⟨mkB bm xs p2 :: scB b4 (atE xs 0 4) (.slice a ks.length c) (.slice a11 1 c11) (.slice a12 rs.length c12) :: scB b2 (atE xs 0 4) (.slice a ks.length c) (.slice a11 1 c11) (.slice a12 rs.length c12) :: (s ++ (s11 ++ sk)),by rw [List.append_nil]⟩ (Vd.agg (.cons (Vd.same (fun z hz=>by cases hz) _) (.cons (Vd.row (ρ:=mkB bm xs p2 :: scB b4 (atE xs 0 4) (.slice a ks.length c) (.slice a11 1 c11) (.slice a12 rs.length c12) :: scB b2 (atE xs 0 4) (.slice a ks.length c) (.slice a11 1 c11) (.slice a12 rs.length c12) :: (s ++ s11)) hkr cl15 (fun z hz=>by cases hz)) (.cons (Vd.row (ρ:=mkB bm xs p2 :: scB b4 (atE xs 0 4) (.slice a ks.length c) (.slice a11 1 c11) (.slice a12 rs.length c12) :: scB b2 (atE xs 0 4) (.slice a ks.length c) (.slice a11 1 c11) (.slice a12 rs.length c12) :: (s ++ sk)) hr11 cl15 (fun z hz=>by cases hz)) (.cons (Vd.row (ρ:=mkB bm xs p2 :: scB b4 (atE xs 0 4) (.slice a ks.length c) (.slice a11 1 c11) (.slice a12 rs.length c12) :: scB b2 (atE xs 0 4) (.slice a ks.length c) (.slice a11 1 c11) (.slice a12 rs.length c12) :: (s11 ++ sk)) hrr cl15 (fun z hz=>by cases hz)) .nil)))))) ⟨_,rfl,rfl,⟨⟨h0.1,h0'⟩,⟨by show 1≤ks.length;omega,by show ks.length≤3;omega⟩,hch,⟨2+n2,mv,by omega,by omega,rfl,hml,hmq⟩,hrl,⟨_,hi5,hrc⟩⟩⟩
end
section
open Go
theorem RuleF.cr {k:Knd} {r:Rul} (h:RuleF k r) (hk:CK k):CR r:=by
 have hx:(k.name.extract 0 1).size≤1:=by rw [ByteArray.size_extract];omega
 have ap:∀ a:ByteArray,a.size≤5→(a ++ k.name.extract 0 1).size≤12:=fun a ha=>by rw [ByteArray.size_append];omega
 cases h with
 | low n h hn=>exact ⟨ap _ (by decide),hk.nm.2,by show nLow.size≤12;decide,by show nHigh.size≤12;decide,by show -2000≤n - 2∧n - 2≤2000;omega⟩
 | most f n h hf hn=>
  have:=(hk.fs f (List.mem_of_getElem? hf)).lo
  exact ⟨ap _ (by decide),hk.nm.2,by show nSize.size≤12;decide,by show nE.size≤12;decide,by show -2000≤f.lo+n∧f.lo+n≤2000;omega⟩
 | least f n h hf hn=>
  have:=(hk.fs f (List.mem_of_getElem? hf)).hi
  exact ⟨ap _ (by decide),hk.nm.2,by show nE.size≤12;decide,by show nSize.size≤12;decide,by show -2000≤n - f.hi∧n - f.hi≤2000;omega⟩
theorem RChain.cr {ks:List Knd} {i:Nat} {rs:List Rul} (h:RChain ks i rs) (hk:∀ k∈ks,CK k):∀ r∈rs,CR r:=by
 induction h with
 | nil=>simp
 | skip h ih=>exact ih
 | take h hk' hr ih=>
  intro r hm
  rcases List.mem_append.1 hm with hm|hm
  ·exact ih r hm
  ·rw [List.mem_singleton] at hm;subst hm;exact hr.cr (hk _ (List.mem_of_getElem? hk'))
theorem GenX.cls {x:Sch} (h:GenX x):Cls x:=by
 have hk:∀ k∈x.kinds,CK k:=fun k hk=>(h.ks.ck h.nk.2 k hk).ck
 obtain ⟨m,mv,hm,hm',hl,hml,hmq⟩:=h.ls
 obtain ⟨i,_,hr⟩:=h.rs
 refine ⟨by have:=h.ver;omega,h.nk.2,hk,by rw [hl];simp,fun l hl'=>?_,by have:=h.nr;omega,hr.cr hk⟩
 rw [hl,List.mem_singleton] at hl'
 subst hl'
 refine ⟨by show nLife.size≤12;decide,by show (stL.take m).length≤4;rw [List.length_take];simp;omega,fun s hs=>?_,hml,fun q hq=>by have:=hmq q hq;omega⟩
 have:=List.mem_of_mem_take hs
 simp only [stL,List.mem_cons,List.not_mem_nil,or_false] at this
 rcases this with rfl|rfl|rfl|rfl <;> decide
end
section
open Go Go.RowKit Go.Shelf
theorem sb31 {A B:Prop} (k:B) (h:Hd7 B→A:=by intro hk7q;(first|fail|fail|((with_reducible refine Dr.l ?h ?_);(case h=>decide +kernel))|(with_reducible refine Dr.r ?_)|((with_reducible refine Dm.l ?h ?_);(case h=>decide +kernel))|((with_reducible refine Cb.go ?h ?_);(case h=>decide +kernel)));exact hk7q.run):A:=h ⟨k⟩
theorem sk32 {A B:Prop} (k:B) (h:Hd7 B→A:=by intro hk7q;(first|refine sb0 ?_|refine sb31 ?_|((with_reducible refine' Cp.by ?hc ?_);(case hc=>first|exact aa5 at_ _ hat|exact aa5 by_ _ hby|exact aa5 (at_.tdiv 5) _ h5i|exact aa5 (by_.tdiv 7) _ h7i))|((with_reducible refine' CE.pure ?hc ?_);(case hc=>first|exact aa5 at_ _ hat|exact aa5 by_ _ hby|exact aa5 (at_.tdiv 5) _ h5i|exact aa5 (by_.tdiv 7) _ h7i)));exact hk7q.run):A:=h ⟨k⟩
theorem sb33 {A B:Prop} (k:B) (h:Hd7 B→A:=by intro hk7q;(first|fail|(with_reducible refine Bx.l ?_)|((with_reducible refine Dr.l ?h ?_);(case h=>decide +kernel))|(with_reducible refine Dr.r ?_)|((with_reducible refine Dm.l ?h ?_);(case h=>decide +kernel))|((with_reducible refine Cb.go ?h ?_);(case h=>decide +kernel)));exact hk7q.run):A:=h ⟨k⟩
theorem sk34 {A B:Prop} (k:B) (h:Hd7 B→A:=by intro hk7q;(first|refine sb0 ?_|refine sb33 ?_|((with_reducible refine' Cp.by ?hc ?_);(case hc=>first|exact aa5 at_ _ hat|exact aa5 by_ _ hby|exact aa5 (at_.tdiv 5) _ h5i|exact aa5 (by_.tdiv 7) _ h7i))|((with_reducible refine' CE.pure ?hc ?_);(case hc=>first|exact aa5 at_ _ hat|exact aa5 by_ _ hby|exact aa5 (at_.tdiv 5) _ h5i|exact aa5 (by_.tdiv 7) _ h7i)));exact hk7q.run):A:=h ⟨k⟩
theorem sk35 {A B:Prop} (k:B) (h:Hd7 B→A:=by intro hk7q;(first|refine sb0 ?_|refine sb8 ?_|((with_reducible refine' Cp.by ?hc ?_);(case hc=>first|exact aa5 at_ _ hat|exact aa5 by_ _ hby|exact aa5 (at_.tdiv 5) _ h5i|exact aa5 (by_.tdiv 7) _ h7i))|((with_reducible refine' CE.pure ?hc ?_);(case hc=>first|exact aa5 at_ _ hat|exact aa5 by_ _ hby|exact aa5 (at_.tdiv 5) _ h5i|exact aa5 (by_.tdiv 7) _ h7i)));exact hk7q.run):A:=h ⟨k⟩
theorem sk36 {A B:Prop} (k:B) (h:Hd7 B→A:=by intro hk7q;(first|refine sb0 ?_|refine sb5 ?_|((with_reducible refine' Cp.by ?hc ?_);(case hc=>first|exact aa5 at_ _ hat|exact aa5 by_ _ hby|exact aa5 (at_.tdiv 5) _ h5i|exact aa5 (by_.tdiv 7) _ h7i))|((with_reducible refine' CE.pure ?hc ?_);(case hc=>first|exact aa5 at_ _ hat|exact aa5 by_ _ hby|exact aa5 (at_.tdiv 5) _ h5i|exact aa5 (by_.tdiv 7) _ h7i)));exact hk7q.run):A:=h ⟨k⟩
theorem sb37 {A B:Prop} (k:B) (h:Hd7 B→A:=by intro hk7q;(first|(with_reducible refine Bc.l ?_)|fail|((with_reducible refine Dr.l ?h ?_);(case h=>decide +kernel))|((with_reducible refine Cb.go ?h ?_);(case h=>decide +kernel)));exact hk7q.run):A:=h ⟨k⟩
theorem sk38 {A B:Prop} (k:B) (h:Hd7 B→A:=by intro hk7q;(first|refine sb0 ?_|refine sb37 ?_|((with_reducible refine' Cp.by ?hc ?_);(case hc=>first|exact aa5 at_ _ hat|exact aa5 by_ _ hby|exact aa5 (at_.tdiv 5) _ h5i|exact aa5 (by_.tdiv 7) _ h7i))|((with_reducible refine' CE.pure ?hc ?_);(case hc=>first|exact aa5 at_ _ hat|exact aa5 by_ _ hby|exact aa5 (at_.tdiv 5) _ h5i|exact aa5 (by_.tdiv 7) _ h7i)));exact hk7q.run):A:=h ⟨k⟩
theorem sb39 {A B:Prop} (k:B) (h:Hd7 B→A:=by intro hk7q;(first|(with_reducible refine Bc.l ?_)|(with_reducible refine Bx.l ?_)|(with_reducible refine Dr.r ?_)|((with_reducible refine Dm.l ?h ?_);(case h=>decide +kernel))|((with_reducible refine Cb.go ?h ?_);(case h=>decide +kernel)));exact hk7q.run):A:=h ⟨k⟩
theorem sk40 {A B:Prop} (k:B) (h:Hd7 B→A:=by intro hk7q;(first|refine sb0 ?_|refine sb39 ?_|((with_reducible refine' Cp.by ?hc ?_);(case hc=>first|exact aa5 at_ _ hat|exact aa5 by_ _ hby|exact aa5 (at_.tdiv 5) _ h5i|exact aa5 (by_.tdiv 7) _ h7i))|((with_reducible refine' CE.pure ?hc ?_);(case hc=>first|exact aa5 at_ _ hat|exact aa5 by_ _ hby|exact aa5 (at_.tdiv 5) _ h5i|exact aa5 (by_.tdiv 7) _ h7i)));exact hk7q.run):A:=h ⟨k⟩
end
section
open Go
theorem sk41 {A B:Prop} (k:B) (h:Hd7 B→A:=by intro hk7q;(first|refine sb0 ?_|refine sb1 ?_|((with_reducible refine' Cp.by ?hc ?_);(case hc=>exact hp _ (List.mem_of_getElem? hy)))|((with_reducible refine' CE.pure ?hc ?_);(case hc=>exact hp _ (List.mem_of_getElem? hy))));exact hk7q.run):A:=h ⟨k⟩
theorem ix_knd {f:FuncId} {cs:List D} (l:List Knd) (p:Knd→Bool) (hl:l.length≤1000000) (hp:∀ y∈l,APure Tryz.prog f [kndD y,.ro cs] (bD (p y))):APure Tryz.prog 125 [slK l,.clo f [.ro cs]] (iD (idx p l)):=by
 refine APure.of_call (aa4 mixed aa0 Tryz.func125 (by kernel_rfl) rfl Tryz.ntmps125 rfl ?_);intro BB
 repeat' (first|refine sk41 ?_|(intro b;conv=>whnf))
 refine ak7 mixed aa0 (γ:=Nat) (fun k=>[(8,iD k)]) (fun _=>[]) (fun k=>k≤l.length∧∀ i y,i<k→l[i]?=some y→p y=false) (fun k=>l.length - k) 0 rfl rfl ⟨by omega,by omega⟩ ?_
 rintro k ⟨hk,hno⟩
 by_cases hlt:k<l.length
 ·obtain ⟨y,hy⟩:∃ y,l[(k:Int).toNat]?=some y:=⟨_,List.getElem?_eq_getElem hlt⟩
  repeat' (first|refine sk41 ?_|(intro b;conv=>whnf)|(with_reducible refine Br.d (fun hc=>?_) (fun hc=>?_))|(with_reducible refine Br.b (fun hc=>?_) (fun hc=>?_)))
  ·refine Rt.pure (congrArg iD ?_)
   exact (ad6 hy ‹_› hno).symm
  ·exact ⟨k+1,rfl,rfl,⟨by omega,fun i z hi hz=>by
    by_cases e:i=k
    ·subst e;rw [show ((i:Int)).toNat=i from rfl,hz] at hy;cases hy;assumption
    ·exact hno i z (by omega) hz⟩,by omega⟩
 ·repeat' (first|refine sk41 ?_|(intro b;conv=>whnf))
  refine Rt.pure (congrArg iD ?_)
  exact (an9 fun i y hy=>hno i y (by have:=(List.getElem?_eq_some_iff.1 hy).1;omega) hy).symm
theorem sk42 {A B:Prop} (k:B) (h:Hd7 B→A:=by intro hk7q;(first|refine sb0 ?_|refine sb1 ?_|((with_reducible refine' Cp.by ?hc ?_);(case hc=>exact ix_knd l p hl hp))|((with_reducible refine' CE.pure ?hc ?_);(case hc=>exact ix_knd l p hl hp)));exact hk7q.run):A:=h ⟨k⟩
theorem ix_fld {f:FuncId} {cs:List D} (l:List Fld) (p:Fld→Bool) (hl:l.length≤1000000) (hp:∀ y∈l,APure Tryz.prog f [fldD y,.ro cs] (bD (p y))):APure Tryz.prog 104 [slF l,.clo f [.ro cs]] (iD (idx p l)):=by
 refine APure.of_call (aa4 mixed aa0 Tryz.func104 (by kernel_rfl) rfl Tryz.ntmps104 rfl ?_);intro BB
 repeat' (first|refine sk41 ?_|(intro b;conv=>whnf))
 refine ak7 mixed aa0 (γ:=Nat) (fun k=>[(8,iD k)]) (fun _=>[]) (fun k=>k≤l.length∧∀ i y,i<k→l[i]?=some y→p y=false) (fun k=>l.length - k) 0 rfl rfl ⟨by omega,by omega⟩ ?_
 rintro k ⟨hk,hno⟩
 by_cases hlt:k<l.length
 ·obtain ⟨y,hy⟩:∃ y,l[(k:Int).toNat]?=some y:=⟨_,List.getElem?_eq_getElem hlt⟩
  repeat' (first|refine sk41 ?_|(intro b;conv=>whnf)|(with_reducible refine Br.d (fun hc=>?_) (fun hc=>?_))|(with_reducible refine Br.b (fun hc=>?_) (fun hc=>?_)))
  ·refine Rt.pure (congrArg iD ?_)
   exact (ad6 hy ‹_› hno).symm
  ·exact ⟨k+1,rfl,rfl,⟨by omega,fun i z hi hz=>by
    by_cases e:i=k
    ·subst e;rw [show ((i:Int)).toNat=i from rfl,hz] at hy;cases hy;assumption
    ·exact hno i z (by omega) hz⟩,by omega⟩
 ·repeat' (first|refine sk41 ?_|(intro b;conv=>whnf))
  refine Rt.pure (congrArg iD ?_)
  exact (an9 fun i y hy=>hno i y (by have:=(List.getElem?_eq_some_iff.1 hy).1;omega) hy).symm
theorem ix_lif {f:FuncId} {cs:List D} (l:List Lif) (p:Lif→Bool) (hl:l.length≤1000000) (hp:∀ y∈l,APure Tryz.prog f [lifD y,.ro cs] (bD (p y))):APure Tryz.prog 115 [slL l,.clo f [.ro cs]] (iD (idx p l)):=by
 refine APure.of_call (aa4 mixed aa0 Tryz.func115 (by kernel_rfl) rfl Tryz.ntmps115 rfl ?_);intro BB
 repeat' (first|refine sk41 ?_|(intro b;conv=>whnf))
 refine ak7 mixed aa0 (γ:=Nat) (fun k=>[(8,iD k)]) (fun _=>[]) (fun k=>k≤l.length∧∀ i y,i<k→l[i]?=some y→p y=false) (fun k=>l.length - k) 0 rfl rfl ⟨by omega,by omega⟩ ?_
 rintro k ⟨hk,hno⟩
 by_cases hlt:k<l.length
 ·obtain ⟨y,hy⟩:∃ y,l[(k:Int).toNat]?=some y:=⟨_,List.getElem?_eq_getElem hlt⟩
  repeat' (first|refine sk41 ?_|(intro b;conv=>whnf)|(with_reducible refine Br.d (fun hc=>?_) (fun hc=>?_))|(with_reducible refine Br.b (fun hc=>?_) (fun hc=>?_)))
  ·refine Rt.pure (congrArg iD ?_)
   exact (ad6 hy ‹_› hno).symm
  ·exact ⟨k+1,rfl,rfl,⟨by omega,fun i z hi hz=>by
    by_cases e:i=k
    ·subst e;rw [show ((i:Int)).toNat=i from rfl,hz] at hy;cases hy;assumption
    ·exact hno i z (by omega) hz⟩,by omega⟩
 ·repeat' (first|refine sk41 ?_|(intro b;conv=>whnf))
  refine Rt.pure (congrArg iD ?_)
  exact (an9 fun i y hy=>hno i y (by have:=(List.getElem?_eq_some_iff.1 hy).1;omega) hy).symm
theorem sk43 {A B:Prop} (k:B) (h:Hd7 B→A:=by intro hk7q;(first|refine sb0 ?_|refine sb1 ?_|((with_reducible refine' Cp.by ?hc ?_);(case hc=>exact ix_lif l p hl hp))|((with_reducible refine' CE.pure ?hc ?_);(case hc=>exact ix_lif l p hl hp)));exact hk7q.run):A:=h ⟨k⟩
theorem any_lif {f:FuncId} {cs:List D} (l:List Lif) (p:Lif→Bool) (hl:l.length≤1000000) (hp:∀ y∈l,APure Tryz.prog f [lifD y,.ro cs] (bD (p y))):APure Tryz.prog 83 [slL l,.clo f [.ro cs]] (bD (l.any p)):=by
 refine APure.of_call (aa4 mixed aa0 Tryz.func83 (by kernel_rfl) rfl Tryz.ntmps83 rfl ?_);intro BB
 repeat' (first|refine sk43 ?_|(intro b;conv=>whnf))
 refine Rt.pure (congrArg bD ?_)
 exact an5 p l
theorem ix_rul {f:FuncId} {cs:List D} (l:List Rul) (p:Rul→Bool) (hl:l.length≤1000000) (hp:∀ y∈l,APure Tryz.prog f [rulD y,.ro cs] (bD (p y))):APure Tryz.prog 143 [slR l,.clo f [.ro cs]] (iD (idx p l)):=by
 refine APure.of_call (aa4 mixed aa0 Tryz.func143 (by kernel_rfl) rfl Tryz.ntmps143 rfl ?_);intro BB
 repeat' (first|refine sk41 ?_|(intro b;conv=>whnf))
 refine ak7 mixed aa0 (γ:=Nat) (fun k=>[(8,iD k)]) (fun _=>[]) (fun k=>k≤l.length∧∀ i y,i<k→l[i]?=some y→p y=false) (fun k=>l.length - k) 0 rfl rfl ⟨by omega,by omega⟩ ?_
 rintro k ⟨hk,hno⟩
 by_cases hlt:k<l.length
 ·obtain ⟨y,hy⟩:∃ y,l[(k:Int).toNat]?=some y:=⟨_,List.getElem?_eq_getElem hlt⟩
  repeat' (first|refine sk41 ?_|(intro b;conv=>whnf)|(with_reducible refine Br.d (fun hc=>?_) (fun hc=>?_))|(with_reducible refine Br.b (fun hc=>?_) (fun hc=>?_)))
  ·refine Rt.pure (congrArg iD ?_)
   exact (ad6 hy ‹_› hno).symm
  ·exact ⟨k+1,rfl,rfl,⟨by omega,fun i z hi hz=>by
    by_cases e:i=k
    ·subst e;rw [show ((i:Int)).toNat=i from rfl,hz] at hy;cases hy;assumption
    ·exact hno i z (by omega) hz⟩,by omega⟩
 ·repeat' (first|refine sk41 ?_|(intro b;conv=>whnf))
  refine Rt.pure (congrArg iD ?_)
  exact (an9 fun i y hy=>hno i y (by have:=(List.getElem?_eq_some_iff.1 hy).1;omega) hy).symm
theorem sk44 {A B:Prop} (k:B) (h:Hd7 B→A:=by intro hk7q;(first|refine sb0 ?_|refine sb1 ?_|((with_reducible refine' Cp.by ?hc ?_);(case hc=>exact ix_rul l p hl hp))|((with_reducible refine' CE.pure ?hc ?_);(case hc=>exact ix_rul l p hl hp)));exact hk7q.run):A:=h ⟨k⟩
theorem any_rul {f:FuncId} {cs:List D} (l:List Rul) (p:Rul→Bool) (hl:l.length≤1000000) (hp:∀ y∈l,APure Tryz.prog f [rulD y,.ro cs] (bD (p y))):APure Tryz.prog 116 [slR l,.clo f [.ro cs]] (bD (l.any p)):=by
 refine APure.of_call (aa4 mixed aa0 Tryz.func116 (by kernel_rfl) rfl Tryz.ntmps116 rfl ?_);intro BB
 repeat' (first|refine sk44 ?_|(intro b;conv=>whnf))
 refine Rt.pure (congrArg bD ?_)
 exact an5 p l
end
section
open Go
theorem sk45 {A B:Prop} (k:B) (h:Hd7 B→A:=by intro hk7q;(first|refine sb0 ?_|refine sb1 ?_|((with_reducible refine' Cp.by ?hc ?_);(case hc=>first|exact ak2 _ _ (by assumption)|exact ai1 _ _ (by assumption)))|((with_reducible refine' CE.pure ?hc ?_);(case hc=>first|exact ak2 _ _ (by assumption)|exact ai1 _ _ (by assumption))));exact hk7q.run):A:=h ⟨k⟩
theorem bc8 (fs:List Fld):APure Tryz.prog 96 [slF fs] (bD (bf1 fs)):=by
 refine APure.of_call (aa4 mixed aa0 Tryz.func96 (by kernel_rfl) rfl Tryz.ntmps96 rfl ?_);intro BB
 cases fs with
 | nil=>
  repeat' (first|refine sk45 ?_|(intro b;conv=>whnf)|(with_reducible refine Br.d (fun hc=>?_) (fun hc=>?_))|(with_reducible refine Br.b (fun hc=>?_) (fun hc=>?_)))
  refine Rt.pure (congrArg bD ?_);rfl
 | cons f r=>
  repeat' (first|refine sk45 ?_|(intro b;conv=>whnf)|(with_reducible refine Br.d (fun hc=>?_) (fun hc=>?_))|(with_reducible refine Br.b (fun hc=>?_) (fun hc=>?_)))
  all_goals (refine Rt.pure (congrArg bD ?_);simp_all [bf1])
def prbC (p:Prb):List D:=[iD p.1,iD p.2.1,iD p.2.2.1,iD p.2.2.2]
theorem aW0 {x:Sch} {i m:Nat} {r s:Rul} (hm:m<i) (hs:x.rules[m]?=some s) (h:seq s.name r.name=true):ae7 x i r=true:=by
 unfold ae7
 rw [List.any_eq_true]
 exact ⟨s,List.mem_of_getElem? (i:=m) (by rw [List.getElem?_take,if_pos hm];exact hs),h⟩
theorem aH4 {x:Sch} {i:Nat} {r:Rul} (h:∀ (m:Nat) y,m<i→x.rules[m]?=some y→seq y.name r.name=false):ae7 x i r=false:=by
 unfold ae7
 rw [List.any_eq_false]
 intro s hs
 obtain ⟨m,hm⟩:=List.getElem?_of_mem hs
 rw [List.getElem?_take] at hm
 split at hm
 ·rename_i hlt;simp [h m s hlt hm]
 ·cases hm
theorem ruleE_twice {x:Sch} {i:Nat} {r:Rul} (h:ae7 x i r=true):aw6 x i r=7:=by
 unfold aw6
 split <;> rw [h] <;> rfl
theorem bc1 {x:Sch} {i:Nat} {r:Rul} (h:ae7 x i r=false) (hk:ad9 x (ab3 x r.kind)=none):aw6 x i r=12:=by
 simp only [aw6,hk,h];rfl
theorem ruleE_kind {x:Sch} {i:Nat} {r:Rul} {k:Knd} (h:ae7 x i r=false) (hk:ad9 x (ab3 x r.kind)=some k) :
  aw6 x i r=if ae9 x k (ab3 x r.kind) r.a=true∨ae9 x k (ab3 x r.kind) r.b=true then 12 else if ac7 x k (ab3 x r.kind) r.a=true∨ac7 x k (ab3 x r.kind) r.b=true then 13 else if seq r.a r.b=true then 1 else 0:=by
 simp only [aw6,hk,h]
 cases ae9 x k (ab3 x r.kind) r.a <;> cases ae9 x k (ab3 x r.kind) r.b <;> cases ac7 x k (ab3 x r.kind) r.a <;> cases ac7 x k (ab3 x r.kind) r.b <;> cases seq r.a r.b <;> rfl
theorem ba5 {x:Sch} {i j:Int} {k:Knd} {g:Fld} (h0:0≤i) (hk:x.kinds[i.toNat]?=some k) (hj:0≤j) (hg:k.fields[j.toNat]?=some g):atR x i j=(g,true):=by
 unfold atR;rw [ah9 h0 hj hk,hg]
theorem atR_none {x:Sch} {i j:Int} (hj:j<0):atR x i j=(aK5,false):=by
 unfold atR;rw [aj7 (by omega)]
theorem nm_E (x:Sch) (k:Knd) (o:Int) {n:ByteArray} (h:(n.toList == ({ data:=#[] }:ByteArray).toList)=true):ae9 x k o n=false∧ac7 x k o n=false:=by rw [eqE] at h;simp [ae9,ac7,h]
theorem nm_no (x:Sch) (k:Knd) (o:Int) {n:ByteArray} (h:(n.toList == ({ data:=#[] }:ByteArray).toList)=false) (hi:ab6 k n<0):ae9 x k o n=true:=by rw [eqE] at h;simp [ae9,h,atR_none hi]
theorem nm_ok {x:Sch} {k:Knd} {o:Int} {n:ByteArray} {g:Fld} (h:(n.toList == ({ data:=#[] }:ByteArray).toList)=false) (h0:0≤o) (hk:x.kinds[o.toNat]?=some k) (hj:0≤ab6 k n) (hg:k.fields[(ab6 k n).toNat]?=some g) :
  ae9 x k o n=false∧ac7 x k o n=(!decide (g.kind=2) && !decide (g.kind=4)):=by
 rw [eqE] at h
 simp only [ae9,ac7,h,ba5 h0 hk hj hg]
 refine ⟨rfl,?_⟩
 by_cases h2:g.kind=2 <;> by_cases h4:g.kind=4 <;> simp [h2,h4]
def twoI (x:Sch) (k:Knd) (o:Int) (r:Rul) (g:Nat × Bool):Prop:=(g.1=0∧g.2=false)∨(g.1=1∧ae9 x k o r.a=false∧g.2=ac7 x k o r.a)∨(g.1=2∧ae9 x k o r.a=false∧ae9 x k o r.b=false∧g.2=(ac7 x k o r.a || ac7 x k o r.b))
theorem bc6 (x:Sch) (i:Nat) (r:Rul) (hl:x.kinds.length≤1000000) (hf:∀ k∈x.kinds,k.fields.length≤1000000) (hrl:x.rules.length≤1000000) (hr:x.rules[i]?=some r):APure Tryz.prog 98 [schD x,iD i] (iD (aw6 x i r)):=by
 refine APure.of_call (aa4 mixed aa0 Tryz.func98 (by kernel_rfl) rfl Tryz.ntmps98 rfl ?_);intro BB
 repeat' (first|refine sk45 ?_|(intro b;conv=>whnf)|refine IxM.mk fun y hy=>?_|(with_reducible refine Br.d (fun hc=>?_) (fun hc=>?_))|(with_reducible refine Br.b (fun hc=>?_) (fun hc=>?_)))
 refine ak7 mixed aa0 (γ:=Nat) (fun q=>[(6,iD q)]) (fun _=>[(b,.cells 105 (rulC r))]) (fun q=>q≤i∧∀ (m:Nat) y,m<q→x.rules[m]?=some y→seq y.name r.name=false) (fun q=>i - q) 0 rfl rfl ⟨by omega,fun m y hm=>by omega⟩ ?_
 rintro q ⟨hq,hno⟩
 have hil:=(List.getElem?_eq_some_iff.1 hr).1
 have hkl:=aN9 x r.kind
 repeat' (first|refine sk45 ?_|(intro b;conv=>whnf)|refine IxM.mk fun y hy=>?_|(with_reducible refine Br.d (fun hc=>?_) (fun hc=>?_))|(with_reducible refine Br.b (fun hc=>?_) (fun hc=>?_)))
 ·refine Rt.pure (congrArg iD ?_)
  exact (ruleE_twice (aW0 (m:=q) (by omega) hy (by assumption))).symm
 ·exact ⟨q+1,rfl,rfl,⟨by omega,fun m z hm hz=>by
   by_cases e:m=q
   ·subst e;rw [show ((m:Int)).toNat=m from rfl,hz] at hy;cases hy;assumption
   ·exact hno m z (by omega) hz⟩,by omega⟩
 ·obtain rfl:q=i:=by omega
  refine Rt.pure (congrArg iD ?_)
  exact (bc1 (aH4 hno) (by unfold ad9;rw [if_neg (by omega)])).symm
 ·obtain rfl:q=i:=by omega
  obtain ⟨k,hk⟩:∃ k,x.kinds[(ab3 x r.kind).toNat]?=some k:=⟨_,List.getElem?_eq_getElem (by omega)⟩
  have hka:ad9 x (ab3 x r.kind)=some k:=by unfold ad9;rw [if_pos (by omega)];exact hk
  have hE:=ruleE_kind (aH4 hno) hka
  have hfk:=hf k (List.mem_of_getElem? hk)
  have hfa:=aq0 k r.a
  have hfb:=aq0 k r.b
  refine ak7 mixed aa0 (γ:=Nat × Bool) (fun g=>[(9,bD g.2),(10,iD g.1)]) (fun _=>[(b,.cells 105 (rulC r))]) (twoI x k (ab3 x r.kind) r) (fun g=>2 - g.1) (0,false) rfl rfl (.inl ⟨rfl,rfl⟩) ?_
  rintro ⟨j,w⟩ (⟨rfl,rfl⟩|⟨rfl,ha,rfl⟩|⟨rfl,ha,hb,rfl⟩)
  ·repeat' (first|refine sk45 ?_|(intro b;conv=>whnf)|refine IxM.mk fun y hy=>?_|(with_reducible refine Br.d (fun hc=>?_) (fun hc=>?_))|(with_reducible refine Br.b (fun hc=>?_) (fun hc=>?_)))
   ·exact ⟨(1,false),rfl,rfl,.inr (.inl ⟨rfl,(nm_E x k _ ‹_›).1,(nm_E x k _ ‹_›).2.symm⟩),by simp⟩
   ·refine Rt.pure (congrArg iD ?_)
    rw [hE,if_pos (.inl (nm_no x k _ ‹_› (by omega)))]
   all_goals
    have hh:=nm_ok (x:=x) (k:=k) (o:=ab3 x r.kind) (n:=r.a) ‹_› (by omega) hk (by omega) hy
    first
    | exact ⟨(1,!decide (y.kind=4)),rfl,rfl,.inr (.inl ⟨rfl,hh.1,by rw [hh.2];simp [*]⟩),by simp⟩
    | exact ⟨(1,false),rfl,rfl,.inr (.inl ⟨rfl,hh.1,by rw [hh.2];simp [*]⟩),by simp⟩
  ·generalize hw:ac7 x k (ab3 x r.kind) r.a=w
   repeat' (first|refine sk45 ?_|(intro b;conv=>whnf)|refine IxM.mk fun y hy=>?_|(with_reducible refine Br.d (fun hc=>?_) (fun hc=>?_))|(with_reducible refine Br.b (fun hc=>?_) (fun hc=>?_)))
   ·exact ⟨(2,w),rfl,rfl,.inr (.inr ⟨rfl,ha,(nm_E x k _ ‹_›).1,by rw [(nm_E x k _ (n:=r.b) ‹_›).2,hw];simp⟩),by simp⟩
   ·refine Rt.pure (congrArg iD ?_)
    rw [hE,if_pos (.inr (nm_no x k _ ‹_› (by omega)))]
   all_goals
    have hh:=nm_ok (x:=x) (k:=k) (o:=ab3 x r.kind) (n:=r.b) ‹_› (by omega) hk (by omega) hy
    first
    | exact ⟨(2,true),rfl,rfl,.inr (.inr ⟨rfl,ha,hh.1,by rw [hh.2,hw];simp [*]⟩),by simp⟩
    | exact ⟨(2,!decide (y.kind=4)),rfl,rfl,.inr (.inr ⟨rfl,ha,hh.1,by rw [hh.2,hw];simp [*]⟩),by simp⟩
    | exact ⟨(2,false),rfl,rfl,.inr (.inr ⟨rfl,ha,hh.1,by rw [hh.2,hw];simp [*]⟩),by simp⟩
  ·generalize hw:(ac7 x k (ab3 x r.kind) r.a || ac7 x k (ab3 x r.kind) r.b)=w
   rw [if_neg (by simp [ha,hb])] at hE
   simp only [← Bool.or_eq_true,hw] at hE
   repeat' (first|refine sk45 ?_|(intro b;conv=>whnf)|refine IxM.mk fun y hy=>?_|(with_reducible refine Br.d (fun hc=>?_) (fun hc=>?_))|(with_reducible refine Br.b (fun hc=>?_) (fun hc=>?_)))
   all_goals (refine Rt.pure (congrArg iD ?_);rw [hE];simp [*,seq])
end
end Go.Proofs.YtjbbmjjildhfbaaGreatDoor
