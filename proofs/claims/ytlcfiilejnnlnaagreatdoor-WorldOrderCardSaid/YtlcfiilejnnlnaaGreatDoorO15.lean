/- A part of the proof: Rv Rz Rx Ud Ua Hd Ub Hk. -/
import Derived.Test.YtlcfiilejnnlnaaGreatDoorO14
set_option maxRecDepth 100000
set_option maxHeartbeats 20000000
set_option linter.unusedVariables false
set_option linter.unusedSimpArgs false
namespace Go.Proofs.YtlcfiilejnnlnaaGreatDoor
section
open Go
structure Alk (w u:Wd):Prop where
 len:u.length=w.length
 same:∀ k,k+1<w.length→u.getD k []=w.getD k []
 perm:∀ k,(u.getD k []).Perm (w.getD k [])
theorem Alk.lenr {w u:Wd} (h:Alk w u) (k:Nat):(u.getD k []).length=(w.getD k []).length:=(h.perm k).length_eq
theorem Alk.up {w u:Wd} (h:Alk w u) {k q:Nat} (hq:q<k) (hk:k<w.length):u.getD q []=w.getD q []:=h.same q (by omega)
theorem bq1 {α:Type} {l m:List α} (h:l.Perm m) (p:α→Bool):l.all p=m.all p:=by
 rw [Bool.eq_iff_iff,List.all_eq_true,List.all_eq_true]
 exact ⟨fun g a ha=>g a (h.mem_iff.2 ha),fun g a ha=>g a (h.mem_iff.1 ha)⟩
theorem Alk.refOk {w u:Wd} (h:Alk w u) (r:Rf) (l:List Int):refOk u r l=refOk w r l:=by
 unfold Go.Proofs.YtlcfiilejnnlnaaGreatDoor.refOk
 rw [h.lenr]
theorem Alk.fit {x:Sch} {w u:Wd} (h:Alk w u):fitW x u=fitW x w:=by
 unfold fitW
 have h1:∀ k,an4 x k (u.getD k [])=an4 x k (w.getD k []):=fun k=>by unfold an4;rw [h.lenr,bq1 (h.perm k)]
 have h2:∀ r:Rf,(u.getD r.kind []).all (Go.Proofs.YtlcfiilejnnlnaaGreatDoor.refOk u r)=(w.getD r.kind []).all (Go.Proofs.YtlcfiilejnnlnaaGreatDoor.refOk w r):=fun r=>by
  rw [bq1 (h.perm _)]
  exact congrArg _ (funext fun l=>h.refOk r l)
 rw [h.len]
 simp only [h1,h2]
theorem cc6 {x:Sch} {k:Nat} {s:ByteArray} (h:0≤al3 x k s):al3 x k s<k:=by
 unfold al3 at h ⊢
 split at h
 ·split at h
  ·rename_i h1;rw [if_pos h1];exact ay3 x k _ h
  ·omega
 ·omega
theorem Alk.endV {x:Sch} {w u:Wd} (h:Alk w u):∀ (p:List ByteArray) (k:Nat) (r:List Int),k<w.length→ai4 x k p=true→endV x u k r p=endV x w k r p
 | [],_,_,_,_=>rfl
 | [s],_,_,_,_=>rfl
 | s :: t :: l,k,r,hk,hl=>by
  rw [ai4,Bool.and_eq_true,decide_eq_true_eq] at hl
  have h1:=cc6 hl.1
  have h2:aK9 u (al3 x k s).toNat (vatR r (aa3 (kdOf x k) s)).toNat=aK9 w (al3 x k s).toNat (vatR r (aa3 (kdOf x k) s)).toNat:=by
   unfold aK9;rw [h.up (k:=k) (by omega) hk]
  show Go.Proofs.YtlcfiilejnnlnaaGreatDoor.endV x u _ (aK9 u _ _) _=Go.Proofs.YtlcfiilejnnlnaaGreatDoor.endV x w _ (aK9 w _ _) _
  rw [h2]
  exact h.endV (t :: l) _ _ (by omega) hl.2
theorem Alk.holdV {x:Sch} {w u:Wd} (h:Alk w u) {k:Nat} (hk:k<w.length) (r:List Int) (c:Cnd) (hl:leadsB x k c=true):holdV x u k r c=holdV x w k r c:=by
 induction c with
 | c0 o p q n=>
  simp only [leadsB,Bool.and_eq_true] at hl
  simp only [Go.Proofs.YtlcfiilejnnlnaaGreatDoor.holdV,h.endV p k r hk hl.1,h.endV q k r hk hl.2]
 | c1 o p q n a ih=>
  simp only [leadsB,Bool.and_eq_true] at hl
  simp only [Go.Proofs.YtlcfiilejnnlnaaGreatDoor.holdV,h.endV p k r hk hl.1.1,h.endV q k r hk hl.1.2,ih hl.2]
 | c2 o p q n a b h1 h2=>
  simp only [leadsB,Bool.and_eq_true] at hl
  simp only [Go.Proofs.YtlcfiilejnnlnaaGreatDoor.holdV,h.endV p k r hk hl.1.1,h.endV q k r hk hl.1.2,h1 hl.2.1,h2 hl.2.2]
theorem Alk.vals {x:Sch} {w u:Wd} (h:Alk w u) {k:Nat} (hk:k<w.length) (q:Qry) (hp:ai4 x k q.path=true) (hc:leadsB x k q.cond=true):(aS6 x u k q).Perm (aS6 x w k q):=by
 unfold aS6
 have e1:(fun r=>Go.Proofs.YtlcfiilejnnlnaaGreatDoor.holdV x u k r q.cond)=fun r=>Go.Proofs.YtlcfiilejnnlnaaGreatDoor.holdV x w k r q.cond:=funext fun r=>h.holdV hk r q.cond hc
 have e2:(fun r=>if q.op=0 then 1 else Go.Proofs.YtlcfiilejnnlnaaGreatDoor.endV x u k r q.path)=fun r=>if q.op=0 then 1 else Go.Proofs.YtlcfiilejnnlnaaGreatDoor.endV x w k r q.path:=funext fun r=>by rw [h.endV q.path k r hk hp]
 rw [e1,e2]
 exact ((h.perm k).filter _).map _
theorem bJ2 {l m:List Int} (h:l.Perm m):l.sum=m.sum:=by
 induction h with
 | nil=>rfl
 | cons a _ ih=>simp only [List.sum_cons,ih]
 | swap a b l=>simp only [List.sum_cons];omega
 | trans _ _ h1 h2=>rw [h1,h2]
theorem bc6 {β:Type} {f:Int→β→Int} (hf:∀ a x y,f (f a x) y=f (f a y) x) {l m:List β} (h:l.Perm m):∀ a,l.foldl f a=m.foldl f a:=by
 induction h with
 | nil=>intro a;rfl
 | cons x _ ih=>intro a;exact ih _
 | swap x y l=>intro a;simp only [List.foldl_cons];rw [hf]
 | trans _ _ h1 h2=>intro a;rw [h1,h2]
theorem bc7 {f:Int→Int→Int} (hf:∀ a x y,f (f a x) y=f (f a y) x) (ha:∀ a x,f (f a x) x=f a x) (hc:∀ a b,f a b=f b a) {l m:List Int} (h:l.Perm m):l.foldl f (l.headD 0)=m.foldl f (m.headD 0):=by
 rw [bc6 hf h]
 cases l with
 | nil=>rw [h.nil_eq]
 | cons a l=>
  cases m with
  | nil=>exact absurd h.symm.nil_eq (by simp)
  | cons b m=>
   simp only [List.headD_cons]
   have hab:a∈b :: m:=h.mem_iff.1 List.mem_cons_self
   have key:∀ (m:List Int) (s t:Int),t∈m→m.foldl f (f s t)=m.foldl f s:=by
    intro m
    induction m with
    | nil=>intro s t ht;cases ht
    | cons y m ih=>
     intro s t ht
     simp only [List.foldl_cons]
     rcases List.mem_cons.1 ht with rfl|ht
     ·rw [ha]
     ·rw [hf,ih _ _ ht]
   rw [← key (b :: m) b a hab,← key (b :: m) a b List.mem_cons_self,hc]
theorem Alk.answ {q:Qry} {l m:List Int} (h:l.Perm m):ay1 q l=ay1 q m:=by
 unfold ay1
 have h1:l.sum=m.sum:=bJ2 h
 have h2:(l=[])=(m=[]):=propext ⟨fun e=>by subst e;exact h.nil_eq.symm,fun e=>by subst e;exact h.symm.nil_eq.symm⟩
 simp only [h1,h2,bc7 (f:=min) (by intros;omega) (by intros;omega) (by intros;omega) h,bc7 (f:=max) (by intros;omega) (by intros;omega) (by intros;omega) h]
theorem Alk.answer {x:Sch} {w u:Wd} (h:Alk w u) (q:Qry):ao8 x u q=ao8 x w q:=by
 unfold ao8
 rw [h.fit]
 split
 ·rfl
 ·rename_i hfit
  split
  ·rfl
  ·rename_i hq
   have hq0:az2 x q=0:=by omega
   unfold az2 at hq0
   split at hq0;· omega
   split at hq0;· omega
   split at hq0;· omega
   split at hq0
   ·rename_i hk hl
    rw [Bool.and_eq_true] at hl
    have hkl:(ab1 x q.kind).toNat<w.length:=by
     have hf:=ak8 (by simpa using hfit:fitW x w=true)
     have:=aC2 x q.kind
     rw [hf.1]
     omega
    rw [Alk.answ (h.vals hkl q hl.1 hl.2)]
   ·omega
end
section
open Go
def cnt (c:Int) (l:List Prb):Nat:=l.countP fun p=>decide (p.2.2.2=c)
def hit (c e:Int):Nat:=if e≠0∧e=c then 1 else 0
theorem aX4 (c k i f e:Int):cnt c (one k i f e)=hit c e:=by
 unfold one hit cnt
 by_cases h:e=0
 ·simp [h]
 ·rw [if_neg h]
  by_cases h2:e=c
  ·rw [if_pos ⟨h,h2⟩];simp [h2]
  ·rw [if_neg (fun g=>h2 g.2)];simp [h2]
theorem at9 (c:Int) (l m:List Prb):cnt c (l ++ m)=cnt c l+cnt c m:=by simp [cnt]
theorem aX3 {c:Int} {g g':Nat→List Prb}:∀ {n:Nat},(∀ i,i<n→cnt c (g i)=cnt c (g' i))→cnt c (upTo n g)=cnt c (upTo n g')
 | 0,_=>rfl
 | n+1,h=>by rw [ac4,ac4,at9,at9,aX3 fun i hi=>h i (by omega),h n (by omega)]
theorem bf6 {l m:List (List Int)} (h:l.Perm m) (u s i:Nat):aP5 l u s i=aP5 m u s i:=by
 unfold aP5
 refine bc6 (fun a x y=>?_) h 0
 by_cases h1:x.getD u 0=(i:Int) <;> by_cases h2:y.getD u 0=(i:Int)
 ·simp only [if_pos h1,if_pos h2,IntKind.wrap_i64]
  omega
 ·simp only [if_pos h1,if_neg h2]
 ·simp only [if_neg h1,if_pos h2]
 ·simp only [if_neg h1,if_neg h2]
theorem Alk.sumAt {w u:Wd} (h:Alk w u) (x:Sch) (k i f:Nat):sumAt x u k i f=sumAt x w k i f:=by
 unfold Go.Proofs.YtlcfiilejnnlnaaGreatDoor.sumAt
 exact bf6 (h.perm _) _ _ _
theorem Alk.copyAt {w u:Wd} (h:Alk w u) (x:Sch) {k:Nat} (hk:k<w.length) (kd:Knd) (d:Fld) (r:List Int):copyAt x u k kd d r=copyAt x w k kd d r:=by
 unfold Go.Proofs.YtlcfiilejnnlnaaGreatDoor.copyAt
 split
 ·rename_i ko hko
  have h0:0≤upIx x k (aa3 kd d.up):=by
   unfold ad5 at hko
   split at hko
   ·assumption
   ·cases hko
  have:=ay3 x k _ h0
  rw [h.up (k:=k) (by omega) hk]
 ·rfl
theorem Alk.codeF {w u:Wd} (h:Alk w u) (x:Sch) {k:Nat} (hk:k<w.length) (kd:Knd) (r:List Int) (i f:Nat) (d:Fld) (ks:List Int):codeF x u k kd r i f d ks=codeF x w k kd r i f d ks:=by
 unfold Go.Proofs.YtlcfiilejnnlnaaGreatDoor.codeF
 rw [h.sumAt,h.copyAt x hk]
theorem Alk.recP {w u:Wd} (h:Alk w u) (x:Sch) {k:Nat} (hk:k<w.length) (kd:Knd) (l:List (List Int)):recP x u k kd l=recP x w k kd l:=by
 funext i
 unfold Go.Proofs.YtlcfiilejnnlnaaGreatDoor.recP
 split
 ·rename_i r hr
  have:fldP x u k kd l i r=fldP x w k kd l i r:=by
   funext f
   unfold fldP
   split
   ·rw [h.codeF x hk]
   ·rfl
  rw [this]
 ·rfl
/-! ### Keys -/
def kc (lo:Int) (ks:List Int) (n:Int):Int:=if n<lo then 5 else if n∈ks then 7 else 0
def kn (lo:Int) (ks:List Int) (n:Int):List Int:=if n<lo then ks else n :: ks
def kN (c lo:Int) (R:List Int→Nat):List Int→List (List Int)→Nat
 | _,[]=>0
 | ks,r :: l=>hit c (kc lo ks (r.getD 0 0))+R r+kN c lo R (kn lo ks (r.getD 0 0)) l
theorem cr5 {lo:Int} {ks ks':List Int} (h:∀ n,n∈ks↔n∈ks') (n:Int):kc lo ks n=kc lo ks' n:=by unfold kc;simp only [h n]
theorem cr3 {lo:Int} {ks ks':List Int} (h:∀ n,n∈ks↔n∈ks') (m n:Int):n∈kn lo ks m↔n∈kn lo ks' m:=by
 unfold kn
 split
 ·exact h n
 ·rw [List.mem_cons,List.mem_cons,h n]
theorem bV8 {c lo:Int} {R:List Int→Nat}:∀ (l:List (List Int)) {ks ks':List Int},(∀ n,n∈ks↔n∈ks')→kN c lo R ks l=kN c lo R ks' l
 | [],_,_,_=>rfl
 | r :: l,ks,ks',h=>by rw [kN,kN,cr5 h,bV8 l (cr3 h _)]
theorem cd5 (c lo:Int) (ks:List Int) (a b:Int):hit c (kc lo ks a)+hit c (kc lo (kn lo ks a) b)=hit c (kc lo ks b)+hit c (kc lo (kn lo ks b) a):=by
 unfold kc kn
 by_cases ha:a<lo <;> by_cases hb:b<lo
 ·simp [ha,hb]
 ·simp [ha,hb];omega
 ·simp [ha,hb];omega
 ·by_cases hab:a=b
  ·subst hab;simp [ha]
  ·have hba:b≠a:=fun e=>hab e.symm
   simp [ha,hb,hab,hba];omega
theorem cd6 {c lo:Int} {R:List Int→Nat} {l m:List (List Int)} (h:l.Perm m):∀ ks,kN c lo R ks l=kN c lo R ks m:=by
 induction h with
 | nil=>intro ks;rfl
 | cons r _ ih=>intro ks;rw [kN,kN,ih]
 | swap a b l=>
  intro ks
  simp only [kN]
  have h1:=cd5 c lo ks (a.getD 0 0) (b.getD 0 0)
  have h2:kN c lo R (kn lo (kn lo ks (b.getD 0 0)) (a.getD 0 0)) l=kN c lo R (kn lo (kn lo ks (a.getD 0 0)) (b.getD 0 0)) l:=bV8 l fun n=>by
   unfold kn
   (repeat' split) <;> simp only [List.mem_cons]
   constructor <;> (intro h;rcases h with h|h|h <;> simp [h])
  omega
 | trans _ _ h1 h2=>intro ks;rw [h1,h2]
theorem bD1 (c lo:Int) (R:List Int→Nat) (r:List Int):∀ (l:List (List Int)) (ks:List Int),kN c lo R ks (l ++ [r])=kN c lo R ks l+(hit c (kc lo (l.foldl (fun ks r=>kn lo ks (r.getD 0 0)) ks) (r.getD 0 0))+R r)
 | [],ks=>by simp [kN]
 | a :: l,ks=>by
  rw [List.cons_append,kN,kN,bD1 c lo R r l]
  simp only [List.foldl_cons]
  omega
theorem aZ1 {x:Sch} (h:ah6 x=[]) {k:Nat} {kd:Knd} (hk:x.kinds[k]?=some kd):∃ d,kd.fields[0]?=some d∧d.kind=0:=by
 unfold ah6 at h
 split at h
 ·simp only [List.append_eq_nil_iff] at h
  have h1:=aH6 h.1.2 k (List.getElem?_eq_some_iff.1 hk).1
  simp only [ak1,hk,List.append_eq_nil_iff] at h1
  have h3:=bg5 h1.1
  unfold am6 at h3
  split at h3
  ·omega
  ·split at h3
   ·rename_i h4
    unfold aQ6 at h4
    split at h4
    ·cases h4
    ·rename_i f l e
     exact ⟨f,by rw [e];rfl,by simpa using h4⟩
   ·omega
 ·cases h
theorem bl3 {x:Sch} (h:ah6 x=[]) {k f:Nat} {kd:Knd} {d:Fld} (hk:x.kinds[k]?=some kd) (hf:kd.fields[f]?=some d) (h0:d.kind=0):f=0:=by
 have h5:=(au2 h hk hf).2
 unfold ac3 at h5
 split at h5
 ·omega
 ·omega
theorem bx5 {x:Sch} (h:ah6 x=[]) {k f:Nat} {kd:Knd} {d:Fld} (hk:x.kinds[k]?=some kd) (hf:kd.fields[f]?=some d) (hlast:k+1=x.kinds.length):d.kind≠6:=by
 intro h6
 obtain ⟨o,s,ko,g,u,r,e1,e2,e3,e4,e5,e6,e7⟩:=bx4 h hk hf h6
 have h1:=(List.getElem?_eq_some_iff.1 e2).1
 have h2:=ay3 x o u (by omega)
 omega
theorem bt5 {x:Sch} {w:Wd} {k:Nat} {kd:Knd} {r:List Int} {f:Nat} {d:Fld} (h0:d.kind≠0) (h6:d.kind≠6) (i j:Nat) (ks ks':List Int):codeF x w k kd r i f d ks=codeF x w k kd r j f d ks':=by
 unfold codeF
 rw [if_neg h0,if_neg h0,if_neg h6,if_neg h6]
def ca4 (x:Sch) (w:Wd) (k:Nat) (kd:Knd) (c:Int) (r:List Int):Nat:=
 cnt c (upTo r.length fun f=>if f=0 then [] else fldP x w k kd [] 0 r f)+cnt c (upTo x.rules.length (rulP x k kd 0 r))
theorem cw1 (x:Sch) (k:Nat) (kd:Knd) (c:Int) (i j:Nat) (r:List Int):cnt c (upTo x.rules.length (rulP x k kd i r))=cnt c (upTo x.rules.length (rulP x k kd j r)):=
 aX3 fun q _=>by unfold rulP;split <;> simp only [aX4]
theorem bn9 {x:Sch} (h:ah6 x=[]) {k:Nat} {kd:Knd} {d0:Fld} (hk:x.kinds[k]?=some kd) (hd:kd.fields[0]?=some d0) (hd0:d0.kind=0) (r ks:List Int):∀ f,an3 kd r ks (f+1)=kn d0.lo ks (r.getD 0 0)
 | 0=>by
  show (match kd.fields[0]? with|some d=>keyF r 0 d ks|none=>ks)=_
  rw [hd]
  simp only
  unfold keyF kn
  by_cases h1:r.getD 0 0<d0.lo
  ·rw [if_neg (fun h=>h.2 h1),if_pos h1]
  ·rw [if_pos ⟨hd0,h1⟩,if_neg h1]
 | f+1=>by
  show (match kd.fields[f+1]? with|some d=>keyF r (f+1) d (an3 kd r ks (f+1))|none=>an3 kd r ks (f+1))=_
  rw [bn9 h hk hd hd0 r ks f]
  cases e:kd.fields[f+1]? with
  | none=>rfl
  | some d=>
   simp only
   unfold keyF
   rw [if_neg (fun g=>by have:=bl3 h hk e g.1;omega)]
theorem aR1 {c:Int} {g g':Nat→List Prb}:∀ n,(∀ i,i<n+1→i≠0→cnt c (g i)=cnt c (g' i))→cnt c (upTo (n+1) g)=cnt c (g 0)+cnt c (upTo (n+1) fun f=>if f=0 then [] else g' f)
 | 0,_=>by simp [upTo,cnt]
 | n+1,h=>by
  rw [ac4,ac4 (n+1),at9,at9,aR1 n fun i hi=>h i (by omega),h (n+1) (by omega) (by omega),if_neg (by omega)]
  omega
theorem ca7 {x:Sch} {w:Wd} (h:ah6 x=[]) {k:Nat} {kd:Knd} {d0:Fld} (hk:x.kinds[k]?=some kd) (hlast:k+1=x.kinds.length) (hd:kd.fields[0]?=some d0) (hd0:d0.kind=0) {l:List (List Int)} {i:Nat} {r:List Int} (hr:l[i]?=some r) (hl:r.length=kd.fields.length) (c:Int) :
  cnt c (recP x w k kd l i)=hit c (kc d0.lo (ao3 kd l i) (r.getD 0 0))+ca4 x w k kd c r:=by
 have hfl:=(List.getElem?_eq_some_iff.1 hd).1
 obtain ⟨n,hn⟩:∃ n,r.length=n+1:=⟨r.length - 1,by omega⟩
 unfold recP ca4
 rw [hr]
 simp only
 rw [at9,hn,aR1 (g':=fldP x w k kd [] 0 r) n (fun f hf hf0=>?_),cw1 x k kd c i 0,Nat.add_assoc]
 ·congr 1
  unfold fldP
  rw [hd]
  simp only
  rw [aX4]
  show hit c (codeF x w k kd r i 0 d0 (ao3 kd l i))=_
  unfold codeF kc
  rw [if_pos hd0]
 ·unfold fldP
  cases e:kd.fields[f]? with
  | none=>rfl
  | some d=>
   simp only
   rw [aX4,aX4,bt5 (fun g=>hf0 (bl3 h hk e g)) (bx5 h hk e hlast) i 0 _ _]
theorem aU1 {x:Sch} {w:Wd} (h:ah6 x=[]) {k:Nat} {kd:Knd} {d0:Fld} (hk:x.kinds[k]?=some kd) (hlast:k+1=x.kinds.length) (hd:kd.fields[0]?=some d0) (hd0:d0.kind=0) {l:List (List Int)} (hl:∀ r∈l,r.length=kd.fields.length) (c:Int):∀ j,j≤l.length →
  cnt c (upTo j (recP x w k kd l))=kN c d0.lo (ca4 x w k kd c) [] (l.take j)∧ao3 kd l j=(l.take j).foldl (fun ks r=>kn d0.lo ks (r.getD 0 0)) []
 | 0,_=>⟨rfl,rfl⟩
 | j+1,hj=>by
  obtain ⟨h1,h2⟩:=aU1 h hk hlast hd hd0 hl c j (by omega)
  obtain ⟨r,hr⟩:∃ r,l[j]?=some r:=⟨_,List.getElem?_eq_getElem (by omega)⟩
  have hrl:=hl r (List.mem_of_getElem? hr)
  have hfl:=(List.getElem?_eq_some_iff.1 hd).1
  obtain ⟨n,hn⟩:∃ n,r.length=n+1:=⟨r.length - 1,by omega⟩
  rw [ac7 hr,bD1,ac4,at9,h1,ca7 h hk hlast hd hd0 hr hrl,List.foldl_append,h2]
  refine ⟨rfl,?_⟩
  show (match l[j]? with|some r=>an3 kd r (ao3 kd l j) r.length|none=>ao3 kd l j)=_
  rw [hr]
  simp only [List.foldl_cons,List.foldl_nil]
  rw [hn,bn9 h hk hd hd0,h2]
theorem Alk.codes {x:Sch} {w u:Wd} (hp:ah6 x=[]) (h:Alk w u) (c:Int):cnt c (ak4 x u)=cnt c (ak4 x w):=by
 unfold ak4
 rw [h.fit]
 by_cases hfit:fitW x w=true
 ·rw [if_pos hfit,if_pos hfit]
  obtain ⟨hlen,hrows,_⟩:=ak8 hfit
  have h1:limP x u=limP x w:=by funext k;unfold limP;rw [h.lenr]
  have h3:au8 x u=au8 x w:=by
   funext q
   unfold au8
   split
   ·rename_i r hr
    rw [h.lenr]
    congr 1
    funext j
    unfold degP degE
    rw [(h.perm r.kind).countP_eq]
   ·rfl
  rw [at9,at9,at9,at9,h1,h3,h.len]
  congr 2
  refine aX3 fun k hk=>?_
  unfold knP
  obtain ⟨kd,hkd⟩:∃ y,x.kinds[k]?=some y:=⟨_,List.getElem?_eq_getElem (by omega)⟩
  rw [hkd]
  simp only
  rw [h.recP x hk]
  by_cases hl:k+1<w.length
  ·rw [h.same k hl]
  ·obtain ⟨l,hwl⟩:∃ l,w[k]?=some l:=⟨_,List.getElem?_eq_getElem hk⟩
   obtain ⟨d0,hd,hd0⟩:=aZ1 hp hkd
   have hpm:=h.perm k
   rw [aa6 hwl] at hpm ⊢
   have hrl:∀ r∈l,r.length=kd.fields.length:=fun r hr=>(ao0 hkd ((ak5 (hrows k l hwl)).2 r hr)).1
   have hrl':∀ r∈u.getD k [],r.length=kd.fields.length:=fun r hr=>hrl r (hpm.mem_iff.1 hr)
   rw [(aU1 hp hkd (by omega) hd hd0 hrl' c _ (Nat.le_refl _)).1,(aU1 hp hkd (by omega) hd hd0 hrl c _ (Nat.le_refl _)).1,List.take_length,List.take_length]
   exact cd6 hpm []
 ·rw [if_neg hfit,if_neg hfit]
end
section
open Go Go.Maps Go.MapKept
def am1 (ps:List Prb):List Int:=(List.range 40).map fun c=>(cnt (c:Nat) ps:Int)
theorem ao7 (ps:List Prb):(am1 ps).length=40:=by simp [am1]
theorem aN4 (ps:List Prb) {c:Nat} (h:c<40):(am1 ps)[c]?=some (cnt c ps:Int):=by
 unfold am1
 rw [List.getElem?_map,List.getElem?_range h];rfl
theorem ct9 (c:Int) (ps:List Prb):cnt c ps≤ps.length:=List.countP_le_length
theorem bF7 (ps:List Prb) (p:Prb) {e:Nat} (he:p.2.2.2=(e:Int)) (h:e<40):(am1 ps).set e ((cnt e ps:Int)+1)=am1 (ps ++ [p]):=by
 refine List.ext_getElem? fun i=>?_
 rw [List.getElem?_set]
 by_cases hi:i<40
 ·rw [aN4 _ hi,aN4 _ hi,ao7]
  have h2:cnt (i:Int) (ps ++ [p])=cnt i ps+(if e=i then 1 else 0):=by
   unfold cnt
   rw [List.countP_append,List.countP_singleton,he]
   by_cases h3:e=i
   ·simp [h3]
   ·rw [if_neg h3];simp;omega
  rw [h2]
  by_cases h3:e=i
  ·subst h3;simp [h]
  ·simp [h3]
 ·rw [if_neg (by omega),List.getElem?_eq_none (by rw [ao7];omega),List.getElem?_eq_none (by rw [ao7];omega)]
theorem aR6 (ps:List Prb) (p:Prb) (h:p.2.2.2<0∨40≤p.2.2.2):am1 (ps ++ [p])=am1 ps:=by
 unfold am1
 refine List.map_congr_left fun c hc=>?_
 rw [List.mem_range] at hc
 unfold cnt
 rw [List.countP_append,List.countP_singleton]
 have:¬ p.2.2.2=(c:Int):=by omega
 simp [this]
theorem bF6 {ps:List Prb}:List.replicate 40 0=am1 (ps.take 0):=by simp [am1,cnt];decide
theorem bP3 (l:List Int):(l.map fun n=>[iD n]).flatten=l.map iD:=by
 induction l with
 | nil=>rfl
 | cons a l ih=>simp [ih]
theorem bI5 (l:List Int) (bo:Nat) (h:l.length=40):RowIs 3 1 (l.map fun n=>[iD n]) (.slice (some ⟨bo,0,none⟩) 40 40) [(bo,.cells 3 (l.map iD))]:=by
 refine ⟨fun y hy=>by obtain ⟨z,_,rfl⟩:=List.mem_map.1 hy;rfl,.inr ⟨bo,40,[],by simp [h],by rw [bP3,List.append_nil],by simp [h],by decide,by simp [h],by simp⟩⟩
theorem bb8 (ps:List Prb) (hl:ps.length≤100000000):APure Tryz.prog 26 [.sl 4 (ps.map prbC)] (slI (am1 ps)):=by
 refine eP7 Tryz.func26 Tryz.ntmps26 fun BB=>?_
 repeat' first|refine sk2 ?_|(intro b;conv=>whnf)
 refine Mk.go 40 rfl rfl rfl rfl rfl (by simp) (by omega) (by omega) (fun bo=>?_)
 repeat' first|refine sk2 ?_|(intro b;conv=>whnf)
 refine aa5 mixed aa0 (γ:=Nat × List Int) (fun g=>[(4,iD g.1)]) (fun g=>[(bo,.cells 3 (g.2.map iD))]) (fun g=>g.1≤ps.length∧g.2=am1 (ps.take g.1)) (fun g=>ps.length - g.1) (0,List.replicate 40 0) (aa2 cl3) (by rw [List.map_replicate];exact Sc.refl _) ⟨Nat.zero_le _,bF6⟩ ?_
 rintro ⟨i,cs⟩ ⟨hi,hcs⟩
 simp only at hi hcs ⊢
 by_cases hil:i<ps.length
 ·obtain ⟨p,hp⟩:∃ p,ps[i]?=some p:=⟨_,List.getElem?_eq_getElem hil⟩
  have hp':ps[((i:Nat):Int).toNat]?=some p:=hp
  have htk:=ac7 hp
  have hcl:cs.length=40:=by rw [hcs,ao7]
  by_cases h0:p.2.2.2<0
  ·have e:=aR6 (ps.take i) p (.inl h0)
   rw [← htk] at e
   repeat' first|refine sk2 ?_|(intro b;conv=>whnf)
   exact ⟨(i+1,cs),(aa2 cl3),Sc.refl _,⟨by omega,by rw [e];exact hcs⟩,by simp only;omega⟩
  ·obtain ⟨e,he⟩:∃ e:Nat,p.2.2.2=e:=⟨p.2.2.2.toNat,by omega⟩
   rw [he] at h0
   by_cases h1:e<40
   ·have e1:=bF7 (ps.take i) p he h1
    rw [← htk] at e1
    have hce:cs[e]?=some (cnt e (ps.take i):Int):=by rw [hcs];exact aN4 _ h1
    have hcb:=ct9 e (ps.take i)
    rw [List.length_take] at hcb
    have ex:0+p.2.2.2.toNat*1=e:=by rw [he];simp
    repeat' first|refine sk2 ?_|(intro b;conv=>whnf)
    refine Ld.cellm (tb:=3) (cs:=cs.map iD) (by simp) (by rw [ex,List.getElem?_map,hce];rfl) ?_
    repeat' first|refine sk2 ?_|(intro b;conv=>whnf)
    refine Sv.cellm (tb:=3) (cs:=cs.map iD) (cs':=(cs.set e ((cnt e (ps.take i):Int)+1)).map iD) (τ:=[]) (List.Perm.refl _) (by rw [ex,List.length_map];omega) rfl (by rw [ex,List.map_set]) ?_
    repeat' first|refine sk2 ?_|(intro b;conv=>whnf)
    exact ⟨(i+1,cs.set e ((cnt e (ps.take i):Int)+1)),(aa2 cl3),Sc.refl _,⟨by simp only;omega,by simp only;rw [hcs];exact e1⟩,by simp only;omega⟩
   ·have e:=aR6 (ps.take i) p (.inr (by omega))
    rw [← htk] at e
    repeat' first|refine sk2 ?_|(intro b;conv=>whnf)
    exact ⟨(i+1,cs),(aa2 cl3),Sc.refl _,⟨by omega,by rw [e];exact hcs⟩,by simp only;omega⟩
 ·obtain rfl:i=ps.length:=by omega
  rw [List.take_length] at hcs
  subst hcs
  repeat' first|refine sk2 ?_|(intro b;conv=>whnf)
  exact Rt.vs (Vs.row (bI5 (am1 ps) bo (ao7 ps)) (τ:=[]) (by simp))
end
section
open Go
theorem sk105 {A B:Prop} (k:B) (h:Hd7 B→A:=by intro hk7q;(first|refine sb0 ?_|refine sb75 ?_|((with_reducible refine' Cp.by ?hc ?_);(case hc=>exact HI))|((with_reducible refine' CE.pure ?hc ?_);(case hc=>exact HI)));exact hk7q.run):A:=h ⟨k⟩
theorem bn8:∀ (m:Nat) (c:Cnd),c.size≤m→m≤1000000→APure Tryz.prog 54 [cndD c] (cndD c)
 | 0,c,h,_=>by rw [ar6] at h;omega
 | m+1,c,h,hm=>by
  have hk:=c.kids_len
  have hs:=ar6 c
  have hkl:=ay7 c
  unfold cndD cndC
  rw [hkl]
  refine eP7 Tryz.func54 Tryz.ntmps54 fun BB=>?_
  repeat' first|refine sk105 ?_|(intro b;conv=>whnf)
  rename_i b2
  refine aa5 mixed aa0 (γ:=Nat × Value × aa1) (fun g=>[(4,iD g.1)]) (fun g=>(b,Blk.cells 51 [iD c.op,.v g.2.1,slS c.path,slS c.other,iD c.n]) :: (b2,Blk.cells 51 [.v (zv (ZV.int IntKind.i64)),.v (zv ZV.sl),.v (zv ZV.sl),.v (zv ZV.sl),.v (zv (ZV.int IntKind.i64))]) :: g.2.2) (fun g=>g.1≤c.kids.length∧RowIs 51 5 ((c.kids.take g.1).map cndC) g.2.1 g.2.2) (fun g=>c.kids.length - g.1) (0,.slice none 0 0,[]) (aa2 cl3) (Sc.refl _) ⟨Nat.zero_le _,RowIs.nil _ _⟩ ?_
  rintro ⟨i,v,s⟩ ⟨hi,hrow⟩
  simp only at hi hrow ⊢
  by_cases hil:i<c.kids.length
  ·obtain ⟨y,hy0⟩:∃ y,c.kids[i]?=some y:=⟨_,List.getElem?_eq_getElem hil⟩
   have hy:c.kids[((i:Nat):Int).toNat]?=some y:=hy0
   have hyl:=Cnd.kid_size (List.mem_of_getElem? hy0)
   have HI:=bn8 m y (by omega) (by omega)
   repeat' first|refine sk105 ?_|(intro b;conv=>whnf)
   refine dr7 ?_
   refine ah2 mixed aa0 rfl [0,2,3,4,5,6,7,8] 4 (inE [1,9,11]) (.one 1 (.one 9 (.fst 10 (.one 11 .done)))) (γ:=Value × aa1) (fun _=>[]) (fun g=>(b,Blk.cells 51 [iD c.op,.v g.1,slS c.path,slS c.other,iD c.n]) :: (b2,Blk.cells 51 [.v (zv (ZV.int IntKind.i64)),.v (zv ZV.sl),.v (zv ZV.sl),.v (zv ZV.sl),.v (zv (ZV.int IntKind.i64))]) :: g.2) (fun g=>RowIs 51 5 ((c.kids.take (i+1)).map cndC) g.1 g.2) (by decide +kernel) ?_ ?_
   ·repeat' first|refine sk105 ?_|(intro b;conv=>whnf)|(refine And.intro ?_ ?_ <;> (conv=>whnf))|(refine Ap.go rfl rfl rfl rfl hrow (τ:=[(b,Blk.cells 51 [iD c.op,.v v,slS c.path,slS c.other,iD c.n]),(b2,Blk.cells 51 [.v (zv (ZV.int IntKind.i64)),.v (zv ZV.sl),.v (zv ZV.sl),.v (zv ZV.sl),.v (zv (ZV.int IntKind.i64))])]) cl4 rfl (zs:=(c.kids.take (i+1)).map cndC) (by rw [ac7 hy0,List.map_append];rfl) (by simp;omega) (by simp;omega) (fun s'=>(b,Blk.cells 51 [iD c.op,.v v,slS c.path,slS c.other,iD c.n]) :: (b2,Blk.cells 51 [.v (zv (ZV.int IntKind.i64)),.v (zv ZV.sl),.v (zv ZV.sl),.v (zv ZV.sl),.v (zv (ZV.int IntKind.i64))]) :: s') (fun s'=>by refine ad8 fun a=>?_;simp only [List.append_eq,List.nil_append,ad9,ah8,ah7];omega) (fun a2 c2 s2 hr2=>?_))
    exact ⟨(_,s2),(aa2 cl3),Sc.refl _,hr2⟩
   ·rintro ⟨v2,s2⟩ hr2
    simp only at hr2 ⊢
    repeat' first|refine sk105 ?_|(intro b;conv=>whnf)
    exact ⟨(i+1,v2,s2),(aa2 cl6),Sc.refl _,⟨by simp only;omega,hr2⟩,by simp only;omega⟩
  ·obtain rfl:i=c.kids.length:=by omega
   rw [List.take_length] at hrow
   obtain ⟨va,vc,hve⟩:=hrow.slice
   repeat' first|refine sk105 ?_|(intro b;conv=>whnf)
   refine Sv.at 1 (tb:=51) (σ':=(b,Blk.cells 51 [iD c.op,.v v,slS c.path,slS c.other,iD c.n]) :: (b2,Blk.cells 51 [iD c.op,.v v,slS c.path,slS c.other,iD c.n]) :: s) rfl rfl rfl (by rw [hve];rfl) rfl ?_
   repeat' first|refine sk105 ?_|(intro b;conv=>whnf)
   refine Rs.c aa0 (m:=1) rfl rfl rfl rfl rfl rfl ?_
   repeat' first|refine sk105 ?_|(intro b;conv=>whnf)
   have hs:∀ z,z∈aa9 ([]:aa1)→z∈aa9 ((b,Blk.cells 51 [iD c.op,.v v,slS c.path,slS c.other,iD c.n]) :: (b2,Blk.cells 51 [iD c.op,.v v,slS c.path,slS c.other,iD c.n]) :: s):=fun z h=>by cases h
   exact Rt.vs (Vs.vd (τ:=[]) ⟨(b,Blk.cells 51 [iD c.op,.v v,slS c.path,slS c.other,iD c.n]) :: (b2,Blk.cells 51 [iD c.op,.v v,slS c.path,slS c.other,iD c.n]) :: s,by rw [List.append_nil]⟩ (Vd.agg (.cons (Vd.same hs _) (.cons (Vd.row (ρ:=[(b,Blk.cells 51 [iD c.op,.v v,slS c.path,slS c.other,iD c.n]),(b2,Blk.cells 51 [iD c.op,.v v,slS c.path,slS c.other,iD c.n])]) hrow cl4 (fun z h=>by cases h)) (.cons (Vd.same hs _) (.cons (Vd.same hs _) (.cons (Vd.same hs _) .nil)))))))
theorem sb106 {A B:Prop} (k:B) (h:Hd7 B→A:=by intro hk7q;(first|(with_reducible refine Bc.l ?_)|(with_reducible refine Bx.l ?_)|((with_reducible refine Dr.l ?h ?_);(case h=>decide +kernel))|(with_reducible refine Dr.r ?_)|((with_reducible refine Cb.go ?h ?_);(case h=>decide +kernel)));exact hk7q.run):A:=h ⟨k⟩
theorem sk107 {A B:Prop} (k:B) (h:Hd7 B→A:=by intro hk7q;(first|refine sb0 ?_|refine sb106 ?_|((with_reducible refine' Cp.by ?hc ?_);(case hc=>exact HI))|((with_reducible refine' CE.pure ?hc ?_);(case hc=>exact HI)));exact hk7q.run):A:=h ⟨k⟩
theorem bC6 (q:Qry) (hs:q.cond.size≤1000000):APure Tryz.prog 21 [qryD q] (qryD q):=by
 have HI:=bn8 _ q.cond (Nat.le_refl _) hs
 have hcd:cndC q.cond=[iD q.cond.op,.sl 5 (bc0 q.cond),slS q.cond.path,slS q.cond.other,iD q.cond.n]:=rfl
 refine eP7 Tryz.func21 Tryz.ntmps21 fun BB=>?_
 repeat' first|refine sk107 ?_|(intro b;conv=>whnf)
 exact Rt.pure rfl
end
section
open Go
theorem aU3 (op:Int):APure Tryz.prog 96 [iD op] (iD (aC3 op)):=by
 refine eP7 Tryz.func96 Tryz.ntmps96 fun BB=>?_
 repeat' first|refine sk2 ?_|(intro b;conv=>whnf)|(with_reducible refine Br.d (fun hc=>?_) (fun hc=>?_))|(with_reducible refine Br.b (fun hc=>?_) (fun hc=>?_))
 all_goals (refine Rt.pure (congrArg iD ?_);unfold aC3;simp [*])
theorem bL0 (x:Sch) (k:Nat) (s:ByteArray) (hk:k<x.kinds.length) (hnk:x.kinds.length≤1000000) (hnf:∀ k∈x.kinds,k.fields.length≤1000000):APure Tryz.prog 95 [schD x,iD k,sD s] (iD (al3 x k s)):=by
 obtain ⟨kd,hkd⟩:∃ kd,x.kinds[k]?=some kd:=⟨_,List.getElem?_eq_getElem hk⟩
 have hkd':x.kinds[((k:Nat):Int).toNat]?=some kd:=hkd
 have HA:=ag9 kd s (hnf kd (List.mem_of_getElem? hkd))
 by_cases h:aa3 kd s<0
 ·have HB:=True.intro
  refine eP7 Tryz.func95 Tryz.ntmps95 fun BB=>?_
  repeat' first|refine sk54 ?_|(intro b;conv=>whnf)
  refine Rt.pure (congrArg iD ?_)
  exact (aE0 hkd h).symm
 ·obtain ⟨f,g,hf,hg⟩:=aw0 h
  rw [hf] at HA
  have hg':kd.fields[((f:Nat):Int).toNat]?=some g:=hg
  have HB:=aF6 x k f hnk hnf
  have e:=aB5 hkd hf hg
  by_cases h1:g.kind=1
  ·rw [if_pos h1] at e
   rw [e]
   refine eP7 Tryz.func95 Tryz.ntmps95 fun BB=>?_
   repeat' first|refine sk54 ?_|(intro b;conv=>whnf)
   refine Rt.pure (congrArg iD ?_)
   rfl
  ·rw [if_neg h1] at e
   rw [e]
   refine eP7 Tryz.func95 Tryz.ntmps95 fun BB=>?_
   repeat' first|refine sk54 ?_|(intro b;conv=>whnf)
   refine Rt.pure (congrArg iD ?_)
   rfl
abbrev tkB (b:Nat) (xs:List Int) (pos:Int):Nat × Blk:=(b,.cells 118 [slI xs,iD pos])
theorem aj6 (xs:List Int) (hx:I64s xs) (bm:Nat) (pos n:Int) (hp:0≤pos∧pos≤1000000000):ACall Tryz.prog 55 [ptr bm,iD n] [tkB bm xs pos] (fun d σ=>d=iD (atE xs pos n)∧σ=[tkB bm xs (pos+1)]):=by
 have HA:=by9 xs hx pos n
 refine eC7 Tryz.func55 Tryz.ntmps55 fun BB=>?_
 repeat' first|refine sk69 ?_|(intro b;conv=>whnf)
 exact Rt.same ⟨rfl,rfl⟩
end
section
open Go
abbrev aL7:ByteArray:=⟨#[111,114,100,101,114]⟩
abbrev bb2:ByteArray:=⟨#[109,111,115,116]⟩
abbrev aF8:ByteArray:=⟨#[108,101,97,115,116]⟩
inductive RuleF (k:Knd):Rul→Prop
 | low (n:Int) (h:0≤am7 k.fields nLow) (hn:0≤n∧n<8):RuleF k ⟨aL7 ++ k.name.extract 0 1,k.name,nLow,nHigh,n - 2⟩
 | most (f:Fld) (n:Int) (h:0≤am7 k.fields nSize) (hf:k.fields[(am7 k.fields nSize).toNat]?=some f) (hn:0≤n∧n<12):RuleF k ⟨bb2 ++ k.name.extract 0 1,k.name,nSize,nE,f.lo+n⟩
 | least (f:Fld) (n:Int) (h:0≤am7 k.fields nSize) (hf:k.fields[(am7 k.fields nSize).toNat]?=some f) (hn:0≤n∧n<12):RuleF k ⟨aF8 ++ k.name.extract 0 1,k.name,nE,nSize,n - f.hi⟩
theorem sk108 {A B:Prop} (k:B) (h:Hd7 B→A:=by intro hk7q;(first|refine sb0 ?_|refine sb75 ?_|((with_reducible refine' Cp.by ?hc ?_);(case hc=>exact aL1 _ _ hfl))|((with_reducible refine' CE.pure ?hc ?_);(case hc=>exact aL1 _ _ hfl)));exact hk7q.run):A:=h ⟨k⟩
theorem bL2 (xs:List Int) (hx:I64s xs) (bm:Nat) (pos:Int) (hp:0≤pos∧pos≤100000000) (k:Knd) (hfl:k.fields.length≤1000000) (hnm:1≤k.name.size∧k.name.size≤12) (hsm:∀ f∈k.fields,(-100000≤f.lo∧f.lo≤100000)∧(-100000≤f.hi∧f.hi≤100000)) :
  ACall Tryz.prog 34 [ptr bm,kndD k] [mkB bm xs pos] (fun d σ=>∃ pos' r ok,(pos≤pos'∧pos'≤pos+20)∧d = .tup [rulD r,bD ok]∧σ=[mkB bm xs pos']∧(ok=true→RuleF k r)):=by
 have hex:(k.name.extract 0 (1:Int).toNat).size=1:=by
  rw [show (1:Int).toNat=1 from rfl,ByteArray.size_extract];omega
 refine eC7 Tryz.func34 Tryz.ntmps34 fun BB=>?_
 repeat' first|refine sk108 ?_|(intro b;conv=>whnf)
 generalize b=b4
 have fin:∀ (pos':Int) (r:Rul) (ok:Bool) (ρ:aa1),[mkB bm xs pos'].Sublist ρ→(pos≤pos'∧pos'≤pos+20)→(ok=true→RuleF k r)→Rt (fun d σ=>∃ pos' r ok,(pos≤pos'∧pos'≤pos+20)∧d = .tup [rulD r,bD ok]∧σ=[mkB bm xs pos']∧(ok=true→RuleF k r)) (.tup [rulD r,bD ok]) ρ:=fun pos' r ok ρ h0 h1 h2=>Rt.by (Vs.drop h0) ⟨_,_,_,h1,rfl,rfl,h2⟩
 by_cases hl:0≤am7 k.fields nLow
 ·have ha:=ac6 xs pos 3
  have ha':=ha.2 (by omega)
  repeat' first|refine sk108 ?_|(intro b;conv=>whnf)
  ((refine CE.own (aa8 xs hx bm _ _ ⟨by omega,by omega⟩) (show List.Perm (_ :: mkB bm xs _ :: _) ([mkB bm xs _] ++ (_ :: _)) from List.Perm.swap _ _ _) (fun s'=>s' ++ (_ :: _)) (fun s'=>List.Perm.refl _) ?_);(rintro _ _ ⟨rfl,rfl⟩))
  by_cases hpos:0<atE xs pos 3
  ·have hb:=ac6 xs (pos+1) 8
   have hb':=hb.2 (by omega)
   repeat' first|refine sk108 ?_|(intro b;conv=>whnf)
   refine dr7 ?_
   refine aB7 mixed aa0 rfl [0,1,2,3,4,5,6] 5 (.one 7 (.one 8 (.one 9 (.one 10 (.one 11 .done))))) (γ:=Unit) (fun _=>[(5,bD true),(29,iD (atE xs (pos+1) 8)),(30,iD (atE xs (pos+1) 8 - 2)),(31,rulD ⟨aL7 ++ k.name.extract 0 1,k.name,nLow,nHigh,atE xs (pos+1) 8 - 2⟩)]) (fun _=>[mkB bm xs (pos+1+1),(b4,.cells 92 (rulC ⟨aL7 ++ k.name.extract 0 1,k.name,nLow,nHigh,atE xs (pos+1) 8 - 2⟩))]) (fun _=>True) (by decide +kernel) ?_ ?_
   ·repeat' first|refine sk108 ?_|(intro b;conv=>whnf)|((with_reducible refine Sd.go ?qs8 ?_);(case qs8=>(rw [hex];decide)))|(refine And.intro ?_ ?_ <;> (conv=>whnf))|((refine CE.own (aa8 xs hx bm _ _ ⟨by omega,by omega⟩) (List.Perm.refl ([mkB bm xs _] ++ _)) (fun s'=>s' ++ _) (fun s'=>List.Perm.refl _) ?_);(rintro _ _ ⟨rfl,rfl⟩))|((refine CE.own (aa8 xs hx bm _ _ ⟨by omega,by omega⟩) (show List.Perm (_ :: mkB bm xs _ :: _) ([mkB bm xs _] ++ (_ :: _)) from List.Perm.swap _ _ _) (fun s'=>s' ++ (_ :: _)) (fun s'=>List.Perm.refl _) ?_);(rintro _ _ ⟨rfl,rfl⟩))
    all_goals exact ⟨(),(aa2 cl3),rfl,trivial⟩
   ·rintro - -
    repeat' first|refine sk108 ?_|(intro b;conv=>whnf)
    refine Rs.ct aa0 (m:=1) rfl rfl rfl rfl rfl rfl rfl ?_
    repeat' first|refine sk108 ?_|(intro b;conv=>whnf)
    exact fin _ ⟨aL7 ++ k.name.extract 0 1,k.name,nLow,nHigh,atE xs (pos+1) 8 - 2⟩ true _ (.cons_cons _ (List.nil_sublist _)) ⟨by omega,by omega⟩ (fun _=>RuleF.low _ hl ⟨by omega,by omega⟩)
  ·generalize hq:pos+1=q
   have hqb:pos≤q∧q≤pos+1:=⟨by omega,by omega⟩
   clear hq
   by_cases hs:am7 k.fields nSize<0
   ·repeat' first|refine sk108 ?_|(intro b;conv=>whnf)
    first
     | refine Rs.ct aa0 (m:=1) rfl rfl rfl rfl rfl rfl rfl ?_
     | refine Rs.ct aa0 (m:=0) rfl rfl rfl rfl rfl rfl rfl ?_
    repeat' first|refine sk108 ?_|(intro b;conv=>whnf)
    refine fin q ⟨nE,nE,nE,nE,0⟩ false _ ?_ ⟨by omega,by omega⟩ (fun h=>by cases h)
    first
     | exact .cons_cons _ (List.nil_sublist _)
     | exact .cons _ (.cons_cons _ (List.nil_sublist _))
   ·have hlt:am7 k.fields nSize<k.fields.length:=aw5 _ _
    have h0l:0≤am7 k.fields ⟨#[115,105,122,101]⟩:=Int.not_lt.1 hs
    obtain ⟨f,hf⟩:∃ f,k.fields[(am7 k.fields nSize).toNat]?=some f:=⟨_,List.getElem?_eq_getElem (by omega)⟩
    obtain ⟨⟨hf1,hf2⟩,hf3,hf4⟩:=hsm f (List.mem_of_getElem? hf)
    have hc:=ac6 xs q 2
    have hd:=ac6 xs (q+1) 12
    have hd':=hd.2 (by omega)
    repeat' first|refine sk108 ?_|(intro b;conv=>whnf)
    refine CE.own (t:=[(b,.cells 97 (fldC f)),(b4,.cells 92 [.v (zv ZV.str),.v (zv ZV.str),.v (zv ZV.str),.v (zv ZV.str),.v (zv (ZV.int IntKind.i64))])]) (aa8 xs hx bm q 2 ⟨by omega,by omega⟩) ?hpm (fun s'=>s' ++ [(b,.cells 97 (fldC f)),(b4,.cells 92 [.v (zv ZV.str),.v (zv ZV.str),.v (zv ZV.str),.v (zv ZV.str),.v (zv (ZV.int IntKind.i64))])]) (fun s'=>List.Perm.refl _) ?_
    case hpm=>
     first
      | exact List.Perm.swap _ _ _
      | exact (List.Perm.cons _ (List.Perm.swap _ _ _)).trans (List.Perm.swap _ _ _)
    rintro _ _ ⟨rfl,rfl⟩
    by_cases hz:atE xs q 2=0
    ·repeat' first|refine sk108 ?_|(intro b;conv=>whnf)
     refine dr7 ?_
     refine aB7 mixed aa0 rfl [0,1,2,3,4,5,6,8] 6 (.two 7 (.one 9 (.one 10 (.one 11 (.one 12 (.one 13 .done))))) 9 (.one 7 (.one 10 (.one 11 (.one 12 (.one 13 .done)))))) (γ:=Unit) (fun _=>[(5,bD true),(50,iD f.lo),(52,iD (atE xs (q+1) 12)),(53,iD (f.lo+atE xs (q+1) 12)),(54,rulD ⟨bb2 ++ k.name.extract 0 1,k.name,nSize,nE,f.lo+atE xs (q+1) 12⟩)]) (fun _=>[mkB bm xs (q+1+1),(b,.cells 97 (fldC f)),(b4,.cells 92 (rulC ⟨bb2 ++ k.name.extract 0 1,k.name,nSize,nE,f.lo+atE xs (q+1) 12⟩))]) (fun _=>True) (by decide +kernel) ?_ ?_
     ·repeat' first|refine sk108 ?_|(intro b;conv=>whnf)|((with_reducible refine Sd.go ?qs8 ?_);(case qs8=>(rw [hex];decide)))|(refine And.intro ?_ ?_ <;> (conv=>whnf))|((refine CE.own (aa8 xs hx bm _ _ ⟨by omega,by omega⟩) (List.Perm.refl ([mkB bm xs _] ++ _)) (fun s'=>s' ++ _) (fun s'=>List.Perm.refl _) ?_);(rintro _ _ ⟨rfl,rfl⟩))|((refine CE.own (aa8 xs hx bm _ _ ⟨by omega,by omega⟩) (show List.Perm (_ :: mkB bm xs _ :: _) ([mkB bm xs _] ++ (_ :: _)) from List.Perm.swap _ _ _) (fun s'=>s' ++ (_ :: _)) (fun s'=>List.Perm.refl _) ?_);(rintro _ _ ⟨rfl,rfl⟩))
      all_goals exact ⟨(),(aa2 cl3),rfl,trivial⟩
     ·rintro - -
      repeat' first|refine sk108 ?_|(intro b;conv=>whnf)
      refine Rs.ct aa0 (m:=2) rfl rfl rfl rfl rfl rfl rfl ?_
      repeat' first|refine sk108 ?_|(intro b;conv=>whnf)
      exact fin _ ⟨bb2 ++ k.name.extract 0 1,k.name,nSize,nE,f.lo+atE xs (q+1) 12⟩ true _ (.cons_cons _ (List.nil_sublist _)) ⟨by omega,by omega⟩ (fun _=>RuleF.most f _ (by omega) hf ⟨by omega,by omega⟩)
    ·repeat' first|refine sk108 ?_|(intro b;conv=>whnf)
     refine dr7 ?_
     refine aB7 mixed aa0 rfl [0,1,2,3,4,5,6,8] 6 (.two 7 (.one 9 (.one 10 (.one 11 (.one 12 (.one 13 .done))))) 9 (.one 7 (.one 10 (.one 11 (.one 12 (.one 13 .done)))))) (γ:=Unit) (fun _=>[(5,bD true),(64,iD f.hi),(62,iD (atE xs (q+1) 12)),(65,iD (atE xs (q+1) 12 - f.hi)),(66,rulD ⟨aF8 ++ k.name.extract 0 1,k.name,nE,nSize,atE xs (q+1) 12 - f.hi⟩)]) (fun _=>[mkB bm xs (q+1+1),(b,.cells 97 (fldC f)),(b4,.cells 92 (rulC ⟨aF8 ++ k.name.extract 0 1,k.name,nE,nSize,atE xs (q+1) 12 - f.hi⟩))]) (fun _=>True) (by decide +kernel) ?_ ?_
     ·repeat' first|refine sk108 ?_|(intro b;conv=>whnf)|((with_reducible refine Sd.go ?qs8 ?_);(case qs8=>(rw [hex];decide)))|(refine And.intro ?_ ?_ <;> (conv=>whnf))|((refine CE.own (aa8 xs hx bm _ _ ⟨by omega,by omega⟩) (List.Perm.refl ([mkB bm xs _] ++ _)) (fun s'=>s' ++ _) (fun s'=>List.Perm.refl _) ?_);(rintro _ _ ⟨rfl,rfl⟩))|((refine CE.own (aa8 xs hx bm _ _ ⟨by omega,by omega⟩) (show List.Perm (_ :: mkB bm xs _ :: _) ([mkB bm xs _] ++ (_ :: _)) from List.Perm.swap _ _ _) (fun s'=>s' ++ (_ :: _)) (fun s'=>List.Perm.refl _) ?_);(rintro _ _ ⟨rfl,rfl⟩))
      all_goals exact ⟨(),(aa2 cl3),rfl,trivial⟩
     ·rintro - -
      repeat' first|refine sk108 ?_|(intro b;conv=>whnf)
      refine Rs.ct aa0 (m:=2) rfl rfl rfl rfl rfl rfl rfl ?_
      repeat' first|refine sk108 ?_|(intro b;conv=>whnf)
      exact fin _ ⟨aF8 ++ k.name.extract 0 1,k.name,nE,nSize,atE xs (q+1) 12 - f.hi⟩ true _ (.cons_cons _ (List.nil_sublist _)) ⟨by omega,by omega⟩ (fun _=>RuleF.least f _ (by omega) hf ⟨by omega,by omega⟩)
 ·skip
  by_cases hs:am7 k.fields nSize<0
  ·repeat' first|refine sk108 ?_|(intro b;conv=>whnf)
   first
    | refine Rs.ct aa0 (m:=1) rfl rfl rfl rfl rfl rfl rfl ?_
    | refine Rs.ct aa0 (m:=0) rfl rfl rfl rfl rfl rfl rfl ?_
   repeat' first|refine sk108 ?_|(intro b;conv=>whnf)
   refine fin pos ⟨nE,nE,nE,nE,0⟩ false _ ?_ ⟨by omega,by omega⟩ (fun h=>by cases h)
   first
    | exact .cons_cons _ (List.nil_sublist _)
    | exact .cons _ (.cons_cons _ (List.nil_sublist _))
  ·have hlt:am7 k.fields nSize<k.fields.length:=aw5 _ _
   have h0l:0≤am7 k.fields ⟨#[115,105,122,101]⟩:=Int.not_lt.1 hs
   obtain ⟨f,hf⟩:∃ f,k.fields[(am7 k.fields nSize).toNat]?=some f:=⟨_,List.getElem?_eq_getElem (by omega)⟩
   obtain ⟨⟨hf1,hf2⟩,hf3,hf4⟩:=hsm f (List.mem_of_getElem? hf)
   have hc:=ac6 xs pos 2
   have hd:=ac6 xs (pos+1) 12
   have hd':=hd.2 (by omega)
   repeat' first|refine sk108 ?_|(intro b;conv=>whnf)
   refine CE.own (t:=[(b,.cells 97 (fldC f)),(b4,.cells 92 [.v (zv ZV.str),.v (zv ZV.str),.v (zv ZV.str),.v (zv ZV.str),.v (zv (ZV.int IntKind.i64))])]) (aa8 xs hx bm pos 2 ⟨by omega,by omega⟩) ?hpm (fun s'=>s' ++ [(b,.cells 97 (fldC f)),(b4,.cells 92 [.v (zv ZV.str),.v (zv ZV.str),.v (zv ZV.str),.v (zv ZV.str),.v (zv (ZV.int IntKind.i64))])]) (fun s'=>List.Perm.refl _) ?_
   case hpm=>
    first
     | exact List.Perm.swap _ _ _
     | exact (List.Perm.cons _ (List.Perm.swap _ _ _)).trans (List.Perm.swap _ _ _)
   rintro _ _ ⟨rfl,rfl⟩
   by_cases hz:atE xs pos 2=0
   ·repeat' first|refine sk108 ?_|(intro b;conv=>whnf)
    refine dr7 ?_
    refine aB7 mixed aa0 rfl [0,1,2,3,4,5,6,8] 6 (.two 7 (.one 9 (.one 10 (.one 11 (.one 12 (.one 13 .done))))) 9 (.one 7 (.one 10 (.one 11 (.one 12 (.one 13 .done)))))) (γ:=Unit) (fun _=>[(5,bD true),(50,iD f.lo),(52,iD (atE xs (pos+1) 12)),(53,iD (f.lo+atE xs (pos+1) 12)),(54,rulD ⟨bb2 ++ k.name.extract 0 1,k.name,nSize,nE,f.lo+atE xs (pos+1) 12⟩)]) (fun _=>[mkB bm xs (pos+1+1),(b,.cells 97 (fldC f)),(b4,.cells 92 (rulC ⟨bb2 ++ k.name.extract 0 1,k.name,nSize,nE,f.lo+atE xs (pos+1) 12⟩))]) (fun _=>True) (by decide +kernel) ?_ ?_
    ·repeat' first|refine sk108 ?_|(intro b;conv=>whnf)|((with_reducible refine Sd.go ?qs8 ?_);(case qs8=>(rw [hex];decide)))|(refine And.intro ?_ ?_ <;> (conv=>whnf))|((refine CE.own (aa8 xs hx bm _ _ ⟨by omega,by omega⟩) (List.Perm.refl ([mkB bm xs _] ++ _)) (fun s'=>s' ++ _) (fun s'=>List.Perm.refl _) ?_);(rintro _ _ ⟨rfl,rfl⟩))|((refine CE.own (aa8 xs hx bm _ _ ⟨by omega,by omega⟩) (show List.Perm (_ :: mkB bm xs _ :: _) ([mkB bm xs _] ++ (_ :: _)) from List.Perm.swap _ _ _) (fun s'=>s' ++ (_ :: _)) (fun s'=>List.Perm.refl _) ?_);(rintro _ _ ⟨rfl,rfl⟩))
     all_goals exact ⟨(),(aa2 cl3),rfl,trivial⟩
    ·rintro - -
     repeat' first|refine sk108 ?_|(intro b;conv=>whnf)
     refine Rs.ct aa0 (m:=2) rfl rfl rfl rfl rfl rfl rfl ?_
     repeat' first|refine sk108 ?_|(intro b;conv=>whnf)
     exact fin _ ⟨bb2 ++ k.name.extract 0 1,k.name,nSize,nE,f.lo+atE xs (pos+1) 12⟩ true _ (.cons_cons _ (List.nil_sublist _)) ⟨by omega,by omega⟩ (fun _=>RuleF.most f _ (by omega) hf ⟨by omega,by omega⟩)
   ·repeat' first|refine sk108 ?_|(intro b;conv=>whnf)
    refine dr7 ?_
    refine aB7 mixed aa0 rfl [0,1,2,3,4,5,6,8] 6 (.two 7 (.one 9 (.one 10 (.one 11 (.one 12 (.one 13 .done))))) 9 (.one 7 (.one 10 (.one 11 (.one 12 (.one 13 .done)))))) (γ:=Unit) (fun _=>[(5,bD true),(64,iD f.hi),(62,iD (atE xs (pos+1) 12)),(65,iD (atE xs (pos+1) 12 - f.hi)),(66,rulD ⟨aF8 ++ k.name.extract 0 1,k.name,nE,nSize,atE xs (pos+1) 12 - f.hi⟩)]) (fun _=>[mkB bm xs (pos+1+1),(b,.cells 97 (fldC f)),(b4,.cells 92 (rulC ⟨aF8 ++ k.name.extract 0 1,k.name,nE,nSize,atE xs (pos+1) 12 - f.hi⟩))]) (fun _=>True) (by decide +kernel) ?_ ?_
    ·repeat' first|refine sk108 ?_|(intro b;conv=>whnf)|((with_reducible refine Sd.go ?qs8 ?_);(case qs8=>(rw [hex];decide)))|(refine And.intro ?_ ?_ <;> (conv=>whnf))|((refine CE.own (aa8 xs hx bm _ _ ⟨by omega,by omega⟩) (List.Perm.refl ([mkB bm xs _] ++ _)) (fun s'=>s' ++ _) (fun s'=>List.Perm.refl _) ?_);(rintro _ _ ⟨rfl,rfl⟩))|((refine CE.own (aa8 xs hx bm _ _ ⟨by omega,by omega⟩) (show List.Perm (_ :: mkB bm xs _ :: _) ([mkB bm xs _] ++ (_ :: _)) from List.Perm.swap _ _ _) (fun s'=>s' ++ (_ :: _)) (fun s'=>List.Perm.refl _) ?_);(rintro _ _ ⟨rfl,rfl⟩))
     all_goals exact ⟨(),(aa2 cl3),rfl,trivial⟩
    ·rintro - -
     repeat' first|refine sk108 ?_|(intro b;conv=>whnf)
     refine Rs.ct aa0 (m:=2) rfl rfl rfl rfl rfl rfl rfl ?_
     repeat' first|refine sk108 ?_|(intro b;conv=>whnf)
     exact fin _ ⟨aF8 ++ k.name.extract 0 1,k.name,nE,nSize,atE xs (pos+1) 12 - f.hi⟩ true _ (.cons_cons _ (List.nil_sublist _)) ⟨by omega,by omega⟩ (fun _=>RuleF.least f _ (by omega) hf ⟨by omega,by omega⟩)
end
section
open Go
structure SchB (x:Sch):Prop where
 nk:x.kinds.length≤1000
 nf:∀ k∈x.kinds,k.fields.length≤1000
 ne:∀ k∈x.kinds,1≤k.fields.length
abbrev RT:ORep (List ByteArray):=fun l v s=>RowIs 9 1 (l.map fun a=>[sD a]) v s
theorem bM6 {x:Sch} {k:Nat} {s:ByteArray} (h:¬ al3 x k s<0):al3 x k s<k:=aV8 (Int.not_lt.1 h)
theorem sk109 {A B:Prop} (k:B) (h:Hd7 B→A:=by intro hk7q;(first|refine sb0 ?_|refine sb75 ?_|((with_reducible refine' Cp.by ?hc ?_);(case hc=>exact HN))|((with_reducible refine' CE.pure ?hc ?_);(case hc=>exact HN)));exact hk7q.run):A:=h ⟨k⟩
theorem aB0 (x:Sch) (hx:SchB x) (xs:List Int) (hxs:I64s xs) (bt:Nat) (k:Nat) (hk:k<x.kinds.length) (pos:Int) (hp:0≤pos∧pos≤100000000):ACall Tryz.prog 56 [ptr bt,schD x,iD k] [tkB bt xs pos] (fun d σ=>∃ p pos',(pos≤pos'∧pos'≤pos+6)∧p.length≤4∧d=slS p∧σ=[tkB bt xs pos']):=by
 have hnk:=hx.nk
 refine eC7 Tryz.func56 Tryz.ntmps56 fun BB=>?_
 repeat' first|refine sk109 ?_|(intro b;conv=>whnf)|refine IxM.mk fun y hy=>?_
 refine aa5 mixed aa0 (γ:=Nat × Int × Nat × List ByteArray × Value × aa1) (fun g=>[(8,iD g.1),(2,iD g.2.2.1),(7,.v g.2.2.2.2.1)]) (fun g=>tkB bt xs g.2.1 :: g.2.2.2.2.2) (fun g=>g.1≤3∧(pos≤g.2.1∧g.2.1≤pos+2*g.1)∧g.2.2.1<x.kinds.length∧g.2.2.2.1.length=g.1∧RT g.2.2.2.1 g.2.2.2.2.1 g.2.2.2.2.2) (fun g=>3 - g.1) (0,pos,k,[],.slice none 0 0,[]) (aa2 cl6) (Sc.refl _) ⟨by omega,⟨by simp only;omega,by simp only;omega⟩,hk,rfl,RowIs.nil _ _⟩ ?_
 clear hk
 rintro ⟨i,ps,k,names,v,s⟩ ⟨hi,hps,hk,hnl,hrow⟩
 simp only at hi hps hk hnl hrow ⊢
 obtain ⟨kd,hkd⟩:∃ kd,x.kinds[k]?=some kd:=⟨_,List.getElem?_eq_getElem hk⟩
 have hkd':x.kinds[((k:Nat):Int).toNat]?=some kd:=hkd
 have hfl:=hx.nf kd (List.mem_of_getElem? hkd)
 have hfe:=hx.ne kd (List.mem_of_getElem? hkd)
 by_cases hil:i<3
 ·have hml:(kd.fields.map fldC).length=kd.fields.length:=List.length_map ..
  have hq:=ac6 xs ps (kd.fields.map fldC).length
  have hq2:=hq.2 (by omega)
  obtain ⟨f,hf⟩:∃ f,kd.fields[(atE xs ps (kd.fields.map fldC).length).toNat]?=some f:=⟨_,List.getElem?_eq_getElem (by omega)⟩
  have hfq:=cq0 (f:=fldC) hf
  have HN:=bL0 x k f.name hk (by omega) (fun k hk=>by have:=hx.nf k hk;omega)
  repeat' first|refine sk109 ?_|(intro b;conv=>whnf)|refine IxM.mk fun y hy=>?_
  refine dr7 ?_
  refine ah2 mixed aa0 rfl [0,1,2,3,4,5,6,7,8,9,10,11,12,13] 5 (inE [14,17,18]) (.two 14 (.fst 15 (.fst 16 (.one 17 (.one 18 .done)))) 17 (.one 14 (.fst 15 (.fst 16 (.one 18 .done))))) (γ:=Nat) (fun b=>[(9,.v (.pointer (some ⟨b,0,none⟩)))]) (fun b=>(b,.cells 97 (fldC f)) :: tkB bt xs (ps+1) :: s) (fun _=>True) (by decide +kernel) ?_ ?_
  ·repeat' first|refine sk109 ?_|(intro b;conv=>whnf)|refine IxM.mk fun y hy=>?_|(refine And.intro ?_ ?_ <;> (conv=>whnf))|(refine CE.own (aj6 xs hxs bt _ _ ⟨by omega,by omega⟩) (List.Perm.refl ([tkB bt xs _] ++ _)) (fun s'=>s' ++ _) (fun s'=>List.Perm.refl _) ?_;(rintro _ _ ⟨rfl,rfl⟩))|(refine CE.own (aj6 xs hxs bt _ _ ⟨by omega,by omega⟩) (show List.Perm (_ :: tkB bt xs _ :: _) ([tkB bt xs _] ++ (_ :: _)) from List.Perm.swap _ _ _) (fun s'=>s' ++ (_ :: _)) (fun s'=>List.Perm.refl _) ?_;(rintro _ _ ⟨rfl,rfl⟩))|(refine Ix.at hfq (by omega) ?_)
   all_goals exact ⟨b,(aa2 cl3),(by first|exact Sc.refl _|exact Sc.perm (List.Perm.swap _ _ _)),trivial⟩
  ·rintro b -
   repeat' first|refine sk109 ?_|(intro b;conv=>whnf)|refine IxM.mk fun y hy=>?_
   refine Ap.go rfl rfl rfl rfl hrow (τ:=[(b,.cells 97 (fldC f)),tkB bt xs (ps+1)]) cl13 rfl (zs:=(names ++ [f.name]).map fun a=>[sD a]) (by simp) (by simp;omega) (by simp;omega) (fun s'=>(b,.cells 97 (fldC f)) :: tkB bt xs (ps+1) :: s') (fun s'=>cl9) (fun a2 c2 s2 hr2=>?_)
   have hnl2:(names ++ [f.name]).length=i+1:=by rw [List.length_append,hnl];rfl
   by_cases h1:f.kind=1
   ·by_cases h2:al3 x k f.name<0
    ·repeat' first|refine sk109 ?_|(intro b;conv=>whnf)|refine IxM.mk fun y hy=>?_
     exact Rt.by ((Vs.row hr2 (τ:=[(b,.cells 97 (fldC f)),tkB bt xs (ps+1)]) cl13).trans (Vs.drop (List.sublist_cons_self _ _))) ⟨names ++ [f.name],_,⟨by omega,by omega⟩,by omega,rfl,rfl⟩
    ·have hlt:=bM6 h2
     obtain ⟨n,hn⟩:∃ n:Nat,al3 x k f.name=n:=⟨(al3 x k f.name).toNat,by omega⟩
     rw [hn] at HN h2 hlt
     have h5:=ac6 xs (ps+1) 5
     have h5':=h5.2 (by omega)
     repeat' first|refine sk109 ?_|(intro b;conv=>whnf)|refine IxM.mk fun y hy=>?_
     (refine CE.own (aj6 xs hxs bt _ _ ⟨by omega,by omega⟩) (show List.Perm (_ :: tkB bt xs _ :: _) ([tkB bt xs _] ++ (_ :: _)) from List.Perm.swap _ _ _) (fun s'=>s' ++ (_ :: _)) (fun s'=>List.Perm.refl _) ?_;(rintro _ _ ⟨rfl,rfl⟩))
     by_cases h3:atE xs (ps+1) 5=0
     ·repeat' first|refine sk109 ?_|(intro b;conv=>whnf)|refine IxM.mk fun y hy=>?_
      exact Rt.by ((Vs.row hr2 (τ:=[(b,.cells 97 (fldC f)),tkB bt xs (ps+1+1)]) cl13).trans (Vs.drop (List.sublist_cons_self _ _))) ⟨names ++ [f.name],_,⟨by omega,by omega⟩,by omega,rfl,rfl⟩
     ·repeat' first|refine sk109 ?_|(intro b;conv=>whnf)|refine IxM.mk fun y hy=>?_
      exact ⟨(i+1,ps+1+1,n,names ++ [f.name],_,s2),(aa2 cl6),Sc.sl (.cons_cons _ (List.sublist_cons_self _ _)),⟨by simp only;omega,⟨by simp only;omega,by simp only;omega⟩,by simp only;omega,hnl2,hr2⟩,by simp only;omega⟩
   ·repeat' first|refine sk109 ?_|(intro b;conv=>whnf)|refine IxM.mk fun y hy=>?_
    exact Rt.by ((Vs.row hr2 (τ:=[(b,.cells 97 (fldC f)),tkB bt xs (ps+1)]) cl13).trans (Vs.drop (List.sublist_cons_self _ _))) ⟨names ++ [f.name],_,⟨by omega,by omega⟩,by omega,rfl,rfl⟩
 ·obtain rfl:i=3:=by omega
  repeat' first|refine sk109 ?_|(intro b;conv=>whnf)|refine IxM.mk fun y hy=>?_
  refine Ap.go rfl rfl rfl rfl hrow (τ:=[tkB bt xs ps]) cl13 rfl (zs:=(names ++ [y.name]).map fun a=>[sD a]) (by simp) (by simp;omega) (by simp;omega) (fun s'=>tkB bt xs ps :: s') (fun s'=>cl9) (fun a2 c2 s2 hr2=>?_)
  repeat' first|refine sk109 ?_|(intro b;conv=>whnf)|refine IxM.mk fun y hy=>?_
  exact Rt.by (Vs.row hr2 (τ:=[tkB bt xs ps]) cl13) ⟨names ++ [y.name],_,⟨by omega,by omega⟩,by simp;omega,rfl,rfl⟩
end
section
open Go
abbrev nId:ByteArray:=⟨#[105,100]⟩
abbrev nOf:ByteArray:=⟨#[111,102]⟩
abbrev br7:ByteArray:=⟨#[115,97,109,101]⟩
abbrev br8:ByteArray:=⟨#[112,97,114,116]⟩
abbrev aq7:ByteArray:=⟨#[116,111,116,97,108]⟩
abbrev nBy:ByteArray:=⟨#[98,121]⟩
abbrev bB0:ByteArray:=⟨#[112,101,114,115,111,110]⟩
abbrev cp8:ByteArray:=⟨#[105,116,101,109]⟩
def knm (n:Nat):ByteArray:=[bB0,aL7,cp8].getD n nE
def idF (lo:Int):Fld:=⟨nId,nE,nE,0,lo,0,[],[]⟩
def ofF (k:Knd) (lo hi:Int):Fld:=⟨nOf,k.name,nE,1,lo,hi,[],[]⟩
def at4 (nm:ByteArray):Fld:=⟨br7,nm,nOf,8,0,0,[],[]⟩
def aj7 (a b:Int):Fld:=⟨br8,aq7,nOf,7,a,a+b,[],[]⟩
def totF (nm:ByteArray):Fld:=⟨aq7,nm,nE,6,0,0,[],[]⟩
def byF (k:Knd):Fld:=⟨nBy,k.name,nE,1,0,8,[],[]⟩
inductive RefP (ks:List Knd) (nm:ByteArray):List Fld→List Knd→Prop
 | none (h:ks=[]):RefP ks nm [] ks
 | of (tw0:Nat) (y:Knd) (lo hi:Int) (sm:List Fld) (hy:ks[tw0]?=some y) (hl:lo=0∨lo=1) (hh:hi∈[4,3,8,2]) (hs:sm=[]∨∃ g,0≤aq8 y∧y.fields[(aq8 y).toNat]?=some g∧sm=[at4 g.name]):RefP ks nm (ofF y lo hi :: sm) ks
 | part (tw0:Nat) (y:Knd) (lo hi a b:Int) (sm:List Fld) (hy:ks[tw0]?=some y) (hl:lo=0∨lo=1) (hh:hi∈[4,3,8,2]) (hs:sm=[]∨∃ g,0≤aq8 y∧y.fields[(aq8 y).toNat]?=some g∧sm=[at4 g.name])
   (ht:am7 y.fields aq7<0) (ha:0≤a∧a<3) (hb:0≤b∧b<8):RefP ks nm (ofF y lo hi :: (sm ++ [aj7 a b])) (ks.set tw0 ⟨y.name,y.lo,y.hi,y.fields ++ [totF nm]⟩)
structure KMade (ks:List Knd) (k:Knd) (ks':List Knd):Prop where
 ex:∃ lo r idl f1 f2 p1 p2,lo∈[(0:Int),1,2,4,1,2]∧(0≤r∧r<5)∧idl∈[(0:Int),1,100,-3]∧k=⟨knm ks.length,lo,lo+r,idF idl :: (f1 ++ (f2 ++ (p1 ++ p2)))⟩∧RefP ks (knm ks.length) f1 ks' ∧
  (f2=[]∨∃ y,ks[0]?=some y∧1<ks.length∧f2=[byF y])∧PlainF p1∧PlainF p2∧(p2=[]∨∃ g gs,p2=g :: gs∧am7 (idF idl :: (f1 ++ (f2 ++ p1))) g.name<0)
end
end Go.Proofs.YtlcfiilejnnlnaaGreatDoor
