/- A part of the proof: Qe Xh Qf Qg. -/
import Derived.Test.YtlcfiilejnnlnaaGreatDoorK21
import Derived.Test.YtlcfiilejnnlnaaGreatDoorK22
set_option maxRecDepth 100000
set_option maxHeartbeats 20000000
set_option linter.all false
namespace Go.Proofs.YtlcfiilejnnlnaaGreatDoor
open Tryz
section
open Go Go.Maps Go.MapKept
def aK4 (l:List ByteArray):ByteArray:=⟨(Lib.join (l.map (·.data.toList)) [46]).toArray⟩
theorem br4 (l:List ByteArray) (h1:l.length<=1000) (h:∀ s∈l,s.size<=1000):(Lib.join (l.map (·.data.toList)) [46]).length<=2000000:=by
 have hb:∀ l:List ByteArray,(∀ s∈l,s.size<=1000)->(Lib.joinTail [46] (l.map (·.data.toList))).length<=l.length*1001:=by
  intro l
  induction l with
  | nil=>intro _;simp [Lib.joinTail]
  | cons s l ih=>
   intro h;have h2:=ih fun t ht=>h t (yQ _ ht);have h3:=h s yN;have h4:s.data.toList.length=s.size:=by simp
   simp only [Lib.joinTail,List.map_cons,List.flatten_cons,zI,List.length_cons,List.length_nil] at h2 ⊢;omega
 cases l with
 | nil=>simp [Lib.join_nil]
 | cons s l=>
  have h2:=hb l fun t ht=>h t (yQ _ ht);have h3:=h s yN;have h4:s.data.toList.length=s.size:=by simp
  rw [List.map_cons,Lib.join_cons,zI];simp only [List.length_cons] at h1;omega
theorem aX3 (l:List ByteArray) (h0:l≠[]) (h1:l.length<=1000) (h:∀ s∈l,s.size<=1000):APure prog 118 [slS l,sD ⟨#[46]⟩] (sD (aK4 l)):=by
 refine⟨enters_of func118 (by kernel_rfl) rfl,fun w O vs hv hg=>?_⟩;obtain⟨v,t,rfl,h2,h3⟩:=ad6 hv;obtain⟨u,t,rfl,h4,h5⟩:=ad6 h3;rw [av1 h5,h4.val rfl];obtain⟨a,cap,va,rfl,hle,hk,hc,hr⟩:=h2.sl_inv;rw [zL] at hle ⊢;have hl:0<l.length:=xS.2 h0;obtain⟨b,off,rfl,_,hb,_⟩:=hc 0 [sD l[0]] (by rw [zP,zD hl];rfl);refine (strings_Join b off cap l ⟨#[46]⟩ w (fun j x hx=>?_) hb (by omega) hle (by have:=br4 l h1 h;exact xH this (by decide))).mono fun e w' ⟨e1,e2⟩=>⟨_,e1,.v _,pA0 e2⟩
 have hg:(l.map fun x=>[sD x])[j]?=some [sD x]:=by rw [zP,hx];rfl
 obtain⟨b',off',ha,_,_,hcell⟩:=hc j _ hg
 cases ha
 have:=hcell 0 (by decide);rw [(hr j _ hg 0 _ rfl).val rfl] at this
 simpa using this
theorem bS4 {c:UInt8} (h:alnum c=true):c≠46:=by
 rintro rfl;revert h
 decide
theorem cd4 {s:ByteArray} (h:isNm s=true):(46:UInt8) ∉ s.data.toList:=by
 intro hm;unfold isNm at h;simp only [zJ,yA] at h;exact bS4 (h.2 46 hm) rfl
def wM:=@List.cons.injEq
theorem bB9 {x y t u:List UInt8} (hx:(46:UInt8) ∉ x) (hy:(46:UInt8) ∉ y) (ht:t=[]\/∃ r,t=46::r) (hu:u=[]\/∃ r,u=46::r) (h:x++t=y++u):x=y/\t=u:=by
 induction x generalizing y with
 | nil=>
  cases y with
  | nil=>exact⟨rfl,h⟩
  | cons c y=>
   rcases ht with rfl|⟨r,rfl⟩
   ·simp at h
   ·simp only [List.nil_append,List.cons_append,wM] at h;exact absurd (by rw [← h.1];exact yN) hy
 | cons c x ih=>
  cases y with
  | nil=>
   rcases hu with rfl|⟨r,rfl⟩
   ·simp at h
   ·simp only [List.nil_append,List.cons_append,wM] at h;exact absurd (by rw [← h.1];exact yN) hx
  | cons e y=>
   simp only [List.cons_append,wM] at h;obtain⟨h1,h2⟩:=ih (fun hm=>hx (yQ _ hm)) (fun hm=>hy (yQ _ hm)) h.2;exact⟨by rw [h.1,h1],h2⟩
theorem aD5 (r:List (List UInt8)):Lib.joinTail [46] r=[]\/∃ q,Lib.joinTail [46] r=46::q:=by
 cases r with
 | nil=>exact .inl rfl
 | cons x r=>exact .inr ⟨x++Lib.joinTail [46] r,by simp [Lib.joinTail]⟩
theorem bn9:∀ {r q:List (List UInt8)},(∀ x∈r,(46:UInt8) ∉ x)->(∀ x∈q,(46:UInt8) ∉ x)->Lib.joinTail [46] r=Lib.joinTail [46] q->r=q
 | [],[],_,_,_=>rfl
 | [],y::q,_,_,h=>by simp [Lib.joinTail] at h
 | x::r,[],_,_,h=>by simp [Lib.joinTail] at h
 | x::r,y::q,hr,hq,h=>by
  have e:∀ (x:List UInt8) r,Lib.joinTail [46] (x::r)=46::(x++Lib.joinTail [46] r):=fun x r=>by simp [Lib.joinTail]
  rw [e,e,wM] at h;obtain⟨h1,h2⟩:=bB9 (hr x yN) (hq y yN) (aD5 r) (aD5 q) h.2;rw [h1,bn9 (fun z hz=>hr z (yQ _ hz)) (fun z hz=>hq z (yQ _ hz)) h2]
theorem bP4 {l m:List ByteArray} (hl:am2 l=true) (hm:am2 m=true) (h:aK4 l=aK4 m):l=m:=by
 unfold am2 at hl hm;simp only [zJ,zQ,yA] at hl hm;have h1:Lib.join (l.map (·.data.toList)) [46]=Lib.join (m.map (·.data.toList)) [46]:=by
  unfold aK4 at h
  simpa using h
 have ne:∀ l:List ByteArray,(∀ s∈l,isNm s=true)->∀ x∈l.map (·.data.toList),(46:UInt8) ∉ x:=fun l h x hx=>by
  obtain⟨s,hs,rfl⟩:=xM.1 hx;exact cd4 (h s hs)
 have inj:∀ l m:List ByteArray,l.map (·.data.toList)=m.map (·.data.toList)->l=m:=by
  intro l
  induction l with
  | nil=>intro m h;cases m with|nil=>rfl|cons=>simp at h
  | cons a l ih=>
   intro m h
   cases m with
   | nil=>simp at h
   | cons b m=>
    simp only [List.map_cons,wM] at h;rw [ih m h.2]
    congr 1
    cases a;cases b
    have:=h.1;simp at this;rw [this]
 match l,m,hl,hm,h1 with
 | a::l,b::m,hl,hm,h1=>
  rw [List.map_cons,List.map_cons,Lib.join_cons,Lib.join_cons] at h1;obtain⟨h2,h3⟩:=bB9 (cd4 (hl.2 a yN)) (cd4 (hm.2 b yN)) (aD5 _) (aD5 _) h1;have h4:=bn9 (ne l fun s hs=>hl.2 s (yQ _ hs)) (ne m fun s hs=>hm.2 s (yQ _ hs)) h3;exact inj _ _ (by rw [List.map_cons,List.map_cons,h2,h4])
end
section
open Go Go.Maps Go.MapKept
theorem bY7 (w:World):(zeroValue 62).run prog w = .ok (.slice none 0 0) w:=by kernel_rfl
theorem bI0 {x:Sch} {w:Wd} {k i f:Nat} {kd:Knd} {d:Fld} {l:List (List Int)} {r:List Int} {n:Int} (L:List Rf) (c bk rm lm:Nat) (v:Value) (ks:List Int) (hk:x.kz[k]?=some kd) (hf:kd.fields[f]?=some d) (hl:w[k]?=some l) (hr:l[i]?=some r) (hv:r[f]?=some n) (hn:InR n) (h3:d.kind=0\/d.kind=1\/d.kind=2)
  (b1:x.kz.length<=1000000) (b2:kd.fields.length<=1000000) (b3:w.length<=1000000) (b4:l.length<=1000000) (b5:r.length<=1000000) :
  ACall prog 68 [.v (.pointer (some ⟨c,0,none⟩)),iD k,iD i,iD f,.v (.map (some bk))] [(c,.cells 145 (ckC x w L rm lm v)),(bk,.obj (MapO prog 3 (KF ks)))]
   (fun dd σ'=>dd=iD (codeF x w k kd r i f d ks)/\σ'=[(bk,.obj (MapO prog 3 (KF (keyF r f d ks)))),(c,.cells 145 (ckC x w L rm lm v))]):=by
 have h:=bR3 L bk rm lm v ks hk hf hl hr hv hn h3 b1 b2 b3 b4 b5;have h2:=ACall.look (σ:=[(c,.cells 145 (ckC x w L rm lm v)),(bk,.obj (MapO prog 3 (KF ks)))]) (ρ:=[(c,.cells 145 (ckC x w L rm lm v))]) (ds:=[.v (.pointer (some ⟨c,0,none⟩)),iD k,iD i,iD f,.v (.map (some bk))])
  (.cons (Vs.ptr (zH _)) (.cons (Vs.refl _ _) (.cons (Vs.refl _ _) (.cons (Vs.refl _ _) (.cons (Vs.refl _ _) (.nil _)))))) (List.Perm.swap _ _ _) h (fun d s hh=>⟨by rw [hh.1];rfl,by rw [hh.2];intro p hp;rw [zN] at hp;subst hp;trivial⟩)
 refine⟨h2.ent,fun w X vs a b=>(h2.run w X vs a b).mono ?_⟩;rintro e w' ⟨u,d,σ',g1,⟨s,rfl,g2,rfl⟩,g3⟩;exact⟨u,d,_,g1,⟨g2,rfl⟩,g3⟩
theorem an0 {x:Sch} {w:Wd} (h:fitW x w=true):w.length=x.kz.length/\(∀ (k:Nat) l,w[k]?=some l->ap5 x k l=true)/\∀ r∈ab8 x,∀ l,w[r.kind]?=some l->∀ y∈l,refOk w r y=true:=by
 unfold fitW at h;simp only [zJ,zQ,yA] at h;obtain⟨⟨h1,h2⟩,h3⟩:=h;refine⟨h1,fun k l hl=>?_,fun r hr l hl y hy=>?_⟩
 ·have:=h2 k (xT.2 (zE.1 hl).1)
  rwa [aa8 hl] at this
 ·have:=h3 r hr y;rw [aa8 hl] at this;exact this hy
theorem bs9 (x:Sch) (w:Wd) (r:Rf) (j:Nat):(degP x w r j).length<=1:=by unfold degP;split;exact at3 ..;simp
theorem bH8 {x:Sch} {w:Wd} (hw:Ws w) (q:Nat):(aS4 x w q).length<=1000:=by
 unfold aS4;split
 ·rename_i r hr;have h1:=ad2 (bs9 x w r) (w.getD r.up.toNat []).length;have h2:(w.getD r.up.toNat []).length<=1000:=by
   cases hl:w[r.up.toNat]? with
   | none=>rw [List.getD_eq_getElem?_getD,hl];simp
   | some l=>rw [aa8 hl];exact hw.nr l (zG hl)
  omega
 ·simp
structure Easy (x:Sch):Prop where
 rules:x.rules=[]
 kz:∀ k∈x.kz,∀ f∈k.fields,f.kind=0\/f.kind=1\/f.kind=2
theorem br0 (x:Sch) (w:Wd) (k:Nat):(limP x w k).length<=1:=by unfold limP;split;exact at3 ..;simp
theorem bs2 (x:Sch) (w:Wd) (k:Nat) (kd:Knd) (l:List (List Int)) (i:Nat) (r:List Int) (f:Nat):(fldP x w k kd l i r f).length<=1:=by unfold fldP;split;exact at3 ..;simp
theorem bo7 {x:Sch} (hE:Easy x) {w:Wd} {k:Nat} {kd:Knd} {l:List (List Int)} (hrec:∀ y∈l,recOk x k y=true) (hnf:∀ k∈x.kz,k.fields.length<=10) (hkd:x.kz[k]?=some kd) (i:Nat):(recP x w k kd l i).length<=10:=by
 unfold recP;split
 ·rename_i r hr;have h1:=ad2 (bs2 x w k kd l i r) r.length;have h2:=(av0 hkd (hrec r (zG hr))).1;have h3:=hnf kd (zG hkd);rw [hE.rules];simp only [List.length_nil,zI];have:(upTo 0 (rulP x k kd i r)).length=0:=rfl;omega
 ·simp
theorem bF4 {x:Sch} (hE:Easy x) {w:Wd} (hrows:∀ (k:Nat) l,w[k]?=some l->ap5 x k l=true) (hnf:∀ k∈x.kz,k.fields.length<=10) (k:Nat):(knP x w k).length<=5120:=by
 unfold knP;split
 ·rename_i kd hkd
  cases hl:w[k]? with
  | none=>rw [List.getD_eq_getElem?_getD,hl];simp [upTo]
  | some l=>
   rw [aa8 hl];obtain⟨h1,h2⟩:=ao3 (hrows k l hl);have:=ad2 (bo7 hE h2 hnf hkd (w:=w)) l.length;omega
 ·simp
theorem sk117 {A B:Prop} (k:B) (h:Hd7 B->A:=by intro q7;(first|refine sb0 ?_|refine sb1 ?_|(refine' cp7x ?hc ?_;(case hc=>first|exact aj4 _ _|exact HN)));exact q7.1):A:=h ⟨k⟩
theorem sb118 {A B:Prop} (k:B) (h:Hd7 B->A:=by intro q7;(first|refine u7x ?_|(with_reducible refine Dr.r ?_)|refine u4x ?_);exact q7.1):A:=h ⟨k⟩
theorem sk119 {A B:Prop} (k:B) (h:Hd7 B->A:=by intro q7;(first|refine sb0 ?_|refine sb118 ?_|(refine' cp7x ?hc ?_;(case hc=>first|exact aj4 _ _|exact HN)));exact q7.1):A:=h ⟨k⟩
theorem sq0 {A B:Prop} (k:B) (h:Hd7 B->A:=by intro q7;(first|refine sk117 ?_|(with_reducible refine Br.t (wP _) ?_)|(with_reducible refine Br.f Bool.not_true ?_)|(with_reducible refine Br.t (yJ trivial) ?_));exact q7.1):A:=h ⟨k⟩
theorem sq1 {A B:Prop} (k:B) (h:Hd7 B->A:=by intro q7;(first|refine sk119 ?_|(with_reducible refine Br.t (wP _) ?_)|(with_reducible refine Br.f Bool.not_true ?_)|(with_reducible refine Br.t (yJ trivial) ?_));exact q7.1):A:=h ⟨k⟩
theorem bR4 (x:Sch) (w:Wd) (hw:Ws w) (hp:aj9 x=[]) (hE:Easy x) (HV:APure prog 143 [schD x] (iD (ad4 x))):APure prog 27 [schD x,slW w] (.sl 4 ((bh0 x w).map prbC)):=by
 have HN:=bW4 x w hw hp HV;have hS:=aN2 hp;have hV:=hS.vld;have hnk:=hV.nk;have hnf:=hV.nf;have hwl:=hw.nk;have hl6:x.kz.length<=1000000:=by omega
 have hrl:=bo3 hV;refine eP7 func27 ntmps27 fun BB=>?_
 repeat' first|refine sk117 ?_|intro b;conv=>whnf
 refine pA6 HN (zH ([]++[])) (fun s'=>s') (fun s'=>by simp) ?_;rintro d σ (⟨hfit,rfl,rfl⟩|⟨hfit,c,rm,lm,F,sa,rfl,rfl,hA⟩)
 ·repeat' first|refine sk117 ?_|intro b;conv=>whnf
  exact Rt.pure (by unfold bh0;rw [hfit];rfl)
 ·obtain⟨hlen,hrows,hrefs⟩:=an0 hfit;obtain⟨R,hR⟩:∃ R:aa1,R=(rm,.obj (MapO prog 147 F))::(lm,.mp prog 9 (lvG x.lz))::sa:=⟨_,rfl⟩
  rw [← hR]
  repeat' first|refine sq0 ?_|intro b;conv=>whnf
  refine aa5 mixed aa0 (γ:=Nat × Value × aa1) (fun g=>[(35,iD g.1)]) (fun g=>(c,.cells 145 (ckC x w (ab8 x) rm lm g.2.1))::(g.2.2++R)) (fun g=>g.1<=w.length/\RowIs 135 4 ((upTo g.1 (limP x w)).map prbC) g.2.1 g.2.2) (fun g=>w.length-g.1) (0,.slice none 0 0,[]) (aa2 cl2) (Sc.refl _) ⟨zW _,RowIs.nil _ _⟩ ?_;rintro⟨k,v,s⟩ ⟨hk,hrow⟩;simp only at hk hrow ⊢;by_cases hkl:k<w.length
  ·obtain⟨l,hl⟩:∃ l,w[k]?=some l:=⟨_,zD hkl⟩
   have hl':w[((k:Nat):Int).toNat]?=some l:=hl;obtain⟨kd,hkd⟩:∃ y,x.kz[k]?=some y:=⟨_,zD (by omega)⟩
   have hkd':x.kz[((k:Nat):Int).toNat]?=some kd:=hkd;have hll:=hw.nr l (zG hl);have hSL:=ad5 k (limP x w);have hLP:limP x w k=one k (-1) (-1) (if (l.length:Int)<kd.lo\/kd.hi<(l.length:Int) then 4 else 0):=by unfold limP;rw [hkd,aa8 hl]
   have hlen1:=ad2 (br0 x w) k;rw [hLP] at hSL;by_cases h1:(l.length:Int)<kd.lo
   ·rw [if_pos (.inl h1)] at hSL
    repeat' first|refine sq0 ?_|intro b;conv=>whnf
    (refine pA6 (aQ8 x w (ab8 x) rm lm c _ _ _ _ _ _ _ hrow (by (try simp only [zI]);omega)) (zH _) (fun s'=>s'++_) (fun s'=>zH _) ?_;rintro _ _ ⟨v',s',rfl,rfl,hr'⟩)
    repeat' first|refine sq0 ?_|intro b;conv=>whnf
    exact⟨(k+1,v',s'),(aa2 cl2),Sc.refl _,⟨by simp only;omega,by rw [hSL];exact hr'⟩,by simp only;omega⟩
   ·by_cases h2:kd.hi<(l.length:Int)
    ·rw [if_pos (.inr h2)] at hSL
     repeat' first|refine sq0 ?_|intro b;conv=>whnf
     (refine pA6 (aQ8 x w (ab8 x) rm lm c _ _ _ _ _ _ _ hrow (by (try simp only [zI]);omega)) (zH _) (fun s'=>s'++_) (fun s'=>zH _) ?_;rintro _ _ ⟨v',s',rfl,rfl,hr'⟩)
     repeat' first|refine sq0 ?_|intro b;conv=>whnf
     exact⟨(k+1,v',s'),(aa2 cl2),Sc.refl _,⟨by simp only;omega,by rw [hSL];simpa [h2] using hr'⟩,by simp only;omega⟩
    ·rw [if_neg (by omega)] at hSL
     repeat' first|refine sq0 ?_|intro b;conv=>whnf
     (refine pA6 (aQ8 x w (ab8 x) rm lm c _ _ _ _ _ _ _ hrow (by (try simp only [zI]);omega)) (zH _) (fun s'=>s'++_) (fun s'=>zH _) ?_;rintro _ _ ⟨v',s',rfl,rfl,hr'⟩)
     repeat' first|refine sq0 ?_|intro b;conv=>whnf
     exact⟨(k+1,v',s'),(aa2 cl2),Sc.refl _,⟨by simp only;omega,by rw [hSL];simpa [h2] using hr'⟩,by simp only;omega⟩
  ·obtain rfl:k=w.length:=by omega
   have hlen1:=ad2 (br0 x w) w.length;generalize hL1:upTo w.length (limP x w)=L1 at *
   repeat' first|refine sq0 ?_|intro b;conv=>whnf
   refine aa5 mixed aa0 (γ:=Nat × Value × aa1) (fun g=>[(68,iD g.1)]) (fun g=>(c,.cells 145 (ckC x w (ab8 x) rm lm g.2.1))::(g.2.2++R)) (fun g=>g.1<=w.length/\RowIs 135 4 ((L1++upTo g.1 (knP x w)).map prbC) g.2.1 g.2.2) (fun g=>w.length-g.1) (0,v,s) (aa2 cl2) (Sc.refl _) ⟨zW _,by simpa [upTo] using hrow⟩ ?_;clear hrow;rintro⟨k,v,s⟩ ⟨hk,hrow⟩;simp only at hk hrow ⊢;by_cases hkl:k<w.length
   ·obtain⟨l,hl⟩:∃ l,w[k]?=some l:=⟨_,zD hkl⟩
    have hl':w[((k:Nat):Int).toNat]?=some l:=hl;obtain⟨kd,hkd⟩:∃ y,x.kz[k]?=some y:=⟨_,zD (by omega)⟩
    have hkd':x.kz[((k:Nat):Int).toNat]?=some kd:=hkd;have hll:=hw.nr l (zG hl);have hlf:=hw.nf l (zG hl);have hkf:=hnf kd (zG hkd);have hSK:=ad5 k (knP x w);have hKP:knP x w k=upTo l.length (recP x w k kd l):=by unfold knP;rw [hkd,aa8 hl]
    rw [hKP] at hSK;have hlen2:(upTo k (knP x w)).length<=100000:=by have:=ad2 (bF4 hE hrows hnf) k;omega
    have hrec:=(ao3 (hrows k l hl)).2;generalize hL2:upTo k (knP x w)=L2 at *
    repeat' first|refine sq0 ?_|intro b;conv=>whnf
    refine OtE.makeMap (k:=3) rfl (fun bk=>?_)
    repeat' first|refine sq0 ?_|intro b;conv=>whnf
    refine aa5 mixed aa0 (γ:=Nat × Value × aa1) (fun g=>[(76,iD g.1)]) (fun g=>(c,.cells 145 (ckC x w (ab8 x) rm lm g.2.1))::(g.2.2++((bk,.obj (MapO prog 3 (KF (aQ0 kd l g.1))))::R))) (fun g=>g.1<=l.length/\RowIs 135 4 ((L1++L2++upTo g.1 (recP x w k kd l)).map prbC) g.2.1 g.2.2) (fun g=>l.length-g.1) (0,v,s) (aa2 cl2) (Sc.perm (by rw [show aQ0 kd l 0=[] from rfl,cv0];refine ac3 fun a=>?_;simp only [List.append_eq,List.nil_append,ac4,af0,ae9];omega)) ⟨zW _,by simpa [upTo] using hrow⟩ ?_;clear hrow;rintro⟨i,v,s⟩ ⟨hi,hrow⟩;simp only at hi hrow ⊢;by_cases hil:i<l.length
    ·obtain⟨r,hr⟩:∃ r,l[i]?=some r:=⟨_,zD hil⟩
     have hr':l[((i:Nat):Int).toNat]?=some r:=hr;have hrf:=hlf r (zG hr);obtain⟨hrl,hrn⟩:=av0 hkd (hrec r (zG hr));have hSR:=ad5 i (recP x w k kd l);have hRP:recP x w k kd l i=upTo r.length (fldP x w k kd l i r):=by unfold recP;rw [hr,hE.rules];simp [upTo]
     rw [hRP] at hSR;have hlen3:(upTo i (recP x w k kd l)).length<=100000:=by have:=ad2 (bo7 hE hrec hnf hkd (w:=w)) i;omega
     generalize hL3:upTo i (recP x w k kd l)=L3 at *;have hKK:aQ0 kd l (i+1)=aF3 kd r (aQ0 kd l i) r.length:=by show (match l[i]? with|some r=>aF3 kd r (aQ0 kd l i) r.length|none=>aQ0 kd l i)=_;rw [hr]
     generalize hK0:aQ0 kd l i=K0 at *
     repeat' first|refine sq0 ?_|intro b;conv=>whnf
     refine aa5 mixed aa0 (γ:=Nat × Value × aa1) (fun g=>[(83,iD g.1)]) (fun g=>(c,.cells 145 (ckC x w (ab8 x) rm lm g.2.1))::(g.2.2++((bk,.obj (MapO prog 3 (KF (aF3 kd r K0 g.1))))::R))) (fun g=>g.1<=r.length/\RowIs 135 4 ((L1++L2++L3++upTo g.1 (fldP x w k kd l i r)).map prbC) g.2.1 g.2.2) (fun g=>r.length-g.1) (0,v,s) (aa2 cl2) (Sc.refl _) ⟨zW _,by simpa [upTo] using hrow⟩ ?_;clear hrow;rintro⟨f,v,s⟩ ⟨hf,hrow⟩;simp only at hf hrow ⊢;by_cases hfl:f<r.length
     ·obtain⟨n,hn⟩:∃ n,r[f]?=some n:=⟨_,zD hfl⟩
      obtain⟨d,hd⟩:∃ d,kd.fields[f]?=some d:=⟨_,zD (by omega)⟩
      have hnb:=hrn n (zG hn);have h3:=hE.kz kd (zG hkd) d (zG hd);have hKF:aF3 kd r K0 (f+1)=keyF r f d (aF3 kd r K0 f):=by show (match kd.fields[f]? with|some d=>keyF r f d (aF3 kd r K0 f)|none=>aF3 kd r K0 f)=_;rw [hd]
      have hSF:=ad5 f (fldP x w k kd l i r);have hlen4:=ad2 (bs2 x w k kd l i r) f;have hFP:fldP x w k kd l i r f=one k i f (codeF x w k kd r i f d (aF3 kd r K0 f)):=by unfold fldP;rw [hd,hK0]
      rw [hFP] at hSF;have HF:=bI0 (ab8 x) c bk rm lm v (aF3 kd r K0 f) hkd hd hl hr hn ⟨by omega,by omega⟩ h3 hl6 (by omega) (by omega) (by omega) (by omega)
      repeat' first|refine sq0 ?_|intro b;conv=>whnf
      refine pA6 HF (t:=s++R) cl5 (fun s'=>s'++(s++R)) (fun s'=>zH _) ?_;rintro _ _ ⟨rfl,rfl⟩
      repeat' first|refine sq0 ?_|intro b;conv=>whnf
      refine pA6 (aQ8 x w (ab8 x) rm lm c _ _ _ _ _ _ _ hrow (by simp only [zI];omega)) (t:=(bk,.obj (MapO prog 3 (KF (keyF r f d (aF3 kd r K0 f)))))::R) cl5 (fun s'=>s'++_) (fun s'=>zH _) ?_;rintro _ _ ⟨v',s',rfl,rfl,hr'⟩
      repeat' first|refine sq0 ?_|intro b;conv=>whnf
      exact⟨(f+1,v',s'),(aa2 cl2),by rw [hKF];exact Sc.refl _,⟨by simp only;omega,by rw [hSF,← zV];exact hr'⟩,by simp only;omega⟩
     ·obtain rfl:f=r.length:=by omega
      have hru:x.rules.length=0:=by rw [hE.rules];rfl
      rw [← hKK]
      repeat' first|refine sq0 ?_|intro b;conv=>whnf
      refine aa5 mixed aa0 (γ:=Unit) (fun _=>[(102,iD 0)]) (fun _=>(c,.cells 145 (ckC x w (ab8 x) rm lm v))::(s++((bk,.obj (MapO prog 3 (KF (aQ0 kd l (i+1)))))::R))) (fun _=>True) (fun _=>0) () (aa2 cl2) (Sc.refl _) trivial ?_;rintro _ -
      repeat' first|refine sq0 ?_|intro b;conv=>whnf
      exact⟨(i+1,v,s),(aa2 cl2),Sc.refl _,⟨by simp only;omega,by rw [hSR,← zV];exact hrow⟩,by simp only;omega⟩
    ·obtain rfl:i=l.length:=by omega
     repeat' first|refine sq0 ?_|intro b;conv=>whnf
     exact⟨(k+1,v,s),(aa2 cl2),Sc.sl ((List.Sublist.append_left (yG _ _) s).cons_cons _),⟨by simp only;omega,by rw [hSK,← zV];exact hrow⟩,by simp only;omega⟩
   ·obtain rfl:k=w.length:=by omega
    have hlen2:(upTo w.length (knP x w)).length<=100000:=by have:=ad2 (bF4 hE hrows hnf) w.length;omega
    generalize hL2:upTo w.length (knP x w)=L2 at *
    repeat' first|refine sq0 ?_|intro b;conv=>whnf
    refine aa5 mixed aa0 (γ:=Nat × Value × aa1) (fun g=>[(137,iD g.1)]) (fun g=>(c,.cells 145 (ckC x w (ab8 x) rm lm g.2.1))::(g.2.2++R)) (fun g=>g.1<=(ab8 x).length/\RowIs 135 4 ((L1++L2++upTo g.1 (aS4 x w)).map prbC) g.2.1 g.2.2) (fun g=>(ab8 x).length-g.1) (0,v,s) (aa2 cl2) (Sc.refl _) ⟨zW _,by simpa [upTo] using hrow⟩ ?_;clear hrow;rintro⟨q,v,s⟩ ⟨hq,hrow⟩;simp only at hq hrow ⊢;by_cases hql:q<(ab8 x).length
    ·obtain⟨r,hr⟩:∃ r,(ab8 x)[q]?=some r:=⟨_,zD hql⟩
     have hr':(ab8 x)[((q:Nat):Int).toNat]?=some r:=hr;have hrm:=zG hr;obtain⟨u1,u2,u3⟩:=hS.up r hrm;obtain⟨kd,d,hkd,hd,_⟩:=aL4 hrm;have hkd':x.kz[((r.kind:Nat):Int).toNat]?=some kd:=hkd;have hd':kd.fields[((r.field:Nat):Int).toNat]?=some d:=hd;have hkf:=hnf kd (zG hkd);have hfl:=(zE.1 hd).1;obtain⟨lu,hlu⟩:∃ l,w[r.up.toNat]?=some l:=⟨_,zD (by omega)⟩
     obtain⟨l,hl⟩:∃ l,w[r.kind]?=some l:=⟨_,zD (by omega)⟩
     have hlul:=hw.nr lu (zG hlu);have hll:=hw.nr l (zG hl);have hadj:adjR w r=adjL l r.field lu.length:=by unfold adjR;rw [aa8 hl,aa8 hlu]
     have hSQ:=ad5 q (aS4 x w);have hQP:aS4 x w q=upTo lu.length (degP x w r):=by unfold aS4;rw [hr];show upTo (w.getD r.up.toNat []).length _=_;rw [aa8 hlu]
     rw [hQP] at hSQ;have hlen3:(upTo q (aS4 x w)).length<=6000000:=by have:=ad2 (bH8 (x:=x) hw) q;omega
     generalize hL3:upTo q (aS4 x w)=L3 at *;obtain⟨kl,hkl⟩:=bW7 (show (Lit.int .i64 (r.kind:Int)).wf=true from wf64 (by omega) (by omega)) (show (Lit.int .i64 (r.field:Int)).wf=true from wf64 (by omega) (by omega)) (show (Lit.int .i64 r.up).wf=true from wf64 (by omega) (by omega));obtain⟨va,ta,τa,hFv,hRW,hpa⟩:=hA.at hr;rw [hadj] at hRW;obtain⟨aa,ca,rfl⟩:=RowsOf.slice hRW;rw [ay0] at *;have om:(rm,Blk.obj (MapO prog 147 F))∈R:=by rw [hR];exact yN
     repeat' first|refine sq0 ?_|intro b;conv=>whnf
     refine Ot.yd (aG6 (kv:=lnV r) (u:=.slice aa lu.length ca) rfl rfl (KeyD.agg3 _ _ _) (yQ _ (yQ _ (yQ _ (yW _ om)))) (fun _ h=>h) bq8 underlying142 bY7 hkl (by rw [hFv];rfl)) ?_
     repeat' first|refine sq0 ?_|intro b;conv=>whnf
     rename_i b18;refine aj5 (i:=19) (d:=.v (.pointer (some ⟨b,0,none⟩))) (d':=.ro (fldC d)) (τ:=(b18,.cells 147 (lnC r))::(c,.cells 145 (ckC x w (ab8 x) rm lm v))::(s++R)) rfl (fun h=>by cases h) (Vs.ptr (tb:=97) (zH _)) ?_;refine aj5 (i:=18) (d:=.v (.pointer (some ⟨b18,0,none⟩))) (d':=.ro (lnC r)) (τ:=(c,.cells 145 (ckC x w (ab8 x) rm lm v))::(s++R)) rfl (fun h=>by cases h) (Vs.ptr (tb:=147) (zH _)) ?_;refine aa5 mixed aa0 (γ:=Nat × Value × aa1) (fun g=>[(159,iD g.1)]) (fun g=>(c,.cells 145 (ckC x w (ab8 x) rm lm g.2.1))::(g.2.2++R)) (fun g=>g.1<=lu.length/\RowIs 135 4 ((L1++L2++L3++upTo g.1 (degP x w r)).map prbC) g.2.1 g.2.2) (fun g=>lu.length-g.1) (0,v,s) (aa2 cl2) (Sc.refl _) ⟨zW _,by simpa [upTo] using hrow⟩ ?_;clear hrow;rintro⟨j,v,s⟩ ⟨hj,hrow⟩;simp only at hj hrow ⊢;by_cases hjl:j<lu.length
     ·obtain⟨b0,cap0,cs0,u,t,τ,e0,p0,c0,hu,_⟩:=RowsOf.at hRW (aG1 (f:=r.field) l hjl);rw [ay0] at e0
      cases e0
      obtain⟨a1,ca1,rfl⟩:=RowIs.slice hu;rw [zL] at c0;have hlen5:=ad2 (bs9 x w r) j;have hSJ:=ad5 j (degP x w r);have hdeg:degE w r j=(idxs l r.field j).length:=by rw [br6];unfold degE;rw [aa8 hl]
      have hfa:fieldAt x r.kind r.field=some d:=by rw [af8 (by omega) (by omega) (by simpa using hkd)];simpa using hd
      have hJP:degP x w r j=one r.kind j r.field (if ((idxs l r.field j).length:Int)<d.lo\/d.hi<((idxs l r.field j).length:Int) then 11 else 0):=by unfold degP;rw [hfa,hdeg]
      rw [hJP] at hSJ;generalize (idxs l r.field j).length=m at *;have mo:(b0,Blk.cells 22 cs0)∈R:=by rw [hR];exact yQ _ (yQ _ (hpa.mem_iff.2 (xK _ (p0.mem_iff.2 yN))))
      have lds:∀ z:Nat × Blk,(b0,Blk.cells 22 cs0)∈z::(s++R):=fun z=>yQ _ (yW _ mo);by_cases h1:(m:Int)<d.lo
      ·rw [if_pos (.inl h1)] at hSJ
       repeat' first|refine sq1 ?_|intro b;conv=>whnf
       refine Ld.cellm (tb:=22) (cs:=cs0) (lds _) (by rw [ix1];exact c0) ?_
       ((repeat' (first|refine sq1 ?_|intro b;conv=>whnf));(refine ak3 mixed aa0 rfl [0,1,2,3,4,5,6,7,8,9,10,11,12,13,14,15,16,17,18,19] 1 (inE [20]) (.one 20 .done) (γ:=Value × aa1) (fun _=>[]) (fun g=>(c,.cells 145 (ckC x w (ab8 x) rm lm g.1))::(g.2++R)) (fun g=>RowIs 135 4 ((L1++L2++L3++upTo (j+1) (degP x w r)).map prbC) g.1 g.2) (by decide +kernel) ?_ ?_))
       ·repeat' first|refine sq1 ?_|intro b;conv=>whnf
        (refine pA6 (aQ8 x w (ab8 x) rm lm c _ _ _ _ _ _ _ hrow (by (try simp only [zI]);omega)) (zH _) (fun s'=>s'++_) (fun s'=>zH _) ?_;rintro _ _ ⟨v',s',rfl,rfl,hr'⟩)
        repeat' first|refine sq1 ?_|intro b;conv=>whnf
        exact⟨(v',s'),(aa2 cl2),Sc.refl _,by rw [hSJ,← zV];exact hr'⟩
       ·rintro⟨v',s'⟩ hr'
        repeat' first|refine sq1 ?_|intro b;conv=>whnf
        exact⟨(j+1,v',s'),(aa2 cl2),Sc.refl _,⟨by simp only;omega,hr'⟩,by simp only;omega⟩
      ·by_cases h2:d.hi<(m:Int)
       ·rw [if_pos (.inr h2)] at hSJ
        repeat' first|refine sq1 ?_|intro b;conv=>whnf
        refine Ld.cellm (tb:=22) (cs:=cs0) (lds _) (by rw [ix1];exact c0) ?_
        ((repeat' (first|refine sq1 ?_|intro b;conv=>whnf));(refine ak3 mixed aa0 rfl [0,1,2,3,4,5,6,7,8,9,10,11,12,13,14,15,16,17,18,19] 1 (inE [20]) (.one 20 .done) (γ:=Value × aa1) (fun _=>[]) (fun g=>(c,.cells 145 (ckC x w (ab8 x) rm lm g.1))::(g.2++R)) (fun g=>RowIs 135 4 ((L1++L2++L3++upTo (j+1) (degP x w r)).map prbC) g.1 g.2) (by decide +kernel) ?_ ?_))
        ·repeat' first|refine sq1 ?_|intro b;conv=>whnf
         (refine pA6 (aQ8 x w (ab8 x) rm lm c _ _ _ _ _ _ _ hrow (by (try simp only [zI]);omega)) (zH _) (fun s'=>s'++_) (fun s'=>zH _) ?_;rintro _ _ ⟨v',s',rfl,rfl,hr'⟩)
         repeat' first|refine sq1 ?_|intro b;conv=>whnf
         exact⟨(v',s'),(aa2 cl2),Sc.refl _,by rw [hSJ,← zV];simpa [h2] using hr'⟩
        ·rintro⟨v',s'⟩ hr'
         repeat' first|refine sq1 ?_|intro b;conv=>whnf
         exact⟨(j+1,v',s'),(aa2 cl2),Sc.refl _,⟨by simp only;omega,hr'⟩,by simp only;omega⟩
       ·rw [if_neg (by omega)] at hSJ
        repeat' first|refine sq1 ?_|intro b;conv=>whnf
        refine Ld.cellm (tb:=22) (cs:=cs0) (lds _) (by rw [ix1];exact c0) ?_
        ((repeat' (first|refine sq1 ?_|intro b;conv=>whnf));(refine ak3 mixed aa0 rfl [0,1,2,3,4,5,6,7,8,9,10,11,12,13,14,15,16,17,18,19] 1 (inE [20]) (.one 20 .done) (γ:=Value × aa1) (fun _=>[]) (fun g=>(c,.cells 145 (ckC x w (ab8 x) rm lm g.1))::(g.2++R)) (fun g=>RowIs 135 4 ((L1++L2++L3++upTo (j+1) (degP x w r)).map prbC) g.1 g.2) (by decide +kernel) ?_ ?_))
        ·repeat' first|refine sq1 ?_|intro b;conv=>whnf
         (refine pA6 (aQ8 x w (ab8 x) rm lm c _ _ _ _ _ _ _ hrow (by (try simp only [zI]);omega)) (zH _) (fun s'=>s'++_) (fun s'=>zH _) ?_;rintro _ _ ⟨v',s',rfl,rfl,hr'⟩)
         repeat' first|refine sq1 ?_|intro b;conv=>whnf
         exact⟨(v',s'),(aa2 cl2),Sc.refl _,by rw [hSJ,← zV];simpa [h2] using hr'⟩
        ·rintro⟨v',s'⟩ hr'
         repeat' first|refine sq1 ?_|intro b;conv=>whnf
         exact⟨(j+1,v',s'),(aa2 cl2),Sc.refl _,⟨by simp only;omega,hr'⟩,by simp only;omega⟩
     ·obtain rfl:j=lu.length:=by omega
      repeat' first|refine sq0 ?_|intro b;conv=>whnf
      exact⟨(q+1,v,s),(aa2 cl2),Sc.refl _,⟨by simp only;omega,by rw [hSQ,← zV];exact hrow⟩,by simp only;omega⟩
    ·obtain rfl:q=(ab8 x).length:=by omega
     have hC:bh0 x w=L1++L2++upTo (ab8 x).length (aS4 x w):=by unfold bh0;rw [if_pos hfit,hL1,hL2]
     repeat' first|refine sq0 ?_|intro b;conv=>whnf
     rw [hC];exact Rt.vs (Vs.row hrow (τ:=(c,.cells 145 (ckC x w (ab8 x) rm lm v))::R) cl5)
end
section
open Go Go.Maps Go.MapKept
def wayE (x:Sch):Nat->List ByteArray->List (Nat × Nat)
 | _,[]=>[]
 | k,s::l=>(k,(aa4 (kdOf x k) s).toNat)::wayE x (ak2 x k s).toNat l
theorem aV9 (x:Sch):∀ (k:Nat) (l:List ByteArray),(wayE x k l).length=l.length
 | _,[]=>rfl
 | k,s::l=>by simp [wayE,aV9 x _ l]
theorem ax5 {x:Sch} {k:Nat} (h:k<x.kz.length):x.kz[k]?=some (kdOf x k):=by
 obtain⟨kd,hkd⟩:∃ kd,x.kz[k]?=some kd:=⟨_,zD h⟩
 rw [ax6 hkd];exact hkd
structure cy3 (x:Sch) (w:Wd) (l:List ByteArray) (ws:List (Nat × Nat)) (i:Nat) (q f:Nat) (nm:ByteArray) (g:Fld):Prop where
 way:ws[i]?=some (q,f)
 name:l[i]?=some nm
 kind:x.kz[q]?=some (kdOf x q)
 ix:aa4 (kdOf x q) nm=(f:Int)
 fld:(kdOf x q).fields[f]?=some g
 next:i+1<l.length->∃ u f',ws[i+1]?=some (u,f')/\g.kind=1/\upIx x q f=(u:Int)/\u<x.kz.length
 val:∀ r,endV x w q r (l.drop i)=match ws[i+1]? with|some p=>endV x w p.1 (aC8 w p.1 (r.getD f 0).toNat) (l.drop (i+1))|none=>r.getD f 0
theorem aM7 (x:Sch) (w:Wd):∀ (l:List ByteArray) (k:Nat),k<x.kz.length->af4 x k l=true->∀ i,i<l.length->∃ q f nm g,cy3 x w l (wayE x k l) i q f nm g
 | [],_,_,_,i,hi=>by simp at hi
 | [s],k,hk,h,i,hi=>by
  obtain rfl:i=0:=by simpa using hi
  have h1:0<=aa4 (kdOf x k) s:=by simpa [af4] using h
  obtain⟨f,g,e1,e2⟩:=ax9 (kd:=kdOf x k) (s:=s) (by omega);refine⟨k,f,s,g,⟨by simp [wayE,e1],rfl,ax5 hk,e1,e2,fun h=>by simp at h,fun r=>?_⟩⟩;simp [wayE,endV,vatR,e1]
 | s::t::l,k,hk,h,i,hi=>by
  simp only [af4,zJ,zQ] at h;obtain⟨h1,h2⟩:=h;have h3:=aL3 h1;obtain⟨u,hu⟩:∃ u:Nat,ak2 x k s=u:=⟨_,(xX h1).symm⟩
  rw [hu,Int.toNat_natCast] at h2;have hw:wayE x k (s::t::l)=(k,(aa4 (kdOf x k) s).toNat)::wayE x u (t::l):=by simp [wayE,hu]
  have hf:¬ aa4 (kdOf x k) s<0:=fun hf=>by rw [aH5 (ax5 hk) hf] at hu;omega
  obtain⟨f,g,e1,e2⟩:=ax9 hf;have hn:=aw0 (ax5 hk) e1 e2;have hg:g.kind=1:=by
   by_cases hg:g.kind=1
   ·exact hg
   ·rw [if_neg hg] at hn;omega
  rw [if_pos hg] at hn;rw [hw]
  cases i with
  | zero=>
   refine⟨k,f,s,g,⟨by simp [e1],rfl,ax5 hk,e1,e2,fun _=>⟨u,(aa4 (kdOf x u) t).toNat,by simp [wayE],hg,by rw [← hn,hu],by omega⟩,fun r=>?_⟩⟩;simp only [List.drop_zero,endV,hu,Int.toNat_natCast,vatR,e1];simp [wayE]
  | succ i=>
   obtain⟨q,f,nm,g,H⟩:=aM7 x w (t::l) u (by omega) h2 i (by simpa using hi);exact⟨q,f,nm,g,⟨by simpa using H.way,by simpa using H.name,H.kind,H.ix,H.fld,fun h=>H.next (by simpa using h),fun r=>by simpa using H.val r⟩⟩
def kdsW (ws:List (Nat × Nat)) (j:Nat):List Int:=(ws.take j).map fun q=>(q.1:Int)
def fldW (ws:List (Nat × Nat)) (j:Nat):List Int:=(ws.take j).map fun q=>(q.2:Int)
theorem bP2 (ws:List (Nat × Nat)) {j:Nat} (h:j<=ws.length):(kdsW ws j).length=j:=by simp [kdsW];omega
theorem bQ0 (ws:List (Nat × Nat)) {j:Nat} (h:j<=ws.length):(fldW ws j).length=j:=by simp [fldW];omega
theorem bF6 {ws:List (Nat × Nat)} {j q f:Nat} (h:ws[j]?=some (q,f)):kdsW ws (j+1)=kdsW ws j++[(q:Int)]:=by unfold kdsW;rw [xC,h];simp
theorem bH0 {ws:List (Nat × Nat)} {j q f:Nat} (h:ws[j]?=some (q,f)):fldW ws (j+1)=fldW ws j++[(f:Int)]:=by unfold fldW;rw [xC,h];simp
def sufV (x:Sch) (w:Wd) (k:Nat) (l:List ByteArray) (j:Nat):List Int:=match (wayE x k l)[j]? with
 | some p=>(w.getD p.1 []).map fun r=>endV x w p.1 r (l.drop j)
 | none=>[]
def endL (x:Sch) (w:Wd) (k:Nat) (l:List ByteArray):List Int:=(w.getD k []).map fun r=>endV x w k r l
theorem bB3 (x:Sch) (w:Wd) (k:Nat) (l:List ByteArray) (h:l≠[]):sufV x w k l 0=endL x w k l:=by
 cases l with
 | nil=>exact absurd rfl h
 | cons s l=>simp [sufV,wayE,endL]
theorem bP3 {ws:List (Nat × Nat)} {p:List ByteArray} (h:ws.length=p.length):kdsW ws p.length=ws.map fun q=>(q.1:Int):=by unfold kdsW;rw [yL (by omega)]
theorem bQ1 {ws:List (Nat × Nat)} {p:List ByteArray} (h:ws.length=p.length):fldW ws p.length=ws.map fun q=>(q.2:Int):=by unfold fldW;rw [yL (by omega)]
theorem bK8 (x:Sch) (w:Wd) (k:Nat) (l:List ByteArray):sufV x w k l l.length=[]:=by
 unfold sufV;rw [yY.2 (by rw [aV9];omega)]
theorem aH2 {x:Sch} {q f:Nat} {kd:Knd} {g:Fld} (hk:x.kz[q]?=some kd) (hf:kd.fields[f]?=some g) (h1:g.kind=1):(⟨q,f,upIx x q f,g.lo⟩:Rf)∈ab8 x:=by
 unfold ab8;refine aE6.2 ⟨q,(zE.1 hk).1,?_⟩;unfold refK;rw [hk];refine aE6.2 ⟨f,(zE.1 hf).1,?_⟩;unfold refF;rw [hf];simp [h1]
def endG (x:Sch) (w:Wd) (k:Nat) (G:Value->Option D):Prop:=∀ key d,G key=some d->∃ p,am2 p=true/\key = .string (aK4 p)/\d=slI (endL x w k p)
theorem bR0 {x:Sch} {w:Wd} {k:Nat} {G:Value->Option D} (h:endG x w k G) {p:List ByteArray} (hp:am2 p=true) {d:D} (hd:G (.string (aK4 p))=some d):d=slI (endL x w k p):=by
 obtain⟨q,h1,h2,h3⟩:=h _ _ hd;rw [h3,bP4 hp h1 (by simpa using h2)]
theorem bQ9 {x:Sch} {w:Wd} {k:Nat} {G:Value->Option D} (h:endG x w k G) {p:List ByteArray} (hp:am2 p=true):endG x w k (updG G (.string (aK4 p)) (slI (endL x w k p))):=by
 intro key d hd;unfold updG at hd;split at hd
 ·rename_i e
  cases hd
  exact⟨p,hp,e,rfl⟩
 ·exact h _ _ hd
def tbC (x:Sch) (w:Wd) (k bm:Nat):List D:=[iD x.vz,slK x.kz,slL x.lz,slR x.rules,slW w,iD k,.v (.map (some bm))]
theorem by6 (w:World):(zeroValue 22).run prog w = .ok (.slice none 0 0) w:=by kernel_rfl
theorem bV1 {w:World} {O:Nat->Prop}:Rd w O (slI []) (.slice none 0 0):=ai5 1 w O _ (.v _)
theorem aq1 {p:List ByteArray} (h:am2 p=true):p≠[]/\p.length<=4/\∀ s∈p,s.size<=12:=by
 unfold am2 at h;simp only [zJ,zQ,yA] at h;refine⟨fun e=>by rw [e] at h;simp at h,h.1.2,fun s hs=>?_⟩;have:=h.2 s hs;simp only [isNm,aa3,zJ,zQ] at this;omega
theorem bx2 {p:List ByteArray} (h:am2 p=true):(aK4 p).size<=2000000:=by
 obtain⟨_,h1,h2⟩:=aq1 h;have:=br4 p (by omega) fun s hs=>by have:=h2 s hs;omega
 exact this
theorem sk120 {A B:Prop} (k:B) (h:Hd7 B->A:=by intro q7;(first|refine sb0 ?_|refine sb1 ?_|(refine' cp7x ?hc ?_;(case hc=>first|exact aX3 _ hne (by omega) (fun s hs=>by have:=hsz s hs;omega)|exact ah0 _ _ (by omega)|exact ay8 _ _ _ (by omega) hnf)));exact q7.1):A:=h ⟨k⟩
theorem sk121 {A B:Prop} (k:B) (h:Hd7 B->A:=by intro q7;(first|refine sb0 ?_|refine sb65 ?_|(refine' cp7x ?hc ?_;(case hc=>first|exact aX3 _ hne (by omega) (fun s hs=>by have:=hsz s hs;omega)|exact ah0 _ _ (by omega)|exact ay8 _ _ _ (by omega) hnf)));exact q7.1):A:=h ⟨k⟩
theorem sk122 {A B:Prop} (k:B) (h:Hd7 B->A:=by intro q7;(first|refine sb0 ?_|refine sb1 ?_|(refine' cp7x ?hc ?_;(case hc=>first|exact HF|exact HU)));exact q7.1):A:=h ⟨k⟩
theorem sb123 {A B:Prop} (k:B) (h:Hd7 B->A:=by intro q7;(first|fail|(with_reducible refine Bx.l ?_)|refine u6x ?_|refine u4x ?_);exact q7.1):A:=h ⟨k⟩
theorem sk124 {A B:Prop} (k:B) (h:Hd7 B->A:=by intro q7;(first|refine sb0 ?_|refine sb123 ?_|(refine' cp7x ?hc ?_;(case hc=>first|exact HF|exact HU)));exact q7.1):A:=h ⟨k⟩
theorem cl28 {p:Prop} (h:p:=by repeat (first|exact Chk.nil|refine Chk.cons rfl ?_|(refine Chk.cons (zM (fun n=>some (iD n)) ?h) ?_;(case h=>(first|omega|(simp only [zL];done)|((try simp only [zL,zR,zI,List.length_cons,List.length_nil,zY,Nat.reduceAdd]);omega)))))):p:=h
theorem bc3 (x:Sch) (w:Wd) (hw:Ws w) (hp:aj9 x=[]) (hfit:fitW x w=true) (k:Nat) (hk:k<x.kz.length) (p:List ByteArray) (hpb:am2 p=true) (hld:af4 x k p=true) (bm:Nat) (G:Value->Option D) (hG:endG x w k G) :
  ACall prog 63 [.ro (tbC x w k bm),slS p] [(bm,Blk.mp prog 9 G)] (fun d σ'=>∃ G',d=slI (endL x w k p)/\σ'=[(bm,.mp prog 9 G')]/\endG x w k G'):=by
 obtain⟨hne,hpl,hsz⟩:=aq1 hpb;have hjs:=bx2 hpb;have hV:=(aN2 hp).vld;have hnk:=hV.nk;have hnf:∀ k∈x.kz,k.fields.length<=1000000:=fun k hk=>by have:=hV.nf k hk;omega
 have hwl:=hw.nk;obtain⟨hlen,hrows,hrefs⟩:=an0 hfit;have hway:=aM7 x w p k hk hld;have hwn:=aV9 x k p;refine eC7 func63 ntmps63 fun BB=>?_
 repeat' first|refine sk120 ?_|intro b;conv=>whnf
 cases hget:G (.string (aK4 p)) with
 | some d=>
  obtain rfl:=bR0 hG hpb hget
  (refine OtE.yd rfl (aI6 (kv:=.string (aK4 p)) (z:=.slice none 0 0) (zd:=slI []) (slI (if true=true then endL x w k p else [])) true rfl rfl (KeyD.v _) yN (string_keyed underlying9) underlying127 by6 (fun _ _=>bV1) (vB underlying9 (by unfold maxLen;omega)) (by rw [hget];rfl) (by rw [hget];rfl)) ?_)
  repeat' first|refine sk120 ?_|intro b;conv=>whnf
  exact Rt.same ⟨G,rfl,rfl,hG⟩
 | none=>
  (refine OtE.yd rfl (aI6 (kv:=.string (aK4 p)) (z:=.slice none 0 0) (zd:=slI []) (slI (if false=true then endL x w k p else [])) false rfl rfl (KeyD.v _) yN (string_keyed underlying9) underlying127 by6 (fun _ _=>bV1) (vB underlying9 (by unfold maxLen;omega)) (by rw [hget];rfl) (by rw [hget];rfl)) ?_)
  repeat' first|refine sk121 ?_|intro b;conv=>whnf
  refine Bx.r ?_;refine pA9 aa0 rfl rfl rfl rfl rfl rfl rfl rfl rfl rfl (by decide) (fun b0=>?_)
  repeat' first|refine sk120 ?_|intro b;conv=>whnf
  refine aa5 mixed aa0 (γ:=Nat × Int × Value × aa1 × Value × aa1) (fun g=>[(8,.v g.2.2.1),(9,.v g.2.2.2.2.1),(41,iD g.1)]) (fun g=>g.2.2.2.1++(g.2.2.2.2.2++[(bm,Blk.mp prog 9 G)])) (fun g=>g.1<=p.length/\RowR 3 iD (kdsW (wayE x k p) g.1++[g.2.1]) g.2.2.1 g.2.2.2.1/\RowR 3 iD (fldW (wayE x k p) g.1) g.2.2.2.2.1 g.2.2.2.2.2/\(∀ q,(wayE x k p)[g.1]?=some q->g.2.1=(q.1:Int))) (fun g=>p.length-g.1) (0,(k:Int),.slice (some ⟨b0,0,none⟩) 1 1,[(b0,.cells 3 [iD k])],.slice (some ⟨b,0,none⟩) 0 0,[]) (aa2 cl2) (Sc.refl _) ⟨zW _,aH1 (xs:=[[iD k]]) b0 (by simp) (by unfold maxLen;simp),RowIs.e0 _ _ _,fun q h=>?_⟩ ?_
  ·cases p with
   | nil=>exact absurd rfl hne
   | cons s p=>simp [wayE] at h;rw [← h]
  rintro⟨i,u,v8,s8,v9,s9⟩ ⟨hi,h8,h9,hu⟩;simp only at hi h8 h9 hu ⊢;have hkl:=bP2 (wayE x k p) (j:=i) (by omega);have hfl:=bQ0 (wayE x k p) (j:=i) (by omega);by_cases hil:i<p.length
  ·obtain⟨q,f,nm,g,H⟩:=hway i hil;obtain rfl:=hu _ H.way;have hkd:=H.kind;have hkd':x.kz[((q:Nat):Int).toNat]?=some (kdOf x q):=hkd;have hkf:=hnf _ (zG hkd);have hnm:=H.name;have hnm':p[((i:Nat):Int).toNat]?=some nm:=hnm;have HF:=ah0 (kdOf x q) nm (by omega);rw [H.ix] at HF;have HU:=ay8 x q f (by omega) hnf;have hks:=bF6 H.way;have hfs:=bH0 H.way;generalize kdOf x q=kd at *;obtain⟨b8,cap8,cs8,e8,rfl,hc8,_⟩:=al9 h8 (i:=i) (b:=(q:Int)) (by rw [yK (by omega),hkl,wH];rfl);subst e8
   repeat' first|refine sk122 ?_|intro b;conv=>whnf
   refine Ld.cellm (tb:=3) (cs:=cs8) (by simp) (by rw [ix1];exact hc8) ?_
   repeat' first|refine sk122 ?_|intro b;conv=>whnf
   refine Ap.go rfl rfl rfl rfl h9 (τ:=[(b8,.cells 3 cs8),(bm,Blk.mp prog 9 G)]) cl7 rfl (zs:=(fldW (wayE x k p) (i+1)).map fun b=>[iD b]) (by rw [hfs,yB];rfl) (by rw [hfs];simp;omega) (by rw [hfs];simp;omega) (fun s'=>s'++[(b8,.cells 3 cs8),(bm,Blk.mp prog 9 G)]) (fun s'=>zH _) (fun a9 c9 s9' h9'=>?_)
   repeat' first|refine sk122 ?_|intro b;conv=>whnf
   refine Ap.go rfl rfl rfl rfl h8 (τ:=s9'++[(bm,Blk.mp prog 9 G)]) cl7 rfl (zs:=(kdsW (wayE x k p) (i+1)++[upIx x q f]).map fun b=>[iD b]) (by rw [hks];simp) (by rw [hks];simp;omega) (by rw [hks];simp;omega) (fun s'=>s'++(s9'++[(bm,Blk.mp prog 9 G)])) (fun s'=>zH _) (fun a8 c8 s8' h8'=>?_)
   repeat' first|refine sk122 ?_|intro b;conv=>whnf
   refine⟨(i+1,upIx x q f,_,s8',_,s9'),(aa2 cl2),Sc.refl _,⟨by simp only;omega,h8',h9',fun r hr=>?_⟩,by simp only;omega⟩;simp only at hr ⊢;have hlt:=(zE.1 hr).1;obtain⟨u,f',h1,_,h3,_⟩:=H.next (by omega)
   cases h1.symm.trans hr
   exact h3
  ·obtain rfl:i=p.length:=by omega
   rw [bP3 hwn] at h8;rw [bQ1 hwn] at h9
   repeat' first|refine sk122 ?_|intro b;conv=>whnf
   refine aj5 (i:=8) (d:=.v v8) (d':=slI ((wayE x k p).map (fun q=>(q.1:Int))++[u])) (τ:=s9++[(bm,Blk.mp prog 9 G)]) rfl (fun h=>by cases h) (Vs.row h8 (zH _)) ?_;refine aj5 (i:=9) (d:=.v v9) (d':=slI ((wayE x k p).map fun q=>(q.2:Int))) (τ:=[(bm,Blk.mp prog 9 G)]) rfl (fun h=>by cases h) (Vs.row h9 (zH _)) ?_;clear h8 h9 hu hkl hfl;refine aa5 mixed aa0 (γ:=Nat × Value × aa1) (fun g=>[(14,.v g.2.1),(15,iD ((g.1:Int)-1))]) (fun g=>g.2.2++[(bm,Blk.mp prog 9 G)]) (fun g=>g.1<=p.length/\RowR 3 iD (sufV x w k p g.1) g.2.1 g.2.2) (fun g=>g.1) (p.length,.slice none 0 0,[]) (aa2 cl28) (Sc.refl _) ⟨zT _,by rw [bK8];exact RowIs.nil _ _⟩ ?_;rintro⟨j,v,s⟩ ⟨hj,hrow⟩;simp only at hj hrow ⊢;rcases j with _|i
   ·rw [bB3 x w k p hne] at hrow
    repeat' first|refine sk124 ?_|intro b;conv=>whnf
    refine Bc.j ?_;refine aj5 (i:=14) (d:=.v v) (d':=slI (endL x w k p)) (τ:=[(bm,Blk.mp prog 9 G)]) rfl (fun h=>by cases h) (Vs.row hrow (zH _)) ?_;refine ar5 mixed aa0 ?_
    repeat' first|refine sk122 ?_|intro b;conv=>whnf
    refine OtE.mapUpdateM (d:=slI (endL x w k p)) (b:=bm) (k:=9) (e:=22) (kv:=.string (aK4 p)) (τ:=[]) rfl rfl (KeyD.v _) rfl (zH _) (string_keyed underlying9) underlying127 (vB underlying9 (by unfold maxLen;omega)) ?_
    repeat' first|refine sk122 ?_|intro b;conv=>whnf
    exact Rt.same ⟨_,rfl,rfl,bQ9 hG hpb⟩
   ·obtain⟨q,f,nm,g,H⟩:=hway i (by omega);rw [show (((i+1:Nat):Int)-1)=(i:Int) by omega];have hK:((wayE x k p).map (fun q=>(q.1:Int))++[u])[((i:Nat):Int).toNat]?=some (q:Int):=by
     rw [Int.toNat_natCast,yP (by rw [zL];omega),zP,H.way];rfl
    have hF:((wayE x k p).map fun q=>(q.2:Int))[((i:Nat):Int).toNat]?=some (f:Int):=by
     rw [Int.toNat_natCast,zP,H.way];rfl
    have hql:=(zE.1 H.kind).1;obtain⟨l,hl⟩:∃ l,w[q]?=some l:=⟨_,zD (by omega)⟩
    have hl':w[((q:Nat):Int).toNat]?=some l:=hl;have hll:=hw.nr l (zG hl);have hrr:=ao3 (hrows _ _ hl);have hsuf:sufV x w k p i=l.map fun r=>endV x w q r (p.drop i):=by unfold sufV;rw [H.way];show List.map _ (w.getD q [])=_;rw [aa8 hl]
    repeat' first|refine sk122 ?_|intro b;conv=>whnf
    refine aa5 mixed aa0 (γ:=Nat × Value × aa1) (fun g=>[(16,.v g.2.1),(93,iD g.1)]) (fun g=>g.2.2++(s++[(bm,Blk.mp prog 9 G)])) (fun g=>g.1<=l.length/\RowR 3 iD ((l.take g.1).map fun r=>endV x w q r (p.drop i)) g.2.1 g.2.2) (fun g=>l.length-g.1) (0,.slice none 0 0,[]) (aa2 cl2) (Sc.refl _) ⟨zW _,RowIs.nil _ _⟩ ?_;rintro⟨n,v2,s2⟩ ⟨hn,h2⟩;simp only at hn h2 ⊢;by_cases hnl:n<l.length
    ·obtain⟨r,hr⟩:∃ r,l[n]?=some r:=⟨_,zD hnl⟩
     have hr':l[((n:Nat):Int).toNat]?=some r:=hr;have hrm:=zG hr;have hrl:=(av0 H.kind (hrr.2 r hrm)).1;have hfl:=(zE.1 H.fld).1;have hkfl:=hnf _ (zG H.kind);obtain⟨z,hz⟩:∃ z,r[f]?=some z:=⟨_,zD (by omega)⟩
     have hz':r[((f:Nat):Int).toNat]?=some z:=hz;have hrd:=aa8 hz 0;have hval:=H.val r;rw [hrd] at hval;have htk:(l.take (n+1)).map (fun r=>endV x w q r (p.drop i))=(l.take n).map (fun r=>endV x w q r (p.drop i))++[endV x w q r (p.drop i)]:=by rw [af7 hr,yB];rfl
     by_cases hlast:i+1<p.length
     ·obtain⟨u2,f2,e1,e2,e3,e4⟩:=H.next hlast
      obtain⟨lu,hlu⟩:∃ l,w[u2]?=some l:=⟨_,zD (by omega)⟩
      have hrf:(⟨q,f,upIx x q f,g.lo⟩:Rf)∈ab8 x:=aH2 H.kind H.fld e2;have hok:=hrefs _ hrf l hl r hrm;unfold refOk at hok;simp only [e3,Int.toNat_natCast] at hok;rw [aa8 hlu,hrd] at hok;simp only [xJ,wA,xF] at hok;obtain⟨zn,rfl⟩:∃ zn:Nat,z=zn:=⟨z.toNat,by omega⟩
      obtain⟨r2,hr2⟩:∃ r2,lu[zn]?=some r2:=⟨_,zD (by omega)⟩
      have hrec:aC8 w u2 zn=r2:=by unfold aC8;rw [aa8 hlu,aa8 hr2]
      rw [e1] at hval;simp only [Int.toNat_natCast] at hval;rw [hrec] at hval;have hsu:sufV x w k p (i+1)=lu.map fun r=>endV x w u2 r (p.drop (i+1)):=by unfold sufV;rw [e1];show List.map _ (w.getD u2 [])=_;rw [aa8 hlu]
      rw [hsu] at hrow;rw [hval] at htk;obtain⟨b4,cap4,cs4,e8,rfl,hc4,_⟩:=al9 hrow (i:=zn) (b:=endV x w u2 r2 (p.drop (i+1))) (by rw [zP,hr2];rfl);subst e8;rw [zL] at *;generalize endV x w u2 r2 (p.drop (i+1))=e at *
      repeat' first|refine sk122 ?_|intro b;conv=>whnf
      refine Ld.cellm (tb:=3) (cs:=cs4) (by simp) (by rw [ix1];exact hc4) ?_
      repeat' first|refine sk122 ?_|intro b;conv=>whnf
      refine Ap.go rfl rfl rfl rfl h2 (τ:=[(b4,.cells 3 cs4)]++[(bm,Blk.mp prog 9 G)]) (zH _) rfl (zs:=((l.take (n+1)).map fun r=>endV x w q r (p.drop i)).map fun b=>[iD b]) (by rw [htk];simp) (by rw [htk];simp;omega) (by rw [htk];simp;omega) (fun s'=>s'++([(b4,.cells 3 cs4)]++[(bm,Blk.mp prog 9 G)])) (fun s'=>zH _) (fun a3 c3 s3 h3=>?_)
      repeat' first|refine sk122 ?_|intro b;conv=>whnf
      exact⟨(n+1,_,s3),(aa2 cl2),Sc.refl _,⟨by simp only;omega,h3⟩,by simp only;omega⟩
     ·have e1:(wayE x k p)[i+1]?=none:=yY.2 (by omega);rw [e1] at hval;simp only at hval;rw [hval] at htk
      repeat' first|refine sk122 ?_|intro b;conv=>whnf
      refine Ap.go rfl rfl rfl rfl h2 (τ:=s++[(bm,Blk.mp prog 9 G)]) (zH _) rfl (zs:=((l.take (n+1)).map fun r=>endV x w q r (p.drop i)).map fun b=>[iD b]) (by rw [htk];simp) (by rw [htk];simp;omega) (by rw [htk];simp;omega) (fun s'=>s'++(s++[(bm,Blk.mp prog 9 G)])) (fun s'=>zH _) (fun a3 c3 s3 h3=>?_)
      repeat' first|refine sk122 ?_|intro b;conv=>whnf
      exact⟨(n+1,_,s3),(aa2 cl2),Sc.refl _,⟨by simp only;omega,h3⟩,by simp only;omega⟩
    ·obtain rfl:n=l.length:=by omega
     rw [yM,← hsuf] at h2
     repeat' first|refine sk122 ?_|intro b;conv=>whnf
     exact⟨(i,v2,s2),(aa2 cl28),Sc.drop (ρ:=s) cl7,⟨by simp only;omega,h2⟩,by simp only;omega⟩
end
section
open Go Go.Maps Go.MapKept
theorem cr9 (a b:List Int) (c:Cnd) (i:Nat) (u v:Int) (ha:a[i]?=some u) (hb:b[i]?=some v) (hn:InR (v+c.n)):APure prog 111 [iD i,.ro [slI a],.ro [slI b],.ro (cndC c)] (bD (decide (u=v+c.n))):=by
 have hi1:=(zE.1 ha).1;have hi2:=(zE.1 hb).1;have ha':a[((i:Nat):Int).toNat]?=some u:=ha;have hb':b[((i:Nat):Int).toNat]?=some v:=hb;refine eP7 func111 ntmps111 fun BB=>?_
 repeat' first|refine sk2 ?_|intro b;conv=>whnf
 refine Rt.pure (zM bD ?_);rfl
theorem br7 (a b:List Int) (c:Cnd) (i:Nat) (u v:Int) (ha:a[i]?=some u) (hb:b[i]?=some v) (hn:InR (v+c.n)):APure prog 112 [iD i,.ro [slI a],.ro [slI b],.ro (cndC c)] (bD (decide (u<v+c.n))):=by
 have hi1:=(zE.1 ha).1;have hi2:=(zE.1 hb).1;have ha':a[((i:Nat):Int).toNat]?=some u:=ha;have hb':b[((i:Nat):Int).toNat]?=some v:=hb;refine eP7 func112 ntmps112 fun BB=>?_
 repeat' first|refine sk2 ?_|intro b;conv=>whnf
 refine Rt.pure (zM bD ?_);rfl
theorem cr8 (a:List Bool) (s:Sb) (i:Nat) (u:Bool) (hs:s[0]?=some a) (ha:a[i]?=some u):APure prog 113 [iD i,.ro [slS2 s]] (bD (!u)):=by
 have hs':s[(0:Int).toNat]?=some a:=hs;have ha':a[((i:Nat):Int).toNat]?=some u:=ha;refine eP7 func113 ntmps113 fun BB=>?_
 repeat' first|refine sk2 ?_|intro b;conv=>whnf
 refine Rt.pure (zM bD ?_);rfl
theorem cs7 (a b:List Bool) (s:Sb) (i:Nat) (u v:Bool) (hs:s[0]?=some a) (hs1:s[1]?=some b) (ha:a[i]?=some u) (hb:b[i]?=some v):APure prog 114 [iD i,.ro [slS2 s]] (bD (u&&v)):=by
 have hs':s[(0:Int).toNat]?=some a:=hs;have hs1':s[(1:Int).toNat]?=some b:=hs1;have ha':a[((i:Nat):Int).toNat]?=some u:=ha;have hb':b[((i:Nat):Int).toNat]?=some v:=hb;refine eP7 func114 ntmps114 fun BB=>?_
 cases u
 ·repeat' first|refine sk2 ?_|intro b;conv=>whnf
  refine Rt.pure (zM bD ?_);rfl
 ·repeat' first|refine sk2 ?_|intro b;conv=>whnf
  refine Rt.pure (zM bD ?_);simp
theorem cx3 (a b:List Bool) (s:Sb) (i:Nat) (u v:Bool) (hs:s[0]?=some a) (hs1:s[1]?=some b) (ha:a[i]?=some u) (hb:b[i]?=some v):APure prog 115 [iD i,.ro [slS2 s]] (bD (u||v)):=by
 have hs':s[(0:Int).toNat]?=some a:=hs;have hs1':s[(1:Int).toNat]?=some b:=hs1;have ha':a[((i:Nat):Int).toNat]?=some u:=ha;have hb':b[((i:Nat):Int).toNat]?=some v:=hb;refine eP7 func115 ntmps115 fun BB=>?_
 cases u
 ·repeat' first|refine sk2 ?_|intro b;conv=>whnf
  refine Rt.pure (zM bD ?_);simp
 ·repeat' first|refine sk2 ?_|intro b;conv=>whnf
  refine Rt.pure (zM bD ?_);rfl
theorem ct0 (i:Nat):APure prog 116 [iD i] (bD true):=by
 refine eP7 func116 ntmps116 fun BB=>?_
 repeat' first|refine sk2 ?_|intro b;conv=>whnf
 refine Rt.pure (zM bD ?_);rfl
def setE (n:Nat) (p:Nat->Bool) (j:Nat):List Bool:=(List.range j).map p++List.replicate (n-j) false
theorem aN6 (n:Nat) (p:Nat->Bool):setE n p 0=List.replicate n false:=by simp [setE]
theorem aN7 (n:Nat) (p:Nat->Bool):setE n p n=(List.range n).map p:=by simp [setE]
theorem aX7 {n j:Nat} (p:Nat->Bool) (h:j<n):(setE n p j)[j]?=some false:=by
 unfold setE;rw [yK (by simp),zL,vU,wH,wF,if_pos (by omega)]
theorem aX6 {n j:Nat} (p:Nat->Bool) (h:j<n):(setE n p j).set j (p j)=setE n p (j+1):=by
 unfold setE;rw [List.range_succ,yB,zV,List.set_append_right _ _ (by simp)]
 congr 1
 rw [zL,vU,wH,show n-j=n-(j+1)+1 by omega,List.replicate_succ]
 rfl
theorem sk125 {A B:Prop} (k:B) (h:Hd7 B->A:=by intro q7;(first|refine sb0 ?_|refine sb1 ?_|(refine' cp7x ?hc ?_;(case hc=>exact HP)));exact q7.1):A:=h ⟨k⟩
theorem bi6 {f:FuncId} {c1:List D} (n:Nat) (hn:n<=1000000) (p:Nat->Bool) (hp:∀ i,i<n->APure prog f [iD i,.ro c1] (bD (p i))) (b5:Nat) (v:Value) (s:aa1) (hr:RowR 4 bD (List.replicate n false) v s) :
  ACall prog 110 [.clo f [.ro c1],.v (.pointer (some ⟨b5,0,none⟩))] ((b5,.cells 130 [.v v])::s) (fun d σ'=>∃ v' s',d = .v v'/\σ'=(b5,.cells 130 [.v v'])::s'/\RowR 4 bD ((List.range n).map p) v' s'):=by
 obtain⟨a,cap,rfl⟩:=RowIs.slice hr;refine eC7 func110 ntmps110 fun BB=>?_
 repeat' first|refine sk125 ?_|intro b;conv=>whnf
 refine aa5 mixed aa0 (γ:=Nat × aa1) (fun g=>[(7,iD g.1)]) (fun g=>(b5,.cells 130 [.v (.slice a ((List.replicate n false).map fun b=>[bD b]).length cap)])::g.2) (fun g=>g.1<=n/\RowR 4 bD (setE n p g.1) (.slice a ((List.replicate n false).map fun b=>[bD b]).length cap) g.2) (fun g=>n-g.1) (0,s) (aa2 cl2) (Sc.refl _) ⟨zW _,by rw [aN6];exact hr⟩ ?_;rintro⟨j,s⟩ ⟨hj,h⟩;simp only at hj h ⊢;rw [zL,zY] at *;by_cases hjn:j<n
 ·have HP:=hp j hjn;have hset:=aX6 p hjn;obtain⟨b6,cap6,cs6,e6,rfl,hc6,hw6⟩:=al9 h (aX7 p hjn);obtain⟨rfl,_,rfl⟩:=Value.slice.inj e6;clear e6;have hw:=hw6 (p j);rw [hset] at hw
  repeat' first|refine sk125 ?_|intro b;conv=>whnf
  refine Sv.cellm (tb:=4) (cs:=cs6) (cs':=cs6.set j (bD (p j))) (τ:=[(b5,.cells 130 [.v (.slice (some ⟨b6,0,none⟩) n cap)])]) (List.Perm.swap _ _ _) (by rw [ix1];exact (zE.1 hc6).1) rfl (by rw [ix1]) ?_
  repeat' first|refine sk125 ?_|intro b;conv=>whnf
  exact⟨(j+1,[(b6,.cells 4 (cs6.set j (bD (p j))))]),(aa2 cl2),Sc.perm (List.Perm.swap _ _ _),⟨by simp only;omega,hw⟩,by simp only;omega⟩
 ·obtain rfl:j=n:=by omega
  rw [aN7] at h
  repeat' first|refine sk125 ?_|intro b;conv=>whnf
  exact Rt.same ⟨_,_,rfl,rfl,h⟩
theorem aW8 {f:FuncId} {c1 c2 c3:List D} (n:Nat) (hn:n<=1000000) (p:Nat->Bool) (hp:∀ i,i<n->APure prog f [iD i,.ro c1,.ro c2,.ro c3] (bD (p i))) (b5:Nat) (v:Value) (s:aa1) (hr:RowR 4 bD (List.replicate n false) v s) :
  ACall prog 110 [.clo f [.ro c1,.ro c2,.ro c3],.v (.pointer (some ⟨b5,0,none⟩))] ((b5,.cells 130 [.v v])::s) (fun d σ'=>∃ v' s',d = .v v'/\σ'=(b5,.cells 130 [.v v'])::s'/\RowR 4 bD ((List.range n).map p) v' s'):=by
 obtain⟨a,cap,rfl⟩:=RowIs.slice hr;refine eC7 func110 ntmps110 fun BB=>?_
 repeat' first|refine sk125 ?_|intro b;conv=>whnf
 refine aa5 mixed aa0 (γ:=Nat × aa1) (fun g=>[(7,iD g.1)]) (fun g=>(b5,.cells 130 [.v (.slice a ((List.replicate n false).map fun b=>[bD b]).length cap)])::g.2) (fun g=>g.1<=n/\RowR 4 bD (setE n p g.1) (.slice a ((List.replicate n false).map fun b=>[bD b]).length cap) g.2) (fun g=>n-g.1) (0,s) (aa2 cl2) (Sc.refl _) ⟨zW _,by rw [aN6];exact hr⟩ ?_;rintro⟨j,s⟩ ⟨hj,h⟩;simp only at hj h ⊢;rw [zL,zY] at *;by_cases hjn:j<n
 ·have HP:=hp j hjn;have hset:=aX6 p hjn;obtain⟨b6,cap6,cs6,e6,rfl,hc6,hw6⟩:=al9 h (aX7 p hjn);obtain⟨rfl,_,rfl⟩:=Value.slice.inj e6;clear e6;have hw:=hw6 (p j);rw [hset] at hw
  repeat' first|refine sk125 ?_|intro b;conv=>whnf
  refine Sv.cellm (tb:=4) (cs:=cs6) (cs':=cs6.set j (bD (p j))) (τ:=[(b5,.cells 130 [.v (.slice (some ⟨b6,0,none⟩) n cap)])]) (List.Perm.swap _ _ _) (by rw [ix1];exact (zE.1 hc6).1) rfl (by rw [ix1]) ?_
  repeat' first|refine sk125 ?_|intro b;conv=>whnf
  exact⟨(j+1,[(b6,.cells 4 (cs6.set j (bD (p j))))]),(aa2 cl2),Sc.perm (List.Perm.swap _ _ _),⟨by simp only;omega,hw⟩,by simp only;omega⟩
 ·obtain rfl:j=n:=by omega
  rw [aN7] at h
  repeat' first|refine sk125 ?_|intro b;conv=>whnf
  exact Rt.same ⟨_,_,rfl,rfl,h⟩
theorem ca7 {f:FuncId} (n:Nat) (hn:n<=1000000) (p:Nat->Bool) (hp:∀ i,i<n->APure prog f [iD i] (bD (p i))) (b5:Nat) (v:Value) (s:aa1) (hr:RowR 4 bD (List.replicate n false) v s) :
  ACall prog 110 [.v (.func (.func f) #[] #[]),.v (.pointer (some ⟨b5,0,none⟩))] ((b5,.cells 130 [.v v])::s) (fun d σ'=>∃ v' s',d = .v v'/\σ'=(b5,.cells 130 [.v v'])::s'/\RowR 4 bD ((List.range n).map p) v' s'):=by
 obtain⟨a,cap,rfl⟩:=RowIs.slice hr;refine eC7 func110 ntmps110 fun BB=>?_
 repeat' first|refine sk125 ?_|intro b;conv=>whnf
 refine aa5 mixed aa0 (γ:=Nat × aa1) (fun g=>[(7,iD g.1)]) (fun g=>(b5,.cells 130 [.v (.slice a ((List.replicate n false).map fun b=>[bD b]).length cap)])::g.2) (fun g=>g.1<=n/\RowR 4 bD (setE n p g.1) (.slice a ((List.replicate n false).map fun b=>[bD b]).length cap) g.2) (fun g=>n-g.1) (0,s) (aa2 cl2) (Sc.refl _) ⟨zW _,by rw [aN6];exact hr⟩ ?_;rintro⟨j,s⟩ ⟨hj,h⟩;simp only at hj h ⊢;rw [zL,zY] at *;by_cases hjn:j<n
 ·have HP:=hp j hjn;have hset:=aX6 p hjn;obtain⟨b6,cap6,cs6,e6,rfl,hc6,hw6⟩:=al9 h (aX7 p hjn);obtain⟨rfl,_,rfl⟩:=Value.slice.inj e6;clear e6;have hw:=hw6 (p j);rw [hset] at hw
  repeat' first|refine sk125 ?_|intro b;conv=>whnf
  refine Sv.cellm (tb:=4) (cs:=cs6) (cs':=cs6.set j (bD (p j))) (τ:=[(b5,.cells 130 [.v (.slice (some ⟨b6,0,none⟩) n cap)])]) (List.Perm.swap _ _ _) (by rw [ix1];exact (zE.1 hc6).1) rfl (by rw [ix1]) ?_
  repeat' first|refine sk125 ?_|intro b;conv=>whnf
  exact⟨(j+1,[(b6,.cells 4 (cs6.set j (bD (p j))))]),(aa2 cl2),Sc.perm (List.Perm.swap _ _ _),⟨by simp only;omega,hw⟩,by simp only;omega⟩
 ·obtain rfl:j=n:=by omega
  rw [aN7] at h
  repeat' first|refine sk125 ?_|intro b;conv=>whnf
  exact Rt.same ⟨_,_,rfl,rfl,h⟩
end
end Go.Proofs.YtlcfiilejnnlnaaGreatDoor
